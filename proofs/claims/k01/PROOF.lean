import PyProof.Rows.All
import Wide.All
import OpenK.AllK
import Wide.FinOn
import HandS.ForMost
import HandS.ForExc
import HandS.ExcField
import HandS.ExcIs
import HandS.ExcInit
import HandS.EndBits
import KE.KExcSuper
import HandS.TupSets
import KE.KExcIs
import HandS.Zip
import HandS.TupAny
import HandS.TupMul
import HandS.Flow
import HandS.TryOnly
import KE.GoesEnum
import HandS.IsInst
import HandS.Deep
import HandS.TupLe
import PySem.Challenge.RW_brackenway_k01_rules_of_maps
set_option Elab.async false
set_option linter.all false
set_option maxRecDepth 100000
set_option maxHeartbeats 4000000
/-! An own exception class whose __init__ says super().__init__(a), then stores its arguments. -/
namespace Ve
open PySem PySem.W PySem.Calls PyProof.Rows PySem.HandSPX
def eA (l : List (Str × Pos)) (p0 : Pos) : Arguments := { posonlyargs := [], args := { arg := "self", annotation := none, pos := p0 } :: l.map (fun p => { arg := p.1, annotation := none, pos := p.2 }), vararg := none, kwonlyargs := [], kw_defaults := [], kwarg := none, defaults := [] }
def eSup (a : Str) (q0 q1 q2 q3 q4 q5 : Pos) : Stmt := .Expr (.Call (.Attribute (.Call (.Name "super" q0) [] [] q1) "__init__" q2) [.Name a q3] [] q4) q5
def eSt (a : Str) (r0 r1 r2 r3 : Pos) : Stmt := .Assign [.Attribute (.Name "self" r0) a r1] (.Name a r2) r3
def eS (l : List Str) : Scope := { kind := .function, names := ((PySem.Str.ofString "self", NameKind.local) :: l.map (fun a => (a, NameKind.local))) ++ [(PySem.Str.ofString "__class__", NameKind.free), (PySem.Str.ofString "super", NameKind.globalImplicit)], isGenerator := false, isCoroutine := false, more := [] }
/-- what the written part says of the class at C, its __init__ at fI, the cell cc, the code cda -/
structure ErrT (K : Frag) (C : Addr) : Prop where
  cls : ∃ nm q N bs bm sn sub ab col dd k0 k1 k2 k3 k5, K.lookup C = some (excClassObj nm q C N bs bm true sn sub ab col dd k0 k1 k2 k3 k5 "ValueError.__new__") ∧ refsVE bm = true
  sa : findIn K (.ref C) "__setattr__" = some (some (.builtin "object.__setattr__"))
  kC : keepIn K (.ref C) = true
  exC : subIn K (.ref C) (.type "BaseException") = some true
  veC : subIn K (.ref C) (.type "ValueError") = some true
  tyC : typeIn K (.ref C) = some (.type "type")
  sup : ks_superIn K C C "__init__" = some (some (.builtin "ValueError.__init__"))
  opq : nsIn K cStatics "thirdparty.any" = some none
  slf : mroIn K C (.ref C) = some true
/-- its __init__ -/
structure ErrI (K : Frag) (file : Str) (C fI : Addr) (ps : Arguments) (body : List Stmt) (sc : Scope) : Prop where
  iC : findIn K (.ref C) "__init__" = some (some (.ref fI))
  tC : typeIn K (.ref fI) = some (.type "function")
  fn : ∃ (qual : Str) (oc : Value) (od : Option Addr) (doc pm kV : Value) (an : Option Addr) (ct : Value) (osl : Array (Option Value)) (cda cc : Addr) (ccl : Value) (cdd : Option Addr) (vs : Array Value) (ccs : Array (Option Value)) (tf : Tok) (cl : Value) (cld : Option Addr) (csl : Array (Option Value)),
    K.lookup fI = some ⟨oc, od, .func (ksFn "__init__" qual ps body sc .none kV doc pm an (.ref cda) ct cc), osl⟩ ∧ codeIn K (.ref cda) qual = true ∧
    K.lookup cda = some ⟨ccl, cdd, .fields vs, ccs⟩ ∧ vs[2]? = some (.str file tf) ∧ K.lookup cc = some ⟨cl, cld, .cell (some (.ref C)), csl⟩
/-- a module's globals and the built-ins, in a heap -/
structure GlOk (mg : Str → Option Value) (h : Heap) : Prop where
  g : h.Ns mainGlobals mg
  sup : mg "super" = none
  b : ∃ mb, h.Ns builtinsNs mb ∧ mb "super" = some (.type "super")
theorem GlOk.keeps {mg : Str → Option Value} {h h' : Heap} (x : GlOk mg h) (k : ∀ b o, h.get? b = some o → h'.get? b = some o) : GlOk mg h' := by
  obtain ⟨mb, b1, b2⟩ := x.b
  exact ⟨x.g.keeps k, x.sup, mb, b1.keeps k, b2⟩
structure InitEnd (h h' : Heap) (x C dx t1 : Addr) (m : Str → Option Value) : Prop where
  keep : ∀ b o, b ≠ x → h.get? b = some o → h'.get? b = some o
  obj : h'.get? x = some { cls := .ref C, dict := some dx, data := .fields #[.ref t1, .none, .none, .none, .bool false, .none] }
  dbig : h.objs.size ≤ dx
  dne : dx ≠ x
  ns : h'.Ns1 dx m
theorem kept_but {K : Frag} {h h' : Heap} {x : Addr} (X : K.In h) (hx : K.lookup x = none) (k : ∀ b o, b ≠ x → h.get? b = some o → h'.get? b = some o) : K.In h' := fun a o e =>
  k a o (fun z => by rw [z, hx] at e; cases e) (X a o e)
section
variable {prog : Program} {w : World} {A : Around} {E : Value → Shared → Prop} {R : Result → Shared → Prop} {K : Frag} {mg : Str → Option Value} {C fI : Addr}
/-- the wrapper is called -/
theorem wr_call {s : Shared} {u x t0 : Addr} {rest : List Value} {Q : Value → Shared → Prop} (T : ErrT K C) (X : K.In s.heap) (hx : s.heap.get? x = some (excO C t0)) (hu : s.heap.get? u = some (kxs_mw "ValueError.__init__" x)) (hz : rest.length ≤ sizeLine)
    (h : ∀ h' t1, (∀ b o, b ≠ x → s.heap.get? b = some o → h'.get? b = some o) → h'.get? x = some (excO C t1) → Q .none { s with heap := h' }) : wpAny (model prog w) A (call (.ref u) rest) Q E s := by
  obtain ⟨nm, q, N, bs, bm, sn, sub, ab, col, dd, k0, k1, k2, k3, k5, hC, hbm⟩ := T.cls
  obtain ⟨hh, g, d, tk, os⟩ := s
  refine wpAny_call (codeAny_of_tree ?_)
  show wpAny _ A.in1 (callAny (.ref u) ⟨rest, []⟩) _ _ _
  simp only [callAny]
  refine wpAny_bind (wpAny_load hu ?_)
  have e : (Value.type "method-wrapper" == Value.type "method" || Value.type "method-wrapper" == Value.type "builtin_function_or_method" || Value.type "method-wrapper" == Value.type "method-wrapper") = true := by decide
  simp only [kxs_mw, e, if_true]
  refine KFB.if_so (by decide) ?_
  refine wpAny_bind (check_bound_init F.excBase_ValueError.toExcCallFacts (X _ _ hC) hx rfl ?_)
  refine wpAny_bind (wpAny_pure (wpAny_pure ?_))
  refine ⟨plainId_quiet F.excBase_ValueError.init.plain _, codeAny_builtin F.excBase_ValueError.initEntry ?_⟩
  exact exc_init_tree (cls := .ref C) (t0 := t0) (dv := none) (c2 := .none) (c3 := .none) (b4 := .bool false) hx hz fun h' k e1 _ => h h' _ k e1
theorem ldF {s : Shared} {env : Env} {m : Str → Option Value} {x : Str} {pos : Pos} {v : Value} {Q : Value → Shared → Prop} (hn : s.heap.Ns env.locals m) (hv : m x = some v) (hk : env.scope.kind = .function) (hl : env.kindOf x = some .local) (hd : (x == ("__debug__" : Str)) = false) (h : Q v s) :
    wpAny (model prog w) A (eval (.Name x pos) env) Q E s := wpAny_Name (wpAny_loadName_local hk hl hn hv h) hd
theorem sup_call {env : Env} {p0 p1 apos pos : Pos} {e : Expr} (hline : (apos.endLine == pos.line) = true) (hs : (starEach [e] env) = [(false, eval e env)]) :
    eval (.Call (.Attribute (.Call (.Name "super" p0) [] [] p1) "__init__" apos) [e] [] pos) env = (do
      let ov ← attributeBase (.Call (.Name "super" p0) [] [] p1) "__init__" env (eval (.Call (.Name "super" p0) [] [] p1) env)
      standAt apos.atName
      let (f, first) ← holding [ov] (getMethod ov "__init__" (do return (← importBound (.Call (.Name "super" p0) [] [] p1) env).getD true))
      callWith pos f first (backTo pos (starEach [e] env)) []) := by
  have hpos : methodCallPos true (.Call (.Name "super" p0) [] [] p1) env apos pos = pure pos := by
    unfold methodCallPos
    simp [hline]
  have hf : methodCallForm ([e].length + ([] : List Keyword).length) (backTo pos (starEach [e] env)) (backToKw pos (keywordEach [] env)) = true := by
    rw [hs]
    rfl
  rw [eval]
  unfold methodCall calleeOf
  rw [hf]
  simp only [hpos, if_true, pure_bind]
  rfl
/-- rule, index -/
theorem init2 {s : Shared} {x t0 : Addr} {v1 v2 : Value} {p0 p1 p2 q0 q1 q2 q3 q4 q5 r0 r1 r2 r3 r4 r5 r6 r7 : Pos} (T : ErrT K C)
    (I : ErrI K prog.main.file C fI (eA [(PySem.Str.ofString "rule", p1), (PySem.Str.ofString "index", p2)] p0) [eSup "rule" q0 q1 q2 q3 q4 q5, eSt "rule" r0 r1 r2 r3, eSt "index" r4 r5 r6 r7] (eS [PySem.Str.ofString "rule", PySem.Str.ofString "index"]))
    (hl1 : (q2.endLine == q4.line) = true) (n1 : findIn K (.ref C) "rule" = some none) (n2 : findIn K (.ref C) "index" = some none)
    (X : K.In s.heap) (hlim : s.heap.NoLimit) (G : GlOk mg s.heap) (htop : (prog.main.scope.names.lookup ("super" : Str)).isSome = false) (hx : s.heap.get? x = some (excO C t0)) (hnx : K.lookup x = none) (hroom : A.depth < recursionLimit)
    (hq : ∀ h' tk dx t1, InitEnd s.heap h' x C dx t1 (fun y => if y = "index" then some v2 else if y = "rule" then some v1 else none) → R (.ok (.ret .none)) { s with heap := h', toks := tk }) :
    codeAny (model prog w) A (.call (.ref fI) ⟨[.ref x, v1, v2], []⟩) R s := by
  obtain ⟨qual, oc, od, doc, pm, kV, an, ct, osl, cda, cc, ccl, cdd, vs, ccs, tf, cl, cld, csl, ho, hcd, hco, hvs, hcl⟩ := I.fn
  obtain ⟨nm, q, N, bs, bm, sn, sub, ab, col, dd, k0, k1, k2, k3, k5, hC, hbm⟩ := T.cls
  have hcls : clsIn K C = some { name := nm, bases := bs, mro := .ref C :: bm, ns := N, qualname := q, hasDict := true, slotNames := sn, subclasses := sub, abstract := ab, collection := col, hasDel := false } := by unfold clsIn; rw [hC] <;> rfl
  refine ks_codeAny_call_defAt (binds := [(PySem.Str.ofString "self", .ref x), (PySem.Str.ofString "rule", v1), (PySem.Str.ofString "index", v2)]) hroom (X _ _ ho) rfl hlim (codeRec_of X hcd) rfl (BindsTo.of_eq (by first | rfl | with_unfolding_all rfl))
    (show ∀ x ∈ (eS [PySem.Str.ofString "rule", PySem.Str.ofString "index"]).names, x.2 ≠ NameKind.cell by decide)
    (fun y hy => ?_) (fun h₁ hns hk₁ => ?_)
  · simp only [List.mem_cons, List.not_mem_nil, or_false] at hy
    rcases hy with rfl | rfl | rfl <;> rfl
  have X₁ : K.In h₁ := X.keeps hk₁
  have G₁ := G.keeps hk₁
  have hx₁ := hk₁ _ _ hx
  have ls : ("super" : Str) = PySem.Str.ofString "super" := rfl
  obtain ⟨mb, b1, b2⟩ := G₁.b
  refine ks_wpAt_execs_cons (ks_wpAt_Expr_any (ks_wpAt_MethodCall (ks_wpAt_super_base (f := fI) (cc := cda) rfl rfl rfl rfl (X₁ _ _ ho) rfl rfl rfl (X₁ _ _ hco) rfl hvs (by simp) htop ?_) (sup_call hl1 rfl)))
  refine ks_loadName_global rfl rfl (loadGlobal_builtin G₁.g G₁.sup b1 b2 ⟨rfl, ?_⟩)
  refine wpAny_loadName_free rfl rfl rfl ⟨_, X₁ _ _ hcl, rfl⟩ ?_
  refine wpAny_loadName_local (v := .ref x) rfl rfl hns rfl ?_
  refine ks_wpAny_isType_cls (X₁ _ _ hC) rfl ⟨rfl, ?_⟩
  refine ks_wpAny_call_super (X₁ _ _ hC) rfl hx₁ rfl (fun c e => nomatch e) (looks_mroIn X₁ T.slf) (fun h₂ e2 k2 => ?_)
  have X₂ : K.In h₂ := X₁.keeps k2
  have hx₂ := k2 _ _ hx₁
  have xC : x ≠ C := fun z => by
    rw [z, hC] at hnx
    cases hnx
  have I₂ : InstAt h₂ x (excO C t0) C none := ⟨hx₂, rfl, rfl, trivial⟩
  refine kxs_getMethod kxs_ValueError e2 (looks_opaque X₂ T.opq) (l₀ := .ref C :: bm) (fun A Q E s k q => wpAny_bind ((looks_clsIn X₂ hcls) A _ E s k (wpAny_pure q))) rfl X₂ ?_ (I₂.type.andThen (looks_subIn X₂ T.veC)) xC rfl ?_
  · have := T.sup
    unfold ks_superIn at this
    rw [hcls] at this
    exact this
  have k3 : ∀ b o, h₂.get? b = some o → (h₂.push (kxs_mw "ValueError.__init__" x)).get? b = some o := fun b o e => Heap.get?_push_of_some _ e
  have hns₃ := (hns.keeps k2).keeps k3
  refine kxs_callWith (i := "ValueError.__init__") (x := x) rfl ?_
  refine evalArgs_plain (Calls.spliced_cons (ldF (v := v1) hns₃ rfl rfl rfl (by decide) (Calls.spliced_nil ⟨Heap.get?_push_at rfl rfl, ?_⟩)))
  have X₃ := X₂.keeps k3
  have hx₃ := k3 _ _ hx₂
  have one : [v1].length ≤ sizeLine := by rw [sizeLine_eq]; exact (by decide : 1 ≤ 16777216)
  refine wr_call T X₃ hx₃ (Heap.get?_push_at rfl rfl) one fun h₄ t1 k4 hx₄ => ?_
  have nL : s.heap.objs.size ≠ x := Nat.ne_of_gt (Heap.lt_size hx)
  have X₄ : K.In h₄ := kept_but X₃ hnx k4
  obtain ⟨oL, es, ep, hL, rL⟩ := hns₃
  have hns₄ : h₄.Ns s.heap.objs.size _ := ⟨oL, es, ep, k4 _ _ nL hL, rL⟩
  show PySem.wpAt _ _ _ _ _ _ _
  refine wpAt_of_wpAny (wpAny_execs_cons (plainObj_wpAny_Assign_Attribute ?_))
  refine ldF (v := v1) hns₄ rfl rfl rfl (by decide) (ldF (v := .ref x) hns₄ rfl rfl rfl (by decide) ?_)
  refine set_plain X₄ (ox := excO C t1) (od := none) ⟨hx₄, rfl, rfl, trivial⟩ T.sa ?_
  refine exc_osa X₄ hx₄ hcls (show refsVE (.ref C :: bm) = true from hbm) rfl n1 (fun h₅ tk₅ dx k5 dn dne hx₅ hn₅ => ?_)
  have X₅ : K.In h₅ := kept_but X₄ hnx k5
  have hns₅ : h₅.Ns s.heap.objs.size _ := ⟨oL, es, ep, k5 _ _ nL (k4 _ _ nL hL), rL⟩
  show wpAny _ _ _ _ _ _
  refine wpAny_execs_cons (plainObj_wpAny_Assign_Attribute ?_)
  refine ldF (v := v2) hns₅ rfl rfl rfl (by decide) (ldF (v := .ref x) hns₅ rfl rfl rfl (by decide) ?_)
  obtain ⟨oD, esD, epD, hoD, hdD, _⟩ := hn₅.count (ns := ["rule"]) (Within.cons _ _ Within.nil)
  refine set_plain X₅ (ox := { cls := .ref C, dict := some dx, data := .fields #[.ref t1, .none, .none, .none, .bool false, .none] }) (od := some oD) ⟨hx₅, rfl, rfl, hoD⟩ T.sa ?_
  refine OEX.osa_old X₅ hx₅ hn₅ (Within.cons _ _ Within.nil) (by decide) hcls (show refsVE (.ref C :: bm) = true from hbm) rfl n2 (fun h₆ tk₆ k6 hn₆ => ?_)
  have back : ∀ b o, b ≠ x → s.heap.get? b = some o → h₄.get? b = some o := fun b o hb e => k4 b o hb (k3 b o (k2 b o (hk₁ b o e)))
  have grow : s.heap.objs.size ≤ h₄.objs.size := by
    exact Nat.le_of_lt (Heap.lt_size (k4 _ _ nL hL))
  have dn' : s.heap.objs.size ≤ dx := Nat.le_trans grow dn
  refine wpAny_execs_nil (hq h₆ tk₆ dx t1 ⟨fun b o hb e => k6 b o (fun z => ?_) (k5 b o hb (back b o hb e)), k6 _ _ dne.symm hx₅, dn', dne, hn₆⟩)
  rw [z] at e
  exact absurd (Nat.lt_of_lt_of_le (Heap.lt_size e) dn') (Nat.lt_irrefl _)
end
end Ve
namespace Ve
open PySem PySem.W PySem.Calls PyProof.Rows PySem.HandSPX
def fld2 (v1 v2 : Value) : Str → Option Value := fun y => if y = "index" then some v2 else if y = "rule" then some v1 else none
/-- made -/
structure OwnMade (h h' : Heap) (e C d : Addr) (m : Str → Option Value) : Prop where
  keep : ∀ b o, h.get? b = some o → h'.get? b = some o
  new : h.objs.size ≤ e
  obj : ∃ oe vs, h'.get? e = some oe ∧ oe.cls = .ref C ∧ oe.dict = some d ∧ oe.data = .fields vs ∧ vs[1]? = some .none
  dbig : h.objs.size ≤ d
  dne : d ≠ e
  ns : h'.Ns1 d m
/-- the class C, whose __init__ stores rule and index -/
structure Err2 (K : Frag) (prog : Program) (C : Addr) : Prop where
  T : ErrT K C
  n1 : findIn K (.ref C) "rule" = some none
  n2 : findIn K (.ref C) "index" = some none
  top : (prog.main.scope.names.lookup ("super" : Str)).isSome = false
  I : ∃ fI p0 p1 p2 q0 q1 q2 q3 q4 q5 r0 r1 r2 r3 r4 r5 r6 r7, (q2.endLine == q4.line) = true ∧ ErrI K prog.main.file C fI (eA [(PySem.Str.ofString "rule", p1), (PySem.Str.ofString "index", p2)] p0) [eSup "rule" q0 q1 q2 q3 q4 q5, eSt "rule" r0 r1 r2 r3, eSt "index" r4 r5 r6 r7] (eS [PySem.Str.ofString "rule", PySem.Str.ofString "index"])
section
variable {prog : Program} {w : World} {A : Around} {R : Result → Shared → Prop} {s : Shared} {K : Frag} {mg : Str → Option Value} {C : Addr}
theorem made2 (T : Err2 K prog C) {v1 v2 : Value} (X : K.In s.heap) (hlim : s.heap.NoLimit) (G : GlOk mg s.heap) (hroom : A.depth + 1 < recursionLimit)
    (hq : ∀ h' tk e d, OwnMade s.heap h' e C d (fld2 v1 v2) → R (.ok (.ret (.ref e))) { s with heap := h', toks := tk }) :
    codeAny (model prog w) A (.call (.ref C) ⟨[v1, v2], []⟩) R s := by
  obtain ⟨nm, q, N, bs, bm, sn, sub, ab, col, dd, k0, k1, k2, k3, k5, hC, hbm⟩ := T.T.cls
  obtain ⟨fI, p0, p1, p2, q0, q1, q2, q3, q4, q5, r0, r1, r2, r3, r4, r5, r6, r7, hl, I⟩ := T.I
  obtain ⟨hp, g, dr, tk, os⟩ := s
  have k : ∀ b o, hp.get? b = some o → ((hp.push (kdv_tup [v1, v2])).push (excO C hp.objs.size)).get? b = some o := fun b o e => Heap.get?_push_of_some _ (Heap.get?_push_of_some _ e)
  have hget : ((hp.push (kdv_tup [v1, v2])).push (excO C hp.objs.size)).get? (hp.objs.size + 1) = some (excO C hp.objs.size) := by heap_get
  have hnx : K.lookup (hp.objs.size + 1) = none := by
    cases e : K.lookup (hp.objs.size + 1) with
    | none => rfl
    | some o =>
      have z : hp.get? (hp.objs.size + 1) = some o := X _ _ e
      exact absurd (Nat.lt_of_succ_lt (Heap.lt_size z)) (Nat.lt_irrefl _)
  refine HandSPX.call_own F.excBase_ValueError (fun X => refsVE_contains X bm hbm) (X _ _ hC) (looks_findIn X I.iC) (fun self => bind_fn X self I.tC) (by rw [sizeLine_eq]; exact (by decide : 2 ≤ 16777216)) ?_
  refine init2 (s := ⟨(hp.push (kdv_tup [v1, v2])).push (excO C hp.objs.size), g, dr, tk, os⟩) T.T I hl T.n1 T.n2 (X.keeps k) (hlim.keeps k) (G.keeps k) T.top hget hnx ?_ fun h' tk' dx t1 ⟨k', hx, dn, dne, hns⟩ => ?_
  · show A.depth + 1 < recursionLimit
    exact hroom
  · have old : ∀ b o, hp.get? b = some o → h'.get? b = some o := fun b o e => k' b o (Nat.ne_of_lt (Nat.lt_succ_of_lt (Heap.lt_size e))) (k b o e)
    have z : hp.objs.size + 1 + 1 ≤ dx := by
      have q := dn
      rw [Heap.size_push, Heap.size_push] at q
      exact q
    exact ⟨rfl, hq h' tk' (hp.objs.size + 1) dx ⟨old, Nat.le_succ _, ⟨_, _, hx, rfl, rfl, rfl, rfl⟩, Nat.le_trans (Nat.le_trans (Nat.le_succ _) (Nat.le_succ _)) z, dne, hns⟩⟩
end
end Ve
namespace L2
open PySem PySem.Spec PyProof.Rows
theorem relO_2 {v1 v2 : V} {u1 u2 : Value} (r1 : RelV v1 u1) (r2 : RelV v2 u2) (f : Str) : RelO (List.lookup f [(PySem.Str.ofString "rule", v1), (PySem.Str.ofString "index", v2)]) (Ve.fld2 u1 u2 f) := by
  unfold Ve.fld2
  by_cases hi : f = "index"
  · subst hi
    rw [if_pos rfl]
    exact r2
  · rw [if_neg hi]
    by_cases hr : f = "rule"
    · subst hr
      rw [if_pos rfl]
      exact r1
    · rw [if_neg hr]
      have e1 : (f == PySem.Str.ofString "rule") = false := by simpa using hr
      have e2 : (f == PySem.Str.ofString "index") = false := by simpa using hi
      have q : List.lookup f [(PySem.Str.ofString "rule", v1), (PySem.Str.ofString "index", v2)] = none := by simp [List.lookup, e1, e2]
      rw [q]
      trivial
section
variable {X : Cx} {C : Addr}
/-- c(a, b) -/
def tMk2 (C : Addr) (ta : TA) : St → Hp → XK → Prop := fun σ H Q => ta σ H fun vs H1 => ∃ v1 v2, vs = [v1, v2] ∧ ∀ d, H1 d = none → Q (.ref C) (some d) (upd H1 d (.xd [(PySem.Str.ofString "rule", v1), (PySem.Str.ofString "index", v2)]))
theorem pmk2 {x : Str} {a b : Expr} {ta : TA} {p pos : Pos} {k : Nat} (T : Ve.Err2 X.K X.prog C) (gC : X.mg x = some (.ref C)) (gs : X.mg "super" = none) (hr : Room k X.A) (hk : 2 ≤ k) (ha : PA X [a, b] ta) (hg : Gl X x) (hdb : (x == ("__debug__" : Str)) = false)
    (he : starEach [a, b] X.env = (false, eval a X.env) :: starEach [b] X.env) (hpl : (backTo pos (starEach [b] X.env)).any (·.1) = false) :
    PMk X (.Call (.Name x p) [a, b] [] pos) (tMk2 C ta) := by
  intro pins s σ H Q I h
  refine wpAny_Call_Name_kw (ld_glob I hg gC ?_ hdb)
  refine PySem.W.callWith_K (h₀ := X.base) I.ok.mod.kin T.T.kC (thn (ha.run pos pins s σ H _ I h) fun us s1 hh => ?_) he hpl
  obtain ⟨vs, H1, I1, r1, v1, v2, ev, q1⟩ := hh
  subst ev
  refine ⟨I1.kIn, ?_⟩
  cases r1 with
  | cons rv rn =>
    rename_i u1 us1
    cases rn with
    | cons rv2 rn =>
      rename_i u2 us2
      cases rn
      show wpAny _ _ (call (.ref C) [u1, u2]) _ _ _
      have hlim := I1.nolimit
      have G : Ve.GlOk X.mg s1.heap := by
        obtain ⟨mb, h1, h2⟩ := I1.mod.blt
        exact ⟨I1.mod.glob.keeps I1.bk, gs, mb, h1.keeps I1.bk, h2 "super" (by decide)⟩
      obtain ⟨hp, g, dr, tk, os⟩ := s1
      refine wpAny_call (Ve.made2 T I1.kIn hlim G (by have := hr.dp; omega) fun h' tk' e d M => ?_)
      show MkP X pins σ Q (.ref e) ⟨h', g, dr, tk', os⟩
      obtain ⟨oe, fv, hoe, hc, hd, hdat, h1⟩ := M.obj
      have hns := M.ns
      obtain ⟨G', g1, g2⟩ := restrict h' fun b => decide (b ≠ e)
      have gk : ∀ b, b ≠ e → G'.get? b = h'.get? b := fun b hb => g1 b (decide_eq_true hb)
      have ge : G'.get? e = none := g2 e (by simp)
      have old : ∀ b o, hp.get? b = some o → G'.get? b = some o := fun b o q => (gk b (Nat.ne_of_lt (Nat.lt_of_lt_of_le (Heap.lt_size q) M.new))).trans (M.keep b o q)
      have ob : ObjOk X.prog X.w (upd H1 d (.xd [(PySem.Str.ofString "rule", v1), (PySem.Str.ofString "index", v2)])) G' d (.xd [(PySem.Str.ofString "rule", v1), (PySem.Str.ofString "index", v2)]) :=
        ⟨_, hns.at (fun o q => (gk d M.dne).trans q), fun f => relO_2 rv rv2 f⟩
      have J : Inv X pins σ (upd H1 d (.xd [(PySem.Str.ofString "rule", v1), (PySem.Str.ofString "index", v2)])) ⟨G', g, dr, tk', os⟩ := I1.laid (t' := tk') old M.dbig ob
      refine ⟨e, oe, fv, ⟨G', g, dr, tk', os⟩, _, .ref C, some d, rfl, J, fun b o q => ?_, ge, hoe, ⟨hc, hd⟩, hdat, h1, ?_, rfl, I1.bare, raises_own T.T.exC T.T.tyC, q1 d (I1.hok.fresh M.dbig)⟩
      · by_cases hb : b = e
        · have q' : G'.get? b = some o := q
          rw [hb, ge] at q'
          cases q'
        · exact (gk b hb).symm.trans q
      · rw [upd_ne (Ne.symm M.dne)]
        exact I1.hok.fresh M.new
end
end L2
/-! Values without the heap: data stand for what a name holds; who owns which list is told by a type. -/
namespace Vw
open PySem PySem.Spec PyProof.Rows L2

abbrev D := PyData
abbrev Sg := L2.St
inductive Ty where
  | fro | lst (t : Ty)
  deriving DecidableEq

/-! ### data in a heap -/
theorem SqL_same {K : PySem.W.Frag} {H H' : Hp} {a : Addr} {xs : List V} (s : Same H H') (h : SqL K H a xs) : SqL K H' a xs := by
  rcases h with (h | ⟨o, h⟩) | h
  · exact .inl (.inl (s _ _ h))
  · exact .inl (.inr ⟨o, s _ _ h⟩)
  · exact .inr h
theorem SqT_same {K : PySem.W.Frag} {H H' : Hp} {a : Addr} {xs : List V} (s : Same H H') (h : SqT K H a xs) : SqT K H' a xs := by
  rcases h with (h | ⟨o, h⟩) | h
  · exact .inl (.inl (s _ _ h))
  · exact .inl (.inr ⟨o, s _ _ h⟩)
  · exact .inr h
mutual
/-- v stands for the data d in H -/
inductive Rp (K : PySem.W.Frag) (H : Hp) : V → PyData → Prop
  | non : Rp K H .non .none
  | bl (b : Bool) : Rp K H (.bl b) (.bool b)
  | int (i : Int) : Rp K H (.int i) (.int i)
  | str (x : Str) : Rp K H (.str x) (.str x)
  | lst {a : Addr} {xs : List V} {ds : List PyData} : Rd H a (.lst xs) → RpAll K H xs ds → Rp K H (.ref a) (.list ds)
  | tup {a : Addr} {xs : List V} {ds : List PyData} : SqT K H a xs → RpAll K H xs ds → Rp K H (.ref a) (.tuple ds)
inductive RpAll (K : PySem.W.Frag) (H : Hp) : List V → List PyData → Prop
  | nil : RpAll K H [] []
  | cons {v : V} {vs : List V} {d : PyData} {ds : List PyData} : Rp K H v d → RpAll K H vs ds → RpAll K H (v :: vs) (d :: ds)
end
mutual
theorem Rp.dp {K : PySem.W.Frag} {H : Hp} : ∀ (d : PyData) (v : V), Rp K H v d → Dp K H v d
  | .none, _, h => by cases h; exact .non
  | .bool _, _, h => by cases h; exact .bl _
  | .int _, _, h => by cases h; exact .int _
  | .str _, _, h => by cases h; exact .str _
  | .list ds, _, h => by
    cases h with
    | lst hs ha => exact .lst (.inl hs) (RpAll.dp ds _ ha)
  | .tuple ds, _, h => by
    cases h with
    | tup hs ha => exact .tup hs (RpAll.dp ds _ ha)
  | .dict _, _, h => by cases h
theorem RpAll.dp {K : PySem.W.Frag} {H : Hp} : ∀ (ds : List PyData) (vs : List V), RpAll K H vs ds → DpAll K H vs ds
  | [], _, h => by cases h; exact .nil
  | d :: ds, _, h => by
    cases h with
    | cons h1 h2 => exact .cons (Rp.dp d _ h1) (RpAll.dp ds _ h2)
end
theorem Rd_same {H H' : Hp} {a : Addr} {u : HO} (s : Same H H') (h : Rd H a u) : Rd H' a u := by
  rcases h with h | ⟨o, h⟩
  · exact .inl (s _ _ h)
  · exact .inr ⟨o, s _ _ h⟩
mutual
theorem Rp_same {K : PySem.W.Frag} {H H' : Hp} (s : Same H H') : ∀ (d : D) (v : V), Rp K H v d → Rp K H' v d
  | .none, _, h => by cases h; exact .non
  | .bool _, _, h => by cases h; exact .bl _
  | .int _, _, h => by cases h; exact .int _
  | .str _, _, h => by cases h; exact .str _
  | .list ds, _, h => by
    cases h with
    | lst hs ha => exact .lst (Rd_same s hs) (RpAll_same s ds _ ha)
  | .tuple ds, _, h => by
    cases h with
    | tup hs ha => exact .tup (SqT_same s hs) (RpAll_same s ds _ ha)
  | .dict _, _, h => by cases h
theorem RpAll_same {K : PySem.W.Frag} {H H' : Hp} (s : Same H H') : ∀ (ds : List D) (vs : List V), RpAll K H vs ds → RpAll K H' vs ds
  | [], _, h => by cases h; exact .nil
  | d :: ds, _, h => by
    cases h with
    | cons h1 h2 => exact .cons (Rp_same s d _ h1) (RpAll_same s ds _ h2)
end
theorem RpAll.len {K : PySem.W.Frag} {H : Hp} : ∀ {vs : List V} {ds : List D}, RpAll K H vs ds → vs.length = ds.length
  | _, _, .nil => rfl
  | _, _, .cons _ h => by
    show _ + 1 = _ + 1
    rw [h.len]
theorem RpAll.get {K : PySem.W.Frag} {H : Hp} : ∀ {vs : List V} {ds : List D} {i : Nat} {d : D}, RpAll K H vs ds → ds[i]? = some d → ∃ v, vs[i]? = some v ∧ Rp K H v d
  | _, _, _, _, .nil, e => by simp at e
  | _, _, 0, _, .cons h _, e => by simp at e; subst e; exact ⟨_, rfl, h⟩
  | _, _, i + 1, d, .cons _ t, e => by
    obtain ⟨v, h1, h2⟩ := RpAll.get (i := i) (d := d) t (by simpa using e)
    exact ⟨v, by simpa using h1, h2⟩
theorem RpAll.get' {K : PySem.W.Frag} {H : Hp} : ∀ {vs : List V} {ds : List D} {i : Nat} {v : V}, RpAll K H vs ds → vs[i]? = some v → ∃ d, ds[i]? = some d ∧ Rp K H v d
  | _, _, _, _, .nil, e => by simp at e
  | _, _, 0, _, .cons h _, e => by simp at e; subst e; exact ⟨_, rfl, h⟩
  | _, _, i + 1, d, .cons _ t, e => by
    obtain ⟨v, h1, h2⟩ := RpAll.get' (i := i) (v := d) t (by simpa using e)
    exact ⟨v, by simpa using h1, h2⟩
theorem RpAll.app {K : PySem.W.Frag} {H : Hp} : ∀ {vs ws : List V} {ds es : List D}, RpAll K H vs ds → RpAll K H ws es → RpAll K H (vs ++ ws) (ds ++ es)
  | _, _, _, _, .nil, h => h
  | _, _, _, _, .cons h t, h' => .cons h (t.app h')
theorem RpAll.take {K : PySem.W.Frag} {H : Hp} : ∀ {vs : List V} {ds : List D} (n : Nat), RpAll K H vs ds → RpAll K H (vs.take n) (ds.take n)
  | _, _, 0, _ => .nil
  | _, _, _ + 1, .nil => .nil
  | _, _, n + 1, .cons h t => .cons h (t.take n)
theorem RpAll.drop {K : PySem.W.Frag} {H : Hp} : ∀ {vs : List V} {ds : List D} (n : Nat), RpAll K H vs ds → RpAll K H (vs.drop n) (ds.drop n)
  | _, _, 0, h => h
  | _, _, _ + 1, .nil => .nil
  | _, _, n + 1, .cons _ t => t.drop n
theorem RpAll.set {K : PySem.W.Frag} {H : Hp} {v : V} {d : D} (hd : Rp K H v d) : ∀ {vs : List V} {ds : List D} (i : Nat), RpAll K H vs ds → RpAll K H (vs.set i v) (ds.set i d)
  | _, _, _, .nil => .nil
  | _, _, 0, .cons _ t => .cons hd t
  | _, _, i + 1, .cons h t => .cons h (RpAll.set hd i t)
theorem RpAll.ints {K : PySem.W.Frag} {H : Hp} : ∀ {vs : List V} {ns : List Int}, RpAll K H vs (ns.map PyData.int) → vs = ns.map V.int
  | _, [], h => by cases h; rfl
  | _, n :: ns, h => by
    cases h with
    | cons h1 h2 =>
      cases h1
      rw [h2.ints]
      rfl
theorem RpAll.of_ints {K : PySem.W.Frag} {H : Hp} : ∀ (ns : List Int), RpAll K H (ns.map V.int) (ns.map PyData.int)
  | [] => .nil
  | n :: ns => .cons (.int n) (RpAll.of_ints ns)
theorem RpAll.bls {K : PySem.W.Frag} {H : Hp} : ∀ {vs : List V} {ns : List Bool}, RpAll K H vs (ns.map PyData.bool) → vs = ns.map V.bl
  | _, [], h => by cases h; rfl
  | _, n :: ns, h => by
    cases h with
    | cons h1 h2 =>
      cases h1
      rw [h2.bls]
      rfl

/-! ### owned lists -/
def scalar : D → Bool
  | .list _ => false
  | .tuple _ => false
  | .dict _ => false
  | _ => true
theorem Rp_scalar {K : PySem.W.Frag} {H H' : Hp} : ∀ {d : D} {v : V}, scalar d = true → Rp K H v d → Rp K H' v d
  | .none, _, _, h => by cases h; exact .non
  | .bool _, _, _, h => by cases h; exact .bl _
  | .int _, _, _, h => by cases h; exact .int _
  | .str _, _, _, h => by cases h; exact .str _
  | .list _, _, e, _ => by cases e
  | .tuple _, _, e, _ => by cases e
  | .dict _, _, e, _ => by cases e
/-- item by item, each with its own addresses -/
def AllF (P : D → V → List Addr → Prop) : List D → List V → List Addr → Prop
  | [], [], F => F = []
  | d :: ds, v :: vs, F => ∃ F1 F2, F = F1 ++ F2 ∧ P d v F1 ∧ AllF P ds vs F2
  | _, _, _ => False
/-- v is d by the type t: what it owns stands at F, in H; all else in G -/
def Own (K : PySem.W.Frag) (G H : Hp) : Ty → D → V → List Addr → Prop
  | .fro => fun d v F => F = [] ∧ Rp K G v d
  | .lst t => fun d v F => (scalar d = true ∧ F = [] ∧ Rp K G v d) ∨ ∃ ds a vs F', d = .list ds ∧ v = .ref a ∧ F = a :: F' ∧ H a = some (.lst vs) ∧ AllF (Own K G H t) ds vs F'
theorem AllF.mono {P P' : D → V → List Addr → Prop} : ∀ {ds : List D} {vs : List V} {F : List Addr}, (∀ d v F', (∀ a ∈ F', a ∈ F) → P d v F' → P' d v F') → AllF P ds vs F → AllF P' ds vs F
  | [], [], _, _, h => h
  | [], _ :: _, _, _, h => h.elim
  | _ :: _, [], _, _, h => h.elim
  | d :: ds, v :: vs, F, i, ⟨F1, F2, e, p, q⟩ => ⟨F1, F2, e, i _ _ _ (fun a ha => by rw [e]; exact List.mem_append_left _ ha) p, AllF.mono (fun d v F' hF => i d v F' fun a ha => by rw [e]; exact List.mem_append_right _ (hF a ha)) q⟩
theorem AllF.len {P : D → V → List Addr → Prop} : ∀ {ds : List D} {vs : List V} {F : List Addr}, AllF P ds vs F → vs.length = ds.length
  | [], [], _, _ => rfl
  | [], _ :: _, _, h => h.elim
  | _ :: _, [], _, h => h.elim
  | d :: ds, v :: vs, F, ⟨F1, F2, e, p, q⟩ => by
    show _ + 1 = _ + 1
    rw [q.len]
section
variable {K : PySem.W.Frag} {G G' H H' : Hp}
theorem Own.stay (sG : Same G G') : ∀ {t : Ty} {d : D} {v : V} {F : List Addr}, (∀ a ∈ F, H' a = H a) → Own K G H t d v F → Own K G' H' t d v F
  | .fro, d, v, F, _, ⟨e, h⟩ => ⟨e, Rp_same sG d v h⟩
  | .lst t, d, v, F, k, .inl ⟨s, e, h⟩ => .inl ⟨s, e, Rp_same sG d v h⟩
  | .lst t, d, v, F, k, .inr ⟨ds, a, vs, F', e1, e2, e3, e4, q⟩ => by
    refine .inr ⟨ds, a, vs, F', e1, e2, e3, ?_, ?_⟩
    · rw [k a (by rw [e3]; exact List.mem_cons_self)]
      exact e4
    · exact q.mono fun d v F'' hF h => Own.stay sG (fun b hb => k b (by rw [e3]; exact List.mem_cons_of_mem _ (hF b hb))) h
theorem AllF.mem {P : D → V → List Addr → Prop} {R : Addr → Prop} (i : ∀ d v F, P d v F → ∀ a ∈ F, R a) : ∀ {ds : List D} {vs : List V} {F : List Addr}, AllF P ds vs F → ∀ a ∈ F, R a
  | [], [], F, h, a, ha => by
    have h : F = [] := h
    rw [h] at ha
    cases ha
  | [], _ :: _, _, h, _, _ => h.elim
  | _ :: _, [], _, h, _, _ => h.elim
  | d :: ds, v :: vs, F, ⟨F1, F2, e, p, q⟩, a, ha => by
    rw [e] at ha
    rcases List.mem_append.mp ha with ha | ha
    · exact i _ _ _ p a ha
    · exact AllF.mem i q a ha
theorem Own.there : ∀ {t : Ty} {d : D} {v : V} {F : List Addr}, Own K G H t d v F → ∀ a ∈ F, ∃ vs, H a = some (.lst vs)
  | .fro, d, v, F, ⟨e, _⟩, a, ha => by rw [e] at ha; cases ha
  | .lst t, d, v, F, .inl ⟨_, e, _⟩, a, ha => by rw [e] at ha; cases ha
  | .lst t, d, v, F, .inr ⟨ds, b, vs, F', e1, e2, e3, e4, q⟩, a, ha => by
    rw [e3] at ha
    rcases List.mem_cons.mp ha with rfl | ha
    · exact ⟨vs, e4⟩
    · exact q.mem (fun d v F h => Own.there h) a ha
theorem RpAll_of {P : D → V → List Addr → Prop} : ∀ {ds : List D} {vs : List V} {F : List Addr}, (∀ d v F', (∀ a ∈ F', a ∈ F) → P d v F' → Rp K G v d) → AllF P ds vs F → RpAll K G vs ds
  | [], [], _, _, _ => .nil
  | [], _ :: _, _, _, h => h.elim
  | _ :: _, [], _, _, h => h.elim
  | d :: ds, v :: vs, F, i, ⟨F1, F2, e, p, q⟩ => .cons (i _ _ _ (fun a ha => by rw [e]; exact List.mem_append_left _ ha) p) (RpAll_of (fun d v F' hF => i d v F' fun a ha => by rw [e]; exact List.mem_append_right _ (hF a ha)) q)
/-- what was owned is given away -/
theorem Own.rp (sG : Same G G') : ∀ {t : Ty} {d : D} {v : V} {F : List Addr}, (∀ a ∈ F, G' a = H a) → Own K G H t d v F → Rp K G' v d
  | .fro, d, v, F, _, ⟨e, h⟩ => Rp_same sG d v h
  | .lst t, d, v, F, k, .inl ⟨s, e, h⟩ => Rp_same sG d v h
  | .lst t, d, v, F, k, .inr ⟨ds, a, vs, F', e1, e2, e3, e4, q⟩ => by
    subst e1 e2
    refine .lst (xs := vs) (.inl ?_) ?_
    · rw [k a (by rw [e3]; exact List.mem_cons_self)]
      exact e4
    · exact RpAll_of (fun d v F'' hF h => Own.rp sG (fun b hb => k b (by rw [e3]; exact List.mem_cons_of_mem _ (hF b hb))) h) q
theorem AllF.fro : ∀ {ds : List D} {vs : List V} {F : List Addr}, AllF (Own K G H .fro) ds vs F → F = [] ∧ RpAll K G vs ds
  | [], [], _, h => ⟨h, .nil⟩
  | [], _ :: _, _, h => h.elim
  | _ :: _, [], _, h => h.elim
  | d :: ds, v :: vs, F, ⟨F1, F2, e, ⟨e1, p⟩, q⟩ => by
    obtain ⟨e2, r⟩ := q.fro
    subst e1 e2
    exact ⟨e, .cons p r⟩
theorem AllF.of_fro : ∀ {ds : List D} {vs : List V}, RpAll K G vs ds → AllF (Own K G H .fro) ds vs []
  | _, _, .nil => rfl
  | _, _, .cons h t => ⟨[], [], rfl, ⟨rfl, h⟩, AllF.of_fro t⟩
end
/-- H on F, G elsewhere -/
def join (G H : Hp) (F : List Addr) : Hp := fun a => if a ∈ F then H a else G a
theorem join_same {G H : Hp} {F : List Addr} (h : ∀ a ∈ F, G a = none) : Same G (join G H F) := fun a o e => by
  unfold join
  by_cases ha : a ∈ F
  · rw [h a ha] at e
    cases e
  · rw [if_neg ha]
    exact e
theorem join_sub {G H : Hp} {F : List Addr} (h : Same G H) : Same (join G H F) H := fun a o e => by
  unfold join at e
  by_cases ha : a ∈ F
  · rw [if_pos ha] at e
    exact e
  · rw [if_neg ha] at e
    exact h _ _ e
theorem join_in {G H : Hp} {F : List Addr} {a : Addr} (h : a ∈ F) : join G H F a = H a := by
  unfold join
  rw [if_pos h]
theorem join_out {G H : Hp} {F : List Addr} {a : Addr} (h : a ∉ F) : join G H F a = G a := by
  unfold join
  rw [if_neg h]

/-! ### slots and things held meanwhile -/
abbrev Rho := List (Option D)
structure Tm where
  t : Ty
  d : D
  v : V
def SlF (K : PySem.W.Frag) (G H : Hp) : List Ty → Rho → Sg → List Addr → Prop
  | t :: Γ, o :: ρ, s :: σ, F => ∃ F1 F2, F = F1 ++ F2 ∧ (match o with
    | none => F1 = []
    | some d => ∃ v, s = some v ∧ Own K G H t d v F1) ∧ SlF K G H Γ ρ σ F2
  | [], [], [], F => F = []
  | _, _, _, _ => False
def TmF (K : PySem.W.Frag) (G H : Hp) : List Tm → List Addr → Prop
  | [], F => F = []
  | x :: ts, F => ∃ F1 F2, F = F1 ++ F2 ∧ Own K G H x.t x.d x.v F1 ∧ TmF K G H ts F2
section
variable {K : PySem.W.Frag} {G G' H H' : Hp}
theorem SlF.stay (sG : Same G G') : ∀ {Γ : List Ty} {ρ : Rho} {σ : Sg} {F : List Addr}, (∀ a ∈ F, H' a = H a) → SlF K G H Γ ρ σ F → SlF K G' H' Γ ρ σ F
  | [], [], [], _, _, h => h
  | t :: Γ, o :: ρ, s :: σ, F, k, ⟨F1, F2, e, p, q⟩ => by
    refine ⟨F1, F2, e, ?_, SlF.stay sG (fun a ha => k a (by rw [e]; exact List.mem_append_right _ ha)) q⟩
    cases o with
    | none => exact p
    | some d =>
      obtain ⟨v, e1, p⟩ := p
      exact ⟨v, e1, p.stay sG fun a ha => k a (by rw [e]; exact List.mem_append_left _ ha)⟩
  | [], [], _ :: _, _, _, h => h.elim
  | [], _ :: _, _, _, _, h => by cases ‹Sg› <;> exact h.elim
  | _ :: _, [], _, _, _, h => by cases ‹Sg› <;> exact h.elim
  | _ :: _, _ :: _, [], _, _, h => h.elim
theorem TmF.stay (sG : Same G G') : ∀ {ts : List Tm} {F : List Addr}, (∀ a ∈ F, H' a = H a) → TmF K G H ts F → TmF K G' H' ts F
  | [], _, _, h => h
  | x :: ts, F, k, ⟨F1, F2, e, p, q⟩ => ⟨F1, F2, e, p.stay sG (fun a ha => k a (by rw [e]; exact List.mem_append_left _ ha)), TmF.stay sG (fun a ha => k a (by rw [e]; exact List.mem_append_right _ ha)) q⟩
theorem SlF.there : ∀ {Γ : List Ty} {ρ : Rho} {σ : Sg} {F : List Addr}, SlF K G H Γ ρ σ F → ∀ a ∈ F, ∃ vs, H a = some (.lst vs)
  | [], [], [], F, h, a, ha => by
    have h : F = [] := h
    rw [h] at ha
    cases ha
  | t :: Γ, o :: ρ, s :: σ, F, ⟨F1, F2, e, p, q⟩, a, ha => by
    rw [e] at ha
    rcases List.mem_append.mp ha with ha | ha
    · cases o with
      | none =>
        have p : F1 = [] := p
        rw [p] at ha
        cases ha
      | some d =>
        obtain ⟨v, e1, p⟩ := p
        exact p.there a ha
    · exact SlF.there q a ha
  | [], [], _ :: _, _, h, _, _ => h.elim
  | [], _ :: _, _, _, h, _, _ => by cases ‹Sg› <;> exact h.elim
  | _ :: _, [], _, _, h, _, _ => by cases ‹Sg› <;> exact h.elim
  | _ :: _, _ :: _, [], _, h, _, _ => h.elim
theorem TmF.there : ∀ {ts : List Tm} {F : List Addr}, TmF K G H ts F → ∀ a ∈ F, ∃ vs, H a = some (.lst vs)
  | [], F, h, a, ha => by
    have h : F = [] := h
    rw [h] at ha
    cases ha
  | x :: ts, F, ⟨F1, F2, e, p, q⟩, a, ha => by
    rw [e] at ha
    rcases List.mem_append.mp ha with ha | ha
    · exact p.there a ha
    · exact TmF.there q a ha
/-- a slot's part taken out -/
theorem SlF.take : ∀ {Γ : List Ty} {ρ : Rho} {σ : Sg} {F : List Addr} {i : Nat} {d : D}, SlF K G H Γ ρ σ F → ρ[i]? = some (some d) →
    ∃ t v F1 F2, Γ[i]? = some t ∧ σ[i]? = some (some v) ∧ (F1 ++ F2).Perm F ∧ Own K G H t d v F1 ∧ SlF K G H Γ (ρ.set i none) σ F2
  | [], [], [], _, _, _, _, e => by simp at e
  | t :: Γ, o :: ρ, s :: σ, F, 0, d, ⟨F1, F2, e, p, q⟩, e0 => by
    have e0 : o = some d := by simpa using e0
    subst e0
    obtain ⟨v, e1, p⟩ := p
    subst e1
    exact ⟨t, v, F1, F2, rfl, rfl, by rw [e], p, [], F2, rfl, rfl, q⟩
  | t :: Γ, o :: ρ, s :: σ, F, i + 1, d, ⟨F1, F2, e, p, q⟩, e0 => by
    obtain ⟨t', v, F3, F4, e1, e2, e3, e4, e5⟩ := SlF.take (i := i) (d := d) q (by simpa using e0)
    refine ⟨t', v, F3, F1 ++ F4, by simpa using e1, by simpa using e2, ?_, e4, F1, F4, rfl, p, e5⟩
    rw [e]
    refine List.Perm.trans ?_ (List.Perm.append_left F1 e3)
    rw [← List.append_assoc, ← List.append_assoc]
    exact List.Perm.append_right _ List.perm_append_comm
  | [], [], _ :: _, _, _, _, h, _ => h.elim
  | [], _ :: _, _, _, _, _, h, _ => by cases ‹Sg› <;> exact h.elim
  | _ :: _, [], _, _, _, _, h, _ => by cases ‹Sg› <;> exact h.elim
  | _ :: _, _ :: _, [], _, _, _, h, _ => h.elim
/-- what a slot held is let go -/
theorem SlF.drop : ∀ {Γ : List Ty} {ρ : Rho} {σ : Sg} {F : List Addr} (i : Nat) (x : Option V), SlF K G H Γ ρ σ F → ∃ F1 F2, (F1 ++ F2).Perm F ∧ SlF K G H Γ (ρ.set i none) (σ.set i x) F2
  | [], [], [], _, _, _, h => by
    have h := h
    exact ⟨[], _, List.Perm.refl _, by simpa using h⟩
  | t :: Γ, o :: ρ, s :: σ, F, 0, x, ⟨F1, F2, e, p, q⟩ => ⟨F1, F2, by rw [e], [], F2, rfl, rfl, q⟩
  | t :: Γ, o :: ρ, s :: σ, F, i + 1, x, ⟨F1, F2, e, p, q⟩ => by
    obtain ⟨F3, F4, e3, e5⟩ := SlF.drop i x q
    refine ⟨F3, F1 ++ F4, ?_, F1, F4, rfl, p, e5⟩
    rw [e]
    refine List.Perm.trans ?_ (List.Perm.append_left F1 e3)
    rw [← List.append_assoc, ← List.append_assoc]
    exact List.Perm.append_right _ List.perm_append_comm
  | [], [], _ :: _, _, _, _, h => h.elim
  | [], _ :: _, _, _, _, _, h => by cases ‹Sg› <;> exact h.elim
  | _ :: _, [], _, _, _, _, h => by cases ‹Sg› <;> exact h.elim
  | _ :: _, _ :: _, [], _, _, _, h => h.elim
/-- .. the name's value kept -/
theorem SlF.forget : ∀ {Γ : List Ty} {ρ : Rho} {σ : Sg} {F : List Addr} (i : Nat), SlF K G H Γ ρ σ F → ∃ F1 F2, (F1 ++ F2).Perm F ∧ SlF K G H Γ (ρ.set i none) σ F2
  | [], [], [], _, _, h => by
    have h := h
    exact ⟨[], _, List.Perm.refl _, by simpa using h⟩
  | t :: Γ, o :: ρ, s :: σ, F, 0, ⟨F1, F2, e, p, q⟩ => ⟨F1, F2, by rw [e], [], F2, rfl, rfl, q⟩
  | t :: Γ, o :: ρ, s :: σ, F, i + 1, ⟨F1, F2, e, p, q⟩ => by
    obtain ⟨F3, F4, e3, e5⟩ := SlF.forget i q
    refine ⟨F3, F1 ++ F4, ?_, F1, F4, rfl, p, e5⟩
    rw [e]
    refine List.Perm.trans ?_ (List.Perm.append_left F1 e3)
    rw [← List.append_assoc, ← List.append_assoc]
    exact List.Perm.append_right _ List.perm_append_comm
  | [], [], _ :: _, _, _, h => h.elim
  | [], _ :: _, _, _, _, h => by cases ‹Sg› <;> exact h.elim
  | _ :: _, [], _, _, _, h => by cases ‹Sg› <;> exact h.elim
  | _ :: _, _ :: _, [], _, _, h => h.elim
/-- a slot is filled -/
theorem SlF.put : ∀ {Γ : List Ty} {ρ : Rho} {σ : Sg} {F F1 : List Addr} {i : Nat} {t : Ty} {d : D} {v : V}, SlF K G H Γ ρ σ F → ρ[i]? = some none → Γ[i]? = some t → σ[i]? = some (some v) → Own K G H t d v F1 →
    ∃ F2, (F1 ++ F).Perm F2 ∧ SlF K G H Γ (ρ.set i (some d)) σ F2
  | [], [], [], _, _, _, _, _, _, _, e, _, _, _ => by simp at e
  | t :: Γ, o :: ρ, s :: σ, F, F1, 0, t', d, v, ⟨F3, F4, e, p, q⟩, e0, e1, e2, ow => by
    have e0 : o = none := by simpa using e0
    have e1 : t = t' := by simpa using e1
    have e2 : s = some v := by simpa using e2
    subst e0 e1 e2
    have p : F3 = [] := p
    subst p
    exact ⟨F1 ++ F4, by rw [e]; exact List.Perm.refl _, F1, F4, rfl, ⟨v, rfl, ow⟩, q⟩
  | t :: Γ, o :: ρ, s :: σ, F, F1, i + 1, t', d, v, ⟨F3, F4, e, p, q⟩, e0, e1, e2, ow => by
    obtain ⟨F5, e5, q5⟩ := SlF.put (i := i) (d := d) q (by simpa using e0) (by simpa using e1) (by simpa using e2) ow
    refine ⟨F3 ++ F5, ?_, F3, F5, rfl, p, q5⟩
    rw [e]
    refine List.Perm.trans ?_ (List.Perm.append_left F3 e5)
    rw [← List.append_assoc, ← List.append_assoc]
    exact List.Perm.append_right _ List.perm_append_comm
  | [], [], _ :: _, _, _, _, _, _, _, h, _, _, _, _ => h.elim
  | [], _ :: _, _, _, _, _, _, _, _, h, _, _, _, _ => by cases ‹Sg› <;> exact h.elim
  | _ :: _, [], _, _, _, _, _, _, _, h, _, _, _, _ => by cases ‹Sg› <;> exact h.elim
  | _ :: _, _ :: _, [], _, _, _, _, _, _, h, _, _, _, _ => h.elim
theorem SlF.lens : ∀ {Γ : List Ty} {ρ : Rho} {σ : Sg} {F : List Addr}, SlF K G H Γ ρ σ F → Γ.length = σ.length ∧ ρ.length = σ.length
  | [], [], [], _, _ => ⟨rfl, rfl⟩
  | t :: Γ, o :: ρ, s :: σ, F, ⟨F1, F2, e, p, q⟩ => by
    obtain ⟨a, b⟩ := q.lens
    exact ⟨by simp [a], by simp [b]⟩
  | [], [], _ :: _, _, h => h.elim
  | [], _ :: _, _, _, h => by cases ‹Sg› <;> exact h.elim
  | _ :: _, [], _, _, h => by cases ‹Sg› <;> exact h.elim
  | _ :: _, _ :: _, [], _, h => h.elim
end
end Vw
namespace Vw
open PySem PySem.Spec PyProof.Rows L2
/-! ### the terms -/
inductive Ar where
  | add | sub | mul | fdiv | mod | pow
  deriving DecidableEq
inductive Cm where
  | lt | le | gt | ge
  deriving DecidableEq
inductive B1 where
  | len | tup | lst | sum | mn | mx | srt | all | any | abs | int
  deriving DecidableEq
inductive B2 where
  | mn | mx
  deriving DecidableEq
inductive Ik where
  | l | t | b | i | s | lt | tl
  deriving DecidableEq
mutual
inductive Tg where
  | n (i : Nat) | t (l : Tgs)
inductive Tgs where
  | nil | cons (a : Tg) (l : Tgs)
end
mutual
inductive E where
  | v (i : Nat) | mv (i : Nat) | k (d : D) | gl (x : Str) (d : D)
  | neg (a : E) | ar (o : Ar) (a b : E) | cm (o : Cm) (a b : E) | ch (o o2 : Cm) (a b c : E)
  | eq (ng : Bool) (a b : E) | isn (ng : Bool) (a : E)
  | no (t : T) | an (a b : E) | orr (a b : E) | ife (t : T) (a b : E)
  | tup (es : Es) | lst (es : Es)
  | tcat (a b : E) | trep (a b : E) | lcat (a b : O) | lrep (a : O) (b : E)
  | ix (o : O) (e : E) | ix2 (i : Nat) (a b : E) | slc (o : O) (lo hi : Oe)
  | b1 (f : B1) (o : O) | b2 (f : B2) (a b : E)
  | inn (ng : Bool) (a : E) (o : O)
  | ind (ng : Bool) (a b : E) | ch3 (o o2 o3 : Cm) (a b c d : E) | isi (k : Ik) (o : O) | rep (a : E) | isb (ng v : Bool) (a : E)
  | ins (ng : Bool) (a : E) (i : Nat)
  | call (f : Str) (as : As)
  | comp (elt : E) (tg : Tg) (it : Iv) (cd : Ot) (ws : List Nat)
  | pop (i : Nat) | popat (i : Nat) (e : E)
inductive T where
  | e (a : E) | sl (i : Nat) | an (a b : T) | orr (a b : T) | no (a : T)
inductive Ot where
  | no | so (t : T)
inductive Es where
  | nil | cons (e : E) (es : Es)
inductive O where
  | e (a : E) | s (i : Nat)
inductive Oe where
  | no | so (e : E)
inductive As where
  | nil | fr (e : E) (as : As) | io (i : Nat) (as : As) | bo (i : Nat) (as : As)
inductive Iv where
  | o (o : O) | r1 (a : E) | r2 (a b : E) | r3 (a b c : E) | en (o : O) | zp (a b : E)
end
mutual
inductive Hx where
  | v (i : Nat) | k (d : D) | xf (f : Str) | tup (l : Hxs) | ise (c : Str) (b : Bool) | isf (k : Ik) (f : Str) | eq (a b : Hx) | no (a : Hx) | an (a b : Hx) | orr (a b : Hx) | ife (t a b : Hx)
inductive Hxs where
  | nil | cons (a : Hx) (l : Hxs)
end
/-- an except suite: returns -/
inductive Hs where
  | ret (a : Hx) | ifr (t a : Hx) (r : Hs)
mutual
inductive S where
  | set (i : Nat) (e : E) | unp (tg : Tg) (e : E) | par (i j : Nat) (a b : E) | aug (i : Nat) (o : Ar) (e : E)
  | app (i : Nat) (e : E) | sti (i : Nat) (a e : E) | sti2 (i : Nat) (a b e : E)
  | ex (e : E) | ife (t : T) (a b : Ss) | for (tg : Tg) (it : Iv) (b : Ss) | wh (t : T) (b : Ss)
  | ret (e : E) | retn | brk | cnt | pas | kill (l : List Nat)
  | rse (c : Str) (ns : List Str) (es : Es) | cx (f : Str) (es : Es) | rtx (f : Str) (es : Es) | sx (i : Nat) (f : Str) (es : Es) | ifx (ng : Bool) (f : Str) (es : Es) (a b : Ss) | tr (b : Ss) (c : Str) (i : Nat) (h : Hs)
inductive Ss where
  | nil | cons (s : S) (ss : Ss) | fz (i : Nat) (ss : Ss) | reb (i : Nat) (t : Ty) (e : E) (ss : Ss)
end

/-! ### what they give -/
abbrev Fs := List (Str × D)
/-- what a def that may raise gives -/
inductive Xr where
  | ret (d : D) (o : List D) | exn (c : Str) (fs : Fs)
structure Cf where
  fn : Str → List D → Option (D × List D)
  W : Nat
  fx : Str → List D → Option Xr := fun _ _ => none
inductive Rs where
  | nx (ρ : Rho) | ret (d : D) (ρ : Rho) | brk (ρ : Rho) | cnt (ρ : Rho) | exn (c : Str) (fs : Fs) (ρ : Rho)
def arD : Ar → D → D → Option D
  | .add, .int i, .int j => some (.int (i + j))
  | .sub, .int i, .int j => some (.int (i - j))
  | .mul, .int i, .int j => if (-(2 ^ 64) < i ∧ i < 2 ^ 64) ∨ (-(2 ^ 64) < j ∧ j < 2 ^ 64) then some (.int (i * j)) else none
  | .fdiv, .int i, .int j => if 0 < j ∧ j < 1073741824 then some (.int (i / j)) else none
  | .mod, .int i, .int j => if 0 < j then some (.int (i % j)) else none
  | .pow, .int i, .int j => if 0 ≤ j ∧ j ≤ 1000000 ∧ i.natAbs < 2 ^ 64 then some (.int (i ^ j.toNat)) else none
  | _, _, _ => none
def cmI : Cm → Int → Int → Bool
  | .lt, i, j => decide (i < j)
  | .le, i, j => decide (i ≤ j)
  | .gt, i, j => decide (j < i)
  | .ge, i, j => decide (j ≤ i)
def cmD : Cm → D → D → Option Bool
  | o, .int i, .int j => some (cmI o i j)
  | _, _, _ => none
def eqD (ng : Bool) (x y : D) : Option D := if SeqAt.shaped x = true ∧ SeqAt.shaped y = true then some (.bool (PyData.eqv x y != ng)) else none
def isNone : D → Bool
  | .none => true
  | _ => false
def truD : D → Option Bool
  | .none => some false
  | .bool b => some b
  | .int i => some (i != 0)
  | .list l => some (!l.isEmpty)
  | .tuple l => some (!l.isEmpty)
  | _ => none
def seqD : D → Option (List D)
  | .list l => some l
  | .tuple l => some l
  | _ => none
def ixL (l : List D) (d : D) : Option D := match d with
  | .int i => atI l i
  | _ => none
def ixD (x d : D) : Option D := match x with
  | .list l => ixL l d
  | .tuple l => ixL l d
  | _ => none
def intsD : List D → Option (List Int)
  | [] => some []
  | .int i :: r => (intsD r).map (i :: ·)
  | _ => none
def boolsD : List D → Option (List Bool)
  | [] => some []
  | .bool i :: r => (boolsD r).map (i :: ·)
  | _ => none
def minL : List Int → Option Int
  | [] => none
  | [x] => some x
  | x :: r => (minL r).map fun y => if y < x then y else x
def maxL : List Int → Option Int
  | [] => none
  | [x] => some x
  | x :: r => (maxL r).map fun y => if x < y then y else x
def insI (x : Int) : List Int → List Int
  | [] => [x]
  | y :: r => if x ≤ y then x :: y :: r else y :: insI x r
def sortI : List Int → List Int
  | [] => []
  | x :: r => insI x (sortI r)
/-- the lists that a cut gives -/
def BT : Int := 4294967296
def tupD : D → Option (List Int)
  | .tuple l => intsD l
  | _ => none
def tupsD : List D → Option (List (List Int))
  | [] => some []
  | d :: r => (tupD d).bind fun t => (tupsD r).map (t :: ·)
def insT (x : List Int) : List (List Int) → List (List Int)
  | [] => [x]
  | y :: r => if TS.code BT x ≤ TS.code BT y then x :: y :: r else y :: insT x r
def sortT : List (List Int) → List (List Int)
  | [] => []
  | x :: r => insT x (sortT r)
def tOkB (d : Nat) (t : List Int) : Bool := decide (t.length = d) && t.all fun m => decide (0 ≤ m ∧ m < BT)
def tupL (t : List Int) : D := .tuple (t.map .int)
def srtD (l : List D) : Option D := match intsD l with
  | some ns => if ns.length < 64 then some (.list ((sortI ns).map .int)) else none
  | none => (tupsD l).bind fun ts => if ts.length < 64 ∧ 1 ≤ (ts.headD []).length ∧ ts.all (tOkB (ts.headD []).length) = true then some (.list ((sortT ts).map tupL)) else none
def cutD (l : List D) (lo hi : Option Int) : List D := (l.drop (HT.sIx l.length 0 lo)).take (HT.sIx l.length l.length hi - HT.sIx l.length 0 lo)
def flatD : D → Bool
  | .none => true
  | .bool _ => true
  | .int _ => true
  | .str _ => true
  | _ => false
def b1D : B1 → D → Option D
  | .len, .list l => some (.int l.length)
  | .len, .tuple l => some (.int l.length)
  | .tup, .list l => some (.tuple l)
  | .tup, .tuple l => some (.tuple l)
  | .lst, .list l => some (.list l)
  | .lst, .tuple l => some (.list l)
  | .sum, .list l => (intsD l).map fun ns => .int ns.sum
  | .mn, .list l => (intsD l).bind fun ns => (minL ns).map .int
  | .mx, .list l => (intsD l).bind fun ns => (maxL ns).map .int
  | .srt, .list l => srtD l
  | .all, .list l => (boolsD l).map fun bs => .bool (bs.all id)
  | .any, .list l => (boolsD l).map fun bs => .bool (bs.any id)
  | .abs, .int i => some (.int (if i < 0 then -i else i))
  | .int, .int i => some (.int i)
  | .int, .bool b => some (.int (if b then 1 else 0))
  | _, _ => none
def b2D : B2 → D → D → Option D
  | .mn, .int i, .int j => some (.int (if j < i then j else i))
  | .mx, .int i, .int j => some (.int (if j > i then j else i))
  | _, _, _ => none
def lenOk (n : Nat) : Bool := decide (n ≤ sizeLine)
def lcatD : D → D → Option D
  | .list a, .list b => if lenOk (a.length + b.length) = true then some (.list (a ++ b)) else none
  | _, _ => none
def tcatD : D → D → Option D
  | .tuple a, .tuple b => if lenOk (a.length + b.length) = true then some (.tuple (a ++ b)) else none
  | _, _ => none
def repN (k : Nat) (l : List D) : List D := (List.replicate k l).flatten
def lrepD : D → D → Option D
  | .list a, .int k => if -(2 ^ 63) ≤ k ∧ k < 2 ^ 63 ∧ lenOk (a.length * k.toNat) = true then some (.list (repN k.toNat a)) else none
  | _, _ => none
def trepD : D → D → Option D
  | .tuple a, .int k => if a.isEmpty = false ∧ a.length ≤ 1000 ∧ 0 ≤ k ∧ k ≤ 1000 then some (.tuple (repN k.toNat a)) else none
  | _, _ => none
def slcD : D → Option Int → Option Int → Option D
  | .list l, lo, hi => some (.list (cutD l lo hi))
  | .tuple l, lo, hi => some (.tuple (cutD l lo hi))
  | _, _, _ => none
def innD (ng : Bool) (a : D) (s : D) : Option D := (seqD s).bind fun l => if flatD a = true ∧ l.all flatD = true then some (.bool (l.any (fun x => PyData.eqv x a) != ng)) else none
def indD (ng : Bool) (a : D) : D → Option D
  | .list l => if SeqAt.shaped a = true ∧ SeqAt.shaped (.list l) = true then some (.bool (l.any (fun x => PyData.eqv x a) != ng)) else none
  | _ => none
def isiD : Ik → D → Option Bool
  | _, .dict _ => none
  | .l, .list _ => some true
  | .t, .tuple _ => some true
  | .b, .bool _ => some true
  | .i, .int _ => some true
  | .i, .bool _ => some true
  | .s, .str _ => some true
  | .lt, .list _ => some true
  | .lt, .tuple _ => some true
  | .tl, .list _ => some true
  | .tl, .tuple _ => some true
  | _, _ => some false
def repD : D → Option D
  | .bool true => some (.str "True")
  | .bool false => some (.str "False")
  | _ => none
def get (ρ : Rho) (i : Nat) : Option D := (ρ[i]?).bind id
def put (ρ : Rho) (i : Nat) (d : D) : Rho := ρ.set i (some d)
def wipeD (ρ : Rho) : List Nat → Rho
  | [] => ρ
  | i :: r => (wipeD ρ r).set i none
def litD : List D → Option D → Option (List D)
  | l, none => some l
  | l, some d => some (l ++ [d])
mutual
def tgD : Tg → D → Rho → Option Rho
  | .n i, d, ρ => some (put ρ i d)
  | .t l, .tuple ds, ρ => tgsD l ds ρ
  | .t l, .list ds, ρ => tgsD l ds ρ
  | .t _, _, _ => none
def tgsD : Tgs → List D → Rho → Option Rho
  | .nil, [], ρ => some ρ
  | .cons a l, d :: ds, ρ => (tgD a d ρ).bind fun ρ' => tgsD l ds ρ'
  | _, _, _ => none
end
inductive Ag where
  | d (d : D) | io (i : Nat) | bo (i : Nat)
def agD (ρ : Rho) : Ag → Option D
  | .d d => some d
  | .io i => get ρ i
  | .bo i => get ρ i
def agsD (ρ : Rho) : List Ag → Option (List D)
  | [] => some []
  | a :: r => (agD ρ a).bind fun d => (agsD ρ r).map (d :: ·)
def backD : List Ag → List D → Rho → Option Rho
  | [], [], ρ => some ρ
  | .io i :: r, d :: ds, ρ => backD r ds (put ρ i d)
  | .d _ :: r, _ :: ds, ρ => backD r ds ρ
  | .bo _ :: r, _ :: ds, ρ => backD r ds ρ
  | _, _, _ => none
def isBo : Ag → Bool
  | .bo _ => true
  | _ => false
def callD (c : Cf) (f : Str) (as : List Ag) (ρ : Rho) : Option (D × Rho) :=
  (agsD ρ as).bind fun ds => (c.fn f ds).bind fun r => if as.any isBo = true then (if scalar r.1 = true then some (r.1, ρ) else none) else (backD as r.2 ρ).map fun ρ' => (r.1, ρ')
def rngD (lo : Int) (n : Nat) : List D := (List.range n).map fun (i : Nat) => .int (lo + i)
def inR (i : Int) : Bool := decide (-(2 ^ 62) ≤ i ∧ i < 2 ^ 62)
def rngC (lo c : Int) (n : Nat) : List D := (List.range n).map fun (i : Nat) => .int (lo + i * c)
def enumD (l : List D) : List D := (List.range l.length).map fun (i : Nat) => .tuple [.int (i : Nat), l.getD i .none]
def zipD (a b : List D) : List D := (List.range (min a.length b.length)).map fun i => .tuple [a.getD i .none, b.getD i .none]
/-- what is walked, held meanwhile -/
def oeD : O → Option Nat
  | .s i => some i
  | .e _ => none
def restD : List (Nat × D) → Rho → Option Rho
  | [], ρ => some ρ
  | (i, d) :: r, ρ => (restD r ρ).bind fun ρ' => match ρ'[i]? with
    | some none => some (put ρ' i d)
    | _ => none
def forL (f : D → Rho → Option Rs) : List D → Rho → Option Rs
  | [], ρ => some (.nx ρ)
  | d :: ds, ρ => (f d ρ).bind fun r => match r with
    | .nx ρ' => forL f ds ρ'
    | .cnt ρ' => forL f ds ρ'
    | .brk ρ' => some (.nx ρ')
    | .ret d ρ' => some (.ret d ρ')
    | .exn x fs ρ' => some (.exn x fs ρ')
def whL (t : Rho → Option (Bool × Rho)) (f : Rho → Option Rs) : Nat → Rho → Option Rs
  | 0, _ => none
  | n + 1, ρ => (t ρ).bind fun b => if b.1 = true then (f b.2).bind fun r => match r with
      | .nx ρ' => whL t f n ρ'
      | .cnt ρ' => whL t f n ρ'
      | .brk ρ' => some (.nx ρ')
      | .ret d ρ' => some (.ret d ρ')
      | .exn x fs ρ' => some (.exn x fs ρ')
    else some (.nx b.2)
def compL (f : D → Rho → Option (Option D × Rho)) : List D → Rho → Option (List D × Rho)
  | [], ρ => some ([], ρ)
  | d :: ds, ρ => (f d ρ).bind fun r => (compL f ds r.2).map fun q => (match r.1 with
    | none => q.1
    | some x => x :: q.1, q.2)
def rsWipe (i : Nat) : Rs → Rs
  | .nx ρ => .nx (ρ.set i none)
  | .ret d ρ => .ret d (ρ.set i none)
  | .brk ρ => .brk (ρ.set i none)
  | .cnt ρ => .cnt (ρ.set i none)
  | .exn x fs ρ => .exn x fs (ρ.set i none)
def rsBack (sv : List (Nat × D)) : Rs → Option Rs
  | .nx ρ => (restD sv ρ).map .nx
  | r => some r
section
variable (c : Cf)
mutual
def ev : E → Rho → Option (D × Rho)
  | .v i, ρ => (get ρ i).map fun d => (d, ρ)
  | .mv i, ρ => (get ρ i).map fun d => (d, ρ.set i none)
  | .k d, ρ => some (d, ρ)
  | .gl _ d, ρ => some (d, ρ)
  | .neg a, ρ => (ev a ρ).bind fun r => match r.1 with
    | .int i => some (.int (-i), r.2)
    | _ => none
  | .ar o a b, ρ => (ev a ρ).bind fun r => (ev b r.2).bind fun q => (arD o r.1 q.1).map fun d => (d, q.2)
  | .cm o a b, ρ => (ev a ρ).bind fun r => (ev b r.2).bind fun q => (cmD o r.1 q.1).map fun d => (.bool d, q.2)
  | .ch o o2 a b e, ρ => (ev a ρ).bind fun r => (ev b r.2).bind fun q => (cmD o r.1 q.1).bind fun t =>
      if t = true then (ev e q.2).bind fun p => (cmD o2 q.1 p.1).map fun d => (.bool d, p.2) else some (.bool false, q.2)
  | .eq ng a b, ρ => (ev a ρ).bind fun r => (ev b r.2).bind fun q => (eqD ng r.1 q.1).map fun d => (d, q.2)
  | .isn ng a, ρ => (ev a ρ).map fun r => (.bool (isNone r.1 != ng), r.2)
  | .no a, ρ => (evT a ρ).map fun r => (.bool (!r.1), r.2)
  | .an a b, ρ => (ev a ρ).bind fun r => match r.1 with
    | .bool t => if t = true then ev b r.2 else some (.bool false, r.2)
    | _ => none
  | .orr a b, ρ => (ev a ρ).bind fun r => match r.1 with
    | .bool t => if t = true then some (.bool true, r.2) else ev b r.2
    | _ => none
  | .ife t a b, ρ => (evT t ρ).bind fun r => if r.1 = true then ev a r.2 else ev b r.2
  | .tup es, ρ => (evs es ρ).bind fun r => if lenOk r.1.length = true then some (.tuple r.1, r.2) else none
  | .lst es, ρ => (evs es ρ).bind fun r => if lenOk r.1.length = true then some (.list r.1, r.2) else none
  | .tcat a b, ρ => (ev a ρ).bind fun r => (ev b r.2).bind fun q => (tcatD r.1 q.1).map fun d => (d, q.2)
  | .trep a b, ρ => (ev a ρ).bind fun r => (ev b r.2).bind fun q => (trepD r.1 q.1).map fun d => (d, q.2)
  | .lcat a b, ρ => (evO a ρ).bind fun r => (evO b r.2).bind fun q => (lateD a r.1 q.2).bind fun x => (lcatD x q.1).map fun d => (d, q.2)
  | .lrep a b, ρ => (evO a ρ).bind fun r => (ev b r.2).bind fun q => (lateD a r.1 q.2).bind fun x => (lrepD x q.1).map fun d => (d, q.2)
  | .ix a b, ρ => (evO a ρ).bind fun r => (ev b r.2).bind fun q => (lateD a r.1 q.2).bind fun x => (ixD x q.1).map fun d => (d, q.2)
  | .ix2 i a b, ρ => (get ρ i).bind fun _ => (ev a ρ).bind fun r => (ev b r.2).bind fun q => (get q.2 i).bind fun x => (ixD x r.1).bind fun y => (ixD y q.1).map fun d => (d, q.2)
  | .slc a lo hi, ρ => (evO a ρ).bind fun r => (evOe lo r.2).bind fun q => (evOe hi q.2).bind fun p => (lateD a r.1 p.2).bind fun x => (slcD x q.1 p.1).map fun d => (d, p.2)
  | .b1 f a, ρ => (evO a ρ).bind fun r => (b1D f r.1).map fun d => (d, r.2)
  | .b2 f a b, ρ => (ev a ρ).bind fun r => (ev b r.2).bind fun q => (b2D f r.1 q.1).map fun d => (d, q.2)
  | .inn ng a b, ρ => (ev a ρ).bind fun r => (evO b r.2).bind fun q => (innD ng r.1 q.1).map fun d => (d, q.2)
  | .ind ng a b, ρ => (ev a ρ).bind fun r => (ev b r.2).bind fun q => (indD ng r.1 q.1).map fun d => (d, q.2)
  | .ch3 o o2 o3 a b e f, ρ => (ev a ρ).bind fun r => (ev b r.2).bind fun q => (cmD o r.1 q.1).bind fun t =>
      if t = true then (ev e q.2).bind fun p => (cmD o2 q.1 p.1).bind fun t2 =>
        if t2 = true then (ev f p.2).bind fun p2 => (cmD o3 p.1 p2.1).map fun d => (.bool d, p2.2) else some (.bool false, p.2)
      else some (.bool false, q.2)
  | .isi k a, ρ => (evO a ρ).bind fun r => (isiD k r.1).map fun b => (.bool b, r.2)
  | .ins ng a i, ρ => (ev a ρ).bind fun r => (get r.2 i).bind fun x => (indD ng r.1 x).map fun d => (d, r.2)
  | .isb ng v a, ρ => (ev a ρ).bind fun r => match r.1 with
    | .bool b => some (.bool (decide (b = v) != ng), r.2)
    | _ => none
  | .rep a, ρ => (ev a ρ).bind fun r => (repD r.1).map fun d => (d, r.2)
  | .call f as, ρ => (evA as ρ).bind fun r => callD c f r.1 r.2
  | .comp elt tg it cd ws, ρ => (evI it ρ).bind fun r => (compL (fun d ρ => (tgD tg d ρ).bind fun ρ1 => (evC cd ρ1).bind fun b =>
      if b.1 = true then (ev elt b.2).map fun q => (some q.1, wipeD q.2 ws) else some (none, wipeD b.2 ws)) r.1 (wipeD r.2.1 ws)).bind fun q =>
        if lenOk q.1.length = true then (restD r.2.2 q.2).map fun ρ' => (.list q.1, ρ') else none
  | .pop i, ρ => (get ρ i).bind fun x => match x with
    | .list l => (l[l.length - 1]?).map fun d => (d, put ρ i (.list l.dropLast))
    | _ => none
  | .popat i e, ρ => (get ρ i).bind fun x0 => match x0 with
    | .list _ => (ev e ρ).bind fun r => (get r.2 i).bind fun x => match x, r.1 with
      | .list l, .int j => if -(2 ^ 63) ≤ j ∧ j < 2 ^ 63 then (seqIndex? j l.length).bind fun k => (l[k]?).map fun d => (d, put r.2 i (.list (l.eraseIdx k))) else none
      | _, _ => none
    | _ => none
def evT : T → Rho → Option (Bool × Rho)
  | .an a b, ρ => (evT a ρ).bind fun r => if r.1 = true then evT b r.2 else some (false, r.2)
  | .orr a b, ρ => (evT a ρ).bind fun r => if r.1 = true then some (true, r.2) else evT b r.2
  | .no a, ρ => (evT a ρ).map fun r => (!r.1, r.2)
  | .sl i, ρ => (get ρ i).bind fun d => (truD d).map fun b => (b, ρ)
  | .e e, ρ => (ev e ρ).bind fun r => (truD r.1).map fun b => (b, r.2)
def evs : Es → Rho → Option (List D × Rho)
  | .nil, ρ => some ([], ρ)
  | .cons e es, ρ => (ev e ρ).bind fun r => (evs es r.2).map fun q => (r.1 :: q.1, q.2)
def evO : O → Rho → Option (D × Rho)
  | .e a, ρ => ev a ρ
  | .s i, ρ => (get ρ i).map fun d => (d, ρ)
def lateD : O → D → Rho → Option D
  | .e _, d, _ => some d
  | .s i, _, ρ => get ρ i
def evOe : Oe → Rho → Option (Option Int × Rho)
  | .no, ρ => some (none, ρ)
  | .so e, ρ => (ev e ρ).bind fun r => match r.1 with
    | .int i => some (some i, r.2)
    | _ => none
def evC : Ot → Rho → Option (Bool × Rho)
  | .no, ρ => some (true, ρ)
  | .so e, ρ => evT e ρ
def evA : As → Rho → Option (List Ag × Rho)
  | .nil, ρ => some ([], ρ)
  | .fr e as, ρ => (ev e ρ).bind fun r => (evA as r.2).map fun q => (.d r.1 :: q.1, q.2)
  | .io i as, ρ => (get ρ i).bind fun _ => (evA as ρ).map fun q => (.io i :: q.1, q.2)
  | .bo i as, ρ => (get ρ i).bind fun _ => (evA as ρ).map fun q => (.bo i :: q.1, q.2)
def evI : Iv → Rho → Option (List D × Rho × List (Nat × D))
  | .o a, ρ => (evW a ρ).bind fun r => (seqD r.1).map fun l => (l, r.2)
  | .r1 a, ρ => (ev a ρ).bind fun r => match r.1 with
    | .int j => if inR j = true then some (rngD 0 j.toNat, r.2, []) else none
    | _ => none
  | .r2 a b, ρ => (ev a ρ).bind fun r => (ev b r.2).bind fun q => match r.1, q.1 with
    | .int i, .int j => if inR i = true ∧ inR j = true then some (rngD i (j - i).toNat, q.2, []) else none
    | _, _ => none
  | .r3 a b e, ρ => (ev a ρ).bind fun r => (ev b r.2).bind fun q => (ev e q.2).bind fun p => match r.1, q.1, p.1 with
    | .int i, .int j, .int c => if inR i = true ∧ inR j = true ∧ c = -1 then some (rngC i c (i - j).toNat, p.2, []) else none
    | _, _, _ => none
  | .en a, ρ => (evW a ρ).bind fun r => (seqD r.1).map fun l => (enumD l, r.2)
  | .zp a b, ρ => (ev a ρ).bind fun r => (ev b r.2).bind fun q => match r.1, q.1 with
    | .list x, .list y => some (zipD x y, q.2, [])
    | .tuple x, .tuple y => some (zipD x y, q.2, [])
    | _, _ => none
def evW : O → Rho → Option (D × Rho × List (Nat × D))
  | .e a, ρ => (ev a ρ).map fun r => (r.1, r.2, [])
  | .s i, ρ => (get ρ i).map fun d => (d, ρ.set i none, [(i, d)])
end
/-- of an exception of the class x with the fields fs -/
def isfD (k : Ik) (d : D) : Option Bool := match k, d with
  | .i, .int _ => some true
  | .s, .str _ => some true
  | _, _ => none
mutual
def hxD (x : Str) (fs : Fs) (ρ : Rho) : Hx → Option D
  | .v i => get ρ i
  | .k d => if scalar d = true then some d else none
  | .xf f => fs.lookup f
  | .tup l => (hxsD x fs ρ l).bind fun ds => if lenOk ds.length = true then some (.tuple ds) else none
  | .ise c b => if c = x then some (.bool b) else none
  | .isf k f => (fs.lookup f).bind fun d => (isfD k d).map .bool
  | .eq a b => (hxD x fs ρ a).bind fun d => (hxD x fs ρ b).bind fun e => eqD false d e
  | .no a => (hxD x fs ρ a).bind fun d => match d with
    | .bool t => some (.bool (!t))
    | _ => none
  | .an a b => (hxD x fs ρ a).bind fun d => match d with
    | .bool t => if t = true then hxD x fs ρ b else some (.bool false)
    | _ => none
  | .orr a b => (hxD x fs ρ a).bind fun d => match d with
    | .bool t => if t = true then some (.bool true) else hxD x fs ρ b
    | _ => none
  | .ife t a b => (hxD x fs ρ t).bind fun d => match d with
    | .bool z => if z = true then hxD x fs ρ a else hxD x fs ρ b
    | _ => none
def hxsD (x : Str) (fs : Fs) (ρ : Rho) : Hxs → Option (List D)
  | .nil => some []
  | .cons a l => (hxD x fs ρ a).bind fun d => (hxsD x fs ρ l).map (d :: ·)
end
def hsD (x : Str) (fs : Fs) (ρ : Rho) : Hs → Option D
  | .ret a => hxD x fs ρ a
  | .ifr t a r => (hxD x fs ρ t).bind fun d => match d with
    | .bool z => if z = true then hxD x fs ρ a else hsD x fs ρ r
    | _ => none
/-- behind a call that may raise -/
def xcD (ρ : Rho) (k : D → Option Rs) : Xr → Option Rs
  | .ret d _ => k d
  | .exn x fs => some (.exn x fs ρ)
mutual
def exS : S → Rho → Option Rs
  | .set i e, ρ => (ev c e ρ).map fun r => .nx (put r.2 i r.1)
  | .unp tg e, ρ => (ev c e ρ).bind fun r => (tgD tg r.1 r.2).map .nx
  | .par i j a b, ρ => (ev c a ρ).bind fun r => (ev c b r.2).map fun q => .nx (put (put q.2 i r.1) j q.1)
  | .aug i o e, ρ => (get ρ i).bind fun x => (ev c e ρ).bind fun r => (arD o x r.1).map fun d => .nx (put r.2 i d)
  | .app i e, ρ => (get ρ i).bind fun x0 => match x0 with
    | .list _ => (ev c e ρ).bind fun r => (get r.2 i).bind fun x => match x with
      | .list l => if l.length < sizeLine then some (.nx (put r.2 i (.list (l ++ [r.1])))) else none
      | _ => none
    | _ => none
  | .sti i a e, ρ => (ev c e ρ).bind fun r => (get r.2 i).bind fun _ => (ev c a r.2).bind fun q => (get q.2 i).bind fun x => match x, q.1 with
    | .list l, .int j => (ixN l.length j).map fun k => .nx (put q.2 i (.list (l.set k r.1)))
    | _, _ => none
  | .sti2 i a b e, ρ => (ev c e ρ).bind fun r => (get r.2 i).bind fun _ => (ev c a r.2).bind fun q => (ev c b q.2).bind fun p => (get p.2 i).bind fun x => match x, q.1, p.1 with
    | .list m, .int j, .int j2 => (ixN m.length j).bind fun k => (m[k]?).bind fun y => match y with
      | .list l => (ixN l.length j2).map fun k2 => .nx (put p.2 i (.list (m.set k (.list (l.set k2 r.1)))))
      | _ => none
    | _, _, _ => none
  | .ex e, ρ => (ev c e ρ).map fun r => .nx r.2
  | .ife t a b, ρ => (evT c t ρ).bind fun r => if r.1 = true then exSs a r.2 else exSs b r.2
  | .for tg it b, ρ => (evI c it ρ).bind fun r => (forL (fun d ρ => (tgD tg d ρ).bind fun ρ1 => exSs b ρ1) r.1 r.2.1).bind fun q => rsBack r.2.2 q
  | .wh t b, ρ => whL (fun ρ => evT c t ρ) (fun ρ => exSs b ρ) c.W ρ
  | .ret e, ρ => (ev c e ρ).map fun r => .ret r.1 r.2
  | .retn, ρ => some (.ret .none ρ)
  | .brk, ρ => some (.brk ρ)
  | .cnt, ρ => some (.cnt ρ)
  | .pas, ρ => some (.nx ρ)
  | .kill l, ρ => some (.nx (wipeD ρ l))
  | .rse x ns es, ρ => (evs c es ρ).bind fun r => if ns.length = r.1.length then some (.exn x (ns.zip r.1) r.2) else none
  | .cx f es, ρ => (evs c es ρ).bind fun r => (c.fx f r.1).bind (xcD r.2 fun _ => some (.nx r.2))
  | .rtx f es, ρ => (evs c es ρ).bind fun r => (c.fx f r.1).bind (xcD r.2 fun d => some (.ret d r.2))
  | .sx i f es, ρ => (evs c es ρ).bind fun r => (c.fx f r.1).bind (xcD r.2 fun d => some (.nx (put r.2 i d)))
  | .ifx ng f es a b, ρ => (evs c es ρ).bind fun r => (c.fx f r.1).bind (xcD r.2 fun d => if (isNone d != ng) = true then exSs a r.2 else exSs b r.2)
  | .tr b x i h, ρ => (exSs b ρ).bind fun r => match r with
    | .exn y fs ρ' => if y = x ∧ i < ρ'.length then (hsD y fs (ρ'.set i none) h).map fun d => .ret d (ρ'.set i none) else none
    | r => some r
def exSs : Ss → Rho → Option Rs
  | .nil, ρ => some (.nx ρ)
  | .cons s ss, ρ => (exS s ρ).bind fun r => match r with
    | .nx ρ' => exSs ss ρ'
    | r => some r
  | .fz i ss, ρ => (exSs ss ρ).map (rsWipe i)
  | .reb i _ e ss, ρ => (ev c e ρ).bind fun r => (exSs ss (put r.2 i r.1)).map (rsWipe i)
end
/-- a def at data: its value, its parameters' lists behind it -/
def fout : List Ty → List D → Rho → Option (List D)
  | [], [], _ => some []
  | .fro :: ts, d :: ds, _ :: ρ => (fout ts ds ρ).map (d :: ·)
  | .lst _ :: ts, _ :: ds, some d :: ρ => (fout ts ds ρ).map (d :: ·)
  | _, _, _ => none
def evF (ps : List Ty) (n : Nat) (b : Ss) (ds : List D) : Option (D × List D) :=
  (exSs c b (ds.map some ++ List.replicate (n - ds.length) none)).bind fun r => match r with
    | .nx ρ => (fout ps ds ρ).map fun o => (.none, o)
    | .ret d ρ => (fout ps ds ρ).map fun o => (d, o)
    | _ => none
/-- .. one that may raise -/
def evX (ps : List Ty) (n : Nat) (b : Ss) (ds : List D) : Option Xr :=
  (exSs c b (ds.map some ++ List.replicate (n - ds.length) none)).bind fun r => match r with
    | .nx ρ => (fout ps ds ρ).map fun o => .ret .none o
    | .ret d ρ => (fout ps ds ρ).map fun o => .ret d o
    | .exn x fs _ => some (.exn x fs)
    | _ => none
end
end Vw
namespace Vw
open PySem PySem.Spec PyProof.Rows L2
/-! ### the state of a def's body against its data -/
structure Fr where
  H0 : Hp
  G0 : Hp
  FP : List Addr
  pins : List (Nat × V)
structure FrOk (fr : Fr) (G H : Hp) (σ : Sg) : Prop where
  keep : ∀ a o, fr.H0 a = some o → a ∉ fr.FP → H a = some o
  mono : ∀ a, H a = none → fr.H0 a = none
  sG : Same fr.G0 G
  nG : ∀ a, G a ≠ none → fr.G0 a ≠ none ∨ a ∈ fr.FP ∨ fr.H0 a = none
  pin : ∀ p ∈ fr.pins, σ[p.1]? = some (some p.2)
structure SRd (fr : Fr) (K : PySem.W.Frag) (G : Hp) (F1 F2 : List Addr) (Γ : List Ty) (ρ : Rho) (σ : Sg) (ts : List Tm) (H : Hp) : Prop where
  sub : Same G H
  sl : SlF K G H Γ ρ σ F1
  tm : TmF K G H ts F2
  nd : (F1 ++ F2).Nodup
  out : ∀ a ∈ F1 ++ F2, G a = none ∧ (a ∈ fr.FP ∨ fr.H0 a = none)
  ok : FrOk fr G H σ
def SR (fr : Fr) (K : PySem.W.Frag) (Γ : List Ty) (ρ : Rho) (σ : Sg) (ts : List Tm) (H : Hp) : Prop := ∃ G F1 F2, SRd fr K G F1 F2 Γ ρ σ ts H

theorem TmF.app {K : PySem.W.Frag} {G H : Hp} : ∀ {ts us : List Tm} {F : List Addr}, TmF K G H (ts ++ us) F → ∃ F1 F2, F = F1 ++ F2 ∧ TmF K G H ts F1 ∧ TmF K G H us F2
  | [], us, F, h => ⟨[], F, rfl, rfl, h⟩
  | x :: ts, us, F, ⟨F1, F2, e, p, q⟩ => by
    obtain ⟨F3, F4, e2, q1, q2⟩ := TmF.app (ts := ts) q
    exact ⟨F1 ++ F3, F4, by rw [e, e2, List.append_assoc], ⟨F1, F3, rfl, p, q1⟩, q2⟩
theorem TmF.of_app {K : PySem.W.Frag} {G H : Hp} : ∀ {ts us : List Tm} {F1 F2 : List Addr}, TmF K G H ts F1 → TmF K G H us F2 → TmF K G H (ts ++ us) (F1 ++ F2)
  | [], us, F1, F2, h, h2 => by
    have h : F1 = [] := h
    rw [h]
    exact h2
  | x :: ts, us, F1, F2, ⟨F3, F4, e, p, q⟩, h2 => ⟨F3, F4 ++ F2, by rw [e, List.append_assoc], p, TmF.of_app q h2⟩
theorem TmF.one {K : PySem.W.Frag} {G H : Hp} {x : Tm} {F : List Addr} (h : TmF K G H [x] F) : Own K G H x.t x.d x.v F := by
  obtain ⟨F1, F2, e, p, q⟩ := h
  have q : F2 = [] := q
  subst q
  rw [List.append_nil] at e
  subst e
  exact p
theorem TmF.of_one {K : PySem.W.Frag} {G H : Hp} {x : Tm} {F : List Addr} (h : Own K G H x.t x.d x.v F) : TmF K G H [x] F := ⟨F, [], by rw [List.append_nil], h, rfl⟩
theorem FrOk.sig {fr : Fr} {G H : Hp} {σ σ' : Sg} (x : FrOk fr G H σ) (h : ∀ p ∈ fr.pins, σ'[p.1]? = σ[p.1]?) : FrOk fr G H σ' :=
  ⟨x.keep, x.mono, x.sG, x.nG, fun p hp => by rw [h p hp]; exact x.pin p hp⟩
theorem none_of_some {H : Hp} {a : Addr} (h : H a = none) (h2 : ∃ vs, H a = some (HO.lst vs)) : False := by
  obtain ⟨vs, e⟩ := h2
  rw [h] at e
  cases e
section
variable {fr : Fr} {K : PySem.W.Frag} {G H : Hp} {F1 F2 : List Addr} {Γ : List Ty} {ρ : Rho} {σ : Sg} {ts us : List Tm}
theorem SRd.there (x : SRd fr K G F1 F2 Γ ρ σ ts H) : ∀ a ∈ F1 ++ F2, ∃ vs, H a = some (.lst vs) := fun a ha => by
  rcases List.mem_append.mp ha with ha | ha
  · exact x.sl.there a ha
  · exact x.tm.there a ha
/-- what is held meanwhile is let go -/
theorem SRd.drop (x : SRd fr K G F1 F2 Γ ρ σ (ts ++ us) H) : ∃ F3, SRd fr K G F1 F3 Γ ρ σ ts H := by
  obtain ⟨F3, F4, e, p, q⟩ := x.tm.app
  have sub : ∀ a ∈ F1 ++ F3, a ∈ F1 ++ F2 := fun a ha => by
    rw [e]
    rcases List.mem_append.mp ha with ha | ha
    · exact List.mem_append_left _ ha
    · exact List.mem_append_right _ (List.mem_append_left _ ha)
  refine ⟨F3, x.sub, x.sl, p, ?_, fun a ha => x.out a (sub a ha), x.ok⟩
  have nd := x.nd
  rw [e, ← List.append_assoc] at nd
  exact nd.sublist (List.sublist_append_left _ _)
theorem SR.drop (x : SR fr K Γ ρ σ (ts ++ us) H) : SR fr K Γ ρ σ ts H := by
  obtain ⟨G, F1, F2, x⟩ := x
  obtain ⟨F3, y⟩ := x.drop
  exact ⟨G, F1, F3, y⟩
/-- a thing that is known is held -/
theorem SRd.push (x : SRd fr K G F1 F2 Γ ρ σ ts H) {d : D} {v : V} (h : Rp K G v d) : SRd fr K G F1 F2 Γ ρ σ (ts ++ [⟨.fro, d, v⟩]) H := by
  refine ⟨x.sub, x.sl, ?_, x.nd, x.out, x.ok⟩
  have := x.tm.of_app (us := [⟨.fro, d, v⟩]) (F2 := []) (TmF.of_one ⟨rfl, h⟩)
  rwa [List.append_nil] at this
theorem SRd.pushS (x : SRd fr K G F1 F2 Γ ρ σ ts H) {w : Ty} {d : D} {v : V} (s : scalar d = true) (h : Rp K G v d) : SRd fr K G F1 F2 Γ ρ σ (ts ++ [⟨w, d, v⟩]) H := by
  refine ⟨x.sub, x.sl, ?_, x.nd, x.out, x.ok⟩
  have ow : Own K G H w d v [] := by
    cases w with
    | fro => exact ⟨rfl, h⟩
    | lst t => exact .inl ⟨s, rfl, h⟩
  have := x.tm.of_app (us := [⟨w, d, v⟩]) (F2 := []) (TmF.of_one ow)
  rwa [List.append_nil] at this
/-- the last ones held, as data -/
theorem SRd.last1 {x1 : Tm} (x : SRd fr K G F1 F2 Γ ρ σ (ts ++ [x1]) H) (h1 : x1.t = .fro) : Rp K G x1.v x1.d := by
  obtain ⟨F3, F4, e, p, q⟩ := x.tm.app
  have o := q.one
  rw [h1] at o
  exact o.2
theorem SRd.last2 {x1 x2 : Tm} (x : SRd fr K G F1 F2 Γ ρ σ (ts ++ [x1] ++ [x2]) H) (h1 : x1.t = .fro) (h2 : x2.t = .fro) : Rp K G x1.v x1.d ∧ Rp K G x2.v x2.d := by
  have a := x.last1 h2
  obtain ⟨F3, y⟩ := x.drop
  exact ⟨y.last1 h1, a⟩
theorem SRd.last3 {x1 x2 x3 : Tm} (x : SRd fr K G F1 F2 Γ ρ σ (ts ++ [x1] ++ [x2] ++ [x3]) H) (h1 : x1.t = .fro) (h2 : x2.t = .fro) (h3 : x3.t = .fro) : Rp K G x1.v x1.d ∧ Rp K G x2.v x2.d ∧ Rp K G x3.v x3.d := by
  have a := x.last1 h3
  obtain ⟨F3, y⟩ := x.drop
  have b := y.last2 h1 h2
  exact ⟨b.1, b.2, a⟩
/-- H has grown by a new object at p, and G -/
theorem SRd.grow (x : SRd fr K G F1 F2 Γ ρ σ ts H) {p : Addr} {o : HO} (hp : H p = none) : SRd fr K (upd G p o) F1 F2 Γ ρ σ ts (upd H p o) ∧ Same G (upd G p o) := by
  have gp : G p = none := by
    cases e : G p with
    | none => rfl
    | some q =>
      rw [x.sub _ _ e] at hp
      cases hp
  have nm : ∀ a ∈ F1 ++ F2, a ≠ p := fun a ha e => none_of_some (e ▸ hp) (x.there a ha)
  have sG : Same G (upd G p o) := fun a q e => by
    rw [upd_ne (ne_of_none e gp)]
    exact e
  have hH : ∀ a ∈ F1 ++ F2, upd H p o a = H a := fun a ha => upd_ne (nm a ha)
  refine ⟨⟨fun a q e => ?_, x.sl.stay sG (fun a ha => hH a (List.mem_append_left _ ha)), x.tm.stay sG (fun a ha => hH a (List.mem_append_right _ ha)), x.nd, fun a ha => ?_, ?_⟩, sG⟩
  · by_cases h : a = p
    · subst h
      rw [upd_same] at e ⊢
      exact e
    · rw [upd_ne h] at e ⊢
      exact x.sub _ _ e
  · rw [upd_ne (nm a ha)]
    exact x.out a ha
  · refine ⟨fun a q e hF => ?_, fun a e => ?_, fun a q e => sG _ _ (x.ok.sG _ _ e), fun a e => ?_, x.ok.pin⟩
    · have h := x.ok.keep a q e hF
      rw [upd_ne (ne_of_none h hp)]
      exact h
    · by_cases h : a = p
      · subst h
        rw [upd_same] at e
        cases e
      · rw [upd_ne h] at e
        exact x.ok.mono a e
    · by_cases h : a = p
      · subst h
        exact .inr (.inr (x.ok.mono a hp))
      · rw [upd_ne h] at e
        exact x.ok.nG a e
/-- .. H alone: the new list is owned by who holds it -/
theorem SRd.fresh (x : SRd fr K G F1 F2 Γ ρ σ ts H) {p : Addr} {o : HO} (hp : H p = none) : SRd fr K G F1 F2 Γ ρ σ ts (upd H p o) ∧ G p = none ∧ p ∉ F1 ++ F2 ∧ fr.H0 p = none := by
  have gp : G p = none := by
    cases e : G p with
    | none => rfl
    | some q =>
      rw [x.sub _ _ e] at hp
      cases hp
  have nm : ∀ a ∈ F1 ++ F2, a ≠ p := fun a ha e => none_of_some (e ▸ hp) (x.there a ha)
  have hH : ∀ a ∈ F1 ++ F2, upd H p o a = H a := fun a ha => upd_ne (nm a ha)
  refine ⟨⟨fun a q e => ?_, x.sl.stay (Same.refl G) (fun a ha => hH a (List.mem_append_left _ ha)), x.tm.stay (Same.refl G) (fun a ha => hH a (List.mem_append_right _ ha)), x.nd, x.out, ?_⟩, gp, fun h => nm p h rfl, x.ok.mono p hp⟩
  · rw [upd_ne (ne_of_none e gp)]
    exact x.sub _ _ e
  · refine ⟨fun a q e hF => ?_, fun a e => ?_, x.ok.sG, x.ok.nG, x.ok.pin⟩
    · have h := x.ok.keep a q e hF
      rw [upd_ne (ne_of_none h hp)]
      exact h
    · by_cases h : a = p
      · subst h
        rw [upd_same] at e
        cases e
      · rw [upd_ne h] at e
        exact x.ok.mono a e
/-- the last ones held become the items of a new list of their holder's -/
theorem TmF.all {w : Ty} : ∀ {us : List Tm} {F : List Addr}, (∀ x ∈ us, x.t = w) → TmF K G H us F → AllF (Own K G H w) (us.map Tm.d) (us.map Tm.v) F
  | [], _, _, h => h
  | x :: us, F, hw, ⟨F1, F2, e, p, q⟩ => ⟨F1, F2, e, by rw [← hw x List.mem_cons_self]; exact p, TmF.all (fun y hy => hw y (List.mem_cons_of_mem _ hy)) q⟩
theorem SRd.mkList {w : Ty} (x : SRd fr K G F1 F2 Γ ρ σ (ts ++ us) H) (hw : ∀ y ∈ us, y.t = w) {p : Addr} (hp : H p = none) :
    ∃ F3, SRd fr K G F1 F3 Γ ρ σ (ts ++ [⟨.lst w, .list (us.map Tm.d), .ref p⟩]) (upd H p (.lst (us.map Tm.v))) := by
  obtain ⟨y, gp, pF, p0⟩ := x.fresh (o := .lst (us.map Tm.v)) hp
  obtain ⟨F3, F4, e, q1, q2⟩ := y.tm.app
  refine ⟨F3 ++ (p :: F4), y.sub, y.sl, q1.of_app (TmF.of_one (.inr ⟨_, p, _, F4, rfl, rfl, rfl, upd_same, q2.all hw⟩)), ?_, fun a ha => ?_, y.ok⟩
  · have nd := y.nd
    rw [e, ← List.append_assoc] at nd
    rw [← List.append_assoc]
    refine (List.perm_middle.nodup_iff).mpr (List.nodup_cons.mpr ⟨?_, nd⟩)
    intro hm
    apply pF
    rw [e, ← List.append_assoc]
    exact hm
  · rcases List.mem_append.mp ha with ha | ha
    · exact y.out a (List.mem_append_left _ ha)
    · rcases List.mem_append.mp ha with ha | ha
      · exact y.out a (by rw [e]; exact List.mem_append_right _ (List.mem_append_left _ ha))
      · rcases List.mem_cons.mp ha with rfl | ha
        · exact ⟨gp, .inr p0⟩
        · exact y.out a (by rw [e]; exact List.mem_append_right _ (List.mem_append_right _ ha))
/-- an owned thing is given away -/
theorem SRd.give {x1 : Tm} (x : SRd fr K G F1 F2 Γ ρ σ (ts ++ [x1]) H) : ∃ G' F3, SRd fr K G' F1 F3 Γ ρ σ (ts ++ [⟨.fro, x1.d, x1.v⟩]) H := by
  obtain ⟨F3, F4, e, p, q⟩ := x.tm.app
  have o := q.one
  have hF4 : ∀ a ∈ F4, a ∈ F1 ++ F2 := fun a ha => by
    rw [e]
    exact List.mem_append_right _ (List.mem_append_right _ ha)
  have sG : Same G (join G H F4) := join_same fun a ha => (x.out a (hF4 a ha)).1
  have nd := x.nd
  rw [e, ← List.append_assoc] at nd
  have dj : ∀ a ∈ F1 ++ F3, a ∉ F4 := fun a ha hb => (List.nodup_append.mp nd).2.2 a ha a hb rfl
  refine ⟨join G H F4, F3, join_sub x.sub, x.sl.stay sG (fun _ _ => rfl), ?_, nd.sublist (List.sublist_append_left _ _), fun a ha => ?_, ?_⟩
  · have h := (p.stay sG (fun _ _ => rfl)).of_app (us := [⟨.fro, x1.d, x1.v⟩]) (F2 := []) (TmF.of_one (x := ⟨.fro, x1.d, x1.v⟩) ⟨rfl, o.rp sG fun a ha => join_in ha⟩)
    rwa [List.append_nil] at h
  · rw [join_out (dj a ha)]
    refine x.out a ?_
    rw [e, ← List.append_assoc]
    exact List.mem_append_left _ ha
  · refine ⟨x.ok.keep, x.ok.mono, fun a o h => sG _ _ (x.ok.sG _ _ h), fun a h => ?_, x.ok.pin⟩
    by_cases ha : a ∈ F4
    · exact .inr (x.out a (hF4 a ha)).2
    · rw [join_out ha] at h
      exact x.ok.nG a h
theorem SR.give {x1 : Tm} (x : SR fr K Γ ρ σ (ts ++ [x1]) H) : SR fr K Γ ρ σ (ts ++ [⟨.fro, x1.d, x1.v⟩]) H := by
  obtain ⟨G, F1, F2, x⟩ := x
  obtain ⟨G', F3, y⟩ := x.give
  exact ⟨G', F1, F3, y⟩
theorem get_some {ρ : Rho} {i : Nat} {d : D} (h : get ρ i = some d) : ρ[i]? = some (some d) := by
  unfold get at h
  cases e : ρ[i]? with
  | none => rw [e] at h; cases h
  | some o =>
    rw [e] at h
    have h : o = some d := h
    rw [h]
/-- a slot's thing that is nobody's -/
theorem SRd.slot (x : SRd fr K G F1 F2 Γ ρ σ ts H) {i : Nat} {d : D} (h : get ρ i = some d) (hw : Γ[i]? = some .fro) : ∃ v, σ[i]? = some (some v) ∧ Rp K G v d := by
  obtain ⟨t, v, F3, F4, e1, e2, _, o, _⟩ := x.sl.take (get_some h)
  rw [hw] at e1
  cases e1
  exact ⟨v, e2, o.2⟩
/-- a slot's own list, read -/
theorem SRd.slotL (x : SRd fr K G F1 F2 Γ ρ σ ts H) {i : Nat} {l : List D} (h : get ρ i = some (.list l)) (hw : Γ[i]? = some (.lst .fro)) : ∃ a vs, σ[i]? = some (some (.ref a)) ∧ H a = some (.lst vs) ∧ RpAll K G vs l := by
  obtain ⟨t, v, F3, F4, e1, e2, _, o, _⟩ := x.sl.take (get_some h)
  rw [hw] at e1
  cases e1
  rcases o with ⟨s, _, _⟩ | ⟨ds, a, vs, F', q1, q2, q3, q4, q5⟩
  · cases s
  · cases q1
    subst q2
    exact ⟨a, vs, e2, q4, q5.fro.2⟩
theorem perm_sub {F F' : List Addr} (h : F.Perm F') {a : Addr} (ha : a ∈ F) : a ∈ F' := h.mem_iff.mp ha
/-- a slot's thing goes to who holds it; the name keeps its value -/
theorem SRd.takeOut (x : SRd fr K G F1 F2 Γ ρ σ ts H) {i : Nat} {d : D} (h : get ρ i = some d) : ∃ t v F3 F4, Γ[i]? = some t ∧ σ[i]? = some (some v) ∧ SRd fr K G F3 F4 Γ (ρ.set i none) σ (ts ++ [⟨t, d, v⟩]) H := by
  obtain ⟨t, v, F3, F4, e1, e2, pm, o, q⟩ := x.sl.take (get_some h)
  have pm2 : (F4 ++ (F2 ++ F3)).Perm (F1 ++ F2) := by
    have h := List.perm_append_comm (l₁ := F4 ++ F2) (l₂ := F3)
    rw [List.append_assoc, ← List.append_assoc F3] at h
    exact h.trans (pm.append_right F2)
  refine ⟨t, v, F4, F2 ++ F3, e1, e2, x.sub, q, x.tm.of_app (TmF.of_one o), pm2.nodup_iff.mpr x.nd, fun a ha => x.out a (perm_sub pm2 ha), x.ok⟩
/-- .. and back -/
theorem SRd.putBack {i : Nat} {t : Ty} {d : D} {v : V} (x : SRd fr K G F1 F2 Γ ρ σ (ts ++ [⟨t, d, v⟩]) H) (h : ρ[i]? = some none) (ht : Γ[i]? = some t) (hv : σ[i]? = some (some v)) :
    ∃ F3 F4, SRd fr K G F3 F4 Γ (put ρ i d) σ ts H := by
  obtain ⟨F3, F4, e, p, q⟩ := x.tm.app
  obtain ⟨F5, pm, s⟩ := x.sl.put h ht hv q.one
  have pm2 : (F5 ++ F3).Perm (F1 ++ F2) := by
    rw [e]
    have h := List.perm_append_comm (l₁ := F4) (l₂ := F1 ++ F3)
    rw [List.append_assoc, ← List.append_assoc F4] at h
    exact (List.Perm.append_right F3 pm.symm).trans h
  exact ⟨F5, F3, x.sub, s, p, pm2.nodup_iff.mpr x.nd, fun a ha => x.out a (perm_sub pm2 ha), x.ok⟩
/-- a name takes what is held -/
theorem SRd.setSlot {i : Nat} {t : Ty} {d : D} {v : V} (x : SRd fr K G F1 F2 Γ ρ σ (ts ++ [⟨t, d, v⟩]) H) (ht : Γ[i]? = some t) (hi : i < σ.length) (hp : ∀ p ∈ fr.pins, p.1 ≠ i) :
    ∃ F3 F4, SRd fr K G F3 F4 Γ (put ρ i d) (σ.set i (some v)) ts H := by
  obtain ⟨F3, F4, pm, s⟩ := x.sl.drop i (some v)
  have y : SRd fr K G F4 F2 Γ (ρ.set i none) (σ.set i (some v)) (ts ++ [⟨t, d, v⟩]) H := by
    have mem : ∀ a ∈ F4 ++ F2, a ∈ F1 ++ F2 := fun a ha => by
      rcases List.mem_append.mp ha with ha | ha
      · exact List.mem_append_left _ (perm_sub pm (List.mem_append_right _ ha))
      · exact List.mem_append_right _ ha
    refine ⟨x.sub, s, x.tm, ?_, fun a ha => x.out a (mem a ha), x.ok.sig fun p hp' => by rw [List.getElem?_set_ne (Ne.symm (hp p hp'))]⟩
    have nd := ((List.Perm.append_right F2 pm).nodup_iff).mpr x.nd
    rw [List.append_assoc] at nd
    exact nd.sublist (List.sublist_append_right _ _)
  have len := x.sl.lens
  have e1 : (ρ.set i none)[i]? = some none := by rw [List.getElem?_set_self (by omega)]
  have e2 : (σ.set i (some v))[i]? = some (some v) := by rw [List.getElem?_set_self hi]
  obtain ⟨F5, F6, z⟩ := y.putBack e1 ht e2
  refine ⟨F5, F6, ?_⟩
  have e3 : put (ρ.set i none) i d = put ρ i d := by
    unfold put
    rw [List.set_set]
  rwa [e3] at z
/-- a slot's data are forgotten -/
theorem SRd.forget (x : SRd fr K G F1 F2 Γ ρ σ ts H) (i : Nat) : ∃ F3, SRd fr K G F3 F2 Γ (ρ.set i none) σ ts H := by
  obtain ⟨F3, F4, pm, s⟩ := x.sl.forget i
  have mem : ∀ a ∈ F4 ++ F2, a ∈ F1 ++ F2 := fun a ha => by
    rcases List.mem_append.mp ha with ha | ha
    · exact List.mem_append_left _ (perm_sub pm (List.mem_append_right _ ha))
    · exact List.mem_append_right _ ha
  refine ⟨F4, x.sub, s, x.tm, ?_, fun a ha => x.out a (mem a ha), x.ok⟩
  have nd := ((List.Perm.append_right F2 pm).nodup_iff).mpr x.nd
  rw [List.append_assoc] at nd
  exact nd.sublist (List.sublist_append_right _ _)
theorem SRd.wipes (x : SRd fr K G F1 F2 Γ ρ σ ts H) : ∀ ws : List Nat, ∃ F3, SRd fr K G F3 F2 Γ (wipeD ρ ws) σ ts H
  | [] => ⟨F1, x⟩
  | i :: ws => by
    obtain ⟨F3, y⟩ := x.wipes ws
    exact y.forget i
theorem wipeD_len (ρ : Rho) : ∀ ws : List Nat, (wipeD ρ ws).length = ρ.length
  | [] => rfl
  | i :: ws => by
    show ((wipeD ρ ws).set i none).length = _
    rw [List.length_set, wipeD_len ρ ws]
theorem SlF.sig : ∀ {Γ : List Ty} {ρ : Rho} {σ σ' : Sg} {F : List Addr}, σ'.length = σ.length → (∀ (i : Nat) (d : D), ρ[i]? = some (some d) → σ'[i]? = σ[i]?) → SlF K G H Γ ρ σ F → SlF K G H Γ ρ σ' F
  | [], [], [], [], _, _, _, h => h
  | t :: Γ, o :: ρ, s :: σ, s' :: σ', F, hl, hk, ⟨F1, F2, e, p, q⟩ => by
    refine ⟨F1, F2, e, ?_, SlF.sig (by simpa using hl) (fun i d e => by have := hk (i + 1) d (by simpa using e); simpa using this) q⟩
    cases o with
    | none => exact p
    | some d =>
      have := hk 0 d rfl
      have : s' = s := by simpa using this
      subst this
      exact p
  | [], [], [], _ :: _, _, hl, _, _ => by simp at hl
  | [], [], _ :: _, _, _, _, _, h => h.elim
  | [], _ :: _, _, _, _, _, _, h => by cases ‹Sg› <;> exact h.elim
  | _ :: _, [], _, _, _, _, _, h => by cases ‹Sg› <;> exact h.elim
  | _ :: _, _ :: _, [], _, _, _, _, h => h.elim
  | _ :: _, _ :: _, _ :: _, [], _, hl, _, _ => by simp at hl
/-- names whose data are forgotten may hold anything -/
theorem SRd.sig {σ' : Sg} (x : SRd fr K G F1 F2 Γ ρ σ ts H) (hl : σ'.length = σ.length) (hk : ∀ (i : Nat) (d : D), ρ[i]? = some (some d) → σ'[i]? = σ[i]?) (hp : ∀ p ∈ fr.pins, σ'[p.1]? = σ[p.1]?) : SRd fr K G F1 F2 Γ ρ σ' ts H :=
  ⟨x.sub, x.sl.sig hl hk, x.tm, x.nd, x.out, x.ok.sig hp⟩
theorem wipeD_none {ρ : Rho} {i : Nat} : ∀ {ws : List Nat}, i ∈ ws → ∀ d, (wipeD ρ ws)[i]? ≠ some (some d)
  | [], h, _, _ => nomatch h
  | j :: ws, h, d, e => by
    have e : ((wipeD ρ ws).set j none)[i]? = some (some d) := e
    by_cases hj : j = i
    · subst hj
      by_cases hl : j < (wipeD ρ ws).length
      · rw [List.getElem?_set_self hl] at e
        cases e
      · rw [List.getElem?_eq_none (by simpa using hl)] at e
        cases e
    · rw [List.getElem?_set_ne hj] at e
      rcases List.mem_cons.mp h with h | h
      · exact hj h.symm
      · exact wipeD_none h d e
theorem wipe_out' {σ : Sg} {i : Nat} : ∀ {ws : List Nat}, i ∉ ws → (wipe σ ws)[i]? = σ[i]? := wipe_out
/-- ahead of a comprehension's turn: its own names hold nothing -/
theorem SRd.wiped (x : SRd fr K G F1 F2 Γ ρ σ ts H) (ws : List Nat) (hp : ∀ p ∈ fr.pins, p.1 ∉ ws) : ∃ F3, SRd fr K G F3 F2 Γ (wipeD ρ ws) (wipe σ ws) ts H := by
  obtain ⟨F3, y⟩ := x.wipes ws
  refine ⟨F3, y.sig (wipe_length _ _) (fun i d e => ?_) fun p h => wipe_out (hp p h)⟩
  by_cases hi : i ∈ ws
  · exact absurd e (wipeD_none hi d)
  · exact wipe_out hi
/-- behind it: they are what they were, and nothing is known of them -/
theorem SRd.unwiped {σ2 : Sg} (ws : List Nat) (x : SRd fr K G F1 F2 Γ ρ σ2 ts H) (hw : wipe σ2 ws = wipe σ ws) (hl : σ2.length = σ.length) (hp : ∀ p ∈ fr.pins, p.1 ∉ ws) : ∃ F3, SRd fr K G F3 F2 Γ (wipeD ρ ws) σ ts H := by
  obtain ⟨F3, y⟩ := x.wipes ws
  have out : ∀ i, i ∉ ws → σ[i]? = σ2[i]? := fun i hi => by rw [← wipe_out (σ := σ) hi, ← hw, wipe_out hi]
  refine ⟨F3, y.sig hl.symm (fun i d e => ?_) fun p h => out _ (hp p h)⟩
  by_cases hi : i ∈ ws
  · exact absurd e (wipeD_none hi d)
  · exact out i hi
end
end Vw
namespace Vw
open PySem PySem.Spec PyProof.Rows L2
theorem PE_mono {X : Cx} {e : Expr} {t t' : TE} (h : PE X e t) (i : ∀ σ H Q, t' σ H Q → t σ H Q) : PE X e t' := ⟨fun pins s σ H Q I hw => h.run pins s σ H Q I (i σ H Q hw)⟩
theorem PT_mono {X : Cx} {e : Expr} {t t' : TT} (h : PT X e t) (i : ∀ σ H Q, t' σ H Q → t σ H Q) : PT X e t' := ⟨fun pins s σ H Q I hw => h.run pins s σ H Q I (i σ H Q hw)⟩
theorem PA_mono {X : Cx} {e : List Expr} {t t' : TA} (h : PA X e t) (i : ∀ σ H Q, t' σ H Q → t σ H Q) : PA X e t' := ⟨fun pos pins s σ H Q I hw => h.run pos pins s σ H Q I (i σ H Q hw)⟩
theorem PS_mono {X : Cx} {e : Stmt} {t t' : TS} (h : PS X e t) (i : ∀ D σ H, t' D σ H → t D σ H) : PS X e t' := ⟨fun pins s σ H D I hw => h.run pins s σ H D I (i D σ H hw)⟩
theorem PSs_mono {X : Cx} {e : List Stmt} {t t' : TS} (h : PSs X e t) (i : ∀ D σ H, t' D σ H → t D σ H) : PSs X e t' := ⟨fun pins s σ H D I hw => h.run pins s σ H D I (i D σ H hw)⟩
theorem bind_inv {α β : Type} {o : Option α} {f : α → Option β} {b : β} (h : o.bind f = some b) : ∃ a, o = some a ∧ f a = some b := by
  cases o with
  | none => cases h
  | some a => exact ⟨a, rfl, h⟩
theorem map_inv {α β : Type} {o : Option α} {f : α → β} {b : β} (h : o.map f = some b) : ∃ a, o = some a ∧ f a = b := by
  cases o with
  | none => cases h
  | some a => exact ⟨a, rfl, Option.some.inj h⟩

/-! ### readings -/
section
variable (Φ : Cf) (fr : Fr) (K : PySem.W.Frag) (Γ : List Ty)
def tE (w : Ty) (e : E) : TE := fun σ H Q => ∃ ρ ts r, SR fr K Γ ρ σ ts H ∧ ev Φ e ρ = some r ∧ ∀ v H', SR fr K Γ r.2 σ (ts ++ [⟨w, r.1, v⟩]) H' → Q v H'
def tT (e : T) : TT := fun σ H Q => ∃ ρ ts r, SR fr K Γ ρ σ ts H ∧ evT Φ e ρ = some r ∧ ∀ H', SR fr K Γ r.2 σ ts H' → Q r.1 H'
def tms (w : Ty) (ds : List D) (vs : List V) : List Tm := (ds.zip vs).map fun p => ⟨w, p.1, p.2⟩
def tEs (w : Ty) (es : Es) : TA := fun σ H Q => ∃ ρ ts r, SR fr K Γ ρ σ ts H ∧ evs Φ es ρ = some r ∧ ∀ vs H', vs.length = r.1.length → SR fr K Γ r.2 σ (ts ++ tms w r.1 vs) H' → Q vs H'
/-- how what an operand names is held -/
def Hold (σ : Sg) : O → V → D → List Tm → List Tm → Prop
  | .e _, v, d, ts, ts' => ts' = ts ++ [⟨.fro, d, v⟩]
  | .s i, v, _, ts, ts' => ts' = ts ∧ σ[i]? = some (some v) ∧ Γ[i]? = some (.lst .fro)
def tO (o : O) : TE := fun σ H Q => ∃ ρ ts r, SR fr K Γ ρ σ ts H ∧ evO Φ o ρ = some r ∧ ∀ v H' ts', SR fr K Γ r.2 σ ts' H' → Hold Γ σ o v r.1 ts ts' → Q v H'
def tOe (o : Oe) : TO := fun σ H Q => ∃ ρ ts r, SR fr K Γ ρ σ ts H ∧ evOe Φ o ρ = some r ∧ ∀ H', SR fr K Γ r.2 σ ts H' → Q r.1 H'
end
/-- what stands at v reads as x -/
def Sn (K : PySem.W.Frag) (G H : Hp) (x : D) (v : V) : Prop := Rp K G v x ∨ ∃ l a vs, x = .list l ∧ v = .ref a ∧ H a = some (.lst vs) ∧ RpAll K G vs l
theorem Sn.list {K : PySem.W.Frag} {G H : Hp} {l : List D} {v : V} (s : Same G H) (h : Sn K G H (.list l) v) : ∃ a vs, v = .ref a ∧ Rd H a (.lst vs) ∧ RpAll K G vs l := by
  rcases h with h | ⟨l', a, vs, e, e2, h1, h2⟩
  · cases h with
    | lst h1 h2 => exact ⟨_, _, rfl, Rd_same s h1, h2⟩
  · cases e
    exact ⟨a, vs, e2, .inl h1, h2⟩
theorem Sn.tuple {K : PySem.W.Frag} {G H : Hp} {l : List D} {v : V} (s : Same G H) (h : Sn K G H (.tuple l) v) : ∃ a vs, v = .ref a ∧ SqT K H a vs ∧ RpAll K G vs l := by
  rcases h with h | ⟨l', a, vs, e, e2, h1, h2⟩
  · cases h with
    | tup h1 h2 => exact ⟨_, _, rfl, SqT_same s h1, h2⟩
  · cases e
theorem Sn.seq {K : PySem.W.Frag} {G H : Hp} {x : D} {l : List D} {v : V} (s : Same G H) (e : seqD x = some l) (h : Sn K G H x v) : ∃ a vs, v = .ref a ∧ (SqL K H a vs ∨ SqT K H a vs) ∧ RpAll K G vs l := by
  cases x with
  | list m =>
    cases e
    obtain ⟨a, vs, e, h1, h2⟩ := h.list s
    exact ⟨a, vs, e, .inl (.inl h1), h2⟩
  | tuple m =>
    cases e
    obtain ⟨a, vs, e, h1, h2⟩ := h.tuple s
    exact ⟨a, vs, e, .inr h1, h2⟩
  | _ => cases e
section
variable {fr : Fr} {K : PySem.W.Frag} {G H : Hp} {F1 F2 : List Addr} {Γ : List Ty} {ρ : Rho} {σ : Sg} {ts ts' us : List Tm}
theorem SRd.sn {Φ : Cf} {o : O} {v : V} {d x : D} (h : SRd fr K G F1 F2 Γ ρ σ (ts' ++ us) H) (hd : Hold Γ σ o v d ts ts') (e : lateD Φ o d ρ = some x) : Sn K G H x v := by
  cases o with
  | e a =>
    have hd : ts' = ts ++ [⟨.fro, d, v⟩] := hd
    subst hd
    have e : some d = some x := e
    cases e
    obtain ⟨F3, y⟩ := h.drop
    exact .inl (y.last1 rfl)
  | s i =>
    obtain ⟨rfl, h1, h2⟩ := hd
    have e : get ρ i = some x := e
    obtain ⟨t, v', F3, F4, e1, e2, _, ow, _⟩ := h.sl.take (get_some e)
    rw [h2] at e1
    cases e1
    rw [h1] at e2
    cases e2
    rcases ow with ⟨s, _, q⟩ | ⟨ds, a, vs, F', q1, q2, q3, q4, q5⟩
    · exact .inl q
    · exact .inr ⟨ds, a, vs, q1, q2, q4, q5.fro.2⟩
theorem Hold.pre {o : O} {v : V} {d : D} (hd : Hold Γ σ o v d ts ts') : ∃ m, ts' = ts ++ m := by
  cases o with
  | e a => exact ⟨_, hd⟩
  | s i => exact ⟨[], by rw [List.append_nil]; exact hd.1⟩
theorem SR.dropH {o : O} {v : V} {d : D} (h : SR fr K Γ ρ σ (ts' ++ us) H) (hd : Hold Γ σ o v d ts ts') : SR fr K Γ ρ σ ts H := by
  obtain ⟨m, rfl⟩ := hd.pre
  rw [List.append_assoc] at h
  exact h.drop
/-- a plain result -/
theorem SR.res (h : SR fr K Γ ρ σ ts H) {w : Ty} {d : D} {v : V} (s : scalar d = true) (r : ∀ G, Rp K G v d) : SR fr K Γ ρ σ (ts ++ [⟨w, d, v⟩]) H := by
  obtain ⟨G, F1, F2, x⟩ := h
  exact ⟨G, F1, F2, x.pushS s (r G)⟩
theorem SRd.pushes : ∀ {vs : List V} {ds : List D} {ts : List Tm} {F2 : List Addr}, SRd fr K G F1 F2 Γ ρ σ ts H → RpAll K G vs ds → SRd fr K G F1 F2 Γ ρ σ (ts ++ tms .fro ds vs) H
  | _, _, ts, _, h, .nil => by
    show SRd fr K G F1 _ Γ ρ σ (ts ++ []) H
    rw [List.append_nil]
    exact h
  | _, _, ts, _, h, .cons (v := v) (d := d) (vs := vs) (ds := ds) r rs => by
    have q := SRd.pushes (h.push r) rs
    rw [List.append_assoc] at q
    exact q
theorem tms_d {w : Ty} : ∀ {ds : List D} {vs : List V}, vs.length = ds.length → (tms w ds vs).map Tm.d = ds
  | [], [], _ => rfl
  | d :: ds, v :: vs, h => by
    show d :: (tms w ds vs).map Tm.d = _
    rw [tms_d (by simpa using h)]
  | [], _ :: _, h => by simp at h
  | _ :: _, [], h => by simp at h
theorem tms_v {w : Ty} : ∀ {ds : List D} {vs : List V}, vs.length = ds.length → (tms w ds vs).map Tm.v = vs
  | [], [], _ => rfl
  | d :: ds, v :: vs, h => by
    show v :: (tms w ds vs).map Tm.v = _
    rw [tms_v (by simpa using h)]
  | [], _ :: _, h => by simp at h
  | _ :: _, [], h => by simp at h
theorem tms_t {w : Ty} {ds : List D} {vs : List V} : ∀ y ∈ tms w ds vs, y.t = w := fun y hy => by
  obtain ⟨p, _, rfl⟩ := List.mem_map.mp hy
  rfl
/-- whom a new list belongs to -/
def Made (t w : Ty) : Prop := w = .lst t ∨ (w = .fro ∧ t = .fro)
theorem SRd.list {t w : Ty} (x : SRd fr K G F1 F2 Γ ρ σ (ts ++ us) H) (hw : ∀ y ∈ us, y.t = t) (m : Made t w) {p : Addr} (hp : H p = none) :
    SR fr K Γ ρ σ (ts ++ [⟨w, .list (us.map Tm.d), .ref p⟩]) (upd H p (.lst (us.map Tm.v))) := by
  obtain ⟨F3, y⟩ := x.mkList hw hp
  rcases m with rfl | ⟨rfl, rfl⟩
  · exact ⟨_, _, _, y⟩
  · exact SR.give (x1 := ⟨.lst .fro, _, _⟩) ⟨_, _, _, y⟩
theorem SRd.newList {w : Ty} (x : SRd fr K G F1 F2 Γ ρ σ ts H) {vs : List V} {ds : List D} (r : RpAll K G vs ds) (m : Made .fro w) {p : Addr} (hp : H p = none) :
    SR fr K Γ ρ σ (ts ++ [⟨w, .list ds, .ref p⟩]) (upd H p (.lst vs)) := by
  have q := (x.pushes r).list tms_t m hp
  rw [tms_d r.len, tms_v r.len] at q
  exact q
theorem SRd.newTup (x : SRd fr K G F1 F2 Γ ρ σ ts H) {vs : List V} {ds : List D} (r : RpAll K G vs ds) {p : Addr} (hp : H p = none) :
    SR fr K Γ ρ σ (ts ++ [⟨.fro, .tuple ds, .ref p⟩]) (upd H p (.tup vs)) := by
  obtain ⟨y, sG⟩ := x.grow (o := .tup vs) hp
  exact ⟨_, _, _, y.push (.tup (SqT.of upd_same) (RpAll_same sG _ _ r))⟩
end
section
variable {X : Cx} {Φ : Cf} {fr : Fr} {Γ : List Ty} {w : Ty} {pos : Pos}
/-! ### names, constants -/
theorem e_v {i : Nat} {x : Str} (hN : X.N[i]? = some x) (hv : Vis X.env.scope x) (hw : Γ[i]? = some .fro) (hd : (x == ("__debug__" : Str)) = false) (hcd : (x == ("__classdict__" : Str)) = false) :
    PE X (.Name x pos) (tE Φ fr X.K Γ .fro (.v i)) := by
  refine PE_mono (pe_var hN hv hd hcd) fun σ H Q h => ?_
  obtain ⟨ρ, ts, r, ⟨G, F1, F2, sr⟩, he, q⟩ := h
  obtain ⟨d, e1, rfl⟩ := map_inv he
  obtain ⟨v, e2, rp⟩ := sr.slot e1 hw
  exact ⟨v, e2, q v H ⟨G, F1, F2, sr.push rp⟩⟩
theorem e_mv {i : Nat} {x : Str} {t : Ty} (hN : X.N[i]? = some x) (hv : Vis X.env.scope x) (hw : Γ[i]? = some t) (h2 : w = t ∨ w = .fro) (hd : (x == ("__debug__" : Str)) = false) (hcd : (x == ("__classdict__" : Str)) = false) :
    PE X (.Name x pos) (tE Φ fr X.K Γ w (.mv i)) := by
  refine PE_mono (pe_var hN hv hd hcd) fun σ H Q h => ?_
  obtain ⟨ρ, ts, r, ⟨G, F1, F2, sr⟩, he, q⟩ := h
  obtain ⟨d, e1, rfl⟩ := map_inv he
  obtain ⟨t', v, F3, F4, e2, e3, y⟩ := sr.takeOut e1
  rw [hw] at e2
  cases e2
  refine ⟨v, e3, q v H ?_⟩
  rcases h2 with rfl | rfl
  · exact ⟨_, _, _, y⟩
  · exact SR.give ⟨_, _, _, y⟩
/-- an operand that is a slot's own list -/
theorem o_s {i : Nat} {x : Str} (hN : X.N[i]? = some x) (hv : Vis X.env.scope x) (hw : Γ[i]? = some (.lst .fro)) (hd : (x == ("__debug__" : Str)) = false) (hcd : (x == ("__classdict__" : Str)) = false) :
    PE X (.Name x pos) (tO Φ fr X.K Γ (.s i)) := by
  refine PE_mono (pe_var hN hv hd hcd) fun σ H Q h => ?_
  obtain ⟨ρ, ts, r, ⟨G, F1, F2, sr⟩, he, q⟩ := h
  obtain ⟨d, e1, rfl⟩ := map_inv he
  obtain ⟨t', v, F3, F4, e2, e3, y⟩ := sr.takeOut e1
  exact ⟨v, e3, q v H ts ⟨G, F1, F2, sr⟩ ⟨rfl, e3, hw⟩⟩
theorem o_e {e : Expr} {a : E} (h : PE X e (tE Φ fr X.K Γ .fro a)) : PE X e (tO Φ fr X.K Γ (.e a)) := by
  refine PE_mono h fun σ H Q h => ?_
  obtain ⟨ρ, ts, r, sr, he, q⟩ := h
  exact ⟨ρ, ts, r, sr, he, fun v H' s' => q v H' _ s' rfl⟩
theorem e_k {e : Expr} {d : D} {v : V} (h : PE X e (tC v)) (s : scalar d = true) (r : ∀ G, Rp X.K G v d) : PE X e (tE Φ fr X.K Γ w (.k d)) := by
  refine PE_mono h fun σ H Q h => ?_
  obtain ⟨ρ, ts, q, sr, he, k⟩ := h
  have he : some (d, ρ) = some q := he
  cases he
  exact k v H (sr.res s r)
theorem e_gl {e : Expr} {x : Str} {d : D} {v : V} (h : PE X e (tC v)) (r : ∀ G, Rp X.K G v d) : PE X e (tE Φ fr X.K Γ .fro (.gl x d)) := by
  refine PE_mono h fun σ H Q h => ?_
  obtain ⟨ρ, ts, q, ⟨G, F1, F2, sr⟩, he, k⟩ := h
  have he : some (d, ρ) = some q := he
  cases he
  exact k v H ⟨G, F1, F2, sr.push (r G)⟩
/-! ### numbers -/
theorem e_neg {a : Expr} {ea : E} (ha : PE X a (tE Φ fr X.K Γ .fro ea)) : PE X (.UnaryOp .USub a pos) (tE Φ fr X.K Γ w (.neg ea)) := by
  refine PE_mono (pe_un un_neg ha) fun σ H Q h => ?_
  obtain ⟨ρ, ts, r, sr, he, q⟩ := h
  obtain ⟨ra, e1, e2⟩ := bind_inv he
  refine ⟨ρ, ts, ra, sr, e1, fun v H1 s1 => ?_⟩
  obtain ⟨G, F1, F2, y⟩ := id s1
  have rp := y.last1 rfl
  obtain ⟨d, ρ1⟩ := ra
  cases d with
  | int i =>
    cases rp
    cases e2
    exact ⟨i, rfl, q _ _ (s1.drop.res rfl fun G => .int _)⟩
  | _ => cases e2
def opA : Ar → Operator
  | .add => .Add
  | .sub => .Sub
  | .mul => .Mult
  | .fdiv => .FloorDiv
  | .mod => .Mod
  | .pow => .Pow
def rAr (o : Ar) : R2 := fun x y H Q => ∃ i j k, x = .int i ∧ y = .int j ∧ arD o (.int i) (.int j) = some (.int k) ∧ Q (.int k) H
theorem op_ar : ∀ o : Ar, OpR X (binaryOp (opA o)) (rAr o)
  | .add => fun pins s σ H x y v u Q I rx ry h => by
    obtain ⟨i, j, k, e1, e2, e, q⟩ := h
    cases e
    exact op_add pins s σ H x y v u Q I rx ry ⟨i, j, e1, e2, q⟩
  | .sub => fun pins s σ H x y v u Q I rx ry h => by
    obtain ⟨i, j, k, e1, e2, e, q⟩ := h
    cases e
    exact op_sub pins s σ H x y v u Q I rx ry ⟨i, j, e1, e2, q⟩
  | .mul => fun pins s σ H x y v u Q I rx ry h => by
    obtain ⟨i, j, k, e1, e2, e, q⟩ := h
    simp only [arD] at e
    split at e
    · rename_i c
      cases e
      exact op_mul pins s σ H x y v u Q I rx ry ⟨i, j, e1, e2, c, q⟩
    · cases e
  | .fdiv => fun pins s σ H x y v u Q I rx ry h => by
    obtain ⟨i, j, k, e1, e2, e, q⟩ := h
    simp only [arD] at e
    split at e
    · rename_i c
      cases e
      exact op_fdiv pins s σ H x y v u Q I rx ry ⟨i, j, e1, e2, c, q⟩
    · cases e
  | .mod => fun pins s σ H x y v u Q I rx ry h => by
    obtain ⟨i, j, k, e1, e2, e, q⟩ := h
    simp only [arD] at e
    split at e
    · rename_i c
      cases e
      exact op_mod pins s σ H x y v u Q I rx ry ⟨i, j, e1, e2, c, q⟩
    · cases e
  | .pow => fun pins s σ H x y v u Q I rx ry h => by
    obtain ⟨i, j, k, e1, e2, e, q⟩ := h
    simp only [arD] at e
    split at e
    · rename_i c
      cases e
      exact op_pow pins s σ H x y v u Q I rx ry ⟨i, j, e1, e2, c, q⟩
    · cases e
theorem arD_inv {o : Ar} {x y z : D} (h : arD o x y = some z) : ∃ i j k, x = .int i ∧ y = .int j ∧ z = .int k := by
  cases x <;> cases y <;> cases o <;> first
    | (cases h; done)
    | (cases h; exact ⟨_, _, _, rfl, rfl, rfl⟩)
    | (simp only [arD] at h; split at h <;> first | (cases h; exact ⟨_, _, _, rfl, rfl, rfl⟩) | cases h)
theorem e_ar (o : Ar) {a b : Expr} {ea eb : E} (ha : PE X a (tE Φ fr X.K Γ .fro ea)) (hb : PE X b (tE Φ fr X.K Γ .fro eb)) : PE X (.BinOp a (opA o) b pos) (tE Φ fr X.K Γ w (.ar o ea eb)) := by
  refine PE_mono (pe_op (op_ar o) ha hb) fun σ H Q h => ?_
  obtain ⟨ρ, ts, r, sr, he, q⟩ := h
  obtain ⟨ra, e1, he⟩ := bind_inv he
  obtain ⟨rb, e2, he⟩ := bind_inv he
  obtain ⟨d, e3, rfl⟩ := map_inv he
  refine ⟨ρ, ts, ra, sr, e1, fun v H1 s1 => ⟨ra.2, _, rb, s1, e2, fun u H2 s2 => ?_⟩⟩
  obtain ⟨G, F1, F2, y⟩ := id s2
  have rp := y.last2 rfl rfl
  obtain ⟨i, j, k, q1, q2, q3⟩ := arD_inv e3
  obtain ⟨d1, ρ1⟩ := ra
  obtain ⟨d2, ρ2⟩ := rb
  have q1 : d1 = .int i := q1
  have q2 : d2 = .int j := q2
  subst q1 q2 q3
  obtain ⟨r1, r2⟩ := rp
  cases r1
  cases r2
  exact ⟨i, j, k, rfl, rfl, e3, q _ _ (s2.drop.drop.res rfl fun G => .int _)⟩
def opC : Cm → CmpOp
  | .lt => .Lt
  | .le => .LtE
  | .gt => .Gt
  | .ge => .GtE
def rCm (o : Cm) : R2 := rI0 fun i j => .bl (cmI o i j)
theorem op_cm : ∀ o : Cm, OpR X (compareOp (opC o)) (rCm o)
  | .lt => op_lt
  | .le => op_le
  | .gt => op_gt
  | .ge => op_ge
theorem opC_in : ∀ o : Cm, opC o ≠ .In ∧ opC o ≠ .NotIn
  | .lt => ⟨by decide, by decide⟩
  | .le => ⟨by decide, by decide⟩
  | .gt => ⟨by decide, by decide⟩
  | .ge => ⟨by decide, by decide⟩
theorem cmD_inv {o : Cm} {x y : D} {z : Bool} (h : cmD o x y = some z) : ∃ i j, x = .int i ∧ y = .int j ∧ z = cmI o i j := by
  cases x <;> cases y <;> first
    | (cases h; done)
    | (cases h; exact ⟨_, _, rfl, rfl, rfl⟩)
theorem m_cm {K : PySem.W.Frag} (o : Cm) {ea eb : E} {σ : Sg} {H : Hp} {Q : VK} (h : tE Φ fr K Γ w (.cm o ea eb) σ H Q) : tOp (rCm o) (tE Φ fr K Γ .fro ea) (tE Φ fr K Γ .fro eb) σ H Q := by
  obtain ⟨ρ, ts, r, sr, he, q⟩ := h
  obtain ⟨ra, e1, he⟩ := bind_inv he
  obtain ⟨rb, e2, he⟩ := bind_inv he
  obtain ⟨d, e3, rfl⟩ := map_inv he
  refine ⟨ρ, ts, ra, sr, e1, fun v H1 s1 => ⟨ra.2, _, rb, s1, e2, fun u H2 s2 => ?_⟩⟩
  obtain ⟨G, F1, F2, y⟩ := id s2
  have rp := y.last2 rfl rfl
  obtain ⟨i, j, q1, q2, q3⟩ := cmD_inv e3
  obtain ⟨d1, ρ1⟩ := ra
  obtain ⟨d2, ρ2⟩ := rb
  have q1 : d1 = .int i := q1
  have q2 : d2 = .int j := q2
  subst q1 q2 q3
  obtain ⟨r1, r2⟩ := rp
  cases r1
  cases r2
  exact ⟨i, j, rfl, rfl, q _ _ (s2.drop.drop.res rfl fun G => .bl _)⟩
theorem m_ch {K : PySem.W.Frag} (o o2 : Cm) {ea eb ee : E} {σ : Sg} {H : Hp} {Q : VK} (h : tE Φ fr K Γ w (.ch o o2 ea eb ee) σ H Q) : tChain (rCm o) (rCm o2) (tE Φ fr K Γ .fro ea) (tE Φ fr K Γ .fro eb) (tE Φ fr K Γ .fro ee) σ H Q := by
  obtain ⟨ρ, ts, r, sr, he, q⟩ := h
  obtain ⟨ra, e1, he⟩ := bind_inv he
  obtain ⟨rb, e2, he2⟩ := bind_inv he
  obtain ⟨t, e3, he3⟩ := bind_inv he2
  clear he he2
  refine ⟨ρ, ts, ra, sr, e1, fun v H1 s1 => ⟨ra.2, _, rb, s1, e2, fun u H2 s2 => ?_⟩⟩
  obtain ⟨G, F1, F2, y⟩ := id s2
  have rp := y.last2 rfl rfl
  obtain ⟨i, j, q1, q2, q3⟩ := cmD_inv e3
  obtain ⟨d1, ρ1⟩ := ra
  obtain ⟨d2, ρ2⟩ := rb
  have q1 : d1 = .int i := q1
  have q2 : d2 = .int j := q2
  subst q1 q2
  obtain ⟨r1, r2⟩ := rp
  cases r1
  cases r2
  refine ⟨i, j, rfl, rfl, t, by rw [q3], ?_⟩
  by_cases ht : t = true
  · rw [if_pos ht] at he3 ⊢
    obtain ⟨rc, e4, he4⟩ := bind_inv he3
    obtain ⟨d, e5, rfl⟩ := map_inv he4
    refine ⟨ρ2, _, rc, s2, e4, fun v3 H3 s3 => ?_⟩
    obtain ⟨G3, F3, F4, y3⟩ := id s3
    have rp3 := y3.last3 rfl rfl rfl
    obtain ⟨j', k, p1, p2, p3⟩ := cmD_inv e5
    obtain ⟨d3, ρ3⟩ := rc
    have p2 : d3 = .int k := p2
    have p1 : PyData.int j = PyData.int j' := p1
    cases p1
    subst p2 p3
    obtain ⟨_, r2', r3'⟩ := rp3
    cases r3'
    exact ⟨j, k, rfl, rfl, q _ _ (s3.drop.drop.drop.res rfl fun G => .bl _)⟩
  · rw [if_neg ht] at he3 ⊢
    cases he3
    exact q _ _ (s2.drop.drop.res rfl fun G => .bl _)
end
end Vw
namespace Vw
open PySem PySem.Spec PyProof.Rows L2
section
variable {X : Cx} {Φ : Cf} {fr : Fr} {Γ : List Ty} {w : Ty} {pos : Pos}
/-! ### comparisons of data -/
theorem rp_bl {K : PySem.W.Frag} (b : Bool) (G : Hp) : Rp K G (.bl b) (.bool b) := .bl b
theorem op_eqG (hu : X.A.units + 64 < cLine) (ng : Bool) : OpR X (compareOp (if ng then .NotEq else .Eq)) (fun x y H Q => ∃ d e, Dp X.K H x d ∧ Dp X.K H y e ∧ SeqAt.shaped d = true ∧ SeqAt.shaped e = true ∧ Q (.bl (PyData.eqv d e != ng)) H) := by
  cases ng with
  | true =>
    intro pins s σ H x y v u Q I rx ry h
    obtain ⟨d, e, h1, h2, h3, h4, q⟩ := h
    exact op_neD hu pins s σ H x y v u Q I rx ry ⟨d, e, h1, h2, h3, h4, by rw [Bool.bne_true] at q; exact q⟩
  | false =>
    intro pins s σ H x y v u Q I rx ry h
    obtain ⟨d, e, h1, h2, h3, h4, q⟩ := h
    exact op_eqD hu pins s σ H x y v u Q I rx ry ⟨d, e, h1, h2, h3, h4, by rw [Bool.bne_false] at q; exact q⟩
theorem eqD_inv {ng : Bool} {x y z : D} (h : eqD ng x y = some z) : SeqAt.shaped x = true ∧ SeqAt.shaped y = true ∧ z = .bool (PyData.eqv x y != ng) := by
  unfold eqD at h
  split at h
  · rename_i c
    cases h
    exact ⟨c.1, c.2, rfl⟩
  · cases h
theorem eqop_in (ng : Bool) : (if ng then CmpOp.NotEq else .Eq) ≠ .In ∧ (if ng then CmpOp.NotEq else .Eq) ≠ .NotIn := by
  cases ng <;> exact ⟨by decide, by decide⟩
def rEqG (K : PySem.W.Frag) (ng : Bool) : R2 := fun x y H Q => ∃ d e, Dp K H x d ∧ Dp K H y e ∧ SeqAt.shaped d = true ∧ SeqAt.shaped e = true ∧ Q (.bl (PyData.eqv d e != ng)) H
theorem m_eq {K : PySem.W.Frag} (ng : Bool) {ea eb : E} {σ : Sg} {H : Hp} {Q : VK} (h : tE Φ fr K Γ w (.eq ng ea eb) σ H Q) : tOp (rEqG K ng) (tE Φ fr K Γ .fro ea) (tE Φ fr K Γ .fro eb) σ H Q := by
  obtain ⟨ρ, ts, r, sr, he, q⟩ := h
  obtain ⟨ra, e1, he⟩ := bind_inv he
  obtain ⟨rb, e2, he⟩ := bind_inv he
  obtain ⟨d, e3, rfl⟩ := map_inv he
  refine ⟨ρ, ts, ra, sr, e1, fun v H1 s1 => ⟨ra.2, _, rb, s1, e2, fun u H2 s2 => ?_⟩⟩
  obtain ⟨G, F1, F2, y⟩ := id s2
  have rp := y.last2 rfl rfl
  obtain ⟨q1, q2, rfl⟩ := eqD_inv e3
  exact ⟨_, _, (Rp_same y.sub _ _ rp.1).dp, (Rp_same y.sub _ _ rp.2).dp, q1, q2, q _ _ (s2.drop.drop.res rfl (rp_bl _))⟩
theorem op_isG (ng : Bool) : OpR X (compareOp (if ng then .IsNot else .Is)) (fun x y H Q => y = .non ∧ Q (.bl (decide (x = .non) != ng)) H) := by
  cases ng with
  | true =>
    intro pins s σ H x y v u Q I rx ry h
    exact op_notN pins s σ H x y v u Q I rx ry ⟨h.1, by have := h.2; rw [Bool.bne_true] at this; exact this⟩
  | false =>
    intro pins s σ H x y v u Q I rx ry h
    exact op_isN pins s σ H x y v u Q I rx ry ⟨h.1, by have := h.2; rw [Bool.bne_false] at this; exact this⟩
theorem rp_none {K : PySem.W.Frag} {G : Hp} {x : D} {v : V} (h : Rp K G v x) : decide (v = .non) = isNone x := by
  cases h <;> rfl
theorem isop_in (ng : Bool) : (if ng then CmpOp.IsNot else .Is) ≠ .In ∧ (if ng then CmpOp.IsNot else .Is) ≠ .NotIn := by
  cases ng <;> exact ⟨by decide, by decide⟩
def rIsG (ng : Bool) : R2 := fun x y H Q => y = .non ∧ Q (.bl (decide (x = .non) != ng)) H
theorem m_isn {K : PySem.W.Frag} (ng : Bool) {ea : E} {σ : Sg} {H : Hp} {Q : VK} (h : tE Φ fr K Γ w (.isn ng ea) σ H Q) : tOp (rIsG ng) (tE Φ fr K Γ .fro ea) (tC .non) σ H Q := by
  obtain ⟨ρ, ts, r, sr, he, q⟩ := h
  obtain ⟨ra, e1, rfl⟩ := map_inv he
  refine ⟨ρ, ts, ra, sr, e1, fun v H1 s1 => ⟨rfl, ?_⟩⟩
  obtain ⟨G, F1, F2, y⟩ := id s1
  rw [rp_none (y.last1 rfl)]
  exact q _ _ (s1.drop.res rfl (rp_bl _))
/-! ### tests -/
theorem truV {G H : Hp} {x : D} {v : V} {b : Bool} (s : Same G H) (h : Sn X.K G H x v) (e : truD x = some b) : TruV X.K v H b := by
  cases x with
  | none =>
    cases e
    rcases h with h | ⟨l', a, vs, e, _⟩
    · cases h; rfl
    · cases e
  | bool c =>
    cases e
    rcases h with h | ⟨l', a, vs, e, _⟩
    · cases h; rfl
    · cases e
  | int c =>
    cases e
    rcases h with h | ⟨l', a, vs, e, _⟩
    · cases h; rfl
    · cases e
  | list l =>
    cases e
    obtain ⟨a, vs, rfl, h1, h2⟩ := h.list s
    refine .inl ⟨vs, .inl h1, ?_⟩
    have e := h2.len
    cases vs <;> cases l <;> first | rfl | simp at e
  | tuple l =>
    cases e
    obtain ⟨a, vs, rfl, h1, h2⟩ := h.tuple s
    refine .inr (.inl ⟨vs, h1, ?_⟩)
    have e := h2.len
    cases vs <;> cases l <;> first | rfl | simp at e
  | str _ => cases e
  | dict _ => cases e
/-- an expression of no form of its own as a test -/
def plainT : Expr → Bool
  | .UnaryOp .Not _ _ => false
  | .BoolOp _ _ _ => false
  | .IfExp _ _ _ _ => false
  | .Compare _ _ _ _ => false
  | _ => true
theorem isTrue_plainT {a : Expr} {env : Env} (h : plainT a = true) (whole : Sem Value) : isTrue a env whole = (do let v ← whole; standAt a.pos; holding [v] (truthy v)) := by
  cases a with
  | UnaryOp op _ _ => cases op <;> first | rfl | cases h
  | BoolOp _ _ _ => cases h
  | IfExp _ _ _ _ => cases h
  | Compare _ _ _ _ => cases h
  | _ => rfl
theorem t_e {a : Expr} {ea : E} (ha : PE X a (tE Φ fr X.K Γ .fro ea)) (hp : plainT a = true) : PT X a (tT Φ fr X.K Γ (.e ea)) := by
  refine PT_mono (pt_truth ha (isTrue_plainT hp)) fun σ H Q h => ?_
  obtain ⟨ρ, ts, r, sr, he, q⟩ := h
  obtain ⟨ra, e1, he⟩ := bind_inv he
  obtain ⟨b, e2, rfl⟩ := map_inv he
  refine ⟨ρ, ts, ra, sr, e1, fun v H1 s1 => ?_⟩
  obtain ⟨G, F1, F2, y⟩ := id s1
  exact ⟨b, truV y.sub (.inl (y.last1 rfl)) e2, q _ s1.drop⟩
theorem t_sl {i : Nat} {x : Str} (hN : X.N[i]? = some x) (hv : Vis X.env.scope x) (hw : Γ[i]? = some (.lst .fro)) (hd : (x == ("__debug__" : Str)) = false) (hcd : (x == ("__classdict__" : Str)) = false) :
    PT X (.Name x pos) (tT Φ fr X.K Γ (.sl i)) := by
  refine PT_mono (pt_truth (o_s (Φ := Φ) (fr := fr) hN hv hw hd hcd) (isTrue_plainT rfl)) fun σ H Q h => ?_
  obtain ⟨ρ, ts, r, sr, he, q⟩ := h
  obtain ⟨d, e1, he⟩ := bind_inv he
  obtain ⟨b, e2, rfl⟩ := map_inv he
  refine ⟨ρ, ts, (d, ρ), sr, by show Option.map _ _ = _; rw [e1]; rfl, fun v H1 ts' s1 hd => ?_⟩
  obtain ⟨G, F1, F2, y⟩ := id s1
  have y' : SRd fr X.K G F1 F2 Γ ρ σ (ts' ++ []) H1 := by rw [List.append_nil]; exact y
  refine ⟨b, truV y.sub (y'.sn (Φ := Φ) hd e1) e2, q _ ?_⟩
  obtain ⟨rfl, _⟩ := hd
  exact s1
/-- whose value is a bool -/
def boolE : E → Bool
  | .cm _ _ _ => true
  | .ch _ _ _ _ _ => true
  | .eq _ _ _ => true
  | .isn _ _ => true
  | .inn _ _ _ => true
  | .ind _ _ _ => true
  | .ch3 _ _ _ _ _ _ _ => true
  | .isi _ _ => true
  | .isb _ _ _ => true
  | .ins _ _ _ => true
  | _ => false
theorem innD_inv {ng : Bool} {x y z : D} (h : innD ng x y = some z) : ∃ l, seqD y = some l ∧ flatD x = true ∧ l.all flatD = true ∧ z = .bool (l.any (fun e => PyData.eqv e x) != ng) := by
  unfold innD at h
  obtain ⟨l, e, h⟩ := bind_inv h
  split at h
  · rename_i c
    cases h
    exact ⟨l, e, c.1, c.2, rfl⟩
  · cases h
theorem indD_inv {ng : Bool} {x y z : D} (h : indD ng x y = some z) : ∃ l, y = .list l ∧ SeqAt.shaped x = true ∧ SeqAt.shaped (.list l) = true ∧ z = .bool (l.any (fun e => PyData.eqv e x) != ng) := by
  cases y with
  | list l =>
    have h : (if SeqAt.shaped x = true ∧ SeqAt.shaped (.list l) = true then some (.bool (l.any (fun e => PyData.eqv e x) != ng)) else none) = some z := h
    split at h
    · rename_i c
      cases h
      exact ⟨l, rfl, c.1, c.2, rfl⟩
    · cases h
  | _ => exact absurd (show (none : Option D) = some z from h) (by simp)
theorem boolE_ok {e : E} (h : boolE e = true) {ρ : Rho} {r : D × Rho} (he : ev Φ e ρ = some r) : ∃ b, r.1 = .bool b := by
  cases e with
  | cm o a b =>
    obtain ⟨ra, e1, he⟩ := bind_inv he
    obtain ⟨rb, e2, he⟩ := bind_inv he
    obtain ⟨d, e3, rfl⟩ := map_inv he
    exact ⟨_, rfl⟩
  | ch o o2 a b e =>
    obtain ⟨ra, e1, he⟩ := bind_inv he
    obtain ⟨rb, e2, he⟩ := bind_inv he
    obtain ⟨d, e3, he⟩ := bind_inv he
    split at he
    · obtain ⟨rc, e4, he⟩ := bind_inv he
      obtain ⟨d, e5, rfl⟩ := map_inv he
      exact ⟨_, rfl⟩
    · cases he
      exact ⟨_, rfl⟩
  | eq ng a b =>
    obtain ⟨ra, e1, he⟩ := bind_inv he
    obtain ⟨rb, e2, he⟩ := bind_inv he
    obtain ⟨d, e3, rfl⟩ := map_inv he
    obtain ⟨q1, q2, rfl⟩ := eqD_inv e3
    exact ⟨_, rfl⟩
  | isn ng a =>
    obtain ⟨ra, e1, rfl⟩ := map_inv he
    exact ⟨_, rfl⟩
  | inn ng a b =>
    obtain ⟨ra, e1, he⟩ := bind_inv he
    obtain ⟨rb, e2, he⟩ := bind_inv he
    obtain ⟨d, e3, rfl⟩ := map_inv he
    obtain ⟨l, _, _, _, rfl⟩ := innD_inv e3
    exact ⟨_, rfl⟩
  | ind ng a b =>
    obtain ⟨ra, e1, he⟩ := bind_inv he
    obtain ⟨rb, e2, he⟩ := bind_inv he
    obtain ⟨d, e3, rfl⟩ := map_inv he
    obtain ⟨l, _, _, _, rfl⟩ := indD_inv e3
    exact ⟨_, rfl⟩
  | ins ng a i =>
    obtain ⟨ra, e1, he⟩ := bind_inv he
    obtain ⟨rb, e2, he⟩ := bind_inv he
    obtain ⟨d, e3, rfl⟩ := map_inv he
    obtain ⟨l, _, _, _, rfl⟩ := indD_inv e3
    exact ⟨_, rfl⟩
  | isb ng v a =>
    obtain ⟨ra, e1, he⟩ := bind_inv he
    split at he
    · cases he
      exact ⟨_, rfl⟩
    · cases he
  | isi k a =>
    obtain ⟨ra, e1, he⟩ := bind_inv he
    obtain ⟨d, e3, rfl⟩ := map_inv he
    exact ⟨_, rfl⟩
  | ch3 o o2 o3 a b e f =>
    obtain ⟨ra, e1, he⟩ := bind_inv he
    obtain ⟨rb, e2, he⟩ := bind_inv he
    obtain ⟨d, e3, he⟩ := bind_inv he
    split at he
    · obtain ⟨rc, e4, he⟩ := bind_inv he
      obtain ⟨d, e5, he⟩ := bind_inv he
      split at he
      · obtain ⟨rd, e6, he⟩ := bind_inv he
        obtain ⟨d, e7, rfl⟩ := map_inv he
        exact ⟨_, rfl⟩
      · cases he
        exact ⟨_, rfl⟩
    · cases he
      exact ⟨_, rfl⟩
  | _ => cases h
/-- a comparison as a test -/
theorem t_cmp {a : Expr} {ops : List CmpOp} {cs : List Expr} {ea : E} {t : TE} (h : PT X (.Compare a ops cs pos) (tTest t)) (hb : boolE ea = true) (i : ∀ σ H Q, tE Φ fr X.K Γ .fro ea σ H Q → t σ H Q) : PT X (.Compare a ops cs pos) (tT Φ fr X.K Γ (.e ea)) := by
  refine PT_mono h fun σ H Q h => ?_
  obtain ⟨ρ, ts, r, sr, he, q⟩ := h
  obtain ⟨ra, e1, he⟩ := bind_inv he
  obtain ⟨b, e2, rfl⟩ := map_inv he
  refine i σ H _ ⟨ρ, ts, ra, sr, e1, fun v H1 s1 => ?_⟩
  obtain ⟨G, F1, F2, y⟩ := id s1
  have rp := y.last1 rfl
  obtain ⟨c, e3⟩ := boolE_ok hb e1
  obtain ⟨d, ρ1⟩ := ra
  have e3 : d = .bool c := e3
  subst e3
  cases rp
  have e2 : some c = some b := e2
  cases e2
  exact ⟨_, rfl, q _ s1.drop⟩
theorem t_no {a : Expr} {ta : T} (ha : PT X a (tT Φ fr X.K Γ ta)) : PT X (.UnaryOp .Not a pos) (tT Φ fr X.K Γ (.no ta)) := by
  refine PT_mono (pt_not ha) fun σ H Q h => ?_
  obtain ⟨ρ, ts, r, sr, he, q⟩ := h
  obtain ⟨ra, e1, rfl⟩ := map_inv he
  exact ⟨ρ, ts, ra, sr, e1, fun H1 s1 => q _ s1⟩
theorem w_an {a b : Expr} {rest : List Expr} {ta tb : T} (ha : PT X a (tT Φ fr X.K Γ ta)) (hb : PW X (.BoolOp .And (b :: rest) pos) (tT Φ fr X.K Γ tb)) : PW X (.BoolOp .And (a :: b :: rest) pos) (tT Φ fr X.K Γ (.an ta tb)) := by
  refine ⟨fun whole pins s σ H Q I h => (pw_and ha hb).run whole pins s σ H Q I ?_⟩
  obtain ⟨ρ, ts, r, sr, he, q⟩ := h
  obtain ⟨ra, e1, he⟩ := bind_inv he
  refine ⟨ρ, ts, ra, sr, e1, fun H1 s1 => ?_⟩
  by_cases hc : ra.1 = true
  · rw [if_pos hc] at he ⊢
    exact ⟨_, ts, r, s1, he, q⟩
  · rw [if_neg hc] at he ⊢
    cases he
    exact q _ s1
theorem w_orr {a b : Expr} {rest : List Expr} {ta tb : T} (ha : PT X a (tT Φ fr X.K Γ ta)) (hb : PW X (.BoolOp .Or (b :: rest) pos) (tT Φ fr X.K Γ tb)) : PW X (.BoolOp .Or (a :: b :: rest) pos) (tT Φ fr X.K Γ (.orr ta tb)) := by
  refine ⟨fun whole pins s σ H Q I h => (pw_or ha hb).run whole pins s σ H Q I ?_⟩
  obtain ⟨ρ, ts, r, sr, he, q⟩ := h
  obtain ⟨ra, e1, he⟩ := bind_inv he
  refine ⟨ρ, ts, ra, sr, e1, fun H1 s1 => ?_⟩
  by_cases hc : ra.1 = true
  · rw [if_pos hc] at he ⊢
    cases he
    exact q _ s1
  · rw [if_neg hc] at he ⊢
    exact ⟨_, ts, r, s1, he, q⟩
/-! ### not, and, or, if as values -/
theorem e_no {a : Expr} {ea : E} (ha : PE X a (tE Φ fr X.K Γ .fro ea)) : PE X (.UnaryOp .Not a pos) (tE Φ fr X.K Γ w (.no (.e ea))) := by
  refine PE_mono (pe_notT ha) fun σ H Q h => ?_
  obtain ⟨ρ, ts, r, sr, he, q⟩ := h
  obtain ⟨rb, e0, rfl⟩ := map_inv he
  obtain ⟨ra, e1, he⟩ := bind_inv e0
  obtain ⟨b, e2, rfl⟩ := map_inv he
  refine ⟨ρ, ts, ra, sr, e1, fun v H1 s1 => ?_⟩
  obtain ⟨G, F1, F2, y⟩ := id s1
  exact ⟨b, truV y.sub (.inl (y.last1 rfl)) e2, q _ _ (s1.drop.res rfl (rp_bl _))⟩
theorem e_an {a b : Expr} {rest : List Expr} {ea eb : E} (ha : PE X a (tE Φ fr X.K Γ .fro ea)) (hb : PE X (.BoolOp .And (b :: rest) pos) (tE Φ fr X.K Γ .fro eb)) : PE X (.BoolOp .And (a :: b :: rest) pos) (tE Φ fr X.K Γ .fro (.an ea eb)) := by
  refine PE_mono (pe_and ha hb) fun σ H Q h => ?_
  obtain ⟨ρ, ts, r, sr, he, q⟩ := h
  obtain ⟨ra, e1, he⟩ := bind_inv he
  refine ⟨ρ, ts, ra, sr, e1, fun v H1 s1 => ?_⟩
  obtain ⟨G, F1, F2, y⟩ := id s1
  have rp := y.last1 rfl
  obtain ⟨d, ρ1⟩ := ra
  cases d with
  | bool c =>
    cases rp
    refine ⟨c, rfl, ?_⟩
    have he : (if c = true then ev Φ eb ρ1 else some (.bool false, ρ1)) = some r := he
    by_cases hc : c = true
    · rw [if_pos hc] at he ⊢
      exact ⟨_, ts, r, s1.drop, he, q⟩
    · rw [if_neg hc] at he ⊢
      cases he
      exact q _ _ (s1.drop.res rfl (rp_bl _))
  | _ => cases he
theorem e_orr {a b : Expr} {rest : List Expr} {ea eb : E} (ha : PE X a (tE Φ fr X.K Γ .fro ea)) (hb : PE X (.BoolOp .Or (b :: rest) pos) (tE Φ fr X.K Γ .fro eb)) : PE X (.BoolOp .Or (a :: b :: rest) pos) (tE Φ fr X.K Γ .fro (.orr ea eb)) := by
  refine PE_mono (pe_or ha hb) fun σ H Q h => ?_
  obtain ⟨ρ, ts, r, sr, he, q⟩ := h
  obtain ⟨ra, e1, he⟩ := bind_inv he
  refine ⟨ρ, ts, ra, sr, e1, fun v H1 s1 => ?_⟩
  obtain ⟨G, F1, F2, y⟩ := id s1
  have rp := y.last1 rfl
  obtain ⟨d, ρ1⟩ := ra
  cases d with
  | bool c =>
    cases rp
    refine ⟨c, rfl, ?_⟩
    have he : (if c = true then some (.bool true, ρ1) else ev Φ eb ρ1) = some r := he
    by_cases hc : c = true
    · rw [if_pos hc] at he ⊢
      cases he
      exact q _ _ (s1.drop.res rfl (rp_bl _))
    · rw [if_neg hc] at he ⊢
      exact ⟨_, ts, r, s1.drop, he, q⟩
  | _ => cases he
theorem e_ife {c a b : Expr} {tc : T} {ea eb : E} (hc : PT X c (tT Φ fr X.K Γ tc)) (ha : PE X a (tE Φ fr X.K Γ w ea)) (hb : PE X b (tE Φ fr X.K Γ w eb)) : PE X (.IfExp c a b pos) (tE Φ fr X.K Γ w (.ife tc ea eb)) := by
  refine PE_mono (pe_ifExp hc ha hb) fun σ H Q h => ?_
  obtain ⟨ρ, ts, r, sr, he, q⟩ := h
  obtain ⟨ra, e1, he⟩ := bind_inv he
  refine ⟨ρ, ts, ra, sr, e1, fun H1 s1 => ?_⟩
  by_cases hd : ra.1 = true
  · rw [if_pos hd] at he ⊢
    exact ⟨_, ts, r, s1, he, q⟩
  · rw [if_neg hd] at he ⊢
    exact ⟨_, ts, r, s1, he, q⟩
/-! ### displays -/
def noStar : Expr → Bool
  | .Starred _ _ => false
  | _ => true
theorem star_cons {e : Expr} {es : List Expr} {env : Env} (h : noStar e = true) : starEach (e :: es) env = (false, eval e env) :: starEach es env := by
  cases e <;> first | rfl | cases h
theorem as_nil : PA X [] (tEs Φ fr X.K Γ w .nil) := by
  refine PA_mono pa_nil fun σ H Q h => ?_
  obtain ⟨ρ, ts, r, sr, he, q⟩ := h
  have he : some ([], ρ) = some r := he
  cases he
  refine q [] H rfl ?_
  show SR fr X.K Γ ρ σ (ts ++ []) H
  rw [List.append_nil]
  exact sr
theorem as_cons {e : Expr} {es : List Expr} {ea : E} {eas : Es} (ha : PE X e (tE Φ fr X.K Γ w ea)) (hb : PA X es (tEs Φ fr X.K Γ w eas)) (hs : noStar e = true) : PA X (e :: es) (tEs Φ fr X.K Γ w (.cons ea eas)) := by
  refine PA_mono (pa_cons ha hb (star_cons hs)) fun σ H Q h => ?_
  obtain ⟨ρ, ts, r, sr, he, q⟩ := h
  obtain ⟨ra, e1, he⟩ := bind_inv he
  obtain ⟨rb, e2, rfl⟩ := map_inv he
  refine ⟨ρ, ts, ra, sr, e1, fun v H1 s1 => ⟨ra.2, _, rb, s1, e2, fun vs H2 hl s2 => ?_⟩⟩
  rw [List.append_assoc] at s2
  exact q (v :: vs) H2 (by simp [hl]) s2
theorem lenOk_of {n : Nat} (h : lenOk n = true) : n ≤ sizeLine := of_decide_eq_true h
theorem e_lst {t : Ty} {es : List Expr} {eas : Es} (m : Made t w) (ha : PA X es (tEs Φ fr X.K Γ t eas)) : PE X (.List es pos) (tE Φ fr X.K Γ w (.lst eas)) := by
  refine PE_mono (pe_lst ha) fun σ H Q h => ?_
  obtain ⟨ρ, ts, r, sr, he, q⟩ := h
  obtain ⟨ra, e1, he⟩ := bind_inv he
  split at he
  · rename_i c
    cases he
    refine ⟨ρ, ts, ra, sr, e1, fun vs H1 hl s1 => ⟨by rw [hl]; exact lenOk_of c, fun p hp => ?_⟩⟩
    obtain ⟨G, F1, F2, y⟩ := id s1
    have z := y.list tms_t m hp
    rw [tms_d hl, tms_v hl] at z
    exact q _ _ z
  · cases he
theorem TmF.alls {K : PySem.W.Frag} {G H : Hp} {us : List Tm} {F : List Addr} (h : TmF K G H us F) (hw : ∀ x ∈ us, x.t = .fro) : RpAll K G (us.map Tm.v) (us.map Tm.d) := (TmF.all hw h).fro.2
theorem e_tup {es : List Expr} {eas : Es} {k : Nat} (ha : PA X es (tEs Φ fr X.K Γ .fro eas)) : PE X (.Tuple es k pos) (tE Φ fr X.K Γ .fro (.tup eas)) := by
  refine PE_mono (pe_tup ha) fun σ H Q h => ?_
  obtain ⟨ρ, ts, r, sr, he, q⟩ := h
  obtain ⟨ra, e1, he⟩ := bind_inv he
  split at he
  · rename_i c
    cases he
    refine ⟨ρ, ts, ra, sr, e1, fun vs H1 hl s1 => ⟨by rw [hl]; exact lenOk_of c, fun p hp => ?_⟩⟩
    obtain ⟨G, F1, F2, y⟩ := id s1
    obtain ⟨F3, F4, _, _, t2⟩ := y.tm.app
    have rs := t2.alls tms_t
    rw [tms_d hl, tms_v hl] at rs
    obtain ⟨F5, y2⟩ := y.drop
    exact q _ _ (y2.newTup rs hp)
  · cases he
end
end Vw
namespace Vw
open PySem PySem.Spec PyProof.Rows L2
/-! tuples of ints, sorted -/
theorem intsD_tup : ∀ {l : List D} {ns : List Int}, intsD l = some ns → l = ns.map .int
  | [], ns, h => by
    cases h
    rfl
  | .int i :: r, ns, h => by
    obtain ⟨us, e2, rfl⟩ := map_inv (show (intsD r).map (i :: ·) = some ns from h)
    rw [intsD_tup e2]
    rfl
  | .none :: _, _, h => by cases h
  | .bool _ :: _, _, h => by cases h
  | .str _ :: _, _, h => by cases h
  | .list _ :: _, _, h => by cases h
  | .tuple _ :: _, _, h => by cases h
  | .dict _ :: _, _, h => by cases h
theorem srtD_list {l : List D} {d : D} (e : srtD l = some d) : ∃ m, d = .list m := by
  unfold srtD at e
  split at e
  · split at e
    · cases e
      exact ⟨_, rfl⟩
    · cases e
  · obtain ⟨ts, _, e⟩ := bind_inv e
    split at e
    · cases e
      exact ⟨_, rfl⟩
    · cases e
theorem tupsD_inv : ∀ {l : List D} {ts : List (List Int)}, tupsD l = some ts → l = ts.map tupL
  | [], ts, h => by
    cases h
    rfl
  | d :: r, ts, h => by
    obtain ⟨t, e1, h⟩ := bind_inv h
    obtain ⟨us, e2, rfl⟩ := map_inv h
    rw [tupsD_inv e2]
    cases d with
    | tuple m =>
      rw [intsD_tup (show intsD m = some t from e1)]
      rfl
    | _ => cases e1
theorem tOkB_of {d : Nat} {t : List Int} (h : tOkB d t = true) : t.length = d ∧ TS.Bd BT t := by
  obtain ⟨h1, h2⟩ := Bool.and_eq_true_iff.mp h
  exact ⟨of_decide_eq_true h1, fun m hm => of_decide_eq_true (List.all_eq_true.mp h2 m hm)⟩
theorem tupI_of {K : PySem.W.Frag} {G H : Hp} {x : V} {t : List Int} (s : Same G H) (h : Rp K G x (tupL t)) : TupI K H x t := by
  unfold tupL at h
  cases h with
  | tup h1 h2 => exact ⟨_, rfl, by rw [← h2.ints]; exact SqT_same s h1⟩
theorem RpAll.perm {K : PySem.W.Frag} {G : Hp} : ∀ {ys vs : List V}, ys.Perm vs → ∀ {l : List D}, RpAll K G vs l → ∃ l', l'.Perm l ∧ RpAll K G ys l' := by
  intro ys vs p
  induction p with
  | nil => exact fun h => ⟨_, List.Perm.refl _, h⟩
  | cons x _ ih =>
    intro l h
    cases h with
    | cons h1 h2 =>
      obtain ⟨l', p', r'⟩ := ih h2
      exact ⟨_ :: l', p'.cons _, .cons h1 r'⟩
  | swap x y z =>
    intro l h
    cases h with
    | cons h1 h2 =>
      cases h2 with
      | cons h3 h4 => exact ⟨_, List.Perm.swap _ _ _, .cons h3 (.cons h1 h4)⟩
  | trans _ _ ih1 ih2 =>
    intro l h
    obtain ⟨l1, p1, r1⟩ := ih2 h
    obtain ⟨l2, p2, r2⟩ := ih1 r1
    exact ⟨l2, p2.trans p1, r2⟩
theorem perm_map_inv {α β : Type} {f : α → β} {l' : List β} {k : List β} (h : l'.Perm k) : ∀ {l : List α}, l.map f = k → ∃ m : List α, l' = m.map f ∧ m.Perm l := by
  induction h with
  | nil => exact fun {l} e => ⟨[], rfl, by rw [List.map_eq_nil_iff.mp e]⟩
  | cons x _ ih =>
    intro l e
    cases l with
    | nil => cases e
    | cons a l =>
      cases e
      obtain ⟨m, rfl, pm⟩ := ih rfl
      exact ⟨a :: m, rfl, pm.cons a⟩
  | swap x y z =>
    intro l e
    cases l with
    | nil => cases e
    | cons a l =>
      cases l with
      | nil => cases e
      | cons b l =>
        cases e
        exact ⟨b :: a :: l, rfl, List.Perm.swap _ _ _⟩
  | trans _ _ ih1 ih2 =>
    intro l e
    obtain ⟨m, e1, pm⟩ := ih2 e
    obtain ⟨m2, e2, pm2⟩ := ih1 e1.symm
    exact ⟨m2, e2, pm2.trans pm⟩
theorem RpAll.pair {K : PySem.W.Frag} {G : Hp} {R : V → V → Prop} {S : D → D → Prop} (f : ∀ x y d e, Rp K G x d → Rp K G y e → R x y → S d e) : ∀ {ys : List V} {l : List D}, RpAll K G ys l → ys.Pairwise R → l.Pairwise S
  | _, _, .nil, _ => List.Pairwise.nil
  | x :: ys, d :: l, .cons h t, p => by
    obtain ⟨p1, p2⟩ := List.pairwise_cons.mp p
    refine List.pairwise_cons.mpr ⟨fun e he => ?_, RpAll.pair f t p2⟩
    obtain ⟨i, hi, ei⟩ := List.getElem_of_mem he
    obtain ⟨v, g1, g2⟩ := t.get (i := i) (d := e) (by rw [List.getElem?_eq_getElem hi, ei])
    exact f _ _ _ _ h g2 (p1 v (List.mem_of_getElem? g1))
theorem insT_perm (x : List Int) : ∀ l, (insT x l).Perm (x :: l)
  | [] => List.Perm.refl _
  | y :: r => by
    unfold insT
    split
    · exact List.Perm.refl _
    · exact ((insT_perm x r).cons y).trans (List.Perm.swap x y r)
theorem sortT_perm : ∀ l, (sortT l).Perm l
  | [] => List.Perm.refl _
  | x :: r => (insT_perm x _).trans ((sortT_perm r).cons x)
theorem insT_sorted (x : List Int) : ∀ {l : List (List Int)}, l.Pairwise (fun a b => TS.code BT a ≤ TS.code BT b) → (insT x l).Pairwise (fun a b => TS.code BT a ≤ TS.code BT b)
  | [], _ => by simp [insT]
  | y :: r, h => by
    unfold insT
    obtain ⟨h1, h2⟩ := List.pairwise_cons.mp h
    split
    · rename_i c
      refine List.pairwise_cons.mpr ⟨fun z hz => ?_, h⟩
      rcases List.mem_cons.mp hz with rfl | hz
      · exact c
      · exact Int.le_trans c (h1 z hz)
    · rename_i c
      refine List.pairwise_cons.mpr ⟨fun z hz => ?_, insT_sorted x h2⟩
      rcases List.mem_cons.mp ((insT_perm x r).mem_iff.mp hz) with rfl | hz
      · omega
      · exact h1 z hz
theorem sortT_sorted : ∀ l, (sortT l).Pairwise (fun a b => TS.code BT a ≤ TS.code BT b)
  | [] => List.Pairwise.nil
  | x :: r => insT_sorted x (sortT_sorted r)
theorem code_inj {B : Int} : ∀ {a b : List Int}, a.length = b.length → TS.Bd B a → TS.Bd B b → TS.code B a = TS.code B b → a = b
  | [], [], _, _, _, _ => rfl
  | [], _ :: _, h, _, _, _ => by simp at h
  | _ :: _, [], h, _, _, _ => by simp at h
  | d :: r, e :: q, h, h1, h2, hc => by
    have hl : r.length = q.length := by simpa using h
    rcases Int.lt_trichotomy d e with hd | hd | hd
    · have := TS.code_lt hl h1.tail h2.tail hd
      omega
    · subst hd
      have e2 : TS.code B r = TS.code B q := by
        have hc : d * B ^ r.length + TS.code B r = d * B ^ q.length + TS.code B q := hc
        rw [hl] at hc
        omega
      rw [code_inj hl h1.tail h2.tail e2]
    · have := TS.code_lt hl.symm h2.tail h1.tail hd
      omega
theorem sortT_one {a b : List (List Int)} {d : Nat} (h : a.Perm b) (h1 : a.Pairwise (fun a b => TS.code BT a ≤ TS.code BT b)) (h2 : b.Pairwise (fun a b => TS.code BT a ≤ TS.code BT b)) (ha : ∀ t ∈ a, t.length = d ∧ TS.Bd BT t) (hb : ∀ t ∈ b, t.length = d ∧ TS.Bd BT t) : a = b :=
  h.eq_of_pairwise (fun x y hx hy p q => code_inj ((ha x hx).1.trans (hb y hy).1.symm) (ha x hx).2 (hb y hy).2 (Int.le_antisymm p q)) h1 h2
end Vw
namespace Vw
open PySem PySem.Spec PyProof.Rows L2
/-! ### operations on lists and tuples, by the library's rules -/
theorem tuple_mul1 (l : Addr) (items : Array Value) (n : Nat) (sl : Array (Option Value)) (dd : Option Addr) (u : Tok) :
    Meets (Builtin.«tuple.__mul__» ⟨[.ref l, .int 1 u], []⟩) (fun _ R s => s.heap.get? l = some { cls := .type "tuple", dict := dd, data := .seq items n, slots := sl } ∧ R (.ok (.ret (Value.ref l))) s) :=
  .of_wp fun prog w A R s h => by
    obtain ⟨hp, g, d, tk, os⟩ := s
    obtain ⟨hl, h⟩ := h
    have f1 := AutoSeq1.idx_int
    have c0 : (decide ((1 : Int) < -(2 ^ 63)) || decide ((1 : Int) ≥ 2 ^ 63)) = false := by decide
    have c1 : (items.isEmpty || (1 : Int) == 1) = true := by simp
    wp_walk using wpAny_loadPart' hl
    repeat (first
      | (refine wpAny_ite_false (decide_eq_false (by rw [c0]; exact Bool.false_ne_true)) ?_; wp_walk using wpAny_loadPart' hl)
      | (rw [if_pos c1]; wp_walk using wpAny_loadPart' hl))
    exact ⟨_, rfl, h⟩
section
variable {X : Cx}
def rRep1 (K : PySem.W.Frag) : R2 := fun x y H Q => ∃ l xs, x = .ref l ∧ y = .int 1 ∧ SqT K H l xs ∧ Q (.ref l) H
theorem op_rep1 : OpR X (binaryOp .Mult) (rRep1 X.K) := by
  intro pins s σ H x y v u Q I rx ry h
  obtain ⟨l, xs, rfl, rfl, hT, q⟩ := h
  cases rx
  obtain ⟨t, rfl⟩ := ry
  obtain ⟨its, r, ⟨⟨cls, dd, data, sl⟩, ho, hc, n, hd⟩, hs⟩ := I.tuple hT
  simp only at hc hd
  subst hc hd
  refine wpAny_binaryOp_repeat_ref (T := "tuple") (U := "int") (by decide) ⟨_, ho, rfl⟩ (fun s' => typeIs_int s' 1 t) noFill_tuple_mul F.fills_int_mul F.slot_int_rmul repeat_tuple F.slot_int_index.lookup
    (call_meets F.slot_int_rmul (typeIs_int s 1 t) F.entry_int_rmul (F.args_int_rmul_2 _ _) (int_rmul_tuple 1 t l its.toArray n dd sl)
      ⟨ho, rfl, ⟨_, ho, rfl⟩, call_meets F.slot_tuple_mul ⟨_, ho, rfl⟩ F.entry_tuple_mul (F.args_tuple_mul_2 _ _) (tuple_mul1 l its.toArray n sl dd t) ⟨ho, ?_⟩⟩)
  exact ⟨.ref l, H, I, rfl, q⟩
theorem rd_lst {pins : List (Addr × Obj)} {σ : Sg} {H : Hp} {s : Shared} {l : Addr} {xs : List V} (I : Inv X pins σ H s) (h : Rd H l (.lst xs)) : xs.length ≤ sizeLine ∧ ∃ (its : List Value) (n : Nat), Vals xs its ∧ xs.length = its.length ∧ s.heap.get? l = some { cls := .type "list", data := .seq its.toArray n } := by
  obtain ⟨z, its, n, r, e⟩ := h.ok I.hok
  exact ⟨z, its, n, r, r.length, e⟩
def rCatS : R2 := fun x y H Q => ∃ l b xs zs, x = .ref l ∧ y = .ref b ∧ Rd H l (.lst xs) ∧ Rd H b (.lst zs) ∧ xs.length + zs.length ≤ sizeLine ∧ ∀ p, H p = none → Q (.ref p) (upd H p (.lst (xs ++ zs)))
theorem op_catS : OpR X (binaryOp .Add) rCatS := by
  intro pins s σ H x y v u Q I rx ry h
  obtain ⟨l, b, xs, zs, rfl, rfl, hH, hB, hz, q⟩ := h
  cases rx
  cases ry
  obtain ⟨z, its, n, r, hl, e⟩ := rd_lst I hH
  obtain ⟨z2, its2, n2, r2, hl2, e2⟩ := rd_lst I hB
  refine PySem.P.add_list e e2 ?_ (by rw [List.size_toArray, List.size_toArray]; omega)
  have ea : its.toArray ++ its2.toArray = (its ++ its2).toArray := by simp
  rw [ea]
  exact ⟨.ref _, _, I.lnew (t' := s.toks) (r.append r2) (by rw [List.length_append]; omega), rfl, q _ I.fresh⟩
def rRepS : R2 := fun x y H Q => ∃ l k xs, x = .ref l ∧ y = .int k ∧ Rd H l (.lst xs) ∧ -(2 ^ 63) ≤ k ∧ k < 2 ^ 63 ∧ xs.length * k.toNat ≤ sizeLine ∧
  ∀ p, H p = none → Q (.ref p) (upd H p (.lst (List.replicate k.toNat xs).flatten))
theorem op_repS : OpR X (binaryOp .Mult) rRepS := by
  intro pins s σ H x y v u Q I rx ry h
  obtain ⟨l, k, xs, rfl, rfl, hH, h1, h2, hz, q⟩ := h
  cases rx
  obtain ⟨t, rfl⟩ := ry
  obtain ⟨z, its, n, r, hl, e⟩ := rd_lst I hH
  have hlen : its.toArray.size * k.toNat ≤ sizeLine := by rw [List.size_toArray, ← hl]; exact hz
  have hcap : ¬ its.toArray.size * k.toNat > (2 ^ 63 - 1) / 8 := by
    have : (sizeLine : Nat) ≤ (2 ^ 63 - 1) / 8 := by decide
    omega
  have hfit : ¬ (!Builtin.List.listFitsIndex k) = true := by
    rw [fitsIndex_both h1 h2]
    exact Bool.false_ne_true
  have hlong : ¬ Builtin.List.listTooLong (its.toArray.size * k.toNat) = true := by
    rw [notLongL hlen]
    exact Bool.false_ne_true
  have hnew : List.foldl (fun x1 x2 => x1 ++ x2) #[] (List.replicate (if its.toArray.isEmpty = true then 0 else k.toNat) its.toArray) = (List.replicate k.toNat its).flatten.toArray := by
    have f0 : ∀ m : Nat, List.foldl (fun x1 x2 => x1 ++ x2) #[] (List.replicate m its.toArray) = (List.replicate m its).flatten.toArray := fun m => by
      have := foldl_rep its m []
      rw [List.nil_append] at this
      exact this
    rw [f0]
    cases its with
    | nil => simp
    | cons a r' => rw [if_neg (by simp)]
  refine wpAny_binaryOp_repeat_ref (T := "list") (U := "int") (by decide) ⟨_, e, rfl⟩ (fun s' => typeIs_int s' k t) noFill_list_mul F.fills_int_mul F.slot_int_rmul repeat_list F.slot_int_index.lookup
    (call_meets F.slot_int_rmul (typeIs_int s k t) F.entry_int_rmul (F.args_int_rmul_2 _ _) (int___rmul___int_list k t l its.toArray n)
      ⟨e, rfl, ⟨_, e, rfl⟩, call_meets F.slot_list_mul ⟨_, e, rfl⟩ F.entry_list_mul (F.args_list_mul_2 _ _) (AutoListH.list___mul___list_int_3 l its.toArray n k t hfit hcap hlong) ⟨e, ?_⟩⟩)
  rw [hnew]
  exact ⟨.ref _, _, I.lnew (t' := s.toks) (r.rep k.toNat) (by rw [PyProof.Rows.lm_len_rep_flat, Nat.mul_comm]; exact hz), rfl, q _ I.fresh⟩
end
theorem RpAll.flat {K : PySem.W.Frag} {G : Hp} {vs : List V} {ds : List D} (h : RpAll K G vs ds) : ∀ k : Nat, RpAll K G (List.replicate k vs).flatten (repN k ds)
  | 0 => .nil
  | k + 1 => by
    show RpAll K G (List.replicate (k + 1) vs).flatten (List.replicate (k + 1) ds).flatten
    rw [List.replicate_succ, List.replicate_succ, List.flatten_cons, List.flatten_cons]
    exact h.app (h.flat k)
theorem RpAll.cut {K : PySem.W.Frag} {G : Hp} {vs : List V} {ds : List D} (h : RpAll K G vs ds) (lo hi : Option Int) : RpAll K G (cutV vs lo hi) (cutD ds lo hi) := by
  unfold cutV cutD
  rw [h.len]
  exact (h.drop _).take _
theorem cutD_all {ds : List D} {lo hi : Option Int} (h : HT.sIx ds.length 0 lo = 0 ∧ HT.sIx ds.length ds.length hi = ds.length) : cutD ds lo hi = ds := by
  unfold cutD
  rw [h.1, h.2, List.drop_zero, Nat.sub_zero, List.take_length]
theorem intsD_inv : ∀ {l : List D} {ns : List Int}, intsD l = some ns → l = ns.map .int
  | [], ns, h => by cases h; rfl
  | .int i :: r, ns, h => by
    obtain ⟨m, e, rfl⟩ := map_inv h
    rw [intsD_inv e]
    rfl
  | .none :: _, _, h => nomatch h
  | .bool _ :: _, _, h => nomatch h
  | .str _ :: _, _, h => nomatch h
  | .list _ :: _, _, h => nomatch h
  | .tuple _ :: _, _, h => nomatch h
  | .dict _ :: _, _, h => nomatch h
theorem boolsD_inv : ∀ {l : List D} {ns : List Bool}, boolsD l = some ns → l = ns.map .bool
  | [], ns, h => by cases h; rfl
  | .bool i :: r, ns, h => by
    obtain ⟨m, e, rfl⟩ := map_inv h
    rw [boolsD_inv e]
    rfl
  | .none :: _, _, h => nomatch h
  | .int _ :: _, _, h => nomatch h
  | .str _ :: _, _, h => nomatch h
  | .list _ :: _, _, h => nomatch h
  | .tuple _ :: _, _, h => nomatch h
  | .dict _ :: _, _, h => nomatch h
theorem maxL_is : ∀ {l : List Int} {m k : Int}, maxL l = some m → k ∈ l → (∀ y, y ∈ l → y ≤ k) → k = m
  | [], _, _, h, _, _ => nomatch h
  | [x], m, k, h, hk, _ => by
    cases h
    simpa using hk
  | x :: y :: r, m, k, h, hk, hm => by
    obtain ⟨q, e, h⟩ := map_inv h
    have mem : ∀ {l : List Int} {q : Int}, maxL l = some q → q ∈ l ∧ ∀ z, z ∈ l → z ≤ q := by
      intro l
      induction l with
      | nil => intro q h; cases h
      | cons a l ih =>
        intro q h
        cases l with
        | nil =>
          cases h
          exact ⟨by simp, fun z hz => by simp at hz; omega⟩
        | cons b l =>
          obtain ⟨q', e', h'⟩ := map_inv h
          obtain ⟨i1, i2⟩ := ih e'
          have h' : (if a < q' then q' else a) = q := h'
          by_cases c : a < q'
          · rw [if_pos c] at h'
            subst h'
            refine ⟨List.mem_cons_of_mem _ i1, fun z hz => ?_⟩
            rcases List.mem_cons.mp hz with rfl | hz
            · omega
            · exact i2 z hz
          · rw [if_neg c] at h'
            subst h'
            refine ⟨List.mem_cons_self, fun z hz => ?_⟩
            rcases List.mem_cons.mp hz with rfl | hz
            · omega
            · have := i2 z hz
              omega
    obtain ⟨i1, i2⟩ := mem (l := x :: y :: r) (q := m) (by show Option.map _ _ = _; rw [e]; exact congrArg some h)
    have a1 := i2 k hk
    have a2 := hm m i1
    omega
theorem minL_is : ∀ {l : List Int} {m k : Int}, minL l = some m → k ∈ l → (∀ y, y ∈ l → k ≤ y) → k = m
  | [], _, _, h, _, _ => nomatch h
  | [x], m, k, h, hk, _ => by
    cases h
    simpa using hk
  | x :: y :: r, m, k, h, hk, hm => by
    obtain ⟨q, e, h⟩ := map_inv h
    have mem : ∀ {l : List Int} {q : Int}, minL l = some q → q ∈ l ∧ ∀ z, z ∈ l → q ≤ z := by
      intro l
      induction l with
      | nil => intro q h; cases h
      | cons a l ih =>
        intro q h
        cases l with
        | nil =>
          cases h
          exact ⟨by simp, fun z hz => by simp at hz; omega⟩
        | cons b l =>
          obtain ⟨q', e', h'⟩ := map_inv h
          obtain ⟨i1, i2⟩ := ih e'
          have h' : (if q' < a then q' else a) = q := h'
          by_cases c : q' < a
          · rw [if_pos c] at h'
            subst h'
            refine ⟨List.mem_cons_of_mem _ i1, fun z hz => ?_⟩
            rcases List.mem_cons.mp hz with rfl | hz
            · omega
            · exact i2 z hz
          · rw [if_neg c] at h'
            subst h'
            refine ⟨List.mem_cons_self, fun z hz => ?_⟩
            rcases List.mem_cons.mp hz with rfl | hz
            · omega
            · have := i2 z hz
              omega
    obtain ⟨i1, i2⟩ := mem (l := x :: y :: r) (q := m) (by show Option.map _ _ = _; rw [e]; exact congrArg some h)
    have a1 := i2 k hk
    have a2 := hm m i1
    omega
theorem insI_perm (x : Int) : ∀ l : List Int, (insI x l).Perm (x :: l)
  | [] => List.Perm.refl _
  | y :: r => by
    unfold insI
    split
    · exact List.Perm.refl _
    · exact ((insI_perm x r).cons y).trans (List.Perm.swap x y r)
theorem sortI_perm : ∀ l : List Int, (sortI l).Perm l
  | [] => List.Perm.refl _
  | x :: r => (insI_perm x _).trans ((sortI_perm r).cons x)
theorem insI_sorted (x : Int) : ∀ {l : List Int}, l.Pairwise (· ≤ ·) → (insI x l).Pairwise (· ≤ ·)
  | [], _ => by simp [insI]
  | y :: r, h => by
    unfold insI
    obtain ⟨h1, h2⟩ := List.pairwise_cons.mp h
    split
    · rename_i c
      refine List.pairwise_cons.mpr ⟨fun z hz => ?_, h⟩
      rcases List.mem_cons.mp hz with rfl | hz
      · exact c
      · exact Int.le_trans c (h1 z hz)
    · rename_i c
      refine List.pairwise_cons.mpr ⟨fun z hz => ?_, insI_sorted x h2⟩
      rcases List.mem_cons.mp ((insI_perm x r).mem_iff.mp hz) with rfl | hz
      · omega
      · exact h1 z hz
theorem sortI_sorted : ∀ l : List Int, (sortI l).Pairwise (· ≤ ·)
  | [] => List.Pairwise.nil
  | x :: r => insI_sorted x (sortI_sorted r)
theorem sorted_one {a b : List Int} (h : a.Perm b) (h1 : a.Pairwise (· ≤ ·)) (h2 : b.Pairwise (· ≤ ·)) : a = b :=
  h.eq_of_pairwise (fun x y _ _ p q => Int.le_antisymm p q) h1 h2
section
variable {X : Cx} {Φ : Cf} {fr : Fr} {Γ : List Ty} {w : Ty} {pos : Pos}
/-! ### a[i] -/
theorem plainIx_of {b : Expr} (h : (match b with | .Slice _ _ _ _ => false | _ => true) = true) : PlainIx b := by
  intro o i
  cases b <;> first | rfl | cases h
def notSlice : Expr → Bool
  | .Slice _ _ _ _ => false
  | _ => true
theorem plainIx_ns {b : Expr} (h : notSlice b = true) : PlainIx b := by
  intro o i
  cases b <;> first | rfl | cases h
theorem atI_rp {K : PySem.W.Frag} {G : Hp} {vs : List V} {l : List D} (h : RpAll K G vs l) {i : Int} {d : D} (e : atI l i = some d) : ∃ v, atI vs i = some v ∧ Rp K G v d := by
  unfold atI at e ⊢
  obtain ⟨j, e1, e2⟩ := bind_inv e
  obtain ⟨v, e3, r⟩ := h.get e2
  exact ⟨v, by rw [h.len, e1]; exact e3, r⟩
theorem ixL_inv {l : List D} {x d : D} (h : ixL l x = some d) : ∃ i, x = .int i ∧ atI l i = some d := by
  cases x with
  | int i => exact ⟨i, rfl, h⟩
  | _ => cases h
def rIxB (K : PySem.W.Frag) : R2 := fun x y H Q => rIxL K x y H Q ∨ rIxT K x y H Q
theorem ix_both : IxR X (rIxB X.K) := ix_list.or ix_tup
theorem ixD_sn {K : PySem.W.Frag} {G H : Hp} {x i d : D} {v u : V} {Q : VK} (s : Same G H) (h : Sn K G H x v) (hi : Rp K G u i) (e : ixD x i = some d) (q : ∀ z, Rp K G z d → Q z H) : rIxB K v u H Q := by
  cases x with
  | list l =>
    obtain ⟨k, rfl, e⟩ := ixL_inv e
    obtain ⟨a, vs, rfl, h1, h2⟩ := h.list s
    obtain ⟨z, e1, r⟩ := atI_rp h2 e
    cases hi
    exact .inl ⟨a, vs, k, z, rfl, rfl, .inl h1, e1, q z r⟩
  | tuple l =>
    obtain ⟨k, rfl, e⟩ := ixL_inv e
    obtain ⟨a, vs, rfl, h1, h2⟩ := h.tuple s
    obtain ⟨z, e1, r⟩ := atI_rp h2 e
    cases hi
    exact .inr ⟨a, vs, k, z, rfl, rfl, h1, e1, q z r⟩
  | _ => cases e
theorem e_ix {a b : Expr} {oa : O} {eb : E} (ha : PE X a (tO Φ fr X.K Γ oa)) (hb : PE X b (tE Φ fr X.K Γ .fro eb)) (hs : notSlice b = true) : PE X (.Subscript a b pos) (tE Φ fr X.K Γ .fro (.ix oa eb)) := by
  refine PE_mono (pe_ix ix_both ha hb (plainIx_ns hs)) fun σ H Q h => ?_
  obtain ⟨ρ, ts, r, sr, he, q⟩ := h
  obtain ⟨ra, e1, he⟩ := bind_inv he
  obtain ⟨rb, e2, he⟩ := bind_inv he
  obtain ⟨x, e3, he⟩ := bind_inv he
  obtain ⟨d, e4, rfl⟩ := map_inv he
  refine ⟨ρ, ts, ra, sr, e1, fun v H1 ts' s1 hd => ⟨ra.2, _, rb, s1, e2, fun u H2 s2 => ?_⟩⟩
  obtain ⟨G, F1, F2, y⟩ := id s2
  have ri := y.last1 rfl
  refine ixD_sn y.sub (y.sn hd e3) ri e4 fun z rz => q z H2 ?_
  obtain ⟨m, rfl⟩ := hd.pre
  rw [List.append_assoc] at y
  obtain ⟨F3, y2⟩ := y.drop
  exact ⟨_, _, _, y2.push rz⟩
/-! ### built-ins of one thing -/
theorem fin_list {G H : Hp} {F1 F2 : List Addr} {ρ : Rho} {σ : Sg} {ts ts' us : List Tm} {o : O} {v : V} {d : D} {vs : List V} {ds : List D} (y : SRd fr X.K G F1 F2 Γ ρ σ ts' H) (hd : Hold Γ σ o v d ts ts') (r : RpAll X.K G vs ds) (m : Made .fro w) {p : Addr} (hp : H p = none) :
    SR fr X.K Γ ρ σ (ts ++ [⟨w, .list ds, .ref p⟩]) (upd H p (.lst vs)) := by
  obtain ⟨k, rfl⟩ := hd.pre
  obtain ⟨F3, y2⟩ := y.drop
  exact y2.newList r m hp
def b1S : B1 → String
  | .len => "len"
  | .sum => "sum"
  | .mn => "min"
  | .mx => "max"
  | .srt => "sorted"
  | .all => "all"
  | .any => "any"
  | .abs => "abs"
  | .tup => "tuple"
  | .lst => "list"
  | .int => "int"
/-- is it a built-in class -/
def b1T : B1 → Bool
  | .tup => true
  | .lst => true
  | .int => true
  | _ => false
def b1V (f : B1) : Value := if b1T f then .type (b1S f) else .builtin (b1S f)
/-- what its reading asks: one thing v that reads as x, and b1D f x -/
def rB1 (K : PySem.W.Frag) (f : B1) : List V → Hp → VK → Prop := fun vs H Q => ∃ v x d G, vs = [v] ∧ Same G H ∧ Sn K G H x v ∧ b1D f x = some d ∧
  match d with
  | .list ds => ∀ p zs, H p = none → RpAll K G zs ds → Q (.ref p) (upd H p (.lst zs))
  | .tuple ds => (∀ z, Rp K G z d → Q z H) ∧ ∀ p zs, H p = none → RpAll K G zs ds → Q (.ref p) (upd H p (.tup zs))
  | _ => ∀ z, Rp K G z d → Q z H
theorem cr_b1 (hc : X.calm = true) : ∀ f : B1, CallR X (b1V f) (rB1 X.K f)
  | .len => by
    intro pins s σ H vs us Q I r h
    obtain ⟨v, x, d, G, rfl, sG, sn, e, q⟩ := h
    have go : ∀ l, seqD x = some l → d = .int l.length → wpAny (model X.prog X.w) X.A (call (b1V .len) us) (EP X pins σ Q) X.xe s := fun l e2 e3 => by
      subst e3
      obtain ⟨a, ws, rfl, h1, h2⟩ := sn.seq sG e2
      exact call_len_seq pins s σ H _ us Q I r ⟨a, ws, rfl, h1, by rw [h2.len]; exact q _ (.int _)⟩
    cases x <;> first
      | (cases e; done)
      | (cases e; exact go _ rfl rfl)
  | .tup => by
    intro pins s σ H vs us Q I r h
    obtain ⟨v, x, d, G, rfl, sG, sn, e, q⟩ := h
    cases x with
    | list l =>
      cases e
      obtain ⟨a, ws, rfl, h1, h2⟩ := sn.list sG
      exact call_tuple_of pins s σ H _ us Q I r ⟨a, ws, rfl, .inl ⟨.inl h1, fun p hp => q.2 p ws hp h2⟩⟩
    | tuple l =>
      cases e
      obtain ⟨a, ws, rfl, h1, h2⟩ := sn.tuple sG
      refine call_tuple_of pins s σ H _ us Q I r ⟨a, ws, rfl, .inr ⟨h1, q.1 _ ?_⟩⟩
      rcases sn with sn | ⟨_, _, _, e, _⟩
      · exact sn
      · cases e
    | _ => cases e
  | .lst => by
    intro pins s σ H vs us Q I r h
    obtain ⟨v, x, d, G, rfl, sG, sn, e, q⟩ := h
    cases x with
    | list l =>
      cases e
      obtain ⟨a, ws, rfl, h1, h2⟩ := sn.list sG
      exact call_list_of pins s σ H _ us Q I r ⟨a, ws, rfl, .inl (.inl h1), fun p hp => q p ws hp h2⟩
    | tuple l =>
      cases e
      obtain ⟨a, ws, rfl, h1, h2⟩ := sn.tuple sG
      exact call_list_of pins s σ H _ us Q I r ⟨a, ws, rfl, .inr h1, fun p hp => q p ws hp h2⟩
    | _ => cases e
  | .sum => by
    intro pins s σ H vs us Q I r h
    obtain ⟨v, x, d, G, rfl, sG, sn, e, q⟩ := h
    cases x with
    | list l =>
      obtain ⟨ns, e1, rfl⟩ := map_inv e
      obtain ⟨a, ws, rfl, h1, h2⟩ := sn.list sG
      rw [intsD_inv e1] at h2
      rw [h2.ints] at h1
      exact cr_sum hc pins s σ H _ us Q I r ⟨a, ns, rfl, .inl h1, q _ (.int _)⟩
    | _ => cases e
  | .mn => by
    intro pins s σ H vs us Q I r h
    obtain ⟨v, x, d, G, rfl, sG, sn, e, q⟩ := h
    cases x with
    | list l =>
      obtain ⟨ns, e1, e⟩ := bind_inv e
      obtain ⟨m, e2, rfl⟩ := map_inv e
      obtain ⟨a, ws, rfl, h1, h2⟩ := sn.list sG
      rw [intsD_inv e1] at h2
      rw [h2.ints] at h1
      refine cr_min hc pins s σ H _ us Q I r ⟨a, ns, rfl, .inl h1, ?_, fun k hk hm => ?_⟩
      · cases ns with
        | nil => cases e2
        | cons _ _ => simp
      · rw [minL_is e2 hk hm]
        exact q _ (.int _)
    | _ => cases e
  | .mx => by
    intro pins s σ H vs us Q I r h
    obtain ⟨v, x, d, G, rfl, sG, sn, e, q⟩ := h
    cases x with
    | list l =>
      obtain ⟨ns, e1, e⟩ := bind_inv e
      obtain ⟨m, e2, rfl⟩ := map_inv e
      obtain ⟨a, ws, rfl, h1, h2⟩ := sn.list sG
      rw [intsD_inv e1] at h2
      rw [h2.ints] at h1
      refine cr_max hc pins s σ H _ us Q I r ⟨a, ns, rfl, .inl h1, ?_, fun k hk hm => ?_⟩
      · cases ns with
        | nil => cases e2
        | cons _ _ => simp
      · rw [maxL_is e2 hk hm]
        exact q _ (.int _)
    | _ => cases e
  | .srt => by
    intro pins s σ H vs us Q I r h
    obtain ⟨v, x, d, G, rfl, sG, sn, e, q⟩ := h
    cases x with
    | list l =>
      have e : srtD l = some d := e
      obtain ⟨a, ws, rfl, h1, h2⟩ := sn.list sG
      unfold srtD at e
      cases e1 : intsD l with
      | some ns =>
        rw [e1] at e
        have e : (if ns.length < 64 then some (PyData.list ((sortI ns).map .int)) else none) = some d := e
        split at e
        · rename_i c
          cases e
          rw [intsD_inv e1] at h2
          rw [h2.ints] at h1
          refine cr_sorted pins s σ H _ us Q I r ⟨a, ns, rfl, .inl h1, c, fun ns' p pm srt hp => ?_⟩
          rw [sorted_one (pm.trans (sortI_perm ns).symm) srt (sortI_sorted ns)]
          exact q p _ hp (RpAll.of_ints _)
        · cases e
      | none =>
        rw [e1] at e
        obtain ⟨ts, e2, e⟩ := bind_inv (show (tupsD l).bind _ = some d from e)
        split at e
        · rename_i c
          cases e
          obtain ⟨c1, c2, c3⟩ := c
          have el := tupsD_inv e2
          subst el
          have hb : ∀ t ∈ ts, t.length = (ts.headD []).length ∧ TS.Bd BT t := fun t ht => tOkB_of (List.all_eq_true.mp c3 t ht)
          refine cr_sortT (B := BT) c2 pins s σ H _ us Q I r ⟨a, ws, rfl, .inl h1, by rw [h2.len, List.length_map]; exact c1, fun x hx => ?_, fun ys p pm srt hp => ?_⟩
          · obtain ⟨i, hi, ex⟩ := List.getElem_of_mem hx
            obtain ⟨dd, g1, g2⟩ := h2.get' (i := i) (v := x) (by rw [List.getElem?_eq_getElem hi, ex])
            obtain ⟨t, ht, rfl⟩ := List.mem_map.mp (List.mem_of_getElem? g1)
            obtain ⟨k1, k2⟩ := hb t ht
            exact ⟨t, tupI_of sG g2, k1, k2⟩
          · obtain ⟨l', pl, rl⟩ := h2.perm pm
            obtain ⟨ts', rfl, pt⟩ := perm_map_inv pl rfl
            have hts : ts' = sortT ts := by
              refine sortT_one (pt.trans (sortT_perm ts).symm) ?_ (sortT_sorted ts) (fun t ht => hb t (pt.mem_iff.mp ht)) (fun t ht => hb t ((sortT_perm ts).mem_iff.mp ht))
              have := RpAll.pair (S := fun d e => ∀ t u, d = tupL t → e = tupL u → TS.code BT t ≤ TS.code BT u) (fun x y d1 d2 r1 r2 hxy t u e1 e2 => by
                subst e1 e2
                exact hxy t u (tupI_of sG r1) (tupI_of sG r2)) rl srt
              rw [List.pairwise_map] at this
              exact this.imp fun h => h _ _ rfl rfl
            rw [hts] at rl
            exact q p _ hp rl
        · cases e
    | _ => cases e
  | .all => by
    intro pins s σ H vs us Q I r h
    obtain ⟨v, x, d, G, rfl, sG, sn, e, q⟩ := h
    cases x with
    | list l =>
      obtain ⟨ns, e1, rfl⟩ := map_inv e
      obtain ⟨a, ws, rfl, h1, h2⟩ := sn.list sG
      rw [boolsD_inv e1] at h2
      rw [h2.bls] at h1
      exact cr_all hc pins s σ H _ us Q I r ⟨a, ns, rfl, .inl h1, q _ (.bl _)⟩
    | _ => cases e
  | .any => by
    intro pins s σ H vs us Q I r h
    obtain ⟨v, x, d, G, rfl, sG, sn, e, q⟩ := h
    cases x with
    | list l =>
      obtain ⟨ns, e1, rfl⟩ := map_inv e
      obtain ⟨a, ws, rfl, h1, h2⟩ := sn.list sG
      rw [boolsD_inv e1] at h2
      rw [h2.bls] at h1
      exact cr_any hc pins s σ H _ us Q I r ⟨a, ns, rfl, .inl h1, q _ (.bl _)⟩
    | _ => cases e
  | .abs => by
    intro pins s σ H vs us Q I r h
    obtain ⟨v, x, d, G, rfl, sG, sn, e, q⟩ := h
    cases x with
    | int i =>
      cases e
      rcases sn with sn | ⟨_, _, _, e, _⟩
      · cases sn
        exact call_abs pins s σ H _ us Q I r ⟨i, rfl, q _ (.int _)⟩
      · cases e
    | _ => cases e
  | .int => by
    intro pins s σ H vs us Q I r h
    obtain ⟨v, x, d, G, rfl, sG, sn, e, q⟩ := h
    cases x with
    | int i =>
      cases e
      rcases sn with sn | ⟨_, _, _, e, _⟩
      · cases sn
        exact call_int1 pins s σ H _ us Q I r (.inl ⟨i, rfl, q _ (.int _)⟩)
      · cases e
    | bool i =>
      cases e
      rcases sn with sn | ⟨_, _, _, e, _⟩
      · cases sn
        exact call_int1 pins s σ H _ us Q I r (.inr ⟨i, rfl, q _ (.int _)⟩)
      · cases e
    | _ => cases e
end
end Vw
namespace Vw
open PySem PySem.Spec PyProof.Rows L2
section
variable {fr : Fr} {K : PySem.W.Frag} {G H : Hp} {F1 F2 : List Addr} {Γ : List Ty} {ρ : Rho} {σ : Sg} {ts us : List Tm}
/-- what is written at an owned address leaves the rest -/
theorem SRd.write {x1 x2 : Tm} {a : Addr} {o : HO} (x : SRd fr K G F1 F2 Γ ρ σ (ts ++ [x1]) H) (ha : ∀ F, Own K G H x1.t x1.d x1.v F → F.Nodup → a ∈ F ∧ Own K G (upd H a o) x2.t x2.d x2.v F) :
    SRd fr K G F1 F2 Γ ρ σ (ts ++ [x2]) (upd H a o) := by
  obtain ⟨F3, F4, e, p, q⟩ := x.tm.app
  have nd := x.nd
  rw [e, ← List.append_assoc] at nd
  obtain ⟨nd1, nd2, dj⟩ := List.nodup_append.mp nd
  obtain ⟨a4, ow⟩ := ha F4 q.one nd2
  have ain : a ∈ F1 ++ F2 := by
    rw [e]
    exact List.mem_append_right _ (List.mem_append_right _ a4)
  have out : ∀ b ∈ F1 ++ F3, upd H a o b = H b := fun b hb => upd_ne (dj b hb a a4)
  refine ⟨fun b u eb => ?_, x.sl.stay (Same.refl G) (fun b hb => out b (List.mem_append_left _ hb)), ?_, x.nd, x.out, ?_⟩
  · rw [upd_ne (ne_of_none eb (x.out a ain).1)]
    exact x.sub _ _ eb
  · rw [e]
    exact (p.stay (Same.refl G) (fun b hb => out b (List.mem_append_right _ hb))).of_app (TmF.of_one ow)
  · refine ⟨fun b u eb hF => ?_, fun b eb => ?_, x.ok.sG, x.ok.nG, x.ok.pin⟩
    · have hb : b ≠ a := fun z => by
        subst z
        rcases (x.out b ain).2 with h | h
        · exact hF h
        · rw [h] at eb
          cases eb
      rw [upd_ne hb]
      exact x.ok.keep b u eb hF
    · by_cases hb : b = a
      · subst hb
        rw [upd_same] at eb
        cases eb
      · rw [upd_ne hb] at eb
        exact x.ok.mono b eb
/-- a slot's own list: it may be changed in its place -/
theorem SRd.slotMut (x : SRd fr K G F1 F2 Γ ρ σ ts H) {i : Nat} {l : List D} (h : get ρ i = some (.list l)) (hw : Γ[i]? = some (.lst .fro)) :
    ∃ a vs, σ[i]? = some (some (.ref a)) ∧ H a = some (.lst vs) ∧ RpAll K G vs l ∧ ∀ vs' l', RpAll K G vs' l' → SR fr K Γ (put ρ i (.list l')) σ ts (upd H a (.lst vs')) := by
  obtain ⟨t, v, F3, F4, e1, e2, y⟩ := x.takeOut h
  rw [hw] at e1
  cases e1
  obtain ⟨F5, F6, e, p, q⟩ := y.tm.app
  rcases q.one with ⟨s, _, _⟩ | ⟨ds, a, vs, F', q1, q2, q3, q4, q5⟩
  · cases s
  · cases q1
    have q2 : v = .ref a := q2
    subst q2
    refine ⟨a, vs, e2, q4, q5.fro.2, fun vs' l' r => ?_⟩
    have z := y.write (a := a) (o := .lst vs') (x2 := ⟨.lst .fro, .list l', .ref a⟩) fun F ow nd => by
      rcases ow with ⟨s, _, _⟩ | ⟨ds2, a2, vs2, F2', p1, p2, p3, p4, p5⟩
      · cases s
      · cases p2
        obtain ⟨e0, _⟩ := p5.fro
        subst e0
        subst p3
        exact ⟨List.mem_cons_self, .inr ⟨_, a, vs', [], rfl, rfl, rfl, upd_same, AllF.of_fro r⟩⟩
    have hl : i < ρ.length := (List.getElem?_eq_some_iff.mp (get_some h)).1
    obtain ⟨F7, F8, z2⟩ := z.putBack (by rw [List.getElem?_set_self hl]) hw e2
    have e3 : put (ρ.set i none) i (.list l') = put ρ i (.list l') := by
      unfold put
      rw [List.set_set]
    rw [e3] at z2
    exact ⟨_, _, _, z2⟩
theorem AllF.at {P : D → V → List Addr → Prop} : ∀ {ds : List D} {vs : List V} {F : List Addr} {k : Nat} {d : D}, AllF P ds vs F → ds[k]? = some d →
    ∃ v Fk, vs[k]? = some v ∧ P d v Fk ∧ (∀ a ∈ Fk, a ∈ F) ∧ (F.Nodup → ∀ P' d', (∀ e u F', (∀ a ∈ F', a ∉ Fk) → P e u F' → P' e u F') → P' d' v Fk → AllF P' (ds.set k d') vs F)
  | d :: ds, v :: vs, F, 0, d', ⟨F1, F2, e, p, q⟩, ed => by
    have ed : d = d' := by simpa using ed
    subst ed
    refine ⟨v, F1, rfl, p, fun a ha => by rw [e]; exact List.mem_append_left _ ha, fun nd P' d2 hP p2 => ⟨F1, F2, e, p2, ?_⟩⟩
    rw [e] at nd
    refine q.mono fun e u F' hF h => hP e u F' (fun a ha hb => (List.nodup_append.mp nd).2.2 a hb a (hF a ha) rfl) h
  | d :: ds, v :: vs, F, k + 1, d', ⟨F1, F2, e, p, q⟩, ed => by
    obtain ⟨v2, Fk, e1, p1, i1, r⟩ := AllF.at (k := k) (d := d') q (by simpa using ed)
    refine ⟨v2, Fk, by simpa using e1, p1, fun a ha => by rw [e]; exact List.mem_append_right _ (i1 a ha), fun nd P' d2 hP p2 => ?_⟩
    rw [e] at nd
    refine ⟨F1, F2, e, hP _ _ _ (fun a ha hb => (List.nodup_append.mp nd).2.2 a ha a (i1 a hb) rfl) p, r (List.nodup_append.mp nd).2.1 P' d2 hP p2⟩
  | [], _, _, _, _, h, ed => by simp at ed
  | _ :: _, [], _, _, _, h, _ => h.elim
/-- a slot's own list of own lists: an inner one may be changed in its place -/
theorem SRd.slotMut2 (x : SRd fr K G F1 F2 Γ ρ σ ts H) {i k : Nat} {m l : List D} (h : get ρ i = some (.list m)) (hk : m[k]? = some (.list l)) (hw : Γ[i]? = some (.lst (.lst .fro))) :
    ∃ a b vs ws, σ[i]? = some (some (.ref a)) ∧ H a = some (.lst vs) ∧ vs.length = m.length ∧ vs[k]? = some (.ref b) ∧ H b = some (.lst ws) ∧ RpAll K G ws l ∧
      ∀ ws' l', RpAll K G ws' l' → SR fr K Γ (put ρ i (.list (m.set k (.list l')))) σ ts (upd H b (.lst ws')) := by
  obtain ⟨t, v, F3, F4, e1, e2, y⟩ := x.takeOut h
  rw [hw] at e1
  cases e1
  obtain ⟨F5, F6, e, p, q⟩ := y.tm.app
  rcases q.one with ⟨s, _, _⟩ | ⟨ds, a, vs, F', q1, q2, q3, q4, q5⟩
  · cases s
  · cases q1
    have q2 : v = .ref a := q2
    subst q2
    obtain ⟨u, Fk, e3, o1, i1, _⟩ := q5.at hk
    rcases o1 with ⟨s, _, _⟩ | ⟨ds1, b, ws, Fb, r1, r2, r3, r4, r5⟩
    · cases s
    · cases r1
      subst r2
      refine ⟨a, b, vs, ws, e2, q4, q5.len, e3, r4, r5.fro.2, fun ws' l' r => ?_⟩
      have z := y.write (a := b) (o := .lst ws') (x2 := ⟨.lst (.lst .fro), .list (m.set k (.list l')), .ref a⟩) fun F ow nd => by
        rcases ow with ⟨s, _, _⟩ | ⟨ds2, a2, vs2, F2', p1, p2, p3, p4, p5⟩
        · cases s
        · cases p1
          cases p2
          have ev : vs2 = vs := by
            rw [q4] at p4
            cases p4
            rfl
          subst ev
          obtain ⟨u', Fk', e3', o1', i1', st⟩ := p5.at hk
          rw [e3] at e3'
          cases e3'
          rcases o1' with ⟨s, _, _⟩ | ⟨ds1', b', ws1, Fb', r1', r2', r3', r4', r5'⟩
          · cases s
          · cases r1'
            cases r2'
            obtain ⟨e0, _⟩ := r5'.fro
            subst e0
            subst p3
            obtain ⟨na, nd2⟩ := List.nodup_cons.mp nd
            have bF : b ∈ F2' := i1' b (by rw [r3']; exact List.mem_cons_self)
            have ab : a ≠ b := fun z => na (z ▸ bF)
            refine ⟨List.mem_cons_of_mem _ bF, .inr ⟨_, a, vs2, F2', rfl, rfl, rfl, by rw [upd_ne ab]; exact p4, ?_⟩⟩
            refine st nd2 _ _ (fun e u F' hF ho => ho.stay (Same.refl G) fun c hc => upd_ne fun z => hF c hc ?_) ?_
            · rw [r3', z]
              exact List.mem_cons_self
            · exact .inr ⟨_, b, ws', [], rfl, rfl, r3', upd_same, AllF.of_fro r⟩
      have hl : i < ρ.length := (List.getElem?_eq_some_iff.mp (get_some h)).1
      obtain ⟨F7, F8, z2⟩ := z.putBack (by rw [List.getElem?_set_self hl]) hw e2
      have e4 : put (ρ.set i none) i (.list (m.set k (.list l'))) = put ρ i (.list (m.set k (.list l'))) := by
        unfold put
        rw [List.set_set]
      rw [e4] at z2
      exact ⟨_, _, _, z2⟩
end
section
variable {X : Cx} {Φ : Cf} {fr : Fr} {Γ : List Ty} {w : Ty} {pos : Pos}
/-! ### calls of built-ins -/
theorem b1_boot : ∀ f : B1, bootBuiltins (PySem.Str.ofString (b1S f)) = some (b1V f)
  | .len => by decide +kernel
  | .tup => by decide +kernel
  | .lst => by decide +kernel
  | .sum => by decide +kernel
  | .mn => by decide +kernel
  | .mx => by decide +kernel
  | .srt => by decide +kernel
  | .all => by decide +kernel
  | .any => by decide +kernel
  | .abs => by decide +kernel
  | .int => by decide +kernel
theorem star_any1 {e : Expr} {env : Env} {p : Pos} : (backTo p (starEach [] env)).any (·.1) = false := rfl
theorem pe_b1 (hc : X.calm = true) (f : B1) {a : Expr} {ta : TE} {p : Pos} (ha : PE X a ta) (hs : noStar a = true) (hg : Gl X (PySem.Str.ofString (b1S f))) (hm : X.mg (PySem.Str.ofString (b1S f)) = none) :
    PE X (.Call (.Name (PySem.Str.ofString (b1S f)) p) [a] [] pos) (tCB (rB1 X.K f) (tCons ta tNil)) := by
  have hA := pa_cons ha pa_nil (star_cons (env := X.env) hs)
  cases f with
  | len => exact pe_callB (id := "len") (cr_b1 hc .len) hg hm (b1_boot .len) hA (by decide) (by decide) (star_cons hs) rfl
  | tup => exact pe_callTy (T := "tuple") (cr_b1 hc .tup) hg hm (b1_boot .tup) hA (by decide) (by decide) (star_cons hs) rfl
  | lst => exact pe_callTy (T := "list") (cr_b1 hc .lst) hg hm (b1_boot .lst) hA (by decide) (by decide) (star_cons hs) rfl
  | sum => exact pe_callB (id := "sum") (cr_b1 hc .sum) hg hm (b1_boot .sum) hA (by decide) (by decide) (star_cons hs) rfl
  | mn => exact pe_callB (id := "min") (cr_b1 hc .mn) hg hm (b1_boot .mn) hA (by decide) (by decide) (star_cons hs) rfl
  | mx => exact pe_callB (id := "max") (cr_b1 hc .mx) hg hm (b1_boot .mx) hA (by decide) (by decide) (star_cons hs) rfl
  | srt => exact pe_callB (id := "sorted") (cr_b1 hc .srt) hg hm (b1_boot .srt) hA (by decide) (by decide) (star_cons hs) rfl
  | all => exact pe_callB (id := "all") (cr_b1 hc .all) hg hm (b1_boot .all) hA (by decide) (by decide) (star_cons hs) rfl
  | any => exact pe_callB (id := "any") (cr_b1 hc .any) hg hm (b1_boot .any) hA (by decide) (by decide) (star_cons hs) rfl
  | abs => exact pe_callB (id := "abs") (cr_b1 hc .abs) hg hm (b1_boot .abs) hA (by decide) (by decide) (star_cons hs) rfl
  | int => exact pe_callTy (T := "int") (cr_b1 hc .int) hg hm (b1_boot .int) hA (by decide) (by decide) (star_cons hs) rfl
/-- whom its result may belong to -/
def okB1 (f : B1) (w : Ty) : Bool := match f with
  | .tup => decide (w = .fro)
  | .lst => decide (w = .fro ∨ w = .lst .fro)
  | .srt => decide (w = .fro ∨ w = .lst .fro)
  | _ => true
theorem made_of {w : Ty} (h : w = .fro ∨ w = .lst .fro) : Made .fro w := by
  rcases h with h | h
  · exact .inr ⟨h, rfl⟩
  · exact .inl h
theorem b1D_ok {f : B1} {w : Ty} (h : okB1 f w = true) {x d : D} (e : b1D f x = some d) : match d with
    | .list _ => Made .fro w
    | .tuple _ => w = .fro
    | _ => scalar d = true := by
  cases f <;> cases x <;> first
    | (cases e; done)
    | (cases e; exact of_decide_eq_true h)
    | (cases e; exact made_of (of_decide_eq_true h))
    | (cases e; rfl)
    | (obtain ⟨ns, _, rfl⟩ := map_inv e; rfl)
    | (obtain ⟨ns, _, e2⟩ := bind_inv e; obtain ⟨m, _, rfl⟩ := map_inv e2; rfl)
    | (obtain ⟨ns, rfl⟩ := srtD_list e; exact made_of (of_decide_eq_true h))
theorem e_b1 (hc : X.calm = true) (f : B1) {a : Expr} {oa : O} {p : Pos} (ha : PE X a (tO Φ fr X.K Γ oa)) (hs : noStar a = true) (hg : Gl X (PySem.Str.ofString (b1S f))) (hm : X.mg (PySem.Str.ofString (b1S f)) = none) (hw : okB1 f w = true) :
    PE X (.Call (.Name (PySem.Str.ofString (b1S f)) p) [a] [] pos) (tE Φ fr X.K Γ w (.b1 f oa)) := by
  refine PE_mono (pe_b1 hc f ha hs hg hm) fun σ H Q h => ?_
  obtain ⟨ρ, ts, r, sr, he, q⟩ := h
  obtain ⟨ra, e1, he⟩ := bind_inv he
  obtain ⟨d, e2, rfl⟩ := map_inv he
  refine ⟨ρ, ts, ra, sr, e1, fun v H1 ts' s1 hd => ?_⟩
  obtain ⟨G, F1, F2, y⟩ := id s1
  have y' : SRd fr X.K G F1 F2 Γ ra.2 σ (ts' ++ []) H1 := by rw [List.append_nil]; exact y
  have lt : lateD Φ oa ra.1 ra.2 = some ra.1 := by
    cases oa with
    | e a => rfl
    | s i =>
      obtain ⟨d', e3, rfl⟩ := map_inv (show (get ρ i).map (fun d => (d, ρ)) = some ra from e1)
      exact e3
  have sn := y'.sn hd lt
  have k := b1D_ok hw e2
  obtain ⟨k2, rfl⟩ := hd.pre
  obtain ⟨F3, y2⟩ := y.drop
  refine ⟨v, ra.1, d, G, rfl, y.sub, sn, e2, ?_⟩
  cases d with
  | list ds => exact fun p zs hp rs => q _ _ (y2.newList rs k hp)
  | tuple ds =>
    have k : w = .fro := k
    subst k
    exact ⟨fun z rz => q _ _ ⟨_, _, _, y2.push rz⟩, fun p zs hp rs => q _ _ (y2.newTup rs hp)⟩
  | none => exact fun z rz => q _ _ ⟨_, _, _, y2.pushS rfl rz⟩
  | bool _ => exact fun z rz => q _ _ ⟨_, _, _, y2.pushS rfl rz⟩
  | int _ => exact fun z rz => q _ _ ⟨_, _, _, y2.pushS rfl rz⟩
  | str _ => exact fun z rz => q _ _ ⟨_, _, _, y2.pushS rfl rz⟩
  | dict _ => cases k
def b2S : B2 → String
  | .mn => "min"
  | .mx => "max"
def rB2 (f : B2) : List V → Hp → VK → Prop := fun vs H Q => ∃ i j k, vs = [.int i, .int j] ∧ b2D f (.int i) (.int j) = some (.int k) ∧ Q (.int k) H
theorem cr_b2 (hc : X.calm = true) : ∀ f : B2, CallR X (.builtin (b2S f)) (rB2 f)
  | .mn => by
    intro pins s σ H vs us Q I r h
    obtain ⟨i, j, k, rfl, e, q⟩ := h
    cases e
    exact call_min2 hc pins s σ H _ us Q I r ⟨i, j, rfl, q⟩
  | .mx => by
    intro pins s σ H vs us Q I r h
    obtain ⟨i, j, k, rfl, e, q⟩ := h
    cases e
    exact call_max2 hc pins s σ H _ us Q I r ⟨i, j, rfl, q⟩
theorem b2_boot : ∀ f : B2, bootBuiltins (PySem.Str.ofString (b2S f)) = some (.builtin (b2S f))
  | .mn => by decide +kernel
  | .mx => by decide +kernel
theorem b2D_inv {f : B2} {x y z : D} (h : b2D f x y = some z) : ∃ i j k, x = .int i ∧ y = .int j ∧ z = .int k := by
  cases f <;> cases x <;> cases y <;> first
    | (cases h; done)
    | (cases h; exact ⟨_, _, _, rfl, rfl, rfl⟩)
theorem plain_cons {e : Expr} {es : List Expr} {env : Env} {p : Pos} (h : noStar e = true) (h2 : (backTo p (starEach es env)).any (·.1) = false) : (backTo p (starEach (e :: es) env)).any (·.1) = false := by
  rw [star_cons h]
  show (false || (backTo p (starEach es env)).any (·.1)) = false
  rw [h2]
  rfl
theorem e_b2 (hc : X.calm = true) (f : B2) {a b : Expr} {ea eb : E} {p : Pos} (ha : PE X a (tE Φ fr X.K Γ .fro ea)) (hb : PE X b (tE Φ fr X.K Γ .fro eb)) (hs : noStar a = true) (hs2 : noStar b = true) (hg : Gl X (PySem.Str.ofString (b2S f))) (hm : X.mg (PySem.Str.ofString (b2S f)) = none) :
    PE X (.Call (.Name (PySem.Str.ofString (b2S f)) p) [a, b] [] pos) (tE Φ fr X.K Γ w (.b2 f ea eb)) := by
  have hA : PA X [a, b] _ := pa_cons ha (pa_cons hb pa_nil (star_cons (env := X.env) hs2)) (star_cons (env := X.env) hs)
  have hn : PySem.Str.ofString (b2S f) ≠ "__name__" := by cases f <;> decide
  have hd : (PySem.Str.ofString (b2S f) == ("__debug__" : Str)) = false := by cases f <;> decide
  refine PE_mono (pe_callB (cr_b2 hc f) hg hm (b2_boot f) hA hn hd (star_cons hs) (plain_cons hs2 rfl)) fun σ H Q h => ?_
  obtain ⟨ρ, ts, r, sr, he, q⟩ := h
  obtain ⟨ra, e1, he⟩ := bind_inv he
  obtain ⟨rb, e2, he⟩ := bind_inv he
  obtain ⟨d, e3, rfl⟩ := map_inv he
  refine ⟨ρ, ts, ra, sr, e1, fun v H1 s1 => ⟨ra.2, _, rb, s1, e2, fun u H2 s2 => ?_⟩⟩
  obtain ⟨G, F1, F2, y⟩ := id s2
  have rp := y.last2 rfl rfl
  obtain ⟨i, j, k, q1, q2, q3⟩ := b2D_inv e3
  obtain ⟨d1, ρ1⟩ := ra
  obtain ⟨d2, ρ2⟩ := rb
  have q1 : d1 = .int i := q1
  have q2 : d2 = .int j := q2
  subst q1 q2 q3
  obtain ⟨r1, r2⟩ := rp
  cases r1
  cases r2
  exact ⟨i, j, k, rfl, e3, q _ _ (s2.drop.drop.res rfl fun G => .int _)⟩
/-! ### in -/
theorem rp_flat {K : PySem.W.Frag} {G : Hp} {x : D} {v : V} (h : Rp K G v x) (f : flatD x = true) : flatV v = true := by
  cases h <;> first | rfl | cases f
theorem rp_eqV {K : PySem.W.Frag} {G : Hp} {x y : D} {v u : V} (h : Rp K G v x) (h2 : Rp K G u y) (f : flatD x = true) (f2 : flatD y = true) : eqV v u = PyData.eqv x y := by
  cases h <;> cases h2 <;> first
    | rfl
    | (cases f; done)
    | (cases f2; done)
    | (simp [eqV, PyData.eqv])
theorem rp_flats {K : PySem.W.Frag} {G : Hp} : ∀ {vs : List V} {l : List D}, RpAll K G vs l → l.all flatD = true → vs.all flatV = true
  | _, _, .nil, _ => rfl
  | _, _, .cons h t, f => by
    simp only [List.all_cons, Bool.and_eq_true] at f ⊢
    exact ⟨rp_flat h f.1, rp_flats t f.2⟩
theorem rp_any {K : PySem.W.Frag} {G : Hp} {x : D} {v : V} (h : Rp K G v x) (f : flatD x = true) : ∀ {vs : List V} {l : List D}, RpAll K G vs l → l.all flatD = true → inV v vs = l.any fun e => PyData.eqv e x
  | _, _, .nil, _ => rfl
  | _, _, .cons h2 t, f2 => by
    simp only [List.all_cons, Bool.and_eq_true] at f2
    show (eqV _ v || inV v _) = (PyData.eqv _ x || _)
    rw [rp_eqV h2 h f2.1 f, rp_any h f t f2.2]
theorem op_inG (ng : Bool) : OpR X (compareOp (if ng then .NotIn else .In)) (rIn X.K ng) := by
  cases ng with
  | true => exact op_notIn_seq
  | false => exact op_in_seq
theorem m_inn {K : PySem.W.Frag} (ng : Bool) {ea : E} {ob : O} {σ : Sg} {H : Hp} {Q : VK} (h : tE Φ fr K Γ w (.inn ng ea ob) σ H Q) : tOp (rIn K ng) (tE Φ fr K Γ .fro ea) (tO Φ fr K Γ ob) σ H Q := by
  obtain ⟨ρ, ts, r, sr, he, q⟩ := h
  obtain ⟨ra, e1, he⟩ := bind_inv he
  obtain ⟨rb, e2, he⟩ := bind_inv he
  obtain ⟨d, e3, rfl⟩ := map_inv he
  refine ⟨ρ, ts, ra, sr, e1, fun v H1 s1 => ⟨ra.2, _, rb, s1, e2, fun u H2 ts' s2 hd => ?_⟩⟩
  obtain ⟨G, F1, F2, y⟩ := id s2
  have y' : SRd fr K G F1 F2 Γ rb.2 σ (ts' ++ []) H2 := by rw [List.append_nil]; exact y
  have lt : lateD Φ ob rb.1 rb.2 = some rb.1 := by
    cases ob with
    | e a => rfl
    | s i =>
      obtain ⟨d', e7, rfl⟩ := map_inv (show (get ra.2 i).map (fun d => (d, ra.2)) = some rb from e2)
      exact e7
  have sn := y'.sn hd lt
  obtain ⟨l, e4, f1, f2, rfl⟩ := innD_inv e3
  obtain ⟨a, vs, rfl, h1, h2⟩ := sn.seq y.sub e4
  obtain ⟨k2, rfl⟩ := hd.pre
  obtain ⟨F3, y2⟩ := y.drop
  have rp := y2.last1 rfl
  refine ⟨a, vs, rfl, h1, rp_flat rp f1, rp_flats h2 f2, ?_⟩
  have e5 : (if ng then !inV v vs else inV v vs) = (l.any (fun e => PyData.eqv e ra.1) != ng) := by
    rw [rp_any rp f1 h2 f2]
    cases ng <;> simp
  rw [e5]
  obtain ⟨F5, y3⟩ := y2.drop
  exact q _ _ ⟨_, _, _, y3.pushS rfl (rp_bl _ G)⟩
end
end Vw
namespace Vw
open PySem PySem.Spec PyProof.Rows L2
theorem tuple_mul0 (l : Addr) (items : Array Value) (n : Nat) (dd : Option Addr) (sl : Array (Option Value)) (u : Tok) (hi : items.isEmpty = false) :
    Meets (Builtin.«tuple.__mul__» ⟨[.ref l, .int 0 u], []⟩) (fun _ R s => s.heap.get? l = some { cls := .type "tuple", dict := dd, data := .seq items n, slots := sl } ∧
      R (.ok (.ret (Value.ref s.heap.objs.size))) { s with heap := s.heap.push { cls := Value.type "tuple", data := Data.seq #[] }, toks := s.toks }) :=
  .of_wp fun prog w A R s h => by
    obtain ⟨hp, g, d, tk, os⟩ := s
    obtain ⟨hl, h⟩ := h
    have f1 := AutoSeq1.idx_int
    have z0 : (decide ((0 : Int) < -(2 ^ 63)) || decide ((0 : Int) ≥ 2 ^ 63)) = false := by decide
    have z1 : (items.isEmpty || (0 : Int) == 1) = false := by rw [hi]; rfl
    have z2 : (decide ((0 : Int) ≤ 0) || items.isEmpty) = true := rfl
    wp_walk using wpAny_loadPart' hl
    repeat (first
      | (refine wpAny_ite_false (decide_eq_false (by rw [z0]; exact Bool.false_ne_true)) ?_; wp_walk using wpAny_loadPart' hl)
      | (refine wpAny_ite_false (decide_eq_false (by rw [z1]; exact Bool.false_ne_true)) ?_; wp_walk using wpAny_loadPart' hl)
      | (rw [if_pos z2]; wp_walk using wpAny_loadPart' hl))
    exact ⟨_, rfl, h⟩
section
variable {X : Cx}
def rRep0 (K : PySem.W.Frag) : R2 := fun x y H Q => ∃ l xs, x = .ref l ∧ y = .int 0 ∧ SqT K H l xs ∧ xs ≠ [] ∧ ∀ p, H p = none → Q (.ref p) (upd H p (.tup []))
theorem op_rep0 : OpR X (binaryOp .Mult) (rRep0 X.K) := by
  intro pins s σ H x y v u Q I rx ry h
  obtain ⟨l, xs, rfl, rfl, hT, hne, q⟩ := h
  cases rx
  obtain ⟨t, rfl⟩ := ry
  obtain ⟨its, r, ⟨⟨cls, dd, data, sl⟩, ho, hc, n, hd⟩, hs⟩ := I.tuple hT
  simp only at hc hd
  subst hc hd
  have hi : its.toArray.isEmpty = false := by
    cases its with
    | nil =>
      have := r.length
      exact absurd (List.eq_nil_of_length_eq_zero this) hne
    | cons a b => rfl
  refine wpAny_binaryOp_repeat_ref (T := "tuple") (U := "int") (by decide) ⟨_, ho, rfl⟩ (fun s' => typeIs_int s' 0 t) noFill_tuple_mul F.fills_int_mul F.slot_int_rmul repeat_tuple F.slot_int_index.lookup
    (call_meets F.slot_int_rmul (typeIs_int s 0 t) F.entry_int_rmul (F.args_int_rmul_2 _ _) (int_rmul_tuple 0 t l its.toArray n dd sl)
      ⟨ho, rfl, ⟨_, ho, rfl⟩, call_meets F.slot_tuple_mul ⟨_, ho, rfl⟩ F.entry_tuple_mul (F.args_tuple_mul_2 _ _) (tuple_mul0 l its.toArray n dd sl t hi) ⟨ho, ?_⟩⟩)
  exact ⟨.ref _, upd H s.heap.objs.size (.tup []), I.laid (t' := s.toks) (fun _ _ => Heap.get?_push_of_some _) (Nat.le_refl _) ⟨by rw [sizeLine_eq]; exact Nat.zero_le _, [], .nil, _, Heap.get?_push_size s.heap rfl, rfl, _, rfl⟩, rfl, q _ (I.hok.fresh (Nat.le_refl _))⟩
end
end Vw
namespace Vw
open PySem PySem.Spec PyProof.Rows L2
section
variable {X : Cx} {Φ : Cf} {fr : Fr} {Γ : List Ty} {w : Ty} {pos : Pos}
/-! ### + and * of lists and tuples -/
theorem e_lcat {a b : Expr} {oa ob : O} (m : Made .fro w) (ha : PE X a (tO Φ fr X.K Γ oa)) (hb : PE X b (tO Φ fr X.K Γ ob)) : PE X (.BinOp a .Add b pos) (tE Φ fr X.K Γ w (.lcat oa ob)) := by
  refine PE_mono (pe_op op_catS ha hb) fun σ H Q h => ?_
  obtain ⟨ρ, ts, r, sr, he, q⟩ := h
  obtain ⟨ra, e1, he⟩ := bind_inv he
  obtain ⟨rb, e2, he⟩ := bind_inv he
  obtain ⟨x, e3, he⟩ := bind_inv he
  obtain ⟨d, e4, rfl⟩ := map_inv he
  refine ⟨ρ, ts, ra, sr, e1, fun v H1 ts' s1 hd => ⟨ra.2, _, rb, s1, e2, fun u H2 ts'' s2 hd2 => ?_⟩⟩
  obtain ⟨G, F1, F2, y⟩ := id s2
  have y' : SRd fr X.K G F1 F2 Γ rb.2 σ (ts'' ++ []) H2 := by rw [List.append_nil]; exact y
  have lt : lateD Φ ob rb.1 rb.2 = some rb.1 := by
    cases ob with
    | e a => rfl
    | s i =>
      obtain ⟨d', e7, rfl⟩ := map_inv (show (get ra.2 i).map (fun d => (d, ra.2)) = some rb from e2)
      exact e7
  have sn2 := y'.sn hd2 lt
  obtain ⟨k2, rfl⟩ := hd2.pre
  have sn1 := y.sn hd e3
  obtain ⟨d2, ρ2⟩ := rb
  cases x with
  | list l =>
    cases d2 with
    | list l2 =>
      have e4 : (if lenOk (l.length + l2.length) = true then some (PyData.list (l ++ l2)) else none) = some d := e4
      split at e4
      · rename_i c
        cases e4
        obtain ⟨a, vs, rfl, h1, h2⟩ := sn1.list y.sub
        obtain ⟨b, ws, rfl, g1, g2⟩ := sn2.list y.sub
        refine ⟨a, b, vs, ws, rfl, rfl, h1, g1, by rw [h2.len, g2.len]; exact lenOk_of c, fun p hp => q _ _ ?_⟩
        obtain ⟨k1, rfl⟩ := hd.pre
        rw [List.append_assoc] at y
        obtain ⟨F3, y2⟩ := y.drop
        exact y2.newList (h2.app g2) m hp
      · cases e4
    | _ => cases e4
  | _ => cases e4
theorem e_lrep {a b : Expr} {oa : O} {eb : E} (m : Made .fro w) (ha : PE X a (tO Φ fr X.K Γ oa)) (hb : PE X b (tE Φ fr X.K Γ .fro eb)) : PE X (.BinOp a .Mult b pos) (tE Φ fr X.K Γ w (.lrep oa eb)) := by
  refine PE_mono (pe_op op_repS ha hb) fun σ H Q h => ?_
  obtain ⟨ρ, ts, r, sr, he, q⟩ := h
  obtain ⟨ra, e1, he⟩ := bind_inv he
  obtain ⟨rb, e2, he⟩ := bind_inv he
  obtain ⟨x, e3, he⟩ := bind_inv he
  obtain ⟨d, e4, rfl⟩ := map_inv he
  refine ⟨ρ, ts, ra, sr, e1, fun v H1 ts' s1 hd => ⟨ra.2, _, rb, s1, e2, fun u H2 s2 => ?_⟩⟩
  obtain ⟨G, F1, F2, y⟩ := id s2
  have ri := y.last1 rfl
  have sn1 := y.sn hd e3
  obtain ⟨d2, ρ2⟩ := rb
  cases x with
  | list l =>
    cases d2 with
    | int k =>
      cases ri
      have e4 : (if -(2 ^ 63) ≤ k ∧ k < 2 ^ 63 ∧ lenOk (l.length * k.toNat) = true then some (PyData.list (repN k.toNat l)) else none) = some d := e4
      split at e4
      · rename_i c
        cases e4
        obtain ⟨a, vs, rfl, h1, h2⟩ := sn1.list y.sub
        refine ⟨a, k, vs, rfl, rfl, h1, c.1, c.2.1, by rw [h2.len]; exact lenOk_of c.2.2, fun p hp => q _ _ ?_⟩
        obtain ⟨k1, rfl⟩ := hd.pre
        rw [List.append_assoc] at y
        obtain ⟨F3, y2⟩ := y.drop
        exact y2.newList (h2.flat k.toNat) m hp
      · cases e4
    | _ => cases e4
  | _ => cases e4
theorem e_tcat {a b : Expr} {ea eb : E} (ha : PE X a (tE Φ fr X.K Γ .fro ea)) (hb : PE X b (tE Φ fr X.K Γ .fro eb)) : PE X (.BinOp a .Add b pos) (tE Φ fr X.K Γ .fro (.tcat ea eb)) := by
  refine PE_mono (pe_op op_catA ha hb) fun σ H Q h => ?_
  obtain ⟨ρ, ts, r, sr, he, q⟩ := h
  obtain ⟨ra, e1, he⟩ := bind_inv he
  obtain ⟨rb, e2, he⟩ := bind_inv he
  obtain ⟨d, e3, rfl⟩ := map_inv he
  refine ⟨ρ, ts, ra, sr, e1, fun v H1 s1 => ⟨ra.2, _, rb, s1, e2, fun u H2 s2 => ?_⟩⟩
  obtain ⟨G, F1, F2, y⟩ := id s2
  have rp := y.last2 rfl rfl
  clear he
  obtain ⟨d1, ρ1⟩ := ra
  obtain ⟨d2, ρ2⟩ := rb
  obtain ⟨r1, r2⟩ := rp
  cases d1 with
  | tuple l =>
    cases d2 with
    | tuple l2 =>
      have e3 : (if lenOk (l.length + l2.length) = true then some (PyData.tuple (l ++ l2)) else none) = some d := e3
      split at e3
      · rename_i c
        cases e3
        obtain ⟨a, vs, rfl, h1, h2⟩ := Sn.tuple y.sub (.inl r1)
        obtain ⟨b, ws, rfl, g1, g2⟩ := Sn.tuple y.sub (.inl r2)
        obtain ⟨F3, y2⟩ := y.drop
        obtain ⟨F4, y3⟩ := y2.drop
        refine ⟨a, b, vs, ws, rfl, rfl, h1, g1, by rw [h2.len, g2.len]; exact lenOk_of c, fun hx => ?_, fun hx hy => ?_, fun hx hy p hp => ?_⟩
        · subst hx
          cases h2
          exact q _ _ ⟨_, _, _, y3.push r2⟩
        · subst hy
          cases g2
          rw [List.append_nil] at q
          exact q _ _ ⟨_, _, _, y3.push r1⟩
        · exact q _ _ (y3.newTup (h2.app g2) hp)
      · cases e3
    | _ => cases e3
  | _ => cases e3
def rRepA (K : PySem.W.Frag) : R2 := fun x y H Q => (rRep0 K x y H Q ∨ rRep1 K x y H Q) ∨ rRepT K x y H Q
theorem op_repA : OpR X (binaryOp .Mult) (rRepA X.K) := (op_rep0.or op_rep1).or op_repT
theorem trepD_inv {x y z : D} (h : trepD x y = some z) : ∃ l k, x = .tuple l ∧ y = .int k ∧ l ≠ [] ∧ l.length ≤ 1000 ∧ 0 ≤ k ∧ k ≤ 1000 ∧ z = .tuple (repN k.toNat l) := by
  unfold trepD at h
  split at h
  · rename_i l k
    split at h
    · rename_i c
      cases h
      refine ⟨l, k, rfl, rfl, fun e => ?_, c.2.1, c.2.2.1, c.2.2.2, rfl⟩
      rw [e] at c
      exact absurd c.1 (by decide)
    · cases h
  · cases h
theorem e_trep {a b : Expr} {ea eb : E} (ha : PE X a (tE Φ fr X.K Γ .fro ea)) (hb : PE X b (tE Φ fr X.K Γ .fro eb)) : PE X (.BinOp a .Mult b pos) (tE Φ fr X.K Γ .fro (.trep ea eb)) := by
  refine PE_mono (pe_op op_repA ha hb) fun σ H Q h => ?_
  obtain ⟨ρ, ts, r, sr, he, q⟩ := h
  obtain ⟨ra, e1, he⟩ := bind_inv he
  obtain ⟨rb, e2, he⟩ := bind_inv he
  obtain ⟨d, e3, rfl⟩ := map_inv he
  refine ⟨ρ, ts, ra, sr, e1, fun v H1 s1 => ⟨ra.2, _, rb, s1, e2, fun u H2 s2 => ?_⟩⟩
  obtain ⟨G, F1, F2, y⟩ := id s2
  have rp := y.last2 rfl rfl
  obtain ⟨l, k, q1, q2, c1, c2, c3, c4, rfl⟩ := trepD_inv e3
  obtain ⟨d1, ρ1⟩ := ra
  obtain ⟨d2, ρ2⟩ := rb
  have q1 : d1 = .tuple l := q1
  have q2 : d2 = .int k := q2
  subst q1 q2
  obtain ⟨r1, r2⟩ := rp
  cases r2
  obtain ⟨a, vs, rfl, h1, h2⟩ := Sn.tuple y.sub (.inl r1)
  obtain ⟨F3, y2⟩ := y.drop
  obtain ⟨F4, y3⟩ := y2.drop
  have hne : vs ≠ [] := fun e => by
    subst e
    cases h2
    exact c1 rfl
  by_cases hk0 : k = 0
  · subst hk0
    exact .inl (.inl ⟨a, vs, rfl, rfl, h1, hne, fun p hp => q _ _ (y3.newTup (vs := []) (ds := []) .nil hp)⟩)
  by_cases hk : k = 1
  · subst hk
    refine .inl (.inr ⟨a, vs, rfl, rfl, h1, q _ _ ⟨_, _, _, y3.push ?_⟩⟩)
    have e : repN (1 : Int).toNat l = l := by simp [repN]
    rw [e]
    exact r1
  · refine .inr ⟨a, k, vs, rfl, rfl, h1, hne, by omega, by omega, by rw [h2.len]; exact c2, fun p hp => q _ _ (y3.newTup (h2.flat _) hp)⟩
/-! ### slices -/
theorem oe_no : PO X none (tOe Φ fr X.K Γ .no) := by
  refine ⟨fun pins s σ H Q I h => po_none.run pins s σ H Q I ?_⟩
  obtain ⟨ρ, ts, r, sr, he, q⟩ := h
  have he : some (none, ρ) = some r := he
  cases he
  exact q H sr
theorem oe_so {e : Expr} {ea : E} (h : PE X e (tE Φ fr X.K Γ .fro ea)) : PO X (some e) (tOe Φ fr X.K Γ (.so ea)) := by
  refine ⟨fun pins s σ H Q I hw => (po_some h).run pins s σ H Q I ?_⟩
  obtain ⟨ρ, ts, r, sr, he, q⟩ := hw
  obtain ⟨ra, e1, e2⟩ := bind_inv he
  refine ⟨ρ, ts, ra, sr, e1, fun v H1 s1 => ?_⟩
  obtain ⟨G, F1, F2, y⟩ := id s1
  have rp := y.last1 rfl
  obtain ⟨d, ρ1⟩ := ra
  cases d with
  | int i =>
    cases rp
    cases e2
    exact ⟨i, rfl, q _ s1.drop⟩
  | _ => cases e2
def rSlG (K : PySem.W.Frag) : V → Option Int → Option Int → Hp → VK → Prop := fun x lo hi H Q => rSlA K x lo hi H Q ∨ rSlL K x lo hi H Q
theorem sl_both : SlR X (rSlG X.K) := sl_tupA.or sl_list
/-- whom a cut may belong to: a list's to anybody, a tuple's to nobody -/
theorem e_slc {a : Expr} {oa : O} {lo hi : Option Expr} {ol oh : Oe} {p2 : Pos} (m : Made .fro w) (ha : PE X a (tO Φ fr X.K Γ oa)) (hl : PO X lo (tOe Φ fr X.K Γ ol)) (hh : PO X hi (tOe Φ fr X.K Γ oh)) (hw : w = .fro ∨ (∀ ρ r, evO Φ oa ρ = some r → ∃ l, r.1 = .list l)) :
    PE X (.Subscript a (.Slice lo hi none p2) pos) (tE Φ fr X.K Γ .fro (.slc oa ol oh)) := by
  refine PE_mono (pe_slice sl_both ha hl hh) fun σ H Q h => ?_
  obtain ⟨ρ, ts, r, sr, he, q⟩ := h
  obtain ⟨ra, e1, he⟩ := bind_inv he
  obtain ⟨rb, e2, he⟩ := bind_inv he
  obtain ⟨rc, e3, he⟩ := bind_inv he
  obtain ⟨x, e4, he⟩ := bind_inv he
  obtain ⟨d, e5, rfl⟩ := map_inv he
  refine ⟨ρ, ts, ra, sr, e1, fun v H1 ts' s1 hd => ⟨ra.2, _, rb, s1, e2, fun H2 s2 => ⟨rb.2, _, rc, s2, e3, fun H3 s3 => ?_⟩⟩⟩
  obtain ⟨G, F1, F2, y⟩ := id s3
  have y' : SRd fr X.K G F1 F2 Γ rc.2 σ (ts' ++ []) H3 := by rw [List.append_nil]; exact y
  have sn := y'.sn hd e4
  obtain ⟨k1, rfl⟩ := hd.pre
  obtain ⟨F3, y2⟩ := y.drop
  cases x with
  | list l =>
    cases e5
    obtain ⟨a, vs, rfl, h1, h2⟩ := sn.list y.sub
    exact .inr ⟨a, vs, rfl, .inl h1, fun p hp => q _ _ (y2.newList (h2.cut _ _) (.inr ⟨rfl, rfl⟩) hp)⟩
  | tuple l =>
    cases e5
    obtain ⟨a, vs, rfl, h1, h2⟩ := sn.tuple y.sub
    refine .inl ⟨a, vs, rfl, h1, fun hw => q _ _ ?_, fun hw p hp => q _ _ (y2.newTup (h2.cut _ _) hp)⟩
    rw [h2.len] at hw
    rw [cutD_all hw]
    rcases sn with sn | ⟨_, _, _, e, _⟩
    · exact ⟨_, _, _, y2.push sn⟩
    · cases e
  | _ => cases e5
/-- .. a slot's own list: it is a list -/
theorem e_slcL {x : Str} {i : Nat} {a : Expr} {lo hi : Option Expr} {ol oh : Oe} {p2 : Pos} (m : Made .fro w) (ha : PE X a (tO Φ fr X.K Γ (.s i))) (hl : PO X lo (tOe Φ fr X.K Γ ol)) (hh : PO X hi (tOe Φ fr X.K Γ oh)) :
    PE X (.Subscript a (.Slice lo hi none p2) pos) (tE Φ fr X.K Γ .fro (.slc (.s i) ol oh)) := e_slc (w := .fro) (.inr ⟨rfl, rfl⟩) ha hl hh (.inl rfl)
/-! ### numbers that are reckoned without a new object -/
variable (Φ fr Γ) in
def tI (K : PySem.W.Frag) (e : E) : TE := fun σ H Q => ∃ ρ ts i, SR fr K Γ ρ σ ts H ∧ ev Φ e ρ = some (.int i, ρ) ∧ Q (.int i) H
/-- .. whose reckoning changes nothing -/
def stE : E → Bool
  | .v _ => true
  | .k _ => true
  | .gl _ _ => true
  | .neg a => stE a
  | .ar _ a b => stE a && stE b
  | _ => false
theorem stE_pure : ∀ {e : E}, stE e = true → ∀ {ρ : Rho} {r : D × Rho}, ev Φ e ρ = some r → r.2 = ρ
  | .v i, _, ρ, r, h => by
    obtain ⟨d, _, rfl⟩ := map_inv h
    rfl
  | .k _, _, ρ, r, h => by
    cases h
    rfl
  | .gl _ _, _, ρ, r, h => by
    cases h
    rfl
  | .neg a, c, ρ, r, h => by
    obtain ⟨ra, e1, h⟩ := bind_inv h
    have e2 := stE_pure (e := a) c e1
    obtain ⟨d, ρ1⟩ := ra
    cases d with
    | int i =>
      cases h
      exact e2
    | _ => cases h
  | .ar o a b, c, ρ, r, h => by
    obtain ⟨ra, e1, h⟩ := bind_inv h
    obtain ⟨rb, e2, h⟩ := bind_inv h
    obtain ⟨d, _, rfl⟩ := map_inv h
    obtain ⟨c1, c2⟩ := Bool.and_eq_true_iff.mp (show (stE a && stE b) = true from c)
    rw [stE_pure c1 e1] at e2
    exact (show rb.2 = ρ from stE_pure c2 e2)
theorem i_v {i : Nat} {x : Str} (hN : X.N[i]? = some x) (hv : Vis X.env.scope x) (hw : Γ[i]? = some .fro) (hd : (x == ("__debug__" : Str)) = false) (hcd : (x == ("__classdict__" : Str)) = false) : PE X (.Name x pos) (tI Φ fr Γ X.K (.v i)) := by
  refine PE_mono (pe_var hN hv hd hcd) fun σ H Q h => ?_
  obtain ⟨ρ, ts, j, ⟨G, F1, F2, sr⟩, he, q⟩ := h
  obtain ⟨d, e1, e2⟩ := map_inv he
  cases e2
  obtain ⟨v, e2, rp⟩ := sr.slot e1 hw
  cases rp
  exact ⟨_, e2, q⟩
theorem i_k {e : Expr} {d : D} {v : V} (h : PE X e (tC v)) (r : ∀ G, Rp X.K G v d) : PE X e (tI Φ fr Γ X.K (.k d)) := by
  refine PE_mono h fun σ H Q h => ?_
  obtain ⟨ρ, ts, j, sr, he, k⟩ := h
  have he : some (d, ρ) = some (.int j, ρ) := he
  cases he
  have := r H
  cases this
  exact k
theorem i_gl {e : Expr} {x : Str} {d : D} {v : V} (h : PE X e (tC v)) (r : ∀ G, Rp X.K G v d) : PE X e (tI Φ fr Γ X.K (.gl x d)) := by
  refine PE_mono h fun σ H Q h => ?_
  obtain ⟨ρ, ts, j, sr, he, k⟩ := h
  have he : some (d, ρ) = some (.int j, ρ) := he
  cases he
  have := r H
  cases this
  exact k
theorem i_neg {a : Expr} {ea : E} (c : stE ea = true) (ha : PE X a (tI Φ fr Γ X.K ea)) : PE X (.UnaryOp .USub a pos) (tI Φ fr Γ X.K (.neg ea)) := by
  refine PE_mono (pe_un un_neg ha) fun σ H Q h => ?_
  obtain ⟨ρ, ts, j, sr, he, q⟩ := h
  obtain ⟨ra, e1, e2⟩ := bind_inv he
  have e3 := stE_pure c e1
  obtain ⟨d, ρ1⟩ := ra
  have e3 : ρ1 = ρ := e3
  subst e3
  cases d with
  | int i =>
    cases e2
    exact ⟨ρ1, ts, i, sr, e1, i, rfl, q⟩
  | _ => cases e2
theorem i_ar (o : Ar) {a b : Expr} {ea eb : E} (c : stE ea = true) (c2 : stE eb = true) (ha : PE X a (tI Φ fr Γ X.K ea)) (hb : PE X b (tI Φ fr Γ X.K eb)) : PE X (.BinOp a (opA o) b pos) (tI Φ fr Γ X.K (.ar o ea eb)) := by
  refine PE_mono (pe_op (op_ar o) ha hb) fun σ H Q h => ?_
  obtain ⟨ρ, ts, k, sr, he, q⟩ := h
  obtain ⟨ra, e1, he⟩ := bind_inv he
  obtain ⟨rb, e2, he2⟩ := bind_inv he
  obtain ⟨d, e3, he3⟩ := map_inv he2
  clear he he2
  have p1 := stE_pure c e1
  have p2 := stE_pure c2 e2
  obtain ⟨d1, ρ1⟩ := ra
  obtain ⟨d2, ρ2⟩ := rb
  have p1 : ρ1 = ρ := p1
  subst p1
  have p2 : ρ2 = ρ1 := p2
  subst p2
  cases he3
  obtain ⟨i, j, k', q1, q2, q3⟩ := arD_inv e3
  have q1 : d1 = .int i := q1
  have q2 : d2 = .int j := q2
  subst q1 q2
  exact ⟨ρ2, ts, i, sr, e1, ρ2, ts, j, sr, e2, i, j, k, rfl, rfl, e3, q⟩
/-! ### places in an own list of own lists -/
theorem SRd.slot2 {K : PySem.W.Frag} {G H : Hp} {F1 F2 : List Addr} {ρ : Rho} {σ : Sg} {ts : List Tm} (x : SRd fr K G F1 F2 Γ ρ σ ts H) {i : Nat} {m : List D} (h : get ρ i = some (.list m)) (hw : Γ[i]? = some (.lst (.lst .fro))) :
    ∃ a vs, σ[i]? = some (some (.ref a)) ∧ H a = some (.lst vs) ∧ vs.length = m.length := by
  obtain ⟨t, v, F3, F4, e1, e2, _, o, _⟩ := x.sl.take (get_some h)
  rw [hw] at e1
  cases e1
  rcases o with ⟨s, _, _⟩ | ⟨ds, a, vs, F', q1, q2, q3, q4, q5⟩
  · cases s
  · cases q1
    subst q2
    exact ⟨a, vs, e2, q4, q5.len⟩
theorem atI_ix {α : Type} {l : List α} {i : Int} {d : α} (h : atI l i = some d) : ∃ k, ixN l.length i = some k ∧ l[k]? = some d := bind_inv h
theorem ixD_inv {x i y : D} (h : ixD x i = some y) : ∃ l j, (x = .list l ∨ x = .tuple l) ∧ i = .int j ∧ atI l j = some y := by
  cases x with
  | list l =>
    obtain ⟨j, rfl, e⟩ := ixL_inv h
    exact ⟨l, j, .inl rfl, rfl, e⟩
  | tuple l =>
    obtain ⟨j, rfl, e⟩ := ixL_inv h
    exact ⟨l, j, .inr rfl, rfl, e⟩
  | _ => cases h
theorem e_ix2 {i : Nat} {x : Str} {a b : Expr} {ea eb : E} {px p2 : Pos} (hN : X.N[i]? = some x) (hv : Vis X.env.scope x) (hw : Γ[i]? = some (.lst (.lst .fro))) (hd : (x == ("__debug__" : Str)) = false) (hcd : (x == ("__classdict__" : Str)) = false)
    (ha : PE X a (tE Φ fr X.K Γ .fro ea)) (hb : PE X b (tI Φ fr Γ X.K eb)) (hs : notSlice a = true) (hs2 : notSlice b = true) (st : stE eb = true) :
    PE X (.Subscript (.Subscript (.Name x px) a p2) b pos) (tE Φ fr X.K Γ .fro (.ix2 i ea eb)) := by
  refine PE_mono (pe_ix ix_list (pe_ix ix_list (pe_var hN hv hd hcd) ha (plainIx_ns hs)) hb (plainIx_ns hs2)) fun σ H Q h => ?_
  obtain ⟨ρ, ts, r, ⟨G0, F01, F02, sr⟩, he, q⟩ := h
  obtain ⟨x0, e0, he⟩ := bind_inv he
  obtain ⟨ra, e1, he⟩ := bind_inv he
  obtain ⟨rb, e2, he⟩ := bind_inv he
  obtain ⟨x, e3, he⟩ := bind_inv he
  obtain ⟨y, e4, he⟩ := bind_inv he
  obtain ⟨d, e5, rfl⟩ := map_inv he
  have p2 := stE_pure st e2
  clear he
  obtain ⟨d1, ρ1⟩ := ra
  obtain ⟨d2, ρ2⟩ := rb
  have p2 : ρ2 = ρ1 := p2
  subst p2
  obtain ⟨m, j, q1, q2, e6⟩ := ixD_inv e4
  have q2 : d1 = .int j := q2
  subst q2
  obtain ⟨l, j2, q3, q4, e7⟩ := ixD_inv e5
  have q4 : d2 = .int j2 := q4
  subst q4
  obtain ⟨t0, v0, _, _, g1, g2, _⟩ := sr.takeOut e0
  refine ⟨v0, g2, ρ, ts, _, ⟨_, _, _, sr⟩, e1, fun u H1 s1 => ?_⟩
  obtain ⟨G, F1, F2, z⟩ := id s1
  have ru := z.last1 rfl
  cases ru
  obtain ⟨k, k1, k2⟩ := atI_ix e6
  obtain ⟨t', v', F3, F4, g3, g4, _, ow, _⟩ := z.sl.take (get_some e3)
  rw [hw] at g3
  cases g3
  rw [g2] at g4
  cases g4
  rcases q1 with rfl | rfl
  · rcases ow with ⟨s, _, _⟩ | ⟨ds, a0, vs, F', w1, w2, w3, w4, w5⟩
    · cases s
    · cases w1
      subst w2
      obtain ⟨u2, Fk, g5, o1, i1, _⟩ := w5.at k2
      rcases o1 with ⟨s, _, _⟩ | ⟨ds1, b0, ws, Fb, r1, r2, r3, r4, r5⟩
      · rcases q3 with rfl | rfl <;> cases s
      · rcases q3 with rfl | rfl
        · cases r1
          subst r2
          have rw5 := r5.fro.2
          obtain ⟨zz, at2, rz⟩ := atI_rp rw5 e7
          refine ⟨a0, vs, j, _, rfl, rfl, SqL.of w4, ?_, ρ2, _, j2, s1, e2, b0, ws, j2, zz, rfl, rfl, SqL.of r4, at2, q _ _ ?_⟩
          · unfold atI
            rw [w5.len, k1]
            exact g5
          · obtain ⟨F6, z2⟩ := z.drop
            exact ⟨_, _, _, z2.push rz⟩
        · cases r1
  · rcases ow with ⟨s, _, _⟩ | ⟨ds, a0, vs, F', w1, w2, w3, w4, w5⟩
    · cases s
    · cases w1
end
end Vw
namespace Vw
open PySem PySem.Spec PyProof.Rows L2
/-! ### what a def promises -/
structure Sig where
  ps : List Ty
  ret : Ty
def CallEnd (K : PySem.W.Frag) (G H : Hp) (F : List Addr) (ret : Ty) (ts : List Tm) (ds' : List D) (r : D) (v : V) (H' : Hp) : Prop :=
  ∃ G' ts' FA FR, Same G G' ∧ Same G' H' ∧ ts'.map Tm.t = ts.map Tm.t ∧ ts'.map Tm.v = ts.map Tm.v ∧ ts'.map Tm.d = ds' ∧ TmF K G' H' ts' FA ∧ Own K G' H' ret r v FR ∧ (FA ++ FR).Nodup ∧
    (∀ a ∈ FA ++ FR, G' a = none ∧ (a ∈ F ∨ H a = none)) ∧ (∀ a o, H a = some o → a ∉ F → H' a = some o) ∧ (∀ a, H' a = none → H a = none) ∧ (∀ a, G' a ≠ none → G a ≠ none ∨ a ∈ F ∨ H a = none)
def spI (K : PySem.W.Frag) (g : Sig) (f : List D → Option (D × List D)) : Sp := fun vs H Q _ => ∃ G F ts r, ts.map Tm.v = vs ∧ ts.map Tm.t = g.ps ∧ Same G H ∧ TmF K G H ts F ∧ F.Nodup ∧ (∀ a ∈ F, G a = none) ∧
  f (ts.map Tm.d) = some r ∧ ∀ v H', CallEnd K G H F g.ret ts r.2 r.1 v H' → Q v H'
theorem spI_len {K : PySem.W.Frag} {g : Sig} {f : List D → Option (D × List D)} {vs : List V} {H : Hp} {Q : VK} {E : XK} (h : spI K g f vs H Q E) : vs.length = g.ps.length := by
  obtain ⟨G, F, ts, r, rfl, e, _⟩ := h
  rw [← e, List.length_map, List.length_map]
theorem TmF.perm {K : PySem.W.Frag} {G H : Hp} : ∀ {l1 l2 : List Tm}, l1.Perm l2 → ∀ {F : List Addr}, TmF K G H l1 F → ∃ F', F'.Perm F ∧ TmF K G H l2 F' := by
  intro l1 l2 p
  induction p with
  | nil => exact fun h => ⟨_, List.Perm.refl _, h⟩
  | cons x _ ih =>
    rintro F ⟨F1, F2, e, a, b⟩
    obtain ⟨F3, p3, t3⟩ := ih b
    exact ⟨F1 ++ F3, by rw [e]; exact p3.append_left F1, F1, F3, rfl, a, t3⟩
  | swap x y l =>
    rintro F ⟨F1, F2, e, a, F3, F4, e2, b, c⟩
    refine ⟨F3 ++ (F1 ++ F4), ?_, F3, F1 ++ F4, rfl, b, F1, F4, rfl, a, c⟩
    rw [e, e2, ← List.append_assoc, ← List.append_assoc]
    exact List.perm_append_comm.append_right F4
  | trans _ _ ih1 ih2 =>
    intro F h
    obtain ⟨F1, p1, t1⟩ := ih1 h
    obtain ⟨F2, p2, t2⟩ := ih2 t1
    exact ⟨F2, p2.trans p1, t2⟩
section
variable {fr : Fr} {K : PySem.W.Frag} {G H : Hp} {F1 F2 : List Addr} {Γ : List Ty} {ρ : Rho} {σ : Sg} {ts us : List Tm}
theorem SRd.perm {ts' : List Tm} (x : SRd fr K G F1 F2 Γ ρ σ ts H) (p : ts.Perm ts') : ∃ F3, SRd fr K G F1 F3 Γ ρ σ ts' H := by
  obtain ⟨F3, p3, t⟩ := x.tm.perm p
  have pp := p3.append_left F1
  exact ⟨F3, x.sub, x.sl, t, pp.nodup_iff.mpr x.nd, fun a ha => x.out a (pp.mem_iff.mp ha), x.ok⟩
/-! ### the arguments -/
def HoldA (Γ : List Ty) (σ : Sg) : List Ty → List Ag → List V → List Tm → List Tm → Prop
  | [], [], [], ts, ts' => ts' = ts
  | t :: ps, .d d :: as, v :: vs, ts, ts' => t = .fro ∧ HoldA Γ σ ps as vs (ts ++ [⟨.fro, d, v⟩]) ts'
  | t :: ps, .io i :: as, v :: vs, ts, ts' => Γ[i]? = some t ∧ σ[i]? = some (some v) ∧ HoldA Γ σ ps as vs ts ts'
  | t :: ps, .bo i :: as, v :: vs, ts, ts' => t = .fro ∧ σ[i]? = some (some v) ∧ HoldA Γ σ ps as vs ts ts'
  | _, _, _, _, _ => False
def ios : List Ag → List Nat
  | [] => []
  | .io i :: r => i :: ios r
  | _ :: r => ios r
def noIo : List Ag → Rho → Rho
  | [], ρ => ρ
  | .io i :: r, ρ => (noIo r ρ).set i none
  | _ :: r, ρ => noIo r ρ
theorem noIo_get {i : Nat} : ∀ {as : List Ag} {ρ : Rho}, i ∉ ios as → get (noIo as ρ) i = get ρ i
  | [], ρ, _ => rfl
  | .io j :: r, ρ, h => by
    have h1 : i ≠ j := fun e => h (by rw [e]; exact List.mem_cons_self)
    have h2 : i ∉ ios r := fun e => h (List.mem_cons_of_mem _ e)
    show get ((noIo r ρ).set j none) i = _
    unfold get
    rw [List.getElem?_set_ne (Ne.symm h1)]
    exact noIo_get h2
  | .d _ :: r, ρ, h => noIo_get (as := r) h
  | .bo _ :: r, ρ, h => noIo_get (as := r) h
theorem noIo_len : ∀ {as : List Ag} {ρ : Rho}, (noIo as ρ).length = ρ.length
  | [], _ => rfl
  | .io j :: r, ρ => by
    show ((noIo r ρ).set j none).length = _
    rw [List.length_set, noIo_len]
  | .d _ :: r, ρ => noIo_len (as := r)
  | .bo _ :: r, ρ => noIo_len (as := r)
theorem noIo_put {i : Nat} {d : D} : ∀ {as : List Ag} {ρ : Rho}, i ∉ ios as → noIo as (put ρ i d) = put (noIo as ρ) i d
  | [], _, _ => rfl
  | .io j :: r, ρ, h => by
    have h1 : i ≠ j := fun e => h (by rw [e]; exact List.mem_cons_self)
    have h2 : i ∉ ios r := fun e => h (List.mem_cons_of_mem _ e)
    show (noIo r (put ρ i d)).set j none = put ((noIo r ρ).set j none) i d
    rw [noIo_put h2]
    unfold put
    rw [List.set_comm _ _ h1]
  | .d _ :: r, ρ, h => noIo_put (as := r) h
  | .bo _ :: r, ρ, h => noIo_put (as := r) h
/-- they are all held -/
theorem SRd.args (nb : List Ag → Prop) : ∀ {as : List Ag} {ps : List Ty} {vs : List V} {ts ts' : List Tm} {ds : List D} {F1 F2 : List Addr}, (∀ a ∈ as, isBo a = false) → (ios as).Nodup → SRd fr K G F1 F2 Γ ρ σ ts' H → HoldA Γ σ ps as vs ts ts' → agsD ρ as = some ds →
    ∃ F3 F4 us xs, SRd fr K G F3 F4 Γ (noIo as ρ) σ (ts ++ us) H ∧ us.Perm xs ∧ xs.map Tm.t = ps ∧ xs.map Tm.v = vs ∧ xs.map Tm.d = ds
  | [], [], [], ts, ts', ds, F1, F2, _, _, x, h, e => by
    have h : ts' = ts := h
    subst h
    cases e
    exact ⟨F1, F2, [], [], by rw [List.append_nil]; exact x, List.Perm.refl _, rfl, rfl, rfl⟩
  | .d d :: as, t :: ps, v :: vs, ts, ts', ds, F1, F2, b, nd, x, h, e => by
    obtain ⟨rfl, h⟩ := h
    obtain ⟨d', e1, e⟩ := bind_inv e
    cases e1
    obtain ⟨ds', e2, rfl⟩ := map_inv e
    obtain ⟨F3, F4, us, xs, y, p, q1, q2, q3⟩ := SRd.args nb (fun a ha => b a (List.mem_cons_of_mem _ ha)) nd x h e2
    refine ⟨F3, F4, ⟨.fro, d, v⟩ :: us, ⟨.fro, d, v⟩ :: xs, ?_, p.cons _, by simp [q1], by simp [q2], by simp [q3]⟩
    rw [List.append_assoc] at y
    exact y
  | .io i :: as, t :: ps, v :: vs, ts, ts', ds, F1, F2, b, nd, x, h, e => by
    obtain ⟨g1, g2, h⟩ := h
    obtain ⟨d, e1, e⟩ := bind_inv e
    obtain ⟨ds', e2, rfl⟩ := map_inv e
    obtain ⟨n1, n2⟩ := List.nodup_cons.mp (show (i :: ios as).Nodup from nd)
    obtain ⟨F3, F4, us, xs, y, p, q1, q2, q3⟩ := SRd.args nb (fun a ha => b a (List.mem_cons_of_mem _ ha)) n2 x h e2
    have e3 : get (noIo as ρ) i = some d := by rw [noIo_get n1]; exact e1
    obtain ⟨t', v', F5, F6, g3, g4, z⟩ := y.takeOut e3
    rw [g1] at g3
    cases g3
    rw [g2] at g4
    cases g4
    refine ⟨F5, F6, us ++ [⟨t, d, v⟩], ⟨t, d, v⟩ :: xs, ?_, ?_, by simp [q1], by simp [q2], by simp [q3]⟩
    · rw [List.append_assoc] at z
      exact z
    · exact (List.perm_append_comm (l₁ := us) (l₂ := [⟨t, d, v⟩])).trans (p.cons _)
  | .bo i :: as, _, _, _, _, _, _, _, b, _, _, _, _ => by
    have := b _ List.mem_cons_self
    cases this
  | [], [], _ :: _, _, _, _, _, _, _, _, _, h, _ => h.elim
  | [], _ :: _, _, _, _, _, _, _, _, _, _, h, _ => by cases ‹List V› <;> exact h.elim
  | .d _ :: _, [], _, _, _, _, _, _, _, _, _, h, _ => by cases ‹List V› <;> exact h.elim
  | .io _ :: _, [], _, _, _, _, _, _, _, _, _, h, _ => by cases ‹List V› <;> exact h.elim
  | .d _ :: _, _ :: _, [], _, _, _, _, _, _, _, _, h, _ => h.elim
  | .io _ :: _, _ :: _, [], _, _, _, _, _, _, _, _, h, _ => h.elim
/-- behind the call they go back -/
theorem SRd.back : ∀ {as : List Ag} {ps : List Ty} {vs : List V} {ts ts' us xs : List Tm} {ds : List D} {ρ ρ' : Rho} {F1 F2 : List Addr}, (ios as).Nodup → HoldA Γ σ ps as vs ts ts' → xs.map Tm.t = ps → xs.map Tm.v = vs → xs.map Tm.d = ds → (∀ i ∈ ios as, i < ρ.length) →
    SRd fr K G F1 F2 Γ (noIo as ρ) σ (us ++ xs) H → backD as ds ρ = some ρ' → SR fr K Γ ρ' σ us H
  | [], [], [], _, _, us, [], _, ρ, ρ', F1, F2, _, _, _, _, q3, _, x, e => by
    subst q3
    cases e
    rw [List.append_nil] at x
    exact ⟨_, _, _, x⟩
  | [], [], [], _, _, us, _ :: _, _, ρ, ρ', F1, F2, _, _, q1, _, q3, _, x, e => by simp at q1
  | .d d :: as, t :: ps, v :: vs, ts, ts', us, y :: xs, _, ρ, ρ', F1, F2, nd, h, q1, q2, q3, lt, x, e => by
    subst q3
    obtain ⟨rfl, h⟩ := h
    simp only [List.map_cons, List.cons.injEq] at q1 q2
    have pp : (us ++ y :: xs).Perm (us ++ xs ++ [y]) := by
      rw [List.append_assoc]
      exact (List.perm_append_comm (l₁ := [y]) (l₂ := xs)).append_left us
    obtain ⟨F3, z⟩ := x.perm pp
    obtain ⟨F4, z2⟩ := z.drop
    exact SRd.back (as := as) (show (ios as).Nodup from nd) h q1.2 q2.2 rfl lt z2 (show backD as (xs.map Tm.d) ρ = some ρ' from e)
  | .io i :: as, t :: ps, v :: vs, ts, ts', us, y :: xs, _, ρ, ρ', F1, F2, nd, h, q1, q2, q3, lt, x, e => by
    subst q3
    obtain ⟨g1, g2, h⟩ := h
    simp only [List.map_cons, List.cons.injEq] at q1 q2
    obtain ⟨n1, n2⟩ := List.nodup_cons.mp (show (i :: ios as).Nodup from nd)
    have pp : (us ++ y :: xs).Perm (us ++ xs ++ [y]) := by
      rw [List.append_assoc]
      exact (List.perm_append_comm (l₁ := [y]) (l₂ := xs)).append_left us
    obtain ⟨F3, z⟩ := x.perm pp
    obtain ⟨yt, yd, yv⟩ := y
    obtain ⟨rfl, q1⟩ := q1
    obtain ⟨rfl, q2⟩ := q2
    have li : i < (noIo as ρ).length := by
      rw [noIo_len]
      exact lt i (show i ∈ i :: ios as from List.mem_cons_self)
    have z : SRd fr K G F1 F3 Γ ((noIo as ρ).set i none) σ (us ++ xs ++ [⟨yt, yd, yv⟩]) H := z
    obtain ⟨F5, F6, z2⟩ := z.putBack (by rw [List.getElem?_set_self li]) g1 g2
    have e3 : put ((noIo as ρ).set i none) i yd = noIo as (put ρ i yd) := by
      rw [noIo_put n1]
      unfold put
      rw [List.set_set]
    rw [e3] at z2
    exact SRd.back n2 h q1 q2 rfl (fun j hj => by unfold put; rw [List.length_set]; exact lt j (show j ∈ i :: ios as from List.mem_cons_of_mem _ hj)) z2 e
  | .bo i :: as, t :: ps, v :: vs, ts, ts', us, y :: xs, _, ρ, ρ', F1, F2, nd, h, q1, q2, q3, lt, x, e => by
    subst q3
    obtain ⟨rfl, _, h⟩ := h
    simp only [List.map_cons, List.cons.injEq] at q1 q2
    have pp : (us ++ y :: xs).Perm (us ++ xs ++ [y]) := by
      rw [List.append_assoc]
      exact (List.perm_append_comm (l₁ := [y]) (l₂ := xs)).append_left us
    obtain ⟨F3, z⟩ := x.perm pp
    obtain ⟨F4, z2⟩ := z.drop
    exact SRd.back (as := as) (show (ios as).Nodup from nd) h q1.2 q2.2 rfl lt z2 (show backD as (xs.map Tm.d) ρ = some ρ' from e)
  | _ :: _, _ :: _, _ :: _, _, _, _, [], _, _, _, _, _, _, _, q1, _, _, _, _, _ => by simp at q1
  | [], [], _ :: _, _, _, _, _, _, _, _, _, _, _, h, _, _, _, _, _, _ => h.elim
  | [], _ :: _, _, _, _, _, _, _, _, _, _, _, _, h, _, _, _, _, _, _ => by cases ‹List V› <;> exact h.elim
  | .d _ :: _, [], _, _, _, _, _, _, _, _, _, _, _, h, _, _, _, _, _, _ => by cases ‹List V› <;> exact h.elim
  | .io _ :: _, [], _, _, _, _, _, _, _, _, _, _, _, h, _, _, _, _, _, _ => by cases ‹List V› <;> exact h.elim
  | .bo _ :: _, [], _, _, _, _, _, _, _, _, _, _, _, h, _, _, _, _, _, _ => by cases ‹List V› <;> exact h.elim
  | .d _ :: _, _ :: _, [], _, _, _, _, _, _, _, _, _, _, h, _, _, _, _, _, _ => h.elim
  | .io _ :: _, _ :: _, [], _, _, _, _, _, _, _, _, _, _, h, _, _, _, _, _, _ => h.elim
  | .bo _ :: _, _ :: _, [], _, _, _, _, _, _, _, _, _, _, h, _, _, _, _, _, _ => h.elim
end
end Vw
namespace Vw
open PySem PySem.Spec PyProof.Rows L2
section
variable {X : Cx} {Φ : Cf} {fr : Fr} {Γ : List Ty} {w : Ty} {pos : Pos}
variable (Φ fr Γ) in
def tA (K : PySem.W.Frag) (ps : List Ty) (as : As) : TA := fun σ H Q => ∃ ρ ts r, SR fr K Γ ρ σ ts H ∧ evA Φ as ρ = some r ∧ ∀ vs H' ts', SR fr K Γ r.2 σ ts' H' → HoldA Γ σ ps r.1 vs ts ts' → Q vs H'
theorem a_nil : PA X [] (tA Φ fr Γ X.K [] .nil) := by
  refine PA_mono pa_nil fun σ H Q h => ?_
  obtain ⟨ρ, ts, r, sr, he, q⟩ := h
  have he : some ([], ρ) = some r := he
  cases he
  exact q [] H ts sr rfl
theorem a_fr {e : Expr} {es : List Expr} {ea : E} {as : As} {ps : List Ty} (ha : PE X e (tE Φ fr X.K Γ .fro ea)) (hb : PA X es (tA Φ fr Γ X.K ps as)) (hs : noStar e = true) : PA X (e :: es) (tA Φ fr Γ X.K (.fro :: ps) (.fr ea as)) := by
  refine PA_mono (pa_cons ha hb (star_cons hs)) fun σ H Q h => ?_
  obtain ⟨ρ, ts, r, sr, he, q⟩ := h
  obtain ⟨ra, e1, he⟩ := bind_inv he
  obtain ⟨rb, e2, rfl⟩ := map_inv he
  refine ⟨ρ, ts, ra, sr, e1, fun v H1 s1 => ⟨ra.2, _, rb, s1, e2, fun vs H2 ts' s2 hd => ?_⟩⟩
  exact q (v :: vs) H2 ts' s2 ⟨rfl, hd⟩
theorem a_io {i : Nat} {x : Str} {t : Ty} {es : List Expr} {as : As} {ps : List Ty} (hN : X.N[i]? = some x) (hv : Vis X.env.scope x) (hw : Γ[i]? = some t) (hd : (x == ("__debug__" : Str)) = false) (hcd : (x == ("__classdict__" : Str)) = false) (hb : PA X es (tA Φ fr Γ X.K ps as)) : PA X (.Name x pos :: es) (tA Φ fr Γ X.K (t :: ps) (.io i as)) := by
  refine PA_mono (pa_cons (pe_var hN hv hd hcd) hb (star_cons rfl)) fun σ H Q h => ?_
  obtain ⟨ρ, ts, r, ⟨G, F1, F2, sr⟩, he, q⟩ := h
  obtain ⟨d, e1, he⟩ := bind_inv he
  obtain ⟨rb, e2, rfl⟩ := map_inv he
  obtain ⟨t', v, _, _, g1, g2, _⟩ := sr.takeOut e1
  rw [hw] at g1
  cases g1
  refine ⟨v, g2, ρ, ts, rb, ⟨G, F1, F2, sr⟩, e2, fun vs H2 ts' s2 hd => ?_⟩
  exact q (v :: vs) H2 ts' s2 ⟨hw, g2, hd⟩
theorem a_bo {i : Nat} {x : Str} {es : List Expr} {as : As} {ps : List Ty} (hN : X.N[i]? = some x) (hv : Vis X.env.scope x) (hd : (x == ("__debug__" : Str)) = false) (hcd : (x == ("__classdict__" : Str)) = false) (hb : PA X es (tA Φ fr Γ X.K ps as)) : PA X (.Name x pos :: es) (tA Φ fr Γ X.K (.fro :: ps) (.bo i as)) := by
  refine PA_mono (pa_cons (pe_var hN hv hd hcd) hb (star_cons rfl)) fun σ H Q h => ?_
  obtain ⟨ρ, ts, r, ⟨G, F1, F2, sr⟩, he, q⟩ := h
  obtain ⟨d, e1, he⟩ := bind_inv he
  obtain ⟨rb, e2, rfl⟩ := map_inv he
  obtain ⟨t', v, _, _, g1, g2, _⟩ := sr.takeOut e1
  refine ⟨v, g2, ρ, ts, rb, ⟨G, F1, F2, sr⟩, e2, fun vs H2 ts' s2 hd => ?_⟩
  exact q (v :: vs) H2 ts' s2 ⟨rfl, g2, hd⟩
def iosA : As → List Nat
  | .nil => []
  | .fr _ r => iosA r
  | .io i r => i :: iosA r
  | .bo _ r => iosA r
def hasBo : As → Bool
  | .nil => false
  | .fr _ r => hasBo r
  | .io _ r => hasBo r
  | .bo _ r => true
theorem evA_ag : ∀ {as : As} {ρ : Rho} {r : List Ag × Rho}, evA Φ as ρ = some r → ios r.1 = iosA as ∧ r.1.any isBo = hasBo as
  | .nil, ρ, r, h => by
    have h : some ([], ρ) = some r := h
    cases h
    exact ⟨rfl, rfl⟩
  | .fr e as, ρ, r, h => by
    obtain ⟨ra, e1, h⟩ := bind_inv h
    obtain ⟨rb, e2, rfl⟩ := map_inv h
    obtain ⟨a, b⟩ := evA_ag e2
    exact ⟨a, by simpa [isBo, hasBo] using b⟩
  | .io i as, ρ, r, h => by
    obtain ⟨ra, e1, h⟩ := bind_inv h
    obtain ⟨rb, e2, rfl⟩ := map_inv h
    obtain ⟨a, b⟩ := evA_ag e2
    exact ⟨by show i :: ios rb.1 = _; rw [a]; rfl, by simpa [isBo, hasBo] using b⟩
  | .bo i as, ρ, r, h => by
    obtain ⟨ra, e1, h⟩ := bind_inv h
    obtain ⟨rb, e2, rfl⟩ := map_inv h
    obtain ⟨a, b⟩ := evA_ag e2
    exact ⟨a, by simp [isBo, hasBo]⟩
theorem agsD_lt : ∀ {as : List Ag} {ρ : Rho} {ds : List D}, agsD ρ as = some ds → ∀ i ∈ ios as, i < ρ.length
  | [], _, _, _, i, h => nomatch h
  | .d d :: r, ρ, ds, e, i, h => by
    obtain ⟨_, _, e⟩ := bind_inv e
    obtain ⟨_, e, _⟩ := map_inv e
    exact agsD_lt e i h
  | .bo d :: r, ρ, ds, e, i, h => by
    obtain ⟨_, _, e⟩ := bind_inv e
    obtain ⟨_, e, _⟩ := map_inv e
    exact agsD_lt e i h
  | .io j :: r, ρ, ds, e, i, h => by
    obtain ⟨d, e1, e⟩ := bind_inv e
    obtain ⟨_, e, _⟩ := map_inv e
    rcases List.mem_cons.mp (show i ∈ j :: ios r from h) with rfl | h
    · exact (List.getElem?_eq_some_iff.mp (get_some e1)).1
    · exact agsD_lt e i h
theorem isBo_all {as : List Ag} (h : as.any isBo = false) : ∀ a ∈ as, isBo a = false := fun a ha => by
  cases e : isBo a with
  | false => rfl
  | true =>
    rw [List.any_eq_true.mpr ⟨a, ha, e⟩] at h
    cases h
/-- behind a call whose things were all handed over -/
theorem SRd.called {K : PySem.W.Frag} {G H H' : Hp} {F1 F2 F5 F6 Fx : List Addr} {ρ : Rho} {σ : Sg} {ts us xs : List Tm} {ret : Ty} {ds' : List D} {r : D} {v : V}
    (x : SRd fr K G F1 F2 Γ ρ σ (ts ++ us) H) (e : F2 = F5 ++ F6) (tm1 : TmF K G H ts F5) (px : Fx.Perm F6) (ce : CallEnd K G H Fx ret xs ds' r v H') :
    ∃ G' F3 F4 xs', SRd fr K G' F3 F4 Γ ρ σ (ts ++ [⟨ret, r, v⟩] ++ xs') H' ∧ xs'.map Tm.t = xs.map Tm.t ∧ xs'.map Tm.v = xs.map Tm.v ∧ xs'.map Tm.d = ds' := by
  have nd := x.nd
  rw [e, ← List.append_assoc] at nd
  obtain ⟨nd1, nd2, dj⟩ := List.nodup_append.mp nd
  have inF : ∀ a ∈ Fx, a ∈ F1 ++ F2 := fun a ha => by
    rw [e, ← List.append_assoc]
    exact List.mem_append_right _ (px.mem_iff.mp ha)
  have in1 : ∀ a ∈ F1 ++ F5, a ∈ F1 ++ F2 := fun a ha => by
    rw [e, ← List.append_assoc]
    exact List.mem_append_left _ ha
  have nx : ∀ a ∈ F1 ++ F5, a ∉ Fx := fun a ha hb => dj a ha a (px.mem_iff.mp hb) rfl
  obtain ⟨G', ts', FA, FR, sG, sub', c1, c2, c3, tA, tR, nd', out', keep', mono', nG'⟩ := ce
  have stay : ∀ a ∈ F1 ++ F5, H' a = H a := fun a ha => by
    obtain ⟨vs, eh⟩ := x.there a (in1 a ha)
    rw [eh]
    exact keep' a _ eh (nx a ha)
  have tm' : TmF K G' H' (ts ++ [⟨ret, r, v⟩] ++ ts') (F5 ++ FR ++ FA) :=
    ((tm1.stay sG fun a ha => stay a (List.mem_append_right _ ha)).of_app (TmF.of_one tR)).of_app tA
  have oldH : ∀ a ∈ F1 ++ F5, H a ≠ none := fun a ha z => none_of_some z (x.there a (in1 a ha))
  have dj' : ∀ a ∈ F1 ++ F5, a ∉ FA ++ FR := fun a ha hb => by
    rcases (out' a hb).2 with h | h
    · exact nx a ha h
    · exact oldH a ha h
  refine ⟨G', F1, F5 ++ FR ++ FA, ts', ⟨sub', x.sl.stay sG (fun a ha => stay a (List.mem_append_left _ ha)), tm', ?_, fun a ha => ?_, ?_⟩, c1, c2, c3⟩
  · have e2 : F1 ++ (F5 ++ FR ++ FA) = (F1 ++ F5) ++ (FR ++ FA) := by simp [List.append_assoc]
    rw [e2]
    refine List.nodup_append.mpr ⟨nd1, (List.perm_append_comm.nodup_iff).mpr nd', fun a ha b hb z => ?_⟩
    subst z
    exact dj' a ha (List.perm_append_comm.mem_iff.mp hb)
  · have e2 : F1 ++ (F5 ++ FR ++ FA) = (F1 ++ F5) ++ (FR ++ FA) := by simp [List.append_assoc]
    rw [e2] at ha
    rcases List.mem_append.mp ha with ha | ha
    · refine ⟨?_, (x.out a (in1 a ha)).2⟩
      cases eg : G' a with
      | none => rfl
      | some o =>
        rcases nG' a (by rw [eg]; simp) with h | h | h
        · exact absurd (x.out a (in1 a ha)).1 h
        · exact absurd h (nx a ha)
        · exact absurd h (oldH a ha)
    · have ha : a ∈ FA ++ FR := List.perm_append_comm.mem_iff.mp ha
      refine ⟨(out' a ha).1, ?_⟩
      rcases (out' a ha).2 with h | h
      · exact (x.out a (inF a h)).2
      · exact .inr (x.ok.mono a h)
  · refine ⟨fun a o e1 h1 => ?_, fun a h => x.ok.mono a (mono' a h), fun a o h => sG _ _ (x.ok.sG _ _ h), fun a h => ?_, x.ok.pin⟩
    · refine keep' a o (x.ok.keep a o e1 h1) fun hb => ?_
      rcases (x.out a (inF a hb)).2 with h | h
      · exact h1 h
      · rw [h] at e1
        cases e1
    · rcases nG' a h with h | h | h
      · exact x.ok.nG a h
      · exact .inr (x.out a (inF a h)).2
      · exact .inr (.inr (x.ok.mono a h))
/-- an argument of a borrowing call reads as data while all slots are given -/
theorem HoldA.data {K : PySem.W.Frag} {G H : Hp} {σ : Sg} {ρ : Rho} : ∀ {as : List Ag} {ps : List Ty} {vs : List V} {ts ts' : List Tm} {ds : List D} {F1 F2 : List Addr}, SRd fr K G F1 F2 Γ ρ σ ts' H → HoldA Γ σ ps as vs ts ts' → agsD ρ as = some ds → ios as = [] →
    (∃ us, ts' = ts ++ us) ∧ RpAll K (join G H F1) vs ds ∧ ps = ps.map (fun _ => .fro) ∧ vs.length = ps.length
  | [], [], [], ts, ts', ds, F1, F2, x, h, e, _ => by
    have h : ts' = ts := h
    subst h
    cases e
    exact ⟨⟨[], by rw [List.append_nil]⟩, .nil, rfl, rfl⟩
  | .d d :: as, t :: ps, v :: vs, ts, ts', ds, F1, F2, x, h, e, n => by
    obtain ⟨rfl, h⟩ := h
    obtain ⟨d', e1, e⟩ := bind_inv e
    cases e1
    obtain ⟨ds', e2, rfl⟩ := map_inv e
    obtain ⟨⟨us, hu⟩, r, p, l⟩ := HoldA.data x h e2 n
    refine ⟨⟨⟨.fro, d, v⟩ :: us, by rw [hu, List.append_assoc]; rfl⟩, .cons ?_ r, by rw [List.map_cons, ← p], by simp [l]⟩
    rw [hu] at x
    obtain ⟨F3, y⟩ := x.drop
    exact Rp_same (join_same fun a ha => (x.out a (List.mem_append_left _ ha)).1) _ _ (y.last1 rfl)
  | .bo i :: as, t :: ps, v :: vs, ts, ts', ds, F1, F2, x, h, e, n => by
    obtain ⟨rfl, g2, h⟩ := h
    obtain ⟨d, e1, e⟩ := bind_inv e
    obtain ⟨ds', e2, rfl⟩ := map_inv e
    obtain ⟨hu, r, p, l⟩ := HoldA.data x h e2 n
    refine ⟨hu, .cons ?_ r, by rw [List.map_cons, ← p], by simp [l]⟩
    obtain ⟨t', v', F3, F4, g3, g4, pm, ow, _⟩ := x.sl.take (get_some e1)
    rw [g2] at g4
    cases g4
    exact ow.rp (join_same fun a ha => (x.out a (List.mem_append_left _ ha)).1) fun a ha => join_in (perm_sub pm (List.mem_append_left _ ha))
  | .io i :: as, _, _, _, _, _, _, _, _, _, _, n => by
    have n : i :: ios as = [] := n
    cases n
  | [], [], _ :: _, _, _, _, _, _, _, h, _, _ => h.elim
  | [], _ :: _, _, _, _, _, _, _, _, h, _, _ => by cases ‹List V› <;> exact h.elim
  | .d _ :: _, [], _, _, _, _, _, _, _, h, _, _ => by cases ‹List V› <;> exact h.elim
  | .bo _ :: _, [], _, _, _, _, _, _, _, h, _, _ => by cases ‹List V› <;> exact h.elim
  | .d _ :: _, _ :: _, [], _, _, _, _, _, _, h, _, _ => h.elim
  | .bo _ :: _, _ :: _, [], _, _, _, _, _, _, h, _, _ => h.elim
theorem HoldA.pre {σ : Sg} : ∀ {as : List Ag} {ps : List Ty} {vs : List V} {ts ts' : List Tm}, HoldA Γ σ ps as vs ts ts' → ∃ us, ts' = ts ++ us
  | [], [], [], ts, ts', h => ⟨[], by rw [List.append_nil]; exact h⟩
  | .d d :: as, t :: ps, v :: vs, ts, ts', h => by
    obtain ⟨us, hu⟩ := HoldA.pre h.2
    exact ⟨⟨.fro, d, v⟩ :: us, by rw [hu, List.append_assoc]; rfl⟩
  | .io i :: as, t :: ps, v :: vs, ts, ts', h => HoldA.pre h.2.2
  | .bo i :: as, t :: ps, v :: vs, ts, ts', h => HoldA.pre h.2.2
  | [], [], _ :: _, _, _, h => h.elim
  | [], _ :: _, _, _, _, h => by cases ‹List V› <;> exact h.elim
  | .d _ :: _, [], _, _, _, h => by cases ‹List V› <;> exact h.elim
  | .io _ :: _, [], _, _, _, h => by cases ‹List V› <;> exact h.elim
  | .bo _ :: _, [], _, _, _, h => by cases ‹List V› <;> exact h.elim
  | .d _ :: _, _ :: _, [], _, _, h => h.elim
  | .io _ :: _, _ :: _, [], _, _, h => h.elim
  | .bo _ :: _, _ :: _, [], _, _, h => h.elim
theorem tms_of {w : Ty} {K : PySem.W.Frag} {G H : Hp} : ∀ {vs : List V} {ds : List D}, RpAll K G vs ds → TmF K G H (tms .fro ds vs) []
  | _, _, .nil => rfl
  | _, _, .cons r rs => ⟨[], [], rfl, ⟨rfl, r⟩, tms_of (w := w) rs⟩
/-- a call's reading -/
theorem m_call {K : PySem.W.Frag} {g : Sig} {as : As} {f : Str} {σ : Sg} {H : Hp} {Q : VK} {E : XK} (nd : (iosA as).Nodup) (hw : w = g.ret ∨ w = .fro) (hb : hasBo as = true → iosA as = [] ∧ g.ret = .fro)
    (h : tE Φ fr K Γ w (.call f as) σ H Q) : tCall (spI K g (Φ.fn f)) [] E (tA Φ fr Γ K g.ps as) σ H Q := by
  obtain ⟨ρ, ts, r, sr, he, q⟩ := h
  obtain ⟨ra, e1, he⟩ := bind_inv he
  refine ⟨ρ, ts, ra, sr, e1, fun vs H1 ts' s1 hd => ?_⟩
  show spI K g (Φ.fn f) (vs ++ []) H1 Q E
  rw [List.append_nil]
  obtain ⟨ds, e2, he⟩ := bind_inv he
  obtain ⟨z, e3, he⟩ := bind_inv he
  obtain ⟨a1, a2⟩ := evA_ag e1
  obtain ⟨G, F1, F2, y⟩ := id s1
  rw [a2] at he
  by_cases hbo : hasBo as = true
  · rw [if_pos hbo] at he
    obtain ⟨b1, b2⟩ := hb hbo
    split at he
    · rename_i c
      cases he
      obtain ⟨⟨us, hu⟩, rs, p, l⟩ := HoldA.data y hd e2 (by rw [a1]; exact b1)
      have sJ : Same G (join G H1 F1) := join_same fun a ha => (y.out a (List.mem_append_left _ ha)).1
      have hty : (tms .fro ds vs).map Tm.t = g.ps := by
        rw [p]
        have : (tms .fro ds vs).map Tm.t = (tms .fro ds vs).map (fun _ => Ty.fro) := List.map_congr_left fun x hx => tms_t x hx
        rw [this, List.map_const', List.map_const']
        have e9 := congrArg List.length (tms_d (w := .fro) rs.len)
        rw [List.length_map] at e9
        rw [e9, ← rs.len, l]
      have hfn : Φ.fn f ((tms .fro ds vs).map Tm.d) = some z := by
        rw [tms_d rs.len]
        exact e3
      refine ⟨join G H1 F1, [], tms .fro ds vs, z, tms_v rs.len, hty, join_sub y.sub, tms_of (w := w) rs, List.nodup_nil, by simp, hfn, fun v H' ce => ?_⟩
      obtain ⟨G', xs', FA, FR, sG, sub', c1, c2, c3, tmA, tR, nd', out', keep', mono', nG'⟩ := ce
      have keep : ∀ a o, H1 a = some o → H' a = some o := fun a o e => keep' a o e (by simp)
      rw [hu] at y
      obtain ⟨F3, y2⟩ := y.drop
      have st : ∀ a ∈ F1 ++ F3, H' a = H1 a := fun a ha => by
        obtain ⟨ws, eh⟩ := y2.there a ha
        rw [eh]
        exact keep _ _ eh
      have y3 : SRd fr K G F1 F3 Γ ra.2 σ ts H' := ⟨fun a o e => keep _ _ (y2.sub _ _ e), y2.sl.stay (Same.refl G) (fun a ha => st a (List.mem_append_left _ ha)), y2.tm.stay (Same.refl G) (fun a ha => st a (List.mem_append_right _ ha)), y2.nd, y2.out,
        fun a o e hF => keep _ _ (y2.ok.keep a o e hF), fun a e => y2.ok.mono a (mono' a e), y2.ok.sG, y2.ok.nG, y2.ok.pin⟩
      rw [b2] at tR
      exact q _ _ ⟨_, _, _, y3.pushS c (Rp_scalar c tR.2)⟩
    · cases he
  · rw [if_neg hbo] at he
    obtain ⟨ρ', e4, rfl⟩ := map_inv he
    have nb : ∀ a ∈ ra.1, isBo a = false := isBo_all (by rw [a2]; simpa using hbo)
    rw [← a1] at nd
    obtain ⟨F3, F4, us, xs, y2, p, q1, q2, q3⟩ := SRd.args (fun _ => True) nb nd y hd e2
    obtain ⟨F5, F6, e5, tm1, tm2⟩ := y2.tm.app
    obtain ⟨Fx, px, tmx⟩ := tm2.perm p
    have ndx := y2.nd
    rw [e5, ← List.append_assoc] at ndx
    have inF : ∀ a ∈ Fx, a ∈ F3 ++ F4 := fun a ha => by
      rw [e5, ← List.append_assoc]
      exact List.mem_append_right _ (px.mem_iff.mp ha)
    refine ⟨G, Fx, xs, z, q2, q1, y2.sub, tmx, px.nodup_iff.mpr (List.nodup_append.mp ndx).2.1, fun a ha => (y2.out a (inF a ha)).1, by rw [q3]; exact e3, fun v H' ce => ?_⟩
    obtain ⟨G', F7, F8, xs', z2, c1, c2, c3⟩ := y2.called e5 tm1 px ce
    have fin : SR fr K Γ ρ' σ (ts ++ [⟨g.ret, z.1, v⟩]) H' := SRd.back nd hd (c1.trans q1) (c2.trans q2) c3 (agsD_lt e2) z2 e4
    rcases hw with hw | hw
    · rw [hw] at q
      exact q _ _ fin
    · rw [hw] at q
      exact q _ _ (SR.give (x1 := ⟨g.ret, z.1, v⟩) fin)
def noStars : List Expr → Bool
  | [] => true
  | e :: es => noStar e && noStars es
theorem stars_plain {env : Env} {p : Pos} : ∀ {es : List Expr}, noStars es = true → (backTo p (starEach es env)).any (·.1) = false
  | [], _ => rfl
  | e :: es, h => by
    obtain ⟨h1, h2⟩ := Bool.and_eq_true_iff.mp (show (noStar e && noStars es) = true from h)
    exact plain_cons h1 (stars_plain h2)
theorem e_call {g : Sig} {as : As} {x : Str} {k : Nat} {f : Addr} {fd : FuncData} {ps : List Str} {args : List Expr} {p : Pos} (F : FnOk X.prog X.w X.K X.mg X.base CX0 k f fd ps (spI X.K g (Φ.fn x))) (hr : Room k X.A) (hg : Gl X x) (hm : X.mg x = some (.ref f)) (hk : PySem.W.keepIn X.K (.ref f) = true) (hbd : Binds X.K fd ps [])
    (ha : PA X args (tA Φ fr Γ X.K g.ps as)) (hs : noStars args = true) (hne : args.isEmpty = false) (hdb : (x == ("__debug__" : Str)) = false) (nd : (iosA as).Nodup) (hw : w = g.ret ∨ w = .fro) (hb : hasBo as = true → iosA as = [] ∧ g.ret = .fro) :
    PE X (.Call (.Name x p) args [] pos) (tE Φ fr X.K Γ w (.call x as)) := by
  cases args with
  | nil => cases hne
  | cons e es =>
    obtain ⟨h1, h2⟩ := Bool.and_eq_true_iff.mp (show (noStar e && noStars es) = true from hs)
    exact PE_mono (pe_call F hr hg hm hk hbd .nil pass0 ha hdb (star_cons h1) (stars_plain h2)) fun σ H Q h => m_call nd hw hb h
end
end Vw
namespace Vw
open PySem PySem.Spec PyProof.Rows L2
section
variable {X : Cx} {Φ : Cf} {fr : Fr} {Γ : List Ty} {w : Ty} {pos : Pos}
/-! ### pop -/
theorem RpAll_dropLast {K : PySem.W.Frag} {G : Hp} : ∀ {vs : List V} {l : List D}, RpAll K G vs l → RpAll K G vs.dropLast l.dropLast
  | _, _, .nil => .nil
  | _, _, .cons _ .nil => .nil
  | _, _, .cons h (.cons h2 t) => .cons h (RpAll_dropLast (.cons h2 t))
theorem RpAll_erase {K : PySem.W.Frag} {G : Hp} : ∀ {vs : List V} {l : List D} (k : Nat), RpAll K G vs l → RpAll K G (vs.eraseIdx k) (l.eraseIdx k)
  | _, _, _, .nil => .nil
  | _, _, 0, .cons _ t => t
  | _, _, k + 1, .cons h t => .cons h (RpAll_erase k t)
theorem tyV_l {K : PySem.W.Frag} {a : Addr} {vs : List V} {H : Hp} (h : H a = some (.lst vs)) : tyV K "list" (.ref a) H := Or.inl ⟨rfl, _, .inl (.inl h)⟩
theorem e_pop {i : Nat} {x : Str} {px ap : Pos} (hN : X.N[i]? = some x) (hv : Vis X.env.scope x) (hw : Γ[i]? = some (.lst .fro)) (hd : (x == ("__debug__" : Str)) = false) (hcd : (x == ("__classdict__" : Str)) = false) (hl : (ap.endLine == pos.line) = true) :
    PE X (.Call (.Attribute (.Name x px) "pop" ap) [] [] pos) (tE Φ fr X.K Γ .fro (.pop i)) := by
  refine PE_mono (pe_bm0 PySem.F.plainAttrs_list PySem.F.slot_list_pop PySem.F.type_list_pop mt_pop (pe_var hN hv hd hcd) rfl hl) fun σ H Q h => ?_
  obtain ⟨ρ, ts, r, ⟨G, F1, F2, sr⟩, he, q⟩ := h
  obtain ⟨x, e1, he⟩ := bind_inv he
  cases x with
  | list l =>
    obtain ⟨d, e2, rfl⟩ := map_inv (show (l[l.length - 1]?).map (fun d => (d, put ρ i (.list l.dropLast))) = some r from he)
    obtain ⟨a, vs, g1, g2, g3, _⟩ := sr.slotMut e1 hw
    obtain ⟨y, e3, ry⟩ := g3.get e2
    obtain ⟨a', vs', g1', g2', g3', m⟩ := (sr.push ry).slotMut e1 hw
    rw [g1] at g1'
    cases g1'
    rw [g2] at g2'
    cases g2'
    refine ⟨_, g1, tyV_l g2, a, vs, y, rfl, rfl, g2, by rw [g3.len]; exact e3, q _ _ ?_⟩
    exact m _ _ (RpAll_dropLast g3)
  | _ => cases he
theorem few_of {e : Expr} {env : Env} {p : Pos} (h : noStar e = true) : ((backTo p (starEach [e] env)).all (fun x => !x.1) && (backToKw p (keywordEach [] env)).all (fun x => x.1.isSome)
      && decide ([e].length + ([] : List Keyword).length + (if ([] : List Keyword).isEmpty then 0 else 1) < 30)) = true := by
  rw [star_cons h]
  rfl
theorem e_popat {i : Nat} {x : Str} {px ap : Pos} {e : Expr} {ea : E} (hN : X.N[i]? = some x) (hv : Vis X.env.scope x) (hw : Γ[i]? = some (.lst .fro)) (hd : (x == ("__debug__" : Str)) = false) (hcd : (x == ("__classdict__" : Str)) = false) (hl : (ap.endLine == pos.line) = true)
    (ha : PE X e (tE Φ fr X.K Γ .fro ea)) (hs : noStar e = true) : PE X (.Call (.Attribute (.Name x px) "pop" ap) [e] [] pos) (tE Φ fr X.K Γ .fro (.popat i ea)) := by
  refine PE_mono (pe_bm PySem.F.plainAttrs_list PySem.F.slot_list_pop PySem.F.type_list_pop mt_popAt (pe_var hN hv hd hcd) (pa_cons ha pa_nil (star_cons (env := X.env) hs)) rfl (few_of hs) hl (star_cons hs) rfl) fun σ H Q h => ?_
  obtain ⟨ρ, ts, r, ⟨G0, F01, F02, sr⟩, he, q⟩ := h
  obtain ⟨x0, e0, he⟩ := bind_inv he
  cases x0 with
  | list l0 =>
    obtain ⟨ra, e1, he⟩ := bind_inv he
    obtain ⟨x, e2, he⟩ := bind_inv he
    obtain ⟨a0, vs0, k1, k2, _⟩ := sr.slotL e0 hw
    refine ⟨_, k1, tyV_l k2, ρ, ts, ra, ⟨_, _, _, sr⟩, e1, fun u H1 s1 => ?_⟩
    obtain ⟨G, F1, F2, y⟩ := id s1
    have ru := y.last1 rfl
    clear e1
    obtain ⟨d1, ρ1⟩ := ra
    cases x with
    | list l =>
      cases d1 with
      | int j =>
        cases ru
        have he : (if -(2 ^ 63) ≤ j ∧ j < 2 ^ 63 then (seqIndex? j l.length).bind fun k => (l[k]?).map fun d => (d, put ρ1 i (.list (l.eraseIdx k))) else none) = some r := he
        split at he
        · rename_i c
          obtain ⟨k, e3, he⟩ := bind_inv he
          obtain ⟨d, e4, rfl⟩ := map_inv he
          obtain ⟨F3, y2⟩ := y.drop
          obtain ⟨a, vs, g1, g2, g3, _⟩ := y2.slotMut e2 hw
          obtain ⟨z, e5, rz⟩ := g3.get e4
          obtain ⟨a', vs', g1', g2', g3', m⟩ := (y2.push rz).slotMut e2 hw
          rw [k1] at g1 g1'
          cases g1
          cases g1'
          rw [g2] at g2'
          cases g2'
          exact ⟨_, vs, j, k, z, rfl, rfl, g2, c.1, c.2, by rw [g3.len]; exact e3, e5, q _ _ (m _ _ (RpAll_erase k g3))⟩
        · cases he
      | _ => cases he
    | _ => cases he
  | _ => cases he
/-! ### targets -/
mutual
def tgSl : Tg → List Nat
  | .n i => [i]
  | .t l => tgsSl l
def tgsSl : Tgs → List Nat
  | .nil => []
  | .cons a l => tgSl a ++ tgsSl l
end
/-- but for these places the names are as they were -/
def But (l : List Nat) (σ σ' : Sg) : Prop := σ'.length = σ.length ∧ ∀ j, j ∉ l → σ'[j]? = σ[j]?
theorem But.trans {l m : List Nat} {σ σ1 σ2 : Sg} (a : But l σ σ1) (b : But m σ1 σ2) : But (l ++ m) σ σ2 :=
  ⟨b.1.trans a.1, fun j h => (b.2 j fun z => h (List.mem_append_right _ z)).trans (a.2 j fun z => h (List.mem_append_left _ z))⟩
variable (fr Γ) in
def tG (K : PySem.W.Frag) (tg : Tg) : TG := fun v σ H Q => ∃ ρ ts d ρ', SR fr K Γ ρ σ (ts ++ [⟨.fro, d, v⟩]) H ∧ tgD tg d ρ = some ρ' ∧ ∀ σ' H', But (tgSl tg) σ σ' → SR fr K Γ ρ' σ' ts H' → Q σ' H'
variable (fr Γ) in
def tGs (K : PySem.W.Frag) (tg : Tgs) : TGs := fun vs σ H Q => ∃ ρ ts ds ρ', vs.length = ds.length ∧ SR fr K Γ ρ σ (ts ++ tms .fro ds vs) H ∧ tgsD tg ds ρ = some ρ' ∧ ∀ σ' H', But (tgsSl tg) σ σ' → SR fr K Γ ρ' σ' ts H' → Q σ' H'
theorem PG_mono {e : Expr} {t t' : TG} (h : PG X e t) (i : ∀ v σ H Q, t' v σ H Q → t v σ H Q) : PG X e t' := ⟨fun pins s σ H v u Q I r hw => h.run pins s σ H v u Q I r (i v σ H Q hw)⟩
theorem PGs_mono {e : List Expr} {t t' : TGs} (h : PGs X e t) (i : ∀ v σ H Q, t' v σ H Q → t v σ H Q) : PGs X e t' := ⟨fun pins s σ H v u Q I r hw => h.run pins s σ H v u Q I r (i v σ H Q hw)⟩
theorem PG_or {e : Expr} {t t' : TG} (h : PG X e t) (h' : PG X e t') : PG X e (fun v σ H Q => t v σ H Q ∨ t' v σ H Q) := ⟨fun pins s σ H v u Q I r hw => by
  rcases hw with hw | hw
  · exact h.run pins s σ H v u Q I r hw
  · exact h'.run pins s σ H v u Q I r hw⟩
theorem SR.setSlot {K : PySem.W.Frag} {ρ : Rho} {σ : Sg} {ts : List Tm} {H : Hp} {i : Nat} {t : Ty} {d : D} {v : V} (x : SR fr K Γ ρ σ (ts ++ [⟨t, d, v⟩]) H) (ht : Γ[i]? = some t) (hp : ∀ p ∈ fr.pins, p.1 ≠ i) : SR fr K Γ (put ρ i d) (σ.set i (some v)) ts H := by
  obtain ⟨G, F1, F2, x⟩ := x
  have l := x.sl.lens.1
  obtain ⟨F3, F4, y⟩ := x.setSlot ht (by rw [← l]; exact (List.getElem?_eq_some_iff.mp ht).1) hp
  exact ⟨_, _, _, y⟩
theorem g_n {i : Nat} {x : Str} (nd : X.N.Nodup) (hi : X.N[i]? = some x) (hx : Loc X.env.scope x) (hf : X.fn x = true ∨ X.env.scope.names.lookup x = some .local) (hw : Γ[i]? = some .fro) (hp : ∀ p ∈ fr.pins, p.1 ≠ i) : PG X (.Name x pos) (tG fr Γ X.K (.n i)) := by
  refine PG_mono (pg_name nd hi hx hf) fun v σ H Q h => ?_
  obtain ⟨ρ, ts, d, ρ', sr, he, q⟩ := h
  cases he
  refine q _ _ ⟨List.length_set, fun j hj => ?_⟩ (sr.setSlot hw hp)
  have hj : i ≠ j := fun e => hj (by rw [e]; exact List.mem_cons_self)
  rw [List.getElem?_set_ne hj]
theorem asg_cons {e : Expr} {es : List Expr} {env : Env} (h : noStar e = true) : assignEach (e :: es) env = (false, assign e env) :: assignEach es env := by
  cases e <;> first | rfl | cases h
theorem asg_len {env : Env} : ∀ {es : List Expr}, (assignEach es env).length = es.length
  | [] => rfl
  | e :: es => by
    have : (assignEach (e :: es) env).length = (assignEach es env).length + 1 := by cases e <;> rfl
    rw [this, asg_len]
    rfl
theorem asg_star {env : Env} : ∀ {es : List Expr}, noStars es = true → (assignEach es env).findIdx? (·.1) = none
  | [], _ => rfl
  | e :: es, h => by
    obtain ⟨h1, h2⟩ := Bool.and_eq_true_iff.mp (show (noStar e && noStars es) = true from h)
    rw [asg_cons h1, List.findIdx?_cons, asg_star h2]
    rfl
theorem gs_nil : PGs X [] (tGs fr Γ X.K .nil) := by
  refine PGs_mono pgs_nil fun vs σ H Q h => ?_
  obtain ⟨ρ, ts, ds, ρ', hl, sr, he, q⟩ := h
  cases ds with
  | nil =>
    cases vs with
    | nil =>
      cases he
      refine ⟨rfl, q _ _ ⟨rfl, fun _ _ => rfl⟩ ?_⟩
      have e : ts ++ tms .fro [] [] = ts := List.append_nil ts
      rw [e] at sr
      exact sr
    | cons _ _ => simp at hl
  | cons _ _ => cases he
theorem gs_cons {e : Expr} {es : List Expr} {a : Tg} {l : Tgs} (h1 : PG X e (tG fr Γ X.K a)) (h2 : PGs X es (tGs fr Γ X.K l)) (hs : noStar e = true) : PGs X (e :: es) (tGs fr Γ X.K (.cons a l)) := by
  refine PGs_mono (pgs_cons h1 h2 (by rw [asg_cons hs]; rfl)) fun vs σ H Q h => ?_
  obtain ⟨ρ, ts, ds, ρ', hl, sr, he, q⟩ := h
  cases ds with
  | nil => cases he
  | cons d ds =>
    cases vs with
    | nil => simp at hl
    | cons v vs =>
      obtain ⟨ρ1, e1, e2⟩ := bind_inv he
      have pp : (ts ++ tms .fro (d :: ds) (v :: vs)).Perm (ts ++ tms .fro ds vs ++ [⟨.fro, d, v⟩]) := by
        rw [List.append_assoc]
        exact (List.perm_append_comm (l₁ := [⟨.fro, d, v⟩]) (l₂ := tms .fro ds vs)).append_left ts
      obtain ⟨G, F1, F2, y⟩ := sr
      obtain ⟨F3, z⟩ := y.perm pp
      refine ⟨v, vs, rfl, ρ, _, d, ρ1, ⟨_, _, _, z⟩, e1, fun σ1 H1 b1 s1 => ⟨ρ1, ts, ds, ρ', by simpa using hl, s1, e2, fun σ2 H2 b2 s2 => q _ _ (b1.trans b2) s2⟩⟩
def tgsLen : Tgs → Nat
  | .nil => 0
  | .cons _ l => tgsLen l + 1
theorem tgsD_len : ∀ {l : Tgs} {ds : List D} {ρ ρ' : Rho}, tgsD l ds ρ = some ρ' → ds.length = tgsLen l
  | .nil, [], _, _, _ => rfl
  | .nil, _ :: _, _, _, h => nomatch h
  | .cons _ _, [], _, _, h => nomatch h
  | .cons a l, d :: ds, ρ, ρ', h => by
    obtain ⟨ρ1, _, e2⟩ := bind_inv h
    show _ + 1 = _ + 1
    rw [tgsD_len e2]
theorem g_t {es : List Expr} {l : Tgs} {k : Nat} (hc : X.calm = true) (h : PGs X es (tGs fr Γ X.K l)) (hs : noStars es = true) (hl : tgsLen l = es.length) : PG X (.Tuple es k pos) (tG fr Γ X.K (.t l)) := by
  refine PG_mono (PG_or (pg_tup hc h asg_len (asg_star hs)) (pg_lst hc h asg_len (asg_star hs))) fun v σ H Q hh => ?_
  obtain ⟨ρ, ts, d, ρ', ⟨G, F1, F2, sr⟩, he, q⟩ := hh
  have rp := sr.last1 rfl
  obtain ⟨F3, y⟩ := sr.drop
  cases d with
  | tuple ds =>
    have he : tgsD l ds ρ = some ρ' := he
    obtain ⟨a, vs, rfl, h1, h2⟩ := Sn.tuple sr.sub (.inl rp)
    exact .inl ⟨a, vs, rfl, h1, by rw [h2.len, tgsD_len he, hl], ρ, ts, ds, ρ', h2.len, ⟨_, _, _, y.pushes h2⟩, he, q⟩
  | list ds =>
    have he : tgsD l ds ρ = some ρ' := he
    obtain ⟨a, vs, rfl, h1, h2⟩ := Sn.list sr.sub (.inl rp)
    exact .inr ⟨a, vs, rfl, .inl h1, by rw [h2.len, tgsD_len he, hl], ρ, ts, ds, ρ', h2.len, ⟨_, _, _, y.pushes h2⟩, he, q⟩
  | _ => cases he
/-! ### what is walked -/
variable (fr Γ) in
structure Wk (K : PySem.W.Frag) (fr' : Fr) (J : It) (ts us : List Tm) (ds : List D) (sv : List (Nat × D)) : Prop where
  go : ∀ i ρ σ ts' H (h : i < ds.length), SR fr' K Γ ρ σ (ts ++ us ++ ts') H → J.go i H ∧ ∀ x H', J.yld i H x H' → SR fr' K Γ ρ σ (ts ++ us ++ ts' ++ [⟨.fro, ds[i], x⟩]) H'
  stop : ∀ ρ σ ts' H, SR fr' K Γ ρ σ (ts ++ us ++ ts') H → J.stop ds.length H
  rest : ∀ ρ ρ' σ ts0 H, SR fr' K Γ ρ σ (ts0 ++ us) H → restD sv ρ = some ρ' → SR fr K Γ ρ' σ ts0 H
  weak : ∀ ρ σ ts0 H, SR fr' K Γ ρ σ ts0 H → SR fr K Γ ρ σ ts0 H
  pins : ∀ p ∈ fr'.pins, p ∈ fr.pins ∨ p.1 ∈ sv.map (·.1)
variable (Φ fr Γ) in
def tIt (K : PySem.W.Frag) (it : Iv) : TI := fun σ H R => ∃ ρ ts r, SR fr K Γ ρ σ ts H ∧ evI Φ it ρ = some r ∧ ∀ J H' us fr', SR fr' K Γ r.2.1 σ (ts ++ us) H' → Wk fr Γ K fr' J ts us r.1 r.2.2 → R J H'
theorem PI_mono {tg e : Expr} {t t' : TI} (h : PI X tg e t) (i : ∀ σ H R, t' σ H R → t σ H R) : PI X tg e t' := ⟨fun pins s σ H R I hw => h.run pins s σ H R I (i σ H R hw)⟩
theorem PI_or {tg e : Expr} {t t' : TI} (h : PI X tg e t) (h' : PI X tg e t') : PI X tg e (fun σ H R => t σ H R ∨ t' σ H R) := ⟨fun pins s σ H R I hw => by
  rcases hw with hw | hw
  · exact h.run pins s σ H R I hw
  · exact h'.run pins s σ H R I hw⟩
/-! ### ranges -/
theorem Wk.plain {K : PySem.W.Frag} {J : It} {ts : List Tm} {ds : List D} (go : ∀ i H (h : i < ds.length), J.go i H ∧ ∀ x H', J.yld i H x H' → H' = H ∧ ∃ j, ds[i] = .int j ∧ x = .int j) (stop : ∀ H, J.stop ds.length H) : Wk fr Γ K fr J ts [] ds [] where
  go := fun i ρ σ ts' H h s => by
    obtain ⟨g1, g2⟩ := go i H h
    refine ⟨g1, fun x H' y => ?_⟩
    obtain ⟨rfl, j, e1, rfl⟩ := g2 x H' y
    rw [e1]
    exact s.res rfl fun G => .int j
  stop := fun ρ σ ts' H s => stop H
  rest := fun ρ ρ' σ ts0 H s e => by
    cases e
    rw [List.append_nil] at s
    exact s
  weak := fun ρ σ ts0 H s => s
  pins := fun p h => .inl h
theorem Wk.rng {K : PySem.W.Frag} {ts : List Tm} {lo : Int} {n : Nat} : Wk fr Γ K fr (Itr lo n) ts [] (rngD lo n) [] := by
  have len : (rngD lo n).length = n := by simp [rngD]
  refine Wk.plain (fun i H h => ?_) fun H => ?_
  · rw [len] at h
    refine ⟨h, fun x H' y => ⟨y.1, lo + i, ?_, y.2⟩⟩
    simp [rngD]
  · show n ≤ _
    rw [len]
    exact Nat.le_refl _
theorem Wk.rngC {K : PySem.W.Frag} {ts : List Tm} {lo c : Int} {n : Nat} : Wk fr Γ K fr (Itc lo c n) ts [] (rngC lo c n) [] := by
  have len : (Vw.rngC lo c n).length = n := by simp [Vw.rngC]
  refine Wk.plain (fun i H h => ?_) fun H => ?_
  · rw [len] at h
    refine ⟨h, fun x H' y => ⟨y.1, lo + (i : Nat) * c, ?_, y.2⟩⟩
    simp [Vw.rngC]
  · show n ≤ _
    rw [len]
    exact Nat.le_refl _
theorem star1 {a : Expr} {env : Env} (h : noStar a = true) : starEach [a] env = [(false, eval a env)] := by
  rw [star_cons h]
  rfl
theorem star2 {a b : Expr} {env : Env} (h : noStar a = true) (h2 : noStar b = true) : starEach [a, b] env = [(false, eval a env), (false, eval b env)] := by
  rw [star_cons h, star1 h2]
theorem inR_of {i : Int} (h : inR i = true) : -(2 ^ 62) ≤ i ∧ i < 2 ^ 62 := of_decide_eq_true h
theorem it_r1 {tg a : Expr} {ea : E} {p : Pos} (hg : Gl X "range") (hm : X.mg "range" = none) (ha : PE X a (tE Φ fr X.K Γ .fro ea)) (hs : noStar a = true) : PI X tg (.Call (.Name "range" p) [a] [] pos) (tIt Φ fr Γ X.K (.r1 ea)) := by
  refine PI_mono (pi_range1 hg hm (pa_cons ha pa_nil (star_cons hs)) (star1 hs)) fun σ H R h => ?_
  obtain ⟨ρ, ts, r, sr, he, q⟩ := h
  obtain ⟨ra, e1, he⟩ := bind_inv he
  refine ⟨ρ, ts, ra, sr, e1, fun v H1 s1 => ?_⟩
  obtain ⟨G, F1, F2, y⟩ := id s1
  have rp := y.last1 rfl
  clear e1
  obtain ⟨d, ρ1⟩ := ra
  cases d with
  | int j =>
    cases rp
    have he : (if inR j = true then some (rngD 0 j.toNat, ρ1, []) else none) = some r := he
    split at he
    · rename_i c
      cases he
      refine ⟨j, rfl, (inR_of c).1, (inR_of c).2, q _ _ [] fr ?_ Wk.rng⟩
      rw [List.append_nil]
      exact s1.drop
    · cases he
  | _ => cases he
theorem it_r2 {tg a b : Expr} {ea eb : E} {p : Pos} (hg : Gl X "range") (hm : X.mg "range" = none) (ha : PE X a (tE Φ fr X.K Γ .fro ea)) (hb : PE X b (tE Φ fr X.K Γ .fro eb)) (hs : noStar a = true) (hs2 : noStar b = true) : PI X tg (.Call (.Name "range" p) [a, b] [] pos) (tIt Φ fr Γ X.K (.r2 ea eb)) := by
  refine PI_mono (pi_range2 hg hm (pa_cons ha (pa_cons hb pa_nil (star_cons hs2)) (star_cons hs)) (star2 hs hs2) (star1 hs2)) fun σ H R h => ?_
  obtain ⟨ρ, ts, r, sr, he, q⟩ := h
  obtain ⟨ra, e1, he⟩ := bind_inv he
  obtain ⟨rb, e2, he⟩ := bind_inv he
  refine ⟨ρ, ts, ra, sr, e1, fun v H1 s1 => ⟨ra.2, _, rb, s1, e2, fun u H2 s2 => ?_⟩⟩
  obtain ⟨G, F1, F2, y⟩ := id s2
  have rp := y.last2 rfl rfl
  clear e1 e2
  obtain ⟨d1, ρ1⟩ := ra
  obtain ⟨d2, ρ2⟩ := rb
  cases d1 with
  | int i =>
    cases d2 with
    | int j =>
      obtain ⟨r1, r2⟩ := rp
      cases r1
      cases r2
      have he : (if inR i = true ∧ inR j = true then some (rngD i (j - i).toNat, ρ2, []) else none) = some r := he
      split at he
      · rename_i c
        cases he
        refine ⟨i, j, rfl, ⟨(inR_of c.1).1, (inR_of c.1).2, (inR_of c.2).1, (inR_of c.2).2⟩, q _ _ [] fr ?_ Wk.rng⟩
        rw [List.append_nil]
        exact s2.drop.drop
      · cases he
    | _ => cases he
  | _ => cases he
theorem it_r3 {tg a b e : Expr} {ea eb ee : E} {p : Pos} (hg : Gl X "range") (hm : X.mg "range" = none) (ha : PE X a (tE Φ fr X.K Γ .fro ea)) (hb : PE X b (tE Φ fr X.K Γ .fro eb)) (hc : PE X e (tE Φ fr X.K Γ .fro ee)) (hs : noStar a = true) (hs2 : noStar b = true) (hs3 : noStar e = true) : PI X tg (.Call (.Name "range" p) [a, b, e] [] pos) (tIt Φ fr Γ X.K (.r3 ea eb ee)) := by
  refine PI_mono (pi_range3 hg hm (pa_cons ha (pa_cons hb (pa_cons hc pa_nil (star_cons hs3)) (star_cons hs2)) (star_cons hs)) (star_cons hs) (plain_cons hs2 (plain_cons hs3 rfl))) fun σ H R h => ?_
  obtain ⟨ρ, ts, r, sr, he, q⟩ := h
  obtain ⟨ra, e1, he⟩ := bind_inv he
  obtain ⟨rb, e2, he⟩ := bind_inv he
  obtain ⟨rc, e3, he⟩ := bind_inv he
  refine ⟨ρ, ts, ra, sr, e1, fun v H1 s1 => ⟨ra.2, _, rb, s1, e2, fun u H2 s2 => ⟨rb.2, _, rc, s2, e3, fun u3 H3 s3 => ?_⟩⟩⟩
  obtain ⟨G, F1, F2, y⟩ := id s3
  have rp := y.last3 rfl rfl rfl
  clear e1 e2 e3
  obtain ⟨d1, ρ1⟩ := ra
  obtain ⟨d2, ρ2⟩ := rb
  obtain ⟨d3, ρ3⟩ := rc
  cases d1 with
  | int i =>
    cases d2 with
    | int j =>
      cases d3 with
      | int c =>
        obtain ⟨r1, r2, r3⟩ := rp
        cases r1
        cases r2
        cases r3
        have he : (if inR i = true ∧ inR j = true ∧ c = -1 then some (rngC i c (i - j).toNat, ρ3, []) else none) = some r := he
        split at he
        · rename_i cc
          cases he
          obtain ⟨c1, c2, rfl⟩ := cc
          refine ⟨i, j, -1, (i - j).toNat, rfl, RgC.neg (inR_of c1).1 (inR_of c1).2 (inR_of c2).1 (inR_of c2).2, q _ _ [] fr ?_ Wk.rngC⟩
          rw [List.append_nil]
          exact s3.drop.drop.drop
        · cases he
      | _ => cases he
    | _ => cases he
  | _ => cases he
end
end Vw
/-! enumerate of a tuple, as a walk. -/
namespace Vw
open PySem PySem.Spec PyProof.Rows L2
theorem meets_en_newB {v : Value} {o : Obj} {H : Heap → Prop} (B : Begins v o H) :
    Meets (Builtin.«enumerate.__new__» ⟨[.type "enumerate", v], []⟩) (fun _ R s => H s.heap ∧
      R (.ok (.ret (.ref (s.heap.push o).objs.size))) { s with heap := (s.heap.push o).push { cls := .type "enumerate", data := .fields #[.none, .bool false, .ref s.heap.objs.size, rawInt 0, .none, .none] } }) :=
  .of_wp fun prog w A R s h => by
    obtain ⟨hp, g, d, tk, os⟩ := s; obtain ⟨h1, h⟩ := h
    have hsub := sub_enumerate
    have q1 : ∀ {A' : Around} {E : Value → Shared → Prop} {Q : Value → Shared → Prop}, Q (.ref hp.objs.size) ⟨hp.push o, g, d, tk, os⟩ → wpAny (model prog w) A' (pyIter v) Q E ⟨hp, g, d, tk, os⟩ :=
      fun q => B.iter prog w _ _ ⟨hp, g, d, tk, os⟩ _ h1 q
    wp_walk using q1
    refine wpAny_stack_any fun st => wpAny_pure ?_
    split
    · rename_i c _ _ _ _ _
      cases (c == Value.type "enumerate")
      · wp_walk using q1
        exact ⟨_, rfl, h⟩
      · wp_walk using q1
        exact ⟨_, rfl, h⟩
    · wp_walk using q1
      exact ⟨_, rfl, h⟩
section
variable {prog : Program} {w : World} {A : Around} {E : Value → Shared → Prop} {s : Shared}
theorem en_begins {v : Value} {o : Obj} {H : Heap → Prop} {Q : Value → Shared → Prop} (B : Begins v o H) (h1 : H s.heap)
    (h : ∀ h', IsEnum h' (s.heap.objs.size + 1) s.heap.objs.size 0 .none → h'.get? s.heap.objs.size = some o → h'.objs.size = s.heap.objs.size + 2 →
      (∀ b o, s.heap.get? b = some o → h'.get? b = some o) → Q (.ref (s.heap.objs.size + 1)) { s with heap := h' }) :
    wpAny (model prog w) A (call (.type "enumerate") [v]) Q E s := by
  refine callType_new F.called_enumerate (by decide) (F.typeCall_enumerate_1 _) (F.newCall_enumerate_1 _) (fun obj => F.args_object_init_2 obj _) F.entry_enumerate_new
    (meets_en_newB B) ⟨h1, ?_⟩
  have hz : (s.heap.push o).objs.size = s.heap.objs.size + 1 := Heap.size_push ..
  show _ ∧ _
  rw [hz]
  have he : IsEnum ((s.heap.push o).push { cls := .type "enumerate", data := .fields #[.none, .bool false, .ref s.heap.objs.size, rawInt 0, .none, .none] }) (s.heap.objs.size + 1) s.heap.objs.size 0 .none := by
    have := Heap.get?_push_size (s.heap.push o) (o := { cls := .type "enumerate", data := .fields #[.none, .bool false, .ref s.heap.objs.size, rawInt 0, .none, .none] }) rfl
    rw [hz] at this; exact this
  refine ⟨⟨_, he, rfl⟩, h _ he (Heap.get?_push_of_some _ (Heap.get?_push_size _ B.free)) (by rw [Heap.size_push, hz]) fun b o x => Heap.get?_push_of_some _ (Heap.get?_push_of_some _ x)⟩
end
/-- the tuple at a as it stands at each turn, each item in a new pair -/
def IteT (K : PySem.W.Frag) (a : Addr) : L2.It :=
  ⟨fun i H => ∃ (xs : List V) (x : V), SqT K H a xs ∧ xs[i]? = some x, fun i H v H' => ∃ T x, v = .ref T ∧ H T = none ∧ H' = upd H T (.tup [.int (i : Nat), x]) ∧ ∀ xs, SqT K H a xs → xs[i]? = some x, fun i H => ∃ xs : List V, SqT K H a xs ∧ xs.length = i⟩
theorem turn_enT {P : Program} {w : World} {K : PySem.W.Frag} {elts : List Expr} {kk : Nat} {tpos : Pos} (a e it : Addr) (hne : e ≠ it) (hai : a ≠ it) (hae : e ≠ a) :
    Turn P w K (.Tuple elts kk tpos) (IteT K a) [e, it] e (fun i h => (∃ old, IsEnum h e it ((i : Nat) : Int) old) ∧ h.IsTupleIter it a i) where
  mem := by simp
  obj := fun i h st b hb => by
    obtain ⟨⟨old, he⟩, ⟨o, ho, hc, hd⟩⟩ := st
    have e' : b = e ∨ b = it := by simpa using hb
    rcases e' with z | z
    · rw [z]; exact ⟨_, he, fun v q => nomatch q⟩
    · rw [z]; exact ⟨o, ho, fun v q => by rw [hd] at q; cases q⟩
  keep := fun i h h' st k => let ⟨⟨old, he⟩, hi⟩ := st; ⟨⟨old, k e (by simp) _ he⟩, hi.at fun o q => k it (by simp) o q⟩
  item := by
    intro X hP hw hK hc i pins s σ H E I hf st hg
    subst hP hw hK
    obtain ⟨⟨old, he⟩, hit⟩ := st
    obtain ⟨xs, x, hq, hx⟩ := hg
    obtain ⟨its, rv, p, hz⟩ := I.tuple hq
    obtain ⟨u, hu, ru⟩ := rv.get hx
    have hel : e < s.heap.objs.size := Heap.lt_size he
    have hil : it < s.heap.objs.size := by obtain ⟨_, q, _⟩ := hit; exact Heap.lt_size q
    have hlt : i < its.toArray.size := by
      have := (List.getElem?_eq_some_iff.mp hu).1
      simpa using this
    refine wpAny_pyNext_enum_itemD (Draws.tuple (prog := X.prog) (w := X.w) (A := X.A.in1) (show X.A.in1.handled = none from I.ok.hd hc) it a hai its.toArray) he ⟨hit, p⟩ hlt hne (by simp [hne, hae]) fun x2 h' tk hx2 ho hit' hT hsz hk => ?_
    have ex : x2 = u := by
      have q : its.toArray[i]? = some u := by simpa using hu
      rw [q] at hx2
      exact (Option.some.inj hx2).symm
    subst ex
    refine ⟨_, rfl, wpAny_letOwnedTupleGo_enum (s := { s with heap := h', toks := tk + 1 }) ho fun h'' he' sb => ?_⟩
    have hT2 : h''.get? s.heap.objs.size = some { cls := .type "tuple", data := .seq #[.int i tk, x2] } := (sb.2 _ (Nat.ne_of_gt hel)).trans hT
    have new : ObjOk X.prog X.w (upd H s.heap.objs.size (.tup [.int (i : Nat), x])) h'' s.heap.objs.size (.tup [.int (i : Nat), x]) :=
      ⟨by show 2 ≤ sizeLine; decide, [.int i tk, x2], .cons ⟨_, rfl⟩ (.cons ru .nil), ⟨_, hT2, rfl, _, rfl⟩⟩
    have I1 : Inv X pins σ (upd H s.heap.objs.size (.tup [.int (i : Nat), x])) { s with heap := h'', toks := tk + 1 } :=
      I.turnedNew (ch := [e, it]) (fun b ob hb q => (sb.2 b (fun z => hb (by simp [z]))).trans (hk b ob (fun z => hb (by simp [z])) (fun z => hb (by simp [z])) q)) hf (Nat.le_refl _) new
    refine ⟨.ref s.heap.objs.size, _, I1, rfl, ⟨_, x, rfl, I.hok.fresh (Nat.le_refl _), rfl, fun ys hy => by rw [I.tuple_inj hy hq]; exact hx⟩, ⟨⟨x2, ?_⟩, hit'.1.at fun o q => (sb.2 it (Ne.symm hne)).trans q⟩, fun b hb => ?_⟩
    · have e1 : ((i + 1 : Nat) : Int) = (i : Int) + 1 := by omega
      rw [e1]; exact he'
    · have hb' : b < s.heap.objs.size := by
        have e' : b = e ∨ b = it := by simpa using hb
        rcases e' with z | z
        · rw [z]; exact hel
        · rw [z]; exact hil
      rw [upd_ne (Nat.ne_of_lt hb')]
      exact (hf b hb).1
  done := by
    intro X hP hw hK hc i pins s σ H E I hf st hg
    subst hP hw hK
    obtain ⟨⟨old, he⟩, hit⟩ := st
    obtain ⟨xs, hq, hx⟩ := hg
    obtain ⟨its, rv, p, hz⟩ := I.tuple hq
    obtain ⟨f0, f1, f2, f3, f4, f5⟩ := hf it (by simp)
    have hl : i = its.toArray.size := by
      have := rv.length
      simp
      omega
    subst hl
    exact wpAny_pyNext_enum_endD (Draws.tuple (prog := X.prog) (w := X.w) (A := X.A.in1) (show X.A.in1.handled = none from I.ok.hd hc) it a hai its.toArray) he ⟨hit, p⟩ fun h' eb => ⟨rfl, I.turned (t' := s.toks) (fun b o hb q => eb b o hb q) f0 f1 f3 f4 f5⟩
  self := fun A i s Q E st h => let ⟨⟨_, he⟩, _⟩ := st; wpAny_pyIter_enum he h
def iEnumT (K : PySem.W.Frag) (ta : TA) : TI := fun σ H R => ta σ H fun vs H1 => ∃ a xs, vs = [.ref a] ∧ SqT K H1 a xs ∧ R (IteT K a) H1
theorem pi_enumT {X : Cx} {e : Expr} {ta : TA} {p pos tpos : Pos} {elts : List Expr} {kk : Nat} (hg : Gl X "enumerate") (hm : X.mg "enumerate" = none) (ha : PA X [e] ta) (hs : starEach [e] X.env = [(false, eval e X.env)]) :
    PI X (.Tuple elts kk tpos) (.Call (.Name "enumerate" p) [e] [] pos) (iEnumT X.K ta) := by
  refine ⟨fun pins s σ H R I h => ?_⟩
  refine Call_ (ld_blt I hg hm boot_enumerate (PyProof.Rows.callWith_type1 (thn (ha.run pos pins s σ H _ I h) fun us s1 ⟨vs, H1, I1, r1, q1⟩ => ?_) hs rfl))
  obtain ⟨a, xs, ex, hq, q⟩ := q1
  subst ex
  cases r1 with
  | cons r rr =>
    cases rr
    cases r
    obtain ⟨its, rv, p', hz⟩ := I1.tuple hq
    have hal : a < s1.heap.objs.size := by obtain ⟨o, q, _⟩ := p'; exact Heap.lt_size q
    refine en_begins (begins_tuple a its.toArray) p' fun h' he hit hsz hk => wpAny_pyIter_enum he ?_
    have I2 : Inv X pins σ H1 { s1 with heap := h' } := I1.kept (t' := s1.toks) hk
    refine ⟨s1.heap.objs.size + 1, [s1.heap.objs.size + 1, s1.heap.objs.size], _, _, H1, rfl, I2, turn_enT a (s1.heap.objs.size + 1) s1.heap.objs.size (Nat.succ_ne_self _) (Nat.ne_of_lt hal) (Nat.ne_of_gt (Nat.lt_succ_of_lt hal)), ⟨⟨.none, he⟩, ⟨_, hit, rfl, rfl⟩⟩, fun b hb => ?_, q⟩
    have e' : b = s1.heap.objs.size + 1 ∨ b = s1.heap.objs.size := by simpa using hb
    have hle : s1.heap.objs.size ≤ b := by
      rcases e' with z | z
      · rw [z]; exact Nat.le_add_right _ _
      · rw [z]; exact Nat.le_refl _
    exact I1.fpOk hle (I1.hok.fresh hle)
end Vw
namespace Vw
open PySem PySem.Spec PyProof.Rows L2
abbrev Fr.pin (fr : Fr) (i : Nat) (v : V) : Fr := { fr with pins := (i, v) :: fr.pins }
section
variable {K : PySem.W.Frag} {G H : Hp} {F1 F2 : List Addr} {Γ : List Ty} {ρ : Rho} {σ : Sg} {ts us : List Tm}
theorem SRd.pinned {fr : Fr} (x : SRd fr K G F1 F2 Γ ρ σ ts H) {i : Nat} {v : V} (h : σ[i]? = some (some v)) : SRd (fr.pin i v) K G F1 F2 Γ ρ σ ts H :=
  ⟨x.sub, x.sl, x.tm, x.nd, x.out, x.ok.keep, x.ok.mono, x.ok.sG, x.ok.nG, fun p hp => by
    rcases List.mem_cons.mp hp with rfl | hp
    · exact h
    · exact x.ok.pin p hp⟩
theorem SRd.unpin {fr : Fr} {i : Nat} {v : V} (x : SRd (fr.pin i v) K G F1 F2 Γ ρ σ ts H) : SRd fr K G F1 F2 Γ ρ σ ts H :=
  ⟨x.sub, x.sl, x.tm, x.nd, x.out, x.ok.keep, x.ok.mono, x.ok.sG, x.ok.nG, fun p hp => x.ok.pin p (List.mem_cons_of_mem _ hp)⟩
theorem SRd.midOwn {fr : Fr} {ts' : List Tm} {y : Tm} (x : SRd fr K G F1 F2 Γ ρ σ (ts ++ [y] ++ ts') H) : ∃ F, Own K G H y.t y.d y.v F := by
  obtain ⟨_, _, _, a, _⟩ := x.tm.app
  obtain ⟨_, F4, _, _, b⟩ := a.app
  exact ⟨F4, b.one⟩
theorem Own.sn {t : Ty} {d : D} {v : V} {F : List Addr} (h : Own K G H t d v F) (c : t = .fro ∨ t = .lst .fro) : Sn K G H d v := by
  rcases c with rfl | rfl
  · exact .inl h.2
  · rcases h with ⟨_, _, q⟩ | ⟨ds, a, vs, F', q1, q2, q3, q4, q5⟩
    · exact .inl q
    · exact .inr ⟨ds, a, vs, q1, q2, q4, q5.fro.2⟩
end
section
variable {X : Cx} {Φ : Cf} {fr : Fr} {Γ : List Ty} {w : Ty} {pos : Pos}
/-- what is walked stands among what is held -/
theorem Wk.one {K : PySem.W.Frag} {fr' : Fr} {J : It} {ts : List Tm} {t : Ty} {d : D} {v : V} {ds : List D} {sv : List (Nat × D)} (ht : t = .fro ∨ t = .lst .fro)
    (go : ∀ G F1 F2 ρ σ ts' H i (h : i < ds.length), SRd fr' K G F1 F2 Γ ρ σ ts' H → Sn K G H d v → J.go i H ∧ ∀ x H', J.yld i H x H' → SR fr' K Γ ρ σ (ts' ++ [⟨.fro, ds[i], x⟩]) H')
    (stop : ∀ G H, Same G H → Sn K G H d v → J.stop ds.length H)
    (h : (t = .fro ∧ sv = [] ∧ fr' = fr) ∨ ∃ i, t = .lst .fro ∧ Γ[i]? = some (.lst .fro) ∧ sv = [(i, d)] ∧ fr' = fr.pin i v) : Wk fr Γ K fr' J ts [⟨t, d, v⟩] ds sv where
  go := fun i ρ σ ts' H h s => by
    obtain ⟨G, F1, F2, y⟩ := s
    obtain ⟨F, ow⟩ := y.midOwn
    exact go G F1 F2 ρ σ _ H i h y (ow.sn ht)
  stop := fun ρ σ ts' H s => by
    obtain ⟨G, F1, F2, y⟩ := s
    obtain ⟨F, ow⟩ := y.midOwn
    exact stop G H y.sub (ow.sn ht)
  rest := fun ρ ρ' σ ts0 H s e => by
    rcases h with ⟨rfl, rfl, rfl⟩ | ⟨i, rfl, hg, rfl, rfl⟩
    · cases e
      exact s.drop
    · obtain ⟨ρ1, e1, e⟩ := bind_inv e
      cases e1
      obtain ⟨G, F1, F2, y⟩ := s
      have hv := y.ok.pin (i, v) List.mem_cons_self
      split at e
      · rename_i e0
        cases e
        obtain ⟨F3, F4, z⟩ := y.putBack e0 hg hv
        exact ⟨_, _, _, z.unpin⟩
      · cases e
  weak := fun ρ σ ts0 H s => by
    rcases h with ⟨rfl, rfl, rfl⟩ | ⟨i, rfl, hg, rfl, rfl⟩
    · exact s
    · obtain ⟨G, F1, F2, y⟩ := s
      exact ⟨_, _, _, y.unpin⟩
  pins := fun p hp => by
    rcases h with ⟨rfl, rfl, rfl⟩ | ⟨i, rfl, hg, rfl, rfl⟩
    · exact .inl hp
    · rcases List.mem_cons.mp hp with rfl | hp
      · exact .inr (by simp)
      · exact .inl hp
/-- how a walked operand is held -/
def HoldW (Γ : List Ty) (fr : Fr) : O → V → D → List Tm → Fr → List (Nat × D) → Prop
  | .e _, v, d, us, fr', sv => us = [⟨.fro, d, v⟩] ∧ fr' = fr ∧ sv = []
  | .s i, v, d, us, fr', sv => us = [⟨.lst .fro, d, v⟩] ∧ fr' = fr.pin i v ∧ sv = [(i, d)] ∧ Γ[i]? = some (.lst .fro)
variable (Φ fr Γ) in
def tW (K : PySem.W.Frag) (o : O) : TE := fun σ H Q => ∃ ρ ts r, SR fr K Γ ρ σ ts H ∧ evW Φ o ρ = some r ∧ ∀ v H' us fr', SR fr' K Γ r.2.1 σ (ts ++ us) H' → HoldW Γ fr o v r.1 us fr' r.2.2 → Q v H'
theorem w_e {e : Expr} {a : E} (h : PE X e (tE Φ fr X.K Γ .fro a)) : PE X e (tW Φ fr Γ X.K (.e a)) := by
  refine PE_mono h fun σ H Q h => ?_
  obtain ⟨ρ, ts, r, sr, he, q⟩ := h
  obtain ⟨ra, e1, rfl⟩ := map_inv he
  exact ⟨ρ, ts, ra, sr, e1, fun v H' s' => q v H' _ fr s' ⟨rfl, rfl, rfl⟩⟩
theorem w_s {i : Nat} {x : Str} (hN : X.N[i]? = some x) (hv : Vis X.env.scope x) (hw : Γ[i]? = some (.lst .fro)) (hd : (x == ("__debug__" : Str)) = false) (hcd : (x == ("__classdict__" : Str)) = false) :
    PE X (.Name x pos) (tW Φ fr Γ X.K (.s i)) := by
  refine PE_mono (pe_var hN hv hd hcd) fun σ H Q h => ?_
  obtain ⟨ρ, ts, r, ⟨G, F1, F2, sr⟩, he, q⟩ := h
  obtain ⟨d, e1, rfl⟩ := map_inv he
  obtain ⟨t', v, F3, F4, e2, e3, y⟩ := sr.takeOut e1
  rw [hw] at e2
  cases e2
  exact ⟨v, e3, q v H _ (fr.pin i v) ⟨_, _, _, y.pinned e3⟩ ⟨rfl, rfl, rfl, hw⟩⟩
theorem HoldW.or {o : O} {v : V} {d : D} {us : List Tm} {fr' : Fr} {sv : List (Nat × D)} (h : HoldW Γ fr o v d us fr' sv) : ∃ t, us = [⟨t, d, v⟩] ∧ (t = .fro ∨ t = .lst .fro) ∧ ((t = .fro ∧ sv = [] ∧ fr' = fr) ∨ ∃ i, t = .lst .fro ∧ Γ[i]? = some (.lst .fro) ∧ sv = [(i, d)] ∧ fr' = fr.pin i v) := by
  cases o with
  | e a => exact ⟨.fro, h.1, .inl rfl, .inl ⟨rfl, h.2.2, h.2.1⟩⟩
  | s i => exact ⟨.lst .fro, h.1, .inr rfl, .inr ⟨i, rfl, h.2.2.2, h.2.2.1, h.2.1⟩⟩
theorem it_o {tg a : Expr} {oa : O} (ha : PE X a (tW Φ fr Γ X.K oa)) : PI X tg a (tIt Φ fr Γ X.K (.o oa)) := by
  refine PI_mono (PI_or (pi_list ha) (pi_tup ha)) fun σ H R h => ?_
  obtain ⟨ρ, ts, r, sr, he, q⟩ := h
  obtain ⟨ra, e1, he⟩ := bind_inv he
  obtain ⟨l, e2, rfl⟩ := map_inv he
  obtain ⟨d, ρ1, sv⟩ := ra
  cases d with
  | list l' =>
    cases e2
    refine .inl ⟨ρ, ts, _, sr, e1, fun v H1 us fr' s1 hd => ?_⟩
    obtain ⟨t, rfl, c1, c2⟩ := hd.or
    obtain ⟨G, F1, F2, y⟩ := id s1
    have y0 : SRd fr' X.K G F1 F2 Γ ρ1 σ (ts ++ [⟨t, .list l, v⟩] ++ []) H1 := by rw [List.append_nil]; exact y
    obtain ⟨F, ow⟩ := y0.midOwn
    obtain ⟨a, vs, e3, h1, h2⟩ := (ow.sn c1).list y.sub
    have e3 : v = .ref a := e3
    subst e3
    refine ⟨a, rfl, ⟨vs, .inl h1⟩, q _ _ _ fr' s1 (Wk.one c1 (fun G F1 F2 ρ σ ts' H i hi s sn => ?_) (fun G H sG sn => ?_) c2)⟩
    · obtain ⟨b, ws, e4, g1, g2⟩ := sn.list s.sub
      cases e4
      obtain ⟨x, e5, rx⟩ := g2.get (List.getElem?_eq_getElem hi)
      refine ⟨⟨ws, x, .inl g1, e5⟩, fun x' H' yl => ?_⟩
      obtain ⟨rfl, yl⟩ := yl
      have := yl ws (.inl g1)
      rw [e5] at this
      cases this
      exact ⟨_, _, _, s.push rx⟩
    · obtain ⟨b, ws, e4, g1, g2⟩ := sn.list sG
      cases e4
      exact ⟨ws, .inl g1, by rw [g2.len]; exact Nat.le_refl _⟩
  | tuple l' =>
    cases e2
    refine .inr ⟨ρ, ts, _, sr, e1, fun v H1 us fr' s1 hd => ?_⟩
    obtain ⟨t, rfl, c1, c2⟩ := hd.or
    obtain ⟨G, F1, F2, y⟩ := id s1
    have y0 : SRd fr' X.K G F1 F2 Γ ρ1 σ (ts ++ [⟨t, .tuple l, v⟩] ++ []) H1 := by rw [List.append_nil]; exact y
    obtain ⟨F, ow⟩ := y0.midOwn
    obtain ⟨a, vs, e3, h1, h2⟩ := (ow.sn c1).tuple y.sub
    have e3 : v = .ref a := e3
    subst e3
    refine ⟨a, rfl, ⟨vs, h1⟩, q _ _ _ fr' s1 (Wk.one c1 (fun G F1 F2 ρ σ ts' H i hi s sn => ?_) (fun G H sG sn => ?_) c2)⟩
    · obtain ⟨b, ws, e4, g1, g2⟩ := sn.tuple s.sub
      cases e4
      obtain ⟨x, e5, rx⟩ := g2.get (List.getElem?_eq_getElem hi)
      refine ⟨⟨ws, x, g1, e5⟩, fun x' H' yl => ?_⟩
      obtain ⟨rfl, yl⟩ := yl
      have := yl ws g1
      rw [e5] at this
      cases this
      exact ⟨_, _, _, s.push rx⟩
    · obtain ⟨b, ws, e4, g1, g2⟩ := sn.tuple sG
      cases e4
      exact ⟨ws, g1, by rw [g2.len]; exact Nat.le_refl _⟩
  | _ => cases e2
theorem enumD_len (l : List D) : (enumD l).length = l.length := by simp [enumD]
theorem enumD_at {l : List D} {i : Nat} (h : i < l.length) : (enumD l)[i]'(by rw [enumD_len]; exact h) = .tuple [.int (i : Nat), l[i]] := by
  simp [enumD, List.getD, List.getElem?_eq_getElem h]
theorem it_en {a : Expr} {oa : O} {p tpos : Pos} {elts : List Expr} {kk : Nat} (hg : Gl X "enumerate") (hm : X.mg "enumerate" = none) (ha : PE X a (tW Φ fr Γ X.K oa)) (hs : noStar a = true) : PI X (.Tuple elts kk tpos) (.Call (.Name "enumerate" p) [a] [] pos) (tIt Φ fr Γ X.K (.en oa)) := by
  have hA := pa_cons ha pa_nil (star_cons (env := X.env) hs)
  refine PI_mono (PI_or (pi_enum hg hm hA (star1 hs)) (pi_enumT hg hm hA (star1 hs))) fun σ H R h => ?_
  obtain ⟨ρ, ts, r, sr, he, q⟩ := h
  obtain ⟨ra, e1, he⟩ := bind_inv he
  obtain ⟨l, e2, rfl⟩ := map_inv he
  obtain ⟨d, ρ1, sv⟩ := ra
  cases d with
  | list l' =>
    cases e2
    refine .inl ⟨ρ, ts, _, sr, e1, fun v H1 us fr' s1 hd => ?_⟩
    obtain ⟨t, rfl, c1, c2⟩ := hd.or
    obtain ⟨G, F1, F2, y⟩ := id s1
    have y0 : SRd fr' X.K G F1 F2 Γ ρ1 σ (ts ++ [⟨t, .list l, v⟩] ++ []) H1 := by rw [List.append_nil]; exact y
    obtain ⟨F, ow⟩ := y0.midOwn
    obtain ⟨a, vs, e3, h1, h2⟩ := (ow.sn c1).list y.sub
    have e3 : v = .ref a := e3
    subst e3
    refine ⟨a, vs, rfl, .inl h1, q _ _ _ fr' s1 (Wk.one c1 (fun G F1 F2 ρ σ ts' H i hi s sn => ?_) (fun G H sG sn => ?_) c2)⟩
    · obtain ⟨b, ws, e4, g1, g2⟩ := sn.list s.sub
      cases e4
      have hi2 : i < l.length := by rw [← enumD_len]; exact hi
      obtain ⟨x, e5, rx⟩ := g2.get (List.getElem?_eq_getElem hi2)
      refine ⟨⟨ws, x, .inl g1, e5⟩, fun x' H' yl => ?_⟩
      obtain ⟨T, x2, rfl, hT, rfl, yl⟩ := yl
      have := yl ws (.inl g1)
      rw [e5] at this
      cases this
      rw [enumD_at hi2]
      exact s.newTup (.cons (.int _) (.cons rx .nil)) hT
    · obtain ⟨b, ws, e4, g1, g2⟩ := sn.list sG
      cases e4
      exact ⟨ws, .inl g1, by rw [g2.len, enumD_len]; exact Nat.le_refl _⟩
  | tuple l' =>
    cases e2
    refine .inr ⟨ρ, ts, _, sr, e1, fun v H1 us fr' s1 hd => ?_⟩
    obtain ⟨t, rfl, c1, c2⟩ := hd.or
    obtain ⟨G, F1, F2, y⟩ := id s1
    have y0 : SRd fr' X.K G F1 F2 Γ ρ1 σ (ts ++ [⟨t, .tuple l, v⟩] ++ []) H1 := by rw [List.append_nil]; exact y
    obtain ⟨F, ow⟩ := y0.midOwn
    obtain ⟨a, vs, e3, h1, h2⟩ := (ow.sn c1).tuple y.sub
    have e3 : v = .ref a := e3
    subst e3
    refine ⟨a, vs, rfl, h1, q _ _ _ fr' s1 (Wk.one c1 (fun G F1 F2 ρ σ ts' H i hi s sn => ?_) (fun G H sG sn => ?_) c2)⟩
    · obtain ⟨b, ws, e4, g1, g2⟩ := sn.tuple s.sub
      cases e4
      have hi2 : i < l.length := by rw [← enumD_len]; exact hi
      obtain ⟨x, e5, rx⟩ := g2.get (List.getElem?_eq_getElem hi2)
      refine ⟨⟨ws, x, g1, e5⟩, fun x' H' yl => ?_⟩
      obtain ⟨T, x2, rfl, hT, rfl, yl⟩ := yl
      have := yl ws g1
      rw [e5] at this
      cases this
      rw [enumD_at hi2]
      exact s.newTup (.cons (.int _) (.cons rx .nil)) hT
    · obtain ⟨b, ws, e4, g1, g2⟩ := sn.tuple sG
      cases e4
      exact ⟨ws, g1, by rw [g2.len, enumD_len]⟩
  | _ => cases e2
theorem zipD_len (l m : List D) : (zipD l m).length = min l.length m.length := by simp [zipD]
theorem zipD_at {l m : List D} {i : Nat} (h : i < l.length) (h2 : i < m.length) : (zipD l m)[i]'(by rw [zipD_len]; omega) = .tuple [l[i], m[i]] := by
  simp [zipD, List.getD, List.getElem?_eq_getElem h, List.getElem?_eq_getElem h2]
theorem SRd.mid2 {K : PySem.W.Frag} {G H : Hp} {F1 F2 : List Addr} {ρ : Rho} {σ : Sg} {ts ts' : List Tm} {y z : Tm} (x : SRd fr K G F1 F2 Γ ρ σ (ts ++ [y, z] ++ ts') H) (h1 : y.t = .fro) (h2 : z.t = .fro) : Rp K G y.v y.d ∧ Rp K G z.v z.d := by
  obtain ⟨_, _, _, a, _⟩ := x.tm.app
  obtain ⟨_, F4, _, _, b⟩ := a.app
  obtain ⟨_, _, _, p, q⟩ := b
  have q := q.one
  rw [h1] at p
  rw [h2] at q
  exact ⟨p.2, q.2⟩
theorem it_zp {a b : Expr} {ea eb : E} {p tpos : Pos} {elts : List Expr} {kk : Nat} (hg : Gl X "zip") (hm : X.mg "zip" = none) (ha : PE X a (tE Φ fr X.K Γ .fro ea)) (hb : PE X b (tE Φ fr X.K Γ .fro eb)) (hs : noStar a = true) (hs2 : noStar b = true) : PI X (.Tuple elts kk tpos) (.Call (.Name "zip" p) [a, b] [] pos) (tIt Φ fr Γ X.K (.zp ea eb)) := by
  refine PI_mono (RZ.pi_zipA hg hm (pa_cons ha (pa_cons hb pa_nil (star_cons hs2)) (star_cons hs)) (star_cons hs) (plain_cons hs2 rfl)) fun σ H R h => ?_
  obtain ⟨ρ, ts, r, sr, he, q⟩ := h
  obtain ⟨ra, e1, he⟩ := bind_inv he
  obtain ⟨rb, e2, he⟩ := bind_inv he
  refine ⟨ρ, ts, ra, sr, e1, fun v H1 s1 => ⟨ra.2, _, rb, s1, e2, fun u H2 s2 => ?_⟩⟩
  obtain ⟨G, F1, F2, y⟩ := id s2
  have rp := y.last2 rfl rfl
  clear e1 e2
  obtain ⟨d1, ρ1⟩ := ra
  obtain ⟨d2, ρ2⟩ := rb
  have s3 : SR fr X.K Γ ρ2 σ (ts ++ [⟨.fro, d1, v⟩, ⟨.fro, d2, u⟩]) H2 := by
    have := s2
    rw [List.append_assoc] at this
    exact this
  cases d1 with
  | list l =>
    cases d2 with
    | list m =>
      cases he
      obtain ⟨a, vs, e3, h1, h2⟩ := Sn.list y.sub (.inl rp.1)
      obtain ⟨b, ws, e4, g1, g2⟩ := Sn.list y.sub (.inl rp.2)
      have e3 : v = .ref a := e3
      have e4 : u = .ref b := e4
      subst e3 e4
      refine ⟨a, b, vs, ws, rfl, .inl ⟨.inl h1, .inl g1, q _ _ [⟨.fro, .list l, .ref a⟩, ⟨.fro, .list m, .ref b⟩] fr s3 ?_⟩⟩
      refine ⟨fun i ρ σ ts' H hi s => ?_, fun ρ σ ts' H s => ?_, fun ρ ρ' σ ts0 H s e => by cases e; exact s.drop, fun _ _ _ _ s => s, fun p hp => .inl hp⟩
      · obtain ⟨G, F1, F2, s⟩ := s
        obtain ⟨r1, r2⟩ := s.mid2 rfl rfl
        have hi2 : i < l.length ∧ i < m.length := by
          have := hi
          rw [zipD_len] at this
          omega
        obtain ⟨a', xs, e5, k1, k2⟩ := Sn.list s.sub (.inl r1)
        obtain ⟨b', ys, e6, k3, k4⟩ := Sn.list s.sub (.inl r2)
        cases e5
        cases e6
        obtain ⟨x, e7, rx⟩ := k2.get (List.getElem?_eq_getElem hi2.1)
        obtain ⟨z, e8, rz⟩ := k4.get (List.getElem?_eq_getElem hi2.2)
        refine ⟨⟨xs, ys, x, z, .inl k1, .inl k3, e7, e8⟩, fun x' H' yl => ?_⟩
        obtain ⟨T, x2, z2, rfl, hT, rfl, y1, y2⟩ := yl
        have q1 := y1 xs (.inl k1)
        have q2 := y2 ys (.inl k3)
        rw [e7] at q1
        rw [e8] at q2
        cases q1
        cases q2
        rw [zipD_at hi2.1 hi2.2]
        exact s.newTup (.cons rx (.cons rz .nil)) hT
      · obtain ⟨G, F1, F2, s⟩ := s
        obtain ⟨r1, r2⟩ := s.mid2 rfl rfl
        obtain ⟨a', xs, e5, k1, k2⟩ := Sn.list s.sub (.inl r1)
        obtain ⟨b', ys, e6, k3, k4⟩ := Sn.list s.sub (.inl r2)
        cases e5
        cases e6
        refine ⟨xs, ys, .inl k1, .inl k3, ?_⟩
        rw [zipD_len, k2.len, k4.len]
        omega
    | _ => cases he
  | tuple l =>
    cases d2 with
    | tuple m =>
      cases he
      obtain ⟨a, vs, e3, h1, h2⟩ := Sn.tuple y.sub (.inl rp.1)
      obtain ⟨b, ws, e4, g1, g2⟩ := Sn.tuple y.sub (.inl rp.2)
      have e3 : v = .ref a := e3
      have e4 : u = .ref b := e4
      subst e3 e4
      refine ⟨a, b, vs, ws, rfl, .inr ⟨h1, g1, q _ _ [⟨.fro, .tuple l, .ref a⟩, ⟨.fro, .tuple m, .ref b⟩] fr s3 ?_⟩⟩
      refine ⟨fun i ρ σ ts' H hi s => ?_, fun ρ σ ts' H s => ?_, fun ρ ρ' σ ts0 H s e => by cases e; exact s.drop, fun _ _ _ _ s => s, fun p hp => .inl hp⟩
      · obtain ⟨G, F1, F2, s⟩ := s
        obtain ⟨r1, r2⟩ := s.mid2 rfl rfl
        have hi2 : i < l.length ∧ i < m.length := by
          have := hi
          rw [zipD_len] at this
          omega
        obtain ⟨a', xs, e5, k1, k2⟩ := Sn.tuple s.sub (.inl r1)
        obtain ⟨b', ys, e6, k3, k4⟩ := Sn.tuple s.sub (.inl r2)
        cases e5
        cases e6
        obtain ⟨x, e7, rx⟩ := k2.get (List.getElem?_eq_getElem hi2.1)
        obtain ⟨z, e8, rz⟩ := k4.get (List.getElem?_eq_getElem hi2.2)
        refine ⟨⟨xs, ys, x, z, k1, k3, e7, e8⟩, fun x' H' yl => ?_⟩
        obtain ⟨T, x2, z2, rfl, hT, rfl, y1, y2⟩ := yl
        have q1 := y1 xs k1
        have q2 := y2 ys k3
        rw [e7] at q1
        rw [e8] at q2
        cases q1
        cases q2
        rw [zipD_at hi2.1 hi2.2]
        exact s.newTup (.cons rx (.cons rz .nil)) hT
      · obtain ⟨G, F1, F2, s⟩ := s
        obtain ⟨r1, r2⟩ := s.mid2 rfl rfl
        obtain ⟨a', xs, e5, k1, k2⟩ := Sn.tuple s.sub (.inl r1)
        obtain ⟨b', ys, e6, k3, k4⟩ := Sn.tuple s.sub (.inl r2)
        cases e5
        cases e6
        refine ⟨xs, ys, k1, k3, ?_⟩
        rw [zipD_len, k2.len, k4.len]
        omega
    | _ => cases he
  | _ => cases he
end
end Vw
namespace Vw
open PySem PySem.Spec PyProof.Rows L2
theorem AllF.snoc {P : D → V → List Addr → Prop} {d : D} {v : V} {F2 : List Addr} (p : P d v F2) : ∀ {ds : List D} {vs : List V} {F1 : List Addr}, AllF P ds vs F1 → AllF P (ds ++ [d]) (vs ++ [v]) (F1 ++ F2)
  | [], [], F1, h => by
    have h : F1 = [] := h
    subst h
    exact ⟨F2, [], by simp, p, rfl⟩
  | e :: ds, u :: vs, F1, ⟨F3, F4, ee, q, r⟩ => ⟨F3, F4 ++ F2, by rw [ee, List.append_assoc], q, AllF.snoc p r⟩
  | [], _ :: _, _, h => h.elim
  | _ :: _, [], _, h => h.elim
theorem SRd.accum {fr : Fr} {K : PySem.W.Frag} {G H : Hp} {F1 F2 : List Addr} {Γ : List Ty} {ρ : Rho} {σ : Sg} {ts : List Tm} {t : Ty} {acc : List D} {D0 : Addr} {y : D} {yv : V}
    (x : SRd fr K G F1 F2 Γ ρ σ (ts ++ [⟨.lst t, .list acc, .ref D0⟩] ++ [⟨t, y, yv⟩]) H) : ∃ av, H D0 = some (.lst av) ∧ av.length = acc.length ∧ SR fr K Γ ρ σ (ts ++ [⟨.lst t, .list (acc ++ [y]), .ref D0⟩]) (upd H D0 (.lst (av ++ [yv]))) := by
  obtain ⟨F34, F5, e, p34, q5⟩ := x.tm.app
  obtain ⟨F3, F4, e2, p3, q4⟩ := p34.app
  have o5 := q5.one
  rcases q4.one with ⟨s, _, _⟩ | ⟨ds, a, av, F', r1, r2, r3, r4, r5⟩
  · cases s
  · cases r1
    cases r2
    have e3 : F4 = D0 :: F' := r3
    refine ⟨av, r4, r5.len, G, F1, F3 ++ (D0 :: (F' ++ F5)), ?_⟩
    have nd := x.nd
    rw [e, e2, e3] at nd
    have pp : (F1 ++ (F3 ++ (D0 :: (F' ++ F5)))) = (F1 ++ (F3 ++ D0 :: F' ++ F5)) := by simp [List.append_assoc]
    have ndD : ∀ b ∈ F1 ++ F3, b ≠ D0 := fun b hb z => by
      subst z
      have nd2 : ((F1 ++ F3) ++ (b :: (F' ++ F5))).Nodup := by
        rw [← pp] at nd
        rw [List.append_assoc]
        exact nd
      exact (List.nodup_append.mp nd2).2.2 b hb b List.mem_cons_self rfl
    have nd3 : (D0 :: (F' ++ F5)).Nodup := by
      rw [← pp, ← List.append_assoc] at nd
      exact (List.nodup_append.mp nd).2.1
    have nD : ∀ b ∈ F' ++ F5, b ≠ D0 := fun b hb z => (List.nodup_cons.mp nd3).1 (z ▸ hb)
    have inF : ∀ b, b ∈ F1 ++ (F3 ++ (D0 :: (F' ++ F5))) → b ∈ F1 ++ F2 := fun b hb => by
      rw [e, e2, e3, ← pp]
      exact hb
    have Din : D0 ∈ F1 ++ F2 := inF D0 (by simp)
    have st : ∀ b ∈ F1 ++ F3, upd H D0 (.lst (av ++ [yv])) b = H b := fun b hb => upd_ne (ndD b hb)
    have st2 : ∀ b ∈ F' ++ F5, upd H D0 (.lst (av ++ [yv])) b = H b := fun b hb => upd_ne (nD b hb)
    refine ⟨fun b u eb => ?_, x.sl.stay (Same.refl G) (fun b hb => st b (List.mem_append_left _ hb)), ?_, by rw [pp]; exact nd, fun b hb => x.out b (inF b hb), ?_⟩
    · rw [upd_ne (ne_of_none eb (x.out D0 Din).1)]
      exact x.sub _ _ eb
    · refine (p3.stay (Same.refl G) (fun b hb => st b (List.mem_append_right _ hb))).of_app (TmF.of_one (.inr ⟨_, D0, _, F' ++ F5, rfl, rfl, rfl, upd_same, ?_⟩))
      refine AllF.snoc (o5.stay (Same.refl G) fun b hb => st2 b (List.mem_append_right _ hb)) (r5.mono fun d v F'' hF h => h.stay (Same.refl G) fun b hb => st2 b (List.mem_append_left _ (hF b hb)))
    · refine ⟨fun b u eb hF => ?_, fun b eb => ?_, x.ok.sG, x.ok.nG, x.ok.pin⟩
      · have hb : b ≠ D0 := fun z => by
          subst z
          rcases (x.out b Din).2 with h | h
          · exact hF h
          · rw [h] at eb
            cases eb
        rw [upd_ne hb]
        exact x.ok.keep b u eb hF
      · by_cases hb : b = D0
        · subst hb
          rw [upd_same] at eb
          cases eb
        · rw [upd_ne hb] at eb
          exact x.ok.mono b eb
def Pin (P : List Nat) (fr : Fr) : Prop := ∀ p ∈ fr.pins, p.1 ∈ P
def oB : O → List Nat
  | .e _ => []
  | .s i => [i]
def itB : Iv → List Nat
  | .o a => oB a
  | .en a => oB a
  | _ => []
section
variable {Φ : Cf}
theorem evW_b {o : O} {ρ : Rho} {r : D × Rho × List (Nat × D)} (h : evW Φ o ρ = some r) : r.2.2.map (·.1) = oB o := by
  cases o with
  | e a =>
    obtain ⟨x, _, rfl⟩ := map_inv h
    rfl
  | s i =>
    obtain ⟨x, _, rfl⟩ := map_inv h
    rfl
theorem evI_b {it : Iv} {ρ : Rho} {r : List D × Rho × List (Nat × D)} (h : evI Φ it ρ = some r) : r.2.2.map (·.1) = itB it := by
  cases it with
  | o a =>
    obtain ⟨x, e, h⟩ := bind_inv h
    obtain ⟨y, _, rfl⟩ := map_inv h
    exact evW_b e
  | en a =>
    obtain ⟨x, e, h⟩ := bind_inv h
    obtain ⟨y, _, rfl⟩ := map_inv h
    exact evW_b e
  | r1 a =>
    obtain ⟨x, e, h⟩ := bind_inv h
    split at h
    · split at h
      · cases h; rfl
      · cases h
    · cases h
  | r2 a b =>
    obtain ⟨x, e, h⟩ := bind_inv h
    obtain ⟨x2, e, h⟩ := bind_inv h
    split at h
    · split at h
      · cases h; rfl
      · cases h
    · cases h
  | r3 a b c =>
    obtain ⟨x, e, h⟩ := bind_inv h
    obtain ⟨x2, e, h⟩ := bind_inv h
    obtain ⟨x3, e, h⟩ := bind_inv h
    split at h
    · split at h
      · cases h; rfl
      · cases h
    · cases h
  | zp a b =>
    obtain ⟨x, e, h⟩ := bind_inv h
    obtain ⟨x2, e, h⟩ := bind_inv h
    split at h
    · cases h; rfl
    · cases h; rfl
    · cases h
theorem Wk.pin {fr fr' : Fr} {Γ : List Ty} {K : PySem.W.Frag} {J : L2.It} {ts us : List Tm} {ds : List D} {sv : List (Nat × D)} {P P' : List Nat} {l : List Nat} (h : Wk fr Γ K fr' J ts us ds sv) (hp : Pin P fr) (e : sv.map (·.1) = l) (h1 : ∀ i ∈ P, i ∈ P') (h2 : ∀ i ∈ l, i ∈ P') : Pin P' fr' := fun p hp' => by
  rcases h.pins p hp' with q | q
  · exact h1 _ (hp p q)
  · rw [e] at q
    exact h2 _ q
end
section
variable {X : Cx} {Φ : Cf} {fr : Fr} {Γ : List Ty} {w : Ty} {pos : Pos} {P P' : List Nat}
variable (Φ Γ P) in
def xE (K : PySem.W.Frag) (w : Ty) (e : E) : TE := fun σ H Q => ∃ fr, Pin P fr ∧ tE Φ fr K Γ w e σ H Q
variable (Γ P) in
def xG (K : PySem.W.Frag) (tg : Tg) : TG := fun v σ H Q => ∃ fr, Pin P fr ∧ tG fr Γ K tg v σ H Q
variable (Φ Γ P) in
def xC (K : PySem.W.Frag) (cd : Ot) : TT := fun σ H Q => ∃ fr, Pin P fr ∧ ∃ ρ ts r, SR fr K Γ ρ σ ts H ∧ evC Φ cd ρ = some r ∧ ∀ H', SR fr K Γ r.2 σ ts H' → Q r.1 H'
theorem pe_x {e : Expr} {ea : E} (h : ∀ fr, Pin P fr → PE X e (tE Φ fr X.K Γ w ea)) : PE X e (xE Φ Γ P X.K w ea) := ⟨fun pins s σ H Q I ⟨fr, hp, hw⟩ => (h fr hp).run pins s σ H Q I hw⟩
theorem pg_x {e : Expr} {tg : Tg} (h : ∀ fr, Pin P fr → PG X e (tG fr Γ X.K tg)) : PG X e (xG Γ P X.K tg) := ⟨fun pins s σ H v u Q I r ⟨fr, hp, hw⟩ => (h fr hp).run pins s σ H v u Q I r hw⟩
theorem pc_no : PTs X [] (xC Φ Γ P X.K .no) := ⟨fun pins s σ H Q I ⟨fr, hp, ρ, ts, r, sr, he, q⟩ => pts_nil.run pins s σ H Q I (by
  have he : some (true, ρ) = some r := he
  cases he
  exact q H sr)⟩
theorem pc_so {e : Expr} {t : T} (h : ∀ fr, Pin P fr → PT X e (tT Φ fr X.K Γ t)) : PTs X [e] (xC Φ Γ P X.K (.so t)) := ⟨fun pins s σ H Q I ⟨fr, hp, hw⟩ => (pts_one (h fr hp)).run pins s σ H Q I hw⟩
theorem wipe_at {σ : Sg} {j : Nat} : ∀ {ws : List Nat}, (wipe σ ws)[j]? = if j ∈ ws then (if j < σ.length then some none else none) else σ[j]?
  | [] => by simp [wipe]
  | v :: ws => by
    show ((wipe σ ws).set v none)[j]? = _
    by_cases h : v = j
    · subst h
      rw [if_pos List.mem_cons_self]
      by_cases hl : v < σ.length
      · rw [List.getElem?_set_self (by rw [wipe_length]; exact hl), if_pos hl]
      · rw [List.getElem?_eq_none (by rw [List.length_set, wipe_length]; omega), if_neg hl]
    · rw [List.getElem?_set_ne h, wipe_at]
      by_cases h2 : j ∈ ws
      · rw [if_pos h2, if_pos (List.mem_cons_of_mem _ h2)]
      · rw [if_neg h2, if_neg (fun z => (List.mem_cons.mp z).elim (fun e => h e.symm) h2)]
theorem wipe_but {σ σ' : Sg} {l ws : List Nat} (b : But l σ σ') (h : ∀ i ∈ l, i ∈ ws) : wipe σ' ws = wipe σ ws := by
  refine List.ext_getElem? fun j => ?_
  rw [wipe_at, wipe_at, b.1]
  by_cases hj : j ∈ ws
  · rw [if_pos hj, if_pos hj]
  · rw [if_neg hj, if_neg hj]
    exact b.2 j fun z => hj (h j z)
theorem wipe_wipe {σ : Sg} {ws : List Nat} : wipe (wipe σ ws) ws = wipe σ ws := by
  refine List.ext_getElem? fun j => ?_
  rw [wipe_at, wipe_at, wipe_length]
  by_cases hj : j ∈ ws
  · rw [if_pos hj, if_pos hj]
  · rw [if_neg hj, if_neg hj]
theorem m_lc {K : PySem.W.Frag} {t : Ty} {elt : E} {tg : Tg} {it : Iv} {cd : Ot} {ws : List Nat} {σ : Sg} {H : Hp} {Q : VK} (m : Made t w) (hpin : Pin P fr) (h1 : ∀ i ∈ P, i ∈ P') (h2 : ∀ i ∈ itB it, i ∈ P') (hd : ∀ i ∈ P', i ∉ ws) (hsl : ∀ i ∈ tgSl tg, i ∈ ws)
    (h : tE Φ fr K Γ w (.comp elt tg it cd ws) σ H Q) : tLc (tIt Φ fr Γ K it) (xG Γ P' K tg) (xC Φ Γ P' K cd) (xE Φ Γ P' K t elt) ws σ H Q := by
  obtain ⟨ρ, ts, r, sr, he, q⟩ := h
  obtain ⟨ra, e1, he⟩ := bind_inv he
  obtain ⟨rc, e2, he⟩ := bind_inv he
  split at he
  · rename_i lok
    obtain ⟨ρF, e3, rfl⟩ := map_inv he
    clear he
    refine ⟨ρ, ts, ra, sr, e1, fun J H1 us fr' s1 wk D0 hD => ?_⟩
    have pin' : Pin P' fr' := wk.pin hpin (evI_b e1) h1 h2
    have dis : ∀ p ∈ fr'.pins, p.1 ∉ ws := fun p hp => hd _ (pin' p hp)
    refine ⟨fun i n H => ∃ ρ acc rest ρE, n = ra.1.length - i ∧ i ≤ ra.1.length ∧ (∃ ρ0, ρ = wipeD ρ0 ws) ∧ SR fr' K Γ ρ (wipe σ ws) (ts ++ us ++ [⟨.lst t, .list acc, .ref D0⟩]) H ∧ compL _ (ra.1.drop i) ρ = some (rest, ρE) ∧ acc ++ rest = rc.1 ∧ ρE = rc.2, ⟨_, wipeD ra.2.1 ws, [], rc.1, rc.2, rfl, Nat.zero_le _, ⟨_, rfl⟩, ?_, e2, rfl, rfl⟩, ?_⟩
    · obtain ⟨G, F1, F2, y⟩ := s1
      obtain ⟨F3, y2⟩ := y.wiped ws dis
      have y3 : SRd fr' K G F3 F2 Γ (wipeD ra.2.1 ws) (wipe σ ws) (ts ++ us ++ []) H1 := by rw [List.append_nil]; exact y2
      obtain ⟨F4, z⟩ := y3.mkList (w := t) (fun y hy => nomatch hy) hD
      exact ⟨_, _, _, z⟩
    · rintro i n H ⟨ρ1, acc, rest, ρE, rfl, hi, ⟨ρ0, rfl⟩, s, ec, ea, rfl⟩
      by_cases hlt : i < ra.1.length
      · rw [List.drop_eq_getElem_cons hlt] at ec
        obtain ⟨rs, c1, c2⟩ := bind_inv ec
        obtain ⟨q2, c3, c4⟩ := map_inv c2
        clear ec c2
        obtain ⟨g1, g2⟩ := wk.go i _ _ [⟨.lst t, .list acc, .ref D0⟩] H hlt s
        refine .inr ⟨g1, fun H' => ∃ ρ acc rest ρE, (∃ ρ0, ρ = wipeD ρ0 ws) ∧ SR fr' K Γ ρ (wipe σ ws) (ts ++ us ++ [⟨.lst t, .list acc, .ref D0⟩]) H' ∧ compL _ (ra.1.drop (i + 1)) ρ = some (rest, ρE) ∧ acc ++ rest = rc.1 ∧ ρE = rc.2, fun H' ⟨ρ', acc', rest', ρE', a1, a2, a3, a4, a5⟩ => ⟨ra.1.length - (i + 1), by omega, ρ', acc', rest', ρE', rfl, hlt, a1, a2, a3, a4, a5⟩, fun x H' yl => ?_⟩
        have s2 := g2 x H' yl
        obtain ⟨ρ2, d1, d2⟩ := bind_inv c1
        obtain ⟨b, d3, d4⟩ := bind_inv d2
        clear c1 d2
        refine ⟨fr', pin', _, _, _, ρ2, s2, d1, fun σ2 H2 bt s3 => ?_⟩
        have wp : wipe σ2 ws = wipe σ ws := by
          rw [wipe_but bt hsl, wipe_wipe]
        have ln : σ2.length = (wipe σ ws).length := bt.1
        refine ⟨wp, fr', pin', ρ2, _, b, s3, d3, fun H3 s4 => ?_⟩
        by_cases hb : b.1 = true
        · rw [if_pos hb] at d4 ⊢
          obtain ⟨qe, d5, rfl⟩ := map_inv d4
          refine ⟨fr', pin', b.2, _, qe, s4, d5, fun yv H4 s5 => ?_⟩
          obtain ⟨G, F1, F2, z⟩ := s5
          obtain ⟨av, k1, k2, s6⟩ := z.accum
          have e9 : acc ++ qe.1 :: q2.1 = rc.1 := by
            have c5 := congrArg Prod.fst c4
            have c5 : qe.1 :: q2.1 = rest := c5
            rw [c5]
            exact ea
          refine ⟨av, k1, ?_, ?_⟩
          · have := lenOk_of lok
            rw [← e9, List.length_append, List.length_cons] at this
            rw [k2]
            omega
          · obtain ⟨G6, F7, F8, z6⟩ := s6
            obtain ⟨F9, z7⟩ := z6.wiped ws dis
            rw [wp] at z7
            refine ⟨wipeD qe.2 ws, acc ++ [qe.1], q2.1, q2.2, ⟨_, rfl⟩, ⟨_, _, _, z7⟩, c3, by rw [List.append_assoc]; exact e9, ?_⟩
            have c7 := congrArg Prod.snd c4
            exact c7
        · rw [if_neg hb] at d4 ⊢
          cases d4
          obtain ⟨G6, F7, F8, z6⟩ := s4
          obtain ⟨F9, z7⟩ := z6.wiped ws dis
          rw [wp] at z7
          have c5 := congrArg Prod.fst c4
          have c5 : q2.1 = rest := c5
          have c6 := congrArg Prod.snd c4
          exact ⟨wipeD b.2 ws, acc, q2.1, q2.2, ⟨_, rfl⟩, ⟨_, _, _, z7⟩, c3, by rw [c5]; exact ea, c6⟩
      · have ei : i = ra.1.length := by omega
        subst ei
        rw [List.drop_length] at ec
        have ec : some (([] : List D), wipeD ρ0 ws) = some (rest, rc.2) := ec
        have ec := Option.some.inj ec
        have c5 : [] = rest := congrArg Prod.fst ec
        have c6 : wipeD ρ0 ws = rc.2 := congrArg Prod.snd ec
        rw [← c5, List.append_nil] at ea
        rw [← c6] at e3
        rw [← ea] at q lok
        refine .inl ⟨wk.stop _ _ [⟨.lst t, .list acc, .ref D0⟩] H s, ?_⟩
        obtain ⟨G, F1, F2, z⟩ := s
        have z2 : SRd fr' K G F1 F2 Γ (wipeD ρ0 ws) σ (ts ++ us ++ [⟨.lst t, .list acc, .ref D0⟩]) H :=
          z.sig (wipe_length _ _).symm (fun i d e => by
            by_cases hi : i ∈ ws
            · exact absurd e (wipeD_none hi d)
            · rw [wipe_at, if_neg hi]) fun p hp => by rw [wipe_at, if_neg (dis p hp)]
        have pp : (ts ++ us ++ [(⟨.lst t, .list acc, .ref D0⟩ : Tm)]).Perm (ts ++ [(⟨.lst t, .list acc, .ref D0⟩ : Tm)] ++ us) := by
          rw [List.append_assoc, List.append_assoc]
          exact List.perm_append_comm.append_left ts
        obtain ⟨F5, z3⟩ := z2.perm pp
        have z4 : SR fr' K Γ (wipeD ρ0 ws) σ (ts ++ [⟨.lst t, .list acc, .ref D0⟩] ++ us) _ := ⟨_, _, _, z3⟩
        have fin := wk.rest _ _ _ _ _ z4 e3
        rcases m with rfl | ⟨rfl, rfl⟩
        · exact q _ _ fin
        · exact q _ _ (SR.give (x1 := ⟨.lst .fro, .list acc, .ref D0⟩) fin)
  · cases he
def noSet : Expr → Bool
  | .Set _ _ _ => false
  | _ => true
theorem folded_of {e : Expr} {env : Env} (h : noSet e = true) (x : Value) : foldedSetIterable e env x = pure x := by
  cases e <;> first | rfl | cases h
theorem e_comp {t : Ty} {elt tgt iter : Expr} {ifs : List Expr} {scope : Scope} {own : List (Str × Nat)} {eelt : E} {tg : Tg} {it : Iv} {cd : Ot} (m : Made t w) (hc : X.calm = true) (hN : X.N.Nodup) (hpin : Pin P fr) (h1 : ∀ i ∈ P, i ∈ P') (h2 : ∀ i ∈ itB it, i ∈ P') (hd : ∀ i ∈ P', i ∉ own.map (·.2)) (hsl : ∀ i ∈ tgSl tg, i ∈ own.map (·.2))
    (hi : PI X tgt iter (tIt Φ fr Γ X.K it)) (ok : BlkOk X.N X.env.scope scope own) (hs : noSet iter = true)
    (hg : ∀ (s : Shared) (H : Hp) (C : Addr) (cl : List (Str × Addr)) (fp : List Addr) (fr : Fr), Pin P' fr → PG (X.blk s H scope (compEnvC scope cl C X.env) fp) tgt (tG fr Γ X.K tg))
    (ht : ∀ (s : Shared) (H : Hp) (C : Addr) (cl : List (Str × Addr)) (fp : List Addr), PTs (X.blk s H scope (compEnvC scope cl C X.env) fp) ifs (xC Φ Γ P' X.K cd))
    (he : ∀ (s : Shared) (H : Hp) (C : Addr) (cl : List (Str × Addr)) (fp : List Addr) (fr : Fr), Pin P' fr → PE (X.blk s H scope (compEnvC scope cl C X.env) fp) elt (tE Φ fr X.K Γ t eelt)) :
    PE X (.ListComp elt [⟨tgt, iter, ifs, 0⟩] scope pos) (tE Φ fr X.K Γ w (.comp eelt tg it cd (own.map (·.2)))) :=
  PE_mono (pe_lc hc hN hi ok (fun s H C cl fp => pg_x (hg s H C cl fp)) ht (fun s H C cl fp => pe_x (he s H C cl fp)) (folded_of hs)) fun σ H Q h => m_lc m hpin h1 h2 hd hsl h
end
end Vw
namespace Vw
open PySem PySem.Spec PyProof.Rows L2
def noComp : Expr → Bool
  | .ListComp _ _ _ _ => false
  | .SetComp _ _ _ _ => false
  | .DictComp _ _ _ _ _ => false
  | _ => true
theorem swaps_no {e : Expr} {t : Option Expr} {l : Nat} {env : Env} (h : noComp e = true) : swapsWith e t l env = pure false := by
  cases e <;> first | rfl | cases h
/-- where the classes stand; what is wished of an exception -/
structure Xw where
  mg : Str → Option Value
  W : WX
/-- the dict of an exception -/
def xdOf (fs : Fs) (vs : List V) : HO := .xd ((fs.map (·.1)).zip vs)
section
variable {X : Cx} {Φ : Cf} {fr : Fr} {Γ : List Ty} {ret : Ty} {wx : Xw} {pos : Pos} {P : List Nat}
variable (fr Γ ret wx) in
def Out (K : PySem.W.Frag) (ts : List Tm) (D : Ends) : Rs → Prop
  | .nx ρ => ∀ σ H, SR fr K Γ ρ σ ts H → D.nx σ H
  | .brk ρ => ∀ σ H, SR fr K Γ ρ σ ts H → D.bk σ H
  | .cnt ρ => ∀ σ H, SR fr K Γ ρ σ ts H → D.ct σ H
  | .ret d ρ => ∀ v σ H us, SR fr K Γ ρ σ (ts ++ us ++ [⟨ret, d, v⟩]) H → D.rt v H
  | .exn x fs ρ => ∀ σ H us vs C dd, SR fr K Γ ρ σ (ts ++ us ++ tms .fro (fs.map (·.2)) vs) H → vs.length = fs.length → wx.mg x = some (.ref C) → H dd = some (xdOf fs vs) → wx.W (.ref C) (some dd) σ H
variable (Φ fr Γ ret wx) in
def tS (K : PySem.W.Frag) (s : S) : TS := fun D σ H => ∃ ρ ts r, SR fr K Γ ρ σ ts H ∧ exS Φ s ρ = some r ∧ Out fr Γ ret wx K ts D r
variable (Φ fr Γ ret wx) in
def tSs (K : PySem.W.Frag) (s : Ss) : TS := fun D σ H => ∃ ρ ts r, SR fr K Γ ρ σ ts H ∧ exSs Φ s ρ = some r ∧ Out fr Γ ret wx K ts D r
theorem ss_nil : PSs X [] (tSs Φ fr Γ ret wx X.K .nil) := by
  refine PSs_mono pss_nil fun D σ H h => ?_
  obtain ⟨ρ, ts, r, sr, he, q⟩ := h
  have he : some (Rs.nx ρ) = some r := he
  cases he
  exact q σ H sr
theorem ss_cons {st : Stmt} {rest : List Stmt} {s : S} {ss : Ss} (h1 : PS X st (tS Φ fr Γ ret wx X.K s)) (h2 : PSs X rest (tSs Φ fr Γ ret wx X.K ss)) : PSs X (st :: rest) (tSs Φ fr Γ ret wx X.K (.cons s ss)) := by
  refine PSs_mono (pss_cons h1 h2) fun D σ H h => ?_
  obtain ⟨ρ, ts, r, sr, he, q⟩ := h
  obtain ⟨ra, e1, e2⟩ := bind_inv he
  refine ⟨ρ, ts, ra, sr, e1, ?_⟩
  cases ra with
  | nx ρ1 => exact fun σ1 H1 s1 => ⟨ρ1, ts, r, s1, e2, q⟩
  | ret d ρ1 =>
    cases e2
    exact q
  | brk ρ1 =>
    cases e2
    exact q
  | cnt ρ1 =>
    cases e2
    exact q
  | exn x fs ρ1 =>
    cases e2
    exact q
theorem ss_kill {rest : List Stmt} {ss : Ss} {l : List Nat} (h2 : PSs X rest (tSs Φ fr Γ ret wx X.K ss)) : PSs X rest (tSs Φ fr Γ ret wx X.K (.cons (.kill l) ss)) := by
  refine PSs_mono h2 fun D σ H h => ?_
  obtain ⟨ρ, ts, r, ⟨G, F1, F2, sr⟩, he, q⟩ := h
  obtain ⟨F3, y⟩ := sr.wipes l
  exact ⟨wipeD ρ l, ts, r, ⟨_, _, _, y⟩, he, q⟩
theorem s_doc {x : Str} {j : Nat} {p : Pos} {rest : List Stmt} {ss : Ss} (h2 : PSs X rest (tSs Φ fr Γ ret wx X.K ss)) : PSs X (.Expr (.Constant (.str x) j p) pos :: rest) (tSs Φ fr Γ ret wx X.K ss) :=
  PSs_mono (pss_cons ps_doc h2) fun D σ H h => h
theorem s_pas : PS X (.Pass pos) (tS Φ fr Γ ret wx X.K .pas) := by
  refine PS_mono ps_pass fun D σ H h => ?_
  obtain ⟨ρ, ts, r, sr, he, q⟩ := h
  have he : some (Rs.nx ρ) = some r := he
  cases he
  exact q σ H sr
theorem s_brk : PS X (.Break pos) (tS Φ fr Γ ret wx X.K .brk) := by
  refine PS_mono ps_break fun D σ H h => ?_
  obtain ⟨ρ, ts, r, sr, he, q⟩ := h
  have he : some (Rs.brk ρ) = some r := he
  cases he
  exact q σ H sr
theorem s_cnt : PS X (.Continue pos) (tS Φ fr Γ ret wx X.K .cnt) := by
  refine PS_mono ps_continue fun D σ H h => ?_
  obtain ⟨ρ, ts, r, sr, he, q⟩ := h
  have he : some (Rs.cnt ρ) = some r := he
  cases he
  exact q σ H sr
theorem s_ret {e : Expr} {ee : E} (he : PE X e (tE Φ fr X.K Γ ret ee)) : PS X (.Return (some e) pos) (tS Φ fr Γ ret wx X.K (.ret ee)) := by
  refine PS_mono (ps_ret he) fun D σ H h => ?_
  obtain ⟨ρ, ts, r, sr, he, q⟩ := h
  obtain ⟨ra, e1, rfl⟩ := map_inv he
  refine ⟨ρ, ts, ra, sr, e1, fun v H1 s1 => q v σ H1 [] ?_⟩
  rw [List.append_nil]
  exact s1
theorem s_retn : PS X (.Return none pos) (tS Φ fr Γ ret wx X.K .retn) := by
  refine PS_mono ps_retN fun D σ H h => ?_
  obtain ⟨ρ, ts, r, sr, he, q⟩ := h
  have he : some (Rs.ret .none ρ) = some r := he
  cases he
  refine q .non σ H [] ?_
  rw [List.append_nil]
  exact sr.res rfl fun G => .non
theorem s_ex {e : Expr} {ee : E} (hn : noComp e = true) (he : PE X e (tE Φ fr X.K Γ .fro ee)) : PS X (.Expr e pos) (tS Φ fr Γ ret wx X.K (.ex ee)) := by
  refine PS_mono (ps_expr he (swaps_no hn)) fun D σ H h => ?_
  obtain ⟨ρ, ts, r, sr, he, q⟩ := h
  obtain ⟨ra, e1, rfl⟩ := map_inv he
  exact ⟨ρ, ts, ra, sr, e1, fun v H1 s1 => q σ H1 s1.drop⟩
theorem s_ife {c : Expr} {a b : List Stmt} {tc : T} {sa sb : Ss} (hc : PT X c (tT Φ fr X.K Γ tc)) (ha : PSs X a (tSs Φ fr Γ ret wx X.K sa)) (hb : PSs X b (tSs Φ fr Γ ret wx X.K sb)) : PS X (.If c a b pos) (tS Φ fr Γ ret wx X.K (.ife tc sa sb)) := by
  refine PS_mono (ps_if hc ha hb) fun D σ H h => ?_
  obtain ⟨ρ, ts, r, sr, he, q⟩ := h
  obtain ⟨ra, e1, he⟩ := bind_inv he
  refine ⟨ρ, ts, ra, sr, e1, fun H1 s1 => ?_⟩
  by_cases hd : ra.1 = true
  · rw [if_pos hd] at he ⊢
    exact ⟨_, ts, r, s1, he, q⟩
  · rw [if_neg hd] at he ⊢
    exact ⟨_, ts, r, s1, he, q⟩
theorem pin_ne {i : Nat} (hp : Pin P fr) (h : i ∉ P) : ∀ p ∈ fr.pins, p.1 ≠ i := fun p hm e => h (e ▸ hp p hm)
theorem s_set {i : Nat} {x : Str} {t : Ty} {e : Expr} {ee : E} {px : Pos} (nd : X.N.Nodup) (hi : X.N[i]? = some x) (hx : Loc X.env.scope x) (hf : X.fn x = true ∨ X.env.scope.names.lookup x = some .local) (hw : Γ[i]? = some t) (hp : ∀ p ∈ fr.pins, p.1 ≠ i)
    (hn : swapsWith e (some (.Name x px)) pos.line X.env = pure false) (he : PE X e (tE Φ fr X.K Γ t ee)) : PS X (.Assign [.Name x px] e pos) (tS Φ fr Γ ret wx X.K (.set i ee)) := by
  refine PS_mono (ps_set nd hi hx he hn hf) fun D σ H h => ?_
  obtain ⟨ρ, ts, r, sr, he, q⟩ := h
  obtain ⟨ra, e1, rfl⟩ := map_inv he
  exact ⟨ρ, ts, ra, sr, e1, fun v H1 s1 => q _ _ (s1.setSlot hw hp)⟩
/-- name = [..] on one line -/
theorem s_setC {i : Nat} {x : Str} {t w : Ty} {px : Pos} {P' : List Nat} {elt tgt iter : Expr} {ifs : List Expr} {scope : Scope} {own : List (Str × Nat)} {cpos : Pos} {eelt : E} {tg : Tg} {it : Iv} {cd : Ot} (m : Made t w) (hc : X.calm = true) (hN : X.N.Nodup) (hi : X.N[i]? = some x) (hx : X.env.scope.names.lookup x = some .local) (hw : Γ[i]? = some w) (hpi : i ∉ P)
    (hsw : swapsWith (.ListComp elt [⟨tgt, iter, ifs, 0⟩] scope cpos) (some (.Name x px)) pos.line X.env = pure true) (hpin : Pin P fr) (h1 : ∀ i ∈ P, i ∈ P') (h2 : ∀ i ∈ itB it, i ∈ P') (hd : ∀ i ∈ P', i ∉ own.map (·.2)) (hsl : ∀ i ∈ tgSl tg, i ∈ own.map (·.2))
    (hit : PI X tgt iter (tIt Φ fr Γ X.K it)) (ok : BlkOk X.N X.env.scope scope own) (hs : noSet iter = true)
    (hg : ∀ (s : Shared) (H : Hp) (C : Addr) (cl : List (Str × Addr)) (fp : List Addr) (fr : Fr), Pin P' fr → PG (X.blk s H scope (compEnvC scope cl C X.env) fp) tgt (tG fr Γ X.K tg))
    (ht : ∀ (s : Shared) (H : Hp) (C : Addr) (cl : List (Str × Addr)) (fp : List Addr), PTs (X.blk s H scope (compEnvC scope cl C X.env) fp) ifs (xC Φ Γ P' X.K cd))
    (he : ∀ (s : Shared) (H : Hp) (C : Addr) (cl : List (Str × Addr)) (fp : List Addr) (fr : Fr), Pin P' fr → PE (X.blk s H scope (compEnvC scope cl C X.env) fp) elt (tE Φ fr X.K Γ t eelt)) :
    PS X (.Assign [.Name x px] (.ListComp elt [⟨tgt, iter, ifs, 0⟩] scope cpos) pos) (tS Φ fr Γ ret wx X.K (.set i (.comp eelt tg it cd (own.map (·.2))))) := by
  refine PS_mono (ps_setLc (g := xG Γ P' X.K tg) (tt := xC Φ Γ P' X.K cd) (te := xE Φ Γ P' X.K t eelt) hc hN hi hx hsw hit ok (fun s H C cl fp => pg_x (hg s H C cl fp)) ht (fun s H C cl fp => pe_x (he s H C cl fp)) (folded_of hs)) fun D σ H h => ?_
  obtain ⟨ρ, ts, r, sr, e0, q⟩ := h
  obtain ⟨ra, e1, rfl⟩ := map_inv (show (ev Φ _ ρ).map _ = _ from e0)
  exact m_lc (fr := fr) (P := P) (P' := P') m hpin h1 h2 hd hsl ⟨ρ, ts, ra, sr, e1, fun v H1 s1 => q _ _ (s1.setSlot hw (pin_ne hpin hpi))⟩
/-- is it a tuple that is written -/
def noTup : Expr → Bool
  | .Tuple _ _ _ => false
  | .List _ _ => false
  | _ => true
theorem swst_no {es : List Expr} {k : Nat} {p : Pos} {e : Expr} {env : Env} (h : noTup e = true) : swappedStores [.Tuple es k p] e env = pure none := by
  cases e <;> first | rfl | cases h
theorem swss_no {es : List Expr} {k : Nat} {p : Pos} {e : Expr} {l : Nat} {env : Env} (h : noComp e = true) : swapsWithSole [.Tuple es k p] e l env = pure false := by
  rw [swapsWithSole]
  exact swaps_no h
theorem s_unp {es : List Expr} {k : Nat} {p : Pos} {e : Expr} {tg : Tg} {ee : E} (hn : noComp e = true) (ht : noTup e = true) (hg : PG X (.Tuple es k p) (tG fr Γ X.K tg)) (he : PE X e (tE Φ fr X.K Γ .fro ee)) : PS X (.Assign [.Tuple es k p] e pos) (tS Φ fr Γ ret wx X.K (.unp tg ee)) := by
  refine PS_mono (ps_asg he hg (swss_no hn) (swst_no ht) rfl) fun D σ H h => ?_
  obtain ⟨ρ, ts, r, sr, he, q⟩ := h
  obtain ⟨ra, e1, he⟩ := bind_inv he
  obtain ⟨ρ1, e2, rfl⟩ := map_inv he
  exact ⟨ρ, ts, ra, sr, e1, fun v H1 s1 => ⟨_, ts, _, ρ1, s1, e2, fun σ' H' _ s2 => q _ _ s2⟩⟩
/-- a, b = x, y -/
theorem s_par {i j : Nat} {x y : Str} {a b : Expr} {ea eb : E} {px py pt : Pos} {kt k2 : Nat} {pt2 : Pos} {t u : Ty} (hc : X.calm = true) (hN : X.N.Nodup) (hi : X.N[i]? = some x) (hj : X.N[j]? = some y) (hij : i ≠ j)
    (hx : X.env.scope.names.lookup x = some .local) (hy : X.env.scope.names.lookup y = some .local) (hw : Γ[i]? = some t) (hw2 : Γ[j]? = some u) (hp : ∀ p ∈ fr.pins, p.1 ≠ i) (hp2 : ∀ p ∈ fr.pins, p.1 ≠ j) (ha : PE X a (tE Φ fr X.K Γ t ea)) (hb : PE X b (tE Φ fr X.K Γ u eb)) (hs : noStar a = true) (hs2 : noStar b = true)
    (hsw : swappedStores [.Tuple [.Name x px, .Name y py] kt pt] (.Tuple [a, b] k2 pt2) X.env = pure (some [x, y])) :
    PS X (.Assign [.Tuple [.Name x px, .Name y py] kt pt] (.Tuple [a, b] k2 pt2) pos) (tS Φ fr Γ ret wx X.K (.par i j ea eb)) := by
  refine PS_mono (ps_par hc hN hi hj hij hx hy (pa_cons ha (pa_cons hb pa_nil (star_cons hs2)) (star_cons hs)) hsw rfl) fun D σ H h => ?_
  obtain ⟨ρ, ts, r, sr, he, q⟩ := h
  obtain ⟨ra, e1, he⟩ := bind_inv he
  obtain ⟨rb, e2, rfl⟩ := map_inv he
  refine ⟨ρ, ts, ra, sr, e1, fun v H1 s1 => ⟨ra.2, _, rb, s1, e2, fun z H2 s2 => ⟨v, z, rfl, q _ _ ?_⟩⟩⟩
  obtain ⟨G, F1, F2, s3⟩ := s2
  have pp : (ts ++ [(⟨t, ra.1, v⟩ : Tm)] ++ [(⟨u, rb.1, z⟩ : Tm)]).Perm (ts ++ [(⟨u, rb.1, z⟩ : Tm)] ++ [(⟨t, ra.1, v⟩ : Tm)]) := by
    rw [List.append_assoc, List.append_assoc]
    exact List.perm_append_comm.append_left ts
  obtain ⟨F3, s4⟩ := s3.perm pp
  have s5 : SR fr X.K Γ (put rb.2 i ra.1) (σ.set i (some v)) (ts ++ [⟨u, rb.1, z⟩]) H2 := SR.setSlot ⟨_, _, _, s4⟩ hw hp
  exact s5.setSlot hw2 hp2
theorem iop_ar : ∀ o : Ar, o ≠ .pow → OpR X (inplaceOp (opA o)) (rAr o)
  | .add, _ => fun pins s σ H x y v u Q I rx ry h => by
    obtain ⟨i, j, k, e1, e2, e, q⟩ := h
    cases e
    exact iop_add pins s σ H x y v u Q I rx ry ⟨i, j, e1, e2, q⟩
  | .sub, _ => fun pins s σ H x y v u Q I rx ry h => by
    obtain ⟨i, j, k, e1, e2, e, q⟩ := h
    cases e
    exact iop_sub pins s σ H x y v u Q I rx ry ⟨i, j, e1, e2, q⟩
  | .mul, _ => fun pins s σ H x y v u Q I rx ry h => by
    obtain ⟨i, j, k, e1, e2, e, q⟩ := h
    simp only [arD] at e
    split at e
    · rename_i c
      cases e
      exact iop_mul pins s σ H x y v u Q I rx ry ⟨i, j, e1, e2, c, q⟩
    · cases e
  | .fdiv, _ => fun pins s σ H x y v u Q I rx ry h => by
    obtain ⟨i, j, k, e1, e2, e, q⟩ := h
    simp only [arD] at e
    split at e
    · rename_i c
      cases e
      exact iop_fdiv pins s σ H x y v u Q I rx ry ⟨i, j, e1, e2, c, q⟩
    · cases e
  | .mod, _ => fun pins s σ H x y v u Q I rx ry h => by
    obtain ⟨i, j, k, e1, e2, e, q⟩ := h
    simp only [arD] at e
    split at e
    · rename_i c
      cases e
      exact iop_mod pins s σ H x y v u Q I rx ry ⟨i, j, e1, e2, c, q⟩
    · cases e
  | .pow, h => absurd rfl h
theorem s_aug {i : Nat} {x : Str} {o : Ar} {e : Expr} {ee : E} {px : Pos} (ho : o ≠ .pow) (nd : X.N.Nodup) (hi : X.N[i]? = some x) (hx : Loc X.env.scope x) (hf : X.fn x = true ∨ X.env.scope.names.lookup x = some .local) (hw : Γ[i]? = some .fro) (hp : ∀ p ∈ fr.pins, p.1 ≠ i)
    (he : PE X e (tE Φ fr X.K Γ .fro ee)) : PS X (.AugAssign (.Name x px) (opA o) e pos) (tS Φ fr Γ ret wx X.K (.aug i o ee)) := by
  refine PS_mono (ps_aug nd hi hx he (iop_ar o ho) hf) fun D σ H h => ?_
  obtain ⟨ρ, ts, r, ⟨G, F1, F2, sr⟩, he, q⟩ := h
  obtain ⟨x0, e0, he⟩ := bind_inv he
  obtain ⟨ra, e1, he⟩ := bind_inv he
  obtain ⟨d, e2, rfl⟩ := map_inv he
  obtain ⟨v, g1, g2⟩ := sr.slot e0 hw
  refine ⟨v, g1, ρ, ts, ra, ⟨_, _, _, sr⟩, e1, fun u H1 s1 => ?_⟩
  obtain ⟨G1, F3, F4, y⟩ := id s1
  have ru := y.last1 rfl
  obtain ⟨a, b, k, q1, q2, q3⟩ := arD_inv e2
  clear e1
  obtain ⟨d1, ρ1⟩ := ra
  have q2 : d1 = .int b := q2
  subst q1 q2 q3
  cases g2
  cases ru
  exact ⟨a, b, k, rfl, rfl, e2, q _ _ ((s1.drop.res (w := .fro) (d := .int k) (v := .int k) rfl fun G => .int _).setSlot hw hp)⟩
theorem s_app {i : Nat} {x : Str} {e : Expr} {ee : E} {px ap cp : Pos} (hN : X.N[i]? = some x) (hv : Vis X.env.scope x) (hw : Γ[i]? = some (.lst .fro)) (hd : (x == ("__debug__" : Str)) = false) (hcd : (x == ("__classdict__" : Str)) = false) (hl : (ap.endLine == cp.line) = true)
    (ha : PE X e (tE Φ fr X.K Γ .fro ee)) (hs : noStar e = true) : PS X (.Expr (.Call (.Attribute (.Name x px) "append" ap) [e] [] cp) pos) (tS Φ fr Γ ret wx X.K (.app i ee)) := by
  refine PS_mono (ps_expr (pe_bm PySem.F.plainAttrs_list PySem.F.slot_list_append PySem.F.type_list_append mt_append (pe_var hN hv hd hcd) (pa_cons ha pa_nil (star_cons (env := X.env) hs)) rfl (few_of hs) hl (star_cons hs) rfl) rfl) fun D σ H h => ?_
  obtain ⟨ρ, ts, r, ⟨G0, F01, F02, sr⟩, he, q⟩ := h
  obtain ⟨x0, e0, he⟩ := bind_inv he
  cases x0 with
  | list l0 =>
    obtain ⟨ra, e1, he⟩ := bind_inv he
    obtain ⟨x, e2, he⟩ := bind_inv he
    obtain ⟨a0, vs0, k1, k2, _⟩ := sr.slotL e0 hw
    refine ⟨_, k1, tyV_l k2, ρ, ts, ra, ⟨_, _, _, sr⟩, e1, fun u H1 s1 => ?_⟩
    obtain ⟨G, F1, F2, y⟩ := id s1
    have ru := y.last1 rfl
    cases x with
    | list l =>
      have he : (if l.length < sizeLine then some (Rs.nx (put ra.2 i (.list (l ++ [ra.1])))) else none) = some r := he
      split at he
      · rename_i c
        cases he
        obtain ⟨F3, y2⟩ := y.drop
        obtain ⟨a, vs, g1, g2, g3, m⟩ := y2.slotMut e2 hw
        rw [k1] at g1
        cases g1
        exact ⟨_, vs, u, rfl, rfl, g2, by rw [g3.len]; exact c, q _ _ (m _ _ (g3.app (.cons ru .nil)))⟩
      · cases he
    | _ => cases he
  | _ => cases he
theorem asg_sub {o i : Expr} {p : Pos} {env : Env} (h : notSlice i = true) (v : Value) : assign (.Subscript o i p) env v = (do
      let ov ← holding [v] (eval o env)
      let iv ← holding [v, ov] (eval i env)
      standAt p
      holding [v, ov, iv] (setItem ov iv v)
      release [v, ov, iv] []) := by
  cases i <;> first | rfl | cases h
theorem s_sti {i : Nat} {x : Str} {a e : Expr} {ea ee : E} {px sp : Pos} (hN : X.N[i]? = some x) (hv : Vis X.env.scope x) (hw : Γ[i]? = some (.lst .fro)) (hd : (x == ("__debug__" : Str)) = false) (hcd : (x == ("__classdict__" : Str)) = false)
    (ha : PE X a (tE Φ fr X.K Γ .fro ea)) (he : PE X e (tE Φ fr X.K Γ .fro ee)) (hs : notSlice a = true) (hn : noComp e = true) : PS X (.Assign [.Subscript (.Name x px) a sp] e pos) (tS Φ fr Γ ret wx X.K (.sti i ea ee)) := by
  refine PS_mono (ps_asg he (pg_sub (pe_var hN hv hd hcd) ha set_list (asg_sub hs)) (by rw [swapsWithSole]; exact swaps_no hn) (by cases e <;> rfl) rfl) fun D σ H h => ?_
  obtain ⟨ρ, ts, r, sr, he, q⟩ := h
  obtain ⟨ra, e1, he⟩ := bind_inv he
  obtain ⟨x0, e0, he⟩ := bind_inv he
  obtain ⟨rb, e2, he⟩ := bind_inv he
  obtain ⟨x, e3, he⟩ := bind_inv he
  refine ⟨ρ, ts, ra, sr, e1, fun u H1 s1 => ?_⟩
  obtain ⟨G1, F11, F12, y1⟩ := id s1
  obtain ⟨t0, v0, _, _, g1, g2, _⟩ := y1.takeOut e0
  refine ⟨v0, g2, ra.2, _, rb, s1, e2, fun z H2 s2 => ?_⟩
  obtain ⟨G, F1, F2, y⟩ := id s2
  have rz := y.last2 rfl rfl
  clear e2
  obtain ⟨d2, ρ2⟩ := rb
  cases x with
  | list l =>
    cases d2 with
    | int j =>
      obtain ⟨k, e4, rfl⟩ := map_inv he
      obtain ⟨r1, r2⟩ := rz
      cases r2
      obtain ⟨F3, y2⟩ := y.drop
      obtain ⟨F4, y3⟩ := y2.drop
      obtain ⟨a, vs, k1, k2, k3, m⟩ := y3.slotMut e3 hw
      rw [g2] at k1
      cases k1
      exact ⟨a, vs, j, k, rfl, rfl, k2, by rw [k3.len]; exact e4, q _ _ (m _ _ (k3.set r1 k))⟩
    | _ => cases he
  | _ => cases he
end
end Vw
namespace Vw
open PySem PySem.Spec PyProof.Rows L2
section
variable {X : Cx} {Φ : Cf} {fr : Fr} {Γ : List Ty} {ret : Ty} {wx : Xw} {pos : Pos} {P P' : List Nat}
theorem s_sti2 {i : Nat} {x : Str} {a b e : Expr} {ea eb ee : E} {px sp sp2 : Pos} (hN : X.N[i]? = some x) (hv : Vis X.env.scope x) (hw : Γ[i]? = some (.lst (.lst .fro))) (hd : (x == ("__debug__" : Str)) = false) (hcd : (x == ("__classdict__" : Str)) = false)
    (ha : PE X a (tE Φ fr X.K Γ .fro ea)) (hb : PE X b (tI Φ fr Γ X.K eb)) (st : stE eb = true) (he : PE X e (tE Φ fr X.K Γ .fro ee)) (hs : notSlice a = true) (hs2 : notSlice b = true) (hn : noComp e = true) : PS X (.Assign [.Subscript (.Subscript (.Name x px) a sp2) b sp] e pos) (tS Φ fr Γ ret wx X.K (.sti2 i ea eb ee)) := by
  refine PS_mono (ps_asg he (pg_sub (pe_ix ix_list (pe_var hN hv hd hcd) ha (plainIx_ns hs)) hb set_list (asg_sub hs2)) (by rw [swapsWithSole]; exact swaps_no hn) (by cases e <;> rfl) rfl) fun D σ H h => ?_
  obtain ⟨ρ, ts, r, sr, he, q⟩ := h
  obtain ⟨ra, e1, he⟩ := bind_inv he
  obtain ⟨x0, e0, he⟩ := bind_inv he
  obtain ⟨rb, e2, he⟩ := bind_inv he
  obtain ⟨rc, e3, he⟩ := bind_inv he
  obtain ⟨x, e4, he⟩ := bind_inv he
  have p3 := stE_pure st e3
  refine ⟨ρ, ts, ra, sr, e1, fun u H1 s1 => ?_⟩
  obtain ⟨G1, F11, F12, y1⟩ := id s1
  obtain ⟨t0, v0, _, _, g1, g2, _⟩ := y1.takeOut e0
  refine ⟨v0, g2, ra.2, _, rb, s1, e2, fun z H2 s2 => ?_⟩
  obtain ⟨G, F1, F2, y⟩ := id s2
  have rz := y.last2 rfl rfl
  clear e2
  obtain ⟨d2, ρ2⟩ := rb
  obtain ⟨d3, ρ3⟩ := rc
  have p3 : ρ3 = ρ2 := p3
  subst p3
  cases x with
  | list m =>
    cases d2 with
    | int j =>
      cases d3 with
      | int j2 =>
        obtain ⟨k, e5, he⟩ := bind_inv (show (ixN m.length j).bind _ = _ from he)
        obtain ⟨yy, e6, he⟩ := bind_inv he
        cases yy with
        | list l =>
          obtain ⟨k2, e7, rfl⟩ := map_inv he
          obtain ⟨r1, r2⟩ := rz
          cases r2
          obtain ⟨F3, y2⟩ := y.drop
          obtain ⟨F4, y3⟩ := y2.drop
          obtain ⟨a0, b0, vs, ws, k1, k3, k4, k5, k6, k7, mm⟩ := y3.slotMut2 e4 e6 hw
          rw [g2] at k1
          cases k1
          refine ⟨a0, vs, j, .ref b0, rfl, rfl, SqL.of k3, ?_, ρ3, _, j2, s2, e3, b0, ws, j2, k2, rfl, rfl, k6, by rw [k7.len]; exact e7, q _ _ (mm _ _ (k7.set r1 k2))⟩
          unfold atI
          rw [k4, e5]
          exact k5
        | _ => cases he
      | _ => cases he
    | _ => cases he
  | _ => cases he
end
section
variable {X : Cx} {Φ : Cf} {fr : Fr} {Γ : List Ty} {ret : Ty} {wx : Xw} {pos : Pos} {P P' : List Nat}
variable (Φ Γ P ret wx) in
def xS (K : PySem.W.Frag) (s : Ss) : TS := fun D σ H => ∃ fr, Pin P fr ∧ tSs Φ fr Γ ret wx K s D σ H
theorem ps_x {l : List Stmt} {s : Ss} (h : ∀ fr, Pin P fr → PSs X l (tSs Φ fr Γ ret wx X.K s)) : PSs X l (xS Φ Γ ret wx P X.K s) := ⟨fun pins s σ H D I ⟨fr, hp, hw⟩ => (h fr hp).run pins s σ H D I hw⟩
theorem s_for {tgt iter : Expr} {body : List Stmt} {tg : Tg} {it : Iv} {b : Ss} (hp : PassesOwn (model X.prog X.w) X.A X.env X.xe) (hc : X.calm = true) (hpin : Pin P fr) (h1 : ∀ i ∈ P, i ∈ P') (h2 : ∀ i ∈ itB it, i ∈ P') (hi : PI X tgt iter (tIt Φ fr Γ X.K it))
    (hg : ∀ fr, Pin P' fr → PG X tgt (tG fr Γ X.K tg)) (hb : ∀ fr, Pin P' fr → PSs X body (tSs Φ fr Γ ret wx X.K b)) (hs : noSet iter = true) : PS X (.For tgt iter body [] pos) (tS Φ fr Γ ret wx X.K (.for tg it b)) := by
  refine PS_mono (ps_for hp hc hi (pg_x hg) (ps_x hb) (folded_of hs)) fun D σ H h => ?_
  obtain ⟨ρ, ts, r, sr, he, q⟩ := h
  obtain ⟨ra, e1, he⟩ := bind_inv he
  obtain ⟨rq, e2, e3⟩ := bind_inv he
  clear he
  refine ⟨ρ, ts, ra, sr, e1, fun J H1 us fr' s1 wk => ?_⟩
  have pin' : Pin P' fr' := wk.pin hpin (evI_b e1) h1 h2
  have go1 : ∀ (i : Nat) (ρ : Rho) (σ : Sg) (H : Hp) (h : i < ra.1.length), SR fr' X.K Γ ρ σ (ts ++ us) H → J.go i H ∧ ∀ x H', J.yld i H x H' → SR fr' X.K Γ ρ σ (ts ++ us ++ [⟨.fro, ra.1[i], x⟩]) H' := fun i ρ σ H h s => by
    have g := wk.go i ρ σ [] H h (by rw [List.append_nil]; exact s)
    rw [List.append_nil] at g
    exact g
  refine ⟨fun i m σ H => m = ra.1.length - i ∧ i ≤ ra.1.length ∧ ∃ ρ, SR fr' X.K Γ ρ σ (ts ++ us) H ∧ forL (fun d ρ => (tgD tg d ρ).bind fun ρ1 => exSs Φ b ρ1) (ra.1.drop i) ρ = some rq, ⟨_, rfl, Nat.zero_le _, _, s1, e2⟩, ?_⟩
  rintro i m σ1 H2 ⟨rfl, hi, ρ1, s, ef⟩
  by_cases hlt : i < ra.1.length
  · rw [List.drop_eq_getElem_cons hlt] at ef
    obtain ⟨rs, c1, c2⟩ := bind_inv ef
    clear ef
    obtain ⟨g1, g2⟩ := go1 i _ _ H2 hlt s
    refine .inr ⟨g1, fun σ' H' => ∃ ρ, SR fr' X.K Γ ρ σ' (ts ++ us) H' ∧ forL (fun d ρ => (tgD tg d ρ).bind fun ρ1 => exSs Φ b ρ1) (ra.1.drop (i + 1)) ρ = some rq, fun σ' H' ⟨ρ', a1, a2⟩ => ⟨ra.1.length - (i + 1), by omega, rfl, hlt, ρ', a1, a2⟩, fun x H' yl => ?_⟩
    have s2 := g2 x H' yl
    obtain ⟨ρ2, d1, d2⟩ := bind_inv c1
    clear c1
    refine ⟨fr', pin', _, _, _, ρ2, s2, d1, fun σ2 H3 bt s3 => ⟨fr', pin', ρ2, _, rs, s3, d2, ?_⟩⟩
    cases rs with
    | nx ρ3 => exact fun σ3 H4 s4 => ⟨ρ3, s4, c2⟩
    | cnt ρ3 => exact fun σ3 H4 s4 => ⟨ρ3, s4, c2⟩
    | brk ρ3 =>
      have c2 : some (Rs.nx ρ3) = some rq := c2
      cases c2
      obtain ⟨ρ4, e4, rfl⟩ := map_inv e3
      exact fun σ3 H4 s4 => q σ3 H4 (wk.rest _ _ _ _ _ s4 e4)
    | ret d ρ3 =>
      have c2 : some (Rs.ret d ρ3) = some rq := c2
      cases c2
      have e3 : some (Rs.ret d ρ3) = some r := e3
      cases e3
      refine fun v σ3 H4 us2 s4 => q v σ3 H4 (us ++ us2) ?_
      rw [← List.append_assoc]
      exact wk.weak _ _ _ _ s4
    | exn x fs ρ3 =>
      have c2 : some (Rs.exn x fs ρ3) = some rq := c2
      cases c2
      have e3 : some (Rs.exn x fs ρ3) = some r := e3
      cases e3
      refine fun σ3 H4 us2 vs C dd s4 => q σ3 H4 (us ++ us2) vs C dd ?_
      rw [← List.append_assoc]
      exact wk.weak _ _ _ _ s4
  · have ei : i = ra.1.length := by omega
    subst ei
    rw [List.drop_length] at ef
    have ef : some (Rs.nx ρ1) = some rq := ef
    cases ef
    obtain ⟨ρ4, e4, rfl⟩ := map_inv e3
    refine .inl ⟨wk.stop _ _ [] H2 (by rw [List.append_nil]; exact s), q _ _ (wk.rest _ _ _ _ _ s e4)⟩
theorem s_wh {c : Expr} {body : List Stmt} {t : T} {b : Ss} (hp : PassesOwn (model X.prog X.w) X.A X.env X.xe) (hc : PT X c (tT Φ fr X.K Γ t)) (hb : PSs X body (tSs Φ fr Γ ret wx X.K b)) : PS X (.While c body [] pos) (tS Φ fr Γ ret wx X.K (.wh t b)) := by
  refine PS_mono (ps_while hp hc hb) fun D σ H h => ?_
  obtain ⟨ρ, ts, r, sr, he, q⟩ := h
  have he : whL (fun ρ => evT Φ t ρ) (fun ρ => exSs Φ b ρ) Φ.W ρ = some r := he
  refine ⟨fun n σ H => ∃ ρ, SR fr X.K Γ ρ σ ts H ∧ whL (fun ρ => evT Φ t ρ) (fun ρ => exSs Φ b ρ) n ρ = some r, ⟨_, _, sr, he⟩, ?_⟩
  rintro n σ1 H1 ⟨ρ1, s, e⟩
  cases n with
  | zero => cases e
  | succ n =>
    obtain ⟨rb, e1, e2⟩ := bind_inv e
    clear e
    refine ⟨ρ1, ts, rb, s, e1, fun H2 s2 => ?_⟩
    by_cases hb : rb.1 = true
    · rw [if_pos hb] at e2 ⊢
      obtain ⟨rs, e3, e4⟩ := bind_inv e2
      clear e2
      refine ⟨fun σ' H' => ∃ ρ, SR fr X.K Γ ρ σ' ts H' ∧ whL (fun ρ => evT Φ t ρ) (fun ρ => exSs Φ b ρ) n ρ = some r, fun σ' H' h => ⟨n, Nat.lt_succ_self _, h⟩, rb.2, ts, rs, s2, e3, ?_⟩
      cases rs with
      | nx ρ3 => exact fun σ3 H4 s4 => ⟨ρ3, s4, e4⟩
      | cnt ρ3 => exact fun σ3 H4 s4 => ⟨ρ3, s4, e4⟩
      | brk ρ3 =>
        have e4 : some (Rs.nx ρ3) = some r := e4
        cases e4
        exact q
      | ret d ρ3 =>
        have e4 : some (Rs.ret d ρ3) = some r := e4
        cases e4
        exact q
      | exn x fs ρ3 =>
        have e4 : some (Rs.exn x fs ρ3) = some r := e4
        cases e4
        exact q
    · rw [if_neg hb] at e2 ⊢
      cases e2
      exact q _ _ s2
end
end Vw
namespace Vw
open PySem PySem.Spec PyProof.Rows L2
/-! ### a def's names, looked at -/
structure Ct where
  N : List Str
  sc : Scope
  cl : Str → Bool
  gl : List (Str × Int)
def blAll : List Str := ["len", "tuple", "list", "sum", "min", "max", "sorted", "all", "any", "abs", "int", "range", "enumerate", "zip", "set", "isinstance", "bool", "str", "repr"]
structure Gd (X : Cx) (c : Ct) : Prop where
  N : X.N = c.N
  nd : c.N.Nodup
  sc : X.env.scope = c.sc
  kd : c.sc.kind = .function
  calm : X.calm = true
  pas : PassesOwn (model X.prog X.w) X.A X.env X.xe
  cl : ∀ x, c.cl x = true → X.fn x = true
  un : X.A.units + 100 < cLine
  bl : ∀ x, x ∈ blAll → X.mg x = none
  gl : ∀ p ∈ c.gl, ∃ t, X.mg p.1 = some (.int p.2 t)
def visK : Option NameKind → Bool
  | some .local => true
  | some .cell => true
  | some .free => true
  | _ => false
def vC (c : Ct) (Γ : List Ty) (i : Nat) (x : Str) (t : Ty) : Bool := decide (c.N[i]? = some x) && visK (c.sc.names.lookup x) && decide (Γ[i]? = some t) && !(x == ("__debug__" : Str)) && !(x == ("__classdict__" : Str))
def glC (c : Ct) (x : Str) : Bool := decide (c.sc.names.lookup x = some .globalImplicit)
def blC (c : Ct) (x : Str) : Bool := glC c x && decide (x ∈ blAll)
def lcC (c : Ct) (x : Str) : Bool := match c.sc.names.lookup x with
  | some .local => true
  | some .cell => c.cl x
  | _ => false
def sC (c : Ct) (Γ : List Ty) (P : List Nat) (i : Nat) (x : Str) (t : Ty) : Bool := decide (c.N[i]? = some x) && lcC c x && decide (Γ[i]? = some t) && decide (i ∉ P)
def Ct.blk (c : Ct) (scope : Scope) : Ct := ⟨c.N, relS scope c.sc, fun x => scope.names.lookup x == some .cell, c.gl⟩
/-- a callee -/
structure Cal (X : Cx) (Φ : Cf) (x : Str) (g : Sig) : Prop where
  ex : ∃ (k : Nat) (f : Addr) (fd : FuncData) (ps : List Str), FnOk X.prog X.w X.K X.mg X.base CX0 k f fd ps (spI X.K g (Φ.fn x)) ∧ Room k X.A ∧ X.mg x = some (.ref f) ∧ PySem.W.keepIn X.K (.ref f) = true ∧ Binds X.K fd ps []
section
variable {X : Cx} {c : Ct} {Φ : Cf} {fr : Fr} {Γ : List Ty} {w : Ty} {ret : Ty} {wx : Xw} {pos : Pos} {P P' : List Nat}
theorem vC_of {i : Nat} {x : Str} {t : Ty} (gd : Gd X c) (h : vC c Γ i x t = true) : X.N[i]? = some x ∧ Vis X.env.scope x ∧ Γ[i]? = some t ∧ (x == ("__debug__" : Str)) = false ∧ (x == ("__classdict__" : Str)) = false := by
  unfold vC at h
  simp only [Bool.and_eq_true, decide_eq_true_eq, Bool.not_eq_true'] at h
  obtain ⟨⟨⟨⟨h1, h2⟩, h3⟩, h4⟩, h5⟩ := h
  refine ⟨by rw [gd.N]; exact h1, ?_, h3, h4, h5⟩
  unfold Vis
  rw [gd.sc]
  cases e : c.sc.names.lookup x with
  | none => rw [e] at h2; cases h2
  | some k =>
    rw [e] at h2
    cases k <;> first | exact .inl rfl | exact .inr (.inl rfl) | exact .inr (.inr rfl) | cases h2
theorem glC_of {x : Str} (gd : Gd X c) (h : glC c x = true) : Gl X x := by
  have h : c.sc.names.lookup x = some .globalImplicit := of_decide_eq_true h
  show X.env.scope.names.lookup x = _
  rw [gd.sc]
  exact h
theorem blC_of {x : Str} (gd : Gd X c) (h : blC c x = true) : Gl X x ∧ X.mg x = none := by
  obtain ⟨h1, h2⟩ := Bool.and_eq_true_iff.mp h
  exact ⟨glC_of gd h1, gd.bl x (of_decide_eq_true h2)⟩
theorem lcC_of {x : Str} (gd : Gd X c) (h : lcC c x = true) : L2.Loc X.env.scope x ∧ (X.fn x = true ∨ X.env.scope.names.lookup x = some .local) := by
  unfold L2.Loc
  rw [gd.sc]
  unfold lcC at h
  cases e : c.sc.names.lookup x with
  | none => rw [e] at h; cases h
  | some k =>
    rw [e] at h
    cases k <;> first | exact ⟨.inl rfl, .inr rfl⟩ | exact ⟨.inr rfl, .inl (gd.cl x h)⟩ | cases h
theorem sC_of {i : Nat} {x : Str} {t : Ty} (gd : Gd X c) (hp : Pin P fr) (h : sC c Γ P i x t = true) : X.N.Nodup ∧ X.N[i]? = some x ∧ L2.Loc X.env.scope x ∧ (X.fn x = true ∨ X.env.scope.names.lookup x = some .local) ∧ Γ[i]? = some t ∧ (∀ p ∈ fr.pins, p.1 ≠ i) := by
  unfold sC at h
  simp only [Bool.and_eq_true, decide_eq_true_eq] at h
  obtain ⟨⟨⟨h1, h2⟩, h3⟩, h4⟩ := h
  obtain ⟨l1, l2⟩ := lcC_of gd h2
  exact ⟨by rw [gd.N]; exact gd.nd, by rw [gd.N]; exact h1, l1, l2, h3, pin_ne hp h4⟩
theorem Gd.u64 (gd : Gd X c) : X.A.units + 64 < cLine := by
  have := gd.un
  omega
theorem Gd.u65 (gd : Gd X c) : X.A.units + 65 < cLine := by
  have := gd.un
  omega
theorem Gd.blk (gd : Gd X c) {s : Shared} {H : Hp} {scope : Scope} {C : Addr} {cl : List (Str × Addr)} {fp : List Addr} (h : scope.kind = .function) : Gd (X.blk s H scope (compEnvC scope cl C X.env) fp) (c.blk scope) where
  N := gd.N
  nd := gd.nd
  sc := by
    show relS scope X.env.scope = relS scope c.sc
    rw [gd.sc]
  kd := h
  calm := gd.calm
  pas := PassesOwn.never
  cl := fun x hx => hx
  un := gd.un
  bl := gd.bl
  gl := gd.gl
theorem Cal.blk {x : Str} {g : Sig} (h : Cal X Φ x g) {s : Shared} {H : Hp} {scope : Scope} {C : Addr} {cl : List (Str × Addr)} {fp : List Addr} : Cal (X.blk s H scope (compEnvC scope cl C X.env) fp) Φ x g := ⟨h.ex⟩
/-! expressions -/
theorem k_v (gd : Gd X c) (i : Nat) {x : Str} (h : vC c Γ i x .fro = true) : PE X (.Name x pos) (tE Φ fr X.K Γ .fro (.v i)) := by
  obtain ⟨h1, h2, h3, h4, h5⟩ := vC_of gd h
  exact e_v h1 h2 h3 h4 h5
theorem k_mv (gd : Gd X c) (i : Nat) {x : Str} (t : Ty) (h : (vC c Γ i x t && decide (w = t ∨ w = .fro)) = true) : PE X (.Name x pos) (tE Φ fr X.K Γ w (.mv i)) := by
  obtain ⟨h, h6⟩ := Bool.and_eq_true_iff.mp h
  obtain ⟨h1, h2, h3, h4, h5⟩ := vC_of gd h
  exact e_mv h1 h2 h3 (of_decide_eq_true h6) h4 h5
theorem k_os (gd : Gd X c) (i : Nat) {x : Str} (h : vC c Γ i x (.lst .fro) = true) : PE X (.Name x pos) (tO Φ fr X.K Γ (.s i)) := by
  obtain ⟨h1, h2, h3, h4, h5⟩ := vC_of gd h
  exact o_s h1 h2 h3 h4 h5
theorem k_ts (gd : Gd X c) (i : Nat) {x : Str} (h : vC c Γ i x (.lst .fro) = true) : PT X (.Name x pos) (tT Φ fr X.K Γ (.sl i)) := by
  obtain ⟨h1, h2, h3, h4, h5⟩ := vC_of gd h
  exact t_sl h1 h2 h3 h4 h5
theorem k_ws (gd : Gd X c) (i : Nat) {x : Str} (h : vC c Γ i x (.lst .fro) = true) : PE X (.Name x pos) (tW Φ fr Γ X.K (.s i)) := by
  obtain ⟨h1, h2, h3, h4, h5⟩ := vC_of gd h
  exact w_s h1 h2 h3 h4 h5
theorem k_iv (gd : Gd X c) (i : Nat) {x : Str} (h : vC c Γ i x .fro = true) : PE X (.Name x pos) (tI Φ fr Γ X.K (.v i)) := by
  obtain ⟨h1, h2, h3, h4, h5⟩ := vC_of gd h
  exact i_v h1 h2 h3 h4 h5
theorem k_i {n : Int} {j : Nat} : PE X (.Constant (.int n) j pos) (tE Φ fr X.K Γ w (.k (.int n))) := e_k pe_int rfl fun G => .int n
theorem k_b {b : Bool} {j : Nat} : PE X (.Constant (.bool b) j pos) (tE Φ fr X.K Γ w (.k (.bool b))) := e_k pe_bl rfl fun G => .bl b
theorem k_n {j : Nat} : PE X (.Constant .none j pos) (tE Φ fr X.K Γ w (.k .none)) := e_k pe_non rfl fun G => .non
theorem k_s {x : Str} {j : Nat} : PE X (.Constant (.str x) j pos) (tE Φ fr X.K Γ w (.k (.str x))) := e_k pe_str rfl fun G => .str x
theorem k_ii {n : Int} {j : Nat} : PE X (.Constant (.int n) j pos) (tI Φ fr Γ X.K (.k (.int n))) := i_k pe_int fun G => .int n
theorem k_cm (o : Cm) {a b : Expr} {ea eb : E} (ha : PE X a (tE Φ fr X.K Γ .fro ea)) (hb : PE X b (tE Φ fr X.K Γ .fro eb)) : PE X (.Compare a [opC o] [b] pos) (tE Φ fr X.K Γ w (.cm o ea eb)) :=
  PE_mono (pe_cmpR (op_cm o) ha hb (nobehind b (opC_in o).1 (opC_in o).2)) fun σ H Q h => m_cm o h
theorem k_cmT (o : Cm) {a b : Expr} {ea eb : E} (ha : PE X a (tE Φ fr X.K Γ .fro ea)) (hb : PE X b (tE Φ fr X.K Γ .fro eb)) : PT X (.Compare a [opC o] [b] pos) (tT Φ fr X.K Γ (.e (.cm o ea eb))) :=
  t_cmp (pt_cmpR (op_cm o) ha hb (nobehind b (opC_in o).1 (opC_in o).2)) rfl fun σ H Q h => m_cm o h
theorem k_ch (o o2 : Cm) {a b e : Expr} {ea eb ee : E} (ha : PE X a (tE Φ fr X.K Γ .fro ea)) (hb : PE X b (tE Φ fr X.K Γ .fro eb)) (he : PE X e (tE Φ fr X.K Γ .fro ee)) : PE X (.Compare a [opC o, opC o2] [b, e] pos) (tE Φ fr X.K Γ w (.ch o o2 ea eb ee)) :=
  PE_mono (pe_chain (op_cm o) (op_cm o2) ha hb he (nobehind e (opC_in o2).1 (opC_in o2).2)) fun σ H Q h => m_ch o o2 h
theorem k_chT (o o2 : Cm) {a b e : Expr} {ea eb ee : E} (ha : PE X a (tE Φ fr X.K Γ .fro ea)) (hb : PE X b (tE Φ fr X.K Γ .fro eb)) (he : PE X e (tE Φ fr X.K Γ .fro ee)) : PT X (.Compare a [opC o, opC o2] [b, e] pos) (tT Φ fr X.K Γ (.e (.ch o o2 ea eb ee))) :=
  t_cmp (pt_chain (op_cm o) (op_cm o2) ha hb he (nobehind e (opC_in o2).1 (opC_in o2).2)) rfl fun σ H Q h => m_ch o o2 h
theorem k_eq (gd : Gd X c) (ng : Bool) {a b : Expr} {ea eb : E} (ha : PE X a (tE Φ fr X.K Γ .fro ea)) (hb : PE X b (tE Φ fr X.K Γ .fro eb)) : PE X (.Compare a [if ng then .NotEq else .Eq] [b] pos) (tE Φ fr X.K Γ w (.eq ng ea eb)) :=
  PE_mono (pe_cmpR (op_eqG gd.u64 ng) ha hb (nobehind b (eqop_in ng).1 (eqop_in ng).2)) fun σ H Q h => m_eq ng h
theorem k_eqT (gd : Gd X c) (ng : Bool) {a b : Expr} {ea eb : E} (ha : PE X a (tE Φ fr X.K Γ .fro ea)) (hb : PE X b (tE Φ fr X.K Γ .fro eb)) : PT X (.Compare a [if ng then .NotEq else .Eq] [b] pos) (tT Φ fr X.K Γ (.e (.eq ng ea eb))) :=
  t_cmp (pt_cmpR (op_eqG gd.u64 ng) ha hb (nobehind b (eqop_in ng).1 (eqop_in ng).2)) rfl fun σ H Q h => m_eq ng h
theorem k_is (ng : Bool) {a : Expr} {j : Nat} {p : Pos} {ea : E} (ha : PE X a (tE Φ fr X.K Γ .fro ea)) : PE X (.Compare a [if ng then .IsNot else .Is] [.Constant .none j p] pos) (tE Φ fr X.K Γ w (.isn ng ea)) :=
  PE_mono (pe_cmpR (op_isG ng) ha pe_non (nobehind _ (isop_in ng).1 (isop_in ng).2)) fun σ H Q h => m_isn ng h
theorem k_isT (ng : Bool) {a : Expr} {j : Nat} {p : Pos} {ea : E} (ha : PE X a (tE Φ fr X.K Γ .fro ea)) : PT X (.Compare a [if ng then .IsNot else .Is] [.Constant .none j p] pos) (tT Φ fr X.K Γ (.e (.isn ng ea))) :=
  t_cmp (pt_cmpR (op_isG ng) ha pe_non (nobehind _ (isop_in ng).1 (isop_in ng).2)) rfl fun σ H Q h => m_isn ng h
theorem k_in (ng : Bool) {a b : Expr} {ea : E} {ob : O} (ha : PE X a (tE Φ fr X.K Γ .fro ea)) (hb : PE X b (tO Φ fr X.K Γ ob)) (hn : noSet b = true) : PE X (.Compare a [if ng then .NotIn else .In] [b] pos) (tE Φ fr X.K Γ w (.inn ng ea ob)) :=
  PE_mono (pe_cmpR (op_inG ng) ha hb (by cases b <;> first | rfl | cases hn)) fun σ H Q h => m_inn ng h
theorem k_inT (ng : Bool) {a b : Expr} {ea : E} {ob : O} (ha : PE X a (tE Φ fr X.K Γ .fro ea)) (hb : PE X b (tO Φ fr X.K Γ ob)) (hn : noSet b = true) : PT X (.Compare a [if ng then .NotIn else .In] [b] pos) (tT Φ fr X.K Γ (.e (.inn ng ea ob))) :=
  t_cmp (pt_cmpR (op_inG ng) ha hb (by cases b <;> first | rfl | cases hn)) rfl fun σ H Q h => m_inn ng h
theorem k_b1 (gd : Gd X c) (f : B1) {a : Expr} {oa : O} {p : Pos} (ha : PE X a (tO Φ fr X.K Γ oa)) (h : (noStar a && blC c (PySem.Str.ofString (b1S f)) && okB1 f w) = true) :
    PE X (.Call (.Name (PySem.Str.ofString (b1S f)) p) [a] [] pos) (tE Φ fr X.K Γ w (.b1 f oa)) := by
  simp only [Bool.and_eq_true] at h
  exact e_b1 gd.calm f ha h.1.1 (blC_of gd h.1.2).1 (blC_of gd h.1.2).2 h.2
theorem k_b2 (gd : Gd X c) (f : B2) {a b : Expr} {ea eb : E} {p : Pos} (ha : PE X a (tE Φ fr X.K Γ .fro ea)) (hb : PE X b (tE Φ fr X.K Γ .fro eb)) (h : (noStar a && noStar b && blC c (PySem.Str.ofString (b2S f))) = true) :
    PE X (.Call (.Name (PySem.Str.ofString (b2S f)) p) [a, b] [] pos) (tE Φ fr X.K Γ w (.b2 f ea eb)) := by
  simp only [Bool.and_eq_true] at h
  exact e_b2 gd.calm f ha hb h.1.1 h.1.2 (blC_of gd h.2).1 (blC_of gd h.2).2
theorem k_ix2 (gd : Gd X c) (i : Nat) {x : Str} {a b : Expr} {ea eb : E} {px p2 : Pos} (ha : PE X a (tE Φ fr X.K Γ .fro ea)) (hb : PE X b (tI Φ fr Γ X.K eb)) (h : (vC c Γ i x (.lst (.lst .fro)) && notSlice a && notSlice b && stE eb) = true) :
    PE X (.Subscript (.Subscript (.Name x px) a p2) b pos) (tE Φ fr X.K Γ .fro (.ix2 i ea eb)) := by
  simp only [Bool.and_eq_true] at h
  obtain ⟨h1, h2, h3, h4, h5⟩ := vC_of gd h.1.1.1
  exact e_ix2 h1 h2 h3 h4 h5 ha hb h.1.1.2 h.1.2 h.2
theorem k_call (gd : Gd X c) {x : Str} {g : Sig} (cal : Cal X Φ x g) {as : As} {args : List Expr} {p : Pos} (ha : PA X args (tA Φ fr Γ X.K g.ps as))
    (h : (noStars args && !args.isEmpty && glC c x && !(x == ("__debug__" : Str)) && decide ((iosA as).Nodup) && decide (w = g.ret ∨ w = .fro) && (!(hasBo as) || (decide (iosA as = []) && decide (g.ret = .fro)))) = true) :
    PE X (.Call (.Name x p) args [] pos) (tE Φ fr X.K Γ w (.call x as)) := by
  obtain ⟨k, f, fd, ps, F, hr, hm, hk, hb⟩ := cal.ex
  simp only [Bool.and_eq_true, Bool.or_eq_true, decide_eq_true_eq, Bool.not_eq_true'] at h
  obtain ⟨⟨⟨⟨⟨⟨h1, h2⟩, h3⟩, h4⟩, h5⟩, h6⟩, h7⟩ := h
  exact e_call F hr (glC_of gd h3) hm hk hb ha h1 h2 h4 h5 h6 fun hh => h7.elim (fun z => by rw [hh] at z; cases z) fun z => z
theorem k_io (gd : Gd X c) (i : Nat) {x : Str} {t : Ty} {es : List Expr} {as : As} {ps : List Ty} (h : vC c Γ i x t = true) (hb : PA X es (tA Φ fr Γ X.K ps as)) : PA X (.Name x pos :: es) (tA Φ fr Γ X.K (t :: ps) (.io i as)) := by
  obtain ⟨h1, h2, h3, h4, h5⟩ := vC_of gd h
  exact a_io h1 h2 h3 h4 h5 hb
theorem k_bo (gd : Gd X c) (i : Nat) {x : Str} {t : Ty} {es : List Expr} {as : As} {ps : List Ty} (h : vC c Γ i x t = true) (hb : PA X es (tA Φ fr Γ X.K ps as)) : PA X (.Name x pos :: es) (tA Φ fr Γ X.K (.fro :: ps) (.bo i as)) := by
  obtain ⟨h1, h2, h3, h4, h5⟩ := vC_of gd h
  exact a_bo h1 h2 h4 h5 hb
theorem k_pop (gd : Gd X c) (i : Nat) {x : Str} {px ap : Pos} (h : (vC c Γ i x (.lst .fro) && (ap.endLine == pos.line)) = true) : PE X (.Call (.Attribute (.Name x px) "pop" ap) [] [] pos) (tE Φ fr X.K Γ .fro (.pop i)) := by
  obtain ⟨h, h6⟩ := Bool.and_eq_true_iff.mp h
  obtain ⟨h1, h2, h3, h4, h5⟩ := vC_of gd h
  exact e_pop h1 h2 h3 h4 h5 h6
theorem k_popat (gd : Gd X c) (i : Nat) {x : Str} {px ap : Pos} {e : Expr} {ea : E} (ha : PE X e (tE Φ fr X.K Γ .fro ea)) (h : (vC c Γ i x (.lst .fro) && (ap.endLine == pos.line) && noStar e) = true) : PE X (.Call (.Attribute (.Name x px) "pop" ap) [e] [] pos) (tE Φ fr X.K Γ .fro (.popat i ea)) := by
  obtain ⟨h, h7⟩ := Bool.and_eq_true_iff.mp h
  obtain ⟨h, h6⟩ := Bool.and_eq_true_iff.mp h
  obtain ⟨h1, h2, h3, h4, h5⟩ := vC_of gd h
  exact e_popat h1 h2 h3 h4 h5 h6 ha h7
/-! targets, walks -/
theorem k_gn (gd : Gd X c) (hp : Pin P fr) (i : Nat) {x : Str} (h : sC c Γ P i x .fro = true) : PG X (.Name x pos) (tG fr Γ X.K (.n i)) := by
  obtain ⟨h1, h2, h3, h4, h5, h6⟩ := sC_of gd hp h
  exact g_n h1 h2 h3 h4 h5 h6
theorem k_gt (gd : Gd X c) {es : List Expr} {l : Tgs} {k : Nat} (h : PGs X es (tGs fr Γ X.K l)) (hs : (noStars es && decide (tgsLen l = es.length)) = true) : PG X (.Tuple es k pos) (tG fr Γ X.K (.t l)) := by
  simp only [Bool.and_eq_true, decide_eq_true_eq] at hs
  exact g_t gd.calm h hs.1 hs.2
theorem k_r1 (gd : Gd X c) {tg a : Expr} {ea : E} {p : Pos} (ha : PE X a (tE Φ fr X.K Γ .fro ea)) (h : (blC c "range" && noStar a) = true) : PI X tg (.Call (.Name "range" p) [a] [] pos) (tIt Φ fr Γ X.K (.r1 ea)) := by
  simp only [Bool.and_eq_true] at h
  exact it_r1 (blC_of gd h.1).1 (blC_of gd h.1).2 ha h.2
theorem k_r2 (gd : Gd X c) {tg a b : Expr} {ea eb : E} {p : Pos} (ha : PE X a (tE Φ fr X.K Γ .fro ea)) (hb : PE X b (tE Φ fr X.K Γ .fro eb)) (h : (blC c "range" && noStar a && noStar b) = true) : PI X tg (.Call (.Name "range" p) [a, b] [] pos) (tIt Φ fr Γ X.K (.r2 ea eb)) := by
  simp only [Bool.and_eq_true] at h
  exact it_r2 (blC_of gd h.1.1).1 (blC_of gd h.1.1).2 ha hb h.1.2 h.2
theorem k_r3 (gd : Gd X c) {tg a b e : Expr} {ea eb ee : E} {p : Pos} (ha : PE X a (tE Φ fr X.K Γ .fro ea)) (hb : PE X b (tE Φ fr X.K Γ .fro eb)) (he : PE X e (tE Φ fr X.K Γ .fro ee)) (h : (blC c "range" && noStar a && noStar b && noStar e) = true) : PI X tg (.Call (.Name "range" p) [a, b, e] [] pos) (tIt Φ fr Γ X.K (.r3 ea eb ee)) := by
  simp only [Bool.and_eq_true] at h
  exact it_r3 (blC_of gd h.1.1.1).1 (blC_of gd h.1.1.1).2 ha hb he h.1.1.2 h.1.2 h.2
theorem k_en (gd : Gd X c) {a : Expr} {oa : O} {p tpos : Pos} {elts : List Expr} {kk : Nat} (ha : PE X a (tW Φ fr Γ X.K oa)) (h : (blC c "enumerate" && noStar a) = true) : PI X (.Tuple elts kk tpos) (.Call (.Name "enumerate" p) [a] [] pos) (tIt Φ fr Γ X.K (.en oa)) := by
  simp only [Bool.and_eq_true] at h
  exact it_en (blC_of gd h.1).1 (blC_of gd h.1).2 ha h.2
theorem k_zp (gd : Gd X c) {a b : Expr} {ea eb : E} {p tpos : Pos} {elts : List Expr} {kk : Nat} (ha : PE X a (tE Φ fr X.K Γ .fro ea)) (hb : PE X b (tE Φ fr X.K Γ .fro eb)) (h : (blC c "zip" && noStar a && noStar b) = true) : PI X (.Tuple elts kk tpos) (.Call (.Name "zip" p) [a, b] [] pos) (tIt Φ fr Γ X.K (.zp ea eb)) := by
  simp only [Bool.and_eq_true] at h
  exact it_zp (blC_of gd h.1.1).1 (blC_of gd h.1.1).2 ha hb h.1.2 h.2
/-! comprehensions -/
def inAll (l m : List Nat) : Bool := l.all fun i => decide (i ∈ m)
theorem inAll_of {l m : List Nat} (h : inAll l m = true) : ∀ i ∈ l, i ∈ m := fun i hi => of_decide_eq_true (List.all_eq_true.mp h i hi)
def cmpC (c : Ct) (P P' : List Nat) (it : Iv) (tg : Tg) (own : List (Str × Nat)) (scope : Scope) (iter : Expr) : Bool :=
  inAll P P' && inAll (itB it) P' && (P'.all fun i => decide (i ∉ own.map (·.2))) && inAll (tgSl tg) (own.map (·.2)) && blkC c.N c.sc scope own && noSet iter
theorem blk_kind {N : List Str} {sc scope : Scope} {own : List (Str × Nat)} (h : blkC N sc scope own = true) : scope.kind = .function := (blkOk_by h).kind
theorem k_comp (gd : Gd X c) (hpin : Pin P fr) (P' : List Nat) (own : List (Str × Nat)) {t : Ty} {elt tgt iter : Expr} {ifs : List Expr} {scope : Scope} {eelt : E} {tg : Tg} {it : Iv} {cd : Ot} (m : Made t w)
    (h : cmpC c P P' it tg own scope iter = true) (hi : PI X tgt iter (tIt Φ fr Γ X.K it))
    (hg : ∀ (X' : Cx), Gd X' (c.blk scope) → (∀ x g, Cal X Φ x g → Cal X' Φ x g) → ∀ fr, Pin P' fr → PG X' tgt (tG fr Γ X'.K tg))
    (ht : ∀ (X' : Cx), Gd X' (c.blk scope) → (∀ x g, Cal X Φ x g → Cal X' Φ x g) → PTs X' ifs (xC Φ Γ P' X'.K cd))
    (he : ∀ (X' : Cx), Gd X' (c.blk scope) → (∀ x g, Cal X Φ x g → Cal X' Φ x g) → ∀ fr, Pin P' fr → PE X' elt (tE Φ fr X'.K Γ t eelt)) :
    PE X (.ListComp elt [⟨tgt, iter, ifs, 0⟩] scope pos) (tE Φ fr X.K Γ w (.comp eelt tg it cd (own.map (·.2)))) := by
  unfold cmpC at h
  simp only [Bool.and_eq_true] at h
  obtain ⟨⟨⟨⟨⟨h1, h2⟩, h3⟩, h4⟩, h5⟩, h6⟩ := h
  have hk := blk_kind h5
  refine e_comp m gd.calm (by rw [gd.N]; exact gd.nd) hpin (inAll_of h1) (inAll_of h2) (fun i hi => of_decide_eq_true (List.all_eq_true.mp h3 i hi)) (inAll_of h4) hi (by rw [gd.N, gd.sc]; exact blkOk_by h5) h6 ?_ ?_ ?_
  · exact fun s H C cl fp fr hp => hg _ (gd.blk hk) (fun x g h => h.blk) fr hp
  · exact fun s H C cl fp => ht _ (gd.blk hk) (fun x g h => h.blk)
  · exact fun s H C cl fp fr hp => he _ (gd.blk hk) (fun x g h => h.blk) fr hp
/-! statements -/
theorem k_set (gd : Gd X c) (hp : Pin P fr) (i : Nat) (t : Ty) {x : Str} {e : Expr} {ee : E} {px : Pos} (he : PE X e (tE Φ fr X.K Γ t ee)) (h : (sC c Γ P i x t && noComp e) = true) : PS X (.Assign [.Name x px] e pos) (tS Φ fr Γ ret wx X.K (.set i ee)) := by
  obtain ⟨h, h7⟩ := Bool.and_eq_true_iff.mp h
  obtain ⟨h1, h2, h3, h4, h5, h6⟩ := sC_of gd hp h
  exact s_set h1 h2 h3 h4 h5 h6 (swaps_no h7) he
theorem swaps_cell {elt : Expr} {gs : List Comprehension} {scope : Scope} {cp py : Pos} {y : Str} {l : Nat} {env : Env} (h : env.scope.names.lookup y = some .cell) : swapsWith (.ListComp elt gs scope cp) (some (.Name y py)) l env = pure false := by
  have hk : env.kindOf y = some .cell := h
  unfold swapsWith
  simp only [hk]
  have e : ((some NameKind.cell : Option NameKind) == some .local) = false := by decide
  simp only [e, Bool.and_false, Bool.false_and]
theorem k_setK (gd : Gd X c) (hp : Pin P fr) (i : Nat) (t : Ty) {x : Str} {elt : Expr} {gs : List Comprehension} {scope : Scope} {cp : Pos} {ee : E} {px : Pos} (he : PE X (.ListComp elt gs scope cp) (tE Φ fr X.K Γ t ee)) (h : (sC c Γ P i x t && decide (c.sc.names.lookup x = some .cell)) = true) : PS X (.Assign [.Name x px] (.ListComp elt gs scope cp) pos) (tS Φ fr Γ ret wx X.K (.set i ee)) := by
  obtain ⟨h, h7⟩ := Bool.and_eq_true_iff.mp h
  obtain ⟨h1, h2, h3, h4, h5, h6⟩ := sC_of gd hp h
  exact s_set h1 h2 h3 h4 h5 h6 (swaps_cell (by rw [gd.sc]; exact of_decide_eq_true h7)) he
theorem k_setC (gd : Gd X c) (hpin : Pin P fr) (i : Nat) (w : Ty) (P' : List Nat) (own : List (Str × Nat)) {x : Str} {px cp : Pos} {t : Ty} {elt tgt iter : Expr} {ifs : List Expr} {scope : Scope} {eelt : E} {tg : Tg} {it : Iv} {cd : Ot} (m : Made t w)
    (h : (cmpC c P P' it tg own scope iter && sC c Γ P i x w && decide (c.sc.names.lookup x = some .local) && (px.line == cp.line) && !(scope.names.any fun (n, k) => n == x && (k == .local || k == .cell))) = true) (hi : PI X tgt iter (tIt Φ fr Γ X.K it))
    (hg : ∀ (X' : Cx), Gd X' (c.blk scope) → (∀ x g, Cal X Φ x g → Cal X' Φ x g) → ∀ fr, Pin P' fr → PG X' tgt (tG fr Γ X'.K tg))
    (ht : ∀ (X' : Cx), Gd X' (c.blk scope) → (∀ x g, Cal X Φ x g → Cal X' Φ x g) → PTs X' ifs (xC Φ Γ P' X'.K cd))
    (he : ∀ (X' : Cx), Gd X' (c.blk scope) → (∀ x g, Cal X Φ x g → Cal X' Φ x g) → ∀ fr, Pin P' fr → PE X' elt (tE Φ fr X'.K Γ t eelt)) :
    PS X (.Assign [.Name x px] (.ListComp elt [⟨tgt, iter, ifs, 0⟩] scope cp) pos) (tS Φ fr Γ ret wx X.K (.set i (.comp eelt tg it cd (own.map (·.2))))) := by
  simp only [Bool.and_eq_true, Bool.not_eq_true', decide_eq_true_eq] at h
  obtain ⟨⟨⟨⟨h, g1⟩, g2⟩, g3⟩, g4⟩ := h
  unfold cmpC at h
  simp only [Bool.and_eq_true] at h
  obtain ⟨⟨⟨⟨⟨h1, h2⟩, h3⟩, h4⟩, h5⟩, h6⟩ := h
  have hk := blk_kind h5
  have g2' : X.env.scope.names.lookup x = some .local := by rw [gd.sc]; exact g2
  unfold sC at g1
  simp only [Bool.and_eq_true, decide_eq_true_eq] at g1
  refine s_setC m gd.calm (by rw [gd.N]; exact gd.nd) (by rw [gd.N]; exact g1.1.1.1) g2' g1.1.2 g1.2 (sw_true (by rw [gd.sc]; exact gd.kd) g2' g3 g4) hpin (inAll_of h1) (inAll_of h2) (fun i hi => of_decide_eq_true (List.all_eq_true.mp h3 i hi)) (inAll_of h4) hi (by rw [gd.N, gd.sc]; exact blkOk_by h5) h6 ?_ ?_ ?_
  · exact fun s H C cl fp fr hp => hg _ (gd.blk hk) (fun x g h => h.blk) fr hp
  · exact fun s H C cl fp => ht _ (gd.blk hk) (fun x g h => h.blk)
  · exact fun s H C cl fp fr hp => he _ (gd.blk hk) (fun x g h => h.blk) fr hp
theorem k_unp {es : List Expr} {k : Nat} {p : Pos} {e : Expr} {tg : Tg} {ee : E} (hg : PG X (.Tuple es k p) (tG fr Γ X.K tg)) (he : PE X e (tE Φ fr X.K Γ .fro ee)) (h : (noComp e && noTup e) = true) : PS X (.Assign [.Tuple es k p] e pos) (tS Φ fr Γ ret wx X.K (.unp tg ee)) := by
  obtain ⟨h1, h2⟩ := Bool.and_eq_true_iff.mp h
  exact s_unp h1 h2 hg he
end
end Vw
namespace Vw
open PySem PySem.Spec PyProof.Rows L2
/-! ### a def's body keeps its promise -/
def pinsOf : Nat → List Ty → List V → List (Nat × V)
  | n, .lst _ :: ps, v :: vs => (n, v) :: pinsOf (n + 1) ps vs
  | n, .fro :: ps, _ :: vs => pinsOf (n + 1) ps vs
  | _, _, _ => []
def pinP : Nat → List Ty → List Nat
  | _, [] => []
  | n, .lst _ :: ps => n :: pinP (n + 1) ps
  | n, .fro :: ps => pinP (n + 1) ps
def PinL : List Ty → List V → Sg → Prop
  | .lst _ :: ps, v :: vs, s :: σ => s = some v ∧ PinL ps vs σ
  | .fro :: ps, _ :: vs, _ :: σ => PinL ps vs σ
  | [], [], _ => True
  | _, _, _ => False
theorem pin_in : ∀ {ps : List Ty} {vs : List V} {n : Nat}, ∀ p ∈ pinsOf n ps vs, p.1 ∈ pinP n ps
  | [], _, _, p, h => by simp [pinsOf] at h
  | .lst _ :: ps, [], _, p, h => by simp [pinsOf] at h
  | .fro :: ps, [], _, p, h => by simp [pinsOf] at h
  | .lst _ :: ps, v :: vs, n, p, h => by
    rcases List.mem_cons.mp (show p ∈ (n, v) :: pinsOf (n + 1) ps vs from h) with rfl | h
    · exact List.mem_cons_self
    · exact List.mem_cons_of_mem _ (pin_in p h)
  | .fro :: ps, v :: vs, n, p, h => pin_in (ps := ps) p h
theorem pinL_of {σ0 : Sg} : ∀ {ps : List Ty} {vs : List V} {n : Nat}, vs.length = ps.length → n + ps.length ≤ σ0.length → (∀ p ∈ pinsOf n ps vs, σ0[p.1]? = some (some p.2)) → PinL ps vs (σ0.drop n)
  | [], [], n, _, _, _ => by
    cases σ0.drop n <;> exact trivial
  | [], _ :: _, _, h, _, _ => by simp at h
  | _ :: _, [], _, h, _, _ => by simp at h
  | .lst t :: ps, v :: vs, n, hl, hn, h => by
    have hlt : n < σ0.length := by simp at hn; omega
    rw [List.drop_eq_getElem_cons hlt]
    have e := h (n, v) List.mem_cons_self
    rw [List.getElem?_eq_getElem hlt] at e
    exact ⟨Option.some.inj e, pinL_of (by simpa using hl) (by simp at hn; omega) fun p hp => h p (List.mem_cons_of_mem _ hp)⟩
  | .fro :: ps, v :: vs, n, hl, hn, h => by
    have hlt : n < σ0.length := by simp at hn; omega
    rw [List.drop_eq_getElem_cons hlt]
    exact pinL_of (ps := ps) (by simpa using hl) (by simp at hn; omega) fun p hp => h p hp
theorem start_pins {m : Nat} : ∀ {ps : List Ty} {vs : List V} {n : Nat} {pre : Sg}, pre.length = n → ∀ p ∈ pinsOf n ps vs, (pre ++ (vs.map some ++ List.replicate m none))[p.1]? = some (some p.2)
  | [], _, _, _, _, p, h => by simp [pinsOf] at h
  | .lst _ :: ps, [], _, _, _, p, h => by simp [pinsOf] at h
  | .fro :: ps, [], _, _, _, p, h => by simp [pinsOf] at h
  | .lst _ :: ps, v :: vs, n, pre, hn, p, h => by
    rcases List.mem_cons.mp (show p ∈ (n, v) :: pinsOf (n + 1) ps vs from h) with rfl | h
    · show (pre ++ _)[n]? = _
      rw [List.getElem?_append_right (by omega), hn, Nat.sub_self]
      rfl
    · have g := start_pins (m := m) (ps := ps) (vs := vs) (n := n + 1) (pre := pre ++ [some v]) (by simp [hn]) p h
      rw [List.append_assoc] at g
      exact g
  | .fro :: ps, v :: vs, n, pre, hn, p, h => by
    have g := start_pins (m := m) (ps := ps) (vs := vs) (n := n + 1) (pre := pre ++ [some v]) (by simp [hn]) p h
    rw [List.append_assoc] at g
    exact g
section
variable {K : PySem.W.Frag} {G G' H H' : Hp}
theorem SlF.blank : ∀ {Γ : List Ty}, SlF K G H Γ (List.replicate Γ.length none) (List.replicate Γ.length none) []
  | [] => rfl
  | t :: Γ => ⟨[], [], rfl, rfl, SlF.blank⟩
theorem SlF.start {Γr : List Ty} : ∀ {ts : List Tm} {F : List Addr}, TmF K G H ts F → SlF K G H (ts.map Tm.t ++ Γr) ((ts.map Tm.d).map some ++ List.replicate Γr.length none) ((ts.map Tm.v).map some ++ List.replicate Γr.length none) F
  | [], F, h => by
    have h : F = [] := h
    subst h
    exact SlF.blank
  | x :: ts, F, ⟨F1, F2, e, p, q⟩ => ⟨F1, F2, e, ⟨x.v, rfl, p⟩, SlF.start q⟩
theorem fout_tm (sG : Same G G') {Γr : List Ty} : ∀ {ps : List Ty} {ts : List Tm} {ρ : Rho} {σ : Sg} {F F1 : List Addr} {o : List D}, ts.map Tm.t = ps → TmF K G H ts F → SlF K G' H' (ps ++ Γr) ρ σ F1 → PinL ps (ts.map Tm.v) σ → fout ps (ts.map Tm.d) ρ = some o →
    ∃ ts' FA, ts'.map Tm.t = ps ∧ ts'.map Tm.v = ts.map Tm.v ∧ ts'.map Tm.d = o ∧ TmF K G' H' ts' FA ∧ FA.Sublist F1
  | [], [], ρ, σ, F, F1, o, _, _, _, _, ho => by
    have ho : some [] = some o := by
      cases ρ <;> exact ho
    cases ho
    exact ⟨[], [], rfl, rfl, rfl, rfl, List.nil_sublist _⟩
  | [], _ :: _, _, _, _, _, _, e, _, _, _, _ => by simp at e
  | _ :: _, [], _, _, _, _, _, e, _, _, _, _ => by simp at e
  | p :: ps, x :: ts, [], σ, F, F1, o, _, _, s, _, _ => by
    cases σ <;> exact s.elim
  | p :: ps, x :: ts, oo :: ρ, [], F, F1, o, _, _, s, _, _ => s.elim
  | p :: ps, x :: ts, oo :: ρ, sv :: σ, F, F1, o, e, ⟨Fa, Fb, ef, tx, tr⟩, ⟨Fc, Fd, ef2, sx, sr⟩, pl, ho => by
    have e1 : x.t = p := List.head_eq_of_cons_eq e
    have e2 : ts.map Tm.t = ps := List.tail_eq_of_cons_eq e
    cases p with
    | fro =>
      obtain ⟨o', h1, rfl⟩ := map_inv (show (fout ps (ts.map Tm.d) ρ).map (x.d :: ·) = some o by cases oo <;> exact ho)
      obtain ⟨ts', FA, a1, a2, a3, a4, a5⟩ := fout_tm sG e2 tr sr (show PinL ps (ts.map Tm.v) σ from pl) h1
      rw [e1] at tx
      exact ⟨⟨.fro, x.d, x.v⟩ :: ts', FA, by simp [a1], by simp [a2], by simp [a3], ⟨[], FA, rfl, ⟨rfl, Rp_same sG _ _ tx.2⟩, a4⟩, by rw [ef2]; exact a5.trans (List.sublist_append_right _ _)⟩
    | lst t =>
      cases oo with
      | none => cases ho
      | some d =>
        obtain ⟨o', h1, rfl⟩ := map_inv (show (fout ps (ts.map Tm.d) ρ).map (d :: ·) = some o from ho)
        obtain ⟨pl1, pl2⟩ := (show sv = some x.v ∧ PinL ps (ts.map Tm.v) σ from pl)
        obtain ⟨ts', FA, a1, a2, a3, a4, a5⟩ := fout_tm sG e2 tr sr pl2 h1
        obtain ⟨v, s1, s2⟩ := sx
        rw [pl1] at s1
        cases s1
        exact ⟨⟨.lst t, d, x.v⟩ :: ts', Fc ++ FA, by simp [a1], by simp [a2], by simp [a3], ⟨Fc, FA, rfl, s2, a4⟩, by rw [ef2]; exact (List.Sublist.refl Fc).append a5⟩
end
structure Callee (P : Program) (w : World) (K : PySem.W.Frag) (mg : Str → Option Value) (base : Heap) (Φ : Cf) (k : Nat) (x : Str) (g : Sig) : Prop where
  ex : ∃ (k' : Nat) (f : Addr) (fd : FuncData) (ps : List Str), FnOk P w K mg base CX0 k' f fd ps (spI K g (Φ.fn x)) ∧ k' ≤ k ∧ mg x = some (.ref f) ∧ PySem.W.keepIn K (.ref f) = true ∧ Binds K fd ps []
theorem Callee.mono {P : Program} {w : World} {K : PySem.W.Frag} {mg : Str → Option Value} {base : Heap} {Φ : Cf} {k k2 : Nat} {x : Str} {g : Sig} (h : Callee P w K mg base Φ k x g) (l : k ≤ k2) : Callee P w K mg base Φ k2 x g := by
  obtain ⟨k', f, fd, ps, h1, h2, h3⟩ := h.ex
  exact ⟨k', f, fd, ps, h1, by omega, h3⟩
theorem res_end {fr : Fr} {K : PySem.W.Frag} {G H H' : Hp} {F : List Addr} {Γr : List Ty} {ps : List Ty} {ret : Ty} {ts us : List Tm} {ρ : Rho} {σ : Sg} {d : D} {v : V} {o : List D} (hfr : fr = ⟨H, G, F, pinsOf 0 ps (ts.map Tm.v)⟩) (e : ts.map Tm.t = ps) (tm : TmF K G H ts F)
    (s : SR fr K (ps ++ Γr) ρ σ (us ++ [⟨ret, d, v⟩]) H') (ho : fout ps (ts.map Tm.d) ρ = some o) : CallEnd K G H F ret ts o d v H' := by
  subst hfr
  obtain ⟨G', F1, F2, x⟩ := s
  obtain ⟨F3, F4, ef, t1, t2⟩ := x.tm.app
  have len := x.sl.lens.1
  have pl := pinL_of (σ0 := σ) (ps := ps) (vs := ts.map Tm.v) (n := 0) (by rw [← e]; simp) (by rw [← len]; simp) x.ok.pin
  obtain ⟨ts', FA, a1, a2, a3, a4, a5⟩ := fout_tm x.ok.sG e tm x.sl pl ho
  have sub : (FA ++ F4).Sublist (F1 ++ F2) := by
    rw [ef]
    exact a5.append (List.sublist_append_right _ _)
  exact ⟨G', ts', FA, F4, x.ok.sG, x.sub, by rw [a1, e], a2, a3, a4, t2.one, x.nd.sublist sub, fun a ha => x.out a (sub.subset ha), x.ok.keep, x.ok.mono, x.ok.nG⟩
/-! ### defs that may raise -/
def XEnd (K : PySem.W.Frag) (G H : Hp) (fs : Fs) (vs : List V) (H' : Hp) : Prop := ∃ G', Same G G' ∧ Same G' H' ∧ RpAll K G' vs (fs.map (·.2)) ∧ (∀ a o, H a = some o → H' a = some o) ∧ (∀ a, H' a = none → H a = none) ∧ (∀ a, G' a ≠ none → G a ≠ none ∨ H a = none)
def spX (mg : Str → Option Value) (K : PySem.W.Frag) (g : Sig) (f : List D → Option Xr) : Sp := fun vs H Q E => ∃ G ts r, ts.map Tm.v = vs ∧ ts.map Tm.t = g.ps ∧ Same G H ∧ TmF K G H ts [] ∧ f (ts.map Tm.d) = some r ∧ match r with
  | .ret d o => ∀ v H', CallEnd K G H [] g.ret ts o d v H' → Q v H'
  | .exn x fs => ∀ C dd vs H', mg x = some (.ref C) → vs.length = fs.length → XEnd K G H fs vs H' → H' dd = some (xdOf fs vs) → E (.ref C) (some dd) H'
theorem spX_len {mg : Str → Option Value} {K : PySem.W.Frag} {g : Sig} {f : List D → Option Xr} {vs : List V} {H : Hp} {Q : VK} {E : XK} (h : spX mg K g f vs H Q E) : vs.length = g.ps.length := by
  obtain ⟨G, ts, r, rfl, e, _⟩ := h
  rw [← e, List.length_map, List.length_map]
structure CalleeX (P : Program) (w : World) (K : PySem.W.Frag) (mg : Str → Option Value) (base : Heap) (Φ : Cf) (k : Nat) (x : Str) (g : Sig) : Prop where
  ex : ∃ (k' : Nat) (f : Addr) (fd : FuncData) (ps : List Str), FnOk P w K mg base (L2.CX P w) k' f fd ps (spX mg K g (Φ.fx x)) ∧ k' ≤ k ∧ mg x = some (.ref f) ∧ PySem.W.keepIn K (.ref f) = true ∧ Binds K fd ps []
structure CalX (X : Cx) (Φ : Cf) (x : Str) (g : Sig) : Prop where
  ex : ∃ (k : Nat) (f : Addr) (fd : FuncData) (ps : List Str), FnOk X.prog X.w X.K X.mg X.base (L2.CX X.prog X.w) k f fd ps (spX X.mg X.K g (Φ.fx x)) ∧ Room k X.A ∧ X.mg x = some (.ref f) ∧ PySem.W.keepIn X.K (.ref f) = true ∧ Binds X.K fd ps []
/-- .. asked by isinstance -/
structure XcC (K : PySem.W.Frag) (C : Addr) : Prop where
  cl : (PySem.W.clsIn K C).isSome = true
  ha : PySem.W.findIn K (.ref C) "__class__" = some (some (.builtin "object.__class__"))
  hn : PySem.W.specialIn K (.builtin "object.__class__") "__get__" = some (some (.builtin "getset_descriptor.__get__"))
  ht : PySem.W.takesIn K (.builtin "object.__class__") = some true
  hm : PySem.W.mroIn K C (.type "object") = some true
/-- a class that is raised -/
structure KlsAt (P : Program) (K : PySem.W.Frag) (mg : Str → Option Value) (x : Str) : Prop where
  ex : ∃ C, Ve.Err2 K P C ∧ mg x = some (.ref C) ∧ mg "super" = none ∧ PySem.W.exmOne K (.ref C) (.ref C) = some true ∧ XfC K C ∧ XcC K C
structure Kls (X : Cx) (x : Str) : Prop where
  at_ : KlsAt X.prog X.K X.mg x
  rm : Room 2 X.A
structure Gx (X : Cx) (wx : Xw) : Prop where
  mg : X.mg = wx.mg
  tk : Takes X wx.W
  stk : X.stack = X.env :: X.outer
  frm : X.env.frame = some X.env.locals
theorem fn_sound {P : Program} {w : World} {K : PySem.W.Frag} {mg : Str → Option Value} {base : Heap} {Φ : Cf} {x qual : Str} {st : Stmt} {f : Addr} {fd : FuncData} {N ps : List Str} {k : Nat} (F : Fun K x qual st f fd) (S : FnScope N ps (defScope st)) (g : Sig) (Γr : List Ty) (b : Ss)
    (hl : (decide (g.ps.length = ps.length) && decide (g.ps.length + Γr.length = N.length)) = true) (hbl : ∀ x, x ∈ blAll → mg x = none) (gl : List (Str × Int)) (hgl : ∀ p ∈ gl, ∃ t, mg p.1 = some (.int p.2 t))
    (hbody : ∀ (X : Cx), Gd X ⟨N, defScope st, fun _ => true, gl⟩ → (∀ x g, Callee P w K mg base Φ k x g → Cal X Φ x g) → (∀ x g, CalleeX P w K mg base Φ k x g → CalX X Φ x g) → (∀ x, KlsAt P K mg x → 2 ≤ k → Kls X x) → (∀ p : PySem.W.Frag → (Str → Option Value) → Prop, p K mg → p X.K X.mg) → ∀ (wx : Xw), Gx X wx → ∀ (fr : Fr), Pin (pinP 0 g.ps) fr → PSs X (defBody st) (tSs Φ fr (g.ps ++ Γr) g.ret wx X.K b)) :
    FnOk P w K mg base CX0 (k + 1) f fd ps (spI K g (evF Φ g.ps N.length b)) := by
  obtain ⟨hl1, hl2⟩ := Bool.and_eq_true_iff.mp hl
  have hl1 : g.ps.length = ps.length := of_decide_eq_true hl1
  have hl2 : g.ps.length + Γr.length = N.length := of_decide_eq_true hl2
  refine F.ok S (fun vs H Q E h => by rw [spI_len h]; exact hl1) fun cdv A outer s H vs Q E hr h => ?_
  obtain ⟨G, Fo, ts, r, e1, e2, sG, tm, nd, gn, hf, q⟩ := h
  have gd : Gd (cxOf CX0 P w K mg base N qual (defScope st) f cdv A outer s H E).nox ⟨N, defScope st, fun _ => true, gl⟩ := {
    N := rfl
    nd := S.nd
    sc := rfl
    kd := S.kind
    calm := rfl
    pas := PassesOwn.never
    cl := fun x hx => rfl
    un := by
      have := hr.un
      show (A.deeper _).units + 100 < cLine
      omega
    bl := hbl
    gl := hgl }
  have lts : ts.length = g.ps.length := by rw [← e2, List.length_map]
  let fr : Fr := ⟨H, G, Fo, pinsOf 0 g.ps (ts.map Tm.v)⟩
  refine ⟨_, hbody _ gd (fun y g' hc => ?_) (fun y g' hc => ?_) (fun y hk h2 => ⟨hk, hr.mono h2⟩) (fun _ h => h) ⟨mg, fun _ _ _ _ => False⟩ ⟨rfl, takes0, rfl, rfl⟩ fr (fun p hp => pin_in p hp), ?_⟩
  · obtain ⟨k', f', fd', ps', c1, c2, c3, c4, c5⟩ := hc.ex
    exact ⟨k', f', fd', ps', c1, hr.mono c2, c3, c4, c5⟩
  · obtain ⟨k', f', fd', ps', c1, c2, c3, c4, c5⟩ := hc.ex
    exact ⟨k', f', fd', ps', c1, hr.mono c2, c3, c4, c5⟩
  · obtain ⟨rr, h1, h2⟩ := bind_inv hf
    have sl : SlF K G H (g.ps ++ Γr) ((ts.map Tm.d).map some ++ List.replicate Γr.length none) ((ts.map Tm.v).map some ++ List.replicate Γr.length none) Fo := by
      rw [← e2]
      exact SlF.start tm
    have er : (ts.map Tm.d).map some ++ List.replicate (N.length - (ts.map Tm.d).length) none = (ts.map Tm.d).map some ++ List.replicate Γr.length none := by
      rw [List.length_map, lts, ← hl2, Nat.add_sub_cancel_left]
    have es : L2.start N vs = (ts.map Tm.v).map some ++ List.replicate Γr.length none := by
      rw [← e1]
      unfold L2.start
      rw [List.length_map, lts, ← hl2, Nat.add_sub_cancel_left]
    rw [er] at h1
    have sr : SR fr K (g.ps ++ Γr) ((ts.map Tm.d).map some ++ List.replicate Γr.length none) (L2.start N vs) [] H := by
      rw [es]
      refine ⟨G, Fo, [], sG, sl, rfl, by rw [List.append_nil]; exact nd, fun a ha => ?_, ?_⟩
      · rw [List.append_nil] at ha
        exact ⟨gn a ha, .inl ha⟩
      · refine ⟨fun a o e _ => e, fun a e => e, Same.refl G, fun a h => .inl h, fun p hp => ?_⟩
        have := start_pins (m := Γr.length) (ps := g.ps) (vs := ts.map Tm.v) (n := 0) (pre := []) rfl p hp
        rw [List.nil_append] at this
        exact this
    refine ⟨_, [], rr, sr, h1, ?_⟩
    cases rr with
    | nx ρ =>
      obtain ⟨o, h3, rfl⟩ := map_inv h2
      exact fun σ H' s' => q _ _ (res_end (us := []) rfl e2 tm (s'.res (w := g.ret) rfl fun G => .non) h3)
    | ret d ρ =>
      obtain ⟨o, h3, rfl⟩ := map_inv h2
      exact fun v σ H' us s' => q _ _ (res_end (us := us) (σ := σ) (Γr := Γr) rfl e2 tm (by rw [List.nil_append] at s'; exact s') h3)
    | brk ρ => cases h2
    | cnt ρ => cases h2
    | exn x fs ρ => cases h2
theorem fn_soundX {P : Program} {w : World} {K : PySem.W.Frag} {mg : Str → Option Value} {base : Heap} {Φ : Cf} {x qual : Str} {st : Stmt} {f : Addr} {fd : FuncData} {N ps : List Str} {k : Nat} (F : Fun K x qual st f fd) (S : FnScope N ps (defScope st)) (g : Sig) (Γr : List Ty) (b : Ss)
    (ha : (g.ps.all fun t => decide (t = .fro)) = true) (hl : (decide (g.ps.length = ps.length) && decide (g.ps.length + Γr.length = N.length)) = true) (hbl : ∀ x, x ∈ blAll → mg x = none) (gl : List (Str × Int)) (hgl : ∀ p ∈ gl, ∃ t, mg p.1 = some (.int p.2 t))
    (hbody : ∀ (X : Cx), Gd X ⟨N, defScope st, fun _ => true, gl⟩ → (∀ x g, Callee P w K mg base Φ k x g → Cal X Φ x g) → (∀ x g, CalleeX P w K mg base Φ k x g → CalX X Φ x g) → (∀ x, KlsAt P K mg x → 2 ≤ k → Kls X x) → (∀ p : PySem.W.Frag → (Str → Option Value) → Prop, p K mg → p X.K X.mg) → ∀ (wx : Xw), Gx X wx → ∀ (fr : Fr), Pin (pinP 0 g.ps) fr → PSs X (defBody st) (tSs Φ fr (g.ps ++ Γr) g.ret wx X.K b)) :
    FnOk P w K mg base (L2.CX P w) (k + 1) f fd ps (spX mg K g (evX Φ g.ps N.length b)) := by
  obtain ⟨hl1, hl2⟩ := Bool.and_eq_true_iff.mp hl
  have hl1 : g.ps.length = ps.length := of_decide_eq_true hl1
  have hl2 : g.ps.length + Γr.length = N.length := of_decide_eq_true hl2
  refine F.okX S (fun vs H Q E h => by rw [spX_len h]; exact hl1) fun cdv A outer s H vs Q E hr h => ?_
  obtain ⟨G, ts, r, e1, e2, sG, tm, hf, q⟩ := h
  have nd : ([] : List Addr).Nodup := List.nodup_nil
  have gd : Gd (cxOf (L2.CX P w) P w K mg base N qual (defScope st) f cdv A outer s H E) ⟨N, defScope st, fun _ => true, gl⟩ := {
    N := rfl
    nd := S.nd
    sc := rfl
    kd := S.kind
    calm := rfl
    pas := passes_of rfl
    cl := fun x hx => rfl
    un := by
      have := hr.un
      show (A.deeper _).units + 100 < cLine
      omega
    bl := hbl
    gl := hgl }
  have lts : ts.length = g.ps.length := by rw [← e2, List.length_map]
  let fr : Fr := ⟨H, G, [], pinsOf 0 g.ps (ts.map Tm.v)⟩
  refine ⟨_, hbody _ gd (fun y g' hc => ?_) (fun y g' hc => ?_) (fun y hk h2 => ⟨hk, hr.mono h2⟩) (fun _ h => h) ⟨mg, fun cls d _ H => E cls d H⟩ ⟨rfl, takes_of rfl rfl rfl rfl, rfl, rfl⟩ fr (fun p hp => pin_in p hp), ?_⟩
  · obtain ⟨k', f', fd', ps', c1, c2, c3, c4, c5⟩ := hc.ex
    exact ⟨k', f', fd', ps', c1, hr.mono c2, c3, c4, c5⟩
  · obtain ⟨k', f', fd', ps', c1, c2, c3, c4, c5⟩ := hc.ex
    exact ⟨k', f', fd', ps', c1, hr.mono c2, c3, c4, c5⟩
  · obtain ⟨rr, h1, h2⟩ := bind_inv hf
    have sl : SlF K G H (g.ps ++ Γr) ((ts.map Tm.d).map some ++ List.replicate Γr.length none) ((ts.map Tm.v).map some ++ List.replicate Γr.length none) [] := by
      rw [← e2]
      exact SlF.start tm
    have er : (ts.map Tm.d).map some ++ List.replicate (N.length - (ts.map Tm.d).length) none = (ts.map Tm.d).map some ++ List.replicate Γr.length none := by
      rw [List.length_map, lts, ← hl2, Nat.add_sub_cancel_left]
    have es : L2.start N vs = (ts.map Tm.v).map some ++ List.replicate Γr.length none := by
      rw [← e1]
      unfold L2.start
      rw [List.length_map, lts, ← hl2, Nat.add_sub_cancel_left]
    rw [er] at h1
    have sr : SR fr K (g.ps ++ Γr) ((ts.map Tm.d).map some ++ List.replicate Γr.length none) (L2.start N vs) [] H := by
      rw [es]
      refine ⟨G, [], [], sG, sl, rfl, nd, fun a ha => ?_, ?_⟩
      · cases ha
      · refine ⟨fun a o e _ => e, fun a e => e, Same.refl G, fun a h => .inl h, fun p hp => ?_⟩
        have := start_pins (m := Γr.length) (ps := g.ps) (vs := ts.map Tm.v) (n := 0) (pre := []) rfl p hp
        rw [List.nil_append] at this
        exact this
    refine ⟨_, [], rr, sr, h1, ?_⟩
    cases rr with
    | nx ρ =>
      obtain ⟨o, h3, rfl⟩ := map_inv h2
      exact fun σ H' s' => q _ _ (res_end (us := []) rfl e2 tm (s'.res (w := g.ret) rfl fun G => .non) h3)
    | ret d ρ =>
      obtain ⟨o, h3, rfl⟩ := map_inv h2
      exact fun v σ H' us s' => q _ _ (res_end (us := us) (σ := σ) (Γr := Γr) rfl e2 tm (by rw [List.nil_append] at s'; exact s') h3)
    | brk ρ => cases h2
    | cnt ρ => cases h2
    | exn x fs ρ =>
      cases h2
      refine fun σ H' us vs C dd s' hv hm hd => q C dd vs H' hm hv ?_ hd
      obtain ⟨G', F1, F2, y⟩ := s'
      obtain ⟨F3, F4, _, _, t2⟩ := y.tm.app
      have rs := t2.alls tms_t
      rw [tms_d (by rw [List.length_map]; exact hv), tms_v (by rw [List.length_map]; exact hv)] at rs
      exact ⟨G', y.ok.sG, y.sub, rs, fun a o e => y.ok.keep a o e (by intro h; cases h), y.ok.mono, fun a h => (y.ok.nG a h).elim .inl fun h => h.elim (fun h => absurd h (by intro h; cases h)) .inr⟩
end Vw
namespace Vw
open PySem PySem.Spec PyProof.Rows L2
section
variable {X : Cx} {c : Ct} {Φ : Cf} {fr : Fr} {Γ : List Ty} {w : Ty} {ret : Ty} {wx : Xw} {pos : Pos} {P P' : List Nat}
theorem k_app (gd : Gd X c) (i : Nat) {x : Str} {e : Expr} {ee : E} {px ap cp : Pos} (ha : PE X e (tE Φ fr X.K Γ .fro ee)) (h : (vC c Γ i x (.lst .fro) && (ap.endLine == cp.line) && noStar e) = true) : PS X (.Expr (.Call (.Attribute (.Name x px) "append" ap) [e] [] cp) pos) (tS Φ fr Γ ret wx X.K (.app i ee)) := by
  obtain ⟨h, h7⟩ := Bool.and_eq_true_iff.mp h
  obtain ⟨h, h6⟩ := Bool.and_eq_true_iff.mp h
  obtain ⟨h1, h2, h3, h4, h5⟩ := vC_of gd h
  exact s_app h1 h2 h3 h4 h5 h6 ha h7
theorem k_sti (gd : Gd X c) (i : Nat) {x : Str} {a e : Expr} {ea ee : E} {px sp : Pos} (ha : PE X a (tE Φ fr X.K Γ .fro ea)) (he : PE X e (tE Φ fr X.K Γ .fro ee)) (h : (vC c Γ i x (.lst .fro) && notSlice a && noComp e) = true) : PS X (.Assign [.Subscript (.Name x px) a sp] e pos) (tS Φ fr Γ ret wx X.K (.sti i ea ee)) := by
  obtain ⟨h, h7⟩ := Bool.and_eq_true_iff.mp h
  obtain ⟨h, h6⟩ := Bool.and_eq_true_iff.mp h
  obtain ⟨h1, h2, h3, h4, h5⟩ := vC_of gd h
  exact s_sti h1 h2 h3 h4 h5 ha he h6 h7
theorem k_sti2 (gd : Gd X c) (i : Nat) {x : Str} {a b e : Expr} {ea eb ee : E} {px sp sp2 : Pos} (ha : PE X a (tE Φ fr X.K Γ .fro ea)) (hb : PE X b (tI Φ fr Γ X.K eb)) (he : PE X e (tE Φ fr X.K Γ .fro ee)) (h : (vC c Γ i x (.lst (.lst .fro)) && stE eb && notSlice a && notSlice b && noComp e) = true) :
    PS X (.Assign [.Subscript (.Subscript (.Name x px) a sp2) b sp] e pos) (tS Φ fr Γ ret wx X.K (.sti2 i ea eb ee)) := by
  simp only [Bool.and_eq_true] at h
  obtain ⟨h1, h2, h3, h4, h5⟩ := vC_of gd h.1.1.1.1
  exact s_sti2 h1 h2 h3 h4 h5 ha hb h.1.1.1.2 he h.1.1.2 h.1.2 h.2
theorem k_aug (gd : Gd X c) (hp : Pin P fr) (i : Nat) {x : Str} (o : Ar) {e : Expr} {ee : E} {px : Pos} (he : PE X e (tE Φ fr X.K Γ .fro ee)) (h : (sC c Γ P i x .fro && decide (o ≠ .pow)) = true) : PS X (.AugAssign (.Name x px) (opA o) e pos) (tS Φ fr Γ ret wx X.K (.aug i o ee)) := by
  obtain ⟨h, h7⟩ := Bool.and_eq_true_iff.mp h
  obtain ⟨h1, h2, h3, h4, h5, h6⟩ := sC_of gd hp h
  exact s_aug (of_decide_eq_true h7) h1 h2 h3 h4 h5 h6 he
theorem k_for (gd : Gd X c) (hpin : Pin P fr) (P' : List Nat) {tgt iter : Expr} {body : List Stmt} {tg : Tg} {it : Iv} {b : Ss} (hi : PI X tgt iter (tIt Φ fr Γ X.K it)) (hg : ∀ fr, Pin P' fr → PG X tgt (tG fr Γ X.K tg)) (hb : ∀ fr, Pin P' fr → PSs X body (tSs Φ fr Γ ret wx X.K b))
    (h : (inAll P P' && inAll (itB it) P' && noSet iter) = true) : PS X (.For tgt iter body [] pos) (tS Φ fr Γ ret wx X.K (.for tg it b)) := by
  simp only [Bool.and_eq_true] at h
  exact s_for gd.pas gd.calm hpin (inAll_of h.1.1) (inAll_of h.1.2) hi hg hb h.2
theorem sw_par {x y : Str} {px py pt pt2 : Pos} {kt k2 : Nat} {a b : Expr} {env : Env} (hk : env.scope.kind = .function) (hx : env.scope.names.lookup x = some .local) (hy : env.scope.names.lookup y = some .local) (hl : (py.line == px.line) = true) (hne : (x == y) = false) (hs : noStar a = true) (hs2 : noStar b = true)
    (h1 : ([a, b].all (foldedForSure 8)) = false) (h2 : ([a, b].all (constantsAlone 8)) = false) :
    swappedStores [.Tuple [.Name x px, .Name y py] kt pt] (.Tuple [a, b] k2 pt2) env = pure (some [x, y]) := by
  have kx : env.kindOf x = some .local := hx
  have ky : env.kindOf y = some .local := hy
  have hb : env.blockKind = .function := by unfold Env.blockKind; rw [hk]; rfl
  have hst : ([a, b].any fun | .Starred .. => true | _ => false) = false := by
    have f : ∀ e : Expr, noStar e = true → (match e with | .Starred .. => true | _ => false) = false := fun e h => by
      cases e <;> first | rfl | exact absurd h Bool.false_ne_true
    rw [List.any_cons, List.any_cons, f a hs, f b hs2]
    rfl
  have e1 : ([x, y].eraseDups.length != 2) = false := by
    have : (y == x) = false := by
      rw [← hne]
      exact BEq.comm
    simp [List.eraseDups_cons, this]
  unfold swappedStores
  simp only [hb, kx, ky, hst, h1, h2, List.filterMap, List.head?, Option.map, Option.getD, hl, List.length]
  simp [Expr.pos, hl, kx, ky, e1]
  intro h
  rcases h with h | h
  · cases a <;> first | exact absurd hs Bool.false_ne_true | exact absurd h Bool.false_ne_true
  · cases b <;> first | exact absurd hs2 Bool.false_ne_true | exact absurd h Bool.false_ne_true
theorem k_par (gd : Gd X c) (hpin : Pin P fr) (i j : Nat) (t u : Ty) {x y : Str} {a b : Expr} {ea eb : E} {px py pt pt2 : Pos} {kt k2 : Nat} (ha : PE X a (tE Φ fr X.K Γ t ea)) (hb : PE X b (tE Φ fr X.K Γ u eb))
    (h : (sC c Γ P i x t && sC c Γ P j y u && decide (i ≠ j) && decide (c.sc.names.lookup x = some .local) && decide (c.sc.names.lookup y = some .local) && noStar a && noStar b && (py.line == px.line) && !(x == y) && !([a, b].all (foldedForSure 8)) && !([a, b].all (constantsAlone 8))) = true) :
    PS X (.Assign [.Tuple [.Name x px, .Name y py] kt pt] (.Tuple [a, b] k2 pt2) pos) (tS Φ fr Γ ret wx X.K (.par i j ea eb)) := by
  simp only [Bool.and_eq_true, Bool.not_eq_true', decide_eq_true_eq] at h
  obtain ⟨⟨⟨⟨⟨⟨⟨⟨⟨⟨g1, g2⟩, g3⟩, g4⟩, g5⟩, g6⟩, g7⟩, g8⟩, g9⟩, g10⟩, g11⟩ := h
  obtain ⟨h1, h2, h3, h4, h5, h6⟩ := sC_of gd hpin g1
  obtain ⟨k1, k2, k3, k4, k5, k6⟩ := sC_of gd hpin g2
  have e4 : X.env.scope.names.lookup x = some .local := by rw [gd.sc]; exact g4
  have e5 : X.env.scope.names.lookup y = some .local := by rw [gd.sc]; exact g5
  exact s_par gd.calm h1 h2 k2 g3 e4 e5 h5 k5 h6 k6 ha hb g6 g7 (sw_par (by rw [gd.sc]; exact gd.kd) e4 e5 g8 g9 g6 g7 g10 g11)
end
end Vw
namespace Vw
open PySem PySem.Spec PyProof.Rows L2
section
variable {X : Cx} {Φ : Cf} {fr : Fr} {Γ : List Ty} {w : Ty} {ret : Ty} {wx : Xw} {pos : Pos} {c : Ct} {P P' : List Nat}
/-! ### three comparisons in a chain -/
def tCh3 (r1 r2 r3 : R2) (ta tb tc td : TE) : TE := fun σ H Q => ta σ H fun x H1 => tb σ H1 fun y H2 => r1 x y H2 fun z H3 => ∃ k, z = .bl k ∧ (if k = true then tc σ H3 fun z' H4 => r2 y z' H4 fun z2 H5 => ∃ k2, z2 = .bl k2 ∧ (if k2 = true then td σ H5 fun z3 H6 => r3 z' z3 H6 Q else Q (.bl false) H5) else Q (.bl false) H3)
section
variable {a b e f : Expr} {ta tb tc td : TE}
theorem pe_ch3 {op op' op'' : CmpOp} {r r' r'' : R2} (ho : OpR X (compareOp op) r) (ho' : OpR X (compareOp op') r') (ho'' : OpR X (compareOp op'') r'') (ha : PE X a ta) (hb : PE X b tb) (hc : PE X e tc) (hd : PE X f td)
    (hm : lastMarks [op, op', op''] [b, e, f] = false) : PE X (.Compare a [op, op', op''] [b, e, f] pos) (tCh3 r r' r'' ta tb tc td) := by
  refine ⟨fun pins s σ H Q I h => ?_⟩
  refine Compare_chain (thn (ha.run pins s σ H _ I h) fun v s1 ⟨x, H1, I1, r1, q1⟩ => chain_link (thn (hb.run pins s1 σ H1 _ I1 q1) fun u s2 ⟨y, H2, I2, r2, q2⟩ =>
    thn (ho pins s2 σ H2 x y v u _ I2 r1 r2 q2) fun d s3 ⟨z, H3, I3, r3, k, e, q3⟩ => ?_)) hm
  subst e
  cases r3
  refine wpAny_truthy_bool ?_
  cases k with
  | false => exact ite_ff ⟨.bl false, H3, I3, rfl, q3⟩
  | true =>
    refine ite_tt (chain_link (thn (hc.run pins s3 σ H3 _ I3 q3) fun w' s4 ⟨z', H4, I4, r4, q4⟩ => thn (ho' pins s4 σ H4 y z' u w' _ I4 r2 r4 q4) fun d' s5 ⟨z2, H5, I5, r5, k2, e2, q5⟩ => ?_))
    subst e2
    cases r5
    refine wpAny_truthy_bool ?_
    cases k2 with
    | false => exact ite_ff ⟨.bl false, H5, I5, rfl, q5⟩
    | true => exact ite_tt (chain_last (thn (hd.run pins s5 σ H5 _ I5 q5) fun w2 s6 ⟨z3, H6, I6, r6, q6⟩ => ho'' pins s6 σ H6 z' z3 w' w2 Q I6 r4 r6 q6))
end
theorem m_ch3 {K : PySem.W.Frag} (o o2 o3 : Cm) {ea eb ee ef : E} {σ : Sg} {H : Hp} {Q : VK} (h : tE Φ fr K Γ w (.ch3 o o2 o3 ea eb ee ef) σ H Q) : tCh3 (rCm o) (rCm o2) (rCm o3) (tE Φ fr K Γ .fro ea) (tE Φ fr K Γ .fro eb) (tE Φ fr K Γ .fro ee) (tE Φ fr K Γ .fro ef) σ H Q := by
  obtain ⟨ρ, ts, r, sr, he, q⟩ := h
  obtain ⟨ra, e1, he⟩ := bind_inv he
  obtain ⟨rb, e2, he⟩ := bind_inv he
  obtain ⟨t, e3, he⟩ := bind_inv he
  refine ⟨ρ, ts, ra, sr, e1, fun v H1 s1 => ⟨ra.2, _, rb, s1, e2, fun u H2 s2 => ?_⟩⟩
  obtain ⟨G, F1, F2, y⟩ := id s2
  have rp := y.last2 rfl rfl
  clear e1 e2
  obtain ⟨d1, ρ1⟩ := ra
  obtain ⟨d2, ρ2⟩ := rb
  cases d1 with
  | int i =>
    cases d2 with
    | int j =>
      obtain ⟨r1, r2⟩ := rp
      cases r1
      cases r2
      have e3 : some (cmI o i j) = some t := e3
      cases e3
      refine ⟨i, j, rfl, rfl, _, rfl, ?_⟩
      have s2' := s2.drop.drop
      split at he
      · rename_i c1
        rw [if_pos c1]
        obtain ⟨rc, e4, he⟩ := bind_inv he
        obtain ⟨t2, e5, he⟩ := bind_inv he
        refine ⟨_, _, rc, s2', e4, fun u3 H3 s3 => ?_⟩
        obtain ⟨G3, F31, F32, y3⟩ := id s3
        have rp3 := y3.last1 rfl
        clear e4
        obtain ⟨d3, ρ3⟩ := rc
        cases d3 with
        | int l =>
          cases rp3
          have e5 : some (cmI o2 j l) = some t2 := e5
          cases e5
          refine ⟨j, l, rfl, rfl, _, rfl, ?_⟩
          have s3' := s3.drop
          split at he
          · rename_i c2
            rw [if_pos c2]
            obtain ⟨rd, e6, he⟩ := bind_inv he
            obtain ⟨t3, e7, rfl⟩ := map_inv he
            refine ⟨_, _, rd, s3', e6, fun u4 H4 s4 => ?_⟩
            obtain ⟨G4, F41, F42, y4⟩ := id s4
            have rp4 := y4.last1 rfl
            clear e6
            obtain ⟨d4, ρ4⟩ := rd
            cases d4 with
            | int n =>
              cases rp4
              have e7 : some (cmI o3 l n) = some t3 := e7
              cases e7
              exact ⟨l, n, rfl, rfl, q _ _ (s4.drop.res rfl (rp_bl _))⟩
            | _ => cases e7
          · rename_i c2
            rw [if_neg c2]
            cases he
            exact q _ _ (s3'.res rfl (rp_bl _))
        | _ => cases e5
      · rename_i c1
        rw [if_neg c1]
        cases he
        exact q _ _ (s2'.res rfl (rp_bl _))
    | _ => cases e3
  | _ => cases e3
theorem k_ch3 (o o2 o3 : Cm) {a b e f : Expr} {ea eb ee ef : E} (ha : PE X a (tE Φ fr X.K Γ .fro ea)) (hb : PE X b (tE Φ fr X.K Γ .fro eb)) (he : PE X e (tE Φ fr X.K Γ .fro ee)) (hf : PE X f (tE Φ fr X.K Γ .fro ef)) : PE X (.Compare a [opC o, opC o2, opC o3] [b, e, f] pos) (tE Φ fr X.K Γ w (.ch3 o o2 o3 ea eb ee ef)) :=
  PE_mono (pe_ch3 (op_cm o) (op_cm o2) (op_cm o3) ha hb he hf (nobehind f (opC_in o3).1 (opC_in o3).2)) fun σ H Q h => m_ch3 o o2 o3 h

theorem pt_ch3 {a b e f : Expr} {ta tb tc td : TE} {op op' op'' : CmpOp} {r r' r'' : R2} (ho : OpR X (compareOp op) r) (ho' : OpR X (compareOp op') r') (ho'' : OpR X (compareOp op'') r'') (ha : PE X a ta) (hb : PE X b tb) (hc : PE X e tc) (hd : PE X f td)
    (hm : lastMarks [op, op', op''] [b, e, f] = false) : PT X (.Compare a [op, op', op''] [b, e, f] pos) (tTest (tCh3 r r' r'' ta tb tc td)) := by
  refine ⟨fun pins s σ H Q I h => ?_⟩
  refine isTrue_chain (thn (ha.run pins s σ H _ I h) fun v s1 ⟨x, H1, I1, r1, q1⟩ => test_link (thn (hb.run pins s1 σ H1 _ I1 q1) fun u s2 ⟨y, H2, I2, r2, q2⟩ =>
    thn (ho pins s2 σ H2 x y v u _ I2 r1 r2 q2) fun d s3 ⟨z, H3, I3, r3, k, e, q3⟩ => ?_)) hm
  subst e
  cases r3
  refine wpAny_truthy_bool ?_
  cases k with
  | false =>
    obtain ⟨k', e, q⟩ := q3
    cases e
    exact ite_ff ⟨H3, I3, q⟩
  | true =>
    refine ite_tt (test_link (thn (hc.run pins s3 σ H3 _ I3 q3) fun w' s4 ⟨z', H4, I4, r4, q4⟩ => thn (ho' pins s4 σ H4 y z' u w' _ I4 r2 r4 q4) fun d' s5 ⟨z2, H5, I5, r5, k2, e2, q5⟩ => ?_))
    subst e2
    cases r5
    refine wpAny_truthy_bool ?_
    cases k2 with
    | false =>
      obtain ⟨k', e, q⟩ := q5
      cases e
      exact ite_ff ⟨H5, I5, q⟩
    | true =>
      refine ite_tt (test_last (thn (hd.run pins s5 σ H5 _ I5 q5) fun w2 s6 ⟨z3, H6, I6, r6, q6⟩ => thn (ho'' pins s6 σ H6 z' z3 w' w2 _ I6 r4 r6 q6) fun d'' s7 ⟨z4, H7, I7, r7, k3, e3, q7⟩ => ?_))
      subst e3
      cases r7
      exact wpAny_truthy_bool ⟨H7, I7, q7⟩
theorem k_ch3T (o o2 o3 : Cm) {a b e f : Expr} {ea eb ee ef : E} (ha : PE X a (tE Φ fr X.K Γ .fro ea)) (hb : PE X b (tE Φ fr X.K Γ .fro eb)) (he : PE X e (tE Φ fr X.K Γ .fro ee)) (hf : PE X f (tE Φ fr X.K Γ .fro ef)) : PT X (.Compare a [opC o, opC o2, opC o3] [b, e, f] pos) (tT Φ fr X.K Γ (.e (.ch3 o o2 o3 ea eb ee ef))) :=
  t_cmp (pt_ch3 (op_cm o) (op_cm o2) (op_cm o3) ha hb he hf (nobehind f (opC_in o3).1 (opC_in o3).2)) rfl fun σ H Q h => m_ch3 o o2 o3 h
/-! ### in, of data of any depth -/
def rInDG (K : PySem.W.Frag) (ng : Bool) : R2 := fun x y H Q => ∃ d ds, Dp K H x d ∧ Dp K H y (.list ds) ∧ SeqAt.shaped d = true ∧ SeqAt.shaped (.list ds) = true ∧ Q (.bl ((ds.any fun z => PyData.eqv z d) != ng)) H
theorem op_indG (hu : X.A.units + 65 < cLine) (ng : Bool) : OpR X (compareOp (if ng then .NotIn else .In)) (rInDG X.K ng) := by
  cases ng with
  | true =>
    intro pins s σ H x y v u Q I rx ry h
    obtain ⟨d, e, h1, h2, h3, h4, q⟩ := h
    exact op_notInD hu pins s σ H x y v u Q I rx ry ⟨d, e, h1, h2, h3, h4, by rw [Bool.bne_true] at q; exact q⟩
  | false =>
    intro pins s σ H x y v u Q I rx ry h
    obtain ⟨d, e, h1, h2, h3, h4, q⟩ := h
    exact op_inD hu pins s σ H x y v u Q I rx ry ⟨d, e, h1, h2, h3, h4, by rw [Bool.bne_false] at q; exact q⟩
theorem m_ind {K : PySem.W.Frag} (ng : Bool) {ea eb : E} {σ : Sg} {H : Hp} {Q : VK} (h : tE Φ fr K Γ w (.ind ng ea eb) σ H Q) : tOp (rInDG K ng) (tE Φ fr K Γ .fro ea) (tE Φ fr K Γ .fro eb) σ H Q := by
  obtain ⟨ρ, ts, r, sr, he, q⟩ := h
  obtain ⟨ra, e1, he⟩ := bind_inv he
  obtain ⟨rb, e2, he⟩ := bind_inv he
  obtain ⟨d, e3, rfl⟩ := map_inv he
  refine ⟨ρ, ts, ra, sr, e1, fun v H1 s1 => ⟨ra.2, _, rb, s1, e2, fun u H2 s2 => ?_⟩⟩
  obtain ⟨G, F1, F2, y⟩ := id s2
  have rp := y.last2 rfl rfl
  obtain ⟨l, q1, q2, q3, rfl⟩ := indD_inv e3
  refine ⟨_, l, (Rp_same y.sub _ _ rp.1).dp, ?_, q2, q3, q _ _ (s2.drop.drop.res rfl (rp_bl _))⟩
  have := (Rp_same y.sub _ _ rp.2).dp
  rw [show (⟨.fro, rb.1, u⟩ : Tm).d = .list l from q1] at this
  exact this
theorem k_ind (gd : Gd X c) (ng : Bool) {a b : Expr} {ea eb : E} (ha : PE X a (tE Φ fr X.K Γ .fro ea)) (hb : PE X b (tE Φ fr X.K Γ .fro eb)) (hn : noSet b = true) : PE X (.Compare a [if ng then .NotIn else .In] [b] pos) (tE Φ fr X.K Γ w (.ind ng ea eb)) :=
  PE_mono (pe_cmpR (op_indG gd.u65 ng) ha hb (by cases b <;> first | rfl | cases hn)) fun σ H Q h => m_ind ng h
theorem k_indT (gd : Gd X c) (ng : Bool) {a b : Expr} {ea eb : E} (ha : PE X a (tE Φ fr X.K Γ .fro ea)) (hb : PE X b (tE Φ fr X.K Γ .fro eb)) (hn : noSet b = true) : PT X (.Compare a [if ng then .NotIn else .In] [b] pos) (tT Φ fr X.K Γ (.e (.ind ng ea eb))) :=
  t_cmp (pt_cmpR (op_indG gd.u65 ng) ha hb (by cases b <;> first | rfl | cases hn)) rfl fun σ H Q h => m_ind ng h
/-- x in [..], the list its own -/
theorem m_ins {K : PySem.W.Frag} (ng : Bool) {ea : E} {i : Nat} {σ : Sg} {H : Hp} {Q : VK} (h : tE Φ fr K Γ w (.ins ng ea i) σ H Q) : tOp (rInDG K ng) (tE Φ fr K Γ .fro ea) (tO Φ fr K Γ (.s i)) σ H Q := by
  obtain ⟨ρ, ts, r, sr, he, q⟩ := h
  obtain ⟨ra, e1, he⟩ := bind_inv he
  obtain ⟨x, e2, he⟩ := bind_inv he
  obtain ⟨d, e3, rfl⟩ := map_inv he
  obtain ⟨l, q1, q2, q3, rfl⟩ := indD_inv e3
  subst q1
  have e4 : evO Φ (.s i) ra.2 = some (.list l, ra.2) := by
    show (get ra.2 i).map _ = _
    rw [e2]
    rfl
  refine ⟨ρ, ts, ra, sr, e1, fun v H1 s1 => ⟨ra.2, _, (.list l, ra.2), s1, e4, fun u H2 ts' s2 hd => ?_⟩⟩
  have hts : ts' = ts ++ [⟨.fro, ra.1, v⟩] := hd.1
  subst hts
  obtain ⟨G, F1, F2, y⟩ := id s2
  have rp := y.last1 rfl
  have y' : SRd fr K G F1 F2 Γ ra.2 σ (ts ++ [⟨.fro, ra.1, v⟩] ++ []) H2 := by rw [List.append_nil]; exact y
  have sn : Sn K G H2 (.list l) u := y'.sn (Φ := Φ) (o := .s i) hd e2
  obtain ⟨a, vs, rfl, g1, g2⟩ := sn.list y.sub
  exact ⟨_, l, (Rp_same y.sub _ _ rp).dp, .lst (.inl g1) (RpAll.dp _ _ (RpAll_same y.sub _ _ g2)), q2, q3, q _ _ (s2.drop.res rfl (rp_bl _))⟩
theorem k_ins (gd : Gd X c) (ng : Bool) (i : Nat) {x : Str} {a : Expr} {ea : E} {px : Pos} (ha : PE X a (tE Φ fr X.K Γ .fro ea)) (h : vC c Γ i x (.lst .fro) = true) : PE X (.Compare a [if ng then .NotIn else .In] [.Name x px] pos) (tE Φ fr X.K Γ w (.ins ng ea i)) :=
  PE_mono (pe_cmpR (op_indG gd.u65 ng) ha (k_os gd i h) rfl) fun σ H Q h => m_ins ng h
theorem k_insT (gd : Gd X c) (ng : Bool) (i : Nat) {x : Str} {a : Expr} {ea : E} {px : Pos} (ha : PE X a (tE Φ fr X.K Γ .fro ea)) (h : vC c Γ i x (.lst .fro) = true) : PT X (.Compare a [if ng then .NotIn else .In] [.Name x px] pos) (tT Φ fr X.K Γ (.e (.ins ng ea i))) :=
  t_cmp (pt_cmpR (op_indG gd.u65 ng) ha (k_os gd i h) rfl) rfl fun σ H Q h => m_ins ng h
/-! ### isinstance -/
def tyN : D → String
  | .none => "NoneType"
  | .bool _ => "bool"
  | .int _ => "int"
  | .str _ => "str"
  | .list _ => "list"
  | .tuple _ => "tuple"
  | .dict _ => "dict"
def ikN : Ik → String
  | .l => "list"
  | .t => "tuple"
  | .b => "bool"
  | .i => "int"
  | _ => "str"
def ik1 : Ik → Bool
  | .lt => false
  | .tl => false
  | _ => true
theorem kit1 {K : PySem.W.Frag} {k : Ik} (hk : ik1 k = true) {x : D} {b : Bool} (h : isiD k x = some b) : PySem.W.kitOne K (.type (tyN x)) (.type (ikN k)) = some b := by
  cases k <;> first | (cases hk; done) | (cases x <;> first | (cases h; done) | (cases h; kernel_rfl))
theorem tyX_of {K : PySem.W.Frag} {G H : Hp} {x : D} {v : V} (s : Same G H) (h : Sn K G H x v) : TyX K H v (.type (tyN x)) := by
  rcases h with h | ⟨l, a, vs, rfl, rfl, h1, _⟩
  · cases h with
    | non => exact .base .non
    | bl b => exact .base (.bl b)
    | int i => exact .base (.int i)
    | str x => exact .base (.str x)
    | lst h1 _ =>
      rcases Rd_same s h1 with h1 | ⟨o, h1⟩
      · exact .base (.lst h1)
      · exact .base (.frz h1)
    | tup h1 _ =>
      rcases SqT_same s h1 with (h1 | ⟨o, h1⟩) | ⟨o, its, n, h1, h2, _⟩
      · exact .base (.tup h1)
      · exact .fTuple h1
      · exact .kTuple h1 h2
  · exact .base (.lst h1)
theorem ik_boot : ∀ k : Ik, ik1 k = true → bootBuiltins (PySem.Str.ofString (ikN k)) = some (.type (ikN k))
  | .l, _ => by decide +kernel
  | .t, _ => by decide +kernel
  | .b, _ => by decide +kernel
  | .i, _ => by decide +kernel
  | .s, _ => by decide +kernel
theorem ik_nm : ∀ k : Ik, PySem.Str.ofString (ikN k) ≠ "__name__" ∧ (PySem.Str.ofString (ikN k) == ("__debug__" : Str)) = false
  | .l => ⟨by decide, by decide⟩
  | .t => ⟨by decide, by decide⟩
  | .b => ⟨by decide, by decide⟩
  | .i => ⟨by decide, by decide⟩
  | .s => ⟨by decide, by decide⟩
  | .lt => ⟨by decide, by decide⟩
  | .tl => ⟨by decide, by decide⟩
theorem late_same {o : O} {ρ : Rho} {ra : D × Rho} (e1 : evO Φ o ρ = some ra) : lateD Φ o ra.1 ra.2 = some ra.1 := by
  cases o with
  | e a => rfl
  | s i =>
    obtain ⟨d', e3, rfl⟩ := map_inv (show (get ρ i).map (fun d => (d, ρ)) = some ra from e1)
    exact e3
theorem SR.undo {K : PySem.W.Frag} {ρ : Rho} {σ : Sg} {ts ts' : List Tm} {H : Hp} {o : O} {v : V} {d : D} (s : SR fr K Γ ρ σ ts' H) (hd : Hold Γ σ o v d ts ts') : SR fr K Γ ρ σ ts H := by
  cases o with
  | e a =>
    have hd : ts' = ts ++ [⟨.fro, d, v⟩] := hd
    subst hd
    exact s.drop
  | s i =>
    obtain ⟨rfl, _⟩ := hd
    exact s
theorem k_isi (gd : Gd X c) (k : Ik) {a : Expr} {oa : O} {p p2 : Pos} (ha : PE X a (tO Φ fr X.K Γ oa)) (h : (ik1 k && noStar a && blC c "isinstance" && blC c (PySem.Str.ofString (ikN k))) = true) :
    PE X (.Call (.Name "isinstance" p) [a, .Name (PySem.Str.ofString (ikN k)) p2] [] pos) (tE Φ fr X.K Γ w (.isi k oa)) := by
  simp only [Bool.and_eq_true] at h
  obtain ⟨⟨⟨h0, h1⟩, h2⟩, h3⟩ := h
  have hT : PE X (.Name (PySem.Str.ofString (ikN k)) p2) (tC (.ty (ikN k))) := pe_bltn (blC_of gd h3).1 (blC_of gd h3).2 (ik_boot k h0) rfl (ik_nm k).1 (ik_nm k).2
  refine PE_mono (pe_callB call_isi (blC_of gd h2).1 (blC_of gd h2).2 (by decide +kernel) (pa_cons ha (pa_cons hT pa_nil rfl) (star_cons h1)) (by decide) (by decide) (star_cons h1) rfl) fun σ H Q h => ?_
  obtain ⟨ρ, ts, r, sr, he, q⟩ := h
  obtain ⟨ra, e1, he⟩ := bind_inv he
  obtain ⟨b, e2, rfl⟩ := map_inv he
  refine ⟨ρ, ts, ra, sr, e1, fun v H1 ts' s1 hd => ?_⟩
  obtain ⟨G, F1, F2, y⟩ := id s1
  have y' : SRd fr X.K G F1 F2 Γ ra.2 σ (ts' ++ []) H1 := by rw [List.append_nil]; exact y
  exact ⟨v, _, _, _, b, rfl, .ty _, tyX_of y.sub (y'.sn hd (late_same e1)), kit1 h0 e2, q _ _ ((s1.undo hd).res rfl (rp_bl _))⟩
end
end Vw
namespace Vw
open PySem PySem.Spec PyProof.Rows L2
/-! ### a slot's type changes for the rest of a block -/
theorem SlF.chg {K : PySem.W.Frag} {G H : Hp} {t' : Ty} : ∀ {Γ : List Ty} {ρ : Rho} {σ : Sg} {F : List Addr} (i : Nat), (ρ[i]? = some none ∨ ρ[i]? = none) → SlF K G H Γ ρ σ F → SlF K G H (Γ.set i t') ρ σ F
  | [], [], [], _, _, _, h => h
  | t :: Γ, o :: ρ, s :: σ, F, 0, hr, ⟨F1, F2, e, p, q⟩ => by
    have ho : o = none := by
      rcases hr with h | h
      · exact Option.some.inj h
      · cases h
    subst ho
    exact ⟨F1, F2, e, p, q⟩
  | t :: Γ, o :: ρ, s :: σ, F, i + 1, hr, ⟨F1, F2, e, p, q⟩ => ⟨F1, F2, e, p, SlF.chg (Γ := Γ) (ρ := ρ) i hr q⟩
  | [], [], _ :: _, _, _, _, h => h.elim
  | [], _ :: _, _, _, _, _, h => by cases ‹Sg› <;> exact h.elim
  | _ :: _, [], _, _, _, _, h => by cases ‹Sg› <;> exact h.elim
  | _ :: _, _ :: _, [], _, _, _, h => h.elim
section
variable {fr : Fr} {K : PySem.W.Frag} {G H : Hp} {F1 F2 : List Addr} {Γ : List Ty} {ρ : Rho} {σ : Sg} {ts us : List Tm}
theorem SRd.chg (x : SRd fr K G F1 F2 Γ ρ σ ts H) (i : Nat) (t' : Ty) (h : ρ[i]? = some none ∨ ρ[i]? = none) : SRd fr K G F1 F2 (Γ.set i t') ρ σ ts H := ⟨x.sub, x.sl.chg i h, x.tm, x.nd, x.out, x.ok⟩
theorem set_none_at (ρ : Rho) (i : Nat) : (ρ.set i none)[i]? = some none ∨ (ρ.set i none)[i]? = none := by
  by_cases h : i < ρ.length
  · exact .inl (by rw [List.getElem?_set_self h])
  · exact .inr (List.getElem?_eq_none (by rw [List.length_set]; omega))
/-- let go, with whatever type -/
theorem SR.blank (x : SR fr K Γ ρ σ ts H) (i : Nat) (t' : Ty) : SR fr K (Γ.set i t') (ρ.set i none) σ ts H := by
  obtain ⟨G, F1, F2, y⟩ := x
  obtain ⟨F3, z⟩ := y.forget i
  exact ⟨_, _, _, z.chg i t' (set_none_at ρ i)⟩
theorem SR.unblank {t' : Ty} {i : Nat} (x : SR fr K (Γ.set i t') ρ σ ts H) : SR fr K Γ (ρ.set i none) σ ts H := by
  cases e : Γ[i]? with
  | none =>
    have hn : Γ.length ≤ i := List.getElem?_eq_none_iff.mp e
    rw [List.set_eq_of_length_le hn] at x
    obtain ⟨G, F1, F2, y⟩ := x
    obtain ⟨F3, z⟩ := y.forget i
    exact ⟨_, _, _, z⟩
  | some t =>
    have y := x.blank i t
    rw [List.set_set] at y
    have e2 : Γ.set i t = Γ := by
      refine List.ext_getElem? fun j => ?_
      by_cases hj : i = j
      · subst hj
        rw [List.getElem?_set_self (List.getElem?_eq_some_iff.mp e).1, e]
      · rw [List.getElem?_set_ne hj]
    rwa [e2] at y
theorem put_same {i : Nat} {d : D} (h : get ρ i = some d) : put (ρ.set i none) i d = ρ := by
  unfold put
  rw [List.set_set]
  have h2 := get_some h
  refine List.ext_getElem? fun j => ?_
  by_cases hj : i = j
  · subst hj
    rw [List.getElem?_set_self (List.getElem?_eq_some_iff.mp h2).1, h2]
  · rw [List.getElem?_set_ne hj]
/-- an own thing becomes everybody's -/
theorem SR.freeze (x : SR fr K Γ ρ σ ts H) (i : Nat) : SR fr K (Γ.set i .fro) ρ σ ts H := by
  cases e : get ρ i with
  | none =>
    obtain ⟨G, F1, F2, y⟩ := x
    refine ⟨_, _, _, y.chg i .fro ?_⟩
    unfold get at e
    cases e2 : ρ[i]? with
    | none => exact .inr rfl
    | some o =>
      rw [e2] at e
      cases o with
      | none => exact .inl rfl
      | some d => cases e
  | some d =>
    obtain ⟨G, F1, F2, y⟩ := x
    obtain ⟨t, v, F3, F4, g1, g2, z⟩ := y.takeOut e
    obtain ⟨G', F5, z2⟩ := z.give
    have z3 := z2.chg i .fro (set_none_at ρ i)
    have hl := (List.getElem?_eq_some_iff.mp g1).1
    have hr := (List.getElem?_eq_some_iff.mp (get_some e)).1
    obtain ⟨F6, F7, z4⟩ := z3.putBack (by rw [List.getElem?_set_self hr]) (by rw [List.getElem?_set_self hl]) g2
    rw [put_same e] at z4
    exact ⟨_, _, _, z4⟩
end
section
variable {X : Cx} {Φ : Cf} {fr : Fr} {Γ : List Ty} {w : Ty} {ret : Ty} {wx : Xw} {pos : Pos} {c : Ct} {P P' : List Nat}
theorem Out.wipe {K : PySem.W.Frag} {ts : List Tm} {D : Ends} {i : Nat} {t' : Ty} {r : Rs} (h : Out fr Γ ret wx K ts D (rsWipe i r)) : Out fr (Γ.set i t') ret wx K ts D r := by
  cases r with
  | nx ρ => exact fun σ H s => h σ H s.unblank
  | brk ρ => exact fun σ H s => h σ H s.unblank
  | cnt ρ => exact fun σ H s => h σ H s.unblank
  | ret d ρ => exact fun v σ H us s => h v σ H us s.unblank
  | exn x fs ρ => exact fun σ H us vs C dd s => h σ H us vs C dd s.unblank
theorem ss_fz (i : Nat) {rest : List Stmt} {ss : Ss} (h2 : PSs X rest (tSs Φ fr (Γ.set i .fro) ret wx X.K ss)) : PSs X rest (tSs Φ fr Γ ret wx X.K (.fz i ss)) := by
  refine PSs_mono h2 fun D σ H h => ?_
  obtain ⟨ρ, ts, r, sr, he, q⟩ := h
  obtain ⟨r0, e1, rfl⟩ := map_inv (show (exSs Φ ss ρ).map (rsWipe i) = some r from he)
  exact ⟨ρ, ts, r0, sr.freeze i, e1, q.wipe⟩
theorem ss_reb (gd : Gd X c) (hp : Pin P fr) (i : Nat) (t : Ty) {x : Str} {e : Expr} {ee : E} {px : Pos} {rest : List Stmt} {ss : Ss} (he : PE X e (tE Φ fr X.K Γ t ee)) (h : (sC c (Γ.set i t) P i x t && noComp e) = true)
    (h2 : PSs X rest (tSs Φ fr (Γ.set i t) ret wx X.K ss)) : PSs X (.Assign [.Name x px] e pos :: rest) (tSs Φ fr Γ ret wx X.K (.reb i t ee ss)) := by
  obtain ⟨h, h7⟩ := Bool.and_eq_true_iff.mp h
  obtain ⟨g1, g2, g3, g4, g5, g6⟩ := sC_of gd hp h
  refine PSs_mono (pss_cons (ps_set g1 g2 g3 he (swaps_no h7) g4) h2) fun D σ H h => ?_
  obtain ⟨ρ, ts, r, sr, he, q⟩ := h
  obtain ⟨ra, e1, he⟩ := bind_inv (show (ev Φ ee ρ).bind _ = some r from he)
  obtain ⟨r0, e2, rfl⟩ := map_inv he
  refine ⟨ρ, ts, ra, sr, e1, fun v H1 s1 => ⟨_, ts, r0, ?_, e2, q.wipe⟩⟩
  have s2 := (s1.blank i t).setSlot g5 g6
  have e3 : put (ra.2.set i none) i ra.1 = put ra.2 i ra.1 := by
    unfold put
    rw [List.set_set]
  rwa [e3] at s2
/-! ### the module's constants -/
theorem k_gi (gd : Gd X c) {x : Str} (n : Int) (h : (glC c x && !(x == ("__debug__" : Str)) && decide ((x, n) ∈ c.gl)) = true) : PE X (.Name x pos) (tE Φ fr X.K Γ w (.gl x (.int n))) := by
  obtain ⟨h, h3⟩ := Bool.and_eq_true_iff.mp h
  obtain ⟨h1, h2⟩ := Bool.and_eq_true_iff.mp h
  obtain ⟨t, hm⟩ := gd.gl _ (of_decide_eq_true h3)
  have hp : PE X (.Name x pos) (tC (.int n)) := pe_glob (glC_of gd h1) hm ⟨t, rfl⟩ (by simpa using h2)
  refine PE_mono hp fun σ H Q h => ?_
  obtain ⟨ρ, ts, r, sr, he, q⟩ := h
  have he : some (.int n, ρ) = some r := he
  cases he
  exact q _ _ (sr.res rfl fun G => .int n)
end
end Vw
namespace Vw
open PySem PySem.Spec PyProof.Rows L2
section
variable {X : Cx} {Φ : Cf} {fr : Fr} {Γ : List Ty} {w : Ty} {pos : Pos} {c : Ct}
/-! ### is True, is not False .. of a bool; repr of a bool -/
def rIsb (ng : Bool) : R2 := fun x y H Q => ∃ a b, x = .bl a ∧ y = .bl b ∧ Q (.bl (decide (a = b) != ng)) H
theorem op_isbG (ng : Bool) : OpR X (compareOp (if ng then .IsNot else .Is)) (rIsb ng) := by
  cases ng with
  | true =>
    intro pins s σ H x y v u Q I rx ry h
    obtain ⟨a, b, h1, h2, q⟩ := h
    exact op_isnot_bl pins s σ H x y v u Q I rx ry ⟨a, b, h1, h2, by rw [Bool.bne_true] at q; exact q⟩
  | false =>
    intro pins s σ H x y v u Q I rx ry h
    obtain ⟨a, b, h1, h2, q⟩ := h
    exact op_is_bl pins s σ H x y v u Q I rx ry ⟨a, b, h1, h2, by rw [Bool.bne_false] at q; exact q⟩
theorem m_isb {K : PySem.W.Frag} (ng v : Bool) {ea : E} {σ : Sg} {H : Hp} {Q : VK} (h : tE Φ fr K Γ w (.isb ng v ea) σ H Q) : tOp (rIsb ng) (tE Φ fr K Γ .fro ea) (tC (.bl v)) σ H Q := by
  obtain ⟨ρ, ts, r, sr, he, q⟩ := h
  obtain ⟨ra, e1, he⟩ := bind_inv he
  refine ⟨ρ, ts, ra, sr, e1, fun u H1 s1 => ?_⟩
  obtain ⟨G, F1, F2, y⟩ := id s1
  have rp := y.last1 rfl
  clear e1
  obtain ⟨d, ρ1⟩ := ra
  cases d with
  | bool b =>
    cases rp
    cases he
    exact ⟨b, v, rfl, rfl, q _ _ (s1.drop.res rfl (rp_bl _))⟩
  | _ => cases he
theorem k_isb (ng v : Bool) {a : Expr} {j : Nat} {p : Pos} {ea : E} (ha : PE X a (tE Φ fr X.K Γ .fro ea)) : PE X (.Compare a [if ng then .IsNot else .Is] [.Constant (.bool v) j p] pos) (tE Φ fr X.K Γ w (.isb ng v ea)) :=
  PE_mono (pe_cmpR (op_isbG ng) ha pe_bl (nobehind _ (isop_in ng).1 (isop_in ng).2)) fun σ H Q h => m_isb ng v h
theorem k_isbT (ng v : Bool) {a : Expr} {j : Nat} {p : Pos} {ea : E} (ha : PE X a (tE Φ fr X.K Γ .fro ea)) : PT X (.Compare a [if ng then .IsNot else .Is] [.Constant (.bool v) j p] pos) (tT Φ fr X.K Γ (.e (.isb ng v ea))) :=
  t_cmp (pt_cmpR (op_isbG ng) ha pe_bl (nobehind _ (isop_in ng).1 (isop_in ng).2)) rfl fun σ H Q h => m_isb ng v h
theorem call_repr_bl : CallR X (.builtin "repr") (fun xs H Q => ∃ b : Bool, xs = [.bl b] ∧ Q (.str (if b then "True" else "False")) H) := by
  intro pins s σ H xs us Q I r h
  obtain ⟨b, rfl, q⟩ := h
  obtain ⟨u, rfl, rx⟩ := vals1 r
  obtain rfl : u = Value.bool b := rx
  exact PySem.P.repr_of_bool ⟨.str _, H, I.tok _, ⟨_, rfl⟩, q⟩
theorem repD_inv {x d : D} (h : repD x = some d) : ∃ b : Bool, x = .bool b ∧ d = .str (if b then "True" else "False") := by
  cases x with
  | bool b =>
    cases b <;> cases h
    · exact ⟨false, rfl, rfl⟩
    · exact ⟨true, rfl, rfl⟩
  | _ => cases h
theorem k_rep (gd : Gd X c) {a : Expr} {ea : E} {p : Pos} (ha : PE X a (tE Φ fr X.K Γ .fro ea)) (h : (noStar a && blC c "repr") = true) : PE X (.Call (.Name "repr" p) [a] [] pos) (tE Φ fr X.K Γ w (.rep ea)) := by
  obtain ⟨h1, h2⟩ := Bool.and_eq_true_iff.mp h
  refine PE_mono (pe_callB call_repr_bl (blC_of gd h2).1 (blC_of gd h2).2 (by decide +kernel) (pa_cons ha pa_nil (star_cons h1)) (by decide) (by decide) (star_cons h1) rfl) fun σ H Q h => ?_
  obtain ⟨ρ, ts, r, sr, he, q⟩ := h
  obtain ⟨ra, e1, he⟩ := bind_inv he
  obtain ⟨d, e2, rfl⟩ := map_inv he
  refine ⟨ρ, ts, ra, sr, e1, fun v H1 s1 => ?_⟩
  obtain ⟨G, F1, F2, y⟩ := id s1
  have rp := y.last1 rfl
  clear e1
  obtain ⟨d1, ρ1⟩ := ra
  obtain ⟨b, q1, rfl⟩ := repD_inv e2
  have q1 : d1 = .bool b := q1
  subst q1
  cases rp
  exact ⟨b, rfl, q _ _ (s1.drop.res rfl fun G => .str _)⟩
end
end Vw
namespace Vw
open PySem PySem.Spec PyProof.Rows L2
/-! ### raise, calls that may raise, try -/
section
variable {fr : Fr} {K : PySem.W.Frag} {G G' H H' : Hp} {F1 F2 : List Addr} {Γ : List Ty} {ρ : Rho} {σ : Sg} {ts us : List Tm}
/-- behind a call that owns nothing -/
theorem SRd.jump (x : SRd fr K G F1 F2 Γ ρ σ ts H) (sG : Same G G') (sub : Same G' H') (keep : ∀ a o, H a = some o → H' a = some o) (mono : ∀ a, H' a = none → H a = none) (nG : ∀ a, G' a ≠ none → G a ≠ none ∨ H a = none) : SRd fr K G' F1 F2 Γ ρ σ ts H' := by
  have st : ∀ a ∈ F1 ++ F2, H' a = H a := fun a ha => by
    obtain ⟨ws, eh⟩ := x.there a ha
    rw [eh]
    exact keep _ _ eh
  refine ⟨sub, x.sl.stay sG (fun a ha => st a (List.mem_append_left _ ha)), x.tm.stay sG (fun a ha => st a (List.mem_append_right _ ha)), x.nd, fun a ha => ⟨?_, (x.out a ha).2⟩, fun a o e hF => keep _ _ (x.ok.keep a o e hF), fun a e => x.ok.mono a (mono a e), fun a o e => sG _ _ (x.ok.sG a o e), fun a h => ?_, x.ok.pin⟩
  · cases e : G' a with
    | none => rfl
    | some o =>
      obtain ⟨ws, eh⟩ := x.there a ha
      rcases nG a (by rw [e]; exact fun z => nomatch z) with h | h
      · exact absurd (x.out a ha).1 h
      · rw [eh] at h
        cases h
  · rcases nG a h with h | h
    · exact x.ok.nG a h
    · exact .inr (.inr (x.ok.mono a h))
theorem SRd.segment {ds : List D} {vs : List V} (x : SRd fr K G F1 F2 Γ ρ σ (ts ++ tms .fro ds vs ++ us) H) (hl : vs.length = ds.length) : RpAll K G vs ds := by
  obtain ⟨F3, y⟩ := x.drop
  obtain ⟨F4, F5, _, _, t2⟩ := y.tm.app
  have rs := t2.alls tms_t
  rwa [tms_d hl, tms_v hl] at rs
theorem SRd.seg (x : SRd fr K G F1 F2 Γ ρ σ (ts ++ tms .fro ds vs) H) (hl : vs.length = ds.length) : RpAll K G vs ds := by
  obtain ⟨F4, F5, _, _, t2⟩ := x.tm.app
  have rs := t2.alls tms_t
  rwa [tms_d hl, tms_v hl] at rs
end
section
variable {X : Cx} {c : Ct} {Φ : Cf} {fr : Fr} {Γ : List Ty} {w : Ty} {ret : Ty} {wx : Xw} {pos : Pos} {P P' : List Nat}
/-- raise x(a, b) -/
theorem s_rse {x : Str} {a b : Expr} {es : Es} {p ps p2 : Pos} (gx : Gx X wx) (gd : Gd X c) (kl : Kls X x) (ha : PA X [a, b] (tEs Φ fr X.K Γ .fro es)) (h : (noStar a && noStar b && glC c x && !(x == ("__debug__" : Str))) = true) :
    PS X (.Raise (some (.Call (.Name x p) [a, b] [] ps)) none p2) (tS Φ fr Γ ret wx X.K (.rse x [PySem.Str.ofString "rule", PySem.Str.ofString "index"] es)) := by
  simp only [Bool.and_eq_true, Bool.not_eq_true'] at h
  obtain ⟨⟨⟨h1, h2⟩, h3⟩, h4⟩ := h
  obtain ⟨C, eC, mC, ms, _, _, _⟩ := kl.at_.ex
  refine PS_mono (ps_raise gd.calm gx.tk (pmk2 eC mC ms kl.rm (Nat.le_refl _) ha (glC_of gd h3) h4 (star_cons h1) (stars_plain (by show (noStar b && true) = true; rw [h2]; rfl)))) fun D σ H h => ?_
  obtain ⟨ρ, ts, r, sr, he, q⟩ := h
  obtain ⟨ra, e1, he⟩ := bind_inv he
  split at he
  · rename_i hl
    cases he
    refine ⟨ρ, ts, ra, sr, e1, fun vs H1 hv s1 => ?_⟩
    obtain ⟨ds, ρ1⟩ := ra
    have hl : 2 = ds.length := hl
    have hv : vs.length = ds.length := hv
    match ds, vs, hl, hv with
    | [d1, d2], [v1, v2], _, _ =>
      refine ⟨v1, v2, rfl, fun d hd => ?_⟩
      obtain ⟨G, F1, F2, y⟩ := s1
      have mC' : wx.mg x = some (.ref C) := by
        rw [← gx.mg]
        exact mC
      exact q σ _ [] [v1, v2] C d ⟨_, _, _, by rw [List.append_nil]; exact (y.fresh hd).1⟩ rfl mC' upd_same
  · cases he
/-! calls -/
def esN : Es → Nat
  | .nil => 0
  | .cons _ es => esN es + 1
theorem evs_len : ∀ {es : Es} {ρ : Rho} {r : List D × Rho}, evs Φ es ρ = some r → r.1.length = esN es
  | .nil, _, _, h => by
    cases h
    rfl
  | .cons e es, ρ, r, h => by
    obtain ⟨ra, e1, h⟩ := bind_inv h
    obtain ⟨rb, e2, rfl⟩ := map_inv h
    show _ + 1 = _ + 1
    rw [evs_len e2]
variable (Φ fr Γ ret wx w) in
def tCx (K : PySem.W.Frag) (f : Str) (es : Es) : TE := fun σ H Q => ∃ ρ ts rr xr, SR fr K Γ ρ σ ts H ∧ evs Φ es ρ = some rr ∧ Φ.fx f rr.1 = some xr ∧ match xr with
  | .ret d _ => ∀ v H', SR fr K Γ rr.2 σ (ts ++ [⟨w, d, v⟩]) H' → Q v H'
  | .exn x fs => Out fr Γ ret wx K ts { nx := fun _ _ => False, rt := fun _ _ => False } (.exn x fs rr.2)
theorem all_fro {g : Sig} {ds : List D} {vs : List V} (hp : (g.ps.all fun t => decide (t = .fro)) = true) (hl : vs.length = ds.length) (hg : g.ps.length = ds.length) : (tms .fro ds vs).map Tm.t = g.ps := by
  have h1 : (tms .fro ds vs).map Tm.t = (tms .fro ds vs).map (fun _ => Ty.fro) := List.map_congr_left fun x hx => tms_t x hx
  have h2 : g.ps = g.ps.map (fun _ => Ty.fro) := by
    have : g.ps.map id = g.ps.map (fun _ => Ty.fro) := List.map_congr_left fun t ht => of_decide_eq_true (List.all_eq_true.mp hp t ht)
    rwa [List.map_id] at this
  rw [h1, h2, List.map_const', List.map_const', hg]
  have e9 := congrArg List.length (tms_d (w := .fro) hl)
  rw [List.length_map] at e9
  rw [e9]
theorem e_cx {x : Str} {g : Sig} {es : Es} {args : List Expr} {p : Pos} (gx : Gx X wx) (gd : Gd X c) (cal : CalX X Φ x g) (ha : PA X args (tEs Φ fr X.K Γ .fro es))
    (h : (noStars args && !args.isEmpty && glC c x && !(x == ("__debug__" : Str)) && decide (w = g.ret) && (g.ps.all fun t => decide (t = .fro)) && decide (g.ps.length = esN es)) = true) :
    PE X (.Call (.Name x p) args [] pos) (tCx Φ fr Γ w ret wx X.K x es) := by
  obtain ⟨k, f, fd, ps, F, hr, hm, hk, hb⟩ := cal.ex
  simp only [Bool.and_eq_true, decide_eq_true_eq, Bool.not_eq_true'] at h
  obtain ⟨⟨⟨⟨⟨⟨h1, h2⟩, h3⟩, h4⟩, h5⟩, h6⟩, h7⟩ := h
  cases args with
  | nil => cases h2
  | cons e1 es1 =>
    obtain ⟨g1, g2⟩ := Bool.and_eq_true_iff.mp (show (noStar e1 && noStars es1) = true from h1)
    refine PE_mono (pe_callS F hr (glC_of gd h3) hm hk hb (fun σ => passAt gx.tk σ) ha h4 (star_cons g1) (stars_plain g2)) fun σ H Q h => ?_
    obtain ⟨ρ, ts, rr, xr, sr, e1, e2, q⟩ := h
    refine ⟨ρ, ts, rr, sr, e1, fun vs H1 hl s1 => ?_⟩
    obtain ⟨G, F1, F2, y⟩ := s1
    have rs := y.seg hl
    have hps := all_fro (g := g) (ds := rr.1) (vs := vs) h6 hl (by rw [h7, evs_len e1])
    obtain ⟨F3, y2⟩ := y.drop
    refine ⟨G, tms .fro rr.1 vs, xr, tms_v hl, hps, y.sub, tms_of (w := w) rs, by rw [tms_d hl]; exact e2, ?_⟩
    cases xr with
    | ret d o =>
      intro v H' ce
      obtain ⟨G', xs', FA, FR, sG, sub', c1, c2, c3, tmA, tR, nd', out', keep', mono', nG'⟩ := ce
      have y3 : SRd fr X.K G' F1 F3 Γ rr.2 σ ts H' := y2.jump sG sub' (fun a o e => keep' a o e (by intro z; cases z)) mono' (fun a h => (nG' a h).elim .inl fun h => h.elim (fun z => by cases z) .inr)
      refine q v H' ⟨G', F1, F3 ++ FR, y3.sub, y3.sl, y3.tm.of_app (TmF.of_one (by rw [h5]; exact tR)), ?_, fun a ha => ?_, y3.ok⟩
      · rw [← List.append_assoc]
        refine List.nodup_append.mpr ⟨y3.nd, nd'.sublist (List.sublist_append_right _ _), fun a ha b hb e => ?_⟩
        subst e
        obtain ⟨ws, eh⟩ := y2.there a ha
        rcases (out' a (List.mem_append_right _ hb)).2 with h | h
        · cases h
        · rw [eh] at h
          cases h
      · rw [← List.append_assoc] at ha
        rcases List.mem_append.mp ha with ha | ha
        · exact y3.out a ha
        · obtain ⟨o1, o2⟩ := out' a (List.mem_append_right _ ha)
          refine ⟨o1, .inr ?_⟩
          rcases o2 with h | h
          · cases h
          · exact y2.ok.mono a h
    | exn z fs =>
      intro C dd vs' H' hC hv' xe hd
      obtain ⟨G', sG, sub', rv, keep', mono', nG'⟩ := xe
      have y3 : SRd fr X.K G' F1 F3 Γ rr.2 σ ts H' := y2.jump sG sub' keep' mono' nG'
      exact q σ H' [] vs' C dd ⟨G', F1, F3, by rw [List.append_nil]; exact y3.pushes rv⟩ hv' (by rw [← gx.mg]; exact hC) hd
/-! the statements -/
theorem s_cx {x : Str} {es : Es} {args : List Expr} {p cp : Pos} (he : PE X (.Call (.Name x p) args [] cp) (tCx Φ fr Γ .fro ret wx X.K x es)) : PS X (.Expr (.Call (.Name x p) args [] cp) pos) (tS Φ fr Γ ret wx X.K (.cx x es)) := by
  refine PS_mono (ps_expr he (swaps_no rfl)) fun D σ H h => ?_
  obtain ⟨ρ, ts, r, sr, he, q⟩ := h
  obtain ⟨ra, e1, he⟩ := bind_inv he
  obtain ⟨xr, e2, he⟩ := bind_inv he
  refine ⟨ρ, ts, ra, xr, sr, e1, e2, ?_⟩
  cases xr with
  | ret d o =>
    cases he
    exact fun v H1 s1 => q σ H1 s1.drop
  | exn z fs =>
    cases he
    exact q
theorem s_rtx {x : Str} {es : Es} {args : List Expr} {p cp : Pos} (he : PE X (.Call (.Name x p) args [] cp) (tCx Φ fr Γ ret ret wx X.K x es)) : PS X (.Return (some (.Call (.Name x p) args [] cp)) pos) (tS Φ fr Γ ret wx X.K (.rtx x es)) := by
  refine PS_mono (ps_ret he) fun D σ H h => ?_
  obtain ⟨ρ, ts, r, sr, he, q⟩ := h
  obtain ⟨ra, e1, he⟩ := bind_inv he
  obtain ⟨xr, e2, he⟩ := bind_inv he
  refine ⟨ρ, ts, ra, xr, sr, e1, e2, ?_⟩
  cases xr with
  | ret d o =>
    cases he
    exact fun v H1 s1 => q v σ H1 [] (by rw [List.append_nil]; exact s1)
  | exn z fs =>
    cases he
    exact q
theorem s_sx {i : Nat} {t : Ty} {y : Str} {py : Pos} {x : Str} {es : Es} {args : List Expr} {p cp : Pos} (gd : Gd X c) (hp : Pin P fr) (h : sC c Γ P i y t = true) (he : PE X (.Call (.Name x p) args [] cp) (tCx Φ fr Γ t ret wx X.K x es)) : PS X (.Assign [.Name y py] (.Call (.Name x p) args [] cp) pos) (tS Φ fr Γ ret wx X.K (.sx i x es)) := by
  obtain ⟨h1, h2, h3, h4, h5, h6⟩ := sC_of gd hp h
  refine PS_mono (ps_set h1 h2 h3 he (swaps_no rfl) h4) fun D σ H h => ?_
  obtain ⟨ρ, ts, r, sr, he, q⟩ := h
  obtain ⟨ra, e1, he⟩ := bind_inv he
  obtain ⟨xr, e2, he⟩ := bind_inv he
  refine ⟨ρ, ts, ra, xr, sr, e1, e2, ?_⟩
  cases xr with
  | ret d o =>
    cases he
    exact fun v H1 s1 => q _ _ (s1.setSlot h5 h6)
  | exn z fs =>
    cases he
    exact q
theorem s_ifx (ng : Bool) {x : Str} {es : Es} {args : List Expr} {p cp np ip : Pos} {j : Nat} {a b : List Stmt} {sa sb : Ss} (he : PE X (.Call (.Name x p) args [] cp) (tCx Φ fr Γ .fro ret wx X.K x es)) (ha : PSs X a (tSs Φ fr Γ ret wx X.K sa)) (hb : PSs X b (tSs Φ fr Γ ret wx X.K sb)) :
    PS X (.If (.Compare (.Call (.Name x p) args [] cp) [if ng then .IsNot else .Is] [.Constant .none j np] ip) a b pos) (tS Φ fr Γ ret wx X.K (.ifx ng x es sa sb)) := by
  refine PS_mono (ps_if (pt_cmpR (op_isG ng) he pe_non (nobehind _ (isop_in ng).1 (isop_in ng).2)) ha hb) fun D σ H h => ?_
  obtain ⟨ρ, ts, r, sr, he, q⟩ := h
  obtain ⟨ra, e1, he⟩ := bind_inv he
  obtain ⟨xr, e2, he⟩ := bind_inv he
  refine ⟨ρ, ts, ra, xr, sr, e1, e2, ?_⟩
  cases xr with
  | ret d o =>
    intro v H1 s1
    have hn : decide (v = .non) = isNone d := by
      obtain ⟨G, F1, F2, y⟩ := id s1
      have rd := y.last1 rfl
      cases rd <;> rfl
    refine ⟨rfl, _, rfl, ?_⟩
    rw [hn]
    have he : (if (isNone d != ng) = true then exSs Φ sa ra.2 else exSs Φ sb ra.2) = some r := he
    show if (isNone d != ng) = true then tSs Φ fr Γ ret wx X.K sa D σ H1 else tSs Φ fr Γ ret wx X.K sb D σ H1
    by_cases hd : (isNone d != ng) = true
    · rw [if_pos hd] at he ⊢
      exact ⟨_, ts, r, s1.drop, he, q⟩
    · rw [if_neg hd] at he ⊢
      exact ⟨_, ts, r, s1.drop, he, q⟩
  | exn z fs =>
    cases he
    exact q
end
/-! ### the except suite -/
section
variable {X : Cx} {c : Ct} {Φ : Cf} {fr : Fr} {Γ : List Ty} {pos : Pos} {a C : Addr} {dd : Addr} {oe : Obj} {pn : List (Addr × Obj)} {x : Str} {i : Nat}
theorem zip_look : ∀ {fs : Fs} {vs : List V} {f : Str} {d : D} {K : PySem.W.Frag} {G : Hp}, RpAll K G vs (fs.map (·.2)) → fs.lookup f = some d → ∃ v, ((fs.map (·.1)).zip vs).lookup f = some v ∧ Rp K G v d
  | [], _, _, _, _, _, _, e => by cases e
  | (y, e0) :: fs, [], _, _, _, _, h, _ => by cases h
  | (y, e0) :: fs, v :: vs, f, d, K, G, h, e => by
    cases h with
    | cons h1 h2 =>
      show ∃ u, ((y, v) :: (fs.map (·.1)).zip vs).lookup f = some u ∧ Rp K G u d
      rw [List.lookup_cons] at e ⊢
      by_cases hy : (f == y) = true
      · rw [hy] at e ⊢
        cases e
        exact ⟨v, rfl, h1⟩
      · have hy : (f == y) = false := by simpa using hy
        rw [hy] at e ⊢
        exact zip_look h2 e

variable (fr Γ x i a dd) in
def tH (K : PySem.W.Frag) (hx : Hx) : TE := fun σ H Q => ∃ ρ fs vs ts d, SR fr K Γ ρ σ (tms .fro (fs.map (·.2)) vs ++ ts) H ∧ vs.length = fs.length ∧ H dd = some (xdOf fs vs) ∧ ρ[i]? = some none ∧ σ[i]? = some (some (.ref a)) ∧ hxD x fs ρ hx = some d ∧
  ∀ v H', SR fr K Γ ρ σ (tms .fro (fs.map (·.2)) vs ++ ts ++ [⟨.fro, d, v⟩]) H' → H' dd = some (xdOf fs vs) → Q v H'
variable (fr Γ x i a dd) in
def tHs (K : PySem.W.Frag) (l : Hxs) : TA := fun σ H Q => ∃ ρ fs vs ts ds, SR fr K Γ ρ σ (tms .fro (fs.map (·.2)) vs ++ ts) H ∧ vs.length = fs.length ∧ H dd = some (xdOf fs vs) ∧ ρ[i]? = some none ∧ σ[i]? = some (some (.ref a)) ∧ hxsD x fs ρ l = some ds ∧
  ∀ us H', us.length = ds.length → SR fr K Γ ρ σ (tms .fro (fs.map (·.2)) vs ++ ts ++ tms .fro ds us) H' → H' dd = some (xdOf fs vs) → Q us H'
abbrev Su (X : Cx) (a : Addr) (oe : Obj) (pn : List (Addr × Obj)) : Cx := X.suite a ((a, oe) :: pn)
theorem h_k {e : Expr} {v : V} {d : D} (he : PE (Su X a oe pn) e (tC v)) (s : scalar d = true) (r : ∀ G, Rp X.K G v d) : PE (Su X a oe pn) e (tH fr Γ a dd x i X.K (.k d)) := by
  refine PE_mono he fun σ H Q h => ?_
  obtain ⟨ρ, fs, vs, ts, d', sr, hl, hd, hi, hs, he, q⟩ := h
  have he : (if scalar d = true then some d else none) = some d' := he
  rw [if_pos s] at he
  cases he
  exact q _ _ (sr.res s r) hd
theorem h_v {j : Nat} {y : Str} (hN : X.N[j]? = some y) (hv : Vis X.env.scope y) (hw : Γ[j]? = some .fro) (hdb : (y == ("__debug__" : Str)) = false) (hcd : (y == ("__classdict__" : Str)) = false) : PE (Su X a oe pn) (.Name y pos) (tH fr Γ a dd x i X.K (.v j)) := by
  refine PE_mono (pe_var (X := Su X a oe pn) hN hv hdb hcd) fun σ H Q h => ?_
  obtain ⟨ρ, fs, vs, ts, d', ⟨G, F1, F2, y⟩, hl, hd, hi, hs, he, q⟩ := h
  obtain ⟨v, g1, g2⟩ := y.slot he hw
  exact ⟨v, g1, q _ _ ⟨G, F1, F2, y.push g2⟩ hd⟩
theorem h_xf {f y : Str} {py : Pos} (T : XfC X.K C) (hno : PySem.W.findIn X.K (.ref C) f = some none) (hz : Zc (.ref C) (some dd) oe) (hf : ∃ vs, oe.data = .fields vs) (hN : X.N[i]? = some y) (hv : Vis X.env.scope y) (hdb : (y == ("__debug__" : Str)) = false) (hcd : (y == ("__classdict__" : Str)) = false) :
    PE (Su X a oe pn) (.Attribute (.Name y py) f pos) (tH fr Γ a dd x i X.K (.xf f)) := by
  refine PE_mono (pe_xf T hno hz hf (pe_var (X := Su X a oe pn) hN hv hdb hcd) rfl) fun σ H Q h => ?_
  obtain ⟨ρ, fs, vs, ts, d', ⟨G, F1, F2, y⟩, hl, hd, hi, hs, he, q⟩ := h
  have rs : RpAll X.K G vs (fs.map (·.2)) := SRd.segment (ts := []) (us := ts) y (by rw [List.length_map]; exact hl)
  obtain ⟨v, l, rv⟩ := zip_look rs he
  exact ⟨.ref a, hs, rfl, rfl, dd, _, v, rfl, hd, l, q v H ⟨G, F1, F2, y.push rv⟩ hd⟩
theorem hs_nil : PA (Su X a oe pn) [] (tHs fr Γ a dd x i X.K .nil) := by
  refine PA_mono pa_nil fun σ H Q h => ?_
  obtain ⟨ρ, fs, vs, ts, d', sr, hl, hd, hi, hs, he, q⟩ := h
  have he : some [] = some d' := he
  cases he
  exact q [] H rfl (by rw [show tms .fro [] [] = [] from rfl, List.append_nil]; exact sr) hd
theorem hs_cons {e : Expr} {es : List Expr} {h : Hx} {l : Hxs} (ha : PE (Su X a oe pn) e (tH fr Γ a dd x i X.K h)) (hb : PA (Su X a oe pn) es (tHs fr Γ a dd x i X.K l)) (hs : noStar e = true) : PA (Su X a oe pn) (e :: es) (tHs fr Γ a dd x i X.K (.cons h l)) := by
  refine PA_mono (pa_cons ha hb (star_cons hs)) fun σ H Q h => ?_
  obtain ⟨ρ, fs, vs, ts, d', sr, hl, hd, hi, hs, he, q⟩ := h
  obtain ⟨d1, e1, he⟩ := bind_inv he
  obtain ⟨ds, e2, rfl⟩ := map_inv he
  refine ⟨ρ, fs, vs, ts, d1, sr, hl, hd, hi, hs, e1, fun v H1 s1 hd1 => ⟨ρ, fs, vs, ts ++ [⟨.fro, d1, v⟩], ds, by rw [← List.append_assoc]; exact s1, hl, hd1, hi, hs, e2, fun us H2 hu s2 hd2 => q (v :: us) H2 (by simp [hu]) ?_ hd2⟩⟩
  rw [← List.append_assoc, List.append_assoc] at s2
  exact s2
theorem h_tup {es : List Expr} {l : Hxs} {k : Nat} (ha : PA (Su X a oe pn) es (tHs fr Γ a dd x i X.K l)) : PE (Su X a oe pn) (.Tuple es k pos) (tH fr Γ a dd x i X.K (.tup l)) := by
  refine PE_mono (pe_tup ha) fun σ H Q h => ?_
  obtain ⟨ρ, fs, vs, ts, d', sr, hl, hd, hi, hs, he, q⟩ := h
  obtain ⟨ds, e1, he⟩ := bind_inv he
  split at he
  · rename_i c
    cases he
    refine ⟨ρ, fs, vs, ts, ds, sr, hl, hd, hi, hs, e1, fun us H1 hu s1 hd1 => ⟨by rw [hu]; exact lenOk_of c, fun p hp => ?_⟩⟩
    obtain ⟨G, F1, F2, y⟩ := id s1
    have rs := y.seg hu
    obtain ⟨F5, y2⟩ := y.drop
    exact q _ _ (y2.newTup rs hp) (by rw [upd_ne (ne_of_none hd1 hp)]; exact hd1)
  · cases he
variable (fr Γ x i a dd) in
def tHb (K : PySem.W.Frag) (h : Hs) : TS := fun D σ H => ∃ ρ fs vs ts d, SR fr K Γ ρ σ (tms .fro (fs.map (·.2)) vs ++ ts) H ∧ vs.length = fs.length ∧ H dd = some (xdOf fs vs) ∧ ρ[i]? = some none ∧ σ[i]? = some (some (.ref a)) ∧ hsD x fs ρ h = some d ∧
  ∀ v H', SR fr K Γ ρ σ (tms .fro (fs.map (·.2)) vs ++ ts ++ [⟨.fro, d, v⟩]) H' → D.rt v H'
theorem hb_ret {e : Expr} {h : Hx} (ha : PE (Su X a oe pn) e (tH fr Γ a dd x i X.K h)) : PSs (Su X a oe pn) [.Return (some e) pos] (tHb fr Γ a dd x i X.K (.ret h)) := by
  refine PSs_mono (pss_one (ps_ret ha)) fun D σ H h => ?_
  obtain ⟨ρ, fs, vs, ts, d, sr, hl, hd, hi, hs, he, q⟩ := h
  exact ⟨ρ, fs, vs, ts, d, sr, hl, hd, hi, hs, he, fun v H' s1 _ => q v H' s1⟩
/-- what is known of a class that is caught -/
structure KC (X : Cx) (x : Str) (C : Addr) : Prop where
  mg : X.mg x = some (.ref C)
  xc : XcC X.K C
  er : Ve.Err2 X.K X.prog C
  xf : XfC X.K C
theorem k_xf1 {y : Str} {py : Pos} (gd : Gd X c) (kc : KC X x C) (hz : Zc (.ref C) (some dd) oe) (hf : ∃ vs, oe.data = .fields vs) (h : vC c Γ i y .fro = true) : PE (Su X a oe pn) (.Attribute (.Name y py) "rule" pos) (tH fr Γ a dd x i X.K (.xf (PySem.Str.ofString "rule"))) := by
  obtain ⟨h1, h2, h3, h4, h5⟩ := vC_of gd h
  exact h_xf kc.xf kc.er.n1 hz hf h1 h2 h4 h5
theorem k_xf2 {y : Str} {py : Pos} (gd : Gd X c) (kc : KC X x C) (hz : Zc (.ref C) (some dd) oe) (hf : ∃ vs, oe.data = .fields vs) (h : vC c Γ i y .fro = true) : PE (Su X a oe pn) (.Attribute (.Name y py) "index" pos) (tH fr Γ a dd x i X.K (.xf (PySem.Str.ofString "index"))) := by
  obtain ⟨h1, h2, h3, h4, h5⟩ := vC_of gd h
  exact h_xf kc.xf kc.er.n2 hz hf h1 h2 h4 h5
theorem k_hv {j : Nat} {y : Str} (gd : Gd X c) (h : vC c Γ j y .fro = true) : PE (Su X a oe pn) (.Name y pos) (tH fr Γ a dd x i X.K (.v j)) := by
  obtain ⟨h1, h2, h3, h4, h5⟩ := vC_of gd h
  exact h_v h1 h2 h3 h4 h5
theorem k_hi {n : Int} {j : Nat} : PE (Su X a oe pn) (.Constant (.int n) j pos) (tH fr Γ a dd x i X.K (.k (.int n))) := h_k pe_int rfl fun G => .int n
theorem k_hs {z : Str} {j : Nat} : PE (Su X a oe pn) (.Constant (.str z) j pos) (tH fr Γ a dd x i X.K (.k (.str z))) := h_k pe_str rfl fun G => .str z
theorem s_tr {wx : Xw} {P : List Nat} {n : Str} {np pos' : Pos} {body suite : List Stmt} {b₀ : Stmt} {b : Ss} {hs : Hs} (gx : Gx X wx) (gd : Gd X c) (hp : Pin P fr) (kl : Kls X x)
    (h : (decide (c.N[i]? = some n) && decide (c.sc.names.lookup n = some .local) && decide (i ∉ P) && glC c x && !(x == ("__debug__" : Str))) = true)
    (hb : ∀ (X' : Cx), Gd X' c → (∀ x g, Cal X Φ x g → Cal X' Φ x g) → (∀ x g, CalX X Φ x g → CalX X' Φ x g) → (∀ x, Kls X x → Kls X' x) → ∀ wx', Gx X' wx' → PSs X' body (tSs Φ fr Γ .fro wx' X'.K b))
    (hsu : ∀ (C : Addr), KC X x C → ∀ (a : Addr) (oe : Obj) (dd : Addr) (pn : List (Addr × Obj)), Zc (.ref C) (some dd) oe → (∃ vs, oe.data = .fields vs) → PSs (Su X a oe pn) (b₀ :: suite) (tHb fr Γ a dd x i X.K hs)) :
    PS X (.Try body [.ExceptHandler (some (.Name x np)) (some n) (b₀ :: suite) pos'] [] [] pos) (tS Φ fr Γ .fro wx X.K (.tr b x i hs)) := by
  simp only [Bool.and_eq_true, decide_eq_true_eq, Bool.not_eq_true'] at h
  obtain ⟨⟨⟨⟨h1, h2⟩, h3⟩, h4⟩, h5⟩ := h
  obtain ⟨C, er, kmg, _, kex, kxf, kxc⟩ := kl.at_.ex
  have hi : X.N[i]? = some n := by rw [gd.N]; exact h1
  have hln : X.env.kindOf n = some .local := by
    show X.env.scope.names.lookup n = _
    rw [gd.sc]
    exact h2
  refine PS_mono (ps_try_as (tb := fun W => tSs Φ fr Γ .fro ⟨wx.mg, W⟩ X.K b) (ts := fun a cls d D σ H => ∃ dd, cls = .ref C ∧ d = some dd ∧ tHb fr Γ a dd x i X.K hs D σ H) (Wout := wx.W) gx.stk gx.frm (by rw [gd.N]; exact gd.nd) hi hln ⟨glC_of gd h4, h5, .inl kmg⟩ gx.tk
    (fun W pn xe tk pa => hb (X.tr pn xe) ⟨gd.N, gd.nd, gd.sc, gd.kd, gd.calm, pa, gd.cl, gd.un, gd.bl, gd.gl⟩ (fun _ _ h => ⟨h.ex⟩) (fun _ _ h => ⟨h.ex⟩) (fun _ h => ⟨h.at_, h.rm⟩) ⟨wx.mg, W⟩ ⟨gx.mg, tk, gx.stk, gx.frm⟩)
    (fun a oe cls d pn hz hf => ⟨fun pins s σ H D I ⟨dd, e1, e2, h⟩ => by
      subst e1 e2
      exact (hsu C ⟨kmg, kxc, er, kxf⟩ a oe dd pn hz hf).run pins s σ H D I h⟩)) fun D σ H h => ?_
  obtain ⟨ρ, ts, r, sr, he, q⟩ := h
  obtain ⟨r0, e1, he⟩ := bind_inv he
  refine ⟨ρ, ts, r0, sr, e1, ?_⟩
  cases r0 with
  | nx ρ1 =>
    cases he
    exact q
  | brk ρ1 =>
    cases he
    exact q
  | cnt ρ1 =>
    cases he
    exact q
  | ret d ρ1 =>
    cases he
    exact q
  | exn y fs ρ1 =>
    have he2 : (if y = x ∧ i < ρ1.length then (hsD y fs (ρ1.set i none) hs).map fun d => Rs.ret d (ρ1.set i none) else none) = some r := he
    by_cases hy : y = x ∧ i < ρ1.length
    · rw [if_pos hy] at he2
      clear he
      obtain ⟨rfl, hlt⟩ := hy
      obtain ⟨d, e2, rfl⟩ := map_inv he2
      intro σ' H' us vs C' dd s1 hv hm hd
      have hC : C' = C := by
        have hm : wx.mg y = some (.ref C') := hm
        rw [← gx.mg, kmg] at hm
        cases hm
        rfl
      subst hC
      refine ⟨true, kex, fun _ a ha => ⟨dd, rfl, rfl, ρ1.set i none, fs, vs, ts ++ us, d, ?_, hv, hd, by rw [List.getElem?_set_self hlt], ?_, e2, fun v H2 s2 => q v (σ'.set i (some (.ref a))) H2 (us ++ tms .fro (fs.map (·.2)) vs) ?_⟩, fun z => nomatch z⟩
      · obtain ⟨G, F1, F2, y1⟩ := s1
        obtain ⟨F3, y2⟩ := y1.perm (List.perm_append_comm)
        obtain ⟨F4, y3⟩ := y2.forget i
        refine ⟨G, F4, F3, y3.sig (by rw [List.length_set]) (fun j d' hj => ?_) (fun p hpp => ?_)⟩
        · by_cases hji : j = i
          · subst hji
            rw [List.getElem?_set_self hlt] at hj
            cases hj
          · rw [List.getElem?_set_ne (Ne.symm hji)]
        · rw [List.getElem?_set_ne (fun z => h3 (by rw [z]; exact hp p hpp))]
      · obtain ⟨G, F1, F2, y1⟩ := s1
        have := y1.sl.lens.2
        rw [List.getElem?_set_self (by omega)]
      · obtain ⟨G, F1, F2, y1⟩ := s2
        have pp : (tms .fro (fs.map (·.2)) vs ++ (ts ++ us) ++ [(⟨.fro, d, v⟩ : Tm)]).Perm (ts ++ (us ++ tms .fro (fs.map (·.2)) vs) ++ [⟨.fro, d, v⟩]) := by
          refine List.Perm.append_right _ ?_
          rw [← List.append_assoc ts us]
          exact List.perm_append_comm
        obtain ⟨F3, y2⟩ := y1.perm pp
        exact ⟨_, _, _, y2⟩
    · rw [if_neg hy] at he2
      cases he2
end
end Vw
namespace Vw
open PySem PySem.Spec PyProof.Rows L2
/-! ### the except suite: tests -/
/-- isinstance(e, y) for an e of the class x -/
def IsP (x y : Str) (b : Bool) (K : PySem.W.Frag) (mg : Str → Option Value) : Prop := ∃ C W, mg x = some (.ref C) ∧ mg y = some (.ref W) ∧ PySem.W.kitOne K (.ref C) (.ref W) = some b
section
variable {X : Cx} {c : Ct} {Φ : Cf} {fr : Fr} {Γ : List Ty} {pos : Pos} {a C : Addr} {dd : Addr} {oe : Obj} {pn : List (Addr × Obj)} {x : Str} {i : Nat}
def rIsX (K : PySem.W.Frag) (D a dd : Addr) : List V → Hp → VK → Prop := fun xs H Q => ∃ (W : Addr) (fs : List (Str × V)) (b : Bool), xs = [.ref a, .ref W] ∧ H dd = some (.xd fs) ∧ PySem.W.kitOne K (.ref D) (.ref W) = some b ∧ Q (.bl b) H
theorem call_isX (f : XfC X.K C) (g : XcC X.K C) (hz : Zc (.ref C) (some dd) oe) (hf : ∃ vs, oe.data = .fields vs) : CallR (Su X a oe pn) (.builtin "isinstance") (rIsX X.K C a dd) := by
  intro pins s σ H xs us Q I r h
  obtain ⟨W, fs, b, rfl, hd, e, q⟩ := h
  cases r with
  | cons rx rr =>
    cases rr with
    | cons rt rr =>
      cases rr
      cases rx
      cases rt
      obtain ⟨hget, _⟩ := I.pin (a, oe) (List.mem_append.mpr (.inl List.mem_cons_self))
      obtain ⟨vs, hv⟩ := hf
      have hx : ObjOk X.prog X.w H s.heap dd (.xd fs) := I.hok dd _ hd
      obtain ⟨mA, hns, hr⟩ := hx
      obtain ⟨od, ho, hl⟩ := lookIn_ns hns
      have J : PySem.W.InstAt s.heap a oe C (some od) := ⟨hget, hz.1, by unfold PySem.W.notCls; rw [hv] <;> rfl, by rw [hz.2]; exact ho⟩
      exact PySem.W.kia_one (PySem.W.kitx_exc g.cl f.ga f.gg f.exC g.ha g.hn g.ht g.hm) I.kIn J e (fun z => nomatch z) fun tk => ⟨.bl b, H, I.kept (t' := tk) fun _ _ z => z, rfl, q⟩
/-- isinstance(e, y) -/
theorem k_hise {z y : Str} {b : Bool} {p pz py : Pos} (gd : Gd X c) (kc : KC X x C) (hz : Zc (.ref C) (some dd) oe) (hf : ∃ vs, oe.data = .fields vs) (ip : IsP x y b X.K X.mg) (h : (vC c Γ i z .fro && blC c "isinstance" && glC c y && !(y == ("__debug__" : Str))) = true) :
    PE (Su X a oe pn) (.Call (.Name "isinstance" p) [.Name z pz, .Name y py] [] pos) (tH fr Γ a dd x i X.K (.ise x b)) := by
  simp only [Bool.and_eq_true, Bool.not_eq_true'] at h
  obtain ⟨⟨⟨h1, h2⟩, h3⟩, h4⟩ := h
  obtain ⟨g1, g2, g3, g4, g5⟩ := vC_of gd h1
  obtain ⟨C', W, m1, m2, ki⟩ := ip
  have : C' = C := by
    have := m1.symm.trans kc.mg
    cases this
    rfl
  subst this
  have hT : PE (Su X a oe pn) (.Name y py) (tC (.ref W)) := pe_glob (X := Su X a oe pn) (show Gl X y from glC_of gd h3) m2 rfl h4
  refine PE_mono (pe_callB (X := Su X a oe pn) (call_isX kc.xf kc.xc hz hf) (show Gl X _ from (blC_of gd h2).1) (show X.mg _ = none from (blC_of gd h2).2) (by decide +kernel) (pa_cons (pe_var (X := Su X a oe pn) g1 g2 g4 g5) (pa_cons hT pa_nil rfl) rfl) (by decide) (by decide) rfl rfl) fun σ H Q h => ?_
  obtain ⟨ρ, fs, vs, ts, d', sr, hl, hd, hi, hs, he, q⟩ := h
  have he : (if x = x then some (PyData.bool b) else none) = some d' := he
  rw [if_pos rfl] at he
  cases he
  exact ⟨.ref a, hs, W, _, b, rfl, hd, ki, q _ _ (sr.res rfl (rp_bl _)) hd⟩
/-- isinstance(e.f, int), isinstance(e.f, str) -/
theorem h_isf {e : Expr} {f : Str} {k : Ik} {p p2 : Pos} (gd : Gd X c) (ha : PE (Su X a oe pn) e (tH fr Γ a dd x i X.K (.xf f))) (h : (decide (k = .i ∨ k = .s) && noStar e && blC c "isinstance" && blC c (PySem.Str.ofString (ikN k))) = true) :
    PE (Su X a oe pn) (.Call (.Name "isinstance" p) [e, .Name (PySem.Str.ofString (ikN k)) p2] [] pos) (tH fr Γ a dd x i X.K (.isf k f)) := by
  simp only [Bool.and_eq_true, decide_eq_true_eq] at h
  obtain ⟨⟨⟨h0, h1⟩, h2⟩, h3⟩ := h
  have h0' : ik1 k = true := by rcases h0 with rfl | rfl <;> rfl
  have hT : PE (Su X a oe pn) (.Name (PySem.Str.ofString (ikN k)) p2) (tC (.ty (ikN k))) := pe_bltn (X := Su X a oe pn) (show Gl X _ from (blC_of gd h3).1) (show X.mg _ = none from (blC_of gd h3).2) (ik_boot k h0') rfl (ik_nm k).1 (ik_nm k).2
  refine PE_mono (pe_callB (X := Su X a oe pn) call_isi (show Gl X _ from (blC_of gd h2).1) (show X.mg _ = none from (blC_of gd h2).2) (by decide +kernel) (pa_cons ha (pa_cons hT pa_nil rfl) (star_cons h1)) (by decide) (by decide) (star_cons h1) rfl) fun σ H Q h => ?_
  obtain ⟨ρ, fs, vs, ts, d', sr, hl, hd, hi, hs, he, q⟩ := h
  obtain ⟨d, e1, he⟩ := bind_inv he
  obtain ⟨b, e2, rfl⟩ := map_inv he
  refine ⟨ρ, fs, vs, ts, d, sr, hl, hd, hi, hs, e1, fun v H1 s1 hd1 => ?_⟩
  obtain ⟨G, F1, F2, y⟩ := id s1
  have rv := y.last1 rfl
  have e3 : isiD k d = some b := by
    rcases h0 with rfl | rfl <;> cases d <;> first | (cases e2; done) | (cases e2; rfl)
  exact ⟨v, _, _, _, b, rfl, .ty _, tyX_of y.sub (.inl rv), kit1 h0' e3, q _ _ ((s1.drop).res rfl (rp_bl _)) hd1⟩
variable (fr Γ x i a dd) in
def tHT (K : PySem.W.Frag) (hx : Hx) : TT := fun σ H Q => ∃ ρ fs vs ts b, SR fr K Γ ρ σ (tms .fro (fs.map (·.2)) vs ++ ts) H ∧ vs.length = fs.length ∧ H dd = some (xdOf fs vs) ∧ ρ[i]? = some none ∧ σ[i]? = some (some (.ref a)) ∧ hxD x fs ρ hx = some (.bool b) ∧
  ∀ H', SR fr K Γ ρ σ (tms .fro (fs.map (·.2)) vs ++ ts) H' → H' dd = some (xdOf fs vs) → Q b H'
theorem ht_e {e : Expr} {h : Hx} (ha : PE (Su X a oe pn) e (tH fr Γ a dd x i X.K h)) (hp : plainT e = true) : PT (Su X a oe pn) e (tHT fr Γ a dd x i X.K h) := by
  refine PT_mono (pt_truth ha (isTrue_plainT hp)) fun σ H Q h => ?_
  obtain ⟨ρ, fs, vs, ts, b, sr, hl, hd, hi, hs, he, q⟩ := h
  refine ⟨ρ, fs, vs, ts, _, sr, hl, hd, hi, hs, he, fun v H1 s1 hd1 => ?_⟩
  obtain ⟨G, F1, F2, y⟩ := id s1
  have rv := y.last1 rfl
  cases rv
  exact ⟨b, truV y.sub (.inl (y.last1 rfl)) rfl, q _ s1.drop hd1⟩
theorem ht_no {e : Expr} {h : Hx} (ha : PT (Su X a oe pn) e (tHT fr Γ a dd x i X.K h)) : PT (Su X a oe pn) (.UnaryOp .Not e pos) (tHT fr Γ a dd x i X.K (.no h)) := by
  refine PT_mono (pt_not ha) fun σ H Q h => ?_
  obtain ⟨ρ, fs, vs, ts, b, sr, hl, hd, hi, hs, he, q⟩ := h
  obtain ⟨d, e1, he⟩ := bind_inv he
  cases d with
  | bool t =>
    have he : some (PyData.bool (!t)) = some (.bool b) := he
    cases he
    exact ⟨ρ, fs, vs, ts, t, sr, hl, hd, hi, hs, e1, fun H1 s1 hd1 => q _ s1 hd1⟩
  | _ => cases he
theorem ht_or {e e2 : Expr} {rest : List Expr} {h h2 : Hx} (ha : PT (Su X a oe pn) e (tHT fr Γ a dd x i X.K h)) (hb : PW (Su X a oe pn) (.BoolOp .Or (e2 :: rest) pos) (tHT fr Γ a dd x i X.K h2)) : PW (Su X a oe pn) (.BoolOp .Or (e :: e2 :: rest) pos) (tHT fr Γ a dd x i X.K (.orr h h2)) := by
  refine ⟨fun whole pins s σ H Q I h => (pw_or ha hb).run whole pins s σ H Q I ?_⟩
  obtain ⟨ρ, fs, vs, ts, b, sr, hl, hd, hi, hs, he, q⟩ := h
  obtain ⟨d, e1, he⟩ := bind_inv he
  cases d with
  | bool t =>
    refine ⟨ρ, fs, vs, ts, t, sr, hl, hd, hi, hs, e1, fun H1 s1 hd1 => ?_⟩
    have he : (if t = true then some (.bool true) else hxD x fs ρ h2) = some (.bool b) := he
    cases t with
    | true =>
      cases he
      exact q _ s1 hd1
    | false => exact ⟨ρ, fs, vs, ts, b, s1, hl, hd1, hi, hs, he, q⟩
  | _ => cases he
theorem ht_an {e e2 : Expr} {rest : List Expr} {h h2 : Hx} (ha : PT (Su X a oe pn) e (tHT fr Γ a dd x i X.K h)) (hb : PW (Su X a oe pn) (.BoolOp .And (e2 :: rest) pos) (tHT fr Γ a dd x i X.K h2)) : PW (Su X a oe pn) (.BoolOp .And (e :: e2 :: rest) pos) (tHT fr Γ a dd x i X.K (.an h h2)) := by
  refine ⟨fun whole pins s σ H Q I h => (pw_and ha hb).run whole pins s σ H Q I ?_⟩
  obtain ⟨ρ, fs, vs, ts, b, sr, hl, hd, hi, hs, he, q⟩ := h
  obtain ⟨d, e1, he⟩ := bind_inv he
  cases d with
  | bool t =>
    refine ⟨ρ, fs, vs, ts, t, sr, hl, hd, hi, hs, e1, fun H1 s1 hd1 => ?_⟩
    have he : (if t = true then hxD x fs ρ h2 else some (.bool false)) = some (.bool b) := he
    cases t with
    | true => exact ⟨ρ, fs, vs, ts, b, s1, hl, hd1, hi, hs, he, q⟩
    | false =>
      cases he
      exact q _ s1 hd1
  | _ => cases he
theorem h_ife {t e1 e2 : Expr} {ht h1 h2 : Hx} (h0 : PT (Su X a oe pn) t (tHT fr Γ a dd x i X.K ht)) (ha : PE (Su X a oe pn) e1 (tH fr Γ a dd x i X.K h1)) (hb : PE (Su X a oe pn) e2 (tH fr Γ a dd x i X.K h2)) : PE (Su X a oe pn) (.IfExp t e1 e2 pos) (tH fr Γ a dd x i X.K (.ife ht h1 h2)) := by
  refine PE_mono (pe_ifExp h0 ha hb) fun σ H Q h => ?_
  obtain ⟨ρ, fs, vs, ts, b, sr, hl, hd, hi, hs, he, q⟩ := h
  obtain ⟨d, g1, he⟩ := bind_inv he
  cases d with
  | bool z =>
    refine ⟨ρ, fs, vs, ts, z, sr, hl, hd, hi, hs, g1, fun H1 s1 hd1 => ?_⟩
    have he : (if z = true then hxD x fs ρ h1 else hxD x fs ρ h2) = some b := he
    cases z with
    | true => exact ⟨ρ, fs, vs, ts, b, s1, hl, hd1, hi, hs, he, q⟩
    | false => exact ⟨ρ, fs, vs, ts, b, s1, hl, hd1, hi, hs, he, q⟩
  | _ => cases he
theorem hb_ifr {t e : Expr} {rest : List Stmt} {p p2 : Pos} {ht h : Hx} {r : Hs} (h0 : PT (Su X a oe pn) t (tHT fr Γ a dd x i X.K ht)) (ha : PE (Su X a oe pn) e (tH fr Γ a dd x i X.K h)) (hr : PSs (Su X a oe pn) rest (tHb fr Γ a dd x i X.K r)) :
    PSs (Su X a oe pn) (.If t [.Return (some e) p] [] p2 :: rest) (tHb fr Γ a dd x i X.K (.ifr ht h r)) := by
  refine PSs_mono (pss_cons (ps_if h0 (pss_one (ps_ret ha)) pss_nil) hr) fun D σ H h => ?_
  obtain ⟨ρ, fs, vs, ts, d, sr, hl, hd, hi, hs, he, q⟩ := h
  obtain ⟨d0, g1, he⟩ := bind_inv he
  cases d0 with
  | bool z =>
    refine ⟨ρ, fs, vs, ts, z, sr, hl, hd, hi, hs, g1, fun H1 s1 hd1 => ?_⟩
    cases z with
    | true => exact ⟨ρ, fs, vs, ts, d, s1, hl, hd1, hi, hs, he, fun v H2 s2 _ => q v H2 s2⟩
    | false => exact ⟨ρ, fs, vs, ts, d, s1, hl, hd1, hi, hs, he, q⟩
  | _ => cases he
end
end Vw
namespace Vw
open PySem PySem.Spec PyProof.Rows L2
/-! ### the draw of a state [cells, seed] -/
def drop0 : List Int → List Int
  | [] => []
  | x :: r => if x = 0 then drop0 r else x :: r
def nextS (s : Int) : Int := (s * 48271 + 12345) % 2147483647
/-- value, the cells and the seed behind it -/
def drawA (ns : List Int) (s m : Int) : Int × List Int × Int := match drop0 ns with
  | v :: r => (v % m, v / m :: r, s)
  | [] => (nextS s / 64 % m, [], nextS s)
def stA (ns : List Int) (s : Int) : D := .list [.list (ns.map .int), .int s]
def fxDrawA : List D → Option (D × List D)
  | [.list [.list cs, .int s], .int m] => (intsD cs).bind fun ns => if 0 < m ∧ m < 1073741824 then some (.int (drawA ns s m).1, [stA (drawA ns s m).2.1 (drawA ns s m).2.2, .int m]) else none
  | _ => none
def nmA : List Str := ["state", "many", "cells", "value", "mixed"]
theorem fxDrawA_inv {ds : List D} {r : D × List D} (h : fxDrawA ds = some r) : ∃ ns s m, ds = [stA ns s, .int m] ∧ 0 < m ∧ m < 1073741824 ∧ r = (.int (drawA ns s m).1, [stA (drawA ns s m).2.1 (drawA ns s m).2.2, .int m]) := by
  unfold fxDrawA at h
  split at h
  · rename_i cs s m
    obtain ⟨ns, e1, h⟩ := bind_inv h
    split at h
    · rename_i c
      cases h
      refine ⟨ns, s, m, ?_, c.1, c.2, rfl⟩
      rw [intsD_inv e1]
      rfl
    · cases h
  · cases h
theorem if_t {c : Prop} [Decidable c] {a b : Prop} (h : c) (ha : a) : if c then a else b := by
  rw [if_pos h]
  exact ha
theorem if_f {c : Prop} [Decidable c] {a b : Prop} (h : ¬c) (hb : b) : if c then a else b := by
  rw [if_neg h]
  exact hb
theorem ar_mod {i j : Int} (h : 0 < j) : arD .mod (.int i) (.int j) = some (.int (i % j)) := if_pos h
theorem ar_div {i j : Int} (h : 0 < j) (h2 : j < 1073741824) : arD .fdiv (.int i) (.int j) = some (.int (i / j)) := if_pos ⟨h, h2⟩
theorem ar_mul {i j : Int} (h : -(2 ^ 64) < j) (h2 : j < 2 ^ 64) : arD .mul (.int i) (.int j) = some (.int (i * j)) := if_pos (.inr ⟨h, h2⟩)
theorem sq0 (n : Nat) : seqIndex? 0 (n + 1) = some 0 := by
  unfold seqIndex?
  simp
theorem gt0 {n : Nat} : decide ((0 : Int) < n) = true ↔ n ≠ 0 := by
  rw [decide_eq_true_eq]
  omega
def sgA : Sig := ⟨[.lst (.lst .fro), .fro], .fro⟩
theorem drawA_in {K : PySem.W.Frag} {vs : List V} {H : Hp} {Q : VK} {E : XK} (h : spI K sgA fxDrawA vs H Q E) : ∃ (a c : Addr) (ns : List Int) (s0 m : Int), vs = [.ref a, .int m] ∧ 0 < m ∧ m < 1073741824 ∧ a ≠ c ∧ H a = some (.lst [.ref c, .int s0]) ∧ H c = some (.lst (ns.map V.int)) ∧
    ∀ (H' : Hp) (ns' : List Int) (s' z : Int), H' a = some (.lst [.ref c, .int s']) → H' c = some (.lst (ns'.map V.int)) → (∀ b o, H b = some o → b ≠ a → b ≠ c → H' b = some o) → (∀ b, H' b = none → H b = none) →
      drawA ns s0 m = (z, ns', s') → Q (.int z) H' := by
  obtain ⟨G, Fo, ts, r, e1, e2, sG, tm, nd, gn, hf, q⟩ := h
  obtain ⟨ns, s0, m, ed, m1, m2, rfl⟩ := fxDrawA_inv hf
  obtain ⟨x1, x2, rfl⟩ : ∃ x1 x2, ts = [x1, x2] := by
    have l : ts.length = 2 := by
      have := congrArg List.length e2
      rw [List.length_map] at this
      exact this
    clear e2 ed tm hf
    match ts, l with
    | [x1, x2], _ => exact ⟨x1, x2, rfl⟩
  obtain ⟨F1, F2', ef, o1, F3, F4, ef2, o2, ef3⟩ := tm
  obtain ⟨t1, d1, v1⟩ := x1
  obtain ⟨t2, d2, v2⟩ := x2
  have ht1 : t1 = .lst (.lst .fro) := List.head_eq_of_cons_eq e2
  have ht2 : t2 = .fro := List.head_eq_of_cons_eq (List.tail_eq_of_cons_eq e2)
  have hd1 : d1 = stA ns s0 := List.head_eq_of_cons_eq ed
  have hd2 : d2 = .int m := List.head_eq_of_cons_eq (List.tail_eq_of_cons_eq ed)
  subst ht1 ht2 hd1 hd2 ef3
  obtain ⟨ef4, o2⟩ := o2
  have ef4 : F3 = [] := ef4
  cases o2
  rcases o1 with ⟨s, _, _⟩ | ⟨ds, a, ws, F', q1, q2, q3, q4, q5⟩
  · cases s
  cases q1
  have q2 : v1 = .ref a := q2
  subst q2
  obtain ⟨w1, w2, rfl⟩ : ∃ w1 w2, ws = [w1, w2] := by
    have l := q5.len
    match ws, l with
    | [w1, w2], _ => exact ⟨w1, w2, rfl⟩
  obtain ⟨Fa, Fb, eF', oa, Fc, Fd, eF2, ob, eF3⟩ := q5
  rcases oa with ⟨s, _, _⟩ | ⟨dsa, c, cs, F'', p1, p2, p3, p4, p5⟩
  · cases s
  cases p1
  subst p2
  obtain ⟨p5x, p6⟩ := p5.fro
  have p7 := p6.ints
  subst p7
  have ob2 : Fc = [] ∧ Rp K G w2 (.int s0) := by
    rcases ob with ⟨_, eb, rb⟩ | ⟨_, _, _, _, eb, _⟩
    · exact ⟨eb, rb⟩
    · cases eb
  obtain ⟨eb, rb⟩ := ob2
  cases rb
  have eF3 : Fd = [] := eF3
  have eFo : Fo = [a, c] := by
    rw [ef, ef2, ef4, q3, eF', p3, p5x, eF2, eb, eF3]
    rfl
  subst eFo
  have hac : a ≠ c := fun e => by
    rw [e] at nd
    simp at nd
  subst e1
  refine ⟨a, c, ns, s0, m, rfl, m1, m2, hac, q4, p4, ?_⟩
  have fin : ∀ (H' : Hp) (ns' : List Int) (s' z : Int), H' a = some (.lst [.ref c, .int s']) → H' c = some (.lst (ns'.map V.int)) → (∀ b o, H b = some o → b ≠ a → b ≠ c → H' b = some o) → (∀ b, H' b = none → H b = none) →
      drawA ns s0 m = (z, ns', s') → Q (.int z) H' := fun H' ns' s' z h1 h2 h3 h4 hz => by
    refine q (.int z) H' ⟨G, [⟨.lst (.lst .fro), stA ns' s', .ref a⟩, ⟨.fro, .int m, .int m⟩], [a, c], [], Same.refl G, fun b o e => ?_, rfl, rfl, ?_, ?_, ?_, by rw [List.append_nil]; exact nd, fun b hb => ?_, fun b o e hb => ?_, h4, fun b hb => .inl hb⟩
    · refine h3 b o (sG _ _ e) (fun z => ?_) (fun z => ?_)
      · rw [z, gn a List.mem_cons_self] at e
        cases e
      · rw [z, gn c (List.mem_cons_of_mem _ List.mem_cons_self)] at e
        cases e
    · show [stA ns' s', PyData.int m] = [stA (drawA ns s0 m).2.1 (drawA ns s0 m).2.2, .int m]
      rw [hz]
    · refine ⟨[a, c], [], rfl, .inr ⟨_, a, _, [c], rfl, rfl, rfl, h1, [c], [], rfl, .inr ⟨_, c, _, [], rfl, rfl, rfl, h2, AllF.of_fro (RpAll.of_ints ns')⟩, [], [], rfl, .inl ⟨rfl, rfl, .int s'⟩, rfl⟩, [], [], rfl, ⟨rfl, .int m⟩, rfl⟩
    · show Own K G H' .fro (.int (drawA ns s0 m).1) (.int z) []
      rw [hz]
      exact ⟨rfl, .int z⟩
    · rw [List.append_nil] at hb
      exact ⟨gn b hb, .inl hb⟩
    · exact h3 b o e (fun z => hb (by rw [z]; exact List.mem_cons_self)) (fun z => hb (by rw [z]; exact List.mem_cons_of_mem _ List.mem_cons_self))
  exact fin
end Vw
namespace Vw
open PySem PySem.Spec PyProof.Rows L2
/-! ### the law's end -/
def tab (l : List (Str × (List D → Option (D × List D)))) (x : Str) : List D → Option (D × List D) := match l.lookup x with
  | some f => f
  | none => fun _ => none
def noListB (p : Addr × Obj) : Bool := match p.2.cls with
  | .type s => !(s == "list")
  | _ => true
theorem lookup_mem {K : PySem.W.Frag} {a : Addr} {o : Obj} : ∀ {K : PySem.W.Frag}, K.lookup a = some o → (a, o) ∈ K
  | [], h => by simp at h
  | (b, u) :: r, h => by
    rw [List.lookup_cons] at h
    split at h
    · rename_i e
      cases h
      have : a = b := by simpa using e
      rw [this]
      exact List.mem_cons_self
    · exact List.mem_cons_of_mem _ (lookup_mem (K := r) h)
theorem rd_of_sql {K : PySem.W.Frag} {H : Hp} {a : Addr} {xs : List V} (nl : K.all noListB = true) (h : SqL K H a xs) : Rd H a (.lst xs) := by
  rcases h with h | ⟨o, its, n, h1, h2, _⟩
  · exact h
  · have h3 := List.all_eq_true.mp nl _ (lookup_mem (K := K) h1)
    unfold noListB at h3
    rw [h2] at h3
    exact absurd h3 (by decide)
def spLaw (K : PySem.W.Frag) : Sp := fun vs H Q _ => ∃ (a : Addr) (ns : List Int), vs = [.ref a] ∧ SqL K H a (ns.map V.int) ∧ ns.length ≤ 63 ∧ ∀ H', Q (.bl true) H'
theorem law_imp {K : PySem.W.Frag} {fx : List D → Option (D × List D)} (nl : K.all noListB = true) (h : ∀ ns : List Int, ns.length ≤ 63 → ∃ o, fx [.list (ns.map .int)] = some (.bool true, o)) :
    ∀ vs H Q E, spLaw K vs H Q E → spI K ⟨[.fro], .fro⟩ fx vs H Q E := by
  rintro vs H Q E ⟨a, ns, rfl, hS, hl, q⟩
  obtain ⟨o, e⟩ := h ns hl
  refine ⟨H, [], [⟨.fro, .list (ns.map .int), .ref a⟩], (.bool true, o), rfl, rfl, Same.refl H, ⟨[], [], rfl, ⟨rfl, .lst (rd_of_sql nl hS) (RpAll.of_ints ns)⟩, rfl⟩, List.nodup_nil, by simp, e, fun v H' ce => ?_⟩
  obtain ⟨G', ts', FA, FR, _, _, _, _, _, _, own, _⟩ := ce
  have r : Rp K G' v (.bool true) := own.2
  cases r
  exact q H'
theorem bl_of {mg : Str → Option Value} (h : ∀ x, x ∈ blAll → mg x = none) : ∀ x, x ∈ blAll → mg x = none := h
theorem bl_mk {l : PySem.W.Frag} {h : Heap} {mg : Str → Option Value} (X : l.In h) (G : h.Ns mainGlobals mg) (z : ∀ x, x ∈ blAll → PySem.W.nsIn l mainGlobals x = some none) : ∀ x, x ∈ blAll → mg x = none := fun x hx => PySem.W.mg_none_of X G (z x hx)
end Vw
namespace Vw
open PySem PySem.Spec PyProof.Rows L2
def isSN : Option (Option Value) → Bool
  | some none => true
  | _ => false
theorem bl_all {K : PySem.W.Frag} {h : Heap} {mg : Str → Option Value} (X : K.In h) (G : h.Ns mainGlobals mg) (z : (blAll.all fun x => isSN (PySem.W.nsIn K mainGlobals x)) = true) : ∀ x, x ∈ blAll → mg x = none := fun x hx => by
  have := List.all_eq_true.mp z x hx
  refine PySem.W.mg_none_of X G ?_
  cases e : PySem.W.nsIn K mainGlobals x with
  | none => rw [e] at this; cases this
  | some o =>
    rw [e] at this
    cases o with
    | none => rfl
    | some v => cases this
theorem callee {P : Program} {w : World} {K : PySem.W.Frag} {mg : Str → Option Value} {base : Heap} {Φ : Cf} {k k' : Nat} {x : Str} {g : Sig} {f : Addr} {fd : FuncData} {ps : List Str} {fx : List D → Option (D × List D)}
    (F : FnOk P w K mg base CX0 k' f fd ps (spI K g fx)) (e : Φ.fn x = fx) (l : k' ≤ k) (m : mg x = some (.ref f)) (kp : PySem.W.keepIn K (.ref f) = true) (b : Binds K fd ps []) : Callee P w K mg base Φ k x g :=
  ⟨⟨k', f, fd, ps, by rw [e]; exact F, l, m, kp, b⟩⟩
theorem calleeX {P : Program} {w : World} {K : PySem.W.Frag} {mg : Str → Option Value} {base : Heap} {Φ : Cf} {k k' : Nat} {x : Str} {g : Sig} {f : Addr} {fd : FuncData} {ps : List Str} {fx : List D → Option Xr}
    (F : FnOk P w K mg base (L2.CX P w) k' f fd ps (spX mg K g fx)) (e : Φ.fx x = fx) (l : k' ≤ k) (m : mg x = some (.ref f)) (kp : PySem.W.keepIn K (.ref f) = true) (b : Binds K fd ps []) : CalleeX P w K mg base Φ k x g :=
  ⟨⟨k', f, fd, ps, by rw [e]; exact F, l, m, kp, b⟩⟩
def tabX (l : List (Str × (List D → Option Xr))) (x : Str) : List D → Option Xr := match l.lookup x with
  | some f => f
  | none => fun _ => none
/-- an error of the class at C is what «except C» names -/
theorem exm_own {K : PySem.W.Frag} {S : Addr} (h1 : PySem.W.subIn K (.ref S) (.type "BaseException") = some true) (h2 : PySem.W.isClsIn K S = true) (h3 : PySem.W.typeIn K (.ref S) = some (.type "type")) (h4 : PySem.W.subIn K (.ref S) (.ref S) = some true) : PySem.W.exmOne K (.ref S) (.ref S) = some true := by
  have e1 : (PySem.W.subIn K (.ref S) (.type "BaseException") == some true) = true := by rw [h1]; rfl
  have e2 : ((PySem.W.clsIn K S).isSome && PySem.W.typeIn K (.ref S) == some (.type "type")) = true := by
    rw [show (PySem.W.clsIn K S).isSome = true from h2, h3]
    rfl
  show (if (PySem.W.subIn K (.ref S) (.type "BaseException") == some true) = true then (if ((PySem.W.clsIn K S).isSome && PySem.W.typeIn K (.ref S) == some (.type "type")) = true then PySem.W.subIn K (.ref S) (.ref S) else none) else none) = some true
  rw [if_pos e1, if_pos e2]
  exact h4
end Vw
namespace Vw
open PySem PySem.Spec PyProof.Rows L2
/-! ### reckoning on data -/
@[simp] theorem get_z (o : Option D) (ρ : Rho) : Vw.get (o :: ρ) 0 = o := by cases o <;> rfl
@[simp] theorem get_s (o : Option D) (ρ : Rho) (n : Nat) : Vw.get (o :: ρ) (n + 1) = Vw.get ρ n := rfl
@[simp] theorem put_z (o : Option D) (ρ : Rho) (d : D) : put (o :: ρ) 0 d = some d :: ρ := rfl
@[simp] theorem put_s (o : Option D) (ρ : Rho) (n : Nat) (d : D) : put (o :: ρ) (n + 1) d = o :: put ρ n d := rfl
@[simp] theorem wipeD_nil (ρ : Rho) : wipeD ρ [] = ρ := rfl
@[simp] theorem wipeD_cons (ρ : Rho) (i : Nat) (r : List Nat) : wipeD ρ (i :: r) = (wipeD ρ r).set i none := rfl
@[simp] theorem restD_nil (ρ : Rho) : restD [] ρ = some ρ := rfl
@[simp] theorem rsBack_nx (ρ : Rho) : rsBack [] (.nx ρ) = some (.nx ρ) := rfl
@[simp] theorem rsBack_ret (sv : List (Nat × D)) (d : D) (ρ : Rho) : rsBack sv (.ret d ρ) = some (.ret d ρ) := rfl
theorem sizeL : sizeLine = 16777216 := rfl
@[simp] theorem lenOk_le {n : Nat} (h : n ≤ 16777216) : lenOk n = true := decide_eq_true h
theorem len_b1L (l : List D) : b1D .len (.list l) = some (.int l.length) := rfl
theorem len_b1T (l : List D) : b1D .len (.tuple l) = some (.int l.length) := rfl
/-- a loop by its invariant -/
def After (N : Rho → Prop) (R : D → Rho → Prop) : Rs → Prop
  | .nx ρ => N ρ
  | .ret d ρ => R d ρ
  | _ => False
theorem forL_rule {f : D → Rho → Option Rs} (I : Nat → Rho → Prop) (R : D → Rho → Prop) : ∀ (ds : List D) (k : Nat),
    (∀ i (h : i < ds.length) ρ, I (k + i) ρ → ∃ r, f ds[i] ρ = some r ∧ After (I (k + i + 1)) R r) → ∀ ρ, I k ρ → ∃ q, forL f ds ρ = some q ∧ After (I (k + ds.length)) R q
  | [], k, _, ρ, h => ⟨.nx ρ, rfl, h⟩
  | d :: ds, k, step, ρ, h => by
    obtain ⟨r, e1, h1⟩ := step 0 (Nat.succ_pos _) ρ h
    have e1 : f d ρ = some r := e1
    cases r with
    | nx ρ1 =>
      obtain ⟨q, e2, h2⟩ := forL_rule I R ds (k + 1) (fun i hi ρ hI => by
        have := step (i + 1) (by simpa using hi) ρ (by rw [show k + (i + 1) = k + 1 + i by omega]; exact hI)
        obtain ⟨r, e, h⟩ := this
        refine ⟨r, by simpa using e, ?_⟩
        rw [show k + 1 + i + 1 = k + (i + 1) + 1 by omega]
        exact h) ρ1 h1
      refine ⟨q, ?_, ?_⟩
      · show (f d ρ).bind _ = _
        rw [e1]
        exact e2
      · rw [show k + (d :: ds).length = k + 1 + ds.length by simp; omega]
        exact h2
    | ret x ρ1 => exact ⟨.ret x ρ1, by show (f d ρ).bind _ = _; rw [e1]; rfl, h1⟩
    | brk _ => exact h1.elim
    | cnt _ => exact h1.elim
    | exn _ _ _ => exact h1.elim
theorem for_rule {f : D → Rho → Option Rs} {ds : List D} (I : Nat → Rho → Prop) (R : D → Rho → Prop) (step : ∀ i (h : i < ds.length) ρ, I i ρ → ∃ r, f ds[i] ρ = some r ∧ After (I (i + 1)) R r) {ρ : Rho} (h : I 0 ρ) : ∃ q, forL f ds ρ = some q ∧ After (I ds.length) R q := by
  obtain ⟨q, e, a⟩ := forL_rule I R ds 0 (fun i hi ρ hI => by
    rw [Nat.zero_add] at hI ⊢
    exact step i hi ρ hI) ρ h
  rw [Nat.zero_add] at a
  exact ⟨q, e, a⟩
/-- a comprehension by its invariant: what has come out so far -/
theorem compL_rule {f : D → Rho → Option (Option D × Rho)} (I : List D → Nat → Rho → Prop) : ∀ (ds : List D) (k : Nat) (acc : List D),
    (∀ i (h : i < ds.length) acc ρ, I acc (k + i) ρ → ∃ r, f ds[i] ρ = some r ∧ I (acc ++ r.1.toList) (k + i + 1) r.2) → ∀ ρ, I acc k ρ → ∃ out ρ', compL f ds ρ = some (out, ρ') ∧ I (acc ++ out) (k + ds.length) ρ'
  | [], k, acc, _, ρ, h => ⟨[], ρ, rfl, by rw [List.append_nil]; exact h⟩
  | d :: ds, k, acc, step, ρ, h => by
    obtain ⟨r, e1, h1⟩ := step 0 (Nat.succ_pos _) acc ρ h
    have e1 : f d ρ = some r := e1
    obtain ⟨out, ρ', e2, h2⟩ := compL_rule I ds (k + 1) (acc ++ r.1.toList) (fun i hi acc ρ hI => by
      have := step (i + 1) (by simpa using hi) acc ρ (by rw [show k + (i + 1) = k + 1 + i by omega]; exact hI)
      obtain ⟨r, e, h⟩ := this
      refine ⟨r, by simpa using e, ?_⟩
      rw [show k + 1 + i + 1 = k + (i + 1) + 1 by omega]
      exact h) r.2 h1
    refine ⟨r.1.toList ++ out, ρ', ?_, ?_⟩
    · show (f d ρ).bind _ = _
      rw [e1]
      show (compL f ds r.2).map _ = _
      rw [e2]
      obtain ⟨o, _⟩ := r
      cases o <;> rfl
    · rw [← List.append_assoc, show k + (d :: ds).length = k + 1 + ds.length by simp; omega]
      exact h2
theorem comp_rule {f : D → Rho → Option (Option D × Rho)} {ds : List D} (I : List D → Nat → Rho → Prop) (step : ∀ i (h : i < ds.length) acc ρ, I acc i ρ → ∃ r, f ds[i] ρ = some r ∧ I (acc ++ r.1.toList) (i + 1) r.2) {ρ : Rho} (h : I [] 0 ρ) : ∃ out ρ', compL f ds ρ = some (out, ρ') ∧ I out ds.length ρ' := by
  obtain ⟨out, ρ', e, a⟩ := compL_rule I ds 0 [] (fun i hi acc ρ hI => by
    rw [Nat.zero_add] at hI ⊢
    exact step i hi acc ρ hI) ρ h
  rw [Nat.zero_add, List.nil_append] at a
  exact ⟨out, ρ', e, a⟩
/-- draws -/
theorem drawA_ok {ns : List Int} {s m : Int} (h : 0 < m) (h2 : m < 1073741824) : ∃ v ns' s', 0 ≤ v ∧ v < m ∧ fxDrawA [stA ns s, .int m] = some (.int v, [stA ns' s', .int m]) := by
  have hI : intsD (ns.map .int) = some ns := by
    induction ns with
    | nil => rfl
    | cons x r ih =>
      show (intsD (r.map .int)).map _ = _ 
      rw [ih]
      rfl
  have e : fxDrawA [stA ns s, .int m] = some (.int (drawA ns s m).1, [stA (drawA ns s m).2.1 (drawA ns s m).2.2, .int m]) := by
    show (intsD (ns.map .int)).bind _ = _
    rw [hI]
    exact if_pos ⟨h, h2⟩
  refine ⟨_, _, _, ?_, ?_, e⟩
  · unfold drawA
    split <;> exact Int.emod_nonneg _ (by omega)
  · unfold drawA
    split <;> exact Int.emod_lt_of_pos _ h
theorem ixN_nat {n i : Nat} (h : i < n) : ixN n (i : Int) = some i := by
  unfold ixN
  rw [if_pos (by omega), if_pos (by omega)]
  simp
theorem ixL_nat {l : List D} {i : Int} {d : D} (h0 : 0 ≤ i) (h : l[i.toNat]? = some d) : ixL l (.int i) = some d := by
  obtain ⟨n, rfl⟩ := Int.eq_ofNat_of_zero_le h0
  exact atI_nat (by simpa using h)
end Vw
namespace Vw
open PySem PySem.Spec PyProof.Rows L2
/-! ### rules for bodies on data -/
structure Po where
  N : Rho → Prop
  R : D → Rho → Prop
  B : Rho → Prop
  C : Rho → Prop
  X : Str → Fs → Rho → Prop
def Po.at (K : Po) : Rs → Prop
  | .nx ρ => K.N ρ
  | .ret d ρ => K.R d ρ
  | .brk ρ => K.B ρ
  | .cnt ρ => K.C ρ
  | .exn x fs ρ => K.X x fs ρ
def Wp (c : Cf) (ss : Ss) (ρ : Rho) (K : Po) : Prop := ∃ r, exSs c ss ρ = some r ∧ K.at r
def WpS (c : Cf) (s : S) (ρ : Rho) (K : Po) : Prop := ∃ r, exS c s ρ = some r ∧ K.at r
section
variable {c : Cf} {ρ ρ' ρ'' : Rho} {K : Po} {d x : D} {ss : Ss}
theorem wp_nil (h : K.N ρ) : Wp c .nil ρ K := ⟨.nx ρ, rfl, h⟩
theorem wp_cons {s : S} (h : WpS c s ρ { K with N := fun ρ' => Wp c ss ρ' K }) : Wp c (.cons s ss) ρ K := by
  obtain ⟨r, e, h⟩ := h
  cases r with
  | nx ρ1 =>
    obtain ⟨r2, e2, h2⟩ := h
    exact ⟨r2, by show (exS c s ρ).bind _ = _; rw [e]; exact e2, h2⟩
  | ret d ρ1 => exact ⟨.ret d ρ1, by show (exS c s ρ).bind _ = _; rw [e]; rfl, h⟩
  | brk ρ1 => exact ⟨.brk ρ1, by show (exS c s ρ).bind _ = _; rw [e]; rfl, h⟩
  | cnt ρ1 => exact ⟨.cnt ρ1, by show (exS c s ρ).bind _ = _; rw [e]; rfl, h⟩
  | exn x fs ρ1 => exact ⟨.exn x fs ρ1, by show (exS c s ρ).bind _ = _; rw [e]; rfl, h⟩
theorem wp_fz {i : Nat} (h : Wp c ss ρ ⟨fun ρ => K.N (ρ.set i none), fun d ρ => K.R d (ρ.set i none), fun ρ => K.B (ρ.set i none), fun ρ => K.C (ρ.set i none), fun x fs ρ => K.X x fs (ρ.set i none)⟩) : Wp c (.fz i ss) ρ K := by
  obtain ⟨r, e, h⟩ := h
  refine ⟨rsWipe i r, by show (exSs c ss ρ).map _ = _; rw [e]; rfl, ?_⟩
  cases r <;> exact h
theorem wp_reb {i : Nat} {t : Ty} {e : E} (he : ev c e ρ = some (d, ρ')) (h : Wp c ss (put ρ' i d) ⟨fun ρ => K.N (ρ.set i none), fun d ρ => K.R d (ρ.set i none), fun ρ => K.B (ρ.set i none), fun ρ => K.C (ρ.set i none), fun x fs ρ => K.X x fs (ρ.set i none)⟩) : Wp c (.reb i t e ss) ρ K := by
  obtain ⟨r, e2, h⟩ := h
  refine ⟨rsWipe i r, by show (ev c e ρ).bind _ = _; rw [he]; show (exSs c ss _).map _ = _; rw [e2]; rfl, ?_⟩
  cases r <;> exact h
theorem w_set {i : Nat} {e : E} (he : ev c e ρ = some (d, ρ')) (h : K.N (put ρ' i d)) : WpS c (.set i e) ρ K := ⟨.nx (put ρ' i d), by show (ev c e ρ).map _ = _; rw [he]; rfl, h⟩
theorem w_unp {tg : Tg} {e : E} (he : ev c e ρ = some (d, ρ')) (ht : tgD tg d ρ' = some ρ'') (h : K.N ρ'') : WpS c (.unp tg e) ρ K := ⟨.nx ρ'', by show (ev c e ρ).bind _ = _; rw [he]; show (tgD tg d ρ').map _ = _; rw [ht]; rfl, h⟩
theorem w_par {i j : Nat} {a b : E} (ha : ev c a ρ = some (d, ρ')) (hb : ev c b ρ' = some (x, ρ'')) (h : K.N (put (put ρ'' i d) j x)) : WpS c (.par i j a b) ρ K := ⟨.nx _, by show (ev c a ρ).bind _ = _; rw [ha]; show (ev c b ρ').map _ = _; rw [hb]; rfl, h⟩
theorem w_aug {i : Nat} {o : Ar} {e : E} {y z : D} (h0 : Vw.get ρ i = some y) (he : ev c e ρ = some (d, ρ')) (ho : arD o y d = some z) (h : K.N (put ρ' i z)) : WpS c (.aug i o e) ρ K := ⟨.nx _, by show (Vw.get ρ i).bind _ = _; rw [h0]; show (ev c e ρ).bind _ = _; rw [he]; show (arD o y d).map _ = _; rw [ho]; rfl, h⟩
theorem w_app {i : Nat} {e : E} {l l0 : List D} (h0 : Vw.get ρ i = some (.list l0)) (he : ev c e ρ = some (d, ρ')) (h1 : Vw.get ρ' i = some (.list l)) (hl : l.length < 16777216) (h : K.N (put ρ' i (.list (l ++ [d])))) : WpS c (.app i e) ρ K :=
  ⟨.nx _, by show (Vw.get ρ i).bind _ = _; rw [h0]; show (ev c e ρ).bind _ = _; rw [he]; show (Vw.get ρ' i).bind _ = _; rw [h1]; exact if_pos hl, h⟩
theorem w_sti {i : Nat} {a e : E} {l : List D} {y : D} {j : Int} {k : Nat} (he : ev c e ρ = some (d, ρ')) (h0 : Vw.get ρ' i = some y) (ha : ev c a ρ' = some (.int j, ρ'')) (h1 : Vw.get ρ'' i = some (.list l)) (hk : ixN l.length j = some k) (h : K.N (put ρ'' i (.list (l.set k d)))) : WpS c (.sti i a e) ρ K :=
  ⟨.nx _, by show (ev c e ρ).bind _ = _; rw [he]; show (Vw.get ρ' i).bind _ = _; rw [h0]; show (ev c a ρ').bind _ = _; rw [ha]; show (Vw.get ρ'' i).bind _ = _; rw [h1]; show (ixN l.length j).map _ = _; rw [hk]; rfl, h⟩
theorem w_ex {e : E} (he : ev c e ρ = some (d, ρ')) (h : K.N ρ') : WpS c (.ex e) ρ K := ⟨.nx ρ', by show (ev c e ρ).map _ = _; rw [he]; rfl, h⟩
theorem w_ret {e : E} (he : ev c e ρ = some (d, ρ')) (h : K.R d ρ') : WpS c (.ret e) ρ K := ⟨.ret d ρ', by show (ev c e ρ).map _ = _; rw [he]; rfl, h⟩
theorem w_retn (h : K.R .none ρ) : WpS c .retn ρ K := ⟨_, rfl, h⟩
theorem w_brk (h : K.B ρ) : WpS c .brk ρ K := ⟨_, rfl, h⟩
theorem w_cnt (h : K.C ρ) : WpS c .cnt ρ K := ⟨_, rfl, h⟩
theorem w_pas (h : K.N ρ) : WpS c .pas ρ K := ⟨_, rfl, h⟩
theorem w_ife {t : T} {a b : Ss} {z : Bool} (ht : evT c t ρ = some (z, ρ')) (h1 : z = true → Wp c a ρ' K) (h2 : z = false → Wp c b ρ' K) : WpS c (.ife t a b) ρ K := by
  cases z with
  | true =>
    obtain ⟨r, e, h⟩ := h1 rfl
    exact ⟨r, by show (evT c t ρ).bind _ = _; rw [ht]; exact e, h⟩
  | false =>
    obtain ⟨r, e, h⟩ := h2 rfl
    exact ⟨r, by show (evT c t ρ).bind _ = _; rw [ht]; exact e, h⟩
theorem forL_po {f : D → Rho → Option Rs} (I : Nat → Rho → Prop) : ∀ (ds : List D) (k : Nat),
    (∀ i (h : i < ds.length) ρ, I (k + i) ρ → ∃ r, f ds[i] ρ = some r ∧ ({ K with N := I (k + i + 1), C := I (k + i + 1) } : Po).at r) → ∀ ρ, I k ρ →
      ∃ q, forL f ds ρ = some q ∧ ((∃ ρ', q = .nx ρ' ∧ (I (k + ds.length) ρ' ∨ K.B ρ')) ∨ (∃ d ρ', q = .ret d ρ' ∧ K.R d ρ') ∨ ∃ x fs ρ', q = .exn x fs ρ' ∧ K.X x fs ρ')
  | [], k, _, ρ, h => ⟨.nx ρ, rfl, .inl ⟨ρ, rfl, .inl h⟩⟩
  | d :: ds, k, step, ρ, h => by
    obtain ⟨r, e1, h1⟩ := step 0 (Nat.succ_pos _) ρ h
    have e1 : f d ρ = some r := e1
    have go : ∀ ρ1, I (k + 1) ρ1 → ∃ q, forL f ds ρ1 = some q ∧ ((∃ ρ', q = .nx ρ' ∧ (I (k + (d :: ds).length) ρ' ∨ K.B ρ')) ∨ (∃ d ρ', q = .ret d ρ' ∧ K.R d ρ') ∨ ∃ x fs ρ', q = .exn x fs ρ' ∧ K.X x fs ρ') := fun ρ1 h1 => by
      have := forL_po I ds (k + 1) (fun i hi ρ hI => by
        have := step (i + 1) (by simpa using hi) ρ (by rw [show k + (i + 1) = k + 1 + i by omega]; exact hI)
        obtain ⟨r, e, h⟩ := this
        refine ⟨r, by simpa using e, ?_⟩
        rw [show k + 1 + i + 1 = k + (i + 1) + 1 by omega]
        exact h) ρ1 h1
      rw [show k + (d :: ds).length = k + 1 + ds.length by simp; omega]
      exact this
    cases r with
    | nx ρ1 =>
      obtain ⟨q, e2, h2⟩ := go ρ1 h1
      exact ⟨q, by show (f d ρ).bind _ = _; rw [e1]; exact e2, h2⟩
    | cnt ρ1 =>
      obtain ⟨q, e2, h2⟩ := go ρ1 h1
      exact ⟨q, by show (f d ρ).bind _ = _; rw [e1]; exact e2, h2⟩
    | ret x ρ1 => exact ⟨.ret x ρ1, by show (f d ρ).bind _ = _; rw [e1]; rfl, .inr (.inl ⟨x, ρ1, rfl, h1⟩)⟩
    | exn x fs ρ1 => exact ⟨.exn x fs ρ1, by show (f d ρ).bind _ = _; rw [e1]; rfl, .inr (.inr ⟨x, fs, ρ1, rfl, h1⟩)⟩
    | brk ρ1 => exact ⟨.nx ρ1, by show (f d ρ).bind _ = _; rw [e1]; rfl, .inl ⟨ρ1, rfl, .inr h1⟩⟩
/-- for: I by the turn -/
theorem w_for {tg : Tg} {it : Iv} {b : Ss} {ds : List D} {sv : List (Nat × D)} (hi : evI c it ρ = some (ds, ρ', sv)) (I : Nat → Rho → Prop) (h0 : I 0 ρ')
    (step : ∀ i (h : i < ds.length) ρ, I i ρ → ∃ ρ1, tgD tg ds[i] ρ = some ρ1 ∧ Wp c b ρ1 { K with N := I (i + 1), C := I (i + 1), B := fun ρ => ∃ ρ', restD sv ρ = some ρ' ∧ K.N ρ' })
    (fin : ∀ ρ, I ds.length ρ → ∃ ρ', restD sv ρ = some ρ' ∧ K.N ρ') : WpS c (.for tg it b) ρ K := by
  obtain ⟨q, e, a⟩ := forL_po (K := { K with B := fun ρ => ∃ ρ', restD sv ρ = some ρ' ∧ K.N ρ' }) (f := fun d ρ => (tgD tg d ρ).bind fun ρ1 => exSs c b ρ1) I ds 0 (fun i h ρ hI => by
    rw [Nat.zero_add] at hI
    obtain ⟨ρ1, e1, r, e2, h2⟩ := step i h ρ hI
    refine ⟨r, by show (tgD tg ds[i] ρ).bind _ = _; rw [e1]; exact e2, ?_⟩
    rw [Nat.zero_add]
    exact h2) ρ' h0
  rw [Nat.zero_add] at a
  have e0 : exS c (.for tg it b) ρ = rsBack sv q := by
    show (evI c it ρ).bind _ = _
    rw [hi]
    show (forL _ ds ρ').bind _ = _
    rw [e]
    rfl
  rcases a with ⟨ρ1, rfl, a⟩ | ⟨d, ρ1, rfl, a⟩ | ⟨x, fs, ρ1, rfl, a⟩
  · have : ∃ ρ', restD sv ρ1 = some ρ' ∧ K.N ρ' := a.elim (fin ρ1) id
    obtain ⟨ρ2, e2, h2⟩ := this
    exact ⟨.nx ρ2, by rw [e0]; show (restD sv ρ1).map _ = _; rw [e2]; rfl, h2⟩
  · exact ⟨.ret d ρ1, by rw [e0]; rfl, a⟩
  · exact ⟨.exn x fs ρ1, by rw [e0]; rfl, a⟩
/-- while: I by what is left -/
theorem w_wh {t : T} {b : Ss} (I : Nat → Rho → Prop) (n : Nat) (hn : n < c.W) (h0 : I n ρ)
    (step : ∀ n ρ, I n ρ → ∃ z ρ1, evT c t ρ = some (z, ρ1) ∧ (z = false → K.N ρ1) ∧ (z = true → Wp c b ρ1 { K with N := fun ρ => ∃ m, m < n ∧ I m ρ, C := fun ρ => ∃ m, m < n ∧ I m ρ, B := K.N })) : WpS c (.wh t b) ρ K := by
  have go : ∀ (w n : Nat) (ρ : Rho), n < w → I n ρ → ∃ r, whL (fun ρ => evT c t ρ) (fun ρ => exSs c b ρ) w ρ = some r ∧ K.at r := by
    intro w
    induction w with
    | zero => exact fun n ρ h => absurd h (Nat.not_lt_zero _)
    | succ w ih =>
      intro n ρ hw hI
      obtain ⟨z, ρ1, e, f1, f2⟩ := step n ρ hI
      cases z with
      | false => exact ⟨.nx ρ1, by show (evT c t ρ).bind _ = _; rw [e]; rfl, f1 rfl⟩
      | true =>
        obtain ⟨r, e2, h2⟩ := f2 rfl
        cases r with
        | nx ρ2 =>
          obtain ⟨m, hm, hI2⟩ := h2
          obtain ⟨r3, e3, h3⟩ := ih m ρ2 (by omega) hI2
          exact ⟨r3, by show (evT c t ρ).bind _ = _; rw [e]; show (exSs c b ρ1).bind _ = _; rw [e2]; exact e3, h3⟩
        | cnt ρ2 =>
          obtain ⟨m, hm, hI2⟩ := h2
          obtain ⟨r3, e3, h3⟩ := ih m ρ2 (by omega) hI2
          exact ⟨r3, by show (evT c t ρ).bind _ = _; rw [e]; show (exSs c b ρ1).bind _ = _; rw [e2]; exact e3, h3⟩
        | brk ρ2 => exact ⟨.nx ρ2, by show (evT c t ρ).bind _ = _; rw [e]; show (exSs c b ρ1).bind _ = _; rw [e2]; rfl, h2⟩
        | ret d ρ2 => exact ⟨.ret d ρ2, by show (evT c t ρ).bind _ = _; rw [e]; show (exSs c b ρ1).bind _ = _; rw [e2]; rfl, h2⟩
        | exn x fs ρ2 => exact ⟨.exn x fs ρ2, by show (evT c t ρ).bind _ = _; rw [e]; show (exSs c b ρ1).bind _ = _; rw [e2]; rfl, h2⟩
  exact go c.W n ρ hn h0
theorem ev_call {f : Str} {as : As} {ags : List Ag} {ds ds' : List D} (ha : evA c as ρ = some (ags, ρ')) (hd : agsD ρ' ags = some ds) (hf : c.fn f ds = some (d, ds')) (hb : ags.any isBo = false) (hk : backD ags ds' ρ' = some ρ'') : ev c (.call f as) ρ = some (d, ρ'') := by
  show (evA c as ρ).bind _ = _
  rw [ha]
  show (agsD ρ' ags).bind _ = _
  rw [hd]
  show (c.fn f ds).bind _ = _
  rw [hf]
  show (if ags.any isBo = true then _ else _) = _
  rw [if_neg (by rw [hb]; exact Bool.false_ne_true)]
  show (backD ags ds' ρ').map _ = _
  rw [hk]
  rfl
theorem ev_comp {elt : E} {tg : Tg} {it : Iv} {cd : Ot} {ws : List Nat} {ds : List D} {sv : List (Nat × D)} (hi : evI c it ρ = some (ds, ρ', sv)) (I : List D → Nat → Rho → Prop) (h0 : I [] 0 (wipeD ρ' ws))
    (step : ∀ i (h : i < ds.length) acc ρ, I acc i ρ → ∃ ρ1 z ρ2, tgD tg ds[i] ρ = some ρ1 ∧ evC c cd ρ1 = some (z, ρ2) ∧ (z = false → I acc (i + 1) (wipeD ρ2 ws)) ∧ (z = true → ∃ x ρ3, ev c elt ρ2 = some (x, ρ3) ∧ I (acc ++ [x]) (i + 1) (wipeD ρ3 ws)))
    {Q : D → Rho → Prop} (fin : ∀ out ρ, I out ds.length ρ → out.length ≤ 16777216 ∧ ∃ ρ', restD sv ρ = some ρ' ∧ Q (.list out) ρ') : ∃ d ρ', ev c (.comp elt tg it cd ws) ρ = some (d, ρ') ∧ Q d ρ' := by
  obtain ⟨out, ρ2, e, hI⟩ := comp_rule (ds := ds) (f := fun d ρ => (tgD tg d ρ).bind fun ρ1 => (evC c cd ρ1).bind fun b =>
      if b.1 = true then (ev c elt b.2).map fun q => (some q.1, wipeD q.2 ws) else some (none, wipeD b.2 ws)) I (fun i h acc ρ hI => by
    obtain ⟨ρ1, z, ρ2, e1, e2, f1, f2⟩ := step i h acc ρ hI
    cases z with
    | false =>
      refine ⟨(none, wipeD ρ2 ws), by show (tgD tg ds[i] ρ).bind _ = _; rw [e1]; show (evC c cd ρ1).bind _ = _; rw [e2]; rfl, ?_⟩
      show I (acc ++ []) _ _
      rw [List.append_nil]
      exact f1 rfl
    | true =>
      obtain ⟨x, ρ3, e3, h3⟩ := f2 rfl
      exact ⟨(some x, wipeD ρ3 ws), by show (tgD tg ds[i] ρ).bind _ = _; rw [e1]; show (evC c cd ρ1).bind _ = _; rw [e2]; show (ev c elt ρ2).map _ = _; rw [e3]; rfl, h3⟩) h0
  obtain ⟨hl, ρ3, e3, q⟩ := fin out ρ2 hI
  refine ⟨.list out, ρ3, ?_, q⟩
  show (evI c it ρ).bind _ = _
  rw [hi]
  show (compL _ ds (wipeD ρ' ws)).bind _ = _
  rw [e]
  show (if lenOk out.length = true then _ else _) = _
  rw [if_pos (lenOk_le hl)]
  show (restD sv ρ2).map _ = _
  rw [e3]
  rfl
end
theorem fn_rule {c : Cf} {ps : List Ty} {n : Nat} {b : Ss} {ds : List D} {Q : D → List D → Prop} (h : Wp c b (ds.map some ++ List.replicate (n - ds.length) none) ⟨fun ρ => ∃ o, fout ps ds ρ = some o ∧ Q .none o, fun d ρ => ∃ o, fout ps ds ρ = some o ∧ Q d o, fun _ => False, fun _ => False, fun _ _ _ => False⟩) : ∃ d o, evF c ps n b ds = some (d, o) ∧ Q d o := by
  obtain ⟨r, e, h⟩ := h
  cases r with
  | nx ρ =>
    obtain ⟨o, e2, q⟩ := h
    exact ⟨.none, o, by unfold evF; rw [e]; show (fout ps ds ρ).map _ = _; rw [e2]; rfl, q⟩
  | ret d ρ =>
    obtain ⟨o, e2, q⟩ := h
    exact ⟨d, o, by unfold evF; rw [e]; show (fout ps ds ρ).map _ = _; rw [e2]; rfl, q⟩
  | brk ρ => exact h.elim
  | cnt ρ => exact h.elim
  | exn x fs ρ => exact h.elim
/-- a def that may raise -/
theorem fx_rule {c : Cf} {ps : List Ty} {n : Nat} {b : Ss} {ds : List D} {Q : Xr → Prop} (h : Wp c b (ds.map some ++ List.replicate (n - ds.length) none) ⟨fun ρ => ∃ o, fout ps ds ρ = some o ∧ Q (.ret .none o), fun d ρ => ∃ o, fout ps ds ρ = some o ∧ Q (.ret d o), fun _ => False, fun _ => False, fun x fs _ => Q (.exn x fs)⟩) : ∃ r, evX c ps n b ds = some r ∧ Q r := by
  obtain ⟨r, e, h⟩ := h
  cases r with
  | nx ρ =>
    obtain ⟨o, e2, q⟩ := h
    exact ⟨_, by unfold evX; rw [e]; show (fout ps ds ρ).map _ = _; rw [e2]; rfl, q⟩
  | ret d ρ =>
    obtain ⟨o, e2, q⟩ := h
    exact ⟨_, by unfold evX; rw [e]; show (fout ps ds ρ).map _ = _; rw [e2]; rfl, q⟩
  | brk ρ => exact h.elim
  | cnt ρ => exact h.elim
  | exn x fs ρ => exact ⟨_, by unfold evX; rw [e]; rfl, h⟩
section
variable {c : Cf} {ρ ρ' : Rho} {K : Po} {es : Es} {ds : List D} {f : Str}
theorem w_rse {x : Str} {ns : List Str} (he : evs c es ρ = some (ds, ρ')) (hl : ns.length = ds.length) (h : K.X x (ns.zip ds) ρ') : WpS c (.rse x ns es) ρ K :=
  ⟨.exn x (ns.zip ds) ρ', by show (evs c es ρ).bind _ = _; rw [he]; exact if_pos hl, h⟩
/-- what is behind a call -/
def XK (K : Po) (ρ : Rho) (k : D → Prop) : Xr → Prop
  | .ret d _ => k d
  | .exn x fs => K.X x fs ρ
theorem w_cx {r : Xr} (he : evs c es ρ = some (ds, ρ')) (hf : c.fx f ds = some r) (h : XK K ρ' (fun _ => K.N ρ') r) : WpS c (.cx f es) ρ K := by
  cases r with
  | ret d o => exact ⟨.nx ρ', by show (evs c es ρ).bind _ = _; rw [he]; show (c.fx f ds).bind _ = _; rw [hf]; rfl, h⟩
  | exn x fs => exact ⟨.exn x fs ρ', by show (evs c es ρ).bind _ = _; rw [he]; show (c.fx f ds).bind _ = _; rw [hf]; rfl, h⟩
theorem w_rtx {r : Xr} (he : evs c es ρ = some (ds, ρ')) (hf : c.fx f ds = some r) (h : XK K ρ' (fun d => K.R d ρ') r) : WpS c (.rtx f es) ρ K := by
  cases r with
  | ret d o => exact ⟨.ret d ρ', by show (evs c es ρ).bind _ = _; rw [he]; show (c.fx f ds).bind _ = _; rw [hf]; rfl, h⟩
  | exn x fs => exact ⟨.exn x fs ρ', by show (evs c es ρ).bind _ = _; rw [he]; show (c.fx f ds).bind _ = _; rw [hf]; rfl, h⟩
theorem w_sx {i : Nat} {r : Xr} (he : evs c es ρ = some (ds, ρ')) (hf : c.fx f ds = some r) (h : XK K ρ' (fun d => K.N (put ρ' i d)) r) : WpS c (.sx i f es) ρ K := by
  cases r with
  | ret d o => exact ⟨.nx (put ρ' i d), by show (evs c es ρ).bind _ = _; rw [he]; show (c.fx f ds).bind _ = _; rw [hf]; rfl, h⟩
  | exn x fs => exact ⟨.exn x fs ρ', by show (evs c es ρ).bind _ = _; rw [he]; show (c.fx f ds).bind _ = _; rw [hf]; rfl, h⟩
theorem w_ifx {ng : Bool} {a b : Ss} {r : Xr} (he : evs c es ρ = some (ds, ρ')) (hf : c.fx f ds = some r) (h : XK K ρ' (fun d => ((isNone d != ng) = true → Wp c a ρ' K) ∧ ((isNone d != ng) = false → Wp c b ρ' K)) r) : WpS c (.ifx ng f es a b) ρ K := by
  cases r with
  | ret d o =>
    obtain ⟨h1, h2⟩ := h
    cases hd : (isNone d != ng) with
    | true =>
      obtain ⟨q, e, h⟩ := h1 hd
      exact ⟨q, by show (evs c es ρ).bind _ = _; rw [he]; show (c.fx f ds).bind _ = _; rw [hf]; exact (if_pos hd).trans e, h⟩
    | false =>
      obtain ⟨q, e, h⟩ := h2 hd
      exact ⟨q, by show (evs c es ρ).bind _ = _; rw [he]; show (c.fx f ds).bind _ = _; rw [hf]; exact (if_neg (by rw [hd]; exact Bool.false_ne_true)).trans e, h⟩
  | exn x fs => exact ⟨.exn x fs ρ', by show (evs c es ρ).bind _ = _; rw [he]; show (c.fx f ds).bind _ = _; rw [hf]; rfl, h⟩
/-- try: what the suite tells of the exception -/
theorem w_tr {b : Ss} {x : Str} {i : Nat} {g : Hs} (h : Wp c b ρ { K with X := fun y fs ρ => y = x ∧ i < ρ.length ∧ ∃ d, hsD y fs (ρ.set i none) g = some d ∧ K.R d (ρ.set i none) }) : WpS c (.tr b x i g) ρ K := by
  obtain ⟨r, e, h⟩ := h
  cases r with
  | nx ρ1 => exact ⟨.nx ρ1, by show (exSs c b ρ).bind _ = _; rw [e]; rfl, h⟩
  | ret d ρ1 => exact ⟨.ret d ρ1, by show (exSs c b ρ).bind _ = _; rw [e]; rfl, h⟩
  | brk ρ1 => exact ⟨.brk ρ1, by show (exSs c b ρ).bind _ = _; rw [e]; rfl, h⟩
  | cnt ρ1 => exact ⟨.cnt ρ1, by show (exSs c b ρ).bind _ = _; rw [e]; rfl, h⟩
  | exn y fs ρ1 =>
    obtain ⟨h1, h2, d, h3, h4⟩ := h
    exact ⟨.ret d (ρ1.set i none), by show (exSs c b ρ).bind _ = _; rw [e]; exact (if_pos ⟨h1, h2⟩).trans (by rw [h3]; rfl), h4⟩
end
end Vw
namespace Vw
open PySem PySem.Spec PyProof.Rows L2
section
variable {c : Cf} {ρ ρ1 ρ2 ρ3 : Rho} {x y z d : D} {a b e : E}
theorem r_neg {i : Int} (ha : ev c a ρ = some (.int i, ρ1)) : ev c (.neg a) ρ = some (.int (-i), ρ1) := by
  show (ev c a ρ).bind _ = _
  rw [ha]
  rfl
theorem r_ar {o : Ar} (ha : ev c a ρ = some (x, ρ1)) (hb : ev c b ρ1 = some (y, ρ2)) (h : arD o x y = some d) : ev c (.ar o a b) ρ = some (d, ρ2) := by
  show (ev c a ρ).bind _ = _
  rw [ha]
  show (ev c b ρ1).bind _ = _
  rw [hb]
  show (arD o x y).map _ = _
  rw [h]
  rfl
theorem r_cm {o : Cm} {i j : Int} (ha : ev c a ρ = some (.int i, ρ1)) (hb : ev c b ρ1 = some (.int j, ρ2)) : ev c (.cm o a b) ρ = some (.bool (cmI o i j), ρ2) := by
  show (ev c a ρ).bind _ = _
  rw [ha]
  show (ev c b ρ1).bind _ = _
  rw [hb]
  rfl
theorem r_eq {ng : Bool} (ha : ev c a ρ = some (x, ρ1)) (hb : ev c b ρ1 = some (y, ρ2)) (h1 : SeqAt.shaped x = true) (h2 : SeqAt.shaped y = true) : ev c (.eq ng a b) ρ = some (.bool (PyData.eqv x y != ng), ρ2) := by
  show (ev c a ρ).bind _ = _
  rw [ha]
  show (ev c b ρ1).bind _ = _
  rw [hb]
  show (eqD ng x y).map _ = _
  unfold eqD
  rw [if_pos ⟨h1, h2⟩]
  rfl
theorem r_isn {ng : Bool} (ha : ev c a ρ = some (x, ρ1)) : ev c (.isn ng a) ρ = some (.bool (isNone x != ng), ρ1) := by
  show (ev c a ρ).map _ = _
  rw [ha]
  rfl
theorem r_ind {ng : Bool} {l : List D} (ha : ev c a ρ = some (x, ρ1)) (hb : ev c b ρ1 = some (.list l, ρ2)) (h1 : SeqAt.shaped x = true) (h2 : SeqAt.shaped (.list l) = true) : ev c (.ind ng a b) ρ = some (.bool (l.any (fun e => PyData.eqv e x) != ng), ρ2) := by
  show (ev c a ρ).bind _ = _
  rw [ha]
  show (ev c b ρ1).bind _ = _
  rw [hb]
  show (if _ then _ else _ : Option D).map _ = _
  rw [if_pos ⟨h1, h2⟩]
  rfl
theorem r_inn {ng : Bool} {o : O} {l : List D} (ha : ev c a ρ = some (x, ρ1)) (hb : evO c o ρ1 = some (y, ρ2)) (hs : seqD y = some l) (h1 : flatD x = true) (h2 : l.all flatD = true) : ev c (.inn ng a o) ρ = some (.bool (l.any (fun e => PyData.eqv e x) != ng), ρ2) := by
  show (ev c a ρ).bind _ = _
  rw [ha]
  show (evO c o ρ1).bind _ = _
  rw [hb]
  show (innD ng x y).map _ = _
  unfold innD
  rw [hs]
  show (if _ then _ else _ : Option D).map _ = _
  rw [if_pos ⟨h1, h2⟩]
  rfl
theorem r_ife {t : T} {v : Bool} (ht : evT c t ρ = some (v, ρ1)) (h1 : v = true → ev c a ρ1 = some (d, ρ2)) (h2 : v = false → ev c b ρ1 = some (d, ρ2)) : ev c (.ife t a b) ρ = some (d, ρ2) := by
  show (evT c t ρ).bind _ = _
  rw [ht]
  cases v with
  | true => exact h1 rfl
  | false => exact h2 rfl
theorem r_nil : evs c .nil ρ = some ([], ρ) := rfl
theorem r_cons {es : Es} {ds : List D} (ha : ev c a ρ = some (x, ρ1)) (hb : evs c es ρ1 = some (ds, ρ2)) : evs c (.cons a es) ρ = some (x :: ds, ρ2) := by
  show (ev c a ρ).bind _ = _
  rw [ha]
  show (evs c es ρ1).map _ = _
  rw [hb]
  rfl
theorem r_tup {es : Es} {ds : List D} (h : evs c es ρ = some (ds, ρ1)) (hl : lenOk ds.length = true := by rfl) : ev c (.tup es) ρ = some (.tuple ds, ρ1) := by
  show (evs c es ρ).bind _ = _
  rw [h]
  exact if_pos hl
theorem r_lst {es : Es} {ds : List D} (h : evs c es ρ = some (ds, ρ1)) (hl : lenOk ds.length = true := by rfl) : ev c (.lst es) ρ = some (.list ds, ρ1) := by
  show (evs c es ρ).bind _ = _
  rw [h]
  exact if_pos hl
theorem r_oe (h : ev c a ρ = some (x, ρ1)) : evO c (.e a) ρ = some (x, ρ1) := h
theorem r_ix {o : O} (ha : evO c o ρ = some (x, ρ1)) (hb : ev c b ρ1 = some (y, ρ2)) (hl : lateD c o x ρ2 = some z) (h : ixD z y = some d) : ev c (.ix o b) ρ = some (d, ρ2) := by
  show (evO c o ρ).bind _ = _
  rw [ha]
  show (ev c b ρ1).bind _ = _
  rw [hb]
  show (lateD c o x ρ2).bind _ = _
  rw [hl]
  show (ixD z y).map _ = _
  rw [h]
  rfl
theorem r_b1 {f : B1} {o : O} (ha : evO c o ρ = some (x, ρ1)) (h : b1D f x = some d) : ev c (.b1 f o) ρ = some (d, ρ1) := by
  show (evO c o ρ).bind _ = _
  rw [ha]
  show (b1D f x).map _ = _
  rw [h]
  rfl
theorem r_b2 {f : B2} (ha : ev c a ρ = some (x, ρ1)) (hb : ev c b ρ1 = some (y, ρ2)) (h : b2D f x y = some d) : ev c (.b2 f a b) ρ = some (d, ρ2) := by
  show (ev c a ρ).bind _ = _
  rw [ha]
  show (ev c b ρ1).bind _ = _
  rw [hb]
  show (b2D f x y).map _ = _
  rw [h]
  rfl
theorem r_lcat {o o2 : O} (ha : evO c o ρ = some (x, ρ1)) (hb : evO c o2 ρ1 = some (y, ρ2)) (hl : lateD c o x ρ2 = some z) (h : lcatD z y = some d) : ev c (.lcat o o2) ρ = some (d, ρ2) := by
  show (evO c o ρ).bind _ = _
  rw [ha]
  show (evO c o2 ρ1).bind _ = _
  rw [hb]
  show (lateD c o x ρ2).bind _ = _
  rw [hl]
  show (lcatD z y).map _ = _
  rw [h]
  rfl
theorem r_popat {i : Nat} {l l0 : List D} {j : Int} {k : Nat} (h0 : Vw.get ρ i = some (.list l0)) (ha : ev c a ρ = some (.int j, ρ1)) (h1 : Vw.get ρ1 i = some (.list l)) (hj : -(2 ^ 63) ≤ j ∧ j < 2 ^ 63) (hk : seqIndex? j l.length = some k) (hd : l[k]? = some d) : ev c (.popat i a) ρ = some (d, put ρ1 i (.list (l.eraseIdx k))) := by
  show (Vw.get ρ i).bind _ = _
  rw [h0]
  show (ev c a ρ).bind _ = _
  rw [ha]
  show (Vw.get ρ1 i).bind _ = _
  rw [h1]
  show (if _ then _ else _ : Option (D × Rho)) = _
  rw [if_pos hj]
  show (seqIndex? j l.length).bind _ = _
  rw [hk]
  show (l[k]?).map _ = _
  rw [hd]
  rfl
theorem t_e' {v : Bool} (ha : ev c a ρ = some (x, ρ1)) (h : truD x = some v) : evT c (.e a) ρ = some (v, ρ1) := by
  show (ev c a ρ).bind _ = _
  rw [ha]
  show (truD x).map _ = _
  rw [h]
  rfl
theorem t_b {v : Bool} (ha : ev c a ρ = some (.bool v, ρ1)) : evT c (.e a) ρ = some (v, ρ1) := t_e' ha rfl
theorem t_no' {t : T} {v : Bool} (h : evT c t ρ = some (v, ρ1)) : evT c (.no t) ρ = some (!v, ρ1) := by
  show (evT c t ρ).map _ = _
  rw [h]
  rfl
theorem t_an {t u : T} {v w : Bool} (h : evT c t ρ = some (v, ρ1)) (h0 : v = false → w = false ∧ ρ2 = ρ1) (h1 : v = true → evT c u ρ1 = some (w, ρ2)) : evT c (.an t u) ρ = some (w, ρ2) := by
  show (evT c t ρ).bind _ = _
  rw [h]
  cases v with
  | true => exact h1 rfl
  | false =>
    obtain ⟨rfl, rfl⟩ := h0 rfl
    rfl
theorem t_or {t u : T} {v w : Bool} (h : evT c t ρ = some (v, ρ1)) (h0 : v = true → w = true ∧ ρ2 = ρ1) (h1 : v = false → evT c u ρ1 = some (w, ρ2)) : evT c (.orr t u) ρ = some (w, ρ2) := by
  show (evT c t ρ).bind _ = _
  rw [h]
  cases v with
  | false => exact h1 rfl
  | true =>
    obtain ⟨rfl, rfl⟩ := h0 rfl
    rfl
/-- both sides known -/
theorem t_an2 {t u : T} {v w : Bool} (h : evT c t ρ = some (v, ρ)) (h1 : v = true → evT c u ρ = some (w, ρ)) : evT c (.an t u) ρ = some (v && w, ρ) := by
  refine t_an h (fun e => by rw [e]; exact ⟨rfl, rfl⟩) fun e => ?_
  rw [e, Bool.true_and]
  exact h1 e
theorem t_or2 {t u : T} {v w : Bool} (h : evT c t ρ = some (v, ρ)) (h1 : v = false → evT c u ρ = some (w, ρ)) : evT c (.orr t u) ρ = some (v || w, ρ) := by
  refine t_or h (fun e => by rw [e]; exact ⟨rfl, rfl⟩) fun e => ?_
  rw [e, Bool.false_or]
  exact h1 e
/-- a call whose arguments are all shared -/
theorem r_call {f : Str} {as : As} {ags : List Ag} {ds ds' : List D} (ha : evA c as ρ = some (ags, ρ1)) (hd : agsD ρ1 ags = some ds) (hf : c.fn f ds = some (d, ds')) (hb : ags.any isBo = false) (hk : backD ags ds' ρ1 = some ρ2) : ev c (.call f as) ρ = some (d, ρ2) := ev_call ha hd hf hb hk
theorem a_n : evA c .nil ρ = some ([], ρ) := rfl
theorem a_f {as : As} {ags : List Ag} (ha : ev c a ρ = some (x, ρ1)) (hb : evA c as ρ1 = some (ags, ρ2)) : evA c (.fr a as) ρ = some (.d x :: ags, ρ2) := by
  show (ev c a ρ).bind _ = _
  rw [ha]
  show (evA c as ρ1).map _ = _
  rw [hb]
  rfl
theorem a_i {i : Nat} {as : As} {ags : List Ag} (h : Vw.get ρ i = some x) (hb : evA c as ρ = some (ags, ρ2)) : evA c (.io i as) ρ = some (.io i :: ags, ρ2) := by
  show (Vw.get ρ i).bind _ = _
  rw [h]
  show (evA c as ρ).map _ = _
  rw [hb]
  rfl
theorem i_r1 {j : Int} (ha : ev c a ρ = some (.int j, ρ1)) (h : inR j = true) : evI c (.r1 a) ρ = some (rngD 0 j.toNat, ρ1, []) := by
  show (ev c a ρ).bind _ = _
  rw [ha]
  exact if_pos h
theorem i_r2 {i j : Int} (ha : ev c a ρ = some (.int i, ρ1)) (hb : ev c b ρ1 = some (.int j, ρ2)) (h : inR i = true ∧ inR j = true) : evI c (.r2 a b) ρ = some (rngD i (j - i).toNat, ρ2, []) := by
  show (ev c a ρ).bind _ = _
  rw [ha]
  show (ev c b ρ1).bind _ = _
  rw [hb]
  exact if_pos h
theorem i_o {l : List D} (ha : ev c a ρ = some (x, ρ1)) (h : seqD x = some l) : evI c (.o (.e a)) ρ = some (l, ρ1, []) := by
  show ((ev c a ρ).map _).bind _ = _
  rw [ha]
  show (seqD x).map _ = _
  rw [h]
  rfl
end
theorem rng_len {lo : Int} {n : Nat} : (rngD lo n).length = n := by simp [rngD]
theorem rng_at {lo : Int} {n i : Nat} (h : i < (rngD lo n).length) : (rngD lo n)[i] = .int (lo + i) := by simp [rngD]
theorem inR_small {j : Int} (h0 : -1000000000 ≤ j) (h1 : j ≤ 1000000000) : inR j = true := decide_eq_true ⟨by omega, by omega⟩
@[simp] theorem bneF {b : Bool} : (b != false) = b := by cases b <;> rfl
@[simp] theorem bneT {b : Bool} : (b != true) = !b := by cases b <;> rfl
theorem eq_of {α β : Type} {o : Option (α × β)} {x : α} {y : β} (h : ∃ d o', o = some (d, o') ∧ d = x ∧ o' = y) : o = some (x, y) := by
  obtain ⟨d, o', e, rfl, rfl⟩ := h
  exact e
theorem lenOkS {n : Nat} (h : n ≤ 16777216) : lenOk n = true := decide_eq_true h
/-! shaped data -/
theorem canAll {l : List D} (h : ∀ d ∈ l, PyData.canLay0 d = true) : PyData.canLayAll0 l = true := by
  induction l with
  | nil => rfl
  | cons x r ih =>
    show (PyData.canLay0 x && PyData.canLayAll0 r) = true
    rw [h x List.mem_cons_self, ih fun d hd => h d (List.mem_cons_of_mem _ hd)]
    rfl
end Vw
namespace Vw
open PySem PySem.Spec PyProof.Rows L2
section
variable {c : Cf} {ρ ρ1 ρ2 ρ3 ρ' ρ0 : Rho} {x y z d : D} {a b e : E}
theorem r_an {v : Bool} (ha : ev c a ρ = some (.bool v, ρ1)) (h0 : v = false → d = .bool false ∧ ρ2 = ρ1) (h1 : v = true → ev c b ρ1 = some (d, ρ2)) : ev c (.an a b) ρ = some (d, ρ2) := by
  show (ev c a ρ).bind _ = _
  rw [ha]
  cases v with
  | true => exact h1 rfl
  | false =>
    obtain ⟨rfl, rfl⟩ := h0 rfl
    rfl
theorem r_orr {v : Bool} (ha : ev c a ρ = some (.bool v, ρ1)) (h0 : v = true → d = .bool true ∧ ρ2 = ρ1) (h1 : v = false → ev c b ρ1 = some (d, ρ2)) : ev c (.orr a b) ρ = some (d, ρ2) := by
  show (ev c a ρ).bind _ = _
  rw [ha]
  cases v with
  | false => exact h1 rfl
  | true =>
    obtain ⟨rfl, rfl⟩ := h0 rfl
    rfl
theorem r_an2 {v w : Bool} (ha : ev c a ρ = some (.bool v, ρ)) (h1 : v = true → ev c b ρ = some (.bool w, ρ)) : ev c (.an a b) ρ = some (.bool (v && w), ρ) := by
  refine r_an ha (fun e => by rw [e]; exact ⟨rfl, rfl⟩) fun e => ?_
  rw [e, Bool.true_and]
  exact h1 e
theorem r_orr2 {v w : Bool} (ha : ev c a ρ = some (.bool v, ρ)) (h1 : v = false → ev c b ρ = some (.bool w, ρ)) : ev c (.orr a b) ρ = some (.bool (v || w), ρ) := by
  refine r_orr ha (fun e => by rw [e]; exact ⟨rfl, rfl⟩) fun e => ?_
  rw [e, Bool.false_or]
  exact h1 e
theorem r_ch {o o2 : Cm} {i j k : Int} (ha : ev c a ρ = some (.int i, ρ)) (hb : ev c b ρ = some (.int j, ρ)) (he : ev c e ρ = some (.int k, ρ)) : ev c (.ch o o2 a b e) ρ = some (.bool (cmI o i j && cmI o2 j k), ρ) := by
  show (ev c a ρ).bind _ = _
  rw [ha]
  show (ev c b ρ).bind _ = _
  rw [hb]
  show (if cmI o i j = true then _ else _ : Option (D × Rho)) = _
  cases h : cmI o i j with
  | false => rfl
  | true =>
    rw [if_pos rfl]
    show (ev c e ρ).bind _ = _
    rw [he]
    rfl
theorem r_no {t : T} {v : Bool} (h : evT c t ρ = some (v, ρ1)) : ev c (.no t) ρ = some (.bool (!v), ρ1) := by
  show (evT c t ρ).map _ = _
  rw [h]
  rfl
theorem r_tcat {l m : List D} (ha : ev c a ρ = some (.tuple l, ρ1)) (hb : ev c b ρ1 = some (.tuple m, ρ2)) (h : (l ++ m).length ≤ 16777216) : ev c (.tcat a b) ρ = some (.tuple (l ++ m), ρ2) := by
  show (ev c a ρ).bind _ = _
  rw [ha]
  show (ev c b ρ1).bind _ = _
  rw [hb]
  show (if lenOk (l.length + m.length) = true then some (PyData.tuple (l ++ m)) else none).map _ = _
  rw [List.length_append] at h
  rw [if_pos (lenOkS h)]
  rfl
/-- a comprehension whose parts leave the names as they were -/
theorem comp_filt {elt : E} {tg : Tg} {it : Iv} {cd : Ot} {ws : List Nat} {ds : List D} (hi : evI c it ρ = some (ds, ρ', [])) (p : D → Bool) (f : D → D) (h0 : wipeD ρ' ws = ρ0) (hl : ds.length ≤ 16777216)
    (step : ∀ d ∈ ds, ∃ ρ1 ρ2, tgD tg d ρ0 = some ρ1 ∧ evC c cd ρ1 = some (p d, ρ2) ∧ (p d = false → wipeD ρ2 ws = ρ0) ∧ (p d = true → ∃ ρ3, ev c elt ρ2 = some (f d, ρ3) ∧ wipeD ρ3 ws = ρ0)) :
    ev c (.comp elt tg it cd ws) ρ = some (.list ((ds.filter p).map f), ρ0) := by
  have h : ∃ d ρ', ev c (.comp elt tg it cd ws) ρ = some (d, ρ') ∧ d = .list ((ds.filter p).map f) ∧ ρ' = ρ0 := by
    refine ev_comp hi (fun acc k ρ => acc = ((ds.take k).filter p).map f ∧ ρ = ρ0) ⟨by rw [List.take_zero]; rfl, h0⟩ (fun i hi acc ρ hI => ?_) (Q := fun d ρ' => d = .list ((ds.filter p).map f) ∧ ρ' = ρ0) (fun out ρ hI => ?_)
    · obtain ⟨rfl, rfl⟩ := hI
      obtain ⟨ρ1, ρ2, e1, e2, e3, e4⟩ := step ds[i] (List.getElem_mem hi)
      have et : ds.take (i + 1) = ds.take i ++ [ds[i]] := by
        rw [List.take_add_one, List.getElem?_eq_getElem hi]
        rfl
      refine ⟨ρ1, p ds[i], ρ2, e1, e2, fun z => ⟨?_, e3 z⟩, fun z => ?_⟩
      · rw [et, List.filter_append, List.map_append]
        simp [z]
      · obtain ⟨ρ3, g1, g2⟩ := e4 z
        refine ⟨_, ρ3, g1, ?_, g2⟩
        rw [et, List.filter_append, List.map_append]
        simp [z]
    · obtain ⟨rfl, rfl⟩ := hI
      rw [List.take_length]
      have h9 := List.length_filter_le p ds
      exact ⟨by rw [List.length_map]; omega, _, rfl, rfl, rfl⟩
  obtain ⟨d, ρ2, e, rfl, rfl⟩ := h
  exact e
theorem comp_map {elt : E} {tg : Tg} {it : Iv} {ws : List Nat} {ds : List D} (hi : evI c it ρ = some (ds, ρ', [])) (f : D → D) (h0 : wipeD ρ' ws = ρ0) (hl : ds.length ≤ 16777216)
    (step : ∀ d ∈ ds, ∃ ρ1 ρ3, tgD tg d ρ0 = some ρ1 ∧ ev c elt ρ1 = some (f d, ρ3) ∧ wipeD ρ3 ws = ρ0) :
    ev c (.comp elt tg it .no ws) ρ = some (.list (ds.map f), ρ0) := by
  have := comp_filt (cd := .no) (elt := elt) (tg := tg) hi (fun _ => true) f h0 hl (fun d hd => by
    obtain ⟨ρ1, ρ3, e1, e2, e3⟩ := step d hd
    exact ⟨ρ1, ρ1, e1, rfl, (fun z => nomatch z), fun _ => ⟨ρ3, e2, e3⟩⟩)
  rwa [List.filter_eq_self.mpr (fun _ _ => rfl)] at this
theorem slc_b {l : List D} {i : Int} {o : O} {e : E} (ho : evO c o ρ = some (x, ρ1)) (hi : ev c e ρ1 = some (.int i, ρ2)) (hl : lateD c o x ρ2 = some z) (h : slcD z none (some i) = some d) : ev c (.slc o .no (.so e)) ρ = some (d, ρ2) := by
  show (evO c o ρ).bind _ = _
  rw [ho]
  show ((ev c e ρ1).bind _).bind _ = _
  rw [hi]
  show (lateD c o x ρ2).bind _ = _
  rw [hl]
  show (slcD z none (some i)).map _ = _
  rw [h]
  rfl
theorem slc_a {l : List D} {i : Int} {o : O} {e : E} (ho : evO c o ρ = some (x, ρ1)) (hi : ev c e ρ1 = some (.int i, ρ2)) (hl : lateD c o x ρ2 = some z) (h : slcD z (some i) none = some d) : ev c (.slc o (.so e) .no) ρ = some (d, ρ2) := by
  show (evO c o ρ).bind _ = _
  rw [ho]
  show ((ev c e ρ1).bind _).bind _ = _
  rw [hi]
  show (lateD c o x ρ2).bind _ = _
  rw [hl]
  show (slcD z (some i) none).map _ = _
  rw [h]
  rfl
end
theorem cut_b {l : List D} (k : Nat) : cutD l none (some (k : Int)) = l.take k := by
  unfold cutD
  rw [HT.sIx_none, HT.sIx_nat, List.drop_zero, Nat.sub_zero]
  by_cases h : k ≤ l.length
  · rw [Nat.min_eq_left h]
  · rw [Nat.min_eq_right (by omega), List.take_of_length_le (Nat.le_refl _), List.take_of_length_le (by omega)]
theorem cut_a {l : List D} (k : Nat) : cutD l (some (k : Int)) none = l.drop k := by
  unfold cutD
  rw [HT.sIx_none, HT.sIx_nat]
  by_cases h : k ≤ l.length
  · rw [Nat.min_eq_left h, List.take_of_length_le (by rw [List.length_drop]; omega)]
  · rw [Nat.min_eq_right (by omega), Nat.sub_self, List.take_zero, List.drop_eq_nil_of_le (by omega)]
section
variable {c : Cf} {ρ ρ1 ρ2 : Rho} {d : D}
/-- a call, its def by name -/
theorem r_callf {f : Str} {g : List D → Option (D × List D)} {as : As} {ags : List Ag} {ds ds' : List D} (hc : c.fn f = g) (hf : g ds = some (d, ds')) (ha : evA c as ρ = some (ags, ρ1)) (hd : agsD ρ1 ags = some ds) (hb : ags.any isBo = false) (hk : backD ags ds' ρ1 = some ρ2) : ev c (.call f as) ρ = some (d, ρ2) :=
  ev_call ha hd (by rw [hc]; exact hf) hb hk
end
/-! ### data that == may look at -/
def Sh (k : Nat) (d : D) : Prop := PyData.canLay0 d = true ∧ PyData.depth d ≤ k
theorem sh_int {k : Nat} (i : Int) : Sh k (.int i) := ⟨rfl, Nat.zero_le _⟩
theorem sh_bool {k : Nat} (b : Bool) : Sh k (.bool b) := ⟨rfl, Nat.zero_le _⟩
theorem sh_none {k : Nat} : Sh k .none := ⟨rfl, Nat.zero_le _⟩
theorem sh_str {k : Nat} {x : Str} (h : PyData.canLay0 (.str x) = true) : Sh k (.str x) := ⟨h, Nat.zero_le _⟩
theorem Sh.mono {k m : Nat} {d : D} (h : Sh k d) (l : k ≤ m) : Sh m d := ⟨h.1, Nat.le_trans h.2 l⟩
theorem sh_all {k : Nat} : ∀ {l : List D}, (∀ d ∈ l, Sh k d) → PyData.canLayAll0 l = true ∧ PyData.depthAll l ≤ k
  | [], _ => ⟨rfl, Nat.zero_le _⟩
  | x :: r, h => by
    obtain ⟨h1, h2⟩ := sh_all (l := r) fun d hd => h d (List.mem_cons_of_mem _ hd)
    obtain ⟨g1, g2⟩ := h x List.mem_cons_self
    refine ⟨?_, ?_⟩
    · show (PyData.canLay0 x && PyData.canLayAll0 r) = true
      rw [g1, h1]
      rfl
    · show max (PyData.depth x) (PyData.depthAll r) ≤ k
      omega
theorem sh_list {k : Nat} {l : List D} (h : ∀ d ∈ l, Sh k d) : Sh (k + 1) (.list l) := by
  obtain ⟨h1, h2⟩ := sh_all h
  exact ⟨h1, Nat.succ_le_succ h2⟩
theorem sh_tup {k : Nat} {l : List D} (h : ∀ d ∈ l, Sh k d) : Sh (k + 1) (.tuple l) := by
  obtain ⟨h1, h2⟩ := sh_all h
  exact ⟨h1, Nat.succ_le_succ h2⟩
theorem sh_map {α : Type} {k : Nat} {f : α → D} {l : List α} (h : ∀ x, Sh k (f x)) : ∀ d ∈ l.map f, Sh k d := fun d hd => by
  obtain ⟨x, _, rfl⟩ := List.mem_map.mp hd
  exact h x
theorem sh_nil {k : Nat} : ∀ d ∈ ([] : List D), Sh k d := fun d hd => nomatch hd
theorem sh_cons {k : Nat} {x : D} {l : List D} (h : Sh k x) (t : ∀ d ∈ l, Sh k d) : ∀ d ∈ x :: l, Sh k d := fun d hd => by
  rcases List.mem_cons.mp hd with rfl | hd
  · exact h
  · exact t d hd
theorem Sh.ok {k : Nat} {d : D} (h : Sh k d) (l : k ≤ 64 := by decide) : SeqAt.shaped d = true := by
  unfold SeqAt.shaped
  rw [Bool.and_eq_true]
  exact ⟨h.1, decide_eq_true (Nat.le_trans h.2 l)⟩
end Vw
namespace Lw_k01
open PySem PySem.Spec PyProof.Rows L2 Vw
def topS (i : Nat) : Stmt := PySem.Challenge.pw_brackenway_k01_rules_of_maps.main.body.getD i (.Pass ⟨0, 0, 0, 0⟩)
def cin (i : Nat) : Stmt := match topS i with
  | .ClassDef _ _ _ (st :: _) _ _ _ _ _ _ _ => st
  | s => s
section
variable {P : Program} {w : World} {K : PySem.W.Frag} {mg : Str → Option Value} {base : Heap}
/-! _law_state(script): {} -/
def nm__law_state : List Str := [(PySem.Str.ofString "script"), (PySem.Str.ofString "seed"), (PySem.Str.ofString "cell")]
theorem sc__law_state : FnScope nm__law_state [(PySem.Str.ofString "script")] (defScope (topS 19)) := ⟨rfl, rfl, rfl, by decide +kernel, rfl, by decide +kernel, by decide +kernel⟩
def sg__law_state : Sig := ⟨[.fro], (.lst (.lst .fro))⟩
def ir__law_state : Ss := (.cons (.set 1 (.k (.int 7))) (.cons (.for (.n 2) (.o (.e (.v 0))) (.cons (.set 1 (.ar .mod (.b1 .int (.e (.ar .add (.ar .mul (.v 1) (.k (.int 31))) (.v 2)))) (.k (.int 1000003)))) .nil)) (.cons (.ret (.lst (.cons (.comp (.b1 .abs (.e (.v 2))) (.n 2) (.o (.e (.v 0))) .no [2]) (.cons (.ar .add (.v 1) (.k (.int 1))) .nil)))) .nil)))
def fx__law_state (Φ : Cf) : List D → Option (D × List D) := evF Φ sg__law_state.ps 3 ir__law_state
theorem ok__law_state {Φ : Cf} {f : Addr} {fd : FuncData} {k : Nat} (F : Fun K (PySem.Str.ofString "_law_state") (PySem.Str.ofString "_law_state") (topS 19) f fd) (hbl : ∀ x, x ∈ blAll → mg x = none) :
    FnOk P w K mg base CX0 (k + 1) f fd [(PySem.Str.ofString "script")] (spI K sg__law_state (fx__law_state Φ)) :=
  fn_sound F sc__law_state sg__law_state [.fro, .fro] ir__law_state (by decide +kernel) hbl [] (by simp) fun X gd hc hx hk hT wx gx fr hp =>
    (ss_cons (k_set gd hp 1 .fro k_i (by decide +kernel))
    (ss_cons (k_for gd hp [] (it_o (w_e (k_v gd 0 (by decide +kernel)))) (fun fr1 hp1 => (k_gn gd hp1 2 (by decide +kernel))) (fun fr1 hp1 => (ss_cons (k_set gd hp1 1 .fro (e_ar .mod (k_b1 gd .int (o_e (e_ar .add (e_ar .mul (k_v gd 1 (by decide +kernel)) k_i) (k_v gd 2 (by decide +kernel)))) (by decide +kernel)) k_i) (by decide +kernel))
    ss_nil)) (by decide +kernel))
    (ss_cons (s_ret (e_lst (t := (.lst .fro)) (.inl rfl) (as_cons (k_comp gd hp [] [(PySem.Str.ofString "cell", 2)] (t := .fro) (.inl rfl) (by decide +kernel) (it_o (w_e (k_v gd 0 (by decide +kernel)))) (fun _ gd2 cv2 fr2 hp2 => (k_gn gd2 hp2 2 (by decide +kernel))) (fun _ gd2 cv2 => pc_no) (fun _ gd2 cv2 fr2 hp2 => (k_b1 gd2 .abs (o_e (k_v gd2 2 (by decide +kernel))) (by decide +kernel)))) (as_cons (e_ar .add (k_v gd 1 (by decide +kernel)) k_i) as_nil rfl) rfl)))
    ss_nil)))

abbrev sg__law_draw : Sig := sgA
theorem sc__law_draw : FnScope nmA ["state", "many"] (defScope (topS 20)) := ⟨rfl, rfl, rfl, by decide +kernel, rfl, by decide +kernel, by decide +kernel⟩
theorem ok__law_draw {f : Addr} {fd : FuncData} {k : Nat} (F : Fun K "_law_draw" "_law_draw" (topS 20) f fd) (hbl : ∀ x, x ∈ blAll → mg x = none) :
    FnOk P w K mg base CX0 (k + 1) f fd ["state", "many"] (spI K sgA fxDrawA) := by
  refine F.ok sc__law_draw (fun vs H Q E h => (spI_len h).trans rfl) (fun cdv A outer s H vs Q E hr h => ?_)
  have ml : mg "len" = none := hbl _ (by decide +kernel)
  have mi : mg "int" = none := hbl _ (by decide +kernel)
  obtain ⟨a, c, ns, s0, m, rfl, m1, m2, hac, hA, hC, fin⟩ := drawA_in h
  refine ⟨_, pss_cons (ps_set (i := 2) sc__law_draw.nd rfl (.inl rfl) (pe_ix ix_list (pv 0) pe_int (fun _ _ => rfl)))
    (pss_cons (ps_while PassesOwn.never (PW.pt (pw_and (pt_cmpR (op_cm .gt) (pe_callB call_len_seq (by rfl) ml PySem.boot_len (pa_cons (pv 2) pa_nil)) pe_int (nomark _)) (pw_and1 (pt_cmpR op_eq (pe_ix ix_list (pv 2) pe_int (fun _ _ => rfl)) pe_int (nomark _)))))
      (pss_one (ps_expr (pe_bm PySem.F.plainAttrs_list PySem.F.slot_list_pop PySem.F.type_list_pop mt_popAt (pv 2) (pa_cons pe_int pa_nil)))))
    (pss_cons (ps_if (pt_cmpR (op_cm .gt) (pe_callB call_len_seq (by rfl) ml PySem.boot_len (pa_cons (pv 2) pa_nil)) pe_int (nomark _))
      (pss_cons (ps_set (i := 3) sc__law_draw.nd rfl (.inl rfl) (pe_ix ix_list (pv 2) pe_int (fun _ _ => rfl)))
      (pss_cons (ps_asg (pe_op (op_ar .fdiv) (pv 3) (pv 1)) (pg_sub (pv 2) pe_int set_list (asg_sub rfl)))
      (pss_one (ps_ret (pe_op (op_ar .mod) (pe_b1 rfl .int (pv 3) rfl (by rfl) mi) (pv 1)))))) pss_nil)
    (pss_cons (ps_set (i := 4) sc__law_draw.nd rfl (.inl rfl) (pe_op (op_ar .mod) (pe_b1 rfl .int (pe_op (op_ar .add) (pe_op (op_ar .mul) (pe_ix ix_list (pv 0) pe_int (fun _ _ => rfl)) pe_int) pe_int) rfl (by rfl) mi) pe_int))
    (pss_cons (ps_asg (pv 4) (pg_sub (pv 0) pe_int set_list (asg_sub rfl)))
    (pss_one (ps_ret (pe_op (op_ar .mod) (pe_b1 rfl .int (pe_op (op_ar .fdiv) (pv 4) pe_int) rfl (by rfl) mi) (pv 1)))))))), ?_⟩
  -- cells = state[0]
  refine ⟨.ref a, rfl, a, _, 0, .ref c, rfl, rfl, SqL.of hA, rfl, ?_⟩
  refine ⟨fun n σ H' => ∃ ns', σ = [some (.ref a), some (.int m), some (.ref c), none, none] ∧ n = ns'.length ∧ H' a = some (.lst [.ref c, .int s0]) ∧ H' c = some (.lst (ns'.map V.int)) ∧ (∀ b o, H b = some o → b ≠ a → b ≠ c → H' b = some o) ∧ (∀ b, H' b = none → H b = none) ∧ drop0 ns' = drop0 ns,
    ⟨ns.length, ns, rfl, rfl, hA, hC, fun b o e _ _ => e, fun b e => e, rfl⟩, ?_⟩
  rintro n σ H1 ⟨ns1, rfl, rfl, h1, h2, h3, h4, h5⟩
  refine ⟨.ref c, rfl, c, _, rfl, .inl (SqL.of h2), _, _, rfl, rfl, _, rfl, ?_⟩
  cases ns1 with
  | nil =>
    refine if_f (by decide) (if_f (by decide) ?_)
    refine ⟨.ref c, rfl, c, _, rfl, .inl (SqL.of h2), _, _, rfl, rfl, _, rfl, ?_⟩
    refine if_f (by decide) ?_
    refine ⟨.ref a, rfl, a, _, 1, .int s0, rfl, rfl, SqL.of h1, rfl, s0, 48271, _, rfl, rfl, ar_mul (by decide) (by decide), _, 12345, _, rfl, rfl, rfl, _, _, _, _, rfl, Same.refl _, .inl (.int _), rfl, fun z hz => ?_⟩
    cases hz
    refine ⟨_, 2147483647, _, rfl, rfl, ar_mod (by decide), _, rfl, .ref a, rfl, a, _, 1, 1, rfl, rfl, h1, rfl, ?_⟩
    refine ⟨_, rfl, _, 64, _, rfl, rfl, ar_div (by decide) (by decide), _, _, _, _, rfl, Same.refl _, .inl (.int _), rfl, fun z hz => ?_⟩
    cases hz
    refine ⟨_, rfl, _, m, _, rfl, rfl, ar_mod m1, fin _ [] (nextS s0) _ upd_same ?_ ?_ ?_ ?_⟩
    · rw [upd_ne (Ne.symm hac)]
      exact h2
    · intro b o e n1 n2
      rw [upd_ne n1]
      exact h3 b o e n1 n2
    · intro b e
      by_cases n1 : b = a
      · rw [n1, upd_same] at e
        cases e
      · rw [upd_ne n1] at e
        exact h4 b e
    · have h5 : [] = drop0 ns := h5
      unfold drawA
      rw [← h5]
      rfl
  | cons v r =>
    refine if_t (by
      show decide (_ < _) = true
      rw [decide_eq_true_eq, List.length_map, List.length_cons]
      omega) ?_
    refine ⟨.ref c, rfl, c, _, 0, .int v, rfl, rfl, SqL.of h2, atI_nat (j := 0) rfl, rfl, _, rfl, ?_⟩
    by_cases hv : v = 0
    · subst hv
      refine if_t (decide_eq_true rfl) ?_
      refine ⟨fun σ H' => ∃ ns', σ = [some (.ref a), some (.int m), some (.ref c), none, none] ∧ r.length = ns'.length ∧ H' a = some (.lst [.ref c, .int s0]) ∧ H' c = some (.lst (ns'.map V.int)) ∧ (∀ b o, H b = some o → b ≠ a → b ≠ c → H' b = some o) ∧ (∀ b, H' b = none → H b = none) ∧ drop0 ns' = drop0 ns,
        fun σ' H' hN => ⟨r.length, by show r.length < r.length + 1; omega, hN⟩, ?_⟩
      refine ⟨.ref c, rfl, tyV_l h2, c, _, 0, 0, .int 0, rfl, rfl, h2, by decide, by decide, ?_, rfl, ?_⟩
      · rw [List.length_map, List.length_cons]
        exact sq0 _
      · refine ⟨r, rfl, rfl, ?_, upd_same, ?_, ?_, h5⟩
        · rw [upd_ne hac]
          exact h1
        · intro b o e n1 n2
          rw [upd_ne n2]
          exact h3 b o e n1 n2
        · intro b e
          by_cases n1 : b = c
          · rw [n1, upd_same] at e
            cases e
          · rw [upd_ne n1] at e
            exact h4 b e
    · refine if_f (by
        intro z
        exact hv (V.int.inj (of_decide_eq_true z))) ?_
      refine ⟨.ref c, rfl, c, _, rfl, .inl (SqL.of h2), _, _, rfl, rfl, _, rfl, ?_⟩
      refine if_t (by
        show decide (_ < _) = true
        rw [decide_eq_true_eq, List.length_map, List.length_cons]
        omega) ?_
      refine ⟨.ref c, rfl, c, _, 0, .int v, rfl, rfl, SqL.of h2, atI_nat (j := 0) rfl, ?_⟩
      refine ⟨_, rfl, _, rfl, v, m, _, rfl, rfl, ar_div m1 m2, .ref c, rfl, c, _, 0, 0, rfl, rfl, h2, ?_, ?_⟩
      · rw [List.length_map, List.length_cons]
        unfold ixN
        simp
      · refine ⟨_, rfl, _, _, _, _, rfl, Same.refl _, .inl (.int _), rfl, fun z hz => ?_⟩
        cases hz
        refine ⟨_, rfl, v, m, _, rfl, rfl, ar_mod m1, fin _ (v / m :: r) s0 _ ?_ upd_same ?_ ?_ ?_⟩
        · rw [upd_ne hac]
          exact h1
        · intro b o e n1 n2
          rw [upd_ne n2]
          exact h3 b o e n1 n2
        · intro b e
          by_cases n1 : b = c
          · rw [n1, upd_same] at e
            cases e
          · rw [upd_ne n1] at e
            exact h4 b e
        · have h6 : drop0 (v :: r) = v :: r := if_neg hv
          rw [h6] at h5
          unfold drawA
          rw [← h5]

/-! _law_map(state, most, slips): {'state': "('lst', ('lst', 'fro'))", 'paths': "('lst', 'fro')", 'found': "('lst', 'fro')"} -/
def nm__law_map : List Str := [(PySem.Str.ofString "state"), (PySem.Str.ofString "most"), (PySem.Str.ofString "slips"), (PySem.Str.ofString "points"), (PySem.Str.ofString "kinds"), (PySem.Str.ofString "signs"), (PySem.Str.ofString "ways"), (PySem.Str.ofString "long"), (PySem.Str.ofString "paths"), (PySem.Str.ofString "point"), (PySem.Str.ofString "way"), (PySem.Str.ofString "found"), (PySem.Str.ofString "k")]
theorem sc__law_map : FnScope nm__law_map [(PySem.Str.ofString "state"), (PySem.Str.ofString "most"), (PySem.Str.ofString "slips")] (defScope (topS 21)) := ⟨rfl, rfl, rfl, by decide +kernel, rfl, by decide +kernel, by decide +kernel⟩
def sg__law_map : Sig := ⟨[(.lst (.lst .fro)), .fro, .fro], .fro⟩
def ir__law_map : Ss := (.cons (.set 3 (.ar .add (.k (.int 1)) (.call (PySem.Str.ofString "_law_draw") (.io 0 (.fr (.v 1) .nil))))) (.cons (.set 4 (.ix (.e (.lst (.cons (.k (.int 1)) (.cons (.k (.int 2)) (.cons (.k (.int 3)) (.cons (.k (.int 10)) .nil)))))) (.call (PySem.Str.ofString "_law_draw") (.io 0 (.fr (.k (.int 4)) .nil))))) (.cons (.set 5 (.b1 .tup (.e (.comp (.call (PySem.Str.ofString "_law_draw") (.io 0 (.fr (.v 4) .nil))) (.n 12) (.r1 (.v 3)) .no [12])))) (.cons (.set 6 (.ix (.e (.lst (.cons (.k (.int 2)) (.cons (.k (.int 3)) (.cons (.k (.int 6)) .nil))))) (.call (PySem.Str.ofString "_law_draw") (.io 0 (.fr (.k (.int 3)) .nil))))) (.cons (.set 7 (.ix (.e (.lst (.cons (.k (.int 1)) (.cons (.k (.int 2)) (.cons (.k (.int 6)) .nil))))) (.call (PySem.Str.ofString "_law_draw") (.io 0 (.fr (.k (.int 3)) .nil))))) (.cons (.set 8 (.lst .nil)) (.cons (.for (.n 9) (.r1 (.v 3)) (.cons (.for (.n 10) (.r1 (.v 6)) (.cons (.ife (.e (.cm .gt (.call (PySem.Str.ofString "_law_draw") (.io 0 (.fr (.k (.int 3)) .nil))) (.k (.int 0)))) (.cons (.app 8 (.tup (.cons (.v 9) (.cons (.v 10) (.cons (.call (PySem.Str.ofString "_law_draw") (.io 0 (.fr (.v 3) .nil))) (.cons (.ar .add (.k (.int 1)) (.call (PySem.Str.ofString "_law_draw") (.io 0 (.fr (.v 7) .nil)))) .nil)))))) .nil) .nil) .nil)) .nil)) (.fz 8 (.cons (.set 11 (.lst .nil)) (.cons (.for (.n 12) (.r1 (.call (PySem.Str.ofString "_law_draw") (.io 0 (.fr (.ar .add (.v 2) (.k (.int 1))) .nil)))) (.cons (.ife (.e (.cm .gt (.b1 .len (.e (.v 8))) (.k (.int 0)))) (.cons (.app 11 (.tup (.cons (.call (PySem.Str.ofString "_law_draw") (.io 0 (.fr (.b1 .len (.e (.v 8))) .nil))) (.cons (.call (PySem.Str.ofString "_law_draw") (.io 0 (.fr (.v 3) .nil))) (.cons (.ar .add (.k (.int 1)) (.call (PySem.Str.ofString "_law_draw") (.io 0 (.fr (.v 7) .nil)))) .nil))))) .nil) .nil) .nil)) (.fz 11 (.cons (.ret (.tup (.cons (.v 5) (.cons (.b1 .tup (.e (.v 8))) (.cons (.b1 .tup (.e (.v 11))) (.cons (.call (PySem.Str.ofString "_law_draw") (.io 0 (.fr (.k (.int 3)) .nil))) .nil)))))) .nil))))))))))))
def fx__law_map (Φ : Cf) : List D → Option (D × List D) := evF Φ sg__law_map.ps 13 ir__law_map
theorem ok__law_map {Φ : Cf} {f : Addr} {fd : FuncData} {k : Nat} (F : Fun K (PySem.Str.ofString "_law_map") (PySem.Str.ofString "_law_map") (topS 21) f fd) (hbl : ∀ x, x ∈ blAll → mg x = none) (c__law_draw : Callee P w K mg base Φ k (PySem.Str.ofString "_law_draw") sg__law_draw) :
    FnOk P w K mg base CX0 (k + 1) f fd [(PySem.Str.ofString "state"), (PySem.Str.ofString "most"), (PySem.Str.ofString "slips")] (spI K sg__law_map (fx__law_map Φ)) :=
  fn_sound F sc__law_map sg__law_map [.fro, .fro, .fro, .fro, .fro, (.lst .fro), .fro, .fro, (.lst .fro), .fro] ir__law_map (by decide +kernel) hbl [] (by simp) fun X gd hc hx hk hT wx gx fr hp =>
    (ss_cons (k_set gd hp 3 .fro (e_ar .add k_i (k_call gd (hc _ _ c__law_draw) (k_io gd 0 (by decide +kernel) (a_fr (k_v gd 1 (by decide +kernel)) a_nil rfl)) (by decide +kernel))) (by decide +kernel))
    (ss_cons (k_set gd hp 4 .fro (e_ix (o_e (e_lst (t := .fro) (.inr ⟨rfl, rfl⟩) (as_cons k_i (as_cons k_i (as_cons k_i (as_cons k_i as_nil rfl) rfl) rfl) rfl))) (k_call gd (hc _ _ c__law_draw) (k_io gd 0 (by decide +kernel) (a_fr k_i a_nil rfl)) (by decide +kernel)) rfl) (by decide +kernel))
    (ss_cons (k_set gd hp 5 .fro (k_b1 gd .tup (o_e (k_comp gd hp [0] [(PySem.Str.ofString "k", 12)] (t := .fro) (.inr ⟨rfl, rfl⟩) (by decide +kernel) (k_r1 gd (k_v gd 3 (by decide +kernel)) (by decide +kernel)) (fun _ gd1 cv1 fr1 hp1 => (k_gn gd1 hp1 12 (by decide +kernel))) (fun _ gd1 cv1 => pc_no) (fun _ gd1 cv1 fr1 hp1 => (k_call gd1 (cv1 _ _ (hc _ _ c__law_draw)) (k_io gd1 0 (by decide +kernel) (a_fr (k_v gd1 4 (by decide +kernel)) a_nil rfl)) (by decide +kernel))))) (by decide +kernel)) (by decide +kernel))
    (ss_cons (k_set gd hp 6 .fro (e_ix (o_e (e_lst (t := .fro) (.inr ⟨rfl, rfl⟩) (as_cons k_i (as_cons k_i (as_cons k_i as_nil rfl) rfl) rfl))) (k_call gd (hc _ _ c__law_draw) (k_io gd 0 (by decide +kernel) (a_fr k_i a_nil rfl)) (by decide +kernel)) rfl) (by decide +kernel))
    (ss_cons (k_set gd hp 7 .fro (e_ix (o_e (e_lst (t := .fro) (.inr ⟨rfl, rfl⟩) (as_cons k_i (as_cons k_i (as_cons k_i as_nil rfl) rfl) rfl))) (k_call gd (hc _ _ c__law_draw) (k_io gd 0 (by decide +kernel) (a_fr k_i a_nil rfl)) (by decide +kernel)) rfl) (by decide +kernel))
    (ss_cons (k_set gd hp 8 (.lst .fro) (e_lst (t := .fro) (.inl rfl) as_nil) (by decide +kernel))
    (ss_cons (k_for gd hp [0] (k_r1 gd (k_v gd 3 (by decide +kernel)) (by decide +kernel)) (fun fr2 hp2 => (k_gn gd hp2 9 (by decide +kernel))) (fun fr2 hp2 => (ss_cons (k_for gd hp2 [0] (k_r1 gd (k_v gd 6 (by decide +kernel)) (by decide +kernel)) (fun fr3 hp3 => (k_gn gd hp3 10 (by decide +kernel))) (fun fr3 hp3 => (ss_cons (s_ife (k_cmT .gt (k_call gd (hc _ _ c__law_draw) (k_io gd 0 (by decide +kernel) (a_fr k_i a_nil rfl)) (by decide +kernel)) k_i) (ss_cons (k_app gd 8 (e_tup (as_cons (k_v gd 9 (by decide +kernel)) (as_cons (k_v gd 10 (by decide +kernel)) (as_cons (k_call gd (hc _ _ c__law_draw) (k_io gd 0 (by decide +kernel) (a_fr (k_v gd 3 (by decide +kernel)) a_nil rfl)) (by decide +kernel)) (as_cons (e_ar .add k_i (k_call gd (hc _ _ c__law_draw) (k_io gd 0 (by decide +kernel) (a_fr (k_v gd 7 (by decide +kernel)) a_nil rfl)) (by decide +kernel))) as_nil rfl) rfl) rfl) rfl)) (by decide +kernel))
    ss_nil) ss_nil)
    ss_nil)) (by decide +kernel))
    ss_nil)) (by decide +kernel))
    (ss_fz 8 (ss_cons (k_set gd hp 11 (.lst .fro) (e_lst (t := .fro) (.inl rfl) as_nil) (by decide +kernel))
    (ss_cons (k_for gd hp [0] (k_r1 gd (k_call gd (hc _ _ c__law_draw) (k_io gd 0 (by decide +kernel) (a_fr (e_ar .add (k_v gd 2 (by decide +kernel)) k_i) a_nil rfl)) (by decide +kernel)) (by decide +kernel)) (fun fr4 hp4 => (k_gn gd hp4 12 (by decide +kernel))) (fun fr4 hp4 => (ss_cons (s_ife (k_cmT .gt (k_b1 gd .len (o_e (k_v gd 8 (by decide +kernel))) (by decide +kernel)) k_i) (ss_cons (k_app gd 11 (e_tup (as_cons (k_call gd (hc _ _ c__law_draw) (k_io gd 0 (by decide +kernel) (a_fr (k_b1 gd .len (o_e (k_v gd 8 (by decide +kernel))) (by decide +kernel)) a_nil rfl)) (by decide +kernel)) (as_cons (k_call gd (hc _ _ c__law_draw) (k_io gd 0 (by decide +kernel) (a_fr (k_v gd 3 (by decide +kernel)) a_nil rfl)) (by decide +kernel)) (as_cons (e_ar .add k_i (k_call gd (hc _ _ c__law_draw) (k_io gd 0 (by decide +kernel) (a_fr (k_v gd 7 (by decide +kernel)) a_nil rfl)) (by decide +kernel))) as_nil rfl) rfl) rfl)) (by decide +kernel))
    ss_nil) ss_nil)
    ss_nil)) (by decide +kernel))
    (ss_fz 11 (ss_cons (s_ret (e_tup (as_cons (k_v gd 5 (by decide +kernel)) (as_cons (k_b1 gd .tup (o_e (k_v gd 8 (by decide +kernel))) (by decide +kernel)) (as_cons (k_b1 gd .tup (o_e (k_v gd 11 (by decide +kernel))) (by decide +kernel)) (as_cons (k_call gd (hc _ _ c__law_draw) (k_io gd 0 (by decide +kernel) (a_fr k_i a_nil rfl)) (by decide +kernel)) as_nil rfl) rfl) rfl) rfl)))
    ss_nil))))))))))))

/-! require(holds, rule, index): {} -/
def nm_require : List Str := [(PySem.Str.ofString "holds"), (PySem.Str.ofString "rule"), (PySem.Str.ofString "index")]
theorem sc_require : FnScope nm_require [(PySem.Str.ofString "holds"), (PySem.Str.ofString "rule"), (PySem.Str.ofString "index")] (defScope (topS 12)) := ⟨rfl, rfl, rfl, by decide +kernel, rfl, by decide +kernel, by decide +kernel⟩
def sg_require : Sig := ⟨[.fro, .fro, .fro], .fro⟩
def ir_require : Ss := (.cons (.ife (.no (.e (.v 0))) (.cons (.rse (PySem.Str.ofString "MapError") [(PySem.Str.ofString "rule"), (PySem.Str.ofString "index")] (.cons (.v 1) (.cons (.v 2) .nil))) .nil) .nil) .nil)
def fx_require (Φ : Cf) : List D → Option Xr := evX Φ sg_require.ps 3 ir_require
theorem ok_require {Φ : Cf} {f : Addr} {fd : FuncData} {k : Nat} (F : Fun K (PySem.Str.ofString "require") (PySem.Str.ofString "require") (topS 12) f fd) (hbl : ∀ x, x ∈ blAll → mg x = none) (q_MapError : KlsAt P K mg (PySem.Str.ofString "MapError")) (hk2 : 2 ≤ k) :
    FnOk P w K mg base (L2.CX P w) (k + 1) f fd [(PySem.Str.ofString "holds"), (PySem.Str.ofString "rule"), (PySem.Str.ofString "index")] (spX mg K sg_require (fx_require Φ)) :=
  fn_soundX F sc_require sg_require [] ir_require (by decide) (by decide +kernel) hbl [] (by simp) fun X gd hc hx hk hT wx gx fr hp =>
    (ss_cons (s_ife (t_no (t_e (k_v gd 0 (by decide +kernel)) rfl)) (ss_cons (s_rse gx gd (hk _ q_MapError hk2) (as_cons (k_v gd 1 (by decide +kernel)) (as_cons (k_v gd 2 (by decide +kernel)) as_nil rfl) rfl) (by decide +kernel))
    ss_nil) ss_nil)
    ss_nil)

/-! check_paths(paths, points): {'seen': "('lst', 'fro')"} -/
def nm_check_paths : List Str := [(PySem.Str.ofString "paths"), (PySem.Str.ofString "points"), (PySem.Str.ofString "seen"), (PySem.Str.ofString "index"), (PySem.Str.ofString "start"), (PySem.Str.ofString "way"), (PySem.Str.ofString "goal"), (PySem.Str.ofString "ticks")]
theorem sc_check_paths : FnScope nm_check_paths [(PySem.Str.ofString "paths"), (PySem.Str.ofString "points")] (defScope (topS 13)) := ⟨rfl, rfl, rfl, by decide +kernel, rfl, by decide +kernel, by decide +kernel⟩
def sg_check_paths : Sig := ⟨[.fro, .fro], .fro⟩
def ir_check_paths : Ss := (.cons (.cx (PySem.Str.ofString "require") (.cons (.cm .le (.b1 .len (.e (.v 0))) (.gl (PySem.Str.ofString "MOST_PATHS") (.int 72))) (.cons (.k (.str (PySem.Str.ofString "paths"))) (.cons (.b1 .len (.e (.v 0))) .nil)))) (.cons (.set 2 (.lst .nil)) (.cons (.for (.t (.cons (.n 3) (.cons (.t (.cons (.n 4) (.cons (.n 5) (.cons (.n 6) (.cons (.n 7) .nil))))) .nil))) (.en (.e (.v 0))) (.cons (.cx (PySem.Str.ofString "require") (.cons (.ch .le .lt (.k (.int 0)) (.v 4) (.v 1)) (.cons (.k (.str (PySem.Str.ofString "start"))) (.cons (.v 3) .nil)))) (.cons (.cx (PySem.Str.ofString "require") (.cons (.ch .le .lt (.k (.int 0)) (.v 5) (.gl (PySem.Str.ofString "WAYS") (.int 6))) (.cons (.k (.str (PySem.Str.ofString "way"))) (.cons (.v 3) .nil)))) (.cons (.cx (PySem.Str.ofString "require") (.cons (.ch .le .lt (.k (.int 0)) (.v 6) (.v 1)) (.cons (.k (.str (PySem.Str.ofString "goal"))) (.cons (.v 3) .nil)))) (.cons (.cx (PySem.Str.ofString "require") (.cons (.ch .le .le (.k (.int 1)) (.v 7) (.gl (PySem.Str.ofString "MOST_TICKS") (.int 6))) (.cons (.k (.str (PySem.Str.ofString "ticks"))) (.cons (.v 3) .nil)))) (.cons (.cx (PySem.Str.ofString "require") (.cons (.ins true (.tup (.cons (.v 4) (.cons (.v 5) .nil))) 2) (.cons (.k (.str (PySem.Str.ofString "twice"))) (.cons (.v 3) .nil)))) (.cons (.app 2 (.tup (.cons (.v 4) (.cons (.v 5) .nil)))) .nil))))))) .nil)))
def fx_check_paths (Φ : Cf) : List D → Option Xr := evX Φ sg_check_paths.ps 8 ir_check_paths
theorem ok_check_paths {Φ : Cf} {f : Addr} {fd : FuncData} {k : Nat} (F : Fun K (PySem.Str.ofString "check_paths") (PySem.Str.ofString "check_paths") (topS 13) f fd) (hbl : ∀ x, x ∈ blAll → mg x = none) (hgl : ∀ p ∈ ([(PySem.Str.ofString "MOST_PATHS", 72), (PySem.Str.ofString "WAYS", 6), (PySem.Str.ofString "MOST_TICKS", 6)] : List (Str × Int)), ∃ t, mg p.1 = some (.int p.2 t)) (c_require : CalleeX P w K mg base Φ k (PySem.Str.ofString "require") sg_require) :
    FnOk P w K mg base (L2.CX P w) (k + 1) f fd [(PySem.Str.ofString "paths"), (PySem.Str.ofString "points")] (spX mg K sg_check_paths (fx_check_paths Φ)) :=
  fn_soundX F sc_check_paths sg_check_paths [(.lst .fro), .fro, .fro, .fro, .fro, .fro] ir_check_paths (by decide) (by decide +kernel) hbl [(PySem.Str.ofString "MOST_PATHS", 72), (PySem.Str.ofString "WAYS", 6), (PySem.Str.ofString "MOST_TICKS", 6)] hgl fun X gd hc hx hk hT wx gx fr hp =>
    (ss_cons (s_cx (e_cx gx gd (hx _ _ c_require) (as_cons (k_cm .le (k_b1 gd .len (o_e (k_v gd 0 (by decide +kernel))) (by decide +kernel)) (k_gi gd 72 (by decide +kernel))) (as_cons k_s (as_cons (k_b1 gd .len (o_e (k_v gd 0 (by decide +kernel))) (by decide +kernel)) as_nil rfl) rfl) rfl) (by decide +kernel)))
    (ss_cons (k_set gd hp 2 (.lst .fro) (e_lst (t := .fro) (.inl rfl) as_nil) (by decide +kernel))
    (ss_cons (k_for gd hp [] (k_en gd (w_e (k_v gd 0 (by decide +kernel))) (by decide +kernel)) (fun fr1 hp1 => (k_gt gd (gs_cons (k_gn gd hp1 3 (by decide +kernel)) (gs_cons (k_gt gd (gs_cons (k_gn gd hp1 4 (by decide +kernel)) (gs_cons (k_gn gd hp1 5 (by decide +kernel)) (gs_cons (k_gn gd hp1 6 (by decide +kernel)) (gs_cons (k_gn gd hp1 7 (by decide +kernel)) gs_nil rfl) rfl) rfl) rfl) (by decide +kernel)) gs_nil rfl) rfl) (by decide +kernel))) (fun fr1 hp1 => (ss_cons (s_cx (e_cx gx gd (hx _ _ c_require) (as_cons (k_ch .le .lt k_i (k_v gd 4 (by decide +kernel)) (k_v gd 1 (by decide +kernel))) (as_cons k_s (as_cons (k_v gd 3 (by decide +kernel)) as_nil rfl) rfl) rfl) (by decide +kernel)))
    (ss_cons (s_cx (e_cx gx gd (hx _ _ c_require) (as_cons (k_ch .le .lt k_i (k_v gd 5 (by decide +kernel)) (k_gi gd 6 (by decide +kernel))) (as_cons k_s (as_cons (k_v gd 3 (by decide +kernel)) as_nil rfl) rfl) rfl) (by decide +kernel)))
    (ss_cons (s_cx (e_cx gx gd (hx _ _ c_require) (as_cons (k_ch .le .lt k_i (k_v gd 6 (by decide +kernel)) (k_v gd 1 (by decide +kernel))) (as_cons k_s (as_cons (k_v gd 3 (by decide +kernel)) as_nil rfl) rfl) rfl) (by decide +kernel)))
    (ss_cons (s_cx (e_cx gx gd (hx _ _ c_require) (as_cons (k_ch .le .le k_i (k_v gd 7 (by decide +kernel)) (k_gi gd 6 (by decide +kernel))) (as_cons k_s (as_cons (k_v gd 3 (by decide +kernel)) as_nil rfl) rfl) rfl) (by decide +kernel)))
    (ss_cons (s_cx (e_cx gx gd (hx _ _ c_require) (as_cons (k_ins gd true 2 (e_tup (as_cons (k_v gd 4 (by decide +kernel)) (as_cons (k_v gd 5 (by decide +kernel)) as_nil rfl) rfl)) (by decide +kernel)) (as_cons k_s (as_cons (k_v gd 3 (by decide +kernel)) as_nil rfl) rfl) rfl) (by decide +kernel)))
    (ss_cons (k_app gd 2 (e_tup (as_cons (k_v gd 4 (by decide +kernel)) (as_cons (k_v gd 5 (by decide +kernel)) as_nil rfl) rfl)) (by decide +kernel))
    ss_nil))))))) (by decide +kernel))
    ss_nil)))

/-! check_slips(slips, paths, points): {} -/
def nm_check_slips : List Str := [(PySem.Str.ofString "slips"), (PySem.Str.ofString "paths"), (PySem.Str.ofString "points"), (PySem.Str.ofString "index"), (PySem.Str.ofString "path"), (PySem.Str.ofString "goal"), (PySem.Str.ofString "ticks")]
theorem sc_check_slips : FnScope nm_check_slips [(PySem.Str.ofString "slips"), (PySem.Str.ofString "paths"), (PySem.Str.ofString "points")] (defScope (topS 14)) := ⟨rfl, rfl, rfl, by decide +kernel, rfl, by decide +kernel, by decide +kernel⟩
def sg_check_slips : Sig := ⟨[.fro, .fro, .fro], .fro⟩
def ir_check_slips : Ss := (.cons (.cx (PySem.Str.ofString "require") (.cons (.cm .le (.b1 .len (.e (.v 0))) (.gl (PySem.Str.ofString "MOST_SLIPS") (.int 24))) (.cons (.k (.str (PySem.Str.ofString "slips"))) (.cons (.b1 .len (.e (.v 0))) .nil)))) (.cons (.for (.t (.cons (.n 3) (.cons (.t (.cons (.n 4) (.cons (.n 5) (.cons (.n 6) .nil)))) .nil))) (.en (.e (.v 0))) (.cons (.cx (PySem.Str.ofString "require") (.cons (.ch .le .lt (.k (.int 0)) (.v 4) (.b1 .len (.e (.v 1)))) (.cons (.k (.str (PySem.Str.ofString "path"))) (.cons (.v 3) .nil)))) (.cons (.cx (PySem.Str.ofString "require") (.cons (.ch .le .lt (.k (.int 0)) (.v 5) (.v 2)) (.cons (.k (.str (PySem.Str.ofString "goal"))) (.cons (.v 3) .nil)))) (.cons (.cx (PySem.Str.ofString "require") (.cons (.ch .le .le (.k (.int 1)) (.v 6) (.gl (PySem.Str.ofString "MOST_TICKS") (.int 6))) (.cons (.k (.str (PySem.Str.ofString "ticks"))) (.cons (.v 3) .nil)))) .nil)))) .nil))
def fx_check_slips (Φ : Cf) : List D → Option Xr := evX Φ sg_check_slips.ps 7 ir_check_slips
theorem ok_check_slips {Φ : Cf} {f : Addr} {fd : FuncData} {k : Nat} (F : Fun K (PySem.Str.ofString "check_slips") (PySem.Str.ofString "check_slips") (topS 14) f fd) (hbl : ∀ x, x ∈ blAll → mg x = none) (hgl : ∀ p ∈ ([(PySem.Str.ofString "MOST_SLIPS", 24), (PySem.Str.ofString "MOST_TICKS", 6)] : List (Str × Int)), ∃ t, mg p.1 = some (.int p.2 t)) (c_require : CalleeX P w K mg base Φ k (PySem.Str.ofString "require") sg_require) :
    FnOk P w K mg base (L2.CX P w) (k + 1) f fd [(PySem.Str.ofString "slips"), (PySem.Str.ofString "paths"), (PySem.Str.ofString "points")] (spX mg K sg_check_slips (fx_check_slips Φ)) :=
  fn_soundX F sc_check_slips sg_check_slips [.fro, .fro, .fro, .fro] ir_check_slips (by decide) (by decide +kernel) hbl [(PySem.Str.ofString "MOST_SLIPS", 24), (PySem.Str.ofString "MOST_TICKS", 6)] hgl fun X gd hc hx hk hT wx gx fr hp =>
    (ss_cons (s_cx (e_cx gx gd (hx _ _ c_require) (as_cons (k_cm .le (k_b1 gd .len (o_e (k_v gd 0 (by decide +kernel))) (by decide +kernel)) (k_gi gd 24 (by decide +kernel))) (as_cons k_s (as_cons (k_b1 gd .len (o_e (k_v gd 0 (by decide +kernel))) (by decide +kernel)) as_nil rfl) rfl) rfl) (by decide +kernel)))
    (ss_cons (k_for gd hp [] (k_en gd (w_e (k_v gd 0 (by decide +kernel))) (by decide +kernel)) (fun fr1 hp1 => (k_gt gd (gs_cons (k_gn gd hp1 3 (by decide +kernel)) (gs_cons (k_gt gd (gs_cons (k_gn gd hp1 4 (by decide +kernel)) (gs_cons (k_gn gd hp1 5 (by decide +kernel)) (gs_cons (k_gn gd hp1 6 (by decide +kernel)) gs_nil rfl) rfl) rfl) (by decide +kernel)) gs_nil rfl) rfl) (by decide +kernel))) (fun fr1 hp1 => (ss_cons (s_cx (e_cx gx gd (hx _ _ c_require) (as_cons (k_ch .le .lt k_i (k_v gd 4 (by decide +kernel)) (k_b1 gd .len (o_e (k_v gd 1 (by decide +kernel))) (by decide +kernel))) (as_cons k_s (as_cons (k_v gd 3 (by decide +kernel)) as_nil rfl) rfl) rfl) (by decide +kernel)))
    (ss_cons (s_cx (e_cx gx gd (hx _ _ c_require) (as_cons (k_ch .le .lt k_i (k_v gd 5 (by decide +kernel)) (k_v gd 2 (by decide +kernel))) (as_cons k_s (as_cons (k_v gd 3 (by decide +kernel)) as_nil rfl) rfl) rfl) (by decide +kernel)))
    (ss_cons (s_cx (e_cx gx gd (hx _ _ c_require) (as_cons (k_ch .le .le k_i (k_v gd 6 (by decide +kernel)) (k_gi gd 6 (by decide +kernel))) (as_cons k_s (as_cons (k_v gd 3 (by decide +kernel)) as_nil rfl) rfl) rfl) (by decide +kernel)))
    ss_nil)))) (by decide +kernel))
    ss_nil))

/-! check_map(land): {} -/
def nm_check_map : List Str := [(PySem.Str.ofString "land"), (PySem.Str.ofString "signs"), (PySem.Str.ofString "paths"), (PySem.Str.ofString "slips"), (PySem.Str.ofString "troubles"), (PySem.Str.ofString "index"), (PySem.Str.ofString "sign")]
theorem sc_check_map : FnScope nm_check_map [(PySem.Str.ofString "land")] (defScope (topS 15)) := ⟨rfl, rfl, rfl, by decide +kernel, rfl, by decide +kernel, by decide +kernel⟩
def sg_check_map : Sig := ⟨[.fro], .fro⟩
def ir_check_map : Ss := (.cons (.unp (.t (.cons (.n 1) (.cons (.n 2) (.cons (.n 3) (.cons (.n 4) .nil))))) (.v 0)) (.cons (.cx (PySem.Str.ofString "require") (.cons (.ch .le .le (.k (.int 1)) (.b1 .len (.e (.v 1))) (.gl (PySem.Str.ofString "MOST_POINTS") (.int 12))) (.cons (.k (.str (PySem.Str.ofString "points"))) (.cons (.b1 .len (.e (.v 1))) .nil)))) (.cons (.for (.t (.cons (.n 5) (.cons (.n 6) .nil))) (.en (.e (.v 1))) (.cons (.cx (PySem.Str.ofString "require") (.cons (.ch .le .le (.k (.int 0)) (.v 6) (.gl (PySem.Str.ofString "MOST_SIGN") (.int 9))) (.cons (.k (.str (PySem.Str.ofString "sign"))) (.cons (.v 5) .nil)))) .nil)) (.cons (.cx (PySem.Str.ofString "check_paths") (.cons (.v 2) (.cons (.b1 .len (.e (.v 1))) .nil))) (.cons (.cx (PySem.Str.ofString "check_slips") (.cons (.v 3) (.cons (.v 2) (.cons (.b1 .len (.e (.v 1))) .nil)))) (.cons (.cx (PySem.Str.ofString "require") (.cons (.ch .le .le (.k (.int 0)) (.v 4) (.gl (PySem.Str.ofString "MOST_TROUBLES") (.int 4))) (.cons (.k (.str (PySem.Str.ofString "troubles"))) (.cons (.v 4) .nil)))) .nil))))))
def fx_check_map (Φ : Cf) : List D → Option Xr := evX Φ sg_check_map.ps 7 ir_check_map
theorem ok_check_map {Φ : Cf} {f : Addr} {fd : FuncData} {k : Nat} (F : Fun K (PySem.Str.ofString "check_map") (PySem.Str.ofString "check_map") (topS 15) f fd) (hbl : ∀ x, x ∈ blAll → mg x = none) (hgl : ∀ p ∈ ([(PySem.Str.ofString "MOST_POINTS", 12), (PySem.Str.ofString "MOST_SIGN", 9), (PySem.Str.ofString "MOST_TROUBLES", 4)] : List (Str × Int)), ∃ t, mg p.1 = some (.int p.2 t)) (c_require : CalleeX P w K mg base Φ k (PySem.Str.ofString "require") sg_require) (c_check_paths : CalleeX P w K mg base Φ k (PySem.Str.ofString "check_paths") sg_check_paths) (c_check_slips : CalleeX P w K mg base Φ k (PySem.Str.ofString "check_slips") sg_check_slips) :
    FnOk P w K mg base (L2.CX P w) (k + 1) f fd [(PySem.Str.ofString "land")] (spX mg K sg_check_map (fx_check_map Φ)) :=
  fn_soundX F sc_check_map sg_check_map [.fro, .fro, .fro, .fro, .fro, .fro] ir_check_map (by decide) (by decide +kernel) hbl [(PySem.Str.ofString "MOST_POINTS", 12), (PySem.Str.ofString "MOST_SIGN", 9), (PySem.Str.ofString "MOST_TROUBLES", 4)] hgl fun X gd hc hx hk hT wx gx fr hp =>
    (ss_cons (k_unp (k_gt gd (gs_cons (k_gn gd hp 1 (by decide +kernel)) (gs_cons (k_gn gd hp 2 (by decide +kernel)) (gs_cons (k_gn gd hp 3 (by decide +kernel)) (gs_cons (k_gn gd hp 4 (by decide +kernel)) gs_nil rfl) rfl) rfl) rfl) (by decide +kernel)) (k_v gd 0 (by decide +kernel)) (by decide +kernel))
    (ss_cons (s_cx (e_cx gx gd (hx _ _ c_require) (as_cons (k_ch .le .le k_i (k_b1 gd .len (o_e (k_v gd 1 (by decide +kernel))) (by decide +kernel)) (k_gi gd 12 (by decide +kernel))) (as_cons k_s (as_cons (k_b1 gd .len (o_e (k_v gd 1 (by decide +kernel))) (by decide +kernel)) as_nil rfl) rfl) rfl) (by decide +kernel)))
    (ss_cons (k_for gd hp [] (k_en gd (w_e (k_v gd 1 (by decide +kernel))) (by decide +kernel)) (fun fr1 hp1 => (k_gt gd (gs_cons (k_gn gd hp1 5 (by decide +kernel)) (gs_cons (k_gn gd hp1 6 (by decide +kernel)) gs_nil rfl) rfl) (by decide +kernel))) (fun fr1 hp1 => (ss_cons (s_cx (e_cx gx gd (hx _ _ c_require) (as_cons (k_ch .le .le k_i (k_v gd 6 (by decide +kernel)) (k_gi gd 9 (by decide +kernel))) (as_cons k_s (as_cons (k_v gd 5 (by decide +kernel)) as_nil rfl) rfl) rfl) (by decide +kernel)))
    ss_nil)) (by decide +kernel))
    (ss_cons (s_cx (e_cx gx gd (hx _ _ c_check_paths) (as_cons (k_v gd 2 (by decide +kernel)) (as_cons (k_b1 gd .len (o_e (k_v gd 1 (by decide +kernel))) (by decide +kernel)) as_nil rfl) rfl) (by decide +kernel)))
    (ss_cons (s_cx (e_cx gx gd (hx _ _ c_check_slips) (as_cons (k_v gd 3 (by decide +kernel)) (as_cons (k_v gd 2 (by decide +kernel)) (as_cons (k_b1 gd .len (o_e (k_v gd 1 (by decide +kernel))) (by decide +kernel)) as_nil rfl) rfl) rfl) (by decide +kernel)))
    (ss_cons (s_cx (e_cx gx gd (hx _ _ c_require) (as_cons (k_ch .le .le k_i (k_v gd 4 (by decide +kernel)) (k_gi gd 4 (by decide +kernel))) (as_cons k_s (as_cons (k_v gd 4 (by decide +kernel)) as_nil rfl) rfl) rfl) (by decide +kernel)))
    ss_nil))))))

/-! _law_told(land): {} -/
def nm__law_told : List Str := [(PySem.Str.ofString "land"), (PySem.Str.ofString "given"), (PySem.Str.ofString "e")]
theorem sc__law_told : FnScope nm__law_told [(PySem.Str.ofString "land")] (defScope (topS 24)) := ⟨rfl, rfl, rfl, by decide +kernel, rfl, by decide +kernel, by decide +kernel⟩
def sg__law_told : Sig := ⟨[.fro], .fro⟩
def ir__law_told : Ss := (.cons (.tr (.cons (.sx 1 (PySem.Str.ofString "check_map") (.cons (.v 0) .nil)) .nil) (PySem.Str.ofString "MapError") 2 (.ifr (.orr (.no (.ise (PySem.Str.ofString "MapError") true)) (.orr (.ise (PySem.Str.ofString "MapError") false) (.orr (.no (.isf .s (PySem.Str.ofString "rule"))) (.no (.isf .i (PySem.Str.ofString "index")))))) (.tup (.cons (.k (.str (PySem.Str.ofString "wrong"))) (.cons (.k (.int 0)) .nil))) (.ret (.tup (.cons (.xf (PySem.Str.ofString "rule")) (.cons (.xf (PySem.Str.ofString "index")) .nil)))))) (.cons (.ret (.ife (.e (.isn false (.v 1))) (.tup .nil) (.tup (.cons (.k (.str (PySem.Str.ofString "wrong"))) (.cons (.k (.int 0)) .nil))))) .nil))
def fx__law_told (Φ : Cf) : List D → Option (D × List D) := evF Φ sg__law_told.ps 3 ir__law_told
theorem ok__law_told {Φ : Cf} {f : Addr} {fd : FuncData} {k : Nat} (F : Fun K (PySem.Str.ofString "_law_told") (PySem.Str.ofString "_law_told") (topS 24) f fd) (hbl : ∀ x, x ∈ blAll → mg x = none) (q_MapError : KlsAt P K mg (PySem.Str.ofString "MapError")) (hk2 : 2 ≤ k) (p_MapError_WayError : IsP (PySem.Str.ofString "MapError") (PySem.Str.ofString "WayError") true K mg) (p_MapError_LimitError : IsP (PySem.Str.ofString "MapError") (PySem.Str.ofString "LimitError") false K mg) (c_check_map : CalleeX P w K mg base Φ k (PySem.Str.ofString "check_map") sg_check_map) :
    FnOk P w K mg base CX0 (k + 1) f fd [(PySem.Str.ofString "land")] (spI K sg__law_told (fx__law_told Φ)) :=
  fn_sound F sc__law_told sg__law_told [.fro, .fro] ir__law_told (by decide +kernel) hbl [] (by simp) fun X gd hc hx hk hT wx gx fr hp =>
    (ss_cons (s_tr (i := 2) gx gd hp (hk _ q_MapError hk2) (by decide +kernel) (fun _ gd1 cv1 xv1 kv1 _ gx1 => (ss_cons (s_sx (t := .fro) gd1 hp (by decide +kernel) (e_cx gx1 gd1 (xv1 _ _ (hx _ _ c_check_map)) (as_cons (k_v gd1 0 (by decide +kernel)) as_nil rfl) (by decide +kernel)))
    ss_nil)) (fun _ kc _ _ _ _ hz hf => (hb_ifr (PW.pt (ht_or (ht_no (ht_e (k_hise gd kc hz hf (hT _ p_MapError_WayError) (by decide +kernel)) rfl)) (ht_or (ht_e (k_hise gd kc hz hf (hT _ p_MapError_LimitError) (by decide +kernel)) rfl) (ht_or (ht_no (ht_e (h_isf (k := .s) gd (k_xf1 gd kc hz hf (by decide +kernel)) (by decide +kernel)) rfl)) (pw_or1 (ht_no (ht_e (h_isf (k := .i) gd (k_xf2 gd kc hz hf (by decide +kernel)) (by decide +kernel)) rfl))))))) (h_tup (hs_cons k_hs (hs_cons k_hi hs_nil rfl) rfl)) (hb_ret (h_tup (hs_cons (k_xf1 gd kc hz hf (by decide +kernel)) (hs_cons (k_xf2 gd kc hz hf (by decide +kernel)) hs_nil rfl) rfl))))))
    (ss_cons (s_ret (e_ife (k_isT false (k_v gd 1 (by decide +kernel))) (e_tup as_nil) (e_tup (as_cons k_s (as_cons k_i as_nil rfl) rfl))))
    ss_nil))

/-! _law_swap(row, at, one): {} -/
def nm__law_swap : List Str := [(PySem.Str.ofString "row"), (PySem.Str.ofString "at"), (PySem.Str.ofString "one")]
theorem sc__law_swap : FnScope nm__law_swap [(PySem.Str.ofString "row"), (PySem.Str.ofString "at"), (PySem.Str.ofString "one")] (defScope (topS 25)) := ⟨rfl, rfl, rfl, by decide +kernel, rfl, by decide +kernel, by decide +kernel⟩
def sg__law_swap : Sig := ⟨[.fro, .fro, .fro], .fro⟩
def ir__law_swap : Ss := (.cons (.ret (.tcat (.tcat (.slc (.e (.v 0)) .no (.so (.v 1))) (.tup (.cons (.v 2) .nil))) (.slc (.e (.v 0)) (.so (.ar .add (.v 1) (.k (.int 1)))) .no))) .nil)
def fx__law_swap (Φ : Cf) : List D → Option (D × List D) := evF Φ sg__law_swap.ps 3 ir__law_swap
theorem ok__law_swap {Φ : Cf} {f : Addr} {fd : FuncData} {k : Nat} (F : Fun K (PySem.Str.ofString "_law_swap") (PySem.Str.ofString "_law_swap") (topS 25) f fd) (hbl : ∀ x, x ∈ blAll → mg x = none) :
    FnOk P w K mg base CX0 (k + 1) f fd [(PySem.Str.ofString "row"), (PySem.Str.ofString "at"), (PySem.Str.ofString "one")] (spI K sg__law_swap (fx__law_swap Φ)) :=
  fn_sound F sc__law_swap sg__law_swap [] ir__law_swap (by decide +kernel) hbl [] (by simp) fun X gd hc hx hk hT wx gx fr hp =>
    (ss_cons (s_ret (e_tcat (e_tcat (e_slc (w := .fro) (.inr ⟨rfl, rfl⟩) (o_e (k_v gd 0 (by decide +kernel))) oe_no (oe_so (k_v gd 1 (by decide +kernel))) (.inl rfl)) (e_tup (as_cons (k_v gd 2 (by decide +kernel)) as_nil rfl))) (e_slc (w := .fro) (.inr ⟨rfl, rfl⟩) (o_e (k_v gd 0 (by decide +kernel))) (oe_so (e_ar .add (k_v gd 1 (by decide +kernel)) k_i)) oe_no (.inl rfl))))
    ss_nil)

/-! _law_bad(state, land, kind): {'state': "('lst', ('lst', 'fro'))", 'one': "('lst', 'fro')"} -/
def nm__law_bad : List Str := [(PySem.Str.ofString "state"), (PySem.Str.ofString "land"), (PySem.Str.ofString "kind"), (PySem.Str.ofString "signs"), (PySem.Str.ofString "paths"), (PySem.Str.ofString "slips"), (PySem.Str.ofString "troubles"), (PySem.Str.ofString "many"), (PySem.Str.ofString "at"), (PySem.Str.ofString "row"), (PySem.Str.ofString "start"), (PySem.Str.ofString "way"), (PySem.Str.ofString "goal"), (PySem.Str.ofString "ticks"), (PySem.Str.ofString "which"), (PySem.Str.ofString "one"), (PySem.Str.ofString "path")]
theorem sc__law_bad : FnScope nm__law_bad [(PySem.Str.ofString "state"), (PySem.Str.ofString "land"), (PySem.Str.ofString "kind")] (defScope (topS 26)) := ⟨rfl, rfl, rfl, by decide +kernel, rfl, by decide +kernel, by decide +kernel⟩
def sg__law_bad : Sig := ⟨[(.lst (.lst .fro)), .fro, .fro], .fro⟩
def ir__law_bad : Ss := (.cons (.unp (.t (.cons (.n 3) (.cons (.n 4) (.cons (.n 5) (.cons (.n 6) .nil))))) (.v 1)) (.cons (.ife (.e (.eq false (.v 2) (.k (.int 0)))) (.cons (.set 7 (.ix (.e (.lst (.cons (.k (.int 0)) (.cons (.k (.int 13)) .nil)))) (.call (PySem.Str.ofString "_law_draw") (.io 0 (.fr (.k (.int 2)) .nil))))) (.cons (.ret (.lst (.cons (.tup (.cons (.trep (.tup (.cons (.k (.int 0)) .nil)) (.v 7)) (.cons (.v 4) (.cons (.v 5) (.cons (.v 6) .nil))))) (.cons (.tup (.cons (.k (.str (PySem.Str.ofString "points"))) (.cons (.v 7) .nil))) .nil)))) .nil)) .nil) (.cons (.ife (.e (.eq false (.v 2) (.k (.int 1)))) (.cons (.set 8 (.call (PySem.Str.ofString "_law_draw") (.io 0 (.fr (.b1 .len (.e (.v 3))) .nil)))) (.cons (.ret (.lst (.cons (.tup (.cons (.call (PySem.Str.ofString "_law_swap") (.fr (.v 3) (.fr (.v 8) (.fr (.ix (.e (.lst (.cons (.neg (.k (.int 1))) (.cons (.k (.int 10)) .nil)))) (.call (PySem.Str.ofString "_law_draw") (.io 0 (.fr (.k (.int 2)) .nil)))) .nil)))) (.cons (.v 4) (.cons (.v 5) (.cons (.v 6) .nil))))) (.cons (.tup (.cons (.k (.str (PySem.Str.ofString "sign"))) (.cons (.v 8) .nil))) .nil)))) .nil)) .nil) (.cons (.ife (.e (.eq false (.v 2) (.k (.int 2)))) (.cons (.set 9 (.lrep (.e (.lst (.cons (.tup (.cons (.k (.int 0)) (.cons (.k (.int 0)) (.cons (.k (.int 0)) (.cons (.k (.int 1)) .nil))))) .nil))) (.k (.int 73)))) (.cons (.ret (.lst (.cons (.tup (.cons (.v 3) (.cons (.b1 .tup (.e (.v 9))) (.cons (.v 5) (.cons (.v 6) .nil))))) (.cons (.tup (.cons (.k (.str (PySem.Str.ofString "paths"))) (.cons (.k (.int 73)) .nil))) .nil)))) .nil)) .nil) (.cons (.ife (.an (.e (.eq false (.v 2) (.k (.int 3)))) (.e (.cm .gt (.b1 .len (.e (.v 4))) (.k (.int 0))))) (.cons (.set 8 (.call (PySem.Str.ofString "_law_draw") (.io 0 (.fr (.b1 .len (.e (.v 4))) .nil)))) (.cons (.unp (.t (.cons (.n 10) (.cons (.n 11) (.cons (.n 12) (.cons (.n 13) .nil))))) (.ix (.e (.v 4)) (.v 8))) (.cons (.set 14 (.call (PySem.Str.ofString "_law_draw") (.io 0 (.fr (.k (.int 4)) .nil)))) (.fz 15 (.cons (.set 15 (.lst (.cons (.tup (.cons (.ix (.e (.lst (.cons (.b1 .len (.e (.v 3))) (.cons (.neg (.k (.int 1))) .nil)))) (.call (PySem.Str.ofString "_law_draw") (.io 0 (.fr (.k (.int 2)) .nil)))) (.cons (.v 11) (.cons (.v 12) (.cons (.k (.int 7)) .nil))))) (.cons (.tup (.cons (.v 10) (.cons (.ix (.e (.lst (.cons (.k (.int 6)) (.cons (.neg (.k (.int 1))) .nil)))) (.call (PySem.Str.ofString "_law_draw") (.io 0 (.fr (.k (.int 2)) .nil)))) (.cons (.neg (.k (.int 1))) (.cons (.v 13) .nil))))) .nil)))) (.reb 15 (.lst .fro) (.lcat (.e (.v 15)) (.e (.lst (.cons (.tup (.cons (.v 10) (.cons (.v 11) (.cons (.ix (.e (.lst (.cons (.b1 .len (.e (.v 3))) (.cons (.neg (.k (.int 1))) .nil)))) (.call (PySem.Str.ofString "_law_draw") (.io 0 (.fr (.k (.int 2)) .nil)))) (.cons (.k (.int 0)) .nil))))) (.cons (.tup (.cons (.v 10) (.cons (.v 11) (.cons (.v 12) (.cons (.ix (.e (.lst (.cons (.k (.int 0)) (.cons (.k (.int 7)) .nil)))) (.call (PySem.Str.ofString "_law_draw") (.io 0 (.fr (.k (.int 2)) .nil)))) .nil))))) .nil))))) (.fz 15 (.cons (.ret (.lst (.cons (.tup (.cons (.v 3) (.cons (.call (PySem.Str.ofString "_law_swap") (.fr (.v 4) (.fr (.v 8) (.fr (.ix (.e (.v 15)) (.v 14)) .nil)))) (.cons (.v 5) (.cons (.v 6) .nil))))) (.cons (.tup (.cons (.ix (.e (.lst (.cons (.k (.str (PySem.Str.ofString "start"))) (.cons (.k (.str (PySem.Str.ofString "way"))) (.cons (.k (.str (PySem.Str.ofString "goal"))) (.cons (.k (.str (PySem.Str.ofString "ticks"))) .nil)))))) (.v 14)) (.cons (.v 8) .nil))) .nil)))) .nil)))))))) .nil) (.cons (.ife (.an (.e (.eq false (.v 2) (.k (.int 4)))) (.e (.cm .gt (.b1 .len (.e (.v 4))) (.k (.int 1))))) (.cons (.set 8 (.ar .add (.k (.int 1)) (.call (PySem.Str.ofString "_law_draw") (.io 0 (.fr (.ar .sub (.b1 .len (.e (.v 4))) (.k (.int 1))) .nil))))) (.cons (.unp (.t (.cons (.n 10) (.cons (.n 11) (.cons (.n 12) (.cons (.n 13) .nil))))) (.ix (.e (.v 4)) (.call (PySem.Str.ofString "_law_draw") (.io 0 (.fr (.v 8) .nil))))) (.cons (.ret (.lst (.cons (.tup (.cons (.v 3) (.cons (.tcat (.tcat (.slc (.e (.v 4)) .no (.so (.v 8))) (.tup (.cons (.tup (.cons (.v 10) (.cons (.v 11) (.cons (.k (.int 0)) (.cons (.k (.int 1)) .nil))))) .nil))) (.slc (.e (.v 4)) (.so (.ar .add (.v 8) (.k (.int 1)))) .no)) (.cons (.v 5) (.cons (.v 6) .nil))))) (.cons (.tup (.cons (.k (.str (PySem.Str.ofString "twice"))) (.cons (.v 8) .nil))) .nil)))) .nil))) .nil) (.cons (.ife (.an (.e (.eq false (.v 2) (.k (.int 5)))) (.e (.cm .gt (.b1 .len (.e (.v 4))) (.k (.int 0))))) (.cons (.ret (.lst (.cons (.tup (.cons (.v 3) (.cons (.v 4) (.cons (.trep (.tup (.cons (.tup (.cons (.k (.int 0)) (.cons (.k (.int 0)) (.cons (.k (.int 1)) .nil)))) .nil)) (.k (.int 25))) (.cons (.v 6) .nil))))) (.cons (.tup (.cons (.k (.str (PySem.Str.ofString "slips"))) (.cons (.k (.int 25)) .nil))) .nil)))) .nil) .nil) (.cons (.ife (.an (.e (.eq false (.v 2) (.k (.int 6)))) (.e (.cm .gt (.b1 .len (.e (.v 5))) (.k (.int 0))))) (.cons (.set 8 (.call (PySem.Str.ofString "_law_draw") (.io 0 (.fr (.b1 .len (.e (.v 5))) .nil)))) (.cons (.unp (.t (.cons (.n 16) (.cons (.n 12) (.cons (.n 13) .nil)))) (.ix (.e (.v 5)) (.v 8))) (.cons (.set 14 (.call (PySem.Str.ofString "_law_draw") (.io 0 (.fr (.k (.int 3)) .nil)))) (.cons (.set 15 (.lst (.cons (.tup (.cons (.ix (.e (.lst (.cons (.b1 .len (.e (.v 4))) (.cons (.neg (.k (.int 1))) .nil)))) (.call (PySem.Str.ofString "_law_draw") (.io 0 (.fr (.k (.int 2)) .nil)))) (.cons (.neg (.k (.int 1))) (.cons (.v 13) .nil)))) (.cons (.tup (.cons (.v 16) (.cons (.ix (.e (.lst (.cons (.b1 .len (.e (.v 3))) (.cons (.neg (.k (.int 1))) .nil)))) (.call (PySem.Str.ofString "_law_draw") (.io 0 (.fr (.k (.int 2)) .nil)))) (.cons (.k (.int 9)) .nil)))) .nil)))) (.cons (.app 15 (.tup (.cons (.v 16) (.cons (.v 12) (.cons (.ix (.e (.lst (.cons (.k (.int 0)) (.cons (.k (.int 7)) .nil)))) (.call (PySem.Str.ofString "_law_draw") (.io 0 (.fr (.k (.int 2)) .nil)))) .nil))))) (.fz 15 (.cons (.ret (.lst (.cons (.tup (.cons (.v 3) (.cons (.v 4) (.cons (.call (PySem.Str.ofString "_law_swap") (.fr (.v 5) (.fr (.v 8) (.fr (.ix (.e (.v 15)) (.v 14)) .nil)))) (.cons (.v 6) .nil))))) (.cons (.tup (.cons (.ix (.e (.lst (.cons (.k (.str (PySem.Str.ofString "path"))) (.cons (.k (.str (PySem.Str.ofString "goal"))) (.cons (.k (.str (PySem.Str.ofString "ticks"))) .nil))))) (.v 14)) (.cons (.v 8) .nil))) .nil)))) .nil))))))) .nil) (.cons (.set 7 (.ix (.e (.lst (.cons (.neg (.k (.int 1))) (.cons (.k (.int 5)) .nil)))) (.call (PySem.Str.ofString "_law_draw") (.io 0 (.fr (.k (.int 2)) .nil))))) (.cons (.ret (.lst (.cons (.tup (.cons (.v 3) (.cons (.v 4) (.cons (.v 5) (.cons (.v 7) .nil))))) (.cons (.tup (.cons (.k (.str (PySem.Str.ofString "troubles"))) (.cons (.v 7) .nil))) .nil)))) .nil))))))))))
def fx__law_bad (Φ : Cf) : List D → Option (D × List D) := evF Φ sg__law_bad.ps 17 ir__law_bad
theorem ok__law_bad {Φ : Cf} {f : Addr} {fd : FuncData} {k : Nat} (F : Fun K (PySem.Str.ofString "_law_bad") (PySem.Str.ofString "_law_bad") (topS 26) f fd) (hbl : ∀ x, x ∈ blAll → mg x = none) (c__law_draw : Callee P w K mg base Φ k (PySem.Str.ofString "_law_draw") sg__law_draw) (c__law_swap : Callee P w K mg base Φ k (PySem.Str.ofString "_law_swap") sg__law_swap) :
    FnOk P w K mg base CX0 (k + 1) f fd [(PySem.Str.ofString "state"), (PySem.Str.ofString "land"), (PySem.Str.ofString "kind")] (spI K sg__law_bad (fx__law_bad Φ)) :=
  fn_sound F sc__law_bad sg__law_bad [.fro, .fro, .fro, .fro, .fro, .fro, .fro, .fro, .fro, .fro, .fro, .fro, (.lst .fro), .fro] ir__law_bad (by decide +kernel) hbl [] (by simp) fun X gd hc hx hk hT wx gx fr hp =>
    (ss_cons (k_unp (k_gt gd (gs_cons (k_gn gd hp 3 (by decide +kernel)) (gs_cons (k_gn gd hp 4 (by decide +kernel)) (gs_cons (k_gn gd hp 5 (by decide +kernel)) (gs_cons (k_gn gd hp 6 (by decide +kernel)) gs_nil rfl) rfl) rfl) rfl) (by decide +kernel)) (k_v gd 1 (by decide +kernel)) (by decide +kernel))
    (ss_cons (s_ife (k_eqT gd false (k_v gd 2 (by decide +kernel)) k_i) (ss_cons (k_set gd hp 7 .fro (e_ix (o_e (e_lst (t := .fro) (.inr ⟨rfl, rfl⟩) (as_cons k_i (as_cons k_i as_nil rfl) rfl))) (k_call gd (hc _ _ c__law_draw) (k_io gd 0 (by decide +kernel) (a_fr k_i a_nil rfl)) (by decide +kernel)) rfl) (by decide +kernel))
    (ss_cons (s_ret (e_lst (t := .fro) (.inr ⟨rfl, rfl⟩) (as_cons (e_tup (as_cons (e_trep (e_tup (as_cons k_i as_nil rfl)) (k_v gd 7 (by decide +kernel))) (as_cons (k_v gd 4 (by decide +kernel)) (as_cons (k_v gd 5 (by decide +kernel)) (as_cons (k_v gd 6 (by decide +kernel)) as_nil rfl) rfl) rfl) rfl)) (as_cons (e_tup (as_cons k_s (as_cons (k_v gd 7 (by decide +kernel)) as_nil rfl) rfl)) as_nil rfl) rfl)))
    ss_nil)) ss_nil)
    (ss_cons (s_ife (k_eqT gd false (k_v gd 2 (by decide +kernel)) k_i) (ss_cons (k_set gd hp 8 .fro (k_call gd (hc _ _ c__law_draw) (k_io gd 0 (by decide +kernel) (a_fr (k_b1 gd .len (o_e (k_v gd 3 (by decide +kernel))) (by decide +kernel)) a_nil rfl)) (by decide +kernel)) (by decide +kernel))
    (ss_cons (s_ret (e_lst (t := .fro) (.inr ⟨rfl, rfl⟩) (as_cons (e_tup (as_cons (k_call gd (hc _ _ c__law_swap) (a_fr (k_v gd 3 (by decide +kernel)) (a_fr (k_v gd 8 (by decide +kernel)) (a_fr (e_ix (o_e (e_lst (t := .fro) (.inr ⟨rfl, rfl⟩) (as_cons (e_neg k_i) (as_cons k_i as_nil rfl) rfl))) (k_call gd (hc _ _ c__law_draw) (k_io gd 0 (by decide +kernel) (a_fr k_i a_nil rfl)) (by decide +kernel)) rfl) a_nil rfl) rfl) rfl) (by decide +kernel)) (as_cons (k_v gd 4 (by decide +kernel)) (as_cons (k_v gd 5 (by decide +kernel)) (as_cons (k_v gd 6 (by decide +kernel)) as_nil rfl) rfl) rfl) rfl)) (as_cons (e_tup (as_cons k_s (as_cons (k_v gd 8 (by decide +kernel)) as_nil rfl) rfl)) as_nil rfl) rfl)))
    ss_nil)) ss_nil)
    (ss_cons (s_ife (k_eqT gd false (k_v gd 2 (by decide +kernel)) k_i) (ss_cons (k_set gd hp 9 .fro (e_lrep (.inr ⟨rfl, rfl⟩) (o_e (e_lst (t := .fro) (.inr ⟨rfl, rfl⟩) (as_cons (e_tup (as_cons k_i (as_cons k_i (as_cons k_i (as_cons k_i as_nil rfl) rfl) rfl) rfl)) as_nil rfl))) k_i) (by decide +kernel))
    (ss_cons (s_ret (e_lst (t := .fro) (.inr ⟨rfl, rfl⟩) (as_cons (e_tup (as_cons (k_v gd 3 (by decide +kernel)) (as_cons (k_b1 gd .tup (o_e (k_v gd 9 (by decide +kernel))) (by decide +kernel)) (as_cons (k_v gd 5 (by decide +kernel)) (as_cons (k_v gd 6 (by decide +kernel)) as_nil rfl) rfl) rfl) rfl)) (as_cons (e_tup (as_cons k_s (as_cons k_i as_nil rfl) rfl)) as_nil rfl) rfl)))
    ss_nil)) ss_nil)
    (ss_cons (s_ife (PW.pt (w_an (k_eqT gd false (k_v gd 2 (by decide +kernel)) k_i) (pw_and1 (k_cmT .gt (k_b1 gd .len (o_e (k_v gd 4 (by decide +kernel))) (by decide +kernel)) k_i)))) (ss_cons (k_set gd hp 8 .fro (k_call gd (hc _ _ c__law_draw) (k_io gd 0 (by decide +kernel) (a_fr (k_b1 gd .len (o_e (k_v gd 4 (by decide +kernel))) (by decide +kernel)) a_nil rfl)) (by decide +kernel)) (by decide +kernel))
    (ss_cons (k_unp (k_gt gd (gs_cons (k_gn gd hp 10 (by decide +kernel)) (gs_cons (k_gn gd hp 11 (by decide +kernel)) (gs_cons (k_gn gd hp 12 (by decide +kernel)) (gs_cons (k_gn gd hp 13 (by decide +kernel)) gs_nil rfl) rfl) rfl) rfl) (by decide +kernel)) (e_ix (o_e (k_v gd 4 (by decide +kernel))) (k_v gd 8 (by decide +kernel)) rfl) (by decide +kernel))
    (ss_cons (k_set gd hp 14 .fro (k_call gd (hc _ _ c__law_draw) (k_io gd 0 (by decide +kernel) (a_fr k_i a_nil rfl)) (by decide +kernel)) (by decide +kernel))
    (ss_fz 15 (ss_cons (k_set gd hp 15 .fro (e_lst (t := .fro) (.inr ⟨rfl, rfl⟩) (as_cons (e_tup (as_cons (e_ix (o_e (e_lst (t := .fro) (.inr ⟨rfl, rfl⟩) (as_cons (k_b1 gd .len (o_e (k_v gd 3 (by decide +kernel))) (by decide +kernel)) (as_cons (e_neg k_i) as_nil rfl) rfl))) (k_call gd (hc _ _ c__law_draw) (k_io gd 0 (by decide +kernel) (a_fr k_i a_nil rfl)) (by decide +kernel)) rfl) (as_cons (k_v gd 11 (by decide +kernel)) (as_cons (k_v gd 12 (by decide +kernel)) (as_cons k_i as_nil rfl) rfl) rfl) rfl)) (as_cons (e_tup (as_cons (k_v gd 10 (by decide +kernel)) (as_cons (e_ix (o_e (e_lst (t := .fro) (.inr ⟨rfl, rfl⟩) (as_cons k_i (as_cons (e_neg k_i) as_nil rfl) rfl))) (k_call gd (hc _ _ c__law_draw) (k_io gd 0 (by decide +kernel) (a_fr k_i a_nil rfl)) (by decide +kernel)) rfl) (as_cons (e_neg k_i) (as_cons (k_v gd 13 (by decide +kernel)) as_nil rfl) rfl) rfl) rfl)) as_nil rfl) rfl)) (by decide +kernel))
    (ss_reb gd hp 15 (.lst .fro) (e_lcat (.inl rfl) (o_e (k_v gd 15 (by decide +kernel))) (o_e (e_lst (t := .fro) (.inr ⟨rfl, rfl⟩) (as_cons (e_tup (as_cons (k_v gd 10 (by decide +kernel)) (as_cons (k_v gd 11 (by decide +kernel)) (as_cons (e_ix (o_e (e_lst (t := .fro) (.inr ⟨rfl, rfl⟩) (as_cons (k_b1 gd .len (o_e (k_v gd 3 (by decide +kernel))) (by decide +kernel)) (as_cons (e_neg k_i) as_nil rfl) rfl))) (k_call gd (hc _ _ c__law_draw) (k_io gd 0 (by decide +kernel) (a_fr k_i a_nil rfl)) (by decide +kernel)) rfl) (as_cons k_i as_nil rfl) rfl) rfl) rfl)) (as_cons (e_tup (as_cons (k_v gd 10 (by decide +kernel)) (as_cons (k_v gd 11 (by decide +kernel)) (as_cons (k_v gd 12 (by decide +kernel)) (as_cons (e_ix (o_e (e_lst (t := .fro) (.inr ⟨rfl, rfl⟩) (as_cons k_i (as_cons k_i as_nil rfl) rfl))) (k_call gd (hc _ _ c__law_draw) (k_io gd 0 (by decide +kernel) (a_fr k_i a_nil rfl)) (by decide +kernel)) rfl) as_nil rfl) rfl) rfl) rfl)) as_nil rfl) rfl)))) (by decide +kernel)
    (ss_fz 15 (ss_cons (s_ret (e_lst (t := .fro) (.inr ⟨rfl, rfl⟩) (as_cons (e_tup (as_cons (k_v gd 3 (by decide +kernel)) (as_cons (k_call gd (hc _ _ c__law_swap) (a_fr (k_v gd 4 (by decide +kernel)) (a_fr (k_v gd 8 (by decide +kernel)) (a_fr (e_ix (o_e (k_v gd 15 (by decide +kernel))) (k_v gd 14 (by decide +kernel)) rfl) a_nil rfl) rfl) rfl) (by decide +kernel)) (as_cons (k_v gd 5 (by decide +kernel)) (as_cons (k_v gd 6 (by decide +kernel)) as_nil rfl) rfl) rfl) rfl)) (as_cons (e_tup (as_cons (e_ix (o_e (e_lst (t := .fro) (.inr ⟨rfl, rfl⟩) (as_cons k_s (as_cons k_s (as_cons k_s (as_cons k_s as_nil rfl) rfl) rfl) rfl))) (k_v gd 14 (by decide +kernel)) rfl) (as_cons (k_v gd 8 (by decide +kernel)) as_nil rfl) rfl)) as_nil rfl) rfl)))
    ss_nil)))))))) ss_nil)
    (ss_cons (s_ife (PW.pt (w_an (k_eqT gd false (k_v gd 2 (by decide +kernel)) k_i) (pw_and1 (k_cmT .gt (k_b1 gd .len (o_e (k_v gd 4 (by decide +kernel))) (by decide +kernel)) k_i)))) (ss_cons (k_set gd hp 8 .fro (e_ar .add k_i (k_call gd (hc _ _ c__law_draw) (k_io gd 0 (by decide +kernel) (a_fr (e_ar .sub (k_b1 gd .len (o_e (k_v gd 4 (by decide +kernel))) (by decide +kernel)) k_i) a_nil rfl)) (by decide +kernel))) (by decide +kernel))
    (ss_cons (k_unp (k_gt gd (gs_cons (k_gn gd hp 10 (by decide +kernel)) (gs_cons (k_gn gd hp 11 (by decide +kernel)) (gs_cons (k_gn gd hp 12 (by decide +kernel)) (gs_cons (k_gn gd hp 13 (by decide +kernel)) gs_nil rfl) rfl) rfl) rfl) (by decide +kernel)) (e_ix (o_e (k_v gd 4 (by decide +kernel))) (k_call gd (hc _ _ c__law_draw) (k_io gd 0 (by decide +kernel) (a_fr (k_v gd 8 (by decide +kernel)) a_nil rfl)) (by decide +kernel)) rfl) (by decide +kernel))
    (ss_cons (s_ret (e_lst (t := .fro) (.inr ⟨rfl, rfl⟩) (as_cons (e_tup (as_cons (k_v gd 3 (by decide +kernel)) (as_cons (e_tcat (e_tcat (e_slc (w := .fro) (.inr ⟨rfl, rfl⟩) (o_e (k_v gd 4 (by decide +kernel))) oe_no (oe_so (k_v gd 8 (by decide +kernel))) (.inl rfl)) (e_tup (as_cons (e_tup (as_cons (k_v gd 10 (by decide +kernel)) (as_cons (k_v gd 11 (by decide +kernel)) (as_cons k_i (as_cons k_i as_nil rfl) rfl) rfl) rfl)) as_nil rfl))) (e_slc (w := .fro) (.inr ⟨rfl, rfl⟩) (o_e (k_v gd 4 (by decide +kernel))) (oe_so (e_ar .add (k_v gd 8 (by decide +kernel)) k_i)) oe_no (.inl rfl))) (as_cons (k_v gd 5 (by decide +kernel)) (as_cons (k_v gd 6 (by decide +kernel)) as_nil rfl) rfl) rfl) rfl)) (as_cons (e_tup (as_cons k_s (as_cons (k_v gd 8 (by decide +kernel)) as_nil rfl) rfl)) as_nil rfl) rfl)))
    ss_nil))) ss_nil)
    (ss_cons (s_ife (PW.pt (w_an (k_eqT gd false (k_v gd 2 (by decide +kernel)) k_i) (pw_and1 (k_cmT .gt (k_b1 gd .len (o_e (k_v gd 4 (by decide +kernel))) (by decide +kernel)) k_i)))) (ss_cons (s_ret (e_lst (t := .fro) (.inr ⟨rfl, rfl⟩) (as_cons (e_tup (as_cons (k_v gd 3 (by decide +kernel)) (as_cons (k_v gd 4 (by decide +kernel)) (as_cons (e_trep (e_tup (as_cons (e_tup (as_cons k_i (as_cons k_i (as_cons k_i as_nil rfl) rfl) rfl)) as_nil rfl)) k_i) (as_cons (k_v gd 6 (by decide +kernel)) as_nil rfl) rfl) rfl) rfl)) (as_cons (e_tup (as_cons k_s (as_cons k_i as_nil rfl) rfl)) as_nil rfl) rfl)))
    ss_nil) ss_nil)
    (ss_cons (s_ife (PW.pt (w_an (k_eqT gd false (k_v gd 2 (by decide +kernel)) k_i) (pw_and1 (k_cmT .gt (k_b1 gd .len (o_e (k_v gd 5 (by decide +kernel))) (by decide +kernel)) k_i)))) (ss_cons (k_set gd hp 8 .fro (k_call gd (hc _ _ c__law_draw) (k_io gd 0 (by decide +kernel) (a_fr (k_b1 gd .len (o_e (k_v gd 5 (by decide +kernel))) (by decide +kernel)) a_nil rfl)) (by decide +kernel)) (by decide +kernel))
    (ss_cons (k_unp (k_gt gd (gs_cons (k_gn gd hp 16 (by decide +kernel)) (gs_cons (k_gn gd hp 12 (by decide +kernel)) (gs_cons (k_gn gd hp 13 (by decide +kernel)) gs_nil rfl) rfl) rfl) (by decide +kernel)) (e_ix (o_e (k_v gd 5 (by decide +kernel))) (k_v gd 8 (by decide +kernel)) rfl) (by decide +kernel))
    (ss_cons (k_set gd hp 14 .fro (k_call gd (hc _ _ c__law_draw) (k_io gd 0 (by decide +kernel) (a_fr k_i a_nil rfl)) (by decide +kernel)) (by decide +kernel))
    (ss_cons (k_set gd hp 15 (.lst .fro) (e_lst (t := .fro) (.inl rfl) (as_cons (e_tup (as_cons (e_ix (o_e (e_lst (t := .fro) (.inr ⟨rfl, rfl⟩) (as_cons (k_b1 gd .len (o_e (k_v gd 4 (by decide +kernel))) (by decide +kernel)) (as_cons (e_neg k_i) as_nil rfl) rfl))) (k_call gd (hc _ _ c__law_draw) (k_io gd 0 (by decide +kernel) (a_fr k_i a_nil rfl)) (by decide +kernel)) rfl) (as_cons (e_neg k_i) (as_cons (k_v gd 13 (by decide +kernel)) as_nil rfl) rfl) rfl)) (as_cons (e_tup (as_cons (k_v gd 16 (by decide +kernel)) (as_cons (e_ix (o_e (e_lst (t := .fro) (.inr ⟨rfl, rfl⟩) (as_cons (k_b1 gd .len (o_e (k_v gd 3 (by decide +kernel))) (by decide +kernel)) (as_cons (e_neg k_i) as_nil rfl) rfl))) (k_call gd (hc _ _ c__law_draw) (k_io gd 0 (by decide +kernel) (a_fr k_i a_nil rfl)) (by decide +kernel)) rfl) (as_cons k_i as_nil rfl) rfl) rfl)) as_nil rfl) rfl)) (by decide +kernel))
    (ss_cons (k_app gd 15 (e_tup (as_cons (k_v gd 16 (by decide +kernel)) (as_cons (k_v gd 12 (by decide +kernel)) (as_cons (e_ix (o_e (e_lst (t := .fro) (.inr ⟨rfl, rfl⟩) (as_cons k_i (as_cons k_i as_nil rfl) rfl))) (k_call gd (hc _ _ c__law_draw) (k_io gd 0 (by decide +kernel) (a_fr k_i a_nil rfl)) (by decide +kernel)) rfl) as_nil rfl) rfl) rfl)) (by decide +kernel))
    (ss_fz 15 (ss_cons (s_ret (e_lst (t := .fro) (.inr ⟨rfl, rfl⟩) (as_cons (e_tup (as_cons (k_v gd 3 (by decide +kernel)) (as_cons (k_v gd 4 (by decide +kernel)) (as_cons (k_call gd (hc _ _ c__law_swap) (a_fr (k_v gd 5 (by decide +kernel)) (a_fr (k_v gd 8 (by decide +kernel)) (a_fr (e_ix (o_e (k_v gd 15 (by decide +kernel))) (k_v gd 14 (by decide +kernel)) rfl) a_nil rfl) rfl) rfl) (by decide +kernel)) (as_cons (k_v gd 6 (by decide +kernel)) as_nil rfl) rfl) rfl) rfl)) (as_cons (e_tup (as_cons (e_ix (o_e (e_lst (t := .fro) (.inr ⟨rfl, rfl⟩) (as_cons k_s (as_cons k_s (as_cons k_s as_nil rfl) rfl) rfl))) (k_v gd 14 (by decide +kernel)) rfl) (as_cons (k_v gd 8 (by decide +kernel)) as_nil rfl) rfl)) as_nil rfl) rfl)))
    ss_nil))))))) ss_nil)
    (ss_cons (k_set gd hp 7 .fro (e_ix (o_e (e_lst (t := .fro) (.inr ⟨rfl, rfl⟩) (as_cons (e_neg k_i) (as_cons k_i as_nil rfl) rfl))) (k_call gd (hc _ _ c__law_draw) (k_io gd 0 (by decide +kernel) (a_fr k_i a_nil rfl)) (by decide +kernel)) rfl) (by decide +kernel))
    (ss_cons (s_ret (e_lst (t := .fro) (.inr ⟨rfl, rfl⟩) (as_cons (e_tup (as_cons (k_v gd 3 (by decide +kernel)) (as_cons (k_v gd 4 (by decide +kernel)) (as_cons (k_v gd 5 (by decide +kernel)) (as_cons (k_v gd 7 (by decide +kernel)) as_nil rfl) rfl) rfl) rfl)) (as_cons (e_tup (as_cons k_s (as_cons (k_v gd 7 (by decide +kernel)) as_nil rfl) rfl)) as_nil rfl) rfl)))
    ss_nil))))))))))

/-! path_of(land, point, way): {} -/
def nm_path_of : List Str := [(PySem.Str.ofString "land"), (PySem.Str.ofString "point"), (PySem.Str.ofString "way"), (PySem.Str.ofString "index"), (PySem.Str.ofString "start"), (PySem.Str.ofString "one"), (PySem.Str.ofString "_")]
theorem sc_path_of : FnScope nm_path_of [(PySem.Str.ofString "land"), (PySem.Str.ofString "point"), (PySem.Str.ofString "way")] (defScope (topS 16)) := ⟨rfl, rfl, rfl, by decide +kernel, rfl, by decide +kernel, by decide +kernel⟩
def sg_path_of : Sig := ⟨[.fro, .fro, .fro], .fro⟩
def ir_path_of : Ss := (.cons (.for (.t (.cons (.n 3) (.cons (.t (.cons (.n 4) (.cons (.n 5) (.cons (.n 6) (.cons (.n 6) .nil))))) .nil))) (.en (.e (.ix (.e (.v 0)) (.k (.int 1))))) (.cons (.ife (.e (.eq false (.tup (.cons (.v 4) (.cons (.v 5) .nil))) (.tup (.cons (.v 1) (.cons (.v 2) .nil))))) (.cons (.ret (.v 3)) .nil) .nil) .nil)) (.cons (.ret (.k .none)) .nil))
def fx_path_of (Φ : Cf) : List D → Option (D × List D) := evF Φ sg_path_of.ps 7 ir_path_of
theorem ok_path_of {Φ : Cf} {f : Addr} {fd : FuncData} {k : Nat} (F : Fun K (PySem.Str.ofString "path_of") (PySem.Str.ofString "path_of") (topS 16) f fd) (hbl : ∀ x, x ∈ blAll → mg x = none) :
    FnOk P w K mg base CX0 (k + 1) f fd [(PySem.Str.ofString "land"), (PySem.Str.ofString "point"), (PySem.Str.ofString "way")] (spI K sg_path_of (fx_path_of Φ)) :=
  fn_sound F sc_path_of sg_path_of [.fro, .fro, .fro, .fro] ir_path_of (by decide +kernel) hbl [] (by simp) fun X gd hc hx hk hT wx gx fr hp =>
    (ss_cons (k_for gd hp [] (k_en gd (w_e (e_ix (o_e (k_v gd 0 (by decide +kernel))) k_i rfl)) (by decide +kernel)) (fun fr1 hp1 => (k_gt gd (gs_cons (k_gn gd hp1 3 (by decide +kernel)) (gs_cons (k_gt gd (gs_cons (k_gn gd hp1 4 (by decide +kernel)) (gs_cons (k_gn gd hp1 5 (by decide +kernel)) (gs_cons (k_gn gd hp1 6 (by decide +kernel)) (gs_cons (k_gn gd hp1 6 (by decide +kernel)) gs_nil rfl) rfl) rfl) rfl) (by decide +kernel)) gs_nil rfl) rfl) (by decide +kernel))) (fun fr1 hp1 => (ss_cons (s_ife (k_eqT gd false (e_tup (as_cons (k_v gd 4 (by decide +kernel)) (as_cons (k_v gd 5 (by decide +kernel)) as_nil rfl) rfl)) (e_tup (as_cons (k_v gd 1 (by decide +kernel)) (as_cons (k_v gd 2 (by decide +kernel)) as_nil rfl) rfl))) (ss_cons (s_ret (k_v gd 3 (by decide +kernel)))
    ss_nil) ss_nil)
    ss_nil)) (by decide +kernel))
    (ss_cons (s_ret k_n)
    ss_nil))

/-! steps_from(land, point, way): {'found': "('lst', 'fro')"} -/
def nm_steps_from : List Str := [(PySem.Str.ofString "land"), (PySem.Str.ofString "point"), (PySem.Str.ofString "way"), (PySem.Str.ofString "index"), (PySem.Str.ofString "found"), (PySem.Str.ofString "path"), (PySem.Str.ofString "goal"), (PySem.Str.ofString "ticks")]
theorem sc_steps_from : FnScope nm_steps_from [(PySem.Str.ofString "land"), (PySem.Str.ofString "point"), (PySem.Str.ofString "way")] (defScope (topS 17)) := ⟨rfl, rfl, rfl, by decide +kernel, rfl, by decide +kernel, by decide +kernel⟩
def sg_steps_from : Sig := ⟨[.fro, .fro, .fro], .fro⟩
def ir_steps_from : Ss := (.cons (.set 3 (.call (PySem.Str.ofString "path_of") (.fr (.v 0) (.fr (.v 1) (.fr (.v 2) .nil))))) (.cons (.ife (.e (.isn false (.v 3))) (.cons (.ret (.lst .nil)) .nil) .nil) (.cons (.set 4 (.lst (.cons (.tup (.cons (.ix (.e (.ix (.e (.ix (.e (.v 0)) (.k (.int 1)))) (.v 3))) (.k (.int 2))) (.cons (.ix (.e (.ix (.e (.ix (.e (.v 0)) (.k (.int 1)))) (.v 3))) (.k (.int 3))) (.cons (.k (.int 0)) .nil)))) .nil))) (.cons (.for (.t (.cons (.n 5) (.cons (.n 6) (.cons (.n 7) .nil)))) (.o (.e (.ix (.e (.v 0)) (.k (.int 2))))) (.cons (.ife (.e (.eq false (.v 5) (.v 3))) (.cons (.app 4 (.tup (.cons (.v 6) (.cons (.v 7) (.cons (.k (.int 1)) .nil))))) .nil) .nil) .nil)) (.fz 4 (.cons (.ret (.b1 .srt (.e (.v 4)))) .nil))))))
def fx_steps_from (Φ : Cf) : List D → Option (D × List D) := evF Φ sg_steps_from.ps 8 ir_steps_from
theorem ok_steps_from {Φ : Cf} {f : Addr} {fd : FuncData} {k : Nat} (F : Fun K (PySem.Str.ofString "steps_from") (PySem.Str.ofString "steps_from") (topS 17) f fd) (hbl : ∀ x, x ∈ blAll → mg x = none) (c_path_of : Callee P w K mg base Φ k (PySem.Str.ofString "path_of") sg_path_of) :
    FnOk P w K mg base CX0 (k + 1) f fd [(PySem.Str.ofString "land"), (PySem.Str.ofString "point"), (PySem.Str.ofString "way")] (spI K sg_steps_from (fx_steps_from Φ)) :=
  fn_sound F sc_steps_from sg_steps_from [.fro, (.lst .fro), .fro, .fro, .fro] ir_steps_from (by decide +kernel) hbl [] (by simp) fun X gd hc hx hk hT wx gx fr hp =>
    (ss_cons (k_set gd hp 3 .fro (k_call gd (hc _ _ c_path_of) (a_fr (k_v gd 0 (by decide +kernel)) (a_fr (k_v gd 1 (by decide +kernel)) (a_fr (k_v gd 2 (by decide +kernel)) a_nil rfl) rfl) rfl) (by decide +kernel)) (by decide +kernel))
    (ss_cons (s_ife (k_isT false (k_v gd 3 (by decide +kernel))) (ss_cons (s_ret (e_lst (t := .fro) (.inr ⟨rfl, rfl⟩) as_nil))
    ss_nil) ss_nil)
    (ss_cons (k_set gd hp 4 (.lst .fro) (e_lst (t := .fro) (.inl rfl) (as_cons (e_tup (as_cons (e_ix (o_e (e_ix (o_e (e_ix (o_e (k_v gd 0 (by decide +kernel))) k_i rfl)) (k_v gd 3 (by decide +kernel)) rfl)) k_i rfl) (as_cons (e_ix (o_e (e_ix (o_e (e_ix (o_e (k_v gd 0 (by decide +kernel))) k_i rfl)) (k_v gd 3 (by decide +kernel)) rfl)) k_i rfl) (as_cons k_i as_nil rfl) rfl) rfl)) as_nil rfl)) (by decide +kernel))
    (ss_cons (k_for gd hp [] (it_o (w_e (e_ix (o_e (k_v gd 0 (by decide +kernel))) k_i rfl))) (fun fr1 hp1 => (k_gt gd (gs_cons (k_gn gd hp1 5 (by decide +kernel)) (gs_cons (k_gn gd hp1 6 (by decide +kernel)) (gs_cons (k_gn gd hp1 7 (by decide +kernel)) gs_nil rfl) rfl) rfl) (by decide +kernel))) (fun fr1 hp1 => (ss_cons (s_ife (k_eqT gd false (k_v gd 5 (by decide +kernel)) (k_v gd 3 (by decide +kernel))) (ss_cons (k_app gd 4 (e_tup (as_cons (k_v gd 6 (by decide +kernel)) (as_cons (k_v gd 7 (by decide +kernel)) (as_cons k_i as_nil rfl) rfl) rfl)) (by decide +kernel))
    ss_nil) ss_nil)
    ss_nil)) (by decide +kernel))
    (ss_fz 4 (ss_cons (s_ret (k_b1 gd .srt (o_e (k_v gd 4 (by decide +kernel))) (by decide +kernel)))
    ss_nil))))))

/-! law(script): {'state': "('lst', ('lst', 'fro'))"} -/
def nm_law : List Str := [(PySem.Str.ofString "script"), (PySem.Str.ofString "state"), (PySem.Str.ofString "land"), (PySem.Str.ofString "kind"), (PySem.Str.ofString "bad"), (PySem.Str.ofString "due"), (PySem.Str.ofString "later"), (PySem.Str.ofString "signs"), (PySem.Str.ofString "paths"), (PySem.Str.ofString "slips"), (PySem.Str.ofString "troubles"), (PySem.Str.ofString "point"), (PySem.Str.ofString "way"), (PySem.Str.ofString "row"), (PySem.Str.ofString "k"), (PySem.Str.ofString "told"), (PySem.Str.ofString "path"), (PySem.Str.ofString "goal"), (PySem.Str.ofString "ticks")]
theorem sc_law : FnScope nm_law [(PySem.Str.ofString "script")] (defScope (topS 27)) := ⟨rfl, rfl, rfl, by decide +kernel, rfl, by decide +kernel, by decide +kernel⟩
def sg_law : Sig := ⟨[.fro], .fro⟩
def ir_law : Ss := (.cons (.set 1 (.call (PySem.Str.ofString "_law_state") (.fr (.v 0) .nil))) (.cons (.set 2 (.call (PySem.Str.ofString "_law_map") (.io 1 (.fr (.k (.int 12)) (.fr (.ix (.e (.lst (.cons (.k (.int 3)) (.cons (.k (.int 24)) .nil)))) (.call (PySem.Str.ofString "_law_draw") (.io 1 (.fr (.k (.int 2)) .nil)))) .nil))))) (.cons (.ife (.e (.eq true (.call (PySem.Str.ofString "_law_told") (.fr (.v 2) .nil)) (.tup .nil))) (.cons (.ret (.k (.bool false))) .nil) .nil) (.cons (.for (.n 3) (.r1 (.k (.int 8))) (.cons (.unp (.t (.cons (.n 4) (.cons (.n 5) .nil))) (.call (PySem.Str.ofString "_law_bad") (.io 1 (.fr (.v 2) (.fr (.v 3) .nil))))) (.cons (.ife (.e (.eq true (.call (PySem.Str.ofString "_law_told") (.fr (.v 4) .nil)) (.v 5))) (.cons (.ret (.k (.bool false))) .nil) .nil) (.cons (.set 6 (.tup (.cons (.ix (.e (.v 4)) (.k (.int 0))) (.cons (.ix (.e (.v 4)) (.k (.int 1))) (.cons (.ix (.e (.v 4)) (.k (.int 2))) (.cons (.k (.int 9)) .nil)))))) (.cons (.ife (.an (.e (.eq true (.ix (.e (.v 5)) (.k (.int 0))) (.k (.str (PySem.Str.ofString "troubles"))))) (.e (.eq true (.call (PySem.Str.ofString "_law_told") (.fr (.v 6) .nil)) (.v 5)))) (.cons (.ret (.k (.bool false))) .nil) .nil) .nil))))) (.cons (.unp (.t (.cons (.n 7) (.cons (.n 8) (.cons (.n 9) (.cons (.n 10) .nil))))) (.v 2)) (.cons (.for (.n 11) (.r1 (.b1 .len (.e (.v 7)))) (.cons (.for (.n 12) (.r1 (.k (.int 6))) (.cons (.set 13 (.comp (.v 14) (.n 14) (.r1 (.b1 .len (.e (.v 8)))) (.so (.e (.eq false (.slc (.e (.ix (.e (.v 8)) (.v 14))) .no (.so (.k (.int 2)))) (.tup (.cons (.v 11) (.cons (.v 12) .nil)))))) [14])) (.cons (.set 5 (.lst .nil)) (.cons (.for (.n 14) (.o (.e (.v 13))) (.cons (.set 5 (.lcat (.e (.lcat (.e (.v 5)) (.e (.lst (.cons (.tcat (.slc (.e (.ix (.e (.v 8)) (.v 14))) (.so (.k (.int 2))) .no) (.tup (.cons (.k (.int 0)) .nil))) .nil))))) (.e (.comp (.tup (.cons (.v 17) (.cons (.v 18) (.cons (.k (.int 1)) .nil)))) (.t (.cons (.n 16) (.cons (.n 17) (.cons (.n 18) .nil)))) (.o (.e (.v 9))) (.so (.e (.eq false (.v 16) (.v 14)))) [16, 17, 18])))) .nil)) (.cons (.set 15 (.call (PySem.Str.ofString "path_of") (.fr (.v 2) (.fr (.v 11) (.fr (.v 12) .nil))))) (.cons (.ife (.orr (.e (.isi .b (.e (.v 15)))) (.e (.eq true (.v 15) (.ife (.e (.cm .gt (.b1 .len (.e (.v 13))) (.k (.int 0)))) (.ix (.e (.v 13)) (.k (.int 0))) (.k .none))))) (.cons (.ret (.k (.bool false))) .nil) .nil) (.cons (.set 15 (.call (PySem.Str.ofString "steps_from") (.fr (.v 2) (.fr (.v 11) (.fr (.v 12) .nil))))) (.cons (.ife (.orr (.no (.e (.isi .l (.e (.v 15))))) (.e (.eq true (.v 15) (.b1 .srt (.e (.v 5)))))) (.cons (.ret (.k (.bool false))) .nil) .nil) .nil)))))))) .nil)) (.cons (.ret (.k (.bool true))) .nil)))))))
def fx_law (Φ : Cf) : List D → Option (D × List D) := evF Φ sg_law.ps 19 ir_law
theorem ok_law {Φ : Cf} {f : Addr} {fd : FuncData} {k : Nat} (F : Fun K (PySem.Str.ofString "law") (PySem.Str.ofString "law") (topS 27) f fd) (hbl : ∀ x, x ∈ blAll → mg x = none) (c__law_state : Callee P w K mg base Φ k (PySem.Str.ofString "_law_state") sg__law_state) (c__law_map : Callee P w K mg base Φ k (PySem.Str.ofString "_law_map") sg__law_map) (c__law_draw : Callee P w K mg base Φ k (PySem.Str.ofString "_law_draw") sg__law_draw) (c__law_told : Callee P w K mg base Φ k (PySem.Str.ofString "_law_told") sg__law_told) (c__law_bad : Callee P w K mg base Φ k (PySem.Str.ofString "_law_bad") sg__law_bad) (c_path_of : Callee P w K mg base Φ k (PySem.Str.ofString "path_of") sg_path_of) (c_steps_from : Callee P w K mg base Φ k (PySem.Str.ofString "steps_from") sg_steps_from) :
    FnOk P w K mg base CX0 (k + 1) f fd [(PySem.Str.ofString "script")] (spI K sg_law (fx_law Φ)) :=
  fn_sound F sc_law sg_law [(.lst (.lst .fro)), .fro, .fro, .fro, .fro, .fro, .fro, .fro, .fro, .fro, .fro, .fro, .fro, .fro, .fro, .fro, .fro, .fro] ir_law (by decide +kernel) hbl [] (by simp) fun X gd hc hx hk hT wx gx fr hp =>
    (ss_cons (k_set gd hp 1 (.lst (.lst .fro)) (k_call gd (hc _ _ c__law_state) (a_fr (k_v gd 0 (by decide +kernel)) a_nil rfl) (by decide +kernel)) (by decide +kernel))
    (ss_cons (k_set gd hp 2 .fro (k_call gd (hc _ _ c__law_map) (k_io gd 1 (by decide +kernel) (a_fr k_i (a_fr (e_ix (o_e (e_lst (t := .fro) (.inr ⟨rfl, rfl⟩) (as_cons k_i (as_cons k_i as_nil rfl) rfl))) (k_call gd (hc _ _ c__law_draw) (k_io gd 1 (by decide +kernel) (a_fr k_i a_nil rfl)) (by decide +kernel)) rfl) a_nil rfl) rfl)) (by decide +kernel)) (by decide +kernel))
    (ss_cons (s_ife (k_eqT gd true (k_call gd (hc _ _ c__law_told) (a_fr (k_v gd 2 (by decide +kernel)) a_nil rfl) (by decide +kernel)) (e_tup as_nil)) (ss_cons (s_ret k_b)
    ss_nil) ss_nil)
    (ss_cons (k_for gd hp [] (k_r1 gd k_i (by decide +kernel)) (fun fr1 hp1 => (k_gn gd hp1 3 (by decide +kernel))) (fun fr1 hp1 => (ss_cons (k_unp (k_gt gd (gs_cons (k_gn gd hp1 4 (by decide +kernel)) (gs_cons (k_gn gd hp1 5 (by decide +kernel)) gs_nil rfl) rfl) (by decide +kernel)) (k_call gd (hc _ _ c__law_bad) (k_io gd 1 (by decide +kernel) (a_fr (k_v gd 2 (by decide +kernel)) (a_fr (k_v gd 3 (by decide +kernel)) a_nil rfl) rfl)) (by decide +kernel)) (by decide +kernel))
    (ss_cons (s_ife (k_eqT gd true (k_call gd (hc _ _ c__law_told) (a_fr (k_v gd 4 (by decide +kernel)) a_nil rfl) (by decide +kernel)) (k_v gd 5 (by decide +kernel))) (ss_cons (s_ret k_b)
    ss_nil) ss_nil)
    (ss_cons (k_set gd hp1 6 .fro (e_tup (as_cons (e_ix (o_e (k_v gd 4 (by decide +kernel))) k_i rfl) (as_cons (e_ix (o_e (k_v gd 4 (by decide +kernel))) k_i rfl) (as_cons (e_ix (o_e (k_v gd 4 (by decide +kernel))) k_i rfl) (as_cons k_i as_nil rfl) rfl) rfl) rfl)) (by decide +kernel))
    (ss_cons (s_ife (PW.pt (w_an (k_eqT gd true (e_ix (o_e (k_v gd 5 (by decide +kernel))) k_i rfl) k_s) (pw_and1 (k_eqT gd true (k_call gd (hc _ _ c__law_told) (a_fr (k_v gd 6 (by decide +kernel)) a_nil rfl) (by decide +kernel)) (k_v gd 5 (by decide +kernel)))))) (ss_cons (s_ret k_b)
    ss_nil) ss_nil)
    ss_nil))))) (by decide +kernel))
    (ss_cons (k_unp (k_gt gd (gs_cons (k_gn gd hp 7 (by decide +kernel)) (gs_cons (k_gn gd hp 8 (by decide +kernel)) (gs_cons (k_gn gd hp 9 (by decide +kernel)) (gs_cons (k_gn gd hp 10 (by decide +kernel)) gs_nil rfl) rfl) rfl) rfl) (by decide +kernel)) (k_v gd 2 (by decide +kernel)) (by decide +kernel))
    (ss_cons (k_for gd hp [] (k_r1 gd (k_b1 gd .len (o_e (k_v gd 7 (by decide +kernel))) (by decide +kernel)) (by decide +kernel)) (fun fr2 hp2 => (k_gn gd hp2 11 (by decide +kernel))) (fun fr2 hp2 => (ss_cons (k_for gd hp2 [] (k_r1 gd k_i (by decide +kernel)) (fun fr3 hp3 => (k_gn gd hp3 12 (by decide +kernel))) (fun fr3 hp3 => (ss_cons (k_setC gd hp3 13 .fro [] [(PySem.Str.ofString "k", 14)] (t := .fro) (.inr ⟨rfl, rfl⟩) (by decide +kernel) (k_r1 gd (k_b1 gd .len (o_e (k_v gd 8 (by decide +kernel))) (by decide +kernel)) (by decide +kernel)) (fun _ gd4 cv4 fr4 hp4 => (k_gn gd4 hp4 14 (by decide +kernel))) (fun _ gd4 cv4 => pc_so fun fr4 hp4 => (k_eqT gd4 false (e_slc (w := .fro) (.inr ⟨rfl, rfl⟩) (o_e (e_ix (o_e (k_v gd4 8 (by decide +kernel))) (k_v gd4 14 (by decide +kernel)) rfl)) oe_no (oe_so k_i) (.inl rfl)) (e_tup (as_cons (k_v gd4 11 (by decide +kernel)) (as_cons (k_v gd4 12 (by decide +kernel)) as_nil rfl) rfl)))) (fun _ gd4 cv4 fr4 hp4 => (k_v gd4 14 (by decide +kernel))))
    (ss_cons (k_set gd hp3 5 .fro (e_lst (t := .fro) (.inr ⟨rfl, rfl⟩) as_nil) (by decide +kernel))
    (ss_cons (k_for gd hp3 [] (it_o (w_e (k_v gd 13 (by decide +kernel)))) (fun fr5 hp5 => (k_gn gd hp5 14 (by decide +kernel))) (fun fr5 hp5 => (ss_cons (k_set gd hp5 5 .fro (e_lcat (.inr ⟨rfl, rfl⟩) (o_e (e_lcat (.inr ⟨rfl, rfl⟩) (o_e (k_v gd 5 (by decide +kernel))) (o_e (e_lst (t := .fro) (.inr ⟨rfl, rfl⟩) (as_cons (e_tcat (e_slc (w := .fro) (.inr ⟨rfl, rfl⟩) (o_e (e_ix (o_e (k_v gd 8 (by decide +kernel))) (k_v gd 14 (by decide +kernel)) rfl)) (oe_so k_i) oe_no (.inl rfl)) (e_tup (as_cons k_i as_nil rfl))) as_nil rfl))))) (o_e (k_comp gd hp5 [] [(PySem.Str.ofString "path", 16), (PySem.Str.ofString "goal", 17), (PySem.Str.ofString "ticks", 18)] (t := .fro) (.inr ⟨rfl, rfl⟩) (by decide +kernel) (it_o (w_e (k_v gd 9 (by decide +kernel)))) (fun _ gd6 cv6 fr6 hp6 => (k_gt gd6 (gs_cons (k_gn gd6 hp6 16 (by decide +kernel)) (gs_cons (k_gn gd6 hp6 17 (by decide +kernel)) (gs_cons (k_gn gd6 hp6 18 (by decide +kernel)) gs_nil rfl) rfl) rfl) (by decide +kernel))) (fun _ gd6 cv6 => pc_so fun fr6 hp6 => (k_eqT gd6 false (k_v gd6 16 (by decide +kernel)) (k_v gd6 14 (by decide +kernel)))) (fun _ gd6 cv6 fr6 hp6 => (e_tup (as_cons (k_v gd6 17 (by decide +kernel)) (as_cons (k_v gd6 18 (by decide +kernel)) (as_cons k_i as_nil rfl) rfl) rfl)))))) (by decide +kernel))
    ss_nil)) (by decide +kernel))
    (ss_cons (k_set gd hp3 15 .fro (k_call gd (hc _ _ c_path_of) (a_fr (k_v gd 2 (by decide +kernel)) (a_fr (k_v gd 11 (by decide +kernel)) (a_fr (k_v gd 12 (by decide +kernel)) a_nil rfl) rfl) rfl) (by decide +kernel)) (by decide +kernel))
    (ss_cons (s_ife (PW.pt (w_orr (t_e (k_isi gd .b (o_e (k_v gd 15 (by decide +kernel))) (by decide +kernel)) rfl) (pw_or1 (k_eqT gd true (k_v gd 15 (by decide +kernel)) (e_ife (k_cmT .gt (k_b1 gd .len (o_e (k_v gd 13 (by decide +kernel))) (by decide +kernel)) k_i) (e_ix (o_e (k_v gd 13 (by decide +kernel))) k_i rfl) k_n))))) (ss_cons (s_ret k_b)
    ss_nil) ss_nil)
    (ss_cons (k_set gd hp3 15 .fro (k_call gd (hc _ _ c_steps_from) (a_fr (k_v gd 2 (by decide +kernel)) (a_fr (k_v gd 11 (by decide +kernel)) (a_fr (k_v gd 12 (by decide +kernel)) a_nil rfl) rfl) rfl) (by decide +kernel)) (by decide +kernel))
    (ss_cons (s_ife (PW.pt (w_orr (t_no (t_e (k_isi gd .l (o_e (k_v gd 15 (by decide +kernel))) (by decide +kernel)) rfl)) (pw_or1 (k_eqT gd true (k_v gd 15 (by decide +kernel)) (k_b1 gd .srt (o_e (k_v gd 5 (by decide +kernel))) (by decide +kernel)))))) (ss_cons (s_ret k_b)
    ss_nil) ss_nil)
    ss_nil)))))))) (by decide +kernel))
    ss_nil)) (by decide +kernel))
    (ss_cons (s_ret k_b)
    ss_nil)))))))

end
def cf__law_state : Cf := ⟨tab [], 1000000, tabX []⟩
def fn__law_state : List D → Option (D × List D) := fx__law_state cf__law_state
def fn__law_draw : List D → Option (D × List D) := fxDrawA
def cf__law_map : Cf := ⟨tab [((PySem.Str.ofString "_law_draw"), fn__law_draw)], 1000000, tabX []⟩
def fn__law_map : List D → Option (D × List D) := fx__law_map cf__law_map
def cf_require : Cf := ⟨tab [], 1000000, tabX []⟩
def fn_require : List D → Option Xr := fx_require cf_require
def cf_check_paths : Cf := ⟨tab [], 1000000, tabX [((PySem.Str.ofString "require"), fn_require)]⟩
def fn_check_paths : List D → Option Xr := fx_check_paths cf_check_paths
def cf_check_slips : Cf := ⟨tab [], 1000000, tabX [((PySem.Str.ofString "require"), fn_require)]⟩
def fn_check_slips : List D → Option Xr := fx_check_slips cf_check_slips
def cf_check_map : Cf := ⟨tab [], 1000000, tabX [((PySem.Str.ofString "require"), fn_require), ((PySem.Str.ofString "check_paths"), fn_check_paths), ((PySem.Str.ofString "check_slips"), fn_check_slips)]⟩
def fn_check_map : List D → Option Xr := fx_check_map cf_check_map
def cf__law_told : Cf := ⟨tab [], 1000000, tabX [((PySem.Str.ofString "check_map"), fn_check_map)]⟩
def fn__law_told : List D → Option (D × List D) := fx__law_told cf__law_told
def cf__law_swap : Cf := ⟨tab [], 1000000, tabX []⟩
def fn__law_swap : List D → Option (D × List D) := fx__law_swap cf__law_swap
def cf__law_bad : Cf := ⟨tab [((PySem.Str.ofString "_law_draw"), fn__law_draw), ((PySem.Str.ofString "_law_swap"), fn__law_swap)], 1000000, tabX []⟩
def fn__law_bad : List D → Option (D × List D) := fx__law_bad cf__law_bad
def cf_path_of : Cf := ⟨tab [], 1000000, tabX []⟩
def fn_path_of : List D → Option (D × List D) := fx_path_of cf_path_of
def cf_steps_from : Cf := ⟨tab [((PySem.Str.ofString "path_of"), fn_path_of)], 1000000, tabX []⟩
def fn_steps_from : List D → Option (D × List D) := fx_steps_from cf_steps_from
def cf_law : Cf := ⟨tab [((PySem.Str.ofString "_law_state"), fn__law_state), ((PySem.Str.ofString "_law_map"), fn__law_map), ((PySem.Str.ofString "_law_draw"), fn__law_draw), ((PySem.Str.ofString "_law_told"), fn__law_told), ((PySem.Str.ofString "_law_bad"), fn__law_bad), ((PySem.Str.ofString "path_of"), fn_path_of), ((PySem.Str.ofString "steps_from"), fn_steps_from)], 1000000, tabX []⟩
def fn_law : List D → Option (D × List D) := fx_law cf_law
end Lw_k01
namespace Lw_k01
open PySem PySem.Spec L2 Vw
/-! ### the mathematics of k01: what check_map says -/
structure Row where
  s : Int
  w : Int
  g : Int
  t : Int
def rowD (r : Row) : D := .tuple [.int r.s, .int r.w, .int r.g, .int r.t]
structure Slip where
  p : Int
  g : Int
  t : Int
def slipD (r : Slip) : D := .tuple [.int r.p, .int r.g, .int r.t]
def mapD (sg : List Int) (rows : List Row) (sl : List Slip) (tr : Int) : D := .tuple [.tuple (sg.map .int), .tuple (rows.map rowD), .tuple (sl.map slipD), .int tr]
def pairD (p : Int × Int) : D := .tuple [.int p.1, .int p.2]
def eF (r : Str) (i : Int) : Fs := [(PySem.Str.ofString "rule", .str r), (PySem.Str.ofString "index", .int i)]
abbrev Bad := Option (Str × Int)
def req (b : Bool) (r : Str) (i : Int) (z : Bad) : Bad := if b = true then z else some (r, i)
def bo : Bad → Bad → Bad
  | none, z => z
  | some b, _ => some b
theorem bo_req {b : Bool} {r : Str} {i : Int} {y z : Bad} : bo (req b r i y) z = req b r i (bo y z) := by cases b <;> rfl
def xrB (o : List D) : Bad → Xr
  | none => .ret .none o
  | some b => .exn (PySem.Str.ofString "MapError") (eF b.1 b.2)
theorem w_rq {c : Cf} (hc : c.fx (PySem.Str.ofString "require") = fn_require) {es : Es} {ρ ρ' : Rho} {K : Po} {b : Bool} {r : Str} {i : Int} {tot rest : Bad} (et : tot = req b r i rest) (he : evs c es ρ = some ([.bool b, .str r, .int i], ρ')) (h1 : b = true → tot = rest → K.N ρ') (h2 : tot = some (r, i) → K.X (PySem.Str.ofString "MapError") (eF r i) ρ') : WpS c (.cx (PySem.Str.ofString "require") es) ρ K := by
  cases b with
  | true => exact w_cx (r := .ret .none [.bool true, .str r, .int i]) he (by rw [hc]; rfl) (h1 rfl et)
  | false => exact w_cx (r := .exn (PySem.Str.ofString "MapError") (eF r i)) he (by rw [hc]; rfl) (h2 et)
theorem w_cxB {c : Cf} {f : Str} {es : Es} {ρ ρ' : Rho} {K : Po} {ds o : List D} {tot bad rest : Bad} (et : tot = bo bad rest) (he : evs c es ρ = some (ds, ρ')) (hf : c.fx f ds = some (xrB o bad)) (h1 : tot = rest → K.N ρ') (h2 : ∀ r i, tot = some (r, i) → K.X (PySem.Str.ofString "MapError") (eF r i) ρ') : WpS c (.cx f es) ρ K := by
  cases bad with
  | none => exact w_cx (r := .ret .none o) he hf (h1 et)
  | some b => exact w_cx (r := .exn (PySem.Str.ofString "MapError") (eF b.1 b.2)) he hf (h2 b.1 b.2 et)
/-- what is told is what was raised -/
theorem xr_of {o : List D} {tot : Bad} {r : Str} {i : Int} (h : tot = some (r, i)) : Xr.exn (PySem.Str.ofString "MapError") (eF r i) = xrB o tot := by
  rw [h]
  rfl
theorem xr_no {o : List D} {tot : Bad} (h : tot = none) : Xr.ret .none o = xrB o tot := by
  rw [h]
  rfl
theorem lenT_map {α : Type} (f : α → D) (l : List α) : b1D .len (.tuple (l.map f)) = some (.int (l.length : Int)) := by rw [len_b1T, List.length_map]
theorem lenL_map {α : Type} (f : α → D) (l : List α) : b1D .len (.list (l.map f)) = some (.int (l.length : Int)) := by rw [len_b1L, List.length_map]
theorem enum_at {l : List D} {i : Nat} (h : i < (enumD l).length) : ∃ h' : i < l.length, (enumD l)[i] = .tuple [.int (i : Nat), l[i]] := by
  have h' : i < l.length := by simpa [enumD] using h
  refine ⟨h', ?_⟩
  simp [enumD, h']
theorem enum_len {l : List D} : (enumD l).length = l.length := by simp [enumD]
theorem take_succ' {α : Type} {l : List α} {k : Nat} (h : k < l.length) : l.take (k + 1) = l.take k ++ [l[k]] := by
  rw [List.take_add_one, List.getElem?_eq_getElem h]
  rfl
theorem beq_dec (a b : Int) : (a == b) = decide (a = b) := by
  rw [Bool.eq_iff_iff]
  simp
theorem r_eqi {c : Cf} {ρ ρ1 ρ2 : Rho} {a b : E} {x y : Int} (ha : ev c a ρ = some (.int x, ρ1)) (hb : ev c b ρ1 = some (.int y, ρ2)) : ev c (.eq false a b) ρ = some (.bool (decide (x = y)), ρ2) := by
  have := r_eq (ng := false) ha hb rfl rfl
  rw [bneF, show PyData.eqv (.int x) (.int y) = (x == y) from rfl, beq_dec] at this
  exact this
theorem eqv_pair (p q : Int × Int) : PyData.eqv (pairD p) (pairD q) = decide (p = q) := by
  obtain ⟨a, b⟩ := p
  obtain ⟨x, y⟩ := q
  show ((a == x) && ((b == y) && true)) = _
  rw [beq_dec, beq_dec, Bool.and_true, Bool.eq_iff_iff]
  simp
theorem any_pair (l : List (Int × Int)) (q : Int × Int) : ((l.map pairD).any fun e => PyData.eqv e (pairD q)) = decide (q ∈ l) := by
  induction l with
  | nil => simp
  | cons y r ih =>
    rw [List.map_cons, List.any_cons, ih, eqv_pair, Bool.eq_iff_iff, Bool.or_eq_true, decide_eq_true_eq, decide_eq_true_eq, decide_eq_true_eq, List.mem_cons]
    exact ⟨fun h => h.elim (fun e => .inl e.symm) .inr, fun h => h.elim (fun e => .inl e.symm) .inr⟩
theorem sh_pair (p : Int × Int) : Sh 1 (pairD p) := sh_tup (k := 0) (sh_cons (sh_int _) (sh_cons (sh_int _) sh_nil))
theorem r_ins {c : Cf} {ρ ρ1 : Rho} {ng : Bool} {a : E} {x : D} {i : Nat} {l : List D} (ha : ev c a ρ = some (x, ρ1)) (hb : Vw.get ρ1 i = some (.list l)) (h1 : SeqAt.shaped x = true) (h2 : SeqAt.shaped (.list l) = true) : ev c (.ins ng a i) ρ = some (.bool (l.any (fun e => PyData.eqv e x) != ng), ρ1) := by
  show (ev c a ρ).bind _ = _
  rw [ha]
  show (Vw.get ρ1 i).bind _ = _
  rw [hb]
  show (if _ then _ else _ : Option D).map _ = _
  rw [if_pos ⟨h1, h2⟩]
  rfl
def key (r : Row) : Int × Int := (r.s, r.w)
/-- one path -/
def chkR (n : Int) (k : Nat) (seen : List (Int × Int)) (r : Row) (z : Bad) : Bad :=
  req (cmI .le 0 r.s && cmI .lt r.s n) (PySem.Str.ofString "start") k (req (cmI .le 0 r.w && cmI .lt r.w 6) (PySem.Str.ofString "way") k
    (req (cmI .le 0 r.g && cmI .lt r.g n) (PySem.Str.ofString "goal") k (req (cmI .le 1 r.t && cmI .le r.t 6) (PySem.Str.ofString "ticks") k
      (req (!decide (key r ∈ seen)) (PySem.Str.ofString "twice") k z))))
def chkP (n : Int) : Nat → List (Int × Int) → List Row → Bad
  | _, _, [] => none
  | k, seen, r :: l => chkR n k seen r (chkP n (k + 1) (seen ++ [key r]) l)
def chkPs (n : Int) (rows : List Row) : Bad := req (cmI .le (rows.length : Int) 72) (PySem.Str.ofString "paths") (rows.length : Int) (chkP n 0 [] rows)
theorem chkP_end (n : Int) (seen : List (Int × Int)) (l : List Row) : chkP n l.length seen (l.drop l.length) = none := by
  rw [List.drop_length]
  rfl
theorem check_paths_ok (rows : List Row) (n : Int) (hl : rows.length ≤ 10000) : fn_check_paths [.tuple (rows.map rowD), .int n] = some (xrB [.tuple (rows.map rowD), .int n] (chkPs n rows)) := by
  have h : ∃ r, fn_check_paths [.tuple (rows.map rowD), .int n] = some r ∧ r = xrB [.tuple (rows.map rowD), .int n] (chkPs n rows) := by
    refine fx_rule (c := cf_check_paths) (ps := sg_check_paths.ps) (n := 8) (b := ir_check_paths) (ds := [.tuple (rows.map rowD), .int n]) (Q := fun r => r = xrB [.tuple (rows.map rowD), .int n] (chkPs n rows)) ?_
    refine wp_cons (w_rq (tot := chkPs n rows) rfl rfl (r_cons (r_cm (i := (rows.length : Int)) (r_b1 (r_oe rfl) (lenT_map _ rows)) rfl) (r_cons rfl (r_cons (r_b1 (r_oe rfl) (lenT_map _ rows)) r_nil))) (fun z et => ?_) fun et => xr_of et)
    have hl72 : rows.length ≤ 72 := by
      have : (rows.length : Int) ≤ 72 := of_decide_eq_true z
      omega
    refine wp_cons (w_set (d := .list []) rfl ?_)
    refine wp_cons (w_for (ds := enumD (rows.map rowD)) (sv := []) rfl (fun k ρ => chkPs n rows = chkP n k ((rows.take k).map key) (rows.drop k) ∧ ∃ x3 x4 x5 x6 x7, ρ = [some (.tuple (rows.map rowD)), some (.int n), some (.list (((rows.take k).map key).map pairD)), x3, x4, x5, x6, x7]) ⟨et, _, _, _, _, _, rfl⟩ ?_ ?_)
    · rintro k hk _ ⟨e0, x3, x4, x5, x6, x7, rfl⟩
      obtain ⟨hk2, e⟩ := enum_at hk
      have hk' : k < rows.length := by simpa using hk2
      rw [e, List.getElem_map]
      rw [List.drop_eq_getElem_cons hk'] at e0
      have et : (rows.take (k + 1)).map key = (rows.take k).map key ++ [key rows[k]] := by rw [take_succ' hk', List.map_append]; rfl
      have hsl : (rows.take k).length = k := by rw [List.length_take]; omega
      have hsl2 : ((rows.take k).map key).length = k := by rw [List.length_map, hsl]
      rw [et]
      generalize rows[k] = r at *
      generalize (rows.take k).map key = seen at *
      refine ⟨_, rfl, ?_⟩
      refine wp_cons (w_rq rfl e0 (r_cons (r_ch (j := r.s) rfl rfl rfl) (r_cons rfl (r_cons rfl r_nil))) (fun _ e0 => ?_) fun et => xr_of et)
      refine wp_cons (w_rq rfl e0 (r_cons (r_ch (j := r.w) rfl rfl rfl) (r_cons rfl (r_cons rfl r_nil))) (fun _ e0 => ?_) fun et => xr_of et)
      refine wp_cons (w_rq rfl e0 (r_cons (r_ch (j := r.g) rfl rfl rfl) (r_cons rfl (r_cons rfl r_nil))) (fun _ e0 => ?_) fun et => xr_of et)
      refine wp_cons (w_rq rfl e0 (r_cons (r_ch (j := r.t) rfl rfl rfl) (r_cons rfl (r_cons rfl r_nil))) (fun _ e0 => ?_) fun et => xr_of et)
      have ei := r_ins (c := cf_check_paths) (ng := true) (a := .tup (.cons (.v 4) (.cons (.v 5) .nil))) (x := pairD (key r)) (i := 2) (ρ := [some (.tuple (rows.map rowD)), some (.int n), some (.list (seen.map pairD)), some (.int (k : Int)), some (.int r.s), some (.int r.w), some (.int r.g), some (.int r.t)]) rfl rfl (sh_pair _).ok (sh_list (sh_map sh_pair)).ok
      rw [bneT, any_pair] at ei
      refine wp_cons (w_rq rfl e0 (r_cons ei (r_cons rfl (r_cons rfl r_nil))) (fun _ e0 => ?_) fun et => xr_of et)
      refine wp_cons (w_app rfl rfl rfl (by rw [List.length_map]; omega) (wp_nil ⟨e0, some (.int (k : Int)), some (.int r.s), some (.int r.w), some (.int r.g), some (.int r.t), ?_⟩))
      rw [List.map_append]
      rfl
    · rintro _ ⟨e0, x3, x4, x5, x6, x7, rfl⟩
      rw [enum_len, List.length_map, chkP_end] at e0
      exact ⟨_, rfl, wp_nil ⟨_, rfl, xr_no e0⟩⟩
  obtain ⟨r, e, rfl⟩ := h
  exact e
def chkL (n m : Int) : Nat → List Slip → Bad
  | _, [] => none
  | k, r :: l => req (cmI .le 0 r.p && cmI .lt r.p m) (PySem.Str.ofString "path") k (req (cmI .le 0 r.g && cmI .lt r.g n) (PySem.Str.ofString "goal") k
      (req (cmI .le 1 r.t && cmI .le r.t 6) (PySem.Str.ofString "ticks") k (chkL n m (k + 1) l)))
def chkLs (n m : Int) (sl : List Slip) : Bad := req (cmI .le (sl.length : Int) 24) (PySem.Str.ofString "slips") (sl.length : Int) (chkL n m 0 sl)
theorem chkL_end (n m : Int) (l : List Slip) : chkL n m l.length (l.drop l.length) = none := by
  rw [List.drop_length]
  rfl
theorem check_slips_ok (sl : List Slip) (rows : List Row) (n : Int) : fn_check_slips [.tuple (sl.map slipD), .tuple (rows.map rowD), .int n] = some (xrB [.tuple (sl.map slipD), .tuple (rows.map rowD), .int n] (chkLs n (rows.length : Int) sl)) := by
  have h : ∃ r, fn_check_slips [.tuple (sl.map slipD), .tuple (rows.map rowD), .int n] = some r ∧ r = xrB [.tuple (sl.map slipD), .tuple (rows.map rowD), .int n] (chkLs n (rows.length : Int) sl) := by
    refine fx_rule (c := cf_check_slips) (ps := sg_check_slips.ps) (n := 7) (b := ir_check_slips) (ds := [.tuple (sl.map slipD), .tuple (rows.map rowD), .int n]) (Q := fun r => r = xrB [.tuple (sl.map slipD), .tuple (rows.map rowD), .int n] (chkLs n (rows.length : Int) sl)) ?_
    refine wp_cons (w_rq (tot := chkLs n (rows.length : Int) sl) rfl rfl (r_cons (r_cm (i := (sl.length : Int)) (r_b1 (r_oe rfl) (lenT_map _ sl)) rfl) (r_cons rfl (r_cons (r_b1 (r_oe rfl) (lenT_map _ sl)) r_nil))) (fun z et => ?_) fun et => xr_of et)
    refine wp_cons (w_for (ds := enumD (sl.map slipD)) (sv := []) rfl (fun k ρ => chkLs n (rows.length : Int) sl = chkL n (rows.length : Int) k (sl.drop k) ∧ ∃ x3 x4 x5 x6, ρ = [some (.tuple (sl.map slipD)), some (.tuple (rows.map rowD)), some (.int n), x3, x4, x5, x6]) ⟨et, _, _, _, _, rfl⟩ ?_ ?_)
    · rintro k hk _ ⟨e0, x3, x4, x5, x6, rfl⟩
      obtain ⟨hk2, e⟩ := enum_at hk
      have hk' : k < sl.length := by simpa using hk2
      rw [e, List.getElem_map]
      rw [List.drop_eq_getElem_cons hk'] at e0
      generalize sl[k] = r at *
      refine ⟨_, rfl, ?_⟩
      refine wp_cons (w_rq rfl e0 (r_cons (r_ch (j := r.p) rfl rfl (r_b1 (r_oe rfl) (lenT_map _ rows))) (r_cons rfl (r_cons rfl r_nil))) (fun _ e0 => ?_) fun et => xr_of et)
      refine wp_cons (w_rq rfl e0 (r_cons (r_ch (j := r.g) rfl rfl rfl) (r_cons rfl (r_cons rfl r_nil))) (fun _ e0 => ?_) fun et => xr_of et)
      refine wp_cons (w_rq rfl e0 (r_cons (r_ch (j := r.t) rfl rfl rfl) (r_cons rfl (r_cons rfl r_nil))) (fun _ e0 => ?_) fun et => xr_of et)
      exact wp_nil ⟨e0, _, _, _, _, rfl⟩
    · rintro _ ⟨e0, x3, x4, x5, x6, rfl⟩
      rw [enum_len, List.length_map, chkL_end] at e0
      exact ⟨_, rfl, wp_nil ⟨_, rfl, xr_no e0⟩⟩
  obtain ⟨r, e, rfl⟩ := h
  exact e
def chkS : Nat → List Int → Bad
  | _, [] => none
  | k, x :: l => req (cmI .le 0 x && cmI .le x 9) (PySem.Str.ofString "sign") k (chkS (k + 1) l)
theorem chkS_end (l : List Int) : chkS l.length (l.drop l.length) = none := by
  rw [List.drop_length]
  rfl
def chkT (tr : Int) : Bad := req (cmI .le 0 tr && cmI .le tr 4) (PySem.Str.ofString "troubles") tr none
def chk (sg : List Int) (rows : List Row) (sl : List Slip) (tr : Int) : Bad :=
  req (cmI .le 1 (sg.length : Int) && cmI .le (sg.length : Int) 12) (PySem.Str.ofString "points") (sg.length : Int)
    (bo (chkS 0 sg) (bo (chkPs (sg.length : Int) rows) (bo (chkLs (sg.length : Int) (rows.length : Int) sl) (chkT tr))))
theorem check_ok (sg : List Int) (rows : List Row) (sl : List Slip) (tr : Int) (hl : rows.length ≤ 10000) : fn_check_map [mapD sg rows sl tr] = some (xrB [mapD sg rows sl tr] (chk sg rows sl tr)) := by
  have h : ∃ r, fn_check_map [mapD sg rows sl tr] = some r ∧ r = xrB [mapD sg rows sl tr] (chk sg rows sl tr) := by
    refine fx_rule (c := cf_check_map) (ps := sg_check_map.ps) (n := 7) (b := ir_check_map) (ds := [mapD sg rows sl tr]) (Q := fun r => r = xrB [mapD sg rows sl tr] (chk sg rows sl tr)) ?_
    refine wp_cons (w_unp rfl rfl ?_)
    have hlen := lenT_map PyData.int sg
    refine wp_cons (w_rq (tot := chk sg rows sl tr) rfl rfl (r_cons (r_ch (j := (sg.length : Int)) rfl (r_b1 (r_oe rfl) hlen) rfl) (r_cons rfl (r_cons (r_b1 (r_oe rfl) hlen) r_nil))) (fun z et => ?_) fun et => xr_of et)
    refine wp_cons (w_for (ds := enumD (sg.map .int)) (sv := []) rfl (fun k ρ => chk sg rows sl tr = bo (chkS k (sg.drop k)) (bo (chkPs (sg.length : Int) rows) (bo (chkLs (sg.length : Int) (rows.length : Int) sl) (chkT tr))) ∧ ∃ x5 x6, ρ = [some (mapD sg rows sl tr), some (.tuple (sg.map .int)), some (.tuple (rows.map rowD)), some (.tuple (sl.map slipD)), some (.int tr), x5, x6]) ⟨et, _, _, rfl⟩ ?_ ?_)
    · rintro k hk _ ⟨e0, x5, x6, rfl⟩
      obtain ⟨hk2, e⟩ := enum_at hk
      have hk' : k < sg.length := by simpa using hk2
      rw [e, List.getElem_map]
      rw [List.drop_eq_getElem_cons hk', show ∀ x l, chkS k (x :: l) = req (cmI .le 0 x && cmI .le x 9) (PySem.Str.ofString "sign") k (chkS (k + 1) l) from fun _ _ => rfl, bo_req] at e0
      generalize sg[k] = x at *
      refine ⟨_, rfl, ?_⟩
      refine wp_cons (w_rq rfl e0 (r_cons (r_ch (j := x) rfl rfl rfl) (r_cons rfl (r_cons rfl r_nil))) (fun _ e0 => ?_) fun et => xr_of et)
      exact wp_nil ⟨e0, _, _, rfl⟩
    · rintro _ ⟨e0, x5, x6, rfl⟩
      rw [enum_len, List.length_map, chkS_end] at e0
      have e0 : chk sg rows sl tr = bo (chkPs (sg.length : Int) rows) (bo (chkLs (sg.length : Int) (rows.length : Int) sl) (chkT tr)) := e0
      refine ⟨_, rfl, ?_⟩
      refine wp_cons (w_cxB (o := [.tuple (rows.map rowD), .int (sg.length : Int)]) e0 (r_cons rfl (r_cons (r_b1 (r_oe rfl) hlen) r_nil)) (check_paths_ok rows (sg.length : Int) hl) (fun e0 => ?_) fun r i et => xr_of et)
      refine wp_cons (w_cxB (o := [.tuple (sl.map slipD), .tuple (rows.map rowD), .int (sg.length : Int)]) e0 (r_cons rfl (r_cons rfl (r_cons (r_b1 (r_oe rfl) hlen) r_nil))) (check_slips_ok sl rows (sg.length : Int)) (fun e0 => ?_) fun r i et => xr_of et)
      refine wp_cons (w_rq rfl e0 (r_cons (r_ch (j := tr) rfl rfl rfl) (r_cons rfl (r_cons rfl r_nil))) (fun _ e0 => ?_) fun et => xr_of et)
      exact wp_nil ⟨_, rfl, xr_no e0⟩
  obtain ⟨r, e, rfl⟩ := h
  exact e
def badD : Bad → D
  | none => .tuple []
  | some b => .tuple [.str b.1, .int b.2]
theorem told_ok (sg : List Int) (rows : List Row) (sl : List Slip) (tr : Int) (hl : rows.length ≤ 10000) : fn__law_told [mapD sg rows sl tr] = some (badD (chk sg rows sl tr), [mapD sg rows sl tr]) := by
  refine eq_of (fn_rule (c := cf__law_told) (ps := sg__law_told.ps) (n := 3) (b := ir__law_told) (ds := [mapD sg rows sl tr]) (Q := fun d o => d = badD (chk sg rows sl tr) ∧ o = [mapD sg rows sl tr]) ?_)
  refine wp_cons (w_tr (wp_cons (w_sx (r_cons rfl r_nil) (check_ok sg rows sl tr hl) ?_)))
  cases h : chk sg rows sl tr with
  | none => exact wp_nil (wp_cons (w_ret (d := badD none) rfl ⟨_, rfl, rfl, rfl⟩))
  | some b => exact ⟨rfl, Nat.lt_succ_self 2, badD (some b), rfl, _, rfl, rfl, rfl⟩
end Lw_k01
namespace Lw_k01
open PySem PySem.Spec L2 Vw
/-! ### right and wrong maps -/

theorem req_t {b : Bool} {r : Str} {i : Int} {z : Bad} (h : b = true) : req b r i z = z := if_pos h
theorem req_f {b : Bool} {r : Str} {i : Int} {z : Bad} (h : b = false) : req b r i z = some (r, i) := if_neg (by rw [h]; exact Bool.false_ne_true)
theorem lt_t {a x n : Int} (h : a ≤ x ∧ x < n) : (cmI .le a x && cmI .lt x n) = true := by
  rw [show cmI .le a x = true from decide_eq_true h.1, show cmI .lt x n = true from decide_eq_true h.2]
  rfl
theorem lt_f {a x n : Int} (h : ¬ (a ≤ x ∧ x < n)) : (cmI .le a x && cmI .lt x n) = false := by
  rw [Bool.and_eq_false_iff]
  by_cases h1 : a ≤ x
  · exact .inr (decide_eq_false fun h2 => h ⟨h1, h2⟩)
  · exact .inl (decide_eq_false h1)
theorem le_t {a x n : Int} (h : a ≤ x ∧ x ≤ n) : (cmI .le a x && cmI .le x n) = true := by
  rw [show cmI .le a x = true from decide_eq_true h.1, show cmI .le x n = true from decide_eq_true h.2]
  rfl
theorem le_f {a x n : Int} (h : ¬ (a ≤ x ∧ x ≤ n)) : (cmI .le a x && cmI .le x n) = false := by
  rw [Bool.and_eq_false_iff]
  by_cases h1 : a ≤ x
  · exact .inr (decide_eq_false fun h2 => h ⟨h1, h2⟩)
  · exact .inl (decide_eq_false h1)
structure RowOk (n : Int) (r : Row) : Prop where
  s : 0 ≤ r.s ∧ r.s < n
  w : 0 ≤ r.w ∧ r.w < 6
  g : 0 ≤ r.g ∧ r.g < n
  t : 1 ≤ r.t ∧ r.t ≤ 6
structure SlipOk (n m : Int) (r : Slip) : Prop where
  p : 0 ≤ r.p ∧ r.p < m
  g : 0 ≤ r.g ∧ r.g < n
  t : 1 ≤ r.t ∧ r.t ≤ 6
structure Ok (sg : List Int) (rows : List Row) (sl : List Slip) (tr : Int) : Prop where
  n1 : 1 ≤ sg.length
  n2 : sg.length ≤ 12
  hs : ∀ x ∈ sg, 0 ≤ x ∧ x ≤ 9
  hr : ∀ r ∈ rows, RowOk (sg.length : Int) r
  nd : (rows.map key).Nodup
  rl : rows.length ≤ 72
  hl : ∀ r ∈ sl, SlipOk (sg.length : Int) (rows.length : Int) r
  ll : sl.length ≤ 24
  ht : 0 ≤ tr ∧ tr ≤ 4
section
variable {n m : Int} {k : Nat} {seen : List (Int × Int)} {r : Row} {z : Bad}
theorem chkR_ok (h : RowOk n r) (hn : key r ∉ seen) : chkR n k seen r z = z := by
  unfold chkR
  rw [req_t (lt_t h.s), req_t (lt_t h.w), req_t (lt_t h.g), req_t (le_t h.t), decide_eq_false hn]
  rfl
theorem chkR_twice (h : RowOk n r) (hn : key r ∈ seen) : chkR n k seen r z = some (PySem.Str.ofString "twice", (k : Int)) := by
  unfold chkR
  rw [req_t (lt_t h.s), req_t (lt_t h.w), req_t (lt_t h.g), req_t (le_t h.t), decide_eq_true hn]
  rfl
theorem chkR_start (h : ¬ (0 ≤ r.s ∧ r.s < n)) : chkR n k seen r z = some (PySem.Str.ofString "start", (k : Int)) := req_f (lt_f h)
theorem chkR_way (h : 0 ≤ r.s ∧ r.s < n) (h2 : ¬ (0 ≤ r.w ∧ r.w < 6)) : chkR n k seen r z = some (PySem.Str.ofString "way", (k : Int)) := (req_t (lt_t h)).trans (req_f (lt_f h2))
theorem chkR_goal (h : 0 ≤ r.s ∧ r.s < n) (h2 : 0 ≤ r.w ∧ r.w < 6) (h3 : ¬ (0 ≤ r.g ∧ r.g < n)) : chkR n k seen r z = some (PySem.Str.ofString "goal", (k : Int)) := (req_t (lt_t h)).trans ((req_t (lt_t h2)).trans (req_f (lt_f h3)))
theorem chkR_ticks (h : 0 ≤ r.s ∧ r.s < n) (h2 : 0 ≤ r.w ∧ r.w < 6) (h3 : 0 ≤ r.g ∧ r.g < n) (h4 : ¬ (1 ≤ r.t ∧ r.t ≤ 6)) : chkR n k seen r z = some (PySem.Str.ofString "ticks", (k : Int)) := (req_t (lt_t h)).trans ((req_t (lt_t h2)).trans ((req_t (lt_t h3)).trans (req_f (le_f h4))))
end
theorem chkP_app {n : Int} {rest : List Row} : ∀ {l : List Row} {k : Nat} {seen : List (Int × Int)}, (∀ r ∈ l, RowOk n r) → (seen ++ l.map key).Nodup → chkP n k seen (l ++ rest) = chkP n (k + l.length) (seen ++ l.map key) rest
  | [], k, seen, _, _ => by simp
  | r :: l, k, seen, h, nd => by
    have hn : key r ∉ seen := fun hm => by
      rw [List.nodup_append] at nd
      exact nd.2.2 _ hm _ List.mem_cons_self rfl
    have e : seen ++ (r :: l).map key = (seen ++ [key r]) ++ l.map key := by simp
    show chkR n k seen r (chkP n (k + 1) (seen ++ [key r]) (l ++ rest)) = _
    rw [chkR_ok (h r List.mem_cons_self) hn, chkP_app (fun x hx => h x (List.mem_cons_of_mem _ hx)) (by rw [← e]; exact nd), e, List.length_cons, show k + 1 + l.length = k + (l.length + 1) by omega]
theorem chkS_app {rest : List Int} : ∀ {l : List Int} {k : Nat}, (∀ x ∈ l, 0 ≤ x ∧ x ≤ 9) → chkS k (l ++ rest) = chkS (k + l.length) rest
  | [], k, _ => by simp
  | x :: l, k, h => by
    show req _ _ _ (chkS (k + 1) (l ++ rest)) = _
    rw [req_t (le_t (h x List.mem_cons_self)), chkS_app (fun x hx => h x (List.mem_cons_of_mem _ hx)), List.length_cons, show k + 1 + l.length = k + (l.length + 1) by omega]
theorem chkL_app {n m : Int} {rest : List Slip} : ∀ {l : List Slip} {k : Nat}, (∀ r ∈ l, SlipOk n m r) → chkL n m k (l ++ rest) = chkL n m (k + l.length) rest
  | [], k, _ => by simp
  | x :: l, k, h => by
    have g := h x List.mem_cons_self
    show req _ _ _ (req _ _ _ (req _ _ _ (chkL n m (k + 1) (l ++ rest)))) = _
    rw [req_t (lt_t g.p), req_t (lt_t g.g), req_t (le_t g.t), chkL_app (fun x hx => h x (List.mem_cons_of_mem _ hx)), List.length_cons, show k + 1 + l.length = k + (l.length + 1) by omega]
section
variable {sg : List Int} {rows : List Row} {sl : List Slip} {tr : Int}
theorem chk_sg (n1 : 1 ≤ sg.length) (n2 : sg.length ≤ 12) {rows : List Row} {sl : List Slip} {tr : Int} : chk sg rows sl tr = bo (chkS 0 sg) (bo (chkPs (sg.length : Int) rows) (bo (chkLs (sg.length : Int) (rows.length : Int) sl) (chkT tr))) := req_t (le_t ⟨by omega, by omega⟩)
theorem chkS_ok (h : ∀ x ∈ sg, 0 ≤ x ∧ x ≤ 9) : chkS 0 sg = none := by
  have := chkS_app (rest := []) (k := 0) h
  rwa [List.append_nil] at this
theorem chkPs_ok {n : Int} (h : ∀ r ∈ rows, RowOk n r) (nd : (rows.map key).Nodup) (rl : rows.length ≤ 72) : chkPs n rows = none := by
  unfold chkPs
  rw [req_t (show cmI .le (rows.length : Int) 72 = true from decide_eq_true (by omega))]
  have := chkP_app (n := n) (rest := []) (k := 0) (seen := []) h nd
  rwa [List.append_nil] at this
theorem chkLs_ok {n m : Int} (h : ∀ r ∈ sl, SlipOk n m r) (ll : sl.length ≤ 24) : chkLs n m sl = none := by
  unfold chkLs
  rw [req_t (show cmI .le (sl.length : Int) 24 = true from decide_eq_true (by omega))]
  have := chkL_app (n := n) (m := m) (rest := []) (k := 0) h
  rwa [List.append_nil] at this
variable (g : Ok sg rows sl tr)
include g
theorem Ok.upS {rows : List Row} {sl : List Slip} {tr : Int} : chk sg rows sl tr = bo (chkPs (sg.length : Int) rows) (bo (chkLs (sg.length : Int) (rows.length : Int) sl) (chkT tr)) := by
  rw [chk_sg g.n1 g.n2, chkS_ok g.hs]
  rfl
theorem Ok.upP {sl : List Slip} {tr : Int} : chk sg rows sl tr = bo (chkLs (sg.length : Int) (rows.length : Int) sl) (chkT tr) := by
  rw [g.upS, chkPs_ok g.hr g.nd g.rl]
  rfl
theorem Ok.upL {tr : Int} : chk sg rows sl tr = chkT tr := by
  rw [g.upP, chkLs_ok g.hl g.ll]
  rfl
theorem Ok.good : chk sg rows sl tr = none := by
  rw [g.upL]
  exact req_t (le_t g.ht)
theorem Ok.sign {k : Nat} (hk : k < sg.length) {v : Int} (hv : ¬ (0 ≤ v ∧ v ≤ 9)) (rows : List Row) (sl : List Slip) (tr : Int) : chk (sg.take k ++ v :: sg.drop (k + 1)) rows sl tr = some (PySem.Str.ofString "sign", (k : Int)) := by
  have hl : (sg.take k ++ v :: sg.drop (k + 1)).length = sg.length := by
    rw [List.length_append, List.length_take, List.length_cons, List.length_drop]
    omega
  rw [chk_sg (by rw [hl]; exact g.n1) (by rw [hl]; exact g.n2), chkS_app (fun x hx => g.hs x (List.mem_of_mem_take hx)), List.length_take, Nat.min_eq_left (by omega), Nat.zero_add]
  show bo (req _ _ _ _) _ = _
  rw [req_f (le_f hv)]
  rfl
theorem Ok.row {k : Nat} (hk : k < rows.length) {r : Row} {nm : Str} {sl : List Slip} (h : ∀ z, chkR (sg.length : Int) k ((rows.take k).map key) r z = some (nm, (k : Int))) (tr : Int) : chk sg (rows.take k ++ r :: rows.drop (k + 1)) sl tr = some (nm, (k : Int)) := by
  have hl : (rows.take k ++ r :: rows.drop (k + 1)).length = rows.length := by
    rw [List.length_append, List.length_take, List.length_cons, List.length_drop]
    omega
  have nd : (([] : List (Int × Int)) ++ (rows.take k).map key).Nodup := by
    rw [List.nil_append, List.map_take]
    exact (List.take_sublist _ _).nodup g.nd
  have e : chkPs (sg.length : Int) (rows.take k ++ r :: rows.drop (k + 1)) = some (nm, (k : Int)) := by
    unfold chkPs
    rw [req_t (show cmI .le _ 72 = true from decide_eq_true (by rw [hl]; have := g.rl; omega)), chkP_app (fun x hx => g.hr x (List.mem_of_mem_take hx)) nd, List.length_take, Nat.min_eq_left (by omega), Nat.zero_add, List.nil_append]
    exact h _
  rw [g.upS, e]
  rfl
theorem Ok.paths {rows : List Row} {sl : List Slip} (h : rows.length = 73) (tr : Int) : chk sg rows sl tr = some (PySem.Str.ofString "paths", 73) := by
  have e : chkPs (sg.length : Int) rows = some (PySem.Str.ofString "paths", 73) := by
    unfold chkPs
    rw [h]
    rfl
  rw [g.upS, e]
  rfl
theorem Ok.slips {sl : List Slip} (h : sl.length = 25) (tr : Int) : chk sg rows sl tr = some (PySem.Str.ofString "slips", 25) := by
  have e : chkLs (sg.length : Int) (rows.length : Int) sl = some (PySem.Str.ofString "slips", 25) := by
    unfold chkLs
    rw [h]
    rfl
  rw [g.upP, e]
  rfl
theorem Ok.slip {k : Nat} (hk : k < sl.length) {r : Slip} {nm : Str} (h : ∀ l, chkL (sg.length : Int) (rows.length : Int) k (r :: l) = some (nm, (k : Int))) (tr : Int) : chk sg rows (sl.take k ++ r :: sl.drop (k + 1)) tr = some (nm, (k : Int)) := by
  have hl : (sl.take k ++ r :: sl.drop (k + 1)).length = sl.length := by
    rw [List.length_append, List.length_take, List.length_cons, List.length_drop]
    omega
  have e : chkLs (sg.length : Int) (rows.length : Int) (sl.take k ++ r :: sl.drop (k + 1)) = some (nm, (k : Int)) := by
    unfold chkLs
    rw [req_t (show cmI .le _ 24 = true from decide_eq_true (by rw [hl]; have := g.ll; omega)), chkL_app (fun x hx => g.hl x (List.mem_of_mem_take hx)), List.length_take, Nat.min_eq_left (by omega), Nat.zero_add]
    exact h _
  rw [g.upP, e]
  rfl
end
/-! ### draws -/
theorem draw_rule {c : Cf} (hc : c.fn (PySem.Str.ofString "_law_draw") = fxDrawA) {i : Nat} {e : E} {ρ ρ' : Rho} {m : Int} {x0 : D} {ns : List Int} {s : Int} (h0 : Vw.get ρ i = some x0) (he : ev c e ρ = some (.int m, ρ')) (hs : Vw.get ρ' i = some (stA ns s)) (h1 : 0 < m) (h2 : m < 1073741824) :
    ∃ v ns' s', 0 ≤ v ∧ v < m ∧ ev c (.call (PySem.Str.ofString "_law_draw") (.io i (.fr e .nil))) ρ = some (.int v, put ρ' i (stA ns' s')) := by
  obtain ⟨v, ns', s', v0, v1, e1⟩ := drawA_ok (ns := ns) (s := s) h1 h2
  refine ⟨v, ns', s', v0, v1, ev_call (ags := [.io i, .d (.int m)]) (ds := [stA ns s, .int m]) (ds' := [stA ns' s', .int m]) (a_i h0 (a_f he a_n)) ?_ (by rw [hc]; exact e1) rfl rfl⟩
  show (Vw.get ρ' i).bind _ = _
  rw [hs]
  rfl
theorem law_state_ok (ns : List Int) (hl : ns.length ≤ 63) : ∃ ns' s', fn__law_state [.list (ns.map .int)] = some (stA ns' s', [.list (ns.map .int)]) := by
  have h : ∃ d o, fn__law_state [.list (ns.map .int)] = some (d, o) ∧ ∃ ns' s', d = stA ns' s' ∧ o = [.list (ns.map .int)] := by
    refine fn_rule (c := cf__law_state) (ps := sg__law_state.ps) (n := 3) (b := ir__law_state) (ds := [.list (ns.map .int)]) (Q := fun d o => ∃ ns' s', d = stA ns' s' ∧ o = [.list (ns.map .int)]) ?_
    refine wp_cons (w_set (d := .int 7) rfl ?_)
    refine wp_cons (w_for (ds := ns.map .int) (sv := []) rfl (fun i ρ => ∃ s x2, ρ = [some (.list (ns.map .int)), some (.int s), x2]) ⟨_, _, rfl⟩ ?_ ?_)
    · rintro i hi _ ⟨s, x2, rfl⟩
      rw [List.getElem_map]
      refine ⟨_, rfl, wp_cons (w_set (r_ar (r_b1 (r_oe (r_ar (r_ar rfl rfl (ar_mul (by decide) (by decide))) rfl rfl)) rfl) rfl (ar_mod (by decide))) (wp_nil ⟨_, _, rfl⟩))⟩
    · rintro _ ⟨s, x2, rfl⟩
      have hc : ∃ d ρ', ev cf__law_state (.comp (.b1 .abs (.e (.v 2))) (.n 2) (.o (.e (.v 0))) .no [2]) [some (.list (ns.map .int)), some (.int s), x2] = some (d, ρ') ∧ ∃ ns' : List Int, d = .list (ns'.map .int) ∧ ρ' = [some (.list (ns.map .int)), some (.int s), none] := by
        refine ev_comp (i_o (l := ns.map .int) rfl rfl) (fun acc k ρ => ρ = [some (.list (ns.map .int)), some (.int s), none] ∧ ∃ ac : List Int, acc = ac.map .int ∧ ac.length ≤ k) ⟨rfl, [], rfl, Nat.le_refl _⟩ (fun k hk acc ρ hI => ?_)
          (Q := fun d ρ' => ∃ ns' : List Int, d = .list (ns'.map .int) ∧ ρ' = [some (.list (ns.map .int)), some (.int s), none]) (fun out ρ hI => ?_)
        · obtain ⟨rfl, ac, rfl, h⟩ := hI
          rw [List.getElem_map]
          refine ⟨_, true, _, rfl, rfl, (fun z => by cases z), fun _ => ⟨_, _, rfl, rfl, ac ++ [if ns[k]'(by simpa using hk) < 0 then -(ns[k]'(by simpa using hk)) else ns[k]'(by simpa using hk)], ?_, by simp; omega⟩⟩
          rw [List.map_append]
          rfl
        · obtain ⟨rfl, ac, rfl, h⟩ := hI
          rw [List.length_map] at h
          exact ⟨by rw [List.length_map]; omega, _, rfl, ac, rfl, rfl⟩
      obtain ⟨d, ρ', e, ns', rfl, rfl⟩ := hc
      exact ⟨_, rfl, wp_cons (w_ret (r_lst (r_cons e (r_cons rfl r_nil))) ⟨_, rfl, ns', s + 1, rfl, rfl⟩)⟩
  obtain ⟨d, o, e, ns', s', rfl, rfl⟩ := h
  exact ⟨ns', s', e⟩
theorem drawI {c : Cf} (hc : c.fn (PySem.Str.ofString "_law_draw") = fxDrawA) {e : E} {ρ : Rho} {m : Int} {ns : List Int} {s : Int} (he : ev c e (some (stA ns s) :: ρ) = some (.int m, some (stA ns s) :: ρ)) (h1 : 0 < m) (h2 : m < 1073741824) :
    ∃ v ns' s', 0 ≤ v ∧ v < m ∧ ev c (.call (PySem.Str.ofString "_law_draw") (.io 0 (.fr e .nil))) (some (stA ns s) :: ρ) = some (.int v, some (stA ns' s') :: ρ) := by
  obtain ⟨v, ns', s', a, b, e⟩ := draw_rule hc (i := 0) rfl he rfl h1 h2
  exact ⟨v, ns', s', a, b, e⟩
theorem comp_draw {c : Cf} (hc : c.fn (PySem.Str.ofString "_law_draw") = fxDrawA) {e : E} {ρ ρ' : Rho} {m n : Int} {ns : List Int} {s : Int} {j : Nat} {a : E} (hn0 : 0 ≤ n) (hn : n ≤ 100000) (ha : ev c a (some (stA ns s) :: ρ) = some (.int n, some (stA ns s) :: ρ)) (hw : ∀ x, (put ρ j x).set j none = ρ.set j none)
    (h1 : 0 < m) (h2 : m < 1073741824) (he : ∀ ns s x, ev c e (some (stA ns s) :: put (ρ.set j none) j x) = some (.int m, some (stA ns s) :: put (ρ.set j none) j x)) :
    ∃ sg : List Int, ∃ ns' s', ev c (.comp (.call (PySem.Str.ofString "_law_draw") (.io 0 (.fr e .nil))) (.n (j + 1)) (.r1 a) .no [j + 1]) (some (stA ns s) :: ρ) = some (.list (sg.map .int), some (stA ns' s') :: ρ.set j none) ∧ sg.length = n.toNat := by
  have h : ∃ d ρ', ev c (.comp (.call (PySem.Str.ofString "_law_draw") (.io 0 (.fr e .nil))) (.n (j + 1)) (.r1 a) .no [j + 1]) (some (stA ns s) :: ρ) = some (d, ρ') ∧ ∃ sg : List Int, ∃ ns' s', d = .list (sg.map .int) ∧ ρ' = some (stA ns' s') :: ρ.set j none ∧ sg.length = n.toNat := by
    refine ev_comp (i_r1 ha (inR_small (by omega) (by omega))) (fun acc k ρ1 => ∃ sg : List Int, ∃ ns' s', acc = sg.map .int ∧ ρ1 = some (stA ns' s') :: ρ.set j none ∧ sg.length = k) ⟨[], ns, s, rfl, rfl, rfl⟩ (fun k hk acc ρ1 hI => ?_)
      (Q := fun d ρ' => ∃ sg : List Int, ∃ ns' s', d = .list (sg.map .int) ∧ ρ' = some (stA ns' s') :: ρ.set j none ∧ sg.length = n.toNat) (fun out ρ1 hI => ?_)
    · obtain ⟨sg, ns1, s1, rfl, rfl, hl⟩ := hI
      rw [rng_at hk]
      obtain ⟨v, ns2, s2, v0, v1, e2⟩ := drawI hc (he ns1 s1 (.int (0 + (k : Int)))) h1 h2
      refine ⟨_, true, _, rfl, rfl, (fun z => by cases z), fun _ => ⟨_, _, e2, sg ++ [v], ns2, s2, by rw [List.map_append]; rfl, ?_, by simp [hl]⟩⟩
      show some (stA ns2 s2) :: (put (ρ.set j none) j _).set j none = _
      unfold put
      rw [List.set_set, List.set_set]
    · obtain ⟨sg, ns1, s1, rfl, rfl, hl⟩ := hI
      rw [rng_len] at hl
      exact ⟨by rw [List.length_map]; omega, _, rfl, sg, ns1, s1, rfl, rfl, hl⟩
  obtain ⟨d, ρ', e, sg, ns', s', rfl, rfl, hl⟩ := h
  exact ⟨sg, ns', s', e, hl⟩


theorem pick2 {c : Cf} (hc : c.fn (PySem.Str.ofString "_law_draw") = fxDrawA) {e1 e2 : E} {ρ : Rho} {a b : Int} {ns : List Int} {s : Int} (h1 : ev c e1 (some (stA ns s) :: ρ) = some (.int a, some (stA ns s) :: ρ)) (h2 : ev c e2 (some (stA ns s) :: ρ) = some (.int b, some (stA ns s) :: ρ)) :
    ∃ x ns' s', (x = a ∨ x = b) ∧ ev c (.ix (.e (.lst (.cons e1 (.cons e2 .nil)))) (.call (PySem.Str.ofString "_law_draw") (.io 0 (.fr (.k (.int 2)) .nil)))) (some (stA ns s) :: ρ) = some (.int x, some (stA ns' s') :: ρ) := by
  obtain ⟨v, ns', s', v0, v1, e⟩ := drawI hc (e := .k (.int 2)) (ns := ns) (s := s) (ρ := ρ) rfl (by decide) (by decide)
  have hv : v = 0 ∨ v = 1 := by omega
  rcases hv with rfl | rfl
  · exact ⟨a, ns', s', .inl rfl, r_ix (r_oe (r_lst (r_cons h1 (r_cons h2 r_nil)))) e rfl rfl⟩
  · exact ⟨b, ns', s', .inr rfl, r_ix (r_oe (r_lst (r_cons h1 (r_cons h2 r_nil)))) e rfl rfl⟩
theorem swap_ok {l : List D} {k : Nat} {x : D} (hl : l.length ≤ 1000) : fn__law_swap [.tuple l, .int (k : Int), x] = some (.tuple (l.take k ++ x :: l.drop (k + 1)), [.tuple l, .int (k : Int), x]) := by
  refine eq_of (fn_rule (c := cf__law_swap) (ps := sg__law_swap.ps) (n := 3) (b := ir__law_swap) (ds := [.tuple l, .int (k : Int), x]) (Q := fun d o => d = .tuple (l.take k ++ x :: l.drop (k + 1)) ∧ o = [.tuple l, .int (k : Int), x]) ?_)
  have e1 : ev cf__law_swap (.slc (.e (.v 0)) .no (.so (.v 1))) [some (.tuple l), some (.int (k : Int)), some x] = some (.tuple (l.take k), [some (.tuple l), some (.int (k : Int)), some x]) :=
    slc_b (l := l) (r_oe rfl) rfl rfl (by show some (PyData.tuple (cutD l none (some (k : Int)))) = _; rw [cut_b])
  have e2 : ev cf__law_swap (.slc (.e (.v 0)) (.so (.ar .add (.v 1) (.k (.int 1)))) .no) [some (.tuple l), some (.int (k : Int)), some x] = some (.tuple (l.drop (k + 1)), [some (.tuple l), some (.int (k : Int)), some x]) :=
    slc_a (l := l) (i := ((k + 1 : Nat) : Int)) (r_oe rfl) rfl rfl (by show some (PyData.tuple (cutD l (some ((k + 1 : Nat) : Int)) none)) = _; rw [cut_a])
  have e3 := r_tcat (r_tcat e1 (r_tup (r_cons (a := .v 2) rfl r_nil)) (m := [x]) (by simp; omega)) e2 (by simp; omega)
  exact wp_cons (w_ret e3 ⟨_, rfl, by rw [List.append_assoc]; rfl, rfl⟩)
end Lw_k01
namespace Lw_k01
open PySem PySem.Spec L2 Vw
/-! ### wrong maps -/
structure Fault (sg : List Int) (rows : List Row) (sl : List Slip) (tr : Int) (r : Str) (i : Int) : Prop where
  now : chk sg rows sl tr = some (r, i)
  len : rows.length ≤ 10000
  lay : PyData.canLay0 (.str r) = true
  later : (∀ t, chk sg rows sl t = some (r, i)) ∨ r = PySem.Str.ofString "troubles"
theorem fault_of {sg : List Int} {rows : List Row} {sl : List Slip} {tr : Int} {r : Str} {i : Int} (h : ∀ t, chk sg rows sl t = some (r, i)) (hl : rows.length ≤ 10000) (ly : PyData.canLay0 (.str r) = true) : Fault sg rows sl tr r i := ⟨h tr, hl, ly, .inl h⟩
abbrev tl (sg : List Int) (rows : List Row) (sl : List Slip) (tr : Int) (k : Int) (l : Rho) : Rho := some (mapD sg rows sl tr) :: some (.int k) :: some (.tuple (sg.map .int)) :: some (.tuple (rows.map rowD)) :: some (.tuple (sl.map slipD)) :: some (.int tr) :: l
def dueD (sg : List Int) (rows : List Row) (sl : List Slip) (tr : Int) (r : Str) (i : Int) : D := .list [mapD sg rows sl tr, .tuple [.str r, .int i]]
theorem map_put {α : Type} (f : α → D) (l : List α) (k : Nat) (x : α) : (l.map f).take k ++ f x :: (l.map f).drop (k + 1) = (l.take k ++ x :: l.drop (k + 1)).map f := by
  rw [List.map_append, List.map_cons, List.map_take, List.map_drop]
theorem row_at {rows : List Row} {k : Nat} (h : k < rows.length) : ixL (rows.map rowD) (.int (k : Int)) = some (rowD rows[k]) := ixL_nat (by omega) (by simp [h])
theorem slip_at {sl : List Slip} {k : Nat} (h : k < sl.length) : ixL (sl.map slipD) (.int (k : Int)) = some (slipD sl[k]) := ixL_nat (by omega) (by simp [h])
theorem bad_ok {sg : List Int} {rows : List Row} {sl : List Slip} {tr : Int} (g : Ok sg rows sl tr) (kind : Int) (ns0 : List Int) (s0 : Int) :
    ∃ sg' rows' sl' tr' r i ns' s', fn__law_bad [stA ns0 s0, mapD sg rows sl tr, .int kind] = some (dueD sg' rows' sl' tr' r i, [stA ns' s', mapD sg rows sl tr, .int kind]) ∧ Fault sg' rows' sl' tr' r i := by
  have h : ∃ d o, fn__law_bad [stA ns0 s0, mapD sg rows sl tr, .int kind] = some (d, o) ∧ ∃ sg' rows' sl' tr' r i ns' s', d = dueD sg' rows' sl' tr' r i ∧ o = [stA ns' s', mapD sg rows sl tr, .int kind] ∧ Fault sg' rows' sl' tr' r i := by
    refine fn_rule (c := cf__law_bad) (ps := sg__law_bad.ps) (n := 17) (b := ir__law_bad) (ds := [stA ns0 s0, mapD sg rows sl tr, .int kind]) (Q := fun d o => ∃ sg' rows' sl' tr' r i ns' s', d = dueD sg' rows' sl' tr' r i ∧ o = [stA ns' s', mapD sg rows sl tr, .int kind] ∧ Fault sg' rows' sl' tr' r i) ?_
    have n1 := g.n1
    have n2 := g.n2
    have rl := g.rl
    have ll := g.ll
    have lenS := lenT_map PyData.int sg
    have lenR := lenT_map rowD rows
    have lenL := lenT_map slipD sl
    refine wp_cons (w_unp (ρ' := some (stA ns0 s0) :: some (mapD sg rows sl tr) :: some (.int kind) :: List.replicate 14 none) rfl rfl ?_)
    refine wp_cons (w_ife (t_b (r_eqi rfl rfl)) (fun _ => ?_) fun _ => wp_nil ?_)
    · -- points
      obtain ⟨x, ns1, s1, hx, e1⟩ := pick2 (c := cf__law_bad) rfl (e1 := .k (.int 0)) (e2 := .k (.int 13)) (ns := ns0) (s := s0) (ρ := tl sg rows sl tr kind [none, none, none, none, none, none, none, none, none, none]) rfl rfl
      refine wp_cons (w_set e1 ?_)
      rcases hx with rfl | rfl
      · exact wp_cons (w_ret (d := dueD [] rows sl tr (PySem.Str.ofString "points") 0) rfl ⟨_, rfl, [], rows, sl, tr, PySem.Str.ofString "points", 0, ns1, s1, rfl, rfl, fault_of (fun t => rfl) (by omega) (by decide +kernel)⟩)
      · exact wp_cons (w_ret (d := dueD (List.replicate 13 0) rows sl tr (PySem.Str.ofString "points") 13) rfl ⟨_, rfl, List.replicate 13 0, rows, sl, tr, PySem.Str.ofString "points", 13, ns1, s1, rfl, rfl, fault_of (fun t => rfl) (by omega) (by decide +kernel)⟩)
    refine wp_cons (w_ife (t_b (r_eqi rfl rfl)) (fun _ => ?_) fun _ => wp_nil ?_)
    · -- sign
      obtain ⟨j, ns1, s1, j0, j1, e1⟩ := drawI (c := cf__law_bad) rfl (e := .b1 .len (.e (.v 3))) (m := (sg.length : Int)) (ns := ns0) (s := s0) (ρ := tl sg rows sl tr kind [none, none, none, none, none, none, none, none, none, none]) (r_b1 (r_oe rfl) lenS) (by omega) (by omega)
      refine wp_cons (w_set e1 ?_)
      obtain ⟨k, rfl⟩ := Int.eq_ofNat_of_zero_le j0
      obtain ⟨x, ns2, s2, hx, e2⟩ := pick2 (c := cf__law_bad) rfl (e1 := .neg (.k (.int 1))) (e2 := .k (.int 10)) (a := -1) (b := 10) (ns := ns1) (s := s1) (ρ := tl sg rows sl tr kind [none, some (.int (k : Int)), none, none, none, none, none, none, none, none]) rfl rfl
      have sw := swap_ok (l := sg.map .int) (k := k) (x := .int x) (by rw [List.length_map]; omega)
      rw [map_put] at sw
      have c2 := r_callf (c := cf__law_bad) (ρ := some (stA ns1 s1) :: tl sg rows sl tr kind [none, some (.int (k : Int)), none, none, none, none, none, none, none, none]) (f := PySem.Str.ofString "_law_swap") (g := fn__law_swap) rfl sw (a_f (a := .v 3) rfl (a_f (a := .v 8) rfl (a_f e2 a_n))) rfl rfl rfl
      exact wp_cons (w_ret (d := dueD (sg.take k ++ x :: sg.drop (k + 1)) rows sl tr (PySem.Str.ofString "sign") (k : Int)) (r_lst (r_cons (r_tup (r_cons c2 (r_cons rfl (r_cons rfl (r_cons rfl r_nil))))) (r_cons (r_tup (r_cons rfl (r_cons rfl r_nil))) r_nil)))
        ⟨_, rfl, _, rows, sl, tr, _, _, ns2, s2, rfl, rfl, fault_of (fun t => g.sign (by omega) (by omega) rows sl t) (by omega) (by decide +kernel)⟩)
    refine wp_cons (w_ife (t_b (r_eqi rfl rfl)) (fun _ => ?_) fun _ => wp_nil ?_)
    · -- paths
      have hr : ev cf__law_bad (.lrep (.e (.lst (.cons (.tup (.cons (.k (.int 0)) (.cons (.k (.int 0)) (.cons (.k (.int 0)) (.cons (.k (.int 1)) .nil))))) .nil))) (.k (.int 73))) (some (stA ns0 s0) :: tl sg rows sl tr kind [none, none, none, none, none, none, none, none, none, none]) = some (.list ((List.replicate 73 (⟨0, 0, 0, 1⟩ : Row)).map rowD), some (stA ns0 s0) :: tl sg rows sl tr kind [none, none, none, none, none, none, none, none, none, none]) := rfl
      refine wp_cons (w_set hr ?_)
      exact wp_cons (w_ret (d := dueD sg (List.replicate 73 ⟨0, 0, 0, 1⟩) sl tr (PySem.Str.ofString "paths") 73) (r_lst (r_cons (r_tup (r_cons rfl (r_cons rfl (r_cons rfl (r_cons rfl r_nil))))) (r_cons (r_tup (r_cons rfl (r_cons rfl r_nil))) r_nil)))
        ⟨_, rfl, sg, _, sl, tr, _, _, ns0, s0, rfl, rfl, fault_of (fun t => g.paths List.length_replicate t) (by rw [List.length_replicate]; omega) (by decide +kernel)⟩)
    refine wp_cons (w_ife (t_an2 (t_b (r_eqi rfl rfl)) fun _ => t_b (r_cm (r_b1 (r_oe rfl) lenR) rfl)) (fun z => ?_) fun _ => wp_nil ?_)
    · -- a wrong path
      have hr0 : 0 < rows.length := by
        rw [Bool.and_eq_true] at z
        have : (0 : Int) < (rows.length : Int) := of_decide_eq_true z.2
        omega
      obtain ⟨j, ns1, s1, j0, j1, e1⟩ := drawI (c := cf__law_bad) rfl (e := .b1 .len (.e (.v 4))) (m := (rows.length : Int)) (ns := ns0) (s := s0) (ρ := tl sg rows sl tr kind [none, none, none, none, none, none, none, none, none, none]) (r_b1 (r_oe rfl) lenR) (by omega) (by omega)
      refine wp_cons (w_set e1 ?_)
      obtain ⟨k, rfl⟩ := Int.eq_ofNat_of_zero_le j0
      have hk : k < rows.length := by omega
      have gr := g.hr _ (List.getElem_mem hk)
      refine wp_cons (w_unp (r_ix (o := .e (.v 4)) (b := .v 8) rfl rfl rfl (row_at hk)) rfl ?_)
      generalize rows[k] = r at *
      obtain ⟨wh, ns2, s2, w0, w1, e2⟩ := drawI (c := cf__law_bad) rfl (e := .k (.int 4)) (ns := ns1) (s := s1) (ρ := tl sg rows sl tr kind [none, some (.int (k : Int)), none, some (.int r.s), some (.int r.w), some (.int r.g), some (.int r.t), none, none, none]) rfl (by decide) (by decide)
      refine wp_cons (w_set e2 ?_)
      obtain ⟨a, ns3, s3, ha, e3⟩ := pick2 (c := cf__law_bad) rfl (e1 := .b1 .len (.e (.v 3))) (e2 := .neg (.k (.int 1))) (a := (sg.length : Int)) (b := -1) (ns := ns2) (s := s2) (ρ := tl sg rows sl tr kind [none, some (.int (k : Int)), none, some (.int r.s), some (.int r.w), some (.int r.g), some (.int r.t), some (.int wh), none, none]) (r_b1 (r_oe rfl) lenS) rfl
      obtain ⟨b, ns4, s4, hb, e4⟩ := pick2 (c := cf__law_bad) rfl (e1 := .k (.int 6)) (e2 := .neg (.k (.int 1))) (a := 6) (b := -1) (ns := ns3) (s := s3) (ρ := tl sg rows sl tr kind [none, some (.int (k : Int)), none, some (.int r.s), some (.int r.w), some (.int r.g), some (.int r.t), some (.int wh), none, none]) rfl rfl
      refine wp_fz (wp_cons (w_set (d := .list [rowD ⟨a, r.w, r.g, 7⟩, rowD ⟨r.s, b, -1, r.t⟩]) (r_lst (r_cons (r_tup (r_cons e3 (r_cons rfl (r_cons rfl (r_cons rfl r_nil))))) (r_cons (r_tup (r_cons rfl (r_cons e4 (r_cons rfl (r_cons rfl r_nil))))) r_nil))) ?_))
      obtain ⟨c, ns5, s5, hc, e5⟩ := pick2 (c := cf__law_bad) rfl (e1 := .b1 .len (.e (.v 3))) (e2 := .neg (.k (.int 1))) (a := (sg.length : Int)) (b := -1) (ns := ns4) (s := s4) (ρ := tl sg rows sl tr kind [none, some (.int (k : Int)), none, some (.int r.s), some (.int r.w), some (.int r.g), some (.int r.t), some (.int wh), some (.list [rowD ⟨a, r.w, r.g, 7⟩, rowD ⟨r.s, b, -1, r.t⟩]), none]) (r_b1 (r_oe rfl) lenS) rfl
      obtain ⟨d, ns6, s6, hd, e6⟩ := pick2 (c := cf__law_bad) rfl (e1 := .k (.int 0)) (e2 := .k (.int 7)) (a := 0) (b := 7) (ns := ns5) (s := s5) (ρ := tl sg rows sl tr kind [none, some (.int (k : Int)), none, some (.int r.s), some (.int r.w), some (.int r.g), some (.int r.t), some (.int wh), some (.list [rowD ⟨a, r.w, r.g, 7⟩, rowD ⟨r.s, b, -1, r.t⟩]), none]) rfl rfl
      refine wp_reb (d := .list [rowD ⟨a, r.w, r.g, 7⟩, rowD ⟨r.s, b, -1, r.t⟩, rowD ⟨r.s, r.w, c, 0⟩, rowD ⟨r.s, r.w, r.g, d⟩]) (r_lcat (r_oe rfl) (r_oe (r_lst (r_cons (r_tup (r_cons rfl (r_cons rfl (r_cons e5 (r_cons rfl r_nil))))) (r_cons (r_tup (r_cons rfl (r_cons rfl (r_cons rfl (r_cons e6 r_nil))))) r_nil)))) rfl rfl) ?_
      have hx : ∃ (x : Row) (nm : Str), ixL [rowD ⟨a, r.w, r.g, 7⟩, rowD ⟨r.s, b, -1, r.t⟩, rowD ⟨r.s, r.w, c, 0⟩, rowD ⟨r.s, r.w, r.g, d⟩] (.int wh) = some (rowD x) ∧ ixL [.str (PySem.Str.ofString "start"), .str (PySem.Str.ofString "way"), .str (PySem.Str.ofString "goal"), .str (PySem.Str.ofString "ticks")] (.int wh) = some (.str nm) ∧ PyData.canLay0 (.str nm) = true ∧ ∀ seen z, chkR (sg.length : Int) k seen x z = some (nm, (k : Int)) := by
        have : wh = 0 ∨ wh = 1 ∨ wh = 2 ∨ wh = 3 := by omega
        rcases this with rfl | rfl | rfl | rfl
        · exact ⟨_, _, rfl, rfl, by decide +kernel, fun seen z => chkR_start (by show ¬ (0 ≤ a ∧ a < _); omega)⟩
        · exact ⟨_, _, rfl, rfl, by decide +kernel, fun seen z => chkR_way gr.s (by show ¬ (0 ≤ b ∧ b < _); omega)⟩
        · exact ⟨_, _, rfl, rfl, by decide +kernel, fun seen z => chkR_goal gr.s gr.w (by show ¬ (0 ≤ c ∧ c < _); omega)⟩
        · exact ⟨_, _, rfl, rfl, by decide +kernel, fun seen z => chkR_ticks gr.s gr.w gr.g (by show ¬ (1 ≤ d ∧ d ≤ _); omega)⟩
      obtain ⟨x, nm, ex, en, ly, hbad⟩ := hx
      have sw := swap_ok (l := rows.map rowD) (k := k) (x := rowD x) (by rw [List.length_map]; omega)
      rw [map_put] at sw
      have c7 := r_callf (c := cf__law_bad) (ρ := some (stA ns6 s6) :: tl sg rows sl tr kind [none, some (.int (k : Int)), none, some (.int r.s), some (.int r.w), some (.int r.g), some (.int r.t), some (.int wh), some (.list [rowD ⟨a, r.w, r.g, 7⟩, rowD ⟨r.s, b, -1, r.t⟩, rowD ⟨r.s, r.w, c, 0⟩, rowD ⟨r.s, r.w, r.g, d⟩]), none]) (f := PySem.Str.ofString "_law_swap") (g := fn__law_swap) rfl sw (a_f (a := .v 4) rfl (a_f (a := .v 8) rfl (a_f (r_ix (o := .e (.v 15)) (b := .v 14) rfl rfl rfl ex) a_n))) rfl rfl rfl
      have c8 := r_ix (c := cf__law_bad) (ρ := some (stA ns6 s6) :: tl sg rows sl tr kind [none, some (.int (k : Int)), none, some (.int r.s), some (.int r.w), some (.int r.g), some (.int r.t), some (.int wh), some (.list [rowD ⟨a, r.w, r.g, 7⟩, rowD ⟨r.s, b, -1, r.t⟩, rowD ⟨r.s, r.w, c, 0⟩, rowD ⟨r.s, r.w, r.g, d⟩]), none]) (o := .e (.lst (.cons (.k (.str (PySem.Str.ofString "start"))) (.cons (.k (.str (PySem.Str.ofString "way"))) (.cons (.k (.str (PySem.Str.ofString "goal"))) (.cons (.k (.str (PySem.Str.ofString "ticks"))) .nil)))))) (b := .v 14) (r_oe (r_lst (r_cons rfl (r_cons rfl (r_cons rfl (r_cons rfl r_nil)))))) rfl rfl en
      refine wp_fz (wp_cons (w_ret (d := dueD sg (rows.take k ++ x :: rows.drop (k + 1)) sl tr nm (k : Int)) (r_lst (r_cons (r_tup (r_cons rfl (r_cons c7 (r_cons rfl (r_cons rfl r_nil))))) (r_cons (r_tup (r_cons c8 (r_cons rfl r_nil))) r_nil)))
        ⟨_, rfl, sg, _, sl, tr, _, _, ns6, s6, rfl, rfl, fault_of (fun t => g.row hk (fun z => hbad _ z) t) ?_ ly⟩))
      rw [List.length_append, List.length_take, List.length_cons, List.length_drop]
      omega
    refine wp_cons (w_ife (t_an2 (t_b (r_eqi rfl rfl)) fun _ => t_b (r_cm (r_b1 (r_oe rfl) lenR) rfl)) (fun z => ?_) fun _ => wp_nil ?_)
    · -- twice
      have hr0 : 1 < rows.length := by
        rw [Bool.and_eq_true] at z
        have : (1 : Int) < (rows.length : Int) := of_decide_eq_true z.2
        omega
      obtain ⟨j, ns1, s1, j0, j1, e1⟩ := drawI (c := cf__law_bad) rfl (e := .ar .sub (.b1 .len (.e (.v 4))) (.k (.int 1))) (m := (rows.length : Int) - 1) (ns := ns0) (s := s0) (ρ := tl sg rows sl tr kind [none, none, none, none, none, none, none, none, none, none]) (r_ar (r_b1 (r_oe rfl) lenR) rfl rfl) (by omega) (by omega)
      obtain ⟨j', rfl⟩ := Int.eq_ofNat_of_zero_le j0
      obtain ⟨k, hk0⟩ : ∃ k, k = 1 + j' := ⟨_, rfl⟩
      have hk : k < rows.length := by omega
      have hkk : (1 : Int) + (j' : Int) = (k : Int) := by omega
      refine wp_cons (w_set (d := .int (k : Int)) (r_ar rfl e1 (by rw [← hkk]; rfl)) ?_)
      obtain ⟨i, ns2, s2, i0, i1, e2⟩ := drawI (c := cf__law_bad) rfl (e := .v 8) (m := (k : Int)) (ns := ns1) (s := s1) (ρ := tl sg rows sl tr kind [none, some (.int (k : Int)), none, none, none, none, none, none, none, none]) rfl (by omega) (by omega)
      obtain ⟨i', rfl⟩ := Int.eq_ofNat_of_zero_le i0
      have hi : i' < rows.length := by omega
      have gr := g.hr _ (List.getElem_mem hi)
      have hm : key rows[i'] ∈ (rows.take k).map key := List.mem_map.mpr ⟨_, List.mem_take_iff_getElem.mpr ⟨i', by omega, rfl⟩, rfl⟩
      refine wp_cons (w_unp (r_ix (o := .e (.v 4)) rfl e2 rfl (row_at hi)) rfl ?_)
      generalize rows[i'] = r at *
      have e3 : ev cf__law_bad (.slc (.e (.v 4)) .no (.so (.v 8))) (some (stA ns2 s2) :: tl sg rows sl tr kind [none, some (.int (k : Int)), none, some (.int r.s), some (.int r.w), some (.int r.g), some (.int r.t), none, none, none]) = some (.tuple ((rows.map rowD).take k), some (stA ns2 s2) :: tl sg rows sl tr kind [none, some (.int (k : Int)), none, some (.int r.s), some (.int r.w), some (.int r.g), some (.int r.t), none, none, none]) :=
        slc_b (l := rows.map rowD) (r_oe rfl) rfl rfl (by show some (PyData.tuple (cutD (rows.map rowD) none (some (k : Int)))) = _; rw [cut_b])
      have e4 : ev cf__law_bad (.slc (.e (.v 4)) (.so (.ar .add (.v 8) (.k (.int 1)))) .no) (some (stA ns2 s2) :: tl sg rows sl tr kind [none, some (.int (k : Int)), none, some (.int r.s), some (.int r.w), some (.int r.g), some (.int r.t), none, none, none]) = some (.tuple ((rows.map rowD).drop (k + 1)), some (stA ns2 s2) :: tl sg rows sl tr kind [none, some (.int (k : Int)), none, some (.int r.s), some (.int r.w), some (.int r.g), some (.int r.t), none, none, none]) :=
        slc_a (l := rows.map rowD) (i := ((k + 1 : Nat) : Int)) (r_oe rfl) rfl rfl (by show some (PyData.tuple (cutD (rows.map rowD) (some ((k + 1 : Nat) : Int)) none)) = _; rw [cut_a])
      have e5 := r_tcat (r_tcat e3 (r_tup (r_cons (a := .tup (.cons (.v 10) (.cons (.v 11) (.cons (.k (.int 0)) (.cons (.k (.int 1)) .nil))))) rfl r_nil)) (m := [rowD ⟨r.s, r.w, 0, 1⟩]) (by simp; omega)) e4 (by simp; omega)
      rw [List.append_assoc, show [rowD ⟨r.s, r.w, 0, 1⟩] ++ (rows.map rowD).drop (k + 1) = rowD ⟨r.s, r.w, 0, 1⟩ :: (rows.map rowD).drop (k + 1) from rfl, map_put] at e5
      refine wp_cons (w_ret (d := dueD sg (rows.take k ++ ⟨r.s, r.w, 0, 1⟩ :: rows.drop (k + 1)) sl tr (PySem.Str.ofString "twice") (k : Int)) (r_lst (r_cons (r_tup (r_cons rfl (r_cons e5 (r_cons rfl (r_cons rfl r_nil))))) (r_cons (r_tup (r_cons rfl (r_cons rfl r_nil))) r_nil)))
        ⟨_, rfl, sg, _, sl, tr, _, _, ns2, s2, rfl, rfl, fault_of (fun t => g.row hk (fun z => chkR_twice (r := ⟨r.s, r.w, 0, 1⟩) ⟨gr.s, gr.w, ⟨Int.le_refl 0, by show (0 : Int) < _; omega⟩, ⟨Int.le_refl 1, by show (1 : Int) ≤ 6; omega⟩⟩ hm) t) ?_ (by decide +kernel)⟩)
      rw [List.length_append, List.length_take, List.length_cons, List.length_drop]
      omega
    refine wp_cons (w_ife (t_an2 (t_b (r_eqi rfl rfl)) fun _ => t_b (r_cm (r_b1 (r_oe rfl) lenR) rfl)) (fun z => ?_) fun _ => wp_nil ?_)
    · -- slips
      have hr : ev cf__law_bad (.trep (.tup (.cons (.tup (.cons (.k (.int 0)) (.cons (.k (.int 0)) (.cons (.k (.int 1)) .nil)))) .nil)) (.k (.int 25))) (some (stA ns0 s0) :: tl sg rows sl tr kind [none, none, none, none, none, none, none, none, none, none]) = some (.tuple ((List.replicate 25 (⟨0, 0, 1⟩ : Slip)).map slipD), some (stA ns0 s0) :: tl sg rows sl tr kind [none, none, none, none, none, none, none, none, none, none]) := rfl
      exact wp_cons (w_ret (d := dueD sg rows (List.replicate 25 ⟨0, 0, 1⟩) tr (PySem.Str.ofString "slips") 25) (r_lst (r_cons (r_tup (r_cons rfl (r_cons rfl (r_cons hr (r_cons rfl r_nil))))) (r_cons (r_tup (r_cons rfl (r_cons rfl r_nil))) r_nil)))
        ⟨_, rfl, sg, rows, _, tr, _, _, ns0, s0, rfl, rfl, fault_of (fun t => g.slips List.length_replicate t) (by omega) (by decide +kernel)⟩)
    refine wp_cons (w_ife (t_an2 (t_b (r_eqi rfl rfl)) fun _ => t_b (r_cm (r_b1 (r_oe rfl) lenL) rfl)) (fun z => ?_) fun _ => wp_nil ?_)
    · -- a wrong slip
      have hr0 : 0 < sl.length := by
        rw [Bool.and_eq_true] at z
        have : (0 : Int) < (sl.length : Int) := of_decide_eq_true z.2
        omega
      obtain ⟨j, ns1, s1, j0, j1, e1⟩ := drawI (c := cf__law_bad) rfl (e := .b1 .len (.e (.v 5))) (m := (sl.length : Int)) (ns := ns0) (s := s0) (ρ := tl sg rows sl tr kind [none, none, none, none, none, none, none, none, none, none]) (r_b1 (r_oe rfl) lenL) (by omega) (by omega)
      refine wp_cons (w_set e1 ?_)
      obtain ⟨k, rfl⟩ := Int.eq_ofNat_of_zero_le j0
      have hk : k < sl.length := by omega
      have gr := g.hl _ (List.getElem_mem hk)
      refine wp_cons (w_unp (r_ix (o := .e (.v 5)) (b := .v 8) rfl rfl rfl (slip_at hk)) rfl ?_)
      generalize sl[k] = r at *
      obtain ⟨wh, ns2, s2, w0, w1, e2⟩ := drawI (c := cf__law_bad) rfl (e := .k (.int 3)) (ns := ns1) (s := s1) (ρ := tl sg rows sl tr kind [none, some (.int (k : Int)), none, none, none, some (.int r.g), some (.int r.t), none, none, some (.int r.p)]) rfl (by decide) (by decide)
      refine wp_cons (w_set e2 ?_)
      obtain ⟨a, ns3, s3, ha, e3⟩ := pick2 (c := cf__law_bad) rfl (e1 := .b1 .len (.e (.v 4))) (e2 := .neg (.k (.int 1))) (a := (rows.length : Int)) (b := -1) (ns := ns2) (s := s2) (ρ := tl sg rows sl tr kind [none, some (.int (k : Int)), none, none, none, some (.int r.g), some (.int r.t), some (.int wh), none, some (.int r.p)]) (r_b1 (r_oe rfl) lenR) rfl
      obtain ⟨b, ns4, s4, hb, e4⟩ := pick2 (c := cf__law_bad) rfl (e1 := .b1 .len (.e (.v 3))) (e2 := .neg (.k (.int 1))) (a := (sg.length : Int)) (b := -1) (ns := ns3) (s := s3) (ρ := tl sg rows sl tr kind [none, some (.int (k : Int)), none, none, none, some (.int r.g), some (.int r.t), some (.int wh), none, some (.int r.p)]) (r_b1 (r_oe rfl) lenS) rfl
      refine wp_cons (w_set (d := .list [slipD ⟨a, -1, r.t⟩, slipD ⟨r.p, b, 9⟩]) (r_lst (r_cons (r_tup (r_cons e3 (r_cons rfl (r_cons rfl r_nil)))) (r_cons (r_tup (r_cons rfl (r_cons e4 (r_cons rfl r_nil)))) r_nil))) ?_)
      obtain ⟨d, ns5, s5, hd, e5⟩ := pick2 (c := cf__law_bad) rfl (e1 := .k (.int 0)) (e2 := .k (.int 7)) (a := 0) (b := 7) (ns := ns4) (s := s4) (ρ := tl sg rows sl tr kind [none, some (.int (k : Int)), none, none, none, some (.int r.g), some (.int r.t), some (.int wh), some (.list [slipD ⟨a, -1, r.t⟩, slipD ⟨r.p, b, 9⟩]), some (.int r.p)]) rfl rfl
      refine wp_cons (w_app (l := [slipD ⟨a, -1, r.t⟩, slipD ⟨r.p, b, 9⟩]) rfl (r_tup (r_cons rfl (r_cons rfl (r_cons e5 r_nil)))) rfl (by show 2 < 16777216; decide) ?_)
      have hx : ∃ (x : Slip) (nm : Str), ixL [slipD ⟨a, -1, r.t⟩, slipD ⟨r.p, b, 9⟩, slipD ⟨r.p, r.g, d⟩] (.int wh) = some (slipD x) ∧ ixL [.str (PySem.Str.ofString "path"), .str (PySem.Str.ofString "goal"), .str (PySem.Str.ofString "ticks")] (.int wh) = some (.str nm) ∧ PyData.canLay0 (.str nm) = true ∧ ∀ l, chkL (sg.length : Int) (rows.length : Int) k (x :: l) = some (nm, (k : Int)) := by
        have : wh = 0 ∨ wh = 1 ∨ wh = 2 := by omega
        rcases this with rfl | rfl | rfl
        · exact ⟨_, _, rfl, rfl, by decide +kernel, fun l => req_f (lt_f (by show ¬ (0 ≤ a ∧ a < _); omega))⟩
        · exact ⟨_, _, rfl, rfl, by decide +kernel, fun l => (req_t (lt_t gr.p)).trans (req_f (lt_f (by show ¬ (0 ≤ b ∧ b < _); omega)))⟩
        · exact ⟨_, _, rfl, rfl, by decide +kernel, fun l => (req_t (lt_t gr.p)).trans ((req_t (lt_t gr.g)).trans (req_f (le_f (by show ¬ (1 ≤ d ∧ d ≤ _); omega))))⟩
      obtain ⟨x, nm, ex, en, ly, hbad⟩ := hx
      have sw := swap_ok (l := sl.map slipD) (k := k) (x := slipD x) (by rw [List.length_map]; omega)
      rw [map_put] at sw
      have c7 := r_callf (c := cf__law_bad) (ρ := some (stA ns5 s5) :: tl sg rows sl tr kind [none, some (.int (k : Int)), none, none, none, some (.int r.g), some (.int r.t), some (.int wh), some (.list [slipD ⟨a, -1, r.t⟩, slipD ⟨r.p, b, 9⟩, slipD ⟨r.p, r.g, d⟩]), some (.int r.p)]) (f := PySem.Str.ofString "_law_swap") (g := fn__law_swap) rfl sw (a_f (a := .v 5) rfl (a_f (a := .v 8) rfl (a_f (r_ix (o := .e (.v 15)) (b := .v 14) rfl rfl rfl ex) a_n))) rfl rfl rfl
      have c8 := r_ix (c := cf__law_bad) (ρ := some (stA ns5 s5) :: tl sg rows sl tr kind [none, some (.int (k : Int)), none, none, none, some (.int r.g), some (.int r.t), some (.int wh), some (.list [slipD ⟨a, -1, r.t⟩, slipD ⟨r.p, b, 9⟩, slipD ⟨r.p, r.g, d⟩]), some (.int r.p)]) (o := .e (.lst (.cons (.k (.str (PySem.Str.ofString "path"))) (.cons (.k (.str (PySem.Str.ofString "goal"))) (.cons (.k (.str (PySem.Str.ofString "ticks"))) .nil))))) (b := .v 14) (r_oe (r_lst (r_cons rfl (r_cons rfl (r_cons rfl r_nil))))) rfl rfl en
      exact wp_fz (wp_cons (w_ret (d := dueD sg rows (sl.take k ++ x :: sl.drop (k + 1)) tr nm (k : Int)) (r_lst (r_cons (r_tup (r_cons rfl (r_cons rfl (r_cons c7 (r_cons rfl r_nil))))) (r_cons (r_tup (r_cons c8 (r_cons rfl r_nil))) r_nil)))
        ⟨_, rfl, sg, rows, _, tr, _, _, ns5, s5, rfl, rfl, fault_of (fun t => g.slip hk hbad t) (by omega) ly⟩))
    -- troubles
    obtain ⟨x, ns1, s1, hx, e1⟩ := pick2 (c := cf__law_bad) rfl (e1 := .neg (.k (.int 1))) (e2 := .k (.int 5)) (a := -1) (b := 5) (ns := ns0) (s := s0) (ρ := tl sg rows sl tr kind [none, none, none, none, none, none, none, none, none, none]) rfl rfl
    refine wp_cons (w_set e1 ?_)
    refine wp_cons (w_ret (d := dueD sg rows sl x (PySem.Str.ofString "troubles") x) (r_lst (r_cons (r_tup (r_cons rfl (r_cons rfl (r_cons rfl (r_cons rfl r_nil))))) (r_cons (r_tup (r_cons rfl (r_cons rfl r_nil))) r_nil)))
        ⟨_, rfl, sg, rows, sl, x, _, _, ns1, s1, rfl, rfl, ?_, by omega, by decide +kernel, .inr rfl⟩)
    rw [g.upL]
    exact req_f (le_f (by omega))
  obtain ⟨d, o, e, sg', rows', sl', tr', r, i, ns', s', rfl, rfl, h⟩ := h
  exact ⟨sg', rows', sl', tr', r, i, ns', s', e, h⟩
end Lw_k01
namespace Lw_k01
open PySem PySem.Spec L2 Vw
/-! ### the map that is drawn -/
theorem comp_drawB {c : Cf} (hc : c.fn (PySem.Str.ofString "_law_draw") = fxDrawA) {e : E} {ρ ρ' : Rho} {m n : Int} {ns : List Int} {s : Int} {j : Nat} {a : E} (hn0 : 0 ≤ n) (hn : n ≤ 100000) (ha : ev c a (some (stA ns s) :: ρ) = some (.int n, some (stA ns s) :: ρ)) (hw : ∀ x, (put ρ j x).set j none = ρ.set j none)
    (h1 : 0 < m) (h2 : m < 1073741824) (he : ∀ ns s x, ev c e (some (stA ns s) :: put (ρ.set j none) j x) = some (.int m, some (stA ns s) :: put (ρ.set j none) j x)) :
    ∃ sg : List Int, ∃ ns' s', ev c (.comp (.call (PySem.Str.ofString "_law_draw") (.io 0 (.fr e .nil))) (.n (j + 1)) (.r1 a) .no [j + 1]) (some (stA ns s) :: ρ) = some (.list (sg.map .int), some (stA ns' s') :: ρ.set j none) ∧ sg.length = n.toNat ∧ ∀ x ∈ sg, 0 ≤ x ∧ x < m := by
  have h : ∃ d ρ', ev c (.comp (.call (PySem.Str.ofString "_law_draw") (.io 0 (.fr e .nil))) (.n (j + 1)) (.r1 a) .no [j + 1]) (some (stA ns s) :: ρ) = some (d, ρ') ∧ ∃ sg : List Int, ∃ ns' s', d = .list (sg.map .int) ∧ ρ' = some (stA ns' s') :: ρ.set j none ∧ sg.length = n.toNat ∧ ∀ x ∈ sg, 0 ≤ x ∧ x < m := by
    refine ev_comp (i_r1 ha (inR_small (by omega) (by omega))) (fun acc k ρ1 => ∃ sg : List Int, ∃ ns' s', acc = sg.map .int ∧ ρ1 = some (stA ns' s') :: ρ.set j none ∧ sg.length = k ∧ ∀ x ∈ sg, 0 ≤ x ∧ x < m) ⟨[], ns, s, rfl, rfl, rfl, fun x hx => nomatch hx⟩ (fun k hk acc ρ1 hI => ?_)
      (Q := fun d ρ' => ∃ sg : List Int, ∃ ns' s', d = .list (sg.map .int) ∧ ρ' = some (stA ns' s') :: ρ.set j none ∧ sg.length = n.toNat ∧ ∀ x ∈ sg, 0 ≤ x ∧ x < m) (fun out ρ1 hI => ?_)
    · obtain ⟨sg, ns1, s1, rfl, rfl, hl, hb⟩ := hI
      rw [rng_at hk]
      obtain ⟨v, ns2, s2, v0, v1, e2⟩ := drawI hc (he ns1 s1 (.int (0 + (k : Int)))) h1 h2
      refine ⟨_, true, _, rfl, rfl, (fun z => by cases z), fun _ => ⟨_, _, e2, sg ++ [v], ns2, s2, by rw [List.map_append]; rfl, ?_, by simp [hl], fun x hx => by
        rcases List.mem_append.mp hx with hx | hx
        · exact hb x hx
        · rw [List.mem_singleton.mp hx]
          exact ⟨v0, v1⟩⟩⟩
      show some (stA ns2 s2) :: (put (ρ.set j none) j _).set j none = _
      unfold put
      rw [List.set_set, List.set_set]
    · obtain ⟨sg, ns1, s1, rfl, rfl, hl, hb⟩ := hI
      rw [rng_len] at hl
      exact ⟨by rw [List.length_map]; omega, _, rfl, sg, ns1, s1, rfl, rfl, hl, hb⟩
  obtain ⟨d, ρ', e, sg, ns', s', rfl, rfl, hl⟩ := h
  exact ⟨sg, ns', s', e, hl⟩


structure Gd (n i k : Int) (rs : List Row) : Prop where
  ok : ∀ r ∈ rs, RowOk n r
  be : ∀ r ∈ rs, r.s < i ∨ r.s = i ∧ r.w < k
  nd : (rs.map key).Nodup
theorem Gd.add {n i k : Int} {rs : List Row} {g t : Int} (h : Gd n i k rs) (ok : RowOk n ⟨i, k, g, t⟩) : Gd n i (k + 1) (rs ++ [⟨i, k, g, t⟩]) := by
  refine ⟨fun r hr => ?_, fun r hr => ?_, ?_⟩
  · rcases List.mem_append.mp hr with hr | hr
    · exact h.ok r hr
    · rw [List.mem_singleton.mp hr]
      exact ok
  · rcases List.mem_append.mp hr with hr | hr
    · have := h.be r hr
      omega
    · rw [List.mem_singleton.mp hr]
      exact .inr ⟨rfl, by show k < k + 1; omega⟩
  · rw [List.map_append, List.nodup_append]
    refine ⟨h.nd, List.nodup_cons.mpr ⟨List.not_mem_nil, List.nodup_nil⟩, fun a ha b hb e => ?_⟩
    obtain ⟨r, hr, rfl⟩ := List.mem_map.mp ha
    have hb : b = (i, k) := List.mem_singleton.mp hb
    subst hb
    have e1 : r.s = i := congrArg Prod.fst e
    have e2 : r.w = k := congrArg Prod.snd e
    have := h.be r hr
    omega
theorem Gd.skip {n i k : Int} {rs : List Row} (h : Gd n i k rs) : Gd n i (k + 1) rs := ⟨h.ok, fun r hr => by
  have := h.be r hr
  omega, h.nd⟩
theorem Gd.next {n i k : Int} {rs : List Row} (h : Gd n i k rs) : Gd n (i + 1) 0 rs := ⟨h.ok, fun r hr => by
  have := h.be r hr
  omega, h.nd⟩
theorem Gd.nil {n : Int} : Gd n 0 0 [] := ⟨(fun r hr => nomatch hr), (fun r hr => nomatch hr), List.nodup_nil⟩
theorem map_ok (ns : List Int) (s q : Int) (q0 : 0 ≤ q) (q1 : q ≤ 24) : ∃ sg rows sl tr ns' s', fn__law_map [stA ns s, .int 12, .int q] = some (mapD sg rows sl tr, [stA ns' s', .int 12, .int q]) ∧ Ok sg rows sl tr := by
  have h : ∃ d o, fn__law_map [stA ns s, .int 12, .int q] = some (d, o) ∧ ∃ sg rows sl tr ns' s', d = mapD sg rows sl tr ∧ o = [stA ns' s', .int 12, .int q] ∧ Ok sg rows sl tr := by
    refine fn_rule (c := cf__law_map) (ps := sg__law_map.ps) (n := 13) (b := ir__law_map) (ds := [stA ns s, .int 12, .int q]) (Q := fun d o => ∃ sg rows sl tr ns' s', d = mapD sg rows sl tr ∧ o = [stA ns' s', .int 12, .int q] ∧ Ok sg rows sl tr) ?_
    obtain ⟨p, ns1, s1, p0, p1, e1⟩ := drawI (c := cf__law_map) rfl (e := .v 1) (ns := ns) (s := s) (ρ := [some (.int 12), some (.int q), none, none, none, none, none, none, none, none, none, none]) rfl (by decide) (by decide)
    refine wp_cons (w_set (r_ar rfl e1 rfl) ?_)
    obtain ⟨v, ns2, s2, v0, v1, e2⟩ := drawI (c := cf__law_map) rfl (e := .k (.int 4)) (ns := ns1) (s := s1) (ρ := [some (.int 12), some (.int q), some (.int (1 + p)), none, none, none, none, none, none, none, none, none]) rfl (by decide) (by decide)
    have hk : ∃ x, ixL [.int 1, .int 2, .int 3, .int 10] (.int v) = some (.int x) ∧ 0 < x ∧ x ≤ 10 := by
      have : v = 0 ∨ v = 1 ∨ v = 2 ∨ v = 3 := by omega
      rcases this with rfl | rfl | rfl | rfl <;> exact ⟨_, rfl, by decide, by decide⟩
    obtain ⟨kinds, ek, k0, k1⟩ := hk
    refine wp_cons (w_set (r_ix (x := .list [.int 1, .int 2, .int 3, .int 10]) rfl e2 rfl ek) ?_)
    obtain ⟨sg, ns3, s3, e3, hsg, hsb⟩ := comp_drawB (c := cf__law_map) rfl (e := .v 4) (a := .v 3) (j := 11) (m := kinds) (n := 1 + p) (ns := ns2) (s := s2) (ρ' := []) (ρ := [some (.int 12), some (.int q), some (.int (1 + p)), some (.int kinds), none, none, none, none, none, none, none, none]) (by omega) (by omega) rfl (fun x => rfl) k0 (by omega) (fun ns s x => rfl)
    refine wp_cons (w_set (r_b1 (d := .tuple (sg.map .int)) (r_oe e3) rfl) ?_)
    obtain ⟨v, ns4, s4, v0, v1, e4⟩ := drawI (c := cf__law_map) rfl (e := .k (.int 3)) (ns := ns3) (s := s3) (ρ := [some (.int 12), some (.int q), some (.int (1 + p)), some (.int kinds), some (.tuple (sg.map .int)), none, none, none, none, none, none, none]) rfl (by decide) (by decide)
    have hk : ∃ x : Nat, ixL [.int 2, .int 3, .int 6] (.int v) = some (.int (x : Int)) ∧ 0 < x ∧ x ≤ 6 := by
      have : v = 0 ∨ v = 1 ∨ v = 2 := by omega
      rcases this with rfl | rfl | rfl
      · exact ⟨2, rfl, by decide, by decide⟩
      · exact ⟨3, rfl, by decide, by decide⟩
      · exact ⟨6, rfl, by decide, by decide⟩
    obtain ⟨ways, ek, w0, w1⟩ := hk
    refine wp_cons (w_set (r_ix (x := .list [.int 2, .int 3, .int 6]) rfl e4 rfl ek) ?_)
    obtain ⟨v, ns5, s5, v0, v1, e5⟩ := drawI (c := cf__law_map) rfl (e := .k (.int 3)) (ns := ns4) (s := s4) (ρ := [some (.int 12), some (.int q), some (.int (1 + p)), some (.int kinds), some (.tuple (sg.map .int)), some (.int (ways : Int)), none, none, none, none, none, none]) rfl (by decide) (by decide)
    have hk : ∃ x, ixL [.int 1, .int 2, .int 6] (.int v) = some (.int x) ∧ 0 < x ∧ x ≤ 6 := by
      have : v = 0 ∨ v = 1 ∨ v = 2 := by omega
      rcases this with rfl | rfl | rfl <;> exact ⟨_, rfl, by decide, by decide⟩
    obtain ⟨long, ek, l0, l1⟩ := hk
    refine wp_cons (w_set (r_ix (x := .list [.int 1, .int 2, .int 6]) rfl e5 rfl ek) ?_)
    refine wp_cons (w_set (d := .list []) rfl ?_)
    have hlen : 0 < sg.length ∧ sg.length ≤ 12 := by omega
    have hp : (1 + p) = (sg.length : Int) := by omega
    rw [hp]
    refine wp_cons (w_for (ds := rngD 0 sg.length) (sv := []) (i_r1 (j := (sg.length : Int)) rfl (inR_small (by omega) (by omega))) (fun i ρ => ∃ ns s rs x9 x10, ρ = [some (stA ns s), some (.int 12), some (.int q), some (.int (sg.length : Int)), some (.int kinds), some (.tuple (sg.map .int)), some (.int (ways : Int)), some (.int long), some (.list (rs.map rowD)), x9, x10, none, none] ∧ Gd (sg.length : Int) (i : Int) 0 rs ∧ rs.length ≤ i * 6)
      ⟨ns5, s5, [], _, _, rfl, Gd.nil, by simp⟩ ?_ ?_)
    · rintro i hi _ ⟨ns, s, rs, x9, x10, rfl, hg, hl⟩
      have hi' : i < sg.length := by simpa [rngD] using hi
      rw [rng_at hi, Int.zero_add]
      refine ⟨_, rfl, wp_cons (w_for (ds := rngD 0 ways) (sv := []) (i_r1 (j := (ways : Int)) rfl (inR_small (by omega) (by omega))) (fun k ρ => ∃ ns s rs x10, ρ = [some (stA ns s), some (.int 12), some (.int q), some (.int (sg.length : Int)), some (.int kinds), some (.tuple (sg.map .int)), some (.int (ways : Int)), some (.int long), some (.list (rs.map rowD)), some (.int (i : Int)), x10, none, none] ∧ Gd (sg.length : Int) (i : Int) (k : Int) rs ∧ rs.length ≤ i * 6 + k)
        ⟨ns, s, rs, _, rfl, hg, by omega⟩ ?_ ?_)⟩
      · rintro k hk _ ⟨ns, s, rs, x10, rfl, hg, hl⟩
        have hk' : k < ways := by simpa [rngD] using hk
        rw [rng_at hk, Int.zero_add]
        obtain ⟨v, ns1, s1, v0, v1, e1⟩ := drawI (c := cf__law_map) rfl (e := .k (.int 3)) (ns := ns) (s := s) (ρ := [some (.int 12), some (.int q), some (.int (sg.length : Int)), some (.int kinds), some (.tuple (sg.map .int)), some (.int (ways : Int)), some (.int long), some (.list (rs.map rowD)), some (.int (i : Int)), some (.int (k : Int)), none, none]) rfl (by decide) (by decide)
        refine ⟨_, rfl, wp_cons (w_ife (t_b (r_cm e1 rfl)) (fun z => ?_) fun z => ?_)⟩
        · obtain ⟨g, ns2, s2, g0, g1, e2⟩ := drawI (c := cf__law_map) rfl (e := .v 3) (ns := ns1) (s := s1) (ρ := [some (.int 12), some (.int q), some (.int (sg.length : Int)), some (.int kinds), some (.tuple (sg.map .int)), some (.int (ways : Int)), some (.int long), some (.list (rs.map rowD)), some (.int (i : Int)), some (.int (k : Int)), none, none]) rfl (by omega) (by omega)
          obtain ⟨t, ns3, s3, t0, t1, e3⟩ := drawI (c := cf__law_map) rfl (e := .v 7) (ns := ns2) (s := s2) (ρ := [some (.int 12), some (.int q), some (.int (sg.length : Int)), some (.int kinds), some (.tuple (sg.map .int)), some (.int (ways : Int)), some (.int long), some (.list (rs.map rowD)), some (.int (i : Int)), some (.int (k : Int)), none, none]) rfl (by omega) (by omega)
          refine wp_cons (w_app (l := rs.map rowD) rfl (r_tup (r_cons rfl (r_cons rfl (r_cons e2 (r_cons (r_ar rfl e3 rfl) r_nil))))) rfl (by rw [List.length_map]; omega) (wp_nil (wp_nil ⟨ns3, s3, rs ++ [⟨i, k, g, 1 + t⟩], some (.int (k : Int)), ?_, ?_, by simp; omega⟩)))
          · rw [List.map_append]
            rfl
          · exact hg.add ⟨⟨by show (0 : Int) ≤ i; omega, by show (i : Int) < _; omega⟩, ⟨by show (0 : Int) ≤ k; omega, by show (k : Int) < 6; omega⟩, ⟨g0, g1⟩, ⟨by show (1 : Int) ≤ 1 + t; omega, by show (1 : Int) + t ≤ 6; omega⟩⟩
        · exact wp_nil (wp_nil ⟨ns1, s1, rs, _, rfl, hg.skip, by omega⟩)
      · rintro _ ⟨ns, s, rs, x10, rfl, hg, hl⟩
        rw [rng_len] at hl
        exact ⟨_, rfl, wp_nil ⟨ns, s, rs, _, _, rfl, hg.next, by omega⟩⟩
    · rintro _ ⟨ns, s, rs, x9, x10, rfl, hg, hl⟩
      rw [rng_len] at hl
      refine ⟨_, rfl, wp_fz (wp_cons (w_set (d := .list []) rfl ?_))⟩
      obtain ⟨v, ns1, s1, v0, v1, e1⟩ := drawI (c := cf__law_map) rfl (e := .ar .add (.v 2) (.k (.int 1))) (m := q + 1) (ns := ns) (s := s) (ρ := [some (.int 12), some (.int q), some (.int (sg.length : Int)), some (.int kinds), some (.tuple (sg.map .int)), some (.int (ways : Int)), some (.int long), some (.list (rs.map rowD)), x9, x10, some (.list []), none]) rfl (by omega) (by omega)
      obtain ⟨v', rfl⟩ := Int.eq_ofNat_of_zero_le v0
      refine wp_cons (w_for (ds := rngD 0 v') (sv := []) (i_r1 (j := (v' : Int)) e1 (inR_small (by omega) (by omega))) (fun k ρ => ∃ ns s sl x12, ρ = [some (stA ns s), some (.int 12), some (.int q), some (.int (sg.length : Int)), some (.int kinds), some (.tuple (sg.map .int)), some (.int (ways : Int)), some (.int long), some (.list (rs.map rowD)), x9, x10, some (.list (sl.map slipD)), x12] ∧ (∀ r ∈ sl, SlipOk (sg.length : Int) (rs.length : Int) r) ∧ sl.length ≤ k)
        ⟨ns1, s1, [], none, rfl, (fun r hr => nomatch hr), Nat.le_refl _⟩ ?_ ?_)
      · rintro k hk _ ⟨ns, s, sl, x12, rfl, hsl, hln⟩
        have hk' : k < v' := by simpa [rngD] using hk
        refine ⟨_, rfl, wp_cons (w_ife (t_b (r_cm (r_b1 (r_oe rfl) (lenL_map _ rs)) rfl)) (fun z => ?_) fun z => ?_)⟩
        · have hr0 : 0 < rs.length := by
            have : (0 : Int) < (rs.length : Int) := of_decide_eq_true z
            omega
          generalize (rngD 0 v')[k] = y
          obtain ⟨a, ns1, s1, a0, a1, e1⟩ := drawI (c := cf__law_map) rfl (e := .b1 .len (.e (.v 8))) (m := (rs.length : Int)) (ns := ns) (s := s) (ρ := [some (.int 12), some (.int q), some (.int (sg.length : Int)), some (.int kinds), some (.tuple (sg.map .int)), some (.int (ways : Int)), some (.int long), some (.list (rs.map rowD)), x9, x10, some (.list (sl.map slipD)), some y]) (r_b1 (r_oe rfl) (lenL_map _ rs)) (by omega) (by omega)
          obtain ⟨b, ns2, s2, b0, b1, e2⟩ := drawI (c := cf__law_map) rfl (e := .v 3) (ns := ns1) (s := s1) (ρ := [some (.int 12), some (.int q), some (.int (sg.length : Int)), some (.int kinds), some (.tuple (sg.map .int)), some (.int (ways : Int)), some (.int long), some (.list (rs.map rowD)), x9, x10, some (.list (sl.map slipD)), some y]) rfl (by omega) (by omega)
          obtain ⟨t, ns3, s3, t0, t1, e3⟩ := drawI (c := cf__law_map) rfl (e := .v 7) (ns := ns2) (s := s2) (ρ := [some (.int 12), some (.int q), some (.int (sg.length : Int)), some (.int kinds), some (.tuple (sg.map .int)), some (.int (ways : Int)), some (.int long), some (.list (rs.map rowD)), x9, x10, some (.list (sl.map slipD)), some y]) rfl (by omega) (by omega)
          refine wp_cons (w_app (l := sl.map slipD) rfl (r_tup (r_cons e1 (r_cons e2 (r_cons (r_ar rfl e3 rfl) r_nil)))) rfl (by rw [List.length_map]; omega) (wp_nil (wp_nil ⟨ns3, s3, sl ++ [⟨a, b, 1 + t⟩], some y, ?_, fun r hr => ?_, by simp; omega⟩)))
          · rw [List.map_append]
            rfl
          · rcases List.mem_append.mp hr with hr | hr
            · exact hsl r hr
            · rw [List.mem_singleton.mp hr]
              exact ⟨⟨a0, a1⟩, ⟨b0, b1⟩, ⟨by show (1 : Int) ≤ 1 + t; omega, by show (1 : Int) + t ≤ 6; omega⟩⟩
        · exact wp_nil (wp_nil ⟨ns, s, sl, _, rfl, hsl, by omega⟩)
      · rintro _ ⟨ns, s, sl, x12, rfl, hsl, hln⟩
        rw [rng_len] at hln
        obtain ⟨tr, ns2, s2, t0, t1, e2⟩ := drawI (c := cf__law_map) rfl (e := .k (.int 3)) (ns := ns) (s := s) (ρ := [some (.int 12), some (.int q), some (.int (sg.length : Int)), some (.int kinds), some (.tuple (sg.map .int)), some (.int (ways : Int)), some (.int long), some (.list (rs.map rowD)), x9, x10, some (.list (sl.map slipD)), x12]) rfl (by decide) (by decide)
        refine ⟨_, rfl, wp_fz (wp_cons (w_ret (r_tup (r_cons rfl (r_cons rfl (r_cons rfl (r_cons e2 r_nil))))) ⟨_, rfl, sg, rs, sl, tr, ns2, s2, rfl, rfl, ?_⟩))⟩
        exact ⟨by omega, hlen.2, fun x hx => by have := hsb x hx; omega, hg.ok, hg.nd, by omega, hsl, by omega, ⟨by omega, by omega⟩⟩
  obtain ⟨d, o, e, sg, rows, sl, tr, ns', s', rfl, rfl, h⟩ := h
  exact ⟨sg, rows, sl, tr, ns', s', e, h⟩
end Lw_k01
namespace Lw_k01
open PySem PySem.Spec L2 Vw
/-! ### what leads where -/
def idD : Option Nat → D
  | none => .none
  | some i => .int (i : Int)
def Found (rows : List Row) (p w : Int) : Option Nat → Prop
  | none => ∀ j (h : j < rows.length), key rows[j] ≠ (p, w)
  | some i => ∃ h : i < rows.length, key rows[i] = (p, w)
theorem path_of_ok (sg : List Int) (rows : List Row) (sl : List Slip) (tr p w : Int) :
    ∃ f : Option Nat, fn_path_of [mapD sg rows sl tr, .int p, .int w] = some (idD f, [mapD sg rows sl tr, .int p, .int w]) ∧ Found rows p w f := by
  have h : ∃ d o, fn_path_of [mapD sg rows sl tr, .int p, .int w] = some (d, o) ∧ (o = [mapD sg rows sl tr, .int p, .int w] ∧ ∃ f : Option Nat, d = idD f ∧ Found rows p w f) := by
    refine fn_rule (c := cf_path_of) (ps := sg_path_of.ps) (n := 7) (b := ir_path_of) (ds := [mapD sg rows sl tr, .int p, .int w]) (Q := fun d o => o = [mapD sg rows sl tr, .int p, .int w] ∧ ∃ f : Option Nat, d = idD f ∧ Found rows p w f) ?_
    refine wp_cons (w_for (ds := enumD (rows.map rowD)) (sv := []) rfl (fun i ρ => (∃ x3 x4 x5 x6, ρ = [some (mapD sg rows sl tr), some (.int p), some (.int w), x3, x4, x5, x6]) ∧ ∀ j (hj : j < rows.length), j < i → key rows[j] ≠ (p, w))
      ⟨⟨none, none, none, none, rfl⟩, fun j hj h => absurd h (by omega)⟩ ?_ ?_)
    · rintro i hi _ ⟨⟨x3, x4, x5, x6, rfl⟩, no⟩
      obtain ⟨hi2, e⟩ := enum_at hi
      have hi' : i < rows.length := by simpa using hi2
      rw [e, List.getElem_map]
      have q := r_eq (c := cf_path_of) (ng := false) (a := .tup (.cons (.v 4) (.cons (.v 5) .nil))) (b := .tup (.cons (.v 1) (.cons (.v 2) .nil))) (x := pairD (key rows[i])) (y := pairD (p, w)) (ρ := [some (mapD sg rows sl tr), some (.int p), some (.int w), some (.int (i : Int)), some (.int rows[i].s), some (.int rows[i].w), some (.int rows[i].t)]) rfl rfl (sh_pair _).ok (sh_pair _).ok
      rw [bneF, eqv_pair] at q
      refine ⟨_, rfl, wp_cons (w_ife (t_b q) (fun z => ?_) fun z => ?_)⟩
      · exact wp_cons (w_ret (d := idD (some i)) rfl ⟨_, rfl, rfl, some i, rfl, hi', of_decide_eq_true z⟩)
      · refine wp_nil (wp_nil ⟨⟨_, _, _, _, rfl⟩, fun j hj h => ?_⟩)
        by_cases h2 : j = i
        · subst h2
          exact of_decide_eq_false z
        · exact no j hj (by omega)
    · rintro _ ⟨⟨x3, x4, x5, x6, rfl⟩, no⟩
      exact ⟨_, rfl, wp_cons (w_ret (d := idD none) rfl ⟨_, rfl, rfl, none, rfl, fun j hj => no j hj (by rw [enum_len, List.length_map]; exact hj)⟩)⟩
  obtain ⟨d, o, e, rfl, f, rfl, h⟩ := h
  exact ⟨f, e, h⟩
/-- the steps behind path i -/
def stp (r : Row) (i : Nat) (sl : List Slip) : List (List Int) := [r.g, r.t, 0] :: (sl.filter fun x => decide (x.p = (i : Int))).map fun x => [x.g, x.t, 1]
theorem ints_of : ∀ t : List Int, intsD (t.map .int) = some t
  | [] => rfl
  | x :: t => by
    show (intsD (t.map .int)).map _ = _
    rw [ints_of t]
    rfl
theorem tups_of : ∀ ts : List (List Int), tupsD (ts.map tupL) = some ts
  | [] => rfl
  | t :: ts => by
    show (intsD (t.map .int)).bind _ = _
    rw [ints_of t]
    show (tupsD (ts.map tupL)).map _ = _
    rw [tups_of ts]
    rfl
theorem srt_ok {t : List Int} {ts : List (List Int)} (hl : (t :: ts).length < 64) (h : ∀ x ∈ t :: ts, x.length = 3 ∧ ∀ m ∈ x, 0 ≤ m ∧ m < BT) : b1D .srt (.list ((t :: ts).map tupL)) = some (.list ((sortT (t :: ts)).map tupL)) := by
  show (tupsD ((t :: ts).map tupL)).bind _ = _
  rw [tups_of]
  refine if_pos ⟨hl, ?_, ?_⟩
  · show 1 ≤ t.length
    rw [(h t List.mem_cons_self).1]
    decide
  · show (t :: ts).all (tOkB t.length) = true
    rw [(h t List.mem_cons_self).1, List.all_eq_true]
    intro x hx
    obtain ⟨h1, h2⟩ := h x hx
    unfold tOkB
    rw [Bool.and_eq_true, List.all_eq_true]
    exact ⟨decide_eq_true h1, fun m hm => decide_eq_true (h2 m hm)⟩
theorem stp_ok {n m : Int} {r : Row} {i : Nat} {sl : List Slip} (hn : n ≤ 12) (hr : RowOk n r) (hs : ∀ x ∈ sl, SlipOk n m x) (hl : sl.length ≤ 24) : b1D .srt (.list ((stp r i sl).map tupL)) = some (.list ((sortT (stp r i sl)).map tupL)) := by
  refine srt_ok ?_ fun x hx => ?_
  · have := List.length_filter_le (fun x : Slip => decide (x.p = (i : Int))) sl
    rw [List.length_cons, List.length_map]
    omega
  · have hB : BT = 4294967296 := rfl
    have tri : ∀ a b c : Int, 0 ≤ a → a < 100 → 0 ≤ b → b < 100 → 0 ≤ c → c < 100 → [a, b, c].length = 3 ∧ ∀ m ∈ [a, b, c], 0 ≤ m ∧ m < BT := fun a b c a0 a1 b0 b1 c0 c1 => ⟨rfl, fun m hm => by
      simp only [List.mem_cons, List.not_mem_nil, or_false] at hm
      rw [hB]
      omega⟩
    have g1 := hr.g
    have g2 := hr.t
    rcases List.mem_cons.mp hx with rfl | hx
    · exact tri _ _ _ (by omega) (by omega) (by omega) (by omega) (by omega) (by omega)
    · obtain ⟨y, hy, rfl⟩ := List.mem_map.mp hx
      have k := hs y (List.mem_filter.mp hy).1
      have k1 := k.g
      have k2 := k.t
      exact tri _ _ _ (by omega) (by omega) (by omega) (by omega) (by omega) (by omega)
theorem sh_tupL (t : List Int) : Sh 1 (tupL t) := sh_tup (k := 0) (sh_map fun x => sh_int x)
theorem sh_tups (ts : List (List Int)) : SeqAt.shaped (.list (ts.map tupL)) = true := (sh_list (sh_map sh_tupL)).ok
theorem eqv_ints : ∀ t : List Int, PyData.eqvAll (t.map .int) (t.map .int) = true
  | [] => rfl
  | x :: t => by
    show ((x == x) && PyData.eqvAll (t.map .int) (t.map .int)) = true
    rw [eqv_ints t, beq_self_eq_true]
    rfl
theorem eqv_tups : ∀ ts : List (List Int), PyData.eqvAll (ts.map tupL) (ts.map tupL) = true
  | [] => rfl
  | t :: ts => by
    show (PyData.eqvAll (t.map .int) (t.map .int) && PyData.eqvAll (ts.map tupL) (ts.map tupL)) = true
    rw [eqv_ints t, eqv_tups ts]
    rfl
theorem eqv_tupl (ts : List (List Int)) : (PyData.eqv (.list (ts.map tupL)) (.list (ts.map tupL)) != true) = false := by
  show (PyData.eqvAll (ts.map tupL) (ts.map tupL) != true) = false
  rw [eqv_tups ts]
  rfl
/-- what steps_from tells -/
def stepsD (rows : List Row) (sl : List Slip) : Option Nat → List (List Int)
  | none => []
  | some i => match rows[i]? with
    | some r => sortT (stp r i sl)
    | none => []
theorem steps_from_ok {sg : List Int} {rows : List Row} {sl : List Slip} {tr : Int} (g : Ok sg rows sl tr) {p w : Int} {f : Option Nat} (e : fn_path_of [mapD sg rows sl tr, .int p, .int w] = some (idD f, [mapD sg rows sl tr, .int p, .int w])) (hf : Found rows p w f) :
    fn_steps_from [mapD sg rows sl tr, .int p, .int w] = some (.list ((stepsD rows sl f).map tupL), [mapD sg rows sl tr, .int p, .int w]) := by
  refine eq_of (fn_rule (c := cf_steps_from) (ps := sg_steps_from.ps) (n := 8) (b := ir_steps_from) (ds := [mapD sg rows sl tr, .int p, .int w]) (Q := fun d o => d = .list ((stepsD rows sl f).map tupL) ∧ o = [mapD sg rows sl tr, .int p, .int w]) ?_)
  have c1 : ev cf_steps_from (.call (PySem.Str.ofString "path_of") (.fr (.v 0) (.fr (.v 1) (.fr (.v 2) .nil)))) [some (mapD sg rows sl tr), some (.int p), some (.int w), none, none, none, none, none] = some (idD f, [some (mapD sg rows sl tr), some (.int p), some (.int w), none, none, none, none, none]) :=
    r_callf (g := fn_path_of) rfl e rfl rfl rfl rfl
  refine wp_cons (w_set c1 ?_)
  cases f with
  | none => exact wp_cons (w_ife (z := true) rfl (fun _ => wp_cons (w_ret (d := .list []) rfl ⟨_, rfl, rfl, rfl⟩)) fun z => nomatch z)
  | some i =>
    obtain ⟨hi, _⟩ := hf
    have ra := row_at hi
    have gr := g.hr _ (List.getElem_mem hi)
    have es : stepsD rows sl (some i) = sortT (stp rows[i] i sl) := by
      show (match rows[i]? with
        | some r => sortT (stp r i sl)
        | none => []) = _
      rw [List.getElem?_eq_getElem hi]
    rw [es]
    generalize rows[i] = r at *
    refine wp_cons (w_ife (z := false) rfl (fun z => nomatch z) fun _ => wp_nil ?_)
    have x1 : ∀ {ρ : Rho} (h0 : Vw.get ρ 0 = some (mapD sg rows sl tr)) (h3 : Vw.get ρ 3 = some (.int (i : Int))), ev cf_steps_from (.ix (.e (.ix (.e (.v 0)) (.k (.int 1)))) (.v 3)) ρ = some (rowD r, ρ) := fun {ρ} h0 h3 => by
      have v0 : ev cf_steps_from (.v 0) ρ = some (mapD sg rows sl tr, ρ) := by show (Vw.get ρ 0).map _ = _; rw [h0]; rfl
      have v3 : ev cf_steps_from (.v 3) ρ = some (.int (i : Int), ρ) := by show (Vw.get ρ 3).map _ = _; rw [h3]; rfl
      exact r_ix (r_oe (r_ix (r_oe v0) rfl rfl rfl)) v3 rfl ra
    refine wp_cons (w_set (d := .list [tupL [r.g, r.t, 0]]) (r_lst (r_cons (r_tup (r_cons (r_ix (r_oe (x1 rfl rfl)) rfl rfl rfl) (r_cons (r_ix (r_oe (x1 rfl rfl)) rfl rfl rfl) (r_cons rfl r_nil)))) r_nil)) ?_)
    refine wp_cons (w_for (ds := sl.map slipD) (sv := []) rfl (fun k ρ => ∃ x5 x6 x7, ρ = [some (mapD sg rows sl tr), some (.int p), some (.int w), some (.int (i : Int)), some (.list ((stp r i (sl.take k)).map tupL)), x5, x6, x7]) ⟨_, _, _, rfl⟩ ?_ ?_)
    · rintro k hk _ ⟨x5, x6, x7, rfl⟩
      have hk' : k < sl.length := by simpa using hk
      rw [List.getElem_map, take_succ' hk']
      have hll := g.ll
      have hfl := List.length_filter_le (fun x : Slip => decide (x.p = (i : Int))) (sl.take k)
      rw [List.length_take] at hfl
      generalize sl[k] = y at *
      refine ⟨_, rfl, wp_cons (w_ife (t_b (r_eqi (x := y.p) (y := (i : Int)) rfl rfl)) (fun z => ?_) fun z => ?_)⟩
      · refine wp_cons (w_app rfl rfl rfl (by unfold stp; rw [List.length_map, List.length_cons, List.length_map]; omega) (wp_nil (wp_nil ⟨some (.int y.p), some (.int y.g), some (.int y.t), ?_⟩)))
        have : stp r i (sl.take k ++ [y]) = stp r i (sl.take k) ++ [[y.g, y.t, 1]] := by
          unfold stp
          rw [List.filter_append, List.map_append]
          simp [of_decide_eq_true z]
        rw [this, List.map_append]
        rfl
      · refine wp_nil (wp_nil ⟨some (.int y.p), some (.int y.g), some (.int y.t), ?_⟩)
        have : stp r i (sl.take k ++ [y]) = stp r i (sl.take k) := by
          unfold stp
          rw [List.filter_append, List.map_append]
          simp [of_decide_eq_false z]
        rw [this]
        rfl
    · rintro _ ⟨x5, x6, x7, rfl⟩
      rw [List.length_map, List.take_length]
      exact ⟨_, rfl, wp_fz (wp_cons (w_ret (r_b1 (r_oe rfl) (stp_ok (by have := g.n2; omega) gr g.hl g.ll)) ⟨_, rfl, rfl, rfl⟩))⟩
end Lw_k01
namespace Lw_k01
open PySem PySem.Spec L2 Vw
/-- a walk along one thing -/
theorem w_for1 {c : Cf} {K : Po} {tg : Tg} {it : Iv} {b : Ss} {d : D} {ρ ρ' ρ1 : Rho} (hi : evI c it ρ = some ([d], ρ', [])) (ht : tgD tg d ρ' = some ρ1) (h : Wp c b ρ1 { K with C := K.N, B := K.N }) : WpS c (.for tg it b) ρ K := by
  refine w_for hi (fun k ρ => (k = 0 ∧ ρ = ρ') ∨ (k ≠ 0 ∧ K.N ρ)) (.inl ⟨rfl, rfl⟩) ?_ ?_
  · rintro i hi ρ (⟨rfl, rfl⟩ | ⟨h0, _⟩)
    · refine ⟨ρ1, ht, ?_⟩
      obtain ⟨r, e, h⟩ := h
      refine ⟨r, e, ?_⟩
      cases r with
      | nx ρ => exact .inr ⟨by decide, h⟩
      | cnt ρ => exact .inr ⟨by decide, h⟩
      | brk ρ => exact ⟨ρ, rfl, h⟩
      | ret d ρ => exact h
      | exn x fs ρ => exact h
    · have : i < 1 := hi
      omega
  · rintro ρ (⟨h0, _⟩ | ⟨_, h⟩)
    · cases h0
    · exact ⟨ρ, rfl, h⟩
theorem w_for0 {c : Cf} {K : Po} {tg : Tg} {it : Iv} {b : Ss} {ρ ρ' : Rho} (hi : evI c it ρ = some ([], ρ', [])) (h : K.N ρ') : WpS c (.for tg it b) ρ K :=
  w_for hi (fun k ρ => ρ = ρ') rfl (fun i hi => absurd hi (Nat.not_lt_zero _)) (fun ρ e => ⟨ρ, rfl, by rw [e]; exact h⟩)
theorem filter_one {α : Type} {p : α → Bool} : ∀ {l : List α} {i : Nat} (h : i < l.length), p l[i] = true → (∀ j (hj : j < l.length), j ≠ i → p l[j] = false) → l.filter p = [l[i]]
  | [], i, h, _, _ => absurd h (Nat.not_lt_zero _)
  | x :: l, 0, h, h1, h2 => by
    have h1 : p x = true := h1
    rw [List.filter_cons, if_pos h1]
    have : l.filter p = [] := List.filter_eq_nil_iff.mpr fun y hy => by
      obtain ⟨j, hj, rfl⟩ := List.getElem_of_mem hy
      have := h2 (j + 1) (by simpa using hj) (by omega)
      rw [List.getElem_cons_succ] at this
      rw [this]
      exact Bool.false_ne_true
    rw [this]
    rfl
  | x :: l, i + 1, h, h1, h2 => by
    have h0 : p x = false := h2 0 (Nat.succ_pos _) (by omega)
    rw [List.filter_cons, if_neg (by rw [h0]; exact Bool.false_ne_true)]
    exact filter_one (by simpa using h) (by simpa using h1) fun j hj hne => by
      have := h2 (j + 1) (by simpa using hj) (by omega)
      simpa using this
def rowL : Option Nat → List D
  | none => []
  | some i => [.int (i : Int)]
/-- does path d lead from p by way w -/
def isP (rows : List Row) (p w : Int) : D → Bool
  | .int k => match rows[k.toNat]? with
    | some r => decide (key r = (p, w))
    | none => false
  | _ => false
theorem isP_at {rows : List Row} {p w : Int} {k : Nat} (h : k < rows.length) : isP rows p w (.int (k : Int)) = decide (key rows[k] = (p, w)) := by
  show (match rows[((k : Int)).toNat]? with
    | some r => decide (key r = (p, w))
    | none => false) = _
  rw [Int.toNat_natCast, List.getElem?_eq_getElem h]
theorem row_filter {rows : List Row} {p w : Int} (nd : (rows.map key).Nodup) {f : Option Nat} (hf : Found rows p w f) : ((rngD 0 rows.length).filter (isP rows p w)).map id = rowL f := by
  rw [List.map_id]
  cases f with
  | none =>
    refine List.filter_eq_nil_iff.mpr fun y hy => ?_
    obtain ⟨k, hk, rfl⟩ := List.getElem_of_mem hy
    have hk' : k < rows.length := by simpa [rngD] using hk
    rw [rng_at hk, Int.zero_add, isP_at hk', decide_eq_false (hf k hk')]
    exact Bool.false_ne_true
  | some i =>
    obtain ⟨hi, e⟩ := hf
    have hi2 : i < (rngD 0 rows.length).length := by rw [rng_len]; exact hi
    rw [filter_one hi2 (by rw [rng_at hi2, Int.zero_add, isP_at hi, decide_eq_true e]) fun j hj hne => by
      have hj' : j < rows.length := by simpa [rngD] using hj
      rw [rng_at hj, Int.zero_add, isP_at hj']
      refine decide_eq_false fun e2 => hne ?_
      have pw := List.pairwise_iff_getElem.mp nd
      have l1 : i < (rows.map key).length := by rw [List.length_map]; exact hi
      have l2 : j < (rows.map key).length := by rw [List.length_map]; exact hj'
      rcases Nat.lt_trichotomy j i with h | h | h
      · exact absurd (by rw [List.getElem_map, List.getElem_map, e, e2]) (pw j i l2 l1 h)
      · exact h
      · exact absurd (by rw [List.getElem_map, List.getElem_map, e, e2]) (pw i j l1 l2 h), rng_at hi2, Int.zero_add]
    rfl
theorem badN_ok : SeqAt.shaped (badD none) = true := rfl
theorem badS_ok {r : Str} (h : PyData.canLay0 (.str r) = true) (i : Int) : SeqAt.shaped (badD (some (r, i))) = true := (sh_tup (k := 0) (sh_cons (sh_str h) (sh_cons (sh_int _) sh_nil))).ok
theorem eqv_bad (r : Str) (i : Int) : (PyData.eqv (badD (some (r, i))) (badD (some (r, i))) != true) = false := by
  show (((r == r) && ((i == i) && true)) != true) = false
  rw [beq_self_eq_true, beq_self_eq_true]
  rfl
abbrev lw (sc : D) (ns : List Int) (s : Int) (m : D) (l : Rho) : Rho := some sc :: some (stA ns s) :: some m :: l
theorem law_data (ns : List Int) (hl : ns.length ≤ 63) : ∃ o, fn_law [.list (ns.map .int)] = some (.bool true, o) := by
  have h : ∃ d o, fn_law [.list (ns.map .int)] = some (d, o) ∧ d = .bool true := by
    refine fn_rule (c := cf_law) (ps := sg_law.ps) (n := 19) (b := ir_law) (ds := [.list (ns.map .int)]) (Q := fun d o => d = .bool true) ?_
    obtain ⟨ns0, s0, e0⟩ := law_state_ok ns hl
    have c0 : ev cf_law (.call (PySem.Str.ofString "_law_state") (.fr (.v 0) .nil)) [some (.list (ns.map .int)), none, none, none, none, none, none, none, none, none, none, none, none, none, none, none, none, none, none] = some (stA ns0 s0, [some (.list (ns.map .int)), none, none, none, none, none, none, none, none, none, none, none, none, none, none, none, none, none, none]) :=
      r_callf (g := fn__law_state) rfl e0 rfl rfl rfl rfl
    refine wp_cons (w_set c0 ?_)
    generalize PyData.list (ns.map .int) = sc
    obtain ⟨v, ns1, s1, v0, v1, e1⟩ := draw_rule (c := cf_law) rfl (i := 1) (e := .k (.int 2)) (m := 2) (ns := ns0) (s := s0) (ρ := [some sc, some (stA ns0 s0), none, none, none, none, none, none, none, none, none, none, none, none, none, none, none, none, none]) rfl rfl rfl (by decide) (by decide)
    have hq : ∃ q, ixL [.int 3, .int 24] (.int v) = some (.int q) ∧ 0 ≤ q ∧ q ≤ 24 := by
      have : v = 0 ∨ v = 1 := by omega
      rcases this with rfl | rfl <;> exact ⟨_, rfl, by decide, by decide⟩
    obtain ⟨q, eq, q0, q1⟩ := hq
    obtain ⟨sg, rows, sl, tr, ns2, s2, e2, g⟩ := map_ok ns1 s1 q q0 q1
    have c2 : ev cf_law (.call (PySem.Str.ofString "_law_map") (.io 1 (.fr (.k (.int 12)) (.fr (.ix (.e (.lst (.cons (.k (.int 3)) (.cons (.k (.int 24)) .nil)))) (.call (PySem.Str.ofString "_law_draw") (.io 1 (.fr (.k (.int 2)) .nil)))) .nil)))) [some sc, some (stA ns0 s0), none, none, none, none, none, none, none, none, none, none, none, none, none, none, none, none, none] = some (mapD sg rows sl tr, [some sc, some (stA ns2 s2), none, none, none, none, none, none, none, none, none, none, none, none, none, none, none, none, none]) :=
      r_callf (g := fn__law_map) rfl e2 (a_i rfl (a_f rfl (a_f (r_ix (r_oe (r_lst (r_cons rfl (r_cons rfl r_nil)))) e1 rfl eq) a_n))) rfl rfl rfl
    refine wp_cons (w_set c2 ?_)
    -- the right map
    have rl := g.rl
    have n1 := g.n1
    have n2 := g.n2
    have r0 := told_ok sg rows sl tr (by omega)
    rw [g.good] at r0
    have q0 := r_eq (c := cf_law) (ng := true) (ρ := [some sc, some (stA ns2 s2), some (mapD sg rows sl tr), none, none, none, none, none, none, none, none, none, none, none, none, none, none, none, none]) (a := .call (PySem.Str.ofString "_law_told") (.fr (.v 2) .nil)) (b := .tup .nil) (x := badD none) (y := badD none) (r_callf (g := fn__law_told) rfl r0 rfl rfl rfl rfl) rfl badN_ok badN_ok
    refine wp_cons (w_ife (z := false) (t_b q0) (fun z => nomatch z) fun _ => wp_nil ?_)
    -- the wrong ones
    refine wp_cons (w_for (ds := rngD 0 (8 : Int).toNat) (sv := []) (i_r1 (j := 8) rfl (by decide)) (fun k ρ => ∃ ns s x3 x4 x5 x6, ρ = lw sc ns s (mapD sg rows sl tr) [x3, x4, x5, x6, none, none, none, none, none, none, none, none, none, none, none, none]) ⟨ns2, s2, _, _, _, _, rfl⟩ ?_ ?_)
    · rintro k hk _ ⟨ns3, s3, x3, x4, x5, x6, rfl⟩
      rw [rng_at hk]
      refine ⟨_, rfl, ?_⟩
      generalize (0 : Int) + (k : Int) = kind
      obtain ⟨sg', rows', sl', tr', r, i, ns4, s4, e4, F⟩ := bad_ok g kind ns3 s3
      have c4 : ev cf_law (.call (PySem.Str.ofString "_law_bad") (.io 1 (.fr (.v 2) (.fr (.v 3) .nil)))) (lw sc ns3 s3 (mapD sg rows sl tr) [some (.int kind), x4, x5, x6, none, none, none, none, none, none, none, none, none, none, none, none]) = some (dueD sg' rows' sl' tr' r i, lw sc ns4 s4 (mapD sg rows sl tr) [some (.int kind), x4, x5, x6, none, none, none, none, none, none, none, none, none, none, none, none]) :=
        r_callf (g := fn__law_bad) rfl e4 (a_i rfl (a_f rfl (a_f rfl a_n))) rfl rfl rfl
      refine wp_cons (w_unp c4 rfl ?_)
      have r1 := told_ok sg' rows' sl' tr' F.len
      rw [F.now] at r1
      have hsh := badS_ok F.lay i
      have q1 := r_eq (c := cf_law) (ng := true) (ρ := lw sc ns4 s4 (mapD sg rows sl tr) [some (.int kind), some (mapD sg' rows' sl' tr'), some (badD (some (r, i))), x6, none, none, none, none, none, none, none, none, none, none, none, none]) (a := .call (PySem.Str.ofString "_law_told") (.fr (.v 4) .nil)) (b := .v 5) (x := badD (some (r, i))) (y := badD (some (r, i))) (r_callf (g := fn__law_told) rfl r1 rfl rfl rfl rfl) rfl hsh hsh
      rw [eqv_bad] at q1
      refine wp_cons (w_ife (z := false) (t_b q1) (fun z => nomatch z) fun _ => wp_nil ?_)
      refine wp_cons (w_set (d := mapD sg' rows' sl' 9) rfl ?_)
      have q2 := r_eq (c := cf_law) (ng := true) (ρ := lw sc ns4 s4 (mapD sg rows sl tr) [some (.int kind), some (mapD sg' rows' sl' tr'), some (badD (some (r, i))), some (mapD sg' rows' sl' 9), none, none, none, none, none, none, none, none, none, none, none, none]) (a := .ix (.e (.v 5)) (.k (.int 0))) (b := .k (.str (PySem.Str.ofString "troubles"))) (x := .str r) (y := .str (PySem.Str.ofString "troubles")) rfl rfl (sh_str (k := 0) F.lay).ok (by decide +kernel)
      have tt : evT cf_law (.an (.e (.eq true (.ix (.e (.v 5)) (.k (.int 0))) (.k (.str (PySem.Str.ofString "troubles"))))) (.e (.eq true (.call (PySem.Str.ofString "_law_told") (.fr (.v 6) .nil)) (.v 5)))) (lw sc ns4 s4 (mapD sg rows sl tr) [some (.int kind), some (mapD sg' rows' sl' tr'), some (badD (some (r, i))), some (mapD sg' rows' sl' 9), none, none, none, none, none, none, none, none, none, none, none, none]) = some (false, lw sc ns4 s4 (mapD sg rows sl tr) [some (.int kind), some (mapD sg' rows' sl' tr'), some (badD (some (r, i))), some (mapD sg' rows' sl' 9), none, none, none, none, none, none, none, none, none, none, none, none]) := by
        rcases F.later with h9 | h9
        · have r2 := told_ok sg' rows' sl' 9 F.len
          rw [h9 9] at r2
          have q3 := r_eq (c := cf_law) (ng := true) (ρ := lw sc ns4 s4 (mapD sg rows sl tr) [some (.int kind), some (mapD sg' rows' sl' tr'), some (badD (some (r, i))), some (mapD sg' rows' sl' 9), none, none, none, none, none, none, none, none, none, none, none, none]) (a := .call (PySem.Str.ofString "_law_told") (.fr (.v 6) .nil)) (b := .v 5) (x := badD (some (r, i))) (y := badD (some (r, i))) (r_callf (g := fn__law_told) rfl r2 rfl rfl rfl rfl) rfl hsh hsh
          rw [eqv_bad] at q3
          exact t_an (t_b q2) (fun _ => ⟨rfl, rfl⟩) (fun _ => t_b q3)
        · refine t_an (t_b q2) (fun _ => ⟨rfl, rfl⟩) (fun z => ?_)
          rw [h9] at z
          have : (PyData.eqv (.str (PySem.Str.ofString "troubles")) (.str (PySem.Str.ofString "troubles")) != true) = false := by decide +kernel
          rw [this] at z
          cases z
      exact wp_cons (w_ife tt (fun z => nomatch z) fun _ => wp_nil (wp_nil ⟨ns4, s4, _, _, _, _, rfl⟩))
    rintro _ ⟨ns3, s3, x3, x4, x5, x6, rfl⟩
    refine ⟨_, rfl, ?_⟩
    have lenS := lenT_map PyData.int sg
    have lenR := lenT_map rowD rows
    refine wp_cons (w_unp (d := mapD sg rows sl tr) rfl rfl ?_)
    refine wp_cons (w_for (ds := rngD 0 sg.length) (sv := []) (i_r1 (j := (sg.length : Int)) (r_b1 (r_oe rfl) lenS) (inR_small (by omega) (by omega))) (fun k ρ => ∃ x5 x11 x12 x13 x14 x15 x16 x17 x18, ρ = lw sc ns3 s3 (mapD sg rows sl tr) [x3, x4, x5, x6, some (.tuple (sg.map .int)), some (.tuple (rows.map rowD)), some (.tuple (sl.map slipD)), some (.int tr), x11, x12, x13, x14, x15, x16, x17, x18]) ⟨_, _, _, _, _, _, _, _, _, rfl⟩ ?_ ?_)
    · rintro k hk _ ⟨x5, x11, x12, x13, x14, x15, x16, x17, x18, rfl⟩
      rw [rng_at hk]
      refine ⟨_, rfl, ?_⟩
      generalize (0 : Int) + (k : Int) = p
      refine wp_cons (w_for (ds := rngD 0 (6 : Int).toNat) (sv := []) (i_r1 (j := 6) rfl (by decide)) (fun k ρ => ∃ x5 x12 x13 x14 x15 x16 x17 x18, ρ = lw sc ns3 s3 (mapD sg rows sl tr) [x3, x4, x5, x6, some (.tuple (sg.map .int)), some (.tuple (rows.map rowD)), some (.tuple (sl.map slipD)), some (.int tr), some (.int p), x12, x13, x14, x15, x16, x17, x18]) ⟨_, _, _, _, _, _, _, _, rfl⟩ ?_ ?_)
      · rintro k hk _ ⟨x5, x12, x13, x14, x15, x16, x17, x18, rfl⟩
        rw [rng_at hk]
        refine ⟨_, rfl, ?_⟩
        generalize (0 : Int) + (k : Int) = w
        obtain ⟨f, ep, hf⟩ := path_of_ok sg rows sl tr p w
        have est := steps_from_ok g ep hf
        -- row
        have e13 := comp_filt (c := cf_law) (elt := .v 14) (tg := .n 14) (it := .r1 (.b1 .len (.e (.v 8)))) (cd := .so (.e (.eq false (.slc (.e (.ix (.e (.v 8)) (.v 14))) .no (.so (.k (.int 2)))) (.tup (.cons (.v 11) (.cons (.v 12) .nil)))))) (ws := [14]) (ds := rngD 0 rows.length) (ρ := lw sc ns3 s3 (mapD sg rows sl tr) [x3, x4, x5, x6, some (.tuple (sg.map .int)), some (.tuple (rows.map rowD)), some (.tuple (sl.map slipD)), some (.int tr), some (.int p), some (.int w), x13, x14, x15, x16, x17, x18]) (i_r1 (j := (rows.length : Int)) (r_b1 (r_oe rfl) lenR) (inR_small (by omega) (by omega))) (isP rows p w) id
          (ρ0 := lw sc ns3 s3 (mapD sg rows sl tr) [x3, x4, x5, x6, some (.tuple (sg.map .int)), some (.tuple (rows.map rowD)), some (.tuple (sl.map slipD)), some (.int tr), some (.int p), some (.int w), x13, none, x15, x16, x17, x18]) rfl (by rw [rng_len]; omega) (fun d hd => by
            obtain ⟨j, hj, rfl⟩ := List.getElem_of_mem hd
            have hj' : j < rows.length := by simpa [rngD] using hj
            rw [rng_at hj, Int.zero_add, isP_at hj']
            have ra := row_at hj'
            generalize rows[j] = r at *
            have e1 : ev cf_law (.slc (.e (.ix (.e (.v 8)) (.v 14))) .no (.so (.k (.int 2)))) (lw sc ns3 s3 (mapD sg rows sl tr) [x3, x4, x5, x6, some (.tuple (sg.map .int)), some (.tuple (rows.map rowD)), some (.tuple (sl.map slipD)), some (.int tr), some (.int p), some (.int w), x13, some (.int (j : Int)), x15, x16, x17, x18]) = some (pairD (key r), lw sc ns3 s3 (mapD sg rows sl tr) [x3, x4, x5, x6, some (.tuple (sg.map .int)), some (.tuple (rows.map rowD)), some (.tuple (sl.map slipD)), some (.int tr), some (.int p), some (.int w), x13, some (.int (j : Int)), x15, x16, x17, x18]) :=
              slc_b (l := [.int r.s, .int r.w, .int r.g, .int r.t]) (i := ((2 : Nat) : Int)) (z := rowD r) (r_oe (r_ix (o := .e (.v 8)) (b := .v 14) rfl rfl rfl ra)) rfl rfl (by show some (PyData.tuple (cutD [.int r.s, .int r.w, .int r.g, .int r.t] none (some ((2 : Nat) : Int)))) = _; rw [cut_b]; rfl)
            have e2 := r_eq (ng := false) (b := .tup (.cons (.v 11) (.cons (.v 12) .nil))) (y := pairD (p, w)) e1 rfl (sh_pair _).ok (sh_pair _).ok
            rw [bneF, eqv_pair] at e2
            exact ⟨_, _, rfl, t_b e2, fun _ => rfl, fun _ => ⟨_, rfl, rfl⟩⟩)
        rw [row_filter g.nd hf] at e13
        refine wp_cons (w_set e13 (wp_cons (w_set (d := .list []) rfl ?_)))
        cases f with
        | none =>
          refine wp_cons (w_for0 (ρ' := lw sc ns3 s3 (mapD sg rows sl tr) [x3, x4, some (.list []), x6, some (.tuple (sg.map .int)), some (.tuple (rows.map rowD)), some (.tuple (sl.map slipD)), some (.int tr), some (.int p), some (.int w), some (.list []), none, x15, x16, x17, x18]) rfl ?_)
          have cp : ev cf_law (.call (PySem.Str.ofString "path_of") (.fr (.v 2) (.fr (.v 11) (.fr (.v 12) .nil)))) (lw sc ns3 s3 (mapD sg rows sl tr) [x3, x4, some (.list []), x6, some (.tuple (sg.map .int)), some (.tuple (rows.map rowD)), some (.tuple (sl.map slipD)), some (.int tr), some (.int p), some (.int w), some (.list []), none, x15, x16, x17, x18]) = some (.none, lw sc ns3 s3 (mapD sg rows sl tr) [x3, x4, some (.list []), x6, some (.tuple (sg.map .int)), some (.tuple (rows.map rowD)), some (.tuple (sl.map slipD)), some (.int tr), some (.int p), some (.int w), some (.list []), none, x15, x16, x17, x18]) :=
            r_callf (g := fn_path_of) rfl ep rfl rfl rfl rfl
          refine wp_cons (w_set cp (wp_cons (w_ife (z := false) rfl (fun z => nomatch z) fun _ => wp_nil ?_)))
          have cs : ev cf_law (.call (PySem.Str.ofString "steps_from") (.fr (.v 2) (.fr (.v 11) (.fr (.v 12) .nil)))) (lw sc ns3 s3 (mapD sg rows sl tr) [x3, x4, some (.list []), x6, some (.tuple (sg.map .int)), some (.tuple (rows.map rowD)), some (.tuple (sl.map slipD)), some (.int tr), some (.int p), some (.int w), some (.list []), none, some .none, x16, x17, x18]) = some (.list [], lw sc ns3 s3 (mapD sg rows sl tr) [x3, x4, some (.list []), x6, some (.tuple (sg.map .int)), some (.tuple (rows.map rowD)), some (.tuple (sl.map slipD)), some (.int tr), some (.int p), some (.int w), some (.list []), none, some .none, x16, x17, x18]) :=
            r_callf (g := fn_steps_from) rfl est rfl rfl rfl rfl
          exact wp_cons (w_set cs (wp_cons (w_ife (z := false) rfl (fun z => nomatch z) fun _ => wp_nil (wp_nil ⟨_, _, _, _, _, _, _, _, rfl⟩))))
        | some i =>
          obtain ⟨hi, hkey⟩ := hf
          have ra := row_at hi
          have gr := g.hr _ (List.getElem_mem hi)
          have es : stepsD rows sl (some i) = sortT (stp rows[i] i sl) := by
            show (match rows[i]? with
              | some r => sortT (stp r i sl)
              | none => []) = _
            rw [List.getElem?_eq_getElem hi]
          rw [es] at est
          have srt := stp_ok (i := i) (by omega) gr g.hl g.ll
          generalize rows[i] = r at *
          have ll := g.ll
          refine wp_cons (w_for1 (d := .int (i : Int)) rfl rfl ?_)
          have e1 : ev cf_law (.slc (.e (.ix (.e (.v 8)) (.v 14))) (.so (.k (.int 2))) .no) (lw sc ns3 s3 (mapD sg rows sl tr) [x3, x4, some (.list []), x6, some (.tuple (sg.map .int)), some (.tuple (rows.map rowD)), some (.tuple (sl.map slipD)), some (.int tr), some (.int p), some (.int w), some (.list [.int (i : Int)]), some (.int (i : Int)), x15, x16, x17, x18]) = some (.tuple [.int r.g, .int r.t], lw sc ns3 s3 (mapD sg rows sl tr) [x3, x4, some (.list []), x6, some (.tuple (sg.map .int)), some (.tuple (rows.map rowD)), some (.tuple (sl.map slipD)), some (.int tr), some (.int p), some (.int w), some (.list [.int (i : Int)]), some (.int (i : Int)), x15, x16, x17, x18]) :=
            slc_a (l := [.int r.s, .int r.w, .int r.g, .int r.t]) (i := ((2 : Nat) : Int)) (z := rowD r) (r_oe (r_ix (o := .e (.v 8)) (b := .v 14) rfl rfl rfl ra)) rfl rfl (by show some (PyData.tuple (cutD [.int r.s, .int r.w, .int r.g, .int r.t] (some ((2 : Nat) : Int)) none)) = _; rw [cut_a]; rfl)
          have e2 := r_tcat e1 (b := .tup (.cons (.k (.int 0)) .nil)) (m := [.int 0]) rfl (by simp)
          have e3 := comp_filt (c := cf_law) (elt := .tup (.cons (.v 17) (.cons (.v 18) (.cons (.k (.int 1)) .nil)))) (tg := .t (.cons (.n 16) (.cons (.n 17) (.cons (.n 18) .nil)))) (it := .o (.e (.v 9))) (cd := .so (.e (.eq false (.v 16) (.v 14)))) (ws := [16, 17, 18]) (ds := sl.map slipD) (ρ := lw sc ns3 s3 (mapD sg rows sl tr) [x3, x4, some (.list []), x6, some (.tuple (sg.map .int)), some (.tuple (rows.map rowD)), some (.tuple (sl.map slipD)), some (.int tr), some (.int p), some (.int w), some (.list [.int (i : Int)]), some (.int (i : Int)), x15, x16, x17, x18]) rfl
            (fun d => match d with
              | .tuple [.int a, _, _] => decide (a = (i : Int))
              | _ => false)
            (fun d => match d with
              | .tuple [_, b, c] => .tuple [b, c, .int 1]
              | d => d)
            (ρ0 := lw sc ns3 s3 (mapD sg rows sl tr) [x3, x4, some (.list []), x6, some (.tuple (sg.map .int)), some (.tuple (rows.map rowD)), some (.tuple (sl.map slipD)), some (.int tr), some (.int p), some (.int w), some (.list [.int (i : Int)]), some (.int (i : Int)), x15, none, none, none]) rfl (by rw [List.length_map]; omega) (fun d hd => by
              obtain ⟨y, hy, rfl⟩ := List.mem_map.mp hd
              exact ⟨_, _, rfl, t_b (r_eqi (x := y.p) (y := (i : Int)) rfl rfl), fun _ => rfl, fun _ => ⟨_, rfl, rfl⟩⟩)
          rw [List.filter_map, List.map_map] at e3
          have hfl := List.length_filter_le (fun x : Slip => decide (x.p = (i : Int))) sl
          have e4a := r_lcat (c := cf_law) (ρ := lw sc ns3 s3 (mapD sg rows sl tr) [x3, x4, some (.list []), x6, some (.tuple (sg.map .int)), some (.tuple (rows.map rowD)), some (.tuple (sl.map slipD)), some (.int tr), some (.int p), some (.int w), some (.list [.int (i : Int)]), some (.int (i : Int)), x15, x16, x17, x18]) (o := .e (.v 5)) (x := .list []) (z := .list []) (y := .list [PyData.tuple ([.int r.g, .int r.t] ++ [.int 0])]) (d := .list [PyData.tuple ([.int r.g, .int r.t] ++ [.int 0])]) rfl (r_oe (r_lst (r_cons e2 r_nil))) rfl rfl
          have e4 := r_lcat (z := .list [PyData.tuple ([.int r.g, .int r.t] ++ [.int 0])]) (r_oe e4a) (r_oe e3) rfl (if_pos (lenOkS (by rw [List.length_map]; show 1 + (sl.filter fun x : Slip => decide (x.p = (i : Int))).length ≤ 16777216; omega)))
          have ed : ([] ++ [PyData.tuple ([.int r.g, .int r.t] ++ [.int 0])] ++ (sl.filter fun x : Slip => decide (x.p = (i : Int))).map (fun x => PyData.tuple [.int x.g, .int x.t, .int 1])) = (stp r i sl).map tupL := by
            unfold stp
            rw [List.map_cons, List.map_map]
            rfl
          refine wp_cons (w_set (d := .list ((stp r i sl).map tupL)) (e4.trans (by rw [← ed]; rfl)) (wp_nil ?_))
          have cp : ev cf_law (.call (PySem.Str.ofString "path_of") (.fr (.v 2) (.fr (.v 11) (.fr (.v 12) .nil)))) (lw sc ns3 s3 (mapD sg rows sl tr) [x3, x4, some (.list ((stp r i sl).map tupL)), x6, some (.tuple (sg.map .int)), some (.tuple (rows.map rowD)), some (.tuple (sl.map slipD)), some (.int tr), some (.int p), some (.int w), some (.list [.int (i : Int)]), some (.int (i : Int)), x15, none, none, none]) = some (.int (i : Int), lw sc ns3 s3 (mapD sg rows sl tr) [x3, x4, some (.list ((stp r i sl).map tupL)), x6, some (.tuple (sg.map .int)), some (.tuple (rows.map rowD)), some (.tuple (sl.map slipD)), some (.int tr), some (.int p), some (.int w), some (.list [.int (i : Int)]), some (.int (i : Int)), x15, none, none, none]) :=
            r_callf (g := fn_path_of) rfl ep rfl rfl rfl rfl
          refine wp_cons (w_set cp ?_)
          have q1 := r_eq (c := cf_law) (ng := true) (a := .v 15) (b := .ife (.e (.cm .gt (.b1 .len (.e (.v 13))) (.k (.int 0)))) (.ix (.e (.v 13)) (.k (.int 0))) (.k .none)) (x := .int (i : Int)) (y := .int (i : Int)) (ρ := lw sc ns3 s3 (mapD sg rows sl tr) [x3, x4, some (.list ((stp r i sl).map tupL)), x6, some (.tuple (sg.map .int)), some (.tuple (rows.map rowD)), some (.tuple (sl.map slipD)), some (.int tr), some (.int p), some (.int w), some (.list [.int (i : Int)]), some (.int (i : Int)), some (.int (i : Int)), none, none, none]) rfl rfl rfl rfl
          rw [show (PyData.eqv (.int (i : Int)) (.int (i : Int)) != true) = false by show (((i : Int) == (i : Int)) != true) = false; rw [beq_self_eq_true]; rfl] at q1
          refine wp_cons (w_ife (z := false) (t_or2 (v := false) (w := false) rfl fun _ => t_b q1) (fun z => nomatch z) fun _ => wp_nil ?_)
          have cs : ev cf_law (.call (PySem.Str.ofString "steps_from") (.fr (.v 2) (.fr (.v 11) (.fr (.v 12) .nil)))) (lw sc ns3 s3 (mapD sg rows sl tr) [x3, x4, some (.list ((stp r i sl).map tupL)), x6, some (.tuple (sg.map .int)), some (.tuple (rows.map rowD)), some (.tuple (sl.map slipD)), some (.int tr), some (.int p), some (.int w), some (.list [.int (i : Int)]), some (.int (i : Int)), some (.int (i : Int)), none, none, none]) = some (.list ((sortT (stp r i sl)).map tupL), lw sc ns3 s3 (mapD sg rows sl tr) [x3, x4, some (.list ((stp r i sl).map tupL)), x6, some (.tuple (sg.map .int)), some (.tuple (rows.map rowD)), some (.tuple (sl.map slipD)), some (.int tr), some (.int p), some (.int w), some (.list [.int (i : Int)]), some (.int (i : Int)), some (.int (i : Int)), none, none, none]) :=
            r_callf (g := fn_steps_from) rfl est rfl rfl rfl rfl
          refine wp_cons (w_set cs ?_)
          have q2 := r_eq (c := cf_law) (ng := true) (a := .v 15) (b := .b1 .srt (.e (.v 5))) (ρ := lw sc ns3 s3 (mapD sg rows sl tr) [x3, x4, some (.list ((stp r i sl).map tupL)), x6, some (.tuple (sg.map .int)), some (.tuple (rows.map rowD)), some (.tuple (sl.map slipD)), some (.int tr), some (.int p), some (.int w), some (.list [.int (i : Int)]), some (.int (i : Int)), some (.list ((sortT (stp r i sl)).map tupL)), none, none, none]) rfl (r_b1 (r_oe rfl) srt) (sh_tups _) (sh_tups _)
          rw [eqv_tupl] at q2
          exact wp_cons (w_ife (z := false) (t_or2 (v := false) (w := false) rfl fun _ => t_b q2) (fun z => nomatch z) fun _ => wp_nil (wp_nil ⟨_, _, _, _, _, _, _, _, rfl⟩))
      · rintro _ ⟨x5, x12, x13, x14, x15, x16, x17, x18, rfl⟩
        exact ⟨_, rfl, wp_nil ⟨_, _, _, _, _, _, _, _, _, rfl⟩⟩
    · rintro _ ⟨x5, x11, x12, x13, x14, x15, x16, x17, x18, rfl⟩
      exact ⟨_, rfl, wp_cons (w_ret rfl ⟨_, rfl, rfl⟩)⟩
  obtain ⟨d, o, e, rfl⟩ := h
  exact ⟨o, e⟩
end Lw_k01
namespace Lw_k01
open PySem PySem.Spec PyProof.Rows L2 Vw
/-! ### what the top has written; the law's own head -/
theorem all_mk {l : PySem.W.OpenLaw} {w : World} {K : PySem.W.Frag} {h : Heap} {mg : Str → Option Value} {fa : Addr} (X : K.In h) (G : h.Ns mainGlobals mg) (hfa : mg "law" = some (.ref fa))
    {f0 : Addr} {od0 an0 : Option Addr} {sl0 : Array (Option Value)} {oc0 kV0 dc0 pm0 cd0 ct0 : Value} {f1 : Addr} {od1 an1 : Option Addr} {sl1 : Array (Option Value)} {oc1 kV1 dc1 pm1 cd1 ct1 : Value} {f2 : Addr} {od2 an2 : Option Addr} {sl2 : Array (Option Value)} {oc2 kV2 dc2 pm2 cd2 ct2 : Value} {f3 : Addr} {od3 an3 : Option Addr} {sl3 : Array (Option Value)} {oc3 kV3 dc3 pm3 cd3 ct3 : Value} {f4 : Addr} {od4 an4 : Option Addr} {sl4 : Array (Option Value)} {oc4 kV4 dc4 pm4 cd4 ct4 : Value} {f5 : Addr} {od5 an5 : Option Addr} {sl5 : Array (Option Value)} {oc5 kV5 dc5 pm5 cd5 ct5 : Value} {f6 : Addr} {od6 an6 : Option Addr} {sl6 : Array (Option Value)} {oc6 kV6 dc6 pm6 cd6 ct6 : Value} {f7 : Addr} {od7 an7 : Option Addr} {sl7 : Array (Option Value)} {oc7 kV7 dc7 pm7 cd7 ct7 : Value} {f8 : Addr} {od8 an8 : Option Addr} {sl8 : Array (Option Value)} {oc8 kV8 dc8 pm8 cd8 ct8 : Value} {f9 : Addr} {od9 an9 : Option Addr} {sl9 : Array (Option Value)} {oc9 kV9 dc9 pm9 cd9 ct9 : Value} {f10 : Addr} {od10 an10 : Option Addr} {sl10 : Array (Option Value)} {oc10 kV10 dc10 pm10 cd10 ct10 : Value} {f11 : Addr} {od11 an11 : Option Addr} {sl11 : Array (Option Value)} {oc11 kV11 dc11 pm11 cd11 ct11 : Value} {f12 : Addr} {od12 an12 : Option Addr} {sl12 : Array (Option Value)} {oc12 kV12 dc12 pm12 cd12 ct12 : Value} {t_MOST_PATHS : Tok} {t_MOST_POINTS : Tok} {t_MOST_SIGN : Tok} {t_MOST_SLIPS : Tok} {t_MOST_TICKS : Tok} {t_MOST_TROUBLES : Tok} {t_WAYS : Tok} {nm_0 q_0 : Str} {C_0 N_0 W_0 fI_0 cda_0 cc_0 : Addr} {bs_0 : List Value} {sn_0 : List Str} {sub_0 : List Value} {ab_0 : Bool} {col_0 : Option Bool} {dd_0 od_0 an_0 cdd_0 cld_0 : Option Addr} {m0_0 m1_0 m2_0 m3_0 m5_0 : Option Value} {oc_0 doc_0 pm_0 kV_0 ct_0 ccl_0 cl_0 : Value} {osl_0 ccs_0 csl_0 : Array (Option Value)} {vs_0 : Array Value} {tf_0 : Tok} {V_0 : Addr} {V_1 : Addr}
    (a0 : PySem.W.nsIn K mainGlobals (PySem.Str.ofString "_law_state") = some (some (.ref f0))) (l0 : K.lookup f0 = some ⟨oc0, od0, .func (PySem.W.fnOf (PySem.Str.ofString "_law_state") (PySem.Str.ofString "_law_state") (defArgs (topS 19)) (defBody (topS 19)) (defScope (topS 19)) .none kV0 dc0 pm0 an0 cd0 ct0), sl0⟩) (c0 : PySem.W.codeIn K cd0 (PySem.Str.ofString "_law_state") = true) (k0 : PySem.W.keepIn K (.ref f0) = true)
    (a1 : PySem.W.nsIn K mainGlobals (PySem.Str.ofString "_law_draw") = some (some (.ref f1))) (l1 : K.lookup f1 = some ⟨oc1, od1, .func (PySem.W.fnOf (PySem.Str.ofString "_law_draw") (PySem.Str.ofString "_law_draw") (defArgs (topS 20)) (defBody (topS 20)) (defScope (topS 20)) .none kV1 dc1 pm1 an1 cd1 ct1), sl1⟩) (c1 : PySem.W.codeIn K cd1 (PySem.Str.ofString "_law_draw") = true) (k1 : PySem.W.keepIn K (.ref f1) = true)
    (a2 : PySem.W.nsIn K mainGlobals (PySem.Str.ofString "_law_map") = some (some (.ref f2))) (l2 : K.lookup f2 = some ⟨oc2, od2, .func (PySem.W.fnOf (PySem.Str.ofString "_law_map") (PySem.Str.ofString "_law_map") (defArgs (topS 21)) (defBody (topS 21)) (defScope (topS 21)) .none kV2 dc2 pm2 an2 cd2 ct2), sl2⟩) (c2 : PySem.W.codeIn K cd2 (PySem.Str.ofString "_law_map") = true) (k2 : PySem.W.keepIn K (.ref f2) = true)
    (a3 : PySem.W.nsIn K mainGlobals (PySem.Str.ofString "require") = some (some (.ref f3))) (l3 : K.lookup f3 = some ⟨oc3, od3, .func (PySem.W.fnOf (PySem.Str.ofString "require") (PySem.Str.ofString "require") (defArgs (topS 12)) (defBody (topS 12)) (defScope (topS 12)) .none kV3 dc3 pm3 an3 cd3 ct3), sl3⟩) (c3 : PySem.W.codeIn K cd3 (PySem.Str.ofString "require") = true) (k3 : PySem.W.keepIn K (.ref f3) = true)
    (a4 : PySem.W.nsIn K mainGlobals (PySem.Str.ofString "check_paths") = some (some (.ref f4))) (l4 : K.lookup f4 = some ⟨oc4, od4, .func (PySem.W.fnOf (PySem.Str.ofString "check_paths") (PySem.Str.ofString "check_paths") (defArgs (topS 13)) (defBody (topS 13)) (defScope (topS 13)) .none kV4 dc4 pm4 an4 cd4 ct4), sl4⟩) (c4 : PySem.W.codeIn K cd4 (PySem.Str.ofString "check_paths") = true) (k4 : PySem.W.keepIn K (.ref f4) = true)
    (a5 : PySem.W.nsIn K mainGlobals (PySem.Str.ofString "check_slips") = some (some (.ref f5))) (l5 : K.lookup f5 = some ⟨oc5, od5, .func (PySem.W.fnOf (PySem.Str.ofString "check_slips") (PySem.Str.ofString "check_slips") (defArgs (topS 14)) (defBody (topS 14)) (defScope (topS 14)) .none kV5 dc5 pm5 an5 cd5 ct5), sl5⟩) (c5 : PySem.W.codeIn K cd5 (PySem.Str.ofString "check_slips") = true) (k5 : PySem.W.keepIn K (.ref f5) = true)
    (a6 : PySem.W.nsIn K mainGlobals (PySem.Str.ofString "check_map") = some (some (.ref f6))) (l6 : K.lookup f6 = some ⟨oc6, od6, .func (PySem.W.fnOf (PySem.Str.ofString "check_map") (PySem.Str.ofString "check_map") (defArgs (topS 15)) (defBody (topS 15)) (defScope (topS 15)) .none kV6 dc6 pm6 an6 cd6 ct6), sl6⟩) (c6 : PySem.W.codeIn K cd6 (PySem.Str.ofString "check_map") = true) (k6 : PySem.W.keepIn K (.ref f6) = true)
    (a7 : PySem.W.nsIn K mainGlobals (PySem.Str.ofString "_law_told") = some (some (.ref f7))) (l7 : K.lookup f7 = some ⟨oc7, od7, .func (PySem.W.fnOf (PySem.Str.ofString "_law_told") (PySem.Str.ofString "_law_told") (defArgs (topS 24)) (defBody (topS 24)) (defScope (topS 24)) .none kV7 dc7 pm7 an7 cd7 ct7), sl7⟩) (c7 : PySem.W.codeIn K cd7 (PySem.Str.ofString "_law_told") = true) (k7 : PySem.W.keepIn K (.ref f7) = true)
    (a8 : PySem.W.nsIn K mainGlobals (PySem.Str.ofString "_law_swap") = some (some (.ref f8))) (l8 : K.lookup f8 = some ⟨oc8, od8, .func (PySem.W.fnOf (PySem.Str.ofString "_law_swap") (PySem.Str.ofString "_law_swap") (defArgs (topS 25)) (defBody (topS 25)) (defScope (topS 25)) .none kV8 dc8 pm8 an8 cd8 ct8), sl8⟩) (c8 : PySem.W.codeIn K cd8 (PySem.Str.ofString "_law_swap") = true) (k8 : PySem.W.keepIn K (.ref f8) = true)
    (a9 : PySem.W.nsIn K mainGlobals (PySem.Str.ofString "_law_bad") = some (some (.ref f9))) (l9 : K.lookup f9 = some ⟨oc9, od9, .func (PySem.W.fnOf (PySem.Str.ofString "_law_bad") (PySem.Str.ofString "_law_bad") (defArgs (topS 26)) (defBody (topS 26)) (defScope (topS 26)) .none kV9 dc9 pm9 an9 cd9 ct9), sl9⟩) (c9 : PySem.W.codeIn K cd9 (PySem.Str.ofString "_law_bad") = true) (k9 : PySem.W.keepIn K (.ref f9) = true)
    (a10 : PySem.W.nsIn K mainGlobals (PySem.Str.ofString "path_of") = some (some (.ref f10))) (l10 : K.lookup f10 = some ⟨oc10, od10, .func (PySem.W.fnOf (PySem.Str.ofString "path_of") (PySem.Str.ofString "path_of") (defArgs (topS 16)) (defBody (topS 16)) (defScope (topS 16)) .none kV10 dc10 pm10 an10 cd10 ct10), sl10⟩) (c10 : PySem.W.codeIn K cd10 (PySem.Str.ofString "path_of") = true) (k10 : PySem.W.keepIn K (.ref f10) = true)
    (a11 : PySem.W.nsIn K mainGlobals (PySem.Str.ofString "steps_from") = some (some (.ref f11))) (l11 : K.lookup f11 = some ⟨oc11, od11, .func (PySem.W.fnOf (PySem.Str.ofString "steps_from") (PySem.Str.ofString "steps_from") (defArgs (topS 17)) (defBody (topS 17)) (defScope (topS 17)) .none kV11 dc11 pm11 an11 cd11 ct11), sl11⟩) (c11 : PySem.W.codeIn K cd11 (PySem.Str.ofString "steps_from") = true) (k11 : PySem.W.keepIn K (.ref f11) = true)
    (a12 : PySem.W.nsIn K mainGlobals (PySem.Str.ofString "law") = some (some (.ref f12))) (l12 : K.lookup f12 = some ⟨oc12, od12, .func (PySem.W.fnOf (PySem.Str.ofString "law") (PySem.Str.ofString "law") (defArgs (topS 27)) (defBody (topS 27)) (defScope (topS 27)) .none kV12 dc12 pm12 an12 cd12 ct12), sl12⟩) (c12 : PySem.W.codeIn K cd12 (PySem.Str.ofString "law") = true) (k12 : PySem.W.keepIn K (.ref f12) = true)
    (w_MOST_PATHS : PySem.W.nsIn K mainGlobals (PySem.Str.ofString "MOST_PATHS") = some (some (.int 72 t_MOST_PATHS)))
    (w_MOST_POINTS : PySem.W.nsIn K mainGlobals (PySem.Str.ofString "MOST_POINTS") = some (some (.int 12 t_MOST_POINTS)))
    (w_MOST_SIGN : PySem.W.nsIn K mainGlobals (PySem.Str.ofString "MOST_SIGN") = some (some (.int 9 t_MOST_SIGN)))
    (w_MOST_SLIPS : PySem.W.nsIn K mainGlobals (PySem.Str.ofString "MOST_SLIPS") = some (some (.int 24 t_MOST_SLIPS)))
    (w_MOST_TICKS : PySem.W.nsIn K mainGlobals (PySem.Str.ofString "MOST_TICKS") = some (some (.int 6 t_MOST_TICKS)))
    (w_MOST_TROUBLES : PySem.W.nsIn K mainGlobals (PySem.Str.ofString "MOST_TROUBLES") = some (some (.int 4 t_MOST_TROUBLES)))
    (w_WAYS : PySem.W.nsIn K mainGlobals (PySem.Str.ofString "WAYS") = some (some (.int 6 t_WAYS)))
    (aC0 : PySem.W.nsIn K mainGlobals (PySem.Str.ofString "MapError") = some (some (.ref C_0))) (xL0 : K.lookup C_0 = some (excClassObj nm_0 q_0 C_0 N_0 bs_0 [.ref W_0, .type "ValueError", .type "Exception", .type "BaseException", .type "object"] true sn_0 sub_0 ab_0 col_0 dd_0 m0_0 m1_0 m2_0 m3_0 m5_0 "ValueError.__new__")) (sa0 : PySem.W.findIn K (.ref C_0) "__setattr__" = some (some (.builtin "object.__setattr__"))) (ga0 : PySem.W.findIn K (.ref C_0) "__getattribute__" = some (some (.builtin "BaseException.__getattribute__"))) (gg0 : PySem.W.findIn K (.ref C_0) "__getattr__" = some none) (na0 : PySem.W.findIn K (.ref C_0) "rule" = some none) (nb0 : PySem.W.findIn K (.ref C_0) "index" = some none) (kC0 : PySem.W.keepIn K (.ref C_0) = true) (eC0 : PySem.W.subIn K (.ref C_0) (.type "BaseException") = some true) (vC0 : PySem.W.subIn K (.ref C_0) (.type "ValueError") = some true) (yC0 : PySem.W.typeIn K (.ref C_0) = some (.type "type")) (su0 : PySem.W.ks_superIn K C_0 C_0 "__init__" = some (some (.builtin "ValueError.__init__"))) (op0 : PySem.W.nsIn K PySem.cStatics "thirdparty.any" = some none) (sl0 : PySem.W.mroIn K C_0 (.ref C_0) = some true) (hC0 : PySem.W.hasDictIn K C_0 = true) (iC0 : PySem.W.isClsIn K C_0 = true) (sC0 : PySem.W.subIn K (.ref C_0) (.ref C_0) = some true) (xa0 : PySem.W.findIn K (.ref C_0) "__class__" = some (some (.builtin "object.__class__"))) (xb0 : PySem.W.specialIn K (.builtin "object.__class__") "__get__" = some (some (.builtin "getset_descriptor.__get__"))) (xc0 : PySem.W.takesIn K (.builtin "object.__class__") = some true) (xd0 : PySem.W.mroIn K C_0 (.type "object") = some true) (fI0 : PySem.W.findIn K (.ref C_0) "__init__" = some (some (.ref fI_0))) (tI0 : PySem.W.typeIn K (.ref fI_0) = some (.type "function")) (lI0 : K.lookup fI_0 = some ⟨oc_0, od_0, .func (PySem.W.ksFn "__init__" (PySem.Str.ofString "MapError.__init__") (defArgs (cin 2)) (defBody (cin 2)) (defScope (cin 2)) .none kV_0 doc_0 pm_0 an_0 (.ref cda_0) ct_0 cc_0), osl_0⟩) (kI0 : PySem.W.codeIn K (.ref cda_0) (PySem.Str.ofString "MapError.__init__") = true) (lc0 : K.lookup cda_0 = some ⟨ccl_0, cdd_0, .fields vs_0, ccs_0⟩) (vf0 : vs_0[2]? = some (.str l.prog.main.file tf_0)) (lx0 : K.lookup cc_0 = some ⟨cl_0, cld_0, .cell (some (.ref C_0)), csl_0⟩)
    (aV0 : PySem.W.nsIn K mainGlobals (PySem.Str.ofString "LimitError") = some (some (.ref V_0)))
    (kI0x : PySem.W.kitOne K (.ref C_0) (.ref V_0) = some false)
    (aV1 : PySem.W.nsIn K mainGlobals (PySem.Str.ofString "WayError") = some (some (.ref V_1)))
    (kI1x : PySem.W.kitOne K (.ref C_0) (.ref V_1) = some true)
    (hsup : PySem.W.nsIn K mainGlobals "super" = some none) (htop : (l.prog.main.scope.names.lookup ("super" : Str)).isSome = false)
    (zb : (blAll.all fun x => isSN (PySem.W.nsIn K mainGlobals x)) = true) (nl : K.all noListB = true) :
    ∃ fd : FuncData, (∀ (s : Shared) (v : Value), BindsTo s fd ⟨[v], []⟩ [("script", v)]) ∧ ∀ base : Heap, K.In base → base.Ns mainGlobals mg → FnOk l.prog w K mg base CX0 7 fa fd ["script"] (spLaw K) := by
  have e := hfa.symm.trans (PySem.W.mg_of X G a12)
  cases e
  have hbl := bl_all X G zb
  have F0 := fun_mk (st := (topS 19)) l0 c0 k0
  have b0 := F0.binds (ps := [(PySem.Str.ofString "script")]) fun _ _ _ _ _ _ us hl => match us, hl with | [_], _ => rfl
  have F1 := fun_mk (st := (topS 20)) l1 c1 k1
  have b1 := F1.binds (ps := [(PySem.Str.ofString "state"), (PySem.Str.ofString "many")]) fun _ _ _ _ _ _ us hl => match us, hl with | [_, _], _ => rfl
  have F2 := fun_mk (st := (topS 21)) l2 c2 k2
  have b2 := F2.binds (ps := [(PySem.Str.ofString "state"), (PySem.Str.ofString "most"), (PySem.Str.ofString "slips")]) fun _ _ _ _ _ _ us hl => match us, hl with | [_, _, _], _ => rfl
  have F3 := fun_mk (st := (topS 12)) l3 c3 k3
  have b3 := F3.binds (ps := [(PySem.Str.ofString "holds"), (PySem.Str.ofString "rule"), (PySem.Str.ofString "index")]) fun _ _ _ _ _ _ us hl => match us, hl with | [_, _, _], _ => rfl
  have F4 := fun_mk (st := (topS 13)) l4 c4 k4
  have b4 := F4.binds (ps := [(PySem.Str.ofString "paths"), (PySem.Str.ofString "points")]) fun _ _ _ _ _ _ us hl => match us, hl with | [_, _], _ => rfl
  have F5 := fun_mk (st := (topS 14)) l5 c5 k5
  have b5 := F5.binds (ps := [(PySem.Str.ofString "slips"), (PySem.Str.ofString "paths"), (PySem.Str.ofString "points")]) fun _ _ _ _ _ _ us hl => match us, hl with | [_, _, _], _ => rfl
  have F6 := fun_mk (st := (topS 15)) l6 c6 k6
  have b6 := F6.binds (ps := [(PySem.Str.ofString "land")]) fun _ _ _ _ _ _ us hl => match us, hl with | [_], _ => rfl
  have F7 := fun_mk (st := (topS 24)) l7 c7 k7
  have b7 := F7.binds (ps := [(PySem.Str.ofString "land")]) fun _ _ _ _ _ _ us hl => match us, hl with | [_], _ => rfl
  have F8 := fun_mk (st := (topS 25)) l8 c8 k8
  have b8 := F8.binds (ps := [(PySem.Str.ofString "row"), (PySem.Str.ofString "at"), (PySem.Str.ofString "one")]) fun _ _ _ _ _ _ us hl => match us, hl with | [_, _, _], _ => rfl
  have F9 := fun_mk (st := (topS 26)) l9 c9 k9
  have b9 := F9.binds (ps := [(PySem.Str.ofString "state"), (PySem.Str.ofString "land"), (PySem.Str.ofString "kind")]) fun _ _ _ _ _ _ us hl => match us, hl with | [_, _, _], _ => rfl
  have F10 := fun_mk (st := (topS 16)) l10 c10 k10
  have b10 := F10.binds (ps := [(PySem.Str.ofString "land"), (PySem.Str.ofString "point"), (PySem.Str.ofString "way")]) fun _ _ _ _ _ _ us hl => match us, hl with | [_, _, _], _ => rfl
  have F11 := fun_mk (st := (topS 17)) l11 c11 k11
  have b11 := F11.binds (ps := [(PySem.Str.ofString "land"), (PySem.Str.ofString "point"), (PySem.Str.ofString "way")]) fun _ _ _ _ _ _ us hl => match us, hl with | [_, _, _], _ => rfl
  have F12 := fun_mk (st := (topS 27)) l12 c12 k12
  have b12 := F12.binds (ps := [(PySem.Str.ofString "script")]) fun _ _ _ _ _ _ us hl => match us, hl with | [_], _ => rfl
  refine ⟨PySem.W.fnOf (PySem.Str.ofString "law") (PySem.Str.ofString "law") (defArgs (topS 27)) (defBody (topS 27)) (defScope (topS 27)) .none kV12 dc12 pm12 an12 cd12 ct12, fun s v => .of_eq rfl, fun base _ _ => ?_⟩
  have T_0 : Ve.ErrT K C_0 := ⟨⟨_, _, _, _, _, _, _, _, _, _, _, _, _, _, _, xL0, rfl⟩, sa0, kC0, eC0, vC0, yC0, su0, op0, sl0⟩
  have Q_MapError : KlsAt l.prog K mg (PySem.Str.ofString "MapError") := ⟨C_0, ⟨T_0, na0, nb0, htop, ⟨fI_0, _, _, _, _, _, _, _, _, _, _, _, _, _, _, _, _, _, rfl, ⟨fI0, tI0, ⟨_, _, _, _, _, _, _, _, _, cda_0, cc_0, _, _, vs_0, _, tf_0, _, _, _, lI0, kI0, lc0, vf0, lx0⟩⟩⟩⟩, PySem.W.mg_of X G aC0, PySem.W.mg_none_of X G hsup, exm_own eC0 iC0 yC0 sC0, ⟨ga0, gg0, eC0, hC0⟩, ⟨iC0, xa0, xb0, xc0, xd0⟩⟩
  have P_MapError_LimitError : IsP (PySem.Str.ofString "MapError") (PySem.Str.ofString "LimitError") false K mg := ⟨C_0, V_0, PySem.W.mg_of X G aC0, PySem.W.mg_of X G aV0, kI0x⟩
  have P_MapError_WayError : IsP (PySem.Str.ofString "MapError") (PySem.Str.ofString "WayError") true K mg := ⟨C_0, V_1, PySem.W.mg_of X G aC0, PySem.W.mg_of X G aV1, kI1x⟩
  have G0 : FnOk l.prog w K mg base CX0 1 _ _ _ (spI K sg__law_state fn__law_state) := ok__law_state (Φ := cf__law_state) (k := 0) F0 hbl
  have G1 := ok__law_draw (P := l.prog) (w := w) (base := base) (k := 0) F1 hbl
  have G2 : FnOk l.prog w K mg base CX0 2 _ _ _ (spI K sg__law_map fn__law_map) := ok__law_map (Φ := cf__law_map) (k := 1) F2 hbl (callee G1 rfl (by decide) (PySem.W.mg_of X G a1) k1 b1)
  have G3 : FnOk l.prog w K mg base (L2.CX l.prog w) 3 _ _ _ (spX mg K sg_require fn_require) := ok_require (Φ := cf_require) (k := 2) F3 hbl Q_MapError (by decide)
  have G4 : FnOk l.prog w K mg base (L2.CX l.prog w) 4 _ _ _ (spX mg K sg_check_paths fn_check_paths) := ok_check_paths (Φ := cf_check_paths) (k := 3) F4 hbl (fun p hp => by simp only [List.mem_cons, List.not_mem_nil, or_false] at hp; rcases hp with rfl | rfl | rfl; exact ⟨t_MOST_PATHS, PySem.W.mg_of X G w_MOST_PATHS⟩; exact ⟨t_WAYS, PySem.W.mg_of X G w_WAYS⟩; exact ⟨t_MOST_TICKS, PySem.W.mg_of X G w_MOST_TICKS⟩) (calleeX G3 rfl (by decide) (PySem.W.mg_of X G a3) k3 b3)
  have G5 : FnOk l.prog w K mg base (L2.CX l.prog w) 4 _ _ _ (spX mg K sg_check_slips fn_check_slips) := ok_check_slips (Φ := cf_check_slips) (k := 3) F5 hbl (fun p hp => by simp only [List.mem_cons, List.not_mem_nil, or_false] at hp; rcases hp with rfl | rfl; exact ⟨t_MOST_SLIPS, PySem.W.mg_of X G w_MOST_SLIPS⟩; exact ⟨t_MOST_TICKS, PySem.W.mg_of X G w_MOST_TICKS⟩) (calleeX G3 rfl (by decide) (PySem.W.mg_of X G a3) k3 b3)
  have G6 : FnOk l.prog w K mg base (L2.CX l.prog w) 5 _ _ _ (spX mg K sg_check_map fn_check_map) := ok_check_map (Φ := cf_check_map) (k := 4) F6 hbl (fun p hp => by simp only [List.mem_cons, List.not_mem_nil, or_false] at hp; rcases hp with rfl | rfl | rfl; exact ⟨t_MOST_POINTS, PySem.W.mg_of X G w_MOST_POINTS⟩; exact ⟨t_MOST_SIGN, PySem.W.mg_of X G w_MOST_SIGN⟩; exact ⟨t_MOST_TROUBLES, PySem.W.mg_of X G w_MOST_TROUBLES⟩) (calleeX G3 rfl (by decide) (PySem.W.mg_of X G a3) k3 b3) (calleeX G4 rfl (by decide) (PySem.W.mg_of X G a4) k4 b4) (calleeX G5 rfl (by decide) (PySem.W.mg_of X G a5) k5 b5)
  have G7 : FnOk l.prog w K mg base CX0 6 _ _ _ (spI K sg__law_told fn__law_told) := ok__law_told (Φ := cf__law_told) (k := 5) F7 hbl Q_MapError (by decide) P_MapError_WayError P_MapError_LimitError (calleeX G6 rfl (by decide) (PySem.W.mg_of X G a6) k6 b6)
  have G8 : FnOk l.prog w K mg base CX0 1 _ _ _ (spI K sg__law_swap fn__law_swap) := ok__law_swap (Φ := cf__law_swap) (k := 0) F8 hbl
  have G9 : FnOk l.prog w K mg base CX0 2 _ _ _ (spI K sg__law_bad fn__law_bad) := ok__law_bad (Φ := cf__law_bad) (k := 1) F9 hbl (callee G1 rfl (by decide) (PySem.W.mg_of X G a1) k1 b1) (callee G8 rfl (by decide) (PySem.W.mg_of X G a8) k8 b8)
  have G10 : FnOk l.prog w K mg base CX0 1 _ _ _ (spI K sg_path_of fn_path_of) := ok_path_of (Φ := cf_path_of) (k := 0) F10 hbl
  have G11 : FnOk l.prog w K mg base CX0 2 _ _ _ (spI K sg_steps_from fn_steps_from) := ok_steps_from (Φ := cf_steps_from) (k := 1) F11 hbl (callee G10 rfl (by decide) (PySem.W.mg_of X G a10) k10 b10)
  have G12 : FnOk l.prog w K mg base CX0 7 _ _ _ (spI K sg_law fn_law) := ok_law (Φ := cf_law) (k := 6) F12 hbl (callee G0 rfl (by decide) (PySem.W.mg_of X G a0) k0 b0) (callee G2 rfl (by decide) (PySem.W.mg_of X G a2) k2 b2) (callee G1 rfl (by decide) (PySem.W.mg_of X G a1) k1 b1) (callee G7 rfl (by decide) (PySem.W.mg_of X G a7) k7 b7) (callee G9 rfl (by decide) (PySem.W.mg_of X G a9) k9 b9) (callee G10 rfl (by decide) (PySem.W.mg_of X G a10) k10 b10) (callee G11 rfl (by decide) (PySem.W.mg_of X G a11) k11 b11)
  exact FnOk.imp G12 (law_imp nl law_data)
end Lw_k01
open PySem PySem.W PyProof.Rows
set_option maxHeartbeats 0 in
theorem PySem.Challenge.cw_brackenway_k01_rules_of_maps_holds : PySem.Challenge.rw_brackenway_k01_rules_of_maps.Holds := by
  w_on; o_law; k_head; (case hw => w_witness2)
  k_fill
  refine L2.walk_ofB (l := PySem.Challenge.rw_brackenway_k01_rules_of_maps) (n := 63) (k := 7) (x := "script") (CX := fun _ => L2.CX0) (sp := fun w => Vw.spLaw _) rfl (by decide) rfl ⟨rfl, by decide, by decide⟩ (fun w h Y => PySem.W.kIn_of Y) ?F (fun _ _ a ns hl _ _ hS => ⟨a, ns, rfl, hS, hl, fun _ => rfl⟩) (fun _ _ _ _ _ h => h)
  case F =>
    intro w mg fa h KX G hmg
    refine' Lw_k01.all_mk KX G hmg ?a0 ?l0 ?c0 ?k0 ?a1 ?l1 ?c1 ?k1 ?a2 ?l2 ?c2 ?k2 ?a3 ?l3 ?c3 ?k3 ?a4 ?l4 ?c4 ?k4 ?a5 ?l5 ?c5 ?k5 ?a6 ?l6 ?c6 ?k6 ?a7 ?l7 ?c7 ?k7 ?a8 ?l8 ?c8 ?k8 ?a9 ?l9 ?c9 ?k9 ?a10 ?l10 ?c10 ?k10 ?a11 ?l11 ?c11 ?k11 ?a12 ?l12 ?c12 ?k12 ?w_MOST_PATHS ?w_MOST_POINTS ?w_MOST_SIGN ?w_MOST_SLIPS ?w_MOST_TICKS ?w_MOST_TROUBLES ?w_WAYS ?aC0 ?xL0 ?sa0 ?ga0 ?gg0 ?na0 ?nb0 ?kC0 ?eC0 ?vC0 ?yC0 ?su0 ?op0 ?sl0 ?hC0 ?iC0 ?sC0 ?xa0 ?xb0 ?xc0 ?xd0 ?fI0 ?tI0 ?lI0 ?kI0 ?lc0 ?vf0 ?lx0 ?aV0 ?kI0x ?aV1 ?kI1x ?hsup ?htop ?zb ?nl
    (case a0 => k_is); (case l0 => k_is); (case c0 => k_is); (case k0 => k_is); (case a1 => k_is); (case l1 => k_is); (case c1 => k_is); (case k1 => k_is); (case a2 => k_is); (case l2 => k_is); (case c2 => k_is); (case k2 => k_is); (case a3 => k_is); (case l3 => k_is); (case c3 => k_is); (case k3 => k_is); (case a4 => k_is); (case l4 => k_is); (case c4 => k_is); (case k4 => k_is); (case a5 => k_is); (case l5 => k_is); (case c5 => k_is); (case k5 => k_is); (case a6 => k_is); (case l6 => k_is); (case c6 => k_is); (case k6 => k_is); (case a7 => k_is); (case l7 => k_is); (case c7 => k_is); (case k7 => k_is); (case a8 => k_is); (case l8 => k_is); (case c8 => k_is); (case k8 => k_is); (case a9 => k_is); (case l9 => k_is); (case c9 => k_is); (case k9 => k_is); (case a10 => k_is); (case l10 => k_is); (case c10 => k_is); (case k10 => k_is); (case a11 => k_is); (case l11 => k_is); (case c11 => k_is); (case k11 => k_is); (case a12 => k_is); (case l12 => k_is); (case c12 => k_is); (case k12 => k_is); (case w_MOST_PATHS => k_is); (case w_MOST_POINTS => k_is); (case w_MOST_SIGN => k_is); (case w_MOST_SLIPS => k_is); (case w_MOST_TICKS => k_is); (case w_MOST_TROUBLES => k_is); (case w_WAYS => k_is); (case aC0 => first | k_is | rfl | kernel_rfl); (case xL0 => first | k_is | rfl | kernel_rfl); (case sa0 => first | k_is | rfl | kernel_rfl); (case ga0 => first | k_is | rfl | kernel_rfl); (case gg0 => first | k_is | rfl | kernel_rfl); (case na0 => first | k_is | rfl | kernel_rfl); (case nb0 => first | k_is | rfl | kernel_rfl); (case kC0 => first | k_is | rfl | kernel_rfl); (case eC0 => first | k_is | rfl | kernel_rfl); (case vC0 => first | k_is | rfl | kernel_rfl); (case yC0 => first | k_is | rfl | kernel_rfl); (case su0 => first | k_is | rfl | kernel_rfl); (case op0 => first | k_is | rfl | kernel_rfl); (case sl0 => first | k_is | rfl | kernel_rfl); (case hC0 => first | k_is | rfl | kernel_rfl); (case iC0 => first | k_is | rfl | kernel_rfl); (case sC0 => first | k_is | rfl | kernel_rfl); (case xa0 => first | k_is | rfl | kernel_rfl); (case xb0 => first | k_is | rfl | kernel_rfl); (case xc0 => first | k_is | rfl | kernel_rfl); (case xd0 => first | k_is | rfl | kernel_rfl); (case fI0 => first | k_is | rfl | kernel_rfl); (case tI0 => first | k_is | rfl | kernel_rfl); (case lI0 => first | k_is | rfl | kernel_rfl); (case kI0 => first | k_is | rfl | kernel_rfl); (case lc0 => first | k_is | rfl | kernel_rfl); (case vf0 => first | k_is | rfl | kernel_rfl); (case lx0 => first | k_is | rfl | kernel_rfl); (case aV0 => first | k_is | rfl | kernel_rfl); (case kI0x => first | k_is | rfl | kernel_rfl); (case aV1 => first | k_is | rfl | kernel_rfl); (case kI1x => first | k_is | rfl | kernel_rfl); (case hsup => first | k_is | rfl | kernel_rfl); (case htop => first | rfl | kernel_rfl); (case zb => kernel_rfl); (case nl => kernel_rfl)
