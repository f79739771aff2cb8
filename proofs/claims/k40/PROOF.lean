import PyProof.Rows.All
import Wide.All
import OpenK.AllK
import Wide.FinOn
import HandS.ForMost
import HandS.ForExc
import HandS.ExcField
import HandS.ExcIs
import HandS.ExcInit
import HandS.EndBits
import KE.KExcSuper
import HandS.Zip
import HandS.TupAny
import HandS.TupMul
import HandS.Flow
import HandS.TryOnly
import KE.GoesEnum
import HandS.IsInst
import HandS.Deep
import HandS.TupLe
import PySem.Challenge.RW_brackenway_k40_terrains_and_walks
set_option Elab.async false
set_option linter.all false
set_option maxRecDepth 100000
set_option maxHeartbeats 4000000
/-! An own exception class whose __init__ says super().__init__(a), then stores its arguments. -/
namespace Ve
open PySem PySem.W PySem.Calls PyProof.Rows PySem.HandSPX
def eA (l : List (Str × Pos)) (p0 : Pos) : Arguments := { posonlyargs := [], args := { arg := "self", annotation := none, pos := p0 } :: l.map (fun p => { arg := p.1, annotation := none, pos := p.2 }), vararg := none, kwonlyargs := [], kw_defaults := [], kwarg := none, defaults := [] }
def eSup (a : Str) (q0 q1 q2 q3 q4 q5 : Pos) : Stmt := .Expr (.Call (.Attribute (.Call (.Name "super" q0) [] [] q1) "__init__" q2) [.Name a q3] [] q4) q5
def eSt (a : Str) (r0 r1 r2 r3 : Pos) : Stmt := .Assign [.Attribute (.Name "self" r0) a r1] (.Name a r2) r3
def eS (l : List Str) : Scope := { kind := .function, names := ((PySem.Str.ofString "self", NameKind.local) :: l.map (fun a => (a, NameKind.local))) ++ [(PySem.Str.ofString "__class__", NameKind.free), (PySem.Str.ofString "super", NameKind.globalImplicit)], isGenerator := false, isCoroutine := false, more := [] }
/-- what the written part says of the class at C, its __init__ at fI, the cell cc, the code cda -/
structure ErrT (K : Frag) (C : Addr) : Prop where
  cls : ∃ nm q N bs bm sn sub ab col dd k0 k1 k2 k3 k5, K.lookup C = some (excClassObj nm q C N bs bm true sn sub ab col dd k0 k1 k2 k3 k5 "ValueError.__new__") ∧ refsVE bm = true
  sa : findIn K (.ref C) "__setattr__" = some (some (.builtin "object.__setattr__"))
  kC : keepIn K (.ref C) = true
  exC : subIn K (.ref C) (.type "BaseException") = some true
  veC : subIn K (.ref C) (.type "ValueError") = some true
  tyC : typeIn K (.ref C) = some (.type "type")
  sup : ks_superIn K C C "__init__" = some (some (.builtin "ValueError.__init__"))
  opq : nsIn K cStatics "thirdparty.any" = some none
  slf : mroIn K C (.ref C) = some true
/-- its __init__ -/
structure ErrI (K : Frag) (file : Str) (C fI : Addr) (ps : Arguments) (body : List Stmt) (sc : Scope) : Prop where
  iC : findIn K (.ref C) "__init__" = some (some (.ref fI))
  tC : typeIn K (.ref fI) = some (.type "function")
  fn : ∃ (qual : Str) (oc : Value) (od : Option Addr) (doc pm kV : Value) (an : Option Addr) (ct : Value) (osl : Array (Option Value)) (cda cc : Addr) (ccl : Value) (cdd : Option Addr) (vs : Array Value) (ccs : Array (Option Value)) (tf : Tok) (cl : Value) (cld : Option Addr) (csl : Array (Option Value)),
    K.lookup fI = some ⟨oc, od, .func (ksFn "__init__" qual ps body sc .none kV doc pm an (.ref cda) ct cc), osl⟩ ∧ codeIn K (.ref cda) qual = true ∧
    K.lookup cda = some ⟨ccl, cdd, .fields vs, ccs⟩ ∧ vs[2]? = some (.str file tf) ∧ K.lookup cc = some ⟨cl, cld, .cell (some (.ref C)), csl⟩
/-- a module's globals and the built-ins, in a heap -/
structure GlOk (mg : Str → Option Value) (h : Heap) : Prop where
  g : h.Ns mainGlobals mg
  sup : mg "super" = none
  b : ∃ mb, h.Ns builtinsNs mb ∧ mb "super" = some (.type "super")
theorem GlOk.keeps {mg : Str → Option Value} {h h' : Heap} (x : GlOk mg h) (k : ∀ b o, h.get? b = some o → h'.get? b = some o) : GlOk mg h' := by
  obtain ⟨mb, b1, b2⟩ := x.b
  exact ⟨x.g.keeps k, x.sup, mb, b1.keeps k, b2⟩
structure InitEnd (h h' : Heap) (x C dx t1 : Addr) (m : Str → Option Value) : Prop where
  keep : ∀ b o, b ≠ x → h.get? b = some o → h'.get? b = some o
  obj : h'.get? x = some { cls := .ref C, dict := some dx, data := .fields #[.ref t1, .none, .none, .none, .bool false, .none] }
  dbig : h.objs.size ≤ dx
  dne : dx ≠ x
  ns : h'.Ns1 dx m
theorem kept_but {K : Frag} {h h' : Heap} {x : Addr} (X : K.In h) (hx : K.lookup x = none) (k : ∀ b o, b ≠ x → h.get? b = some o → h'.get? b = some o) : K.In h' := fun a o e =>
  k a o (fun z => by rw [z, hx] at e; cases e) (X a o e)
section
variable {prog : Program} {w : World} {A : Around} {E : Value → Shared → Prop} {R : Result → Shared → Prop} {K : Frag} {mg : Str → Option Value} {C fI : Addr}
/-- the wrapper is called -/
theorem wr_call {s : Shared} {u x t0 : Addr} {rest : List Value} {Q : Value → Shared → Prop} (T : ErrT K C) (X : K.In s.heap) (hx : s.heap.get? x = some (excO C t0)) (hu : s.heap.get? u = some (kxs_mw "ValueError.__init__" x)) (hz : rest.length ≤ sizeLine)
    (h : ∀ h' t1, (∀ b o, b ≠ x → s.heap.get? b = some o → h'.get? b = some o) → h'.get? x = some (excO C t1) → Q .none { s with heap := h' }) : wpAny (model prog w) A (call (.ref u) rest) Q E s := by
  obtain ⟨nm, q, N, bs, bm, sn, sub, ab, col, dd, k0, k1, k2, k3, k5, hC, hbm⟩ := T.cls
  obtain ⟨hh, g, d, tk, os⟩ := s
  refine wpAny_call (codeAny_of_tree ?_)
  show wpAny _ A.in1 (callAny (.ref u) ⟨rest, []⟩) _ _ _
  simp only [callAny]
  refine wpAny_bind (wpAny_load hu ?_)
  have e : (Value.type "method-wrapper" == Value.type "method" || Value.type "method-wrapper" == Value.type "builtin_function_or_method" || Value.type "method-wrapper" == Value.type "method-wrapper") = true := by decide
  simp only [kxs_mw, e, if_true]
  refine KFB.if_so (by decide) ?_
  refine wpAny_bind (check_bound_init F.excBase_ValueError.toExcCallFacts (X _ _ hC) hx rfl ?_)
  refine wpAny_bind (wpAny_pure (wpAny_pure ?_))
  refine ⟨plainId_quiet F.excBase_ValueError.init.plain _, codeAny_builtin F.excBase_ValueError.initEntry ?_⟩
  exact exc_init_tree (cls := .ref C) (t0 := t0) (dv := none) (c2 := .none) (c3 := .none) (b4 := .bool false) hx hz fun h' k e1 _ => h h' _ k e1
theorem ldF {s : Shared} {env : Env} {m : Str → Option Value} {x : Str} {pos : Pos} {v : Value} {Q : Value → Shared → Prop} (hn : s.heap.Ns env.locals m) (hv : m x = some v) (hk : env.scope.kind = .function) (hl : env.kindOf x = some .local) (hd : (x == ("__debug__" : Str)) = false) (h : Q v s) :
    wpAny (model prog w) A (eval (.Name x pos) env) Q E s := wpAny_Name (wpAny_loadName_local hk hl hn hv h) hd
theorem sup_call {env : Env} {p0 p1 apos pos : Pos} {e : Expr} (hline : (apos.endLine == pos.line) = true) (hs : (starEach [e] env) = [(false, eval e env)]) :
    eval (.Call (.Attribute (.Call (.Name "super" p0) [] [] p1) "__init__" apos) [e] [] pos) env = (do
      let ov ← attributeBase (.Call (.Name "super" p0) [] [] p1) "__init__" env (eval (.Call (.Name "super" p0) [] [] p1) env)
      standAt apos.atName
      let (f, first) ← holding [ov] (getMethod ov "__init__" (do return (← importBound (.Call (.Name "super" p0) [] [] p1) env).getD true))
      callWith pos f first (backTo pos (starEach [e] env)) []) := by
  have hpos : methodCallPos true (.Call (.Name "super" p0) [] [] p1) env apos pos = pure pos := by
    unfold methodCallPos
    simp [hline]
  have hf : methodCallForm ([e].length + ([] : List Keyword).length) (backTo pos (starEach [e] env)) (backToKw pos (keywordEach [] env)) = true := by
    rw [hs]
    rfl
  rw [eval]
  unfold methodCall calleeOf
  rw [hf]
  simp only [hpos, if_true, pure_bind]
  rfl
/-- rule, index -/
theorem init2 {s : Shared} {x t0 : Addr} {v1 v2 : Value} {p0 p1 p2 q0 q1 q2 q3 q4 q5 r0 r1 r2 r3 r4 r5 r6 r7 : Pos} (T : ErrT K C)
    (I : ErrI K prog.main.file C fI (eA [(PySem.Str.ofString "rule", p1), (PySem.Str.ofString "index", p2)] p0) [eSup "rule" q0 q1 q2 q3 q4 q5, eSt "rule" r0 r1 r2 r3, eSt "index" r4 r5 r6 r7] (eS [PySem.Str.ofString "rule", PySem.Str.ofString "index"]))
    (hl1 : (q2.endLine == q4.line) = true) (n1 : findIn K (.ref C) "rule" = some none) (n2 : findIn K (.ref C) "index" = some none)
    (X : K.In s.heap) (hlim : s.heap.NoLimit) (G : GlOk mg s.heap) (htop : (prog.main.scope.names.lookup ("super" : Str)).isSome = false) (hx : s.heap.get? x = some (excO C t0)) (hnx : K.lookup x = none) (hroom : A.depth < recursionLimit)
    (hq : ∀ h' tk dx t1, InitEnd s.heap h' x C dx t1 (fun y => if y = "index" then some v2 else if y = "rule" then some v1 else none) → R (.ok (.ret .none)) { s with heap := h', toks := tk }) :
    codeAny (model prog w) A (.call (.ref fI) ⟨[.ref x, v1, v2], []⟩) R s := by
  obtain ⟨qual, oc, od, doc, pm, kV, an, ct, osl, cda, cc, ccl, cdd, vs, ccs, tf, cl, cld, csl, ho, hcd, hco, hvs, hcl⟩ := I.fn
  obtain ⟨nm, q, N, bs, bm, sn, sub, ab, col, dd, k0, k1, k2, k3, k5, hC, hbm⟩ := T.cls
  have hcls : clsIn K C = some { name := nm, bases := bs, mro := .ref C :: bm, ns := N, qualname := q, hasDict := true, slotNames := sn, subclasses := sub, abstract := ab, collection := col, hasDel := false } := by unfold clsIn; rw [hC] <;> rfl
  refine ks_codeAny_call_defAt (binds := [(PySem.Str.ofString "self", .ref x), (PySem.Str.ofString "rule", v1), (PySem.Str.ofString "index", v2)]) hroom (X _ _ ho) rfl hlim (codeRec_of X hcd) rfl (BindsTo.of_eq (by first | rfl | with_unfolding_all rfl))
    (show ∀ x ∈ (eS [PySem.Str.ofString "rule", PySem.Str.ofString "index"]).names, x.2 ≠ NameKind.cell by decide)
    (fun y hy => ?_) (fun h₁ hns hk₁ => ?_)
  · simp only [List.mem_cons, List.not_mem_nil, or_false] at hy
    rcases hy with rfl | rfl | rfl <;> rfl
  have X₁ : K.In h₁ := X.keeps hk₁
  have G₁ := G.keeps hk₁
  have hx₁ := hk₁ _ _ hx
  have ls : ("super" : Str) = PySem.Str.ofString "super" := rfl
  obtain ⟨mb, b1, b2⟩ := G₁.b
  refine ks_wpAt_execs_cons (ks_wpAt_Expr_any (ks_wpAt_MethodCall (ks_wpAt_super_base (f := fI) (cc := cda) rfl rfl rfl rfl (X₁ _ _ ho) rfl rfl rfl (X₁ _ _ hco) rfl hvs (by simp) htop ?_) (sup_call hl1 rfl)))
  refine ks_loadName_global rfl rfl (loadGlobal_builtin G₁.g G₁.sup b1 b2 ⟨rfl, ?_⟩)
  refine wpAny_loadName_free rfl rfl rfl ⟨_, X₁ _ _ hcl, rfl⟩ ?_
  refine wpAny_loadName_local (v := .ref x) rfl rfl hns rfl ?_
  refine ks_wpAny_isType_cls (X₁ _ _ hC) rfl ⟨rfl, ?_⟩
  refine ks_wpAny_call_super (X₁ _ _ hC) rfl hx₁ rfl (fun c e => nomatch e) (looks_mroIn X₁ T.slf) (fun h₂ e2 k2 => ?_)
  have X₂ : K.In h₂ := X₁.keeps k2
  have hx₂ := k2 _ _ hx₁
  have xC : x ≠ C := fun z => by
    rw [z, hC] at hnx
    cases hnx
  have I₂ : InstAt h₂ x (excO C t0) C none := ⟨hx₂, rfl, rfl, trivial⟩
  refine kxs_getMethod kxs_ValueError e2 (looks_opaque X₂ T.opq) (l₀ := .ref C :: bm) (fun A Q E s k q => wpAny_bind ((looks_clsIn X₂ hcls) A _ E s k (wpAny_pure q))) rfl X₂ ?_ (I₂.type.andThen (looks_subIn X₂ T.veC)) xC rfl ?_
  · have := T.sup
    unfold ks_superIn at this
    rw [hcls] at this
    exact this
  have k3 : ∀ b o, h₂.get? b = some o → (h₂.push (kxs_mw "ValueError.__init__" x)).get? b = some o := fun b o e => Heap.get?_push_of_some _ e
  have hns₃ := (hns.keeps k2).keeps k3
  refine kxs_callWith (i := "ValueError.__init__") (x := x) rfl ?_
  refine evalArgs_plain (Calls.spliced_cons (ldF (v := v1) hns₃ rfl rfl rfl (by decide) (Calls.spliced_nil ⟨Heap.get?_push_at rfl rfl, ?_⟩)))
  have X₃ := X₂.keeps k3
  have hx₃ := k3 _ _ hx₂
  have one : [v1].length ≤ sizeLine := by rw [sizeLine_eq]; exact (by decide : 1 ≤ 16777216)
  refine wr_call T X₃ hx₃ (Heap.get?_push_at rfl rfl) one fun h₄ t1 k4 hx₄ => ?_
  have nL : s.heap.objs.size ≠ x := Nat.ne_of_gt (Heap.lt_size hx)
  have X₄ : K.In h₄ := kept_but X₃ hnx k4
  obtain ⟨oL, es, ep, hL, rL⟩ := hns₃
  have hns₄ : h₄.Ns s.heap.objs.size _ := ⟨oL, es, ep, k4 _ _ nL hL, rL⟩
  show PySem.wpAt _ _ _ _ _ _ _
  refine wpAt_of_wpAny (wpAny_execs_cons (plainObj_wpAny_Assign_Attribute ?_))
  refine ldF (v := v1) hns₄ rfl rfl rfl (by decide) (ldF (v := .ref x) hns₄ rfl rfl rfl (by decide) ?_)
  refine set_plain X₄ (ox := excO C t1) (od := none) ⟨hx₄, rfl, rfl, trivial⟩ T.sa ?_
  refine exc_osa X₄ hx₄ hcls (show refsVE (.ref C :: bm) = true from hbm) rfl n1 (fun h₅ tk₅ dx k5 dn dne hx₅ hn₅ => ?_)
  have X₅ : K.In h₅ := kept_but X₄ hnx k5
  have hns₅ : h₅.Ns s.heap.objs.size _ := ⟨oL, es, ep, k5 _ _ nL (k4 _ _ nL hL), rL⟩
  show wpAny _ _ _ _ _ _
  refine wpAny_execs_cons (plainObj_wpAny_Assign_Attribute ?_)
  refine ldF (v := v2) hns₅ rfl rfl rfl (by decide) (ldF (v := .ref x) hns₅ rfl rfl rfl (by decide) ?_)
  obtain ⟨oD, esD, epD, hoD, hdD, _⟩ := hn₅.count (ns := ["rule"]) (Within.cons _ _ Within.nil)
  refine set_plain X₅ (ox := { cls := .ref C, dict := some dx, data := .fields #[.ref t1, .none, .none, .none, .bool false, .none] }) (od := some oD) ⟨hx₅, rfl, rfl, hoD⟩ T.sa ?_
  refine OEX.osa_old X₅ hx₅ hn₅ (Within.cons _ _ Within.nil) (by decide) hcls (show refsVE (.ref C :: bm) = true from hbm) rfl n2 (fun h₆ tk₆ k6 hn₆ => ?_)
  have back : ∀ b o, b ≠ x → s.heap.get? b = some o → h₄.get? b = some o := fun b o hb e => k4 b o hb (k3 b o (k2 b o (hk₁ b o e)))
  have grow : s.heap.objs.size ≤ h₄.objs.size := by
    exact Nat.le_of_lt (Heap.lt_size (k4 _ _ nL hL))
  have dn' : s.heap.objs.size ≤ dx := Nat.le_trans grow dn
  refine wpAny_execs_nil (hq h₆ tk₆ dx t1 ⟨fun b o hb e => k6 b o (fun z => ?_) (k5 b o hb (back b o hb e)), k6 _ _ dne.symm hx₅, dn', dne, hn₆⟩)
  rw [z] at e
  exact absurd (Nat.lt_of_lt_of_le (Heap.lt_size e) dn') (Nat.lt_irrefl _)
end
end Ve
namespace Ve
open PySem PySem.W PySem.Calls PyProof.Rows PySem.HandSPX
def fld2 (v1 v2 : Value) : Str → Option Value := fun y => if y = "index" then some v2 else if y = "rule" then some v1 else none
/-- made -/
structure OwnMade (h h' : Heap) (e C d : Addr) (m : Str → Option Value) : Prop where
  keep : ∀ b o, h.get? b = some o → h'.get? b = some o
  new : h.objs.size ≤ e
  obj : ∃ oe vs, h'.get? e = some oe ∧ oe.cls = .ref C ∧ oe.dict = some d ∧ oe.data = .fields vs ∧ vs[1]? = some .none
  dbig : h.objs.size ≤ d
  dne : d ≠ e
  ns : h'.Ns1 d m
/-- the class C, whose __init__ stores rule and index -/
structure Err2 (K : Frag) (prog : Program) (C : Addr) : Prop where
  T : ErrT K C
  n1 : findIn K (.ref C) "rule" = some none
  n2 : findIn K (.ref C) "index" = some none
  top : (prog.main.scope.names.lookup ("super" : Str)).isSome = false
  I : ∃ fI p0 p1 p2 q0 q1 q2 q3 q4 q5 r0 r1 r2 r3 r4 r5 r6 r7, (q2.endLine == q4.line) = true ∧ ErrI K prog.main.file C fI (eA [(PySem.Str.ofString "rule", p1), (PySem.Str.ofString "index", p2)] p0) [eSup "rule" q0 q1 q2 q3 q4 q5, eSt "rule" r0 r1 r2 r3, eSt "index" r4 r5 r6 r7] (eS [PySem.Str.ofString "rule", PySem.Str.ofString "index"])
section
variable {prog : Program} {w : World} {A : Around} {R : Result → Shared → Prop} {s : Shared} {K : Frag} {mg : Str → Option Value} {C : Addr}
theorem made2 (T : Err2 K prog C) {v1 v2 : Value} (X : K.In s.heap) (hlim : s.heap.NoLimit) (G : GlOk mg s.heap) (hroom : A.depth + 1 < recursionLimit)
    (hq : ∀ h' tk e d, OwnMade s.heap h' e C d (fld2 v1 v2) → R (.ok (.ret (.ref e))) { s with heap := h', toks := tk }) :
    codeAny (model prog w) A (.call (.ref C) ⟨[v1, v2], []⟩) R s := by
  obtain ⟨nm, q, N, bs, bm, sn, sub, ab, col, dd, k0, k1, k2, k3, k5, hC, hbm⟩ := T.T.cls
  obtain ⟨fI, p0, p1, p2, q0, q1, q2, q3, q4, q5, r0, r1, r2, r3, r4, r5, r6, r7, hl, I⟩ := T.I
  obtain ⟨hp, g, dr, tk, os⟩ := s
  have k : ∀ b o, hp.get? b = some o → ((hp.push (kdv_tup [v1, v2])).push (excO C hp.objs.size)).get? b = some o := fun b o e => Heap.get?_push_of_some _ (Heap.get?_push_of_some _ e)
  have hget : ((hp.push (kdv_tup [v1, v2])).push (excO C hp.objs.size)).get? (hp.objs.size + 1) = some (excO C hp.objs.size) := by heap_get
  have hnx : K.lookup (hp.objs.size + 1) = none := by
    cases e : K.lookup (hp.objs.size + 1) with
    | none => rfl
    | some o =>
      have z : hp.get? (hp.objs.size + 1) = some o := X _ _ e
      exact absurd (Nat.lt_of_succ_lt (Heap.lt_size z)) (Nat.lt_irrefl _)
  refine HandSPX.call_own F.excBase_ValueError (fun X => refsVE_contains X bm hbm) (X _ _ hC) (looks_findIn X I.iC) (fun self => bind_fn X self I.tC) (by rw [sizeLine_eq]; exact (by decide : 2 ≤ 16777216)) ?_
  refine init2 (s := ⟨(hp.push (kdv_tup [v1, v2])).push (excO C hp.objs.size), g, dr, tk, os⟩) T.T I hl T.n1 T.n2 (X.keeps k) (hlim.keeps k) (G.keeps k) T.top hget hnx ?_ fun h' tk' dx t1 ⟨k', hx, dn, dne, hns⟩ => ?_
  · show A.depth + 1 < recursionLimit
    exact hroom
  · have old : ∀ b o, hp.get? b = some o → h'.get? b = some o := fun b o e => k' b o (Nat.ne_of_lt (Nat.lt_succ_of_lt (Heap.lt_size e))) (k b o e)
    have z : hp.objs.size + 1 + 1 ≤ dx := by
      have q := dn
      rw [Heap.size_push, Heap.size_push] at q
      exact q
    exact ⟨rfl, hq h' tk' (hp.objs.size + 1) dx ⟨old, Nat.le_succ _, ⟨_, _, hx, rfl, rfl, rfl, rfl⟩, Nat.le_trans (Nat.le_trans (Nat.le_succ _) (Nat.le_succ _)) z, dne, hns⟩⟩
end
end Ve
namespace L2
open PySem PySem.Spec PyProof.Rows
theorem relO_2 {v1 v2 : V} {u1 u2 : Value} (r1 : RelV v1 u1) (r2 : RelV v2 u2) (f : Str) : RelO (List.lookup f [(PySem.Str.ofString "rule", v1), (PySem.Str.ofString "index", v2)]) (Ve.fld2 u1 u2 f) := by
  unfold Ve.fld2
  by_cases hi : f = "index"
  · subst hi
    rw [if_pos rfl]
    exact r2
  · rw [if_neg hi]
    by_cases hr : f = "rule"
    · subst hr
      rw [if_pos rfl]
      exact r1
    · rw [if_neg hr]
      have e1 : (f == PySem.Str.ofString "rule") = false := by simpa using hr
      have e2 : (f == PySem.Str.ofString "index") = false := by simpa using hi
      have q : List.lookup f [(PySem.Str.ofString "rule", v1), (PySem.Str.ofString "index", v2)] = none := by simp [List.lookup, e1, e2]
      rw [q]
      trivial
section
variable {X : Cx} {C : Addr}
/-- c(a, b) -/
def tMk2 (C : Addr) (ta : TA) : St → Hp → XK → Prop := fun σ H Q => ta σ H fun vs H1 => ∃ v1 v2, vs = [v1, v2] ∧ ∀ d, H1 d = none → Q (.ref C) (some d) (upd H1 d (.xd [(PySem.Str.ofString "rule", v1), (PySem.Str.ofString "index", v2)]))
theorem pmk2 {x : Str} {a b : Expr} {ta : TA} {p pos : Pos} {k : Nat} (T : Ve.Err2 X.K X.prog C) (gC : X.mg x = some (.ref C)) (gs : X.mg "super" = none) (hr : Room k X.A) (hk : 2 ≤ k) (ha : PA X [a, b] ta) (hg : Gl X x) (hdb : (x == ("__debug__" : Str)) = false)
    (he : starEach [a, b] X.env = (false, eval a X.env) :: starEach [b] X.env) (hpl : (backTo pos (starEach [b] X.env)).any (·.1) = false) :
    PMk X (.Call (.Name x p) [a, b] [] pos) (tMk2 C ta) := by
  intro pins s σ H Q I h
  refine wpAny_Call_Name_kw (ld_glob I hg gC ?_ hdb)
  refine PySem.W.callWith_K (h₀ := X.base) I.ok.mod.kin T.T.kC (thn (ha.run pos pins s σ H _ I h) fun us s1 hh => ?_) he hpl
  obtain ⟨vs, H1, I1, r1, v1, v2, ev, q1⟩ := hh
  subst ev
  refine ⟨I1.kIn, ?_⟩
  cases r1 with
  | cons rv rn =>
    rename_i u1 us1
    cases rn with
    | cons rv2 rn =>
      rename_i u2 us2
      cases rn
      show wpAny _ _ (call (.ref C) [u1, u2]) _ _ _
      have hlim := I1.nolimit
      have G : Ve.GlOk X.mg s1.heap := by
        obtain ⟨mb, h1, h2⟩ := I1.mod.blt
        exact ⟨I1.mod.glob.keeps I1.bk, gs, mb, h1.keeps I1.bk, h2 "super" (by decide)⟩
      obtain ⟨hp, g, dr, tk, os⟩ := s1
      refine wpAny_call (Ve.made2 T I1.kIn hlim G (by have := hr.dp; omega) fun h' tk' e d M => ?_)
      show MkP X pins σ Q (.ref e) ⟨h', g, dr, tk', os⟩
      obtain ⟨oe, fv, hoe, hc, hd, hdat, h1⟩ := M.obj
      have hns := M.ns
      obtain ⟨G', g1, g2⟩ := restrict h' fun b => decide (b ≠ e)
      have gk : ∀ b, b ≠ e → G'.get? b = h'.get? b := fun b hb => g1 b (decide_eq_true hb)
      have ge : G'.get? e = none := g2 e (by simp)
      have old : ∀ b o, hp.get? b = some o → G'.get? b = some o := fun b o q => (gk b (Nat.ne_of_lt (Nat.lt_of_lt_of_le (Heap.lt_size q) M.new))).trans (M.keep b o q)
      have ob : ObjOk X.prog X.w (upd H1 d (.xd [(PySem.Str.ofString "rule", v1), (PySem.Str.ofString "index", v2)])) G' d (.xd [(PySem.Str.ofString "rule", v1), (PySem.Str.ofString "index", v2)]) :=
        ⟨_, hns.at (fun o q => (gk d M.dne).trans q), fun f => relO_2 rv rv2 f⟩
      have J : Inv X pins σ (upd H1 d (.xd [(PySem.Str.ofString "rule", v1), (PySem.Str.ofString "index", v2)])) ⟨G', g, dr, tk', os⟩ := I1.laid (t' := tk') old M.dbig ob
      refine ⟨e, oe, fv, ⟨G', g, dr, tk', os⟩, _, .ref C, some d, rfl, J, fun b o q => ?_, ge, hoe, ⟨hc, hd⟩, hdat, h1, ?_, rfl, I1.bare, raises_own T.T.exC T.T.tyC, q1 d (I1.hok.fresh M.dbig)⟩
      · by_cases hb : b = e
        · have q' : G'.get? b = some o := q
          rw [hb, ge] at q'
          cases q'
        · exact (gk b hb).symm.trans q
      · rw [upd_ne (Ne.symm M.dne)]
        exact I1.hok.fresh M.new
end
end L2
/-! Values without the heap: data stand for what a name holds; who owns which list is told by a type. -/
namespace Vw
open PySem PySem.Spec PyProof.Rows L2

abbrev D := PyData
abbrev Sg := L2.St
inductive Ty where
  | fro | lst (t : Ty)
  deriving DecidableEq

/-! ### data in a heap -/
theorem SqL_same {K : PySem.W.Frag} {H H' : Hp} {a : Addr} {xs : List V} (s : Same H H') (h : SqL K H a xs) : SqL K H' a xs := by
  rcases h with (h | ⟨o, h⟩) | h
  · exact .inl (.inl (s _ _ h))
  · exact .inl (.inr ⟨o, s _ _ h⟩)
  · exact .inr h
theorem SqT_same {K : PySem.W.Frag} {H H' : Hp} {a : Addr} {xs : List V} (s : Same H H') (h : SqT K H a xs) : SqT K H' a xs := by
  rcases h with (h | ⟨o, h⟩) | h
  · exact .inl (.inl (s _ _ h))
  · exact .inl (.inr ⟨o, s _ _ h⟩)
  · exact .inr h
mutual
/-- v stands for the data d in H -/
inductive Rp (K : PySem.W.Frag) (H : Hp) : V → PyData → Prop
  | non : Rp K H .non .none
  | bl (b : Bool) : Rp K H (.bl b) (.bool b)
  | int (i : Int) : Rp K H (.int i) (.int i)
  | str (x : Str) : Rp K H (.str x) (.str x)
  | lst {a : Addr} {xs : List V} {ds : List PyData} : Rd H a (.lst xs) → RpAll K H xs ds → Rp K H (.ref a) (.list ds)
  | tup {a : Addr} {xs : List V} {ds : List PyData} : SqT K H a xs → RpAll K H xs ds → Rp K H (.ref a) (.tuple ds)
inductive RpAll (K : PySem.W.Frag) (H : Hp) : List V → List PyData → Prop
  | nil : RpAll K H [] []
  | cons {v : V} {vs : List V} {d : PyData} {ds : List PyData} : Rp K H v d → RpAll K H vs ds → RpAll K H (v :: vs) (d :: ds)
end
mutual
theorem Rp.dp {K : PySem.W.Frag} {H : Hp} : ∀ (d : PyData) (v : V), Rp K H v d → Dp K H v d
  | .none, _, h => by cases h; exact .non
  | .bool _, _, h => by cases h; exact .bl _
  | .int _, _, h => by cases h; exact .int _
  | .str _, _, h => by cases h; exact .str _
  | .list ds, _, h => by
    cases h with
    | lst hs ha => exact .lst (.inl hs) (RpAll.dp ds _ ha)
  | .tuple ds, _, h => by
    cases h with
    | tup hs ha => exact .tup hs (RpAll.dp ds _ ha)
  | .dict _, _, h => by cases h
theorem RpAll.dp {K : PySem.W.Frag} {H : Hp} : ∀ (ds : List PyData) (vs : List V), RpAll K H vs ds → DpAll K H vs ds
  | [], _, h => by cases h; exact .nil
  | d :: ds, _, h => by
    cases h with
    | cons h1 h2 => exact .cons (Rp.dp d _ h1) (RpAll.dp ds _ h2)
end
theorem Rd_same {H H' : Hp} {a : Addr} {u : HO} (s : Same H H') (h : Rd H a u) : Rd H' a u := by
  rcases h with h | ⟨o, h⟩
  · exact .inl (s _ _ h)
  · exact .inr ⟨o, s _ _ h⟩
mutual
theorem Rp_same {K : PySem.W.Frag} {H H' : Hp} (s : Same H H') : ∀ (d : D) (v : V), Rp K H v d → Rp K H' v d
  | .none, _, h => by cases h; exact .non
  | .bool _, _, h => by cases h; exact .bl _
  | .int _, _, h => by cases h; exact .int _
  | .str _, _, h => by cases h; exact .str _
  | .list ds, _, h => by
    cases h with
    | lst hs ha => exact .lst (Rd_same s hs) (RpAll_same s ds _ ha)
  | .tuple ds, _, h => by
    cases h with
    | tup hs ha => exact .tup (SqT_same s hs) (RpAll_same s ds _ ha)
  | .dict _, _, h => by cases h
theorem RpAll_same {K : PySem.W.Frag} {H H' : Hp} (s : Same H H') : ∀ (ds : List D) (vs : List V), RpAll K H vs ds → RpAll K H' vs ds
  | [], _, h => by cases h; exact .nil
  | d :: ds, _, h => by
    cases h with
    | cons h1 h2 => exact .cons (Rp_same s d _ h1) (RpAll_same s ds _ h2)
end
theorem RpAll.len {K : PySem.W.Frag} {H : Hp} : ∀ {vs : List V} {ds : List D}, RpAll K H vs ds → vs.length = ds.length
  | _, _, .nil => rfl
  | _, _, .cons _ h => by
    show _ + 1 = _ + 1
    rw [h.len]
theorem RpAll.get {K : PySem.W.Frag} {H : Hp} : ∀ {vs : List V} {ds : List D} {i : Nat} {d : D}, RpAll K H vs ds → ds[i]? = some d → ∃ v, vs[i]? = some v ∧ Rp K H v d
  | _, _, _, _, .nil, e => by simp at e
  | _, _, 0, _, .cons h _, e => by simp at e; subst e; exact ⟨_, rfl, h⟩
  | _, _, i + 1, d, .cons _ t, e => by
    obtain ⟨v, h1, h2⟩ := RpAll.get (i := i) (d := d) t (by simpa using e)
    exact ⟨v, by simpa using h1, h2⟩
theorem RpAll.get' {K : PySem.W.Frag} {H : Hp} : ∀ {vs : List V} {ds : List D} {i : Nat} {v : V}, RpAll K H vs ds → vs[i]? = some v → ∃ d, ds[i]? = some d ∧ Rp K H v d
  | _, _, _, _, .nil, e => by simp at e
  | _, _, 0, _, .cons h _, e => by simp at e; subst e; exact ⟨_, rfl, h⟩
  | _, _, i + 1, d, .cons _ t, e => by
    obtain ⟨v, h1, h2⟩ := RpAll.get' (i := i) (v := d) t (by simpa using e)
    exact ⟨v, by simpa using h1, h2⟩
theorem RpAll.app {K : PySem.W.Frag} {H : Hp} : ∀ {vs ws : List V} {ds es : List D}, RpAll K H vs ds → RpAll K H ws es → RpAll K H (vs ++ ws) (ds ++ es)
  | _, _, _, _, .nil, h => h
  | _, _, _, _, .cons h t, h' => .cons h (t.app h')
theorem RpAll.take {K : PySem.W.Frag} {H : Hp} : ∀ {vs : List V} {ds : List D} (n : Nat), RpAll K H vs ds → RpAll K H (vs.take n) (ds.take n)
  | _, _, 0, _ => .nil
  | _, _, _ + 1, .nil => .nil
  | _, _, n + 1, .cons h t => .cons h (t.take n)
theorem RpAll.drop {K : PySem.W.Frag} {H : Hp} : ∀ {vs : List V} {ds : List D} (n : Nat), RpAll K H vs ds → RpAll K H (vs.drop n) (ds.drop n)
  | _, _, 0, h => h
  | _, _, _ + 1, .nil => .nil
  | _, _, n + 1, .cons _ t => t.drop n
theorem RpAll.set {K : PySem.W.Frag} {H : Hp} {v : V} {d : D} (hd : Rp K H v d) : ∀ {vs : List V} {ds : List D} (i : Nat), RpAll K H vs ds → RpAll K H (vs.set i v) (ds.set i d)
  | _, _, _, .nil => .nil
  | _, _, 0, .cons _ t => .cons hd t
  | _, _, i + 1, .cons h t => .cons h (RpAll.set hd i t)
theorem RpAll.ints {K : PySem.W.Frag} {H : Hp} : ∀ {vs : List V} {ns : List Int}, RpAll K H vs (ns.map PyData.int) → vs = ns.map V.int
  | _, [], h => by cases h; rfl
  | _, n :: ns, h => by
    cases h with
    | cons h1 h2 =>
      cases h1
      rw [h2.ints]
      rfl
theorem RpAll.of_ints {K : PySem.W.Frag} {H : Hp} : ∀ (ns : List Int), RpAll K H (ns.map V.int) (ns.map PyData.int)
  | [] => .nil
  | n :: ns => .cons (.int n) (RpAll.of_ints ns)
theorem RpAll.bls {K : PySem.W.Frag} {H : Hp} : ∀ {vs : List V} {ns : List Bool}, RpAll K H vs (ns.map PyData.bool) → vs = ns.map V.bl
  | _, [], h => by cases h; rfl
  | _, n :: ns, h => by
    cases h with
    | cons h1 h2 =>
      cases h1
      rw [h2.bls]
      rfl

/-! ### owned lists -/
def scalar : D → Bool
  | .list _ => false
  | .tuple _ => false
  | .dict _ => false
  | _ => true
theorem Rp_scalar {K : PySem.W.Frag} {H H' : Hp} : ∀ {d : D} {v : V}, scalar d = true → Rp K H v d → Rp K H' v d
  | .none, _, _, h => by cases h; exact .non
  | .bool _, _, _, h => by cases h; exact .bl _
  | .int _, _, _, h => by cases h; exact .int _
  | .str _, _, _, h => by cases h; exact .str _
  | .list _, _, e, _ => by cases e
  | .tuple _, _, e, _ => by cases e
  | .dict _, _, e, _ => by cases e
/-- item by item, each with its own addresses -/
def AllF (P : D → V → List Addr → Prop) : List D → List V → List Addr → Prop
  | [], [], F => F = []
  | d :: ds, v :: vs, F => ∃ F1 F2, F = F1 ++ F2 ∧ P d v F1 ∧ AllF P ds vs F2
  | _, _, _ => False
/-- v is d by the type t: what it owns stands at F, in H; all else in G -/
def Own (K : PySem.W.Frag) (G H : Hp) : Ty → D → V → List Addr → Prop
  | .fro => fun d v F => F = [] ∧ Rp K G v d
  | .lst t => fun d v F => (scalar d = true ∧ F = [] ∧ Rp K G v d) ∨ ∃ ds a vs F', d = .list ds ∧ v = .ref a ∧ F = a :: F' ∧ H a = some (.lst vs) ∧ AllF (Own K G H t) ds vs F'
theorem AllF.mono {P P' : D → V → List Addr → Prop} : ∀ {ds : List D} {vs : List V} {F : List Addr}, (∀ d v F', (∀ a ∈ F', a ∈ F) → P d v F' → P' d v F') → AllF P ds vs F → AllF P' ds vs F
  | [], [], _, _, h => h
  | [], _ :: _, _, _, h => h.elim
  | _ :: _, [], _, _, h => h.elim
  | d :: ds, v :: vs, F, i, ⟨F1, F2, e, p, q⟩ => ⟨F1, F2, e, i _ _ _ (fun a ha => by rw [e]; exact List.mem_append_left _ ha) p, AllF.mono (fun d v F' hF => i d v F' fun a ha => by rw [e]; exact List.mem_append_right _ (hF a ha)) q⟩
theorem AllF.len {P : D → V → List Addr → Prop} : ∀ {ds : List D} {vs : List V} {F : List Addr}, AllF P ds vs F → vs.length = ds.length
  | [], [], _, _ => rfl
  | [], _ :: _, _, h => h.elim
  | _ :: _, [], _, h => h.elim
  | d :: ds, v :: vs, F, ⟨F1, F2, e, p, q⟩ => by
    show _ + 1 = _ + 1
    rw [q.len]
section
variable {K : PySem.W.Frag} {G G' H H' : Hp}
theorem Own.stay (sG : Same G G') : ∀ {t : Ty} {d : D} {v : V} {F : List Addr}, (∀ a ∈ F, H' a = H a) → Own K G H t d v F → Own K G' H' t d v F
  | .fro, d, v, F, _, ⟨e, h⟩ => ⟨e, Rp_same sG d v h⟩
  | .lst t, d, v, F, k, .inl ⟨s, e, h⟩ => .inl ⟨s, e, Rp_same sG d v h⟩
  | .lst t, d, v, F, k, .inr ⟨ds, a, vs, F', e1, e2, e3, e4, q⟩ => by
    refine .inr ⟨ds, a, vs, F', e1, e2, e3, ?_, ?_⟩
    · rw [k a (by rw [e3]; exact List.mem_cons_self)]
      exact e4
    · exact q.mono fun d v F'' hF h => Own.stay sG (fun b hb => k b (by rw [e3]; exact List.mem_cons_of_mem _ (hF b hb))) h
theorem AllF.mem {P : D → V → List Addr → Prop} {R : Addr → Prop} (i : ∀ d v F, P d v F → ∀ a ∈ F, R a) : ∀ {ds : List D} {vs : List V} {F : List Addr}, AllF P ds vs F → ∀ a ∈ F, R a
  | [], [], F, h, a, ha => by
    have h : F = [] := h
    rw [h] at ha
    cases ha
  | [], _ :: _, _, h, _, _ => h.elim
  | _ :: _, [], _, h, _, _ => h.elim
  | d :: ds, v :: vs, F, ⟨F1, F2, e, p, q⟩, a, ha => by
    rw [e] at ha
    rcases List.mem_append.mp ha with ha | ha
    · exact i _ _ _ p a ha
    · exact AllF.mem i q a ha
theorem Own.there : ∀ {t : Ty} {d : D} {v : V} {F : List Addr}, Own K G H t d v F → ∀ a ∈ F, ∃ vs, H a = some (.lst vs)
  | .fro, d, v, F, ⟨e, _⟩, a, ha => by rw [e] at ha; cases ha
  | .lst t, d, v, F, .inl ⟨_, e, _⟩, a, ha => by rw [e] at ha; cases ha
  | .lst t, d, v, F, .inr ⟨ds, b, vs, F', e1, e2, e3, e4, q⟩, a, ha => by
    rw [e3] at ha
    rcases List.mem_cons.mp ha with rfl | ha
    · exact ⟨vs, e4⟩
    · exact q.mem (fun d v F h => Own.there h) a ha
theorem RpAll_of {P : D → V → List Addr → Prop} : ∀ {ds : List D} {vs : List V} {F : List Addr}, (∀ d v F', (∀ a ∈ F', a ∈ F) → P d v F' → Rp K G v d) → AllF P ds vs F → RpAll K G vs ds
  | [], [], _, _, _ => .nil
  | [], _ :: _, _, _, h => h.elim
  | _ :: _, [], _, _, h => h.elim
  | d :: ds, v :: vs, F, i, ⟨F1, F2, e, p, q⟩ => .cons (i _ _ _ (fun a ha => by rw [e]; exact List.mem_append_left _ ha) p) (RpAll_of (fun d v F' hF => i d v F' fun a ha => by rw [e]; exact List.mem_append_right _ (hF a ha)) q)
/-- what was owned is given away -/
theorem Own.rp (sG : Same G G') : ∀ {t : Ty} {d : D} {v : V} {F : List Addr}, (∀ a ∈ F, G' a = H a) → Own K G H t d v F → Rp K G' v d
  | .fro, d, v, F, _, ⟨e, h⟩ => Rp_same sG d v h
  | .lst t, d, v, F, k, .inl ⟨s, e, h⟩ => Rp_same sG d v h
  | .lst t, d, v, F, k, .inr ⟨ds, a, vs, F', e1, e2, e3, e4, q⟩ => by
    subst e1 e2
    refine .lst (xs := vs) (.inl ?_) ?_
    · rw [k a (by rw [e3]; exact List.mem_cons_self)]
      exact e4
    · exact RpAll_of (fun d v F'' hF h => Own.rp sG (fun b hb => k b (by rw [e3]; exact List.mem_cons_of_mem _ (hF b hb))) h) q
theorem AllF.fro : ∀ {ds : List D} {vs : List V} {F : List Addr}, AllF (Own K G H .fro) ds vs F → F = [] ∧ RpAll K G vs ds
  | [], [], _, h => ⟨h, .nil⟩
  | [], _ :: _, _, h => h.elim
  | _ :: _, [], _, h => h.elim
  | d :: ds, v :: vs, F, ⟨F1, F2, e, ⟨e1, p⟩, q⟩ => by
    obtain ⟨e2, r⟩ := q.fro
    subst e1 e2
    exact ⟨e, .cons p r⟩
theorem AllF.of_fro : ∀ {ds : List D} {vs : List V}, RpAll K G vs ds → AllF (Own K G H .fro) ds vs []
  | _, _, .nil => rfl
  | _, _, .cons h t => ⟨[], [], rfl, ⟨rfl, h⟩, AllF.of_fro t⟩
end
/-- H on F, G elsewhere -/
def join (G H : Hp) (F : List Addr) : Hp := fun a => if a ∈ F then H a else G a
theorem join_same {G H : Hp} {F : List Addr} (h : ∀ a ∈ F, G a = none) : Same G (join G H F) := fun a o e => by
  unfold join
  by_cases ha : a ∈ F
  · rw [h a ha] at e
    cases e
  · rw [if_neg ha]
    exact e
theorem join_sub {G H : Hp} {F : List Addr} (h : Same G H) : Same (join G H F) H := fun a o e => by
  unfold join at e
  by_cases ha : a ∈ F
  · rw [if_pos ha] at e
    exact e
  · rw [if_neg ha] at e
    exact h _ _ e
theorem join_in {G H : Hp} {F : List Addr} {a : Addr} (h : a ∈ F) : join G H F a = H a := by
  unfold join
  rw [if_pos h]
theorem join_out {G H : Hp} {F : List Addr} {a : Addr} (h : a ∉ F) : join G H F a = G a := by
  unfold join
  rw [if_neg h]

/-! ### slots and things held meanwhile -/
abbrev Rho := List (Option D)
structure Tm where
  t : Ty
  d : D
  v : V
def SlF (K : PySem.W.Frag) (G H : Hp) : List Ty → Rho → Sg → List Addr → Prop
  | t :: Γ, o :: ρ, s :: σ, F => ∃ F1 F2, F = F1 ++ F2 ∧ (match o with
    | none => F1 = []
    | some d => ∃ v, s = some v ∧ Own K G H t d v F1) ∧ SlF K G H Γ ρ σ F2
  | [], [], [], F => F = []
  | _, _, _, _ => False
def TmF (K : PySem.W.Frag) (G H : Hp) : List Tm → List Addr → Prop
  | [], F => F = []
  | x :: ts, F => ∃ F1 F2, F = F1 ++ F2 ∧ Own K G H x.t x.d x.v F1 ∧ TmF K G H ts F2
section
variable {K : PySem.W.Frag} {G G' H H' : Hp}
theorem SlF.stay (sG : Same G G') : ∀ {Γ : List Ty} {ρ : Rho} {σ : Sg} {F : List Addr}, (∀ a ∈ F, H' a = H a) → SlF K G H Γ ρ σ F → SlF K G' H' Γ ρ σ F
  | [], [], [], _, _, h => h
  | t :: Γ, o :: ρ, s :: σ, F, k, ⟨F1, F2, e, p, q⟩ => by
    refine ⟨F1, F2, e, ?_, SlF.stay sG (fun a ha => k a (by rw [e]; exact List.mem_append_right _ ha)) q⟩
    cases o with
    | none => exact p
    | some d =>
      obtain ⟨v, e1, p⟩ := p
      exact ⟨v, e1, p.stay sG fun a ha => k a (by rw [e]; exact List.mem_append_left _ ha)⟩
  | [], [], _ :: _, _, _, h => h.elim
  | [], _ :: _, _, _, _, h => by cases ‹Sg› <;> exact h.elim
  | _ :: _, [], _, _, _, h => by cases ‹Sg› <;> exact h.elim
  | _ :: _, _ :: _, [], _, _, h => h.elim
theorem TmF.stay (sG : Same G G') : ∀ {ts : List Tm} {F : List Addr}, (∀ a ∈ F, H' a = H a) → TmF K G H ts F → TmF K G' H' ts F
  | [], _, _, h => h
  | x :: ts, F, k, ⟨F1, F2, e, p, q⟩ => ⟨F1, F2, e, p.stay sG (fun a ha => k a (by rw [e]; exact List.mem_append_left _ ha)), TmF.stay sG (fun a ha => k a (by rw [e]; exact List.mem_append_right _ ha)) q⟩
theorem SlF.there : ∀ {Γ : List Ty} {ρ : Rho} {σ : Sg} {F : List Addr}, SlF K G H Γ ρ σ F → ∀ a ∈ F, ∃ vs, H a = some (.lst vs)
  | [], [], [], F, h, a, ha => by
    have h : F = [] := h
    rw [h] at ha
    cases ha
  | t :: Γ, o :: ρ, s :: σ, F, ⟨F1, F2, e, p, q⟩, a, ha => by
    rw [e] at ha
    rcases List.mem_append.mp ha with ha | ha
    · cases o with
      | none =>
        have p : F1 = [] := p
        rw [p] at ha
        cases ha
      | some d =>
        obtain ⟨v, e1, p⟩ := p
        exact p.there a ha
    · exact SlF.there q a ha
  | [], [], _ :: _, _, h, _, _ => h.elim
  | [], _ :: _, _, _, h, _, _ => by cases ‹Sg› <;> exact h.elim
  | _ :: _, [], _, _, h, _, _ => by cases ‹Sg› <;> exact h.elim
  | _ :: _, _ :: _, [], _, h, _, _ => h.elim
theorem TmF.there : ∀ {ts : List Tm} {F : List Addr}, TmF K G H ts F → ∀ a ∈ F, ∃ vs, H a = some (.lst vs)
  | [], F, h, a, ha => by
    have h : F = [] := h
    rw [h] at ha
    cases ha
  | x :: ts, F, ⟨F1, F2, e, p, q⟩, a, ha => by
    rw [e] at ha
    rcases List.mem_append.mp ha with ha | ha
    · exact p.there a ha
    · exact TmF.there q a ha
/-- a slot's part taken out -/
theorem SlF.take : ∀ {Γ : List Ty} {ρ : Rho} {σ : Sg} {F : List Addr} {i : Nat} {d : D}, SlF K G H Γ ρ σ F → ρ[i]? = some (some d) →
    ∃ t v F1 F2, Γ[i]? = some t ∧ σ[i]? = some (some v) ∧ (F1 ++ F2).Perm F ∧ Own K G H t d v F1 ∧ SlF K G H Γ (ρ.set i none) σ F2
  | [], [], [], _, _, _, _, e => by simp at e
  | t :: Γ, o :: ρ, s :: σ, F, 0, d, ⟨F1, F2, e, p, q⟩, e0 => by
    have e0 : o = some d := by simpa using e0
    subst e0
    obtain ⟨v, e1, p⟩ := p
    subst e1
    exact ⟨t, v, F1, F2, rfl, rfl, by rw [e], p, [], F2, rfl, rfl, q⟩
  | t :: Γ, o :: ρ, s :: σ, F, i + 1, d, ⟨F1, F2, e, p, q⟩, e0 => by
    obtain ⟨t', v, F3, F4, e1, e2, e3, e4, e5⟩ := SlF.take (i := i) (d := d) q (by simpa using e0)
    refine ⟨t', v, F3, F1 ++ F4, by simpa using e1, by simpa using e2, ?_, e4, F1, F4, rfl, p, e5⟩
    rw [e]
    refine List.Perm.trans ?_ (List.Perm.append_left F1 e3)
    rw [← List.append_assoc, ← List.append_assoc]
    exact List.Perm.append_right _ List.perm_append_comm
  | [], [], _ :: _, _, _, _, h, _ => h.elim
  | [], _ :: _, _, _, _, _, h, _ => by cases ‹Sg› <;> exact h.elim
  | _ :: _, [], _, _, _, _, h, _ => by cases ‹Sg› <;> exact h.elim
  | _ :: _, _ :: _, [], _, _, _, h, _ => h.elim
/-- what a slot held is let go -/
theorem SlF.drop : ∀ {Γ : List Ty} {ρ : Rho} {σ : Sg} {F : List Addr} (i : Nat) (x : Option V), SlF K G H Γ ρ σ F → ∃ F1 F2, (F1 ++ F2).Perm F ∧ SlF K G H Γ (ρ.set i none) (σ.set i x) F2
  | [], [], [], _, _, _, h => by
    have h := h
    exact ⟨[], _, List.Perm.refl _, by simpa using h⟩
  | t :: Γ, o :: ρ, s :: σ, F, 0, x, ⟨F1, F2, e, p, q⟩ => ⟨F1, F2, by rw [e], [], F2, rfl, rfl, q⟩
  | t :: Γ, o :: ρ, s :: σ, F, i + 1, x, ⟨F1, F2, e, p, q⟩ => by
    obtain ⟨F3, F4, e3, e5⟩ := SlF.drop i x q
    refine ⟨F3, F1 ++ F4, ?_, F1, F4, rfl, p, e5⟩
    rw [e]
    refine List.Perm.trans ?_ (List.Perm.append_left F1 e3)
    rw [← List.append_assoc, ← List.append_assoc]
    exact List.Perm.append_right _ List.perm_append_comm
  | [], [], _ :: _, _, _, _, h => h.elim
  | [], _ :: _, _, _, _, _, h => by cases ‹Sg› <;> exact h.elim
  | _ :: _, [], _, _, _, _, h => by cases ‹Sg› <;> exact h.elim
  | _ :: _, _ :: _, [], _, _, _, h => h.elim
/-- .. the name's value kept -/
theorem SlF.forget : ∀ {Γ : List Ty} {ρ : Rho} {σ : Sg} {F : List Addr} (i : Nat), SlF K G H Γ ρ σ F → ∃ F1 F2, (F1 ++ F2).Perm F ∧ SlF K G H Γ (ρ.set i none) σ F2
  | [], [], [], _, _, h => by
    have h := h
    exact ⟨[], _, List.Perm.refl _, by simpa using h⟩
  | t :: Γ, o :: ρ, s :: σ, F, 0, ⟨F1, F2, e, p, q⟩ => ⟨F1, F2, by rw [e], [], F2, rfl, rfl, q⟩
  | t :: Γ, o :: ρ, s :: σ, F, i + 1, ⟨F1, F2, e, p, q⟩ => by
    obtain ⟨F3, F4, e3, e5⟩ := SlF.forget i q
    refine ⟨F3, F1 ++ F4, ?_, F1, F4, rfl, p, e5⟩
    rw [e]
    refine List.Perm.trans ?_ (List.Perm.append_left F1 e3)
    rw [← List.append_assoc, ← List.append_assoc]
    exact List.Perm.append_right _ List.perm_append_comm
  | [], [], _ :: _, _, _, h => h.elim
  | [], _ :: _, _, _, _, h => by cases ‹Sg› <;> exact h.elim
  | _ :: _, [], _, _, _, h => by cases ‹Sg› <;> exact h.elim
  | _ :: _, _ :: _, [], _, _, h => h.elim
/-- a slot is filled -/
theorem SlF.put : ∀ {Γ : List Ty} {ρ : Rho} {σ : Sg} {F F1 : List Addr} {i : Nat} {t : Ty} {d : D} {v : V}, SlF K G H Γ ρ σ F → ρ[i]? = some none → Γ[i]? = some t → σ[i]? = some (some v) → Own K G H t d v F1 →
    ∃ F2, (F1 ++ F).Perm F2 ∧ SlF K G H Γ (ρ.set i (some d)) σ F2
  | [], [], [], _, _, _, _, _, _, _, e, _, _, _ => by simp at e
  | t :: Γ, o :: ρ, s :: σ, F, F1, 0, t', d, v, ⟨F3, F4, e, p, q⟩, e0, e1, e2, ow => by
    have e0 : o = none := by simpa using e0
    have e1 : t = t' := by simpa using e1
    have e2 : s = some v := by simpa using e2
    subst e0 e1 e2
    have p : F3 = [] := p
    subst p
    exact ⟨F1 ++ F4, by rw [e]; exact List.Perm.refl _, F1, F4, rfl, ⟨v, rfl, ow⟩, q⟩
  | t :: Γ, o :: ρ, s :: σ, F, F1, i + 1, t', d, v, ⟨F3, F4, e, p, q⟩, e0, e1, e2, ow => by
    obtain ⟨F5, e5, q5⟩ := SlF.put (i := i) (d := d) q (by simpa using e0) (by simpa using e1) (by simpa using e2) ow
    refine ⟨F3 ++ F5, ?_, F3, F5, rfl, p, q5⟩
    rw [e]
    refine List.Perm.trans ?_ (List.Perm.append_left F3 e5)
    rw [← List.append_assoc, ← List.append_assoc]
    exact List.Perm.append_right _ List.perm_append_comm
  | [], [], _ :: _, _, _, _, _, _, _, h, _, _, _, _ => h.elim
  | [], _ :: _, _, _, _, _, _, _, _, h, _, _, _, _ => by cases ‹Sg› <;> exact h.elim
  | _ :: _, [], _, _, _, _, _, _, _, h, _, _, _, _ => by cases ‹Sg› <;> exact h.elim
  | _ :: _, _ :: _, [], _, _, _, _, _, _, h, _, _, _, _ => h.elim
theorem SlF.lens : ∀ {Γ : List Ty} {ρ : Rho} {σ : Sg} {F : List Addr}, SlF K G H Γ ρ σ F → Γ.length = σ.length ∧ ρ.length = σ.length
  | [], [], [], _, _ => ⟨rfl, rfl⟩
  | t :: Γ, o :: ρ, s :: σ, F, ⟨F1, F2, e, p, q⟩ => by
    obtain ⟨a, b⟩ := q.lens
    exact ⟨by simp [a], by simp [b]⟩
  | [], [], _ :: _, _, h => h.elim
  | [], _ :: _, _, _, h => by cases ‹Sg› <;> exact h.elim
  | _ :: _, [], _, _, h => by cases ‹Sg› <;> exact h.elim
  | _ :: _, _ :: _, [], _, h => h.elim
end
end Vw
namespace Vw
open PySem PySem.Spec PyProof.Rows L2
/-! ### the terms -/
inductive Ar where
  | add | sub | mul | fdiv | mod | pow
  deriving DecidableEq
inductive Cm where
  | lt | le | gt | ge
  deriving DecidableEq
inductive B1 where
  | len | tup | lst | sum | mn | mx | srt | all | any | abs | int
  deriving DecidableEq
inductive B2 where
  | mn | mx
  deriving DecidableEq
inductive Ik where
  | l | t | b | i | s | lt | tl
  deriving DecidableEq
mutual
inductive Tg where
  | n (i : Nat) | t (l : Tgs)
inductive Tgs where
  | nil | cons (a : Tg) (l : Tgs)
end
mutual
inductive E where
  | v (i : Nat) | mv (i : Nat) | k (d : D) | gl (x : Str) (d : D)
  | neg (a : E) | ar (o : Ar) (a b : E) | cm (o : Cm) (a b : E) | ch (o o2 : Cm) (a b c : E)
  | eq (ng : Bool) (a b : E) | isn (ng : Bool) (a : E)
  | no (t : T) | an (a b : E) | orr (a b : E) | ife (t : T) (a b : E)
  | tup (es : Es) | lst (es : Es)
  | tcat (a b : E) | trep (a b : E) | lcat (a b : O) | lrep (a : O) (b : E)
  | ix (o : O) (e : E) | ix2 (i : Nat) (a b : E) | slc (o : O) (lo hi : Oe)
  | b1 (f : B1) (o : O) | b2 (f : B2) (a b : E)
  | inn (ng : Bool) (a : E) (o : O)
  | ind (ng : Bool) (a b : E) | ch3 (o o2 o3 : Cm) (a b c d : E) | isi (k : Ik) (o : O) | rep (a : E) | isb (ng v : Bool) (a : E)
  | call (f : Str) (as : As)
  | comp (elt : E) (tg : Tg) (it : Iv) (cd : Ot) (ws : List Nat)
  | pop (i : Nat) | popat (i : Nat) (e : E)
inductive T where
  | e (a : E) | sl (i : Nat) | an (a b : T) | orr (a b : T) | no (a : T)
inductive Ot where
  | no | so (t : T)
inductive Es where
  | nil | cons (e : E) (es : Es)
inductive O where
  | e (a : E) | s (i : Nat)
inductive Oe where
  | no | so (e : E)
inductive As where
  | nil | fr (e : E) (as : As) | io (i : Nat) (as : As) | bo (i : Nat) (as : As)
inductive Iv where
  | o (o : O) | r1 (a : E) | r2 (a b : E) | r3 (a b c : E) | en (o : O) | zp (a b : E)
end
mutual
inductive Hx where
  | v (i : Nat) | k (d : D) | xf (f : Str) | tup (l : Hxs) | ise (c : Str) (b : Bool) | isf (k : Ik) (f : Str) | eq (a b : Hx) | no (a : Hx) | an (a b : Hx) | orr (a b : Hx) | ife (t a b : Hx)
inductive Hxs where
  | nil | cons (a : Hx) (l : Hxs)
end
/-- an except suite: returns -/
inductive Hs where
  | ret (a : Hx) | ifr (t a : Hx) (r : Hs)
mutual
inductive S where
  | set (i : Nat) (e : E) | unp (tg : Tg) (e : E) | par (i j : Nat) (a b : E) | aug (i : Nat) (o : Ar) (e : E)
  | app (i : Nat) (e : E) | sti (i : Nat) (a e : E) | sti2 (i : Nat) (a b e : E)
  | ex (e : E) | ife (t : T) (a b : Ss) | for (tg : Tg) (it : Iv) (b : Ss) | wh (t : T) (b : Ss)
  | ret (e : E) | retn | brk | cnt | pas | kill (l : List Nat)
  | rse (c : Str) (ns : List Str) (es : Es) | cx (f : Str) (es : Es) | rtx (f : Str) (es : Es) | sx (i : Nat) (f : Str) (es : Es) | ifx (ng : Bool) (f : Str) (es : Es) (a b : Ss) | tr (b : Ss) (c : Str) (i : Nat) (h : Hs)
inductive Ss where
  | nil | cons (s : S) (ss : Ss) | fz (i : Nat) (ss : Ss) | reb (i : Nat) (t : Ty) (e : E) (ss : Ss)
end

/-! ### what they give -/
abbrev Fs := List (Str × D)
/-- what a def that may raise gives -/
inductive Xr where
  | ret (d : D) (o : List D) | exn (c : Str) (fs : Fs)
structure Cf where
  fn : Str → List D → Option (D × List D)
  W : Nat
  fx : Str → List D → Option Xr := fun _ _ => none
inductive Rs where
  | nx (ρ : Rho) | ret (d : D) (ρ : Rho) | brk (ρ : Rho) | cnt (ρ : Rho) | exn (c : Str) (fs : Fs) (ρ : Rho)
def arD : Ar → D → D → Option D
  | .add, .int i, .int j => some (.int (i + j))
  | .sub, .int i, .int j => some (.int (i - j))
  | .mul, .int i, .int j => if (-(2 ^ 64) < i ∧ i < 2 ^ 64) ∨ (-(2 ^ 64) < j ∧ j < 2 ^ 64) then some (.int (i * j)) else none
  | .fdiv, .int i, .int j => if 0 < j ∧ j < 1073741824 then some (.int (i / j)) else none
  | .mod, .int i, .int j => if 0 < j then some (.int (i % j)) else none
  | .pow, .int i, .int j => if 0 ≤ j ∧ j ≤ 1000000 ∧ i.natAbs < 2 ^ 64 then some (.int (i ^ j.toNat)) else none
  | _, _, _ => none
def cmI : Cm → Int → Int → Bool
  | .lt, i, j => decide (i < j)
  | .le, i, j => decide (i ≤ j)
  | .gt, i, j => decide (j < i)
  | .ge, i, j => decide (j ≤ i)
def cmD : Cm → D → D → Option Bool
  | o, .int i, .int j => some (cmI o i j)
  | _, _, _ => none
def eqD (ng : Bool) (x y : D) : Option D := if SeqAt.shaped x = true ∧ SeqAt.shaped y = true then some (.bool (PyData.eqv x y != ng)) else none
def isNone : D → Bool
  | .none => true
  | _ => false
def truD : D → Option Bool
  | .none => some false
  | .bool b => some b
  | .int i => some (i != 0)
  | .list l => some (!l.isEmpty)
  | .tuple l => some (!l.isEmpty)
  | _ => none
def seqD : D → Option (List D)
  | .list l => some l
  | .tuple l => some l
  | _ => none
def ixL (l : List D) (d : D) : Option D := match d with
  | .int i => atI l i
  | _ => none
def ixD (x d : D) : Option D := match x with
  | .list l => ixL l d
  | .tuple l => ixL l d
  | _ => none
def intsD : List D → Option (List Int)
  | [] => some []
  | .int i :: r => (intsD r).map (i :: ·)
  | _ => none
def boolsD : List D → Option (List Bool)
  | [] => some []
  | .bool i :: r => (boolsD r).map (i :: ·)
  | _ => none
def minL : List Int → Option Int
  | [] => none
  | [x] => some x
  | x :: r => (minL r).map fun y => if y < x then y else x
def maxL : List Int → Option Int
  | [] => none
  | [x] => some x
  | x :: r => (maxL r).map fun y => if x < y then y else x
def insI (x : Int) : List Int → List Int
  | [] => [x]
  | y :: r => if x ≤ y then x :: y :: r else y :: insI x r
def sortI : List Int → List Int
  | [] => []
  | x :: r => insI x (sortI r)
/-- the lists that a cut gives -/
def cutD (l : List D) (lo hi : Option Int) : List D := (l.drop (HT.sIx l.length 0 lo)).take (HT.sIx l.length l.length hi - HT.sIx l.length 0 lo)
def flatD : D → Bool
  | .none => true
  | .bool _ => true
  | .int _ => true
  | .str _ => true
  | _ => false
def b1D : B1 → D → Option D
  | .len, .list l => some (.int l.length)
  | .len, .tuple l => some (.int l.length)
  | .tup, .list l => some (.tuple l)
  | .tup, .tuple l => some (.tuple l)
  | .lst, .list l => some (.list l)
  | .lst, .tuple l => some (.list l)
  | .sum, .list l => (intsD l).map fun ns => .int ns.sum
  | .mn, .list l => (intsD l).bind fun ns => (minL ns).map .int
  | .mx, .list l => (intsD l).bind fun ns => (maxL ns).map .int
  | .srt, .list l => (intsD l).bind fun ns => if ns.length < 64 then some (.list ((sortI ns).map .int)) else none
  | .all, .list l => (boolsD l).map fun bs => .bool (bs.all id)
  | .any, .list l => (boolsD l).map fun bs => .bool (bs.any id)
  | .abs, .int i => some (.int (if i < 0 then -i else i))
  | .int, .int i => some (.int i)
  | .int, .bool b => some (.int (if b then 1 else 0))
  | _, _ => none
def b2D : B2 → D → D → Option D
  | .mn, .int i, .int j => some (.int (if j < i then j else i))
  | .mx, .int i, .int j => some (.int (if j > i then j else i))
  | _, _, _ => none
def lenOk (n : Nat) : Bool := decide (n ≤ sizeLine)
def lcatD : D → D → Option D
  | .list a, .list b => if lenOk (a.length + b.length) = true then some (.list (a ++ b)) else none
  | _, _ => none
def tcatD : D → D → Option D
  | .tuple a, .tuple b => if lenOk (a.length + b.length) = true then some (.tuple (a ++ b)) else none
  | _, _ => none
def repN (k : Nat) (l : List D) : List D := (List.replicate k l).flatten
def lrepD : D → D → Option D
  | .list a, .int k => if -(2 ^ 63) ≤ k ∧ k < 2 ^ 63 ∧ lenOk (a.length * k.toNat) = true then some (.list (repN k.toNat a)) else none
  | _, _ => none
def trepD : D → D → Option D
  | .tuple a, .int k => if a.isEmpty = false ∧ a.length ≤ 1000 ∧ 1 ≤ k ∧ k ≤ 1000 then some (.tuple (repN k.toNat a)) else none
  | _, _ => none
def slcD : D → Option Int → Option Int → Option D
  | .list l, lo, hi => some (.list (cutD l lo hi))
  | .tuple l, lo, hi => some (.tuple (cutD l lo hi))
  | _, _, _ => none
def innD (ng : Bool) (a : D) (s : D) : Option D := (seqD s).bind fun l => if flatD a = true ∧ l.all flatD = true then some (.bool (l.any (fun x => PyData.eqv x a) != ng)) else none
def indD (ng : Bool) (a : D) : D → Option D
  | .list l => if SeqAt.shaped a = true ∧ SeqAt.shaped (.list l) = true then some (.bool (l.any (fun x => PyData.eqv x a) != ng)) else none
  | _ => none
def isiD : Ik → D → Option Bool
  | _, .dict _ => none
  | .l, .list _ => some true
  | .t, .tuple _ => some true
  | .b, .bool _ => some true
  | .i, .int _ => some true
  | .i, .bool _ => some true
  | .s, .str _ => some true
  | .lt, .list _ => some true
  | .lt, .tuple _ => some true
  | .tl, .list _ => some true
  | .tl, .tuple _ => some true
  | _, _ => some false
def repD : D → Option D
  | .bool true => some (.str "True")
  | .bool false => some (.str "False")
  | _ => none
def get (ρ : Rho) (i : Nat) : Option D := (ρ[i]?).bind id
def put (ρ : Rho) (i : Nat) (d : D) : Rho := ρ.set i (some d)
def wipeD (ρ : Rho) : List Nat → Rho
  | [] => ρ
  | i :: r => (wipeD ρ r).set i none
def litD : List D → Option D → Option (List D)
  | l, none => some l
  | l, some d => some (l ++ [d])
mutual
def tgD : Tg → D → Rho → Option Rho
  | .n i, d, ρ => some (put ρ i d)
  | .t l, .tuple ds, ρ => tgsD l ds ρ
  | .t l, .list ds, ρ => tgsD l ds ρ
  | .t _, _, _ => none
def tgsD : Tgs → List D → Rho → Option Rho
  | .nil, [], ρ => some ρ
  | .cons a l, d :: ds, ρ => (tgD a d ρ).bind fun ρ' => tgsD l ds ρ'
  | _, _, _ => none
end
inductive Ag where
  | d (d : D) | io (i : Nat) | bo (i : Nat)
def agD (ρ : Rho) : Ag → Option D
  | .d d => some d
  | .io i => get ρ i
  | .bo i => get ρ i
def agsD (ρ : Rho) : List Ag → Option (List D)
  | [] => some []
  | a :: r => (agD ρ a).bind fun d => (agsD ρ r).map (d :: ·)
def backD : List Ag → List D → Rho → Option Rho
  | [], [], ρ => some ρ
  | .io i :: r, d :: ds, ρ => backD r ds (put ρ i d)
  | .d _ :: r, _ :: ds, ρ => backD r ds ρ
  | .bo _ :: r, _ :: ds, ρ => backD r ds ρ
  | _, _, _ => none
def isBo : Ag → Bool
  | .bo _ => true
  | _ => false
def callD (c : Cf) (f : Str) (as : List Ag) (ρ : Rho) : Option (D × Rho) :=
  (agsD ρ as).bind fun ds => (c.fn f ds).bind fun r => if as.any isBo = true then (if scalar r.1 = true then some (r.1, ρ) else none) else (backD as r.2 ρ).map fun ρ' => (r.1, ρ')
def rngD (lo : Int) (n : Nat) : List D := (List.range n).map fun (i : Nat) => .int (lo + i)
def inR (i : Int) : Bool := decide (-(2 ^ 62) ≤ i ∧ i < 2 ^ 62)
def rngC (lo c : Int) (n : Nat) : List D := (List.range n).map fun (i : Nat) => .int (lo + i * c)
def enumD (l : List D) : List D := (List.range l.length).map fun (i : Nat) => .tuple [.int (i : Nat), l.getD i .none]
def zipD (a b : List D) : List D := (List.range (min a.length b.length)).map fun i => .tuple [a.getD i .none, b.getD i .none]
/-- what is walked, held meanwhile -/
def oeD : O → Option Nat
  | .s i => some i
  | .e _ => none
def restD : List (Nat × D) → Rho → Option Rho
  | [], ρ => some ρ
  | (i, d) :: r, ρ => (restD r ρ).bind fun ρ' => match ρ'[i]? with
    | some none => some (put ρ' i d)
    | _ => none
def forL (f : D → Rho → Option Rs) : List D → Rho → Option Rs
  | [], ρ => some (.nx ρ)
  | d :: ds, ρ => (f d ρ).bind fun r => match r with
    | .nx ρ' => forL f ds ρ'
    | .cnt ρ' => forL f ds ρ'
    | .brk ρ' => some (.nx ρ')
    | .ret d ρ' => some (.ret d ρ')
    | .exn x fs ρ' => some (.exn x fs ρ')
def whL (t : Rho → Option (Bool × Rho)) (f : Rho → Option Rs) : Nat → Rho → Option Rs
  | 0, _ => none
  | n + 1, ρ => (t ρ).bind fun b => if b.1 = true then (f b.2).bind fun r => match r with
      | .nx ρ' => whL t f n ρ'
      | .cnt ρ' => whL t f n ρ'
      | .brk ρ' => some (.nx ρ')
      | .ret d ρ' => some (.ret d ρ')
      | .exn x fs ρ' => some (.exn x fs ρ')
    else some (.nx b.2)
def compL (f : D → Rho → Option (Option D × Rho)) : List D → Rho → Option (List D × Rho)
  | [], ρ => some ([], ρ)
  | d :: ds, ρ => (f d ρ).bind fun r => (compL f ds r.2).map fun q => (match r.1 with
    | none => q.1
    | some x => x :: q.1, q.2)
def rsWipe (i : Nat) : Rs → Rs
  | .nx ρ => .nx (ρ.set i none)
  | .ret d ρ => .ret d (ρ.set i none)
  | .brk ρ => .brk (ρ.set i none)
  | .cnt ρ => .cnt (ρ.set i none)
  | .exn x fs ρ => .exn x fs (ρ.set i none)
def rsBack (sv : List (Nat × D)) : Rs → Option Rs
  | .nx ρ => (restD sv ρ).map .nx
  | r => some r
section
variable (c : Cf)
mutual
def ev : E → Rho → Option (D × Rho)
  | .v i, ρ => (get ρ i).map fun d => (d, ρ)
  | .mv i, ρ => (get ρ i).map fun d => (d, ρ.set i none)
  | .k d, ρ => some (d, ρ)
  | .gl _ d, ρ => some (d, ρ)
  | .neg a, ρ => (ev a ρ).bind fun r => match r.1 with
    | .int i => some (.int (-i), r.2)
    | _ => none
  | .ar o a b, ρ => (ev a ρ).bind fun r => (ev b r.2).bind fun q => (arD o r.1 q.1).map fun d => (d, q.2)
  | .cm o a b, ρ => (ev a ρ).bind fun r => (ev b r.2).bind fun q => (cmD o r.1 q.1).map fun d => (.bool d, q.2)
  | .ch o o2 a b e, ρ => (ev a ρ).bind fun r => (ev b r.2).bind fun q => (cmD o r.1 q.1).bind fun t =>
      if t = true then (ev e q.2).bind fun p => (cmD o2 q.1 p.1).map fun d => (.bool d, p.2) else some (.bool false, q.2)
  | .eq ng a b, ρ => (ev a ρ).bind fun r => (ev b r.2).bind fun q => (eqD ng r.1 q.1).map fun d => (d, q.2)
  | .isn ng a, ρ => (ev a ρ).map fun r => (.bool (isNone r.1 != ng), r.2)
  | .no a, ρ => (evT a ρ).map fun r => (.bool (!r.1), r.2)
  | .an a b, ρ => (ev a ρ).bind fun r => match r.1 with
    | .bool t => if t = true then ev b r.2 else some (.bool false, r.2)
    | _ => none
  | .orr a b, ρ => (ev a ρ).bind fun r => match r.1 with
    | .bool t => if t = true then some (.bool true, r.2) else ev b r.2
    | _ => none
  | .ife t a b, ρ => (evT t ρ).bind fun r => if r.1 = true then ev a r.2 else ev b r.2
  | .tup es, ρ => (evs es ρ).bind fun r => if lenOk r.1.length = true then some (.tuple r.1, r.2) else none
  | .lst es, ρ => (evs es ρ).bind fun r => if lenOk r.1.length = true then some (.list r.1, r.2) else none
  | .tcat a b, ρ => (ev a ρ).bind fun r => (ev b r.2).bind fun q => (tcatD r.1 q.1).map fun d => (d, q.2)
  | .trep a b, ρ => (ev a ρ).bind fun r => (ev b r.2).bind fun q => (trepD r.1 q.1).map fun d => (d, q.2)
  | .lcat a b, ρ => (evO a ρ).bind fun r => (evO b r.2).bind fun q => (lateD a r.1 q.2).bind fun x => (lcatD x q.1).map fun d => (d, q.2)
  | .lrep a b, ρ => (evO a ρ).bind fun r => (ev b r.2).bind fun q => (lateD a r.1 q.2).bind fun x => (lrepD x q.1).map fun d => (d, q.2)
  | .ix a b, ρ => (evO a ρ).bind fun r => (ev b r.2).bind fun q => (lateD a r.1 q.2).bind fun x => (ixD x q.1).map fun d => (d, q.2)
  | .ix2 i a b, ρ => (get ρ i).bind fun _ => (ev a ρ).bind fun r => (ev b r.2).bind fun q => (get q.2 i).bind fun x => (ixD x r.1).bind fun y => (ixD y q.1).map fun d => (d, q.2)
  | .slc a lo hi, ρ => (evO a ρ).bind fun r => (evOe lo r.2).bind fun q => (evOe hi q.2).bind fun p => (lateD a r.1 p.2).bind fun x => (slcD x q.1 p.1).map fun d => (d, p.2)
  | .b1 f a, ρ => (evO a ρ).bind fun r => (b1D f r.1).map fun d => (d, r.2)
  | .b2 f a b, ρ => (ev a ρ).bind fun r => (ev b r.2).bind fun q => (b2D f r.1 q.1).map fun d => (d, q.2)
  | .inn ng a b, ρ => (ev a ρ).bind fun r => (evO b r.2).bind fun q => (innD ng r.1 q.1).map fun d => (d, q.2)
  | .ind ng a b, ρ => (ev a ρ).bind fun r => (ev b r.2).bind fun q => (indD ng r.1 q.1).map fun d => (d, q.2)
  | .ch3 o o2 o3 a b e f, ρ => (ev a ρ).bind fun r => (ev b r.2).bind fun q => (cmD o r.1 q.1).bind fun t =>
      if t = true then (ev e q.2).bind fun p => (cmD o2 q.1 p.1).bind fun t2 =>
        if t2 = true then (ev f p.2).bind fun p2 => (cmD o3 p.1 p2.1).map fun d => (.bool d, p2.2) else some (.bool false, p.2)
      else some (.bool false, q.2)
  | .isi k a, ρ => (evO a ρ).bind fun r => (isiD k r.1).map fun b => (.bool b, r.2)
  | .isb ng v a, ρ => (ev a ρ).bind fun r => match r.1 with
    | .bool b => some (.bool (decide (b = v) != ng), r.2)
    | _ => none
  | .rep a, ρ => (ev a ρ).bind fun r => (repD r.1).map fun d => (d, r.2)
  | .call f as, ρ => (evA as ρ).bind fun r => callD c f r.1 r.2
  | .comp elt tg it cd ws, ρ => (evI it ρ).bind fun r => (compL (fun d ρ => (tgD tg d ρ).bind fun ρ1 => (evC cd ρ1).bind fun b =>
      if b.1 = true then (ev elt b.2).map fun q => (some q.1, wipeD q.2 ws) else some (none, wipeD b.2 ws)) r.1 (wipeD r.2.1 ws)).bind fun q =>
        if lenOk q.1.length = true then (restD r.2.2 q.2).map fun ρ' => (.list q.1, ρ') else none
  | .pop i, ρ => (get ρ i).bind fun x => match x with
    | .list l => (l[l.length - 1]?).map fun d => (d, put ρ i (.list l.dropLast))
    | _ => none
  | .popat i e, ρ => (get ρ i).bind fun x0 => match x0 with
    | .list _ => (ev e ρ).bind fun r => (get r.2 i).bind fun x => match x, r.1 with
      | .list l, .int j => if -(2 ^ 63) ≤ j ∧ j < 2 ^ 63 then (seqIndex? j l.length).bind fun k => (l[k]?).map fun d => (d, put r.2 i (.list (l.eraseIdx k))) else none
      | _, _ => none
    | _ => none
def evT : T → Rho → Option (Bool × Rho)
  | .an a b, ρ => (evT a ρ).bind fun r => if r.1 = true then evT b r.2 else some (false, r.2)
  | .orr a b, ρ => (evT a ρ).bind fun r => if r.1 = true then some (true, r.2) else evT b r.2
  | .no a, ρ => (evT a ρ).map fun r => (!r.1, r.2)
  | .sl i, ρ => (get ρ i).bind fun d => (truD d).map fun b => (b, ρ)
  | .e e, ρ => (ev e ρ).bind fun r => (truD r.1).map fun b => (b, r.2)
def evs : Es → Rho → Option (List D × Rho)
  | .nil, ρ => some ([], ρ)
  | .cons e es, ρ => (ev e ρ).bind fun r => (evs es r.2).map fun q => (r.1 :: q.1, q.2)
def evO : O → Rho → Option (D × Rho)
  | .e a, ρ => ev a ρ
  | .s i, ρ => (get ρ i).map fun d => (d, ρ)
def lateD : O → D → Rho → Option D
  | .e _, d, _ => some d
  | .s i, _, ρ => get ρ i
def evOe : Oe → Rho → Option (Option Int × Rho)
  | .no, ρ => some (none, ρ)
  | .so e, ρ => (ev e ρ).bind fun r => match r.1 with
    | .int i => some (some i, r.2)
    | _ => none
def evC : Ot → Rho → Option (Bool × Rho)
  | .no, ρ => some (true, ρ)
  | .so e, ρ => evT e ρ
def evA : As → Rho → Option (List Ag × Rho)
  | .nil, ρ => some ([], ρ)
  | .fr e as, ρ => (ev e ρ).bind fun r => (evA as r.2).map fun q => (.d r.1 :: q.1, q.2)
  | .io i as, ρ => (get ρ i).bind fun _ => (evA as ρ).map fun q => (.io i :: q.1, q.2)
  | .bo i as, ρ => (get ρ i).bind fun _ => (evA as ρ).map fun q => (.bo i :: q.1, q.2)
def evI : Iv → Rho → Option (List D × Rho × List (Nat × D))
  | .o a, ρ => (evW a ρ).bind fun r => (seqD r.1).map fun l => (l, r.2)
  | .r1 a, ρ => (ev a ρ).bind fun r => match r.1 with
    | .int j => if inR j = true then some (rngD 0 j.toNat, r.2, []) else none
    | _ => none
  | .r2 a b, ρ => (ev a ρ).bind fun r => (ev b r.2).bind fun q => match r.1, q.1 with
    | .int i, .int j => if inR i = true ∧ inR j = true then some (rngD i (j - i).toNat, q.2, []) else none
    | _, _ => none
  | .r3 a b e, ρ => (ev a ρ).bind fun r => (ev b r.2).bind fun q => (ev e q.2).bind fun p => match r.1, q.1, p.1 with
    | .int i, .int j, .int c => if inR i = true ∧ inR j = true ∧ c = -1 then some (rngC i c (i - j).toNat, p.2, []) else none
    | _, _, _ => none
  | .en a, ρ => (evW a ρ).bind fun r => (seqD r.1).map fun l => (enumD l, r.2)
  | .zp a b, ρ => (ev a ρ).bind fun r => (ev b r.2).bind fun q => match r.1, q.1 with
    | .list x, .list y => some (zipD x y, q.2, [])
    | .tuple x, .tuple y => some (zipD x y, q.2, [])
    | _, _ => none
def evW : O → Rho → Option (D × Rho × List (Nat × D))
  | .e a, ρ => (ev a ρ).map fun r => (r.1, r.2, [])
  | .s i, ρ => (get ρ i).map fun d => (d, ρ.set i none, [(i, d)])
end
/-- of an exception of the class x with the fields fs -/
def isfD (k : Ik) (d : D) : Option Bool := match k, d with
  | .i, .int _ => some true
  | .s, .str _ => some true
  | _, _ => none
mutual
def hxD (x : Str) (fs : Fs) (ρ : Rho) : Hx → Option D
  | .v i => get ρ i
  | .k d => if scalar d = true then some d else none
  | .xf f => fs.lookup f
  | .tup l => (hxsD x fs ρ l).bind fun ds => if lenOk ds.length = true then some (.tuple ds) else none
  | .ise c b => if c = x then some (.bool b) else none
  | .isf k f => (fs.lookup f).bind fun d => (isfD k d).map .bool
  | .eq a b => (hxD x fs ρ a).bind fun d => (hxD x fs ρ b).bind fun e => eqD false d e
  | .no a => (hxD x fs ρ a).bind fun d => match d with
    | .bool t => some (.bool (!t))
    | _ => none
  | .an a b => (hxD x fs ρ a).bind fun d => match d with
    | .bool t => if t = true then hxD x fs ρ b else some (.bool false)
    | _ => none
  | .orr a b => (hxD x fs ρ a).bind fun d => match d with
    | .bool t => if t = true then some (.bool true) else hxD x fs ρ b
    | _ => none
  | .ife t a b => (hxD x fs ρ t).bind fun d => match d with
    | .bool z => if z = true then hxD x fs ρ a else hxD x fs ρ b
    | _ => none
def hxsD (x : Str) (fs : Fs) (ρ : Rho) : Hxs → Option (List D)
  | .nil => some []
  | .cons a l => (hxD x fs ρ a).bind fun d => (hxsD x fs ρ l).map (d :: ·)
end
def hsD (x : Str) (fs : Fs) (ρ : Rho) : Hs → Option D
  | .ret a => hxD x fs ρ a
  | .ifr t a r => (hxD x fs ρ t).bind fun d => match d with
    | .bool z => if z = true then hxD x fs ρ a else hsD x fs ρ r
    | _ => none
/-- behind a call that may raise -/
def xcD (ρ : Rho) (k : D → Option Rs) : Xr → Option Rs
  | .ret d _ => k d
  | .exn x fs => some (.exn x fs ρ)
mutual
def exS : S → Rho → Option Rs
  | .set i e, ρ => (ev c e ρ).map fun r => .nx (put r.2 i r.1)
  | .unp tg e, ρ => (ev c e ρ).bind fun r => (tgD tg r.1 r.2).map .nx
  | .par i j a b, ρ => (ev c a ρ).bind fun r => (ev c b r.2).map fun q => .nx (put (put q.2 i r.1) j q.1)
  | .aug i o e, ρ => (get ρ i).bind fun x => (ev c e ρ).bind fun r => (arD o x r.1).map fun d => .nx (put r.2 i d)
  | .app i e, ρ => (get ρ i).bind fun x0 => match x0 with
    | .list _ => (ev c e ρ).bind fun r => (get r.2 i).bind fun x => match x with
      | .list l => if l.length < sizeLine then some (.nx (put r.2 i (.list (l ++ [r.1])))) else none
      | _ => none
    | _ => none
  | .sti i a e, ρ => (ev c e ρ).bind fun r => (get r.2 i).bind fun _ => (ev c a r.2).bind fun q => (get q.2 i).bind fun x => match x, q.1 with
    | .list l, .int j => (ixN l.length j).map fun k => .nx (put q.2 i (.list (l.set k r.1)))
    | _, _ => none
  | .sti2 i a b e, ρ => (ev c e ρ).bind fun r => (get r.2 i).bind fun _ => (ev c a r.2).bind fun q => (ev c b q.2).bind fun p => (get p.2 i).bind fun x => match x, q.1, p.1 with
    | .list m, .int j, .int j2 => (ixN m.length j).bind fun k => (m[k]?).bind fun y => match y with
      | .list l => (ixN l.length j2).map fun k2 => .nx (put p.2 i (.list (m.set k (.list (l.set k2 r.1)))))
      | _ => none
    | _, _, _ => none
  | .ex e, ρ => (ev c e ρ).map fun r => .nx r.2
  | .ife t a b, ρ => (evT c t ρ).bind fun r => if r.1 = true then exSs a r.2 else exSs b r.2
  | .for tg it b, ρ => (evI c it ρ).bind fun r => (forL (fun d ρ => (tgD tg d ρ).bind fun ρ1 => exSs b ρ1) r.1 r.2.1).bind fun q => rsBack r.2.2 q
  | .wh t b, ρ => whL (fun ρ => evT c t ρ) (fun ρ => exSs b ρ) c.W ρ
  | .ret e, ρ => (ev c e ρ).map fun r => .ret r.1 r.2
  | .retn, ρ => some (.ret .none ρ)
  | .brk, ρ => some (.brk ρ)
  | .cnt, ρ => some (.cnt ρ)
  | .pas, ρ => some (.nx ρ)
  | .kill l, ρ => some (.nx (wipeD ρ l))
  | .rse x ns es, ρ => (evs c es ρ).bind fun r => if ns.length = r.1.length then some (.exn x (ns.zip r.1) r.2) else none
  | .cx f es, ρ => (evs c es ρ).bind fun r => (c.fx f r.1).bind (xcD r.2 fun _ => some (.nx r.2))
  | .rtx f es, ρ => (evs c es ρ).bind fun r => (c.fx f r.1).bind (xcD r.2 fun d => some (.ret d r.2))
  | .sx i f es, ρ => (evs c es ρ).bind fun r => (c.fx f r.1).bind (xcD r.2 fun d => some (.nx (put r.2 i d)))
  | .ifx ng f es a b, ρ => (evs c es ρ).bind fun r => (c.fx f r.1).bind (xcD r.2 fun d => if (isNone d != ng) = true then exSs a r.2 else exSs b r.2)
  | .tr b x i h, ρ => (exSs b ρ).bind fun r => match r with
    | .exn y fs ρ' => if y = x ∧ i < ρ'.length then (hsD y fs (ρ'.set i none) h).map fun d => .ret d (ρ'.set i none) else none
    | r => some r
def exSs : Ss → Rho → Option Rs
  | .nil, ρ => some (.nx ρ)
  | .cons s ss, ρ => (exS s ρ).bind fun r => match r with
    | .nx ρ' => exSs ss ρ'
    | r => some r
  | .fz i ss, ρ => (exSs ss ρ).map (rsWipe i)
  | .reb i _ e ss, ρ => (ev c e ρ).bind fun r => (exSs ss (put r.2 i r.1)).map (rsWipe i)
end
/-- a def at data: its value, its parameters' lists behind it -/
def fout : List Ty → List D → Rho → Option (List D)
  | [], [], _ => some []
  | .fro :: ts, d :: ds, _ :: ρ => (fout ts ds ρ).map (d :: ·)
  | .lst _ :: ts, _ :: ds, some d :: ρ => (fout ts ds ρ).map (d :: ·)
  | _, _, _ => none
def evF (ps : List Ty) (n : Nat) (b : Ss) (ds : List D) : Option (D × List D) :=
  (exSs c b (ds.map some ++ List.replicate (n - ds.length) none)).bind fun r => match r with
    | .nx ρ => (fout ps ds ρ).map fun o => (.none, o)
    | .ret d ρ => (fout ps ds ρ).map fun o => (d, o)
    | _ => none
/-- .. one that may raise -/
def evX (ps : List Ty) (n : Nat) (b : Ss) (ds : List D) : Option Xr :=
  (exSs c b (ds.map some ++ List.replicate (n - ds.length) none)).bind fun r => match r with
    | .nx ρ => (fout ps ds ρ).map fun o => .ret .none o
    | .ret d ρ => (fout ps ds ρ).map fun o => .ret d o
    | .exn x fs _ => some (.exn x fs)
    | _ => none
end
end Vw
namespace Vw
open PySem PySem.Spec PyProof.Rows L2
/-! ### the state of a def's body against its data -/
structure Fr where
  H0 : Hp
  G0 : Hp
  FP : List Addr
  pins : List (Nat × V)
structure FrOk (fr : Fr) (G H : Hp) (σ : Sg) : Prop where
  keep : ∀ a o, fr.H0 a = some o → a ∉ fr.FP → H a = some o
  mono : ∀ a, H a = none → fr.H0 a = none
  sG : Same fr.G0 G
  nG : ∀ a, G a ≠ none → fr.G0 a ≠ none ∨ a ∈ fr.FP ∨ fr.H0 a = none
  pin : ∀ p ∈ fr.pins, σ[p.1]? = some (some p.2)
structure SRd (fr : Fr) (K : PySem.W.Frag) (G : Hp) (F1 F2 : List Addr) (Γ : List Ty) (ρ : Rho) (σ : Sg) (ts : List Tm) (H : Hp) : Prop where
  sub : Same G H
  sl : SlF K G H Γ ρ σ F1
  tm : TmF K G H ts F2
  nd : (F1 ++ F2).Nodup
  out : ∀ a ∈ F1 ++ F2, G a = none ∧ (a ∈ fr.FP ∨ fr.H0 a = none)
  ok : FrOk fr G H σ
def SR (fr : Fr) (K : PySem.W.Frag) (Γ : List Ty) (ρ : Rho) (σ : Sg) (ts : List Tm) (H : Hp) : Prop := ∃ G F1 F2, SRd fr K G F1 F2 Γ ρ σ ts H

theorem TmF.app {K : PySem.W.Frag} {G H : Hp} : ∀ {ts us : List Tm} {F : List Addr}, TmF K G H (ts ++ us) F → ∃ F1 F2, F = F1 ++ F2 ∧ TmF K G H ts F1 ∧ TmF K G H us F2
  | [], us, F, h => ⟨[], F, rfl, rfl, h⟩
  | x :: ts, us, F, ⟨F1, F2, e, p, q⟩ => by
    obtain ⟨F3, F4, e2, q1, q2⟩ := TmF.app (ts := ts) q
    exact ⟨F1 ++ F3, F4, by rw [e, e2, List.append_assoc], ⟨F1, F3, rfl, p, q1⟩, q2⟩
theorem TmF.of_app {K : PySem.W.Frag} {G H : Hp} : ∀ {ts us : List Tm} {F1 F2 : List Addr}, TmF K G H ts F1 → TmF K G H us F2 → TmF K G H (ts ++ us) (F1 ++ F2)
  | [], us, F1, F2, h, h2 => by
    have h : F1 = [] := h
    rw [h]
    exact h2
  | x :: ts, us, F1, F2, ⟨F3, F4, e, p, q⟩, h2 => ⟨F3, F4 ++ F2, by rw [e, List.append_assoc], p, TmF.of_app q h2⟩
theorem TmF.one {K : PySem.W.Frag} {G H : Hp} {x : Tm} {F : List Addr} (h : TmF K G H [x] F) : Own K G H x.t x.d x.v F := by
  obtain ⟨F1, F2, e, p, q⟩ := h
  have q : F2 = [] := q
  subst q
  rw [List.append_nil] at e
  subst e
  exact p
theorem TmF.of_one {K : PySem.W.Frag} {G H : Hp} {x : Tm} {F : List Addr} (h : Own K G H x.t x.d x.v F) : TmF K G H [x] F := ⟨F, [], by rw [List.append_nil], h, rfl⟩
theorem FrOk.sig {fr : Fr} {G H : Hp} {σ σ' : Sg} (x : FrOk fr G H σ) (h : ∀ p ∈ fr.pins, σ'[p.1]? = σ[p.1]?) : FrOk fr G H σ' :=
  ⟨x.keep, x.mono, x.sG, x.nG, fun p hp => by rw [h p hp]; exact x.pin p hp⟩
theorem none_of_some {H : Hp} {a : Addr} (h : H a = none) (h2 : ∃ vs, H a = some (HO.lst vs)) : False := by
  obtain ⟨vs, e⟩ := h2
  rw [h] at e
  cases e
section
variable {fr : Fr} {K : PySem.W.Frag} {G H : Hp} {F1 F2 : List Addr} {Γ : List Ty} {ρ : Rho} {σ : Sg} {ts us : List Tm}
theorem SRd.there (x : SRd fr K G F1 F2 Γ ρ σ ts H) : ∀ a ∈ F1 ++ F2, ∃ vs, H a = some (.lst vs) := fun a ha => by
  rcases List.mem_append.mp ha with ha | ha
  · exact x.sl.there a ha
  · exact x.tm.there a ha
/-- what is held meanwhile is let go -/
theorem SRd.drop (x : SRd fr K G F1 F2 Γ ρ σ (ts ++ us) H) : ∃ F3, SRd fr K G F1 F3 Γ ρ σ ts H := by
  obtain ⟨F3, F4, e, p, q⟩ := x.tm.app
  have sub : ∀ a ∈ F1 ++ F3, a ∈ F1 ++ F2 := fun a ha => by
    rw [e]
    rcases List.mem_append.mp ha with ha | ha
    · exact List.mem_append_left _ ha
    · exact List.mem_append_right _ (List.mem_append_left _ ha)
  refine ⟨F3, x.sub, x.sl, p, ?_, fun a ha => x.out a (sub a ha), x.ok⟩
  have nd := x.nd
  rw [e, ← List.append_assoc] at nd
  exact nd.sublist (List.sublist_append_left _ _)
theorem SR.drop (x : SR fr K Γ ρ σ (ts ++ us) H) : SR fr K Γ ρ σ ts H := by
  obtain ⟨G, F1, F2, x⟩ := x
  obtain ⟨F3, y⟩ := x.drop
  exact ⟨G, F1, F3, y⟩
/-- a thing that is known is held -/
theorem SRd.push (x : SRd fr K G F1 F2 Γ ρ σ ts H) {d : D} {v : V} (h : Rp K G v d) : SRd fr K G F1 F2 Γ ρ σ (ts ++ [⟨.fro, d, v⟩]) H := by
  refine ⟨x.sub, x.sl, ?_, x.nd, x.out, x.ok⟩
  have := x.tm.of_app (us := [⟨.fro, d, v⟩]) (F2 := []) (TmF.of_one ⟨rfl, h⟩)
  rwa [List.append_nil] at this
theorem SRd.pushS (x : SRd fr K G F1 F2 Γ ρ σ ts H) {w : Ty} {d : D} {v : V} (s : scalar d = true) (h : Rp K G v d) : SRd fr K G F1 F2 Γ ρ σ (ts ++ [⟨w, d, v⟩]) H := by
  refine ⟨x.sub, x.sl, ?_, x.nd, x.out, x.ok⟩
  have ow : Own K G H w d v [] := by
    cases w with
    | fro => exact ⟨rfl, h⟩
    | lst t => exact .inl ⟨s, rfl, h⟩
  have := x.tm.of_app (us := [⟨w, d, v⟩]) (F2 := []) (TmF.of_one ow)
  rwa [List.append_nil] at this
/-- the last ones held, as data -/
theorem SRd.last1 {x1 : Tm} (x : SRd fr K G F1 F2 Γ ρ σ (ts ++ [x1]) H) (h1 : x1.t = .fro) : Rp K G x1.v x1.d := by
  obtain ⟨F3, F4, e, p, q⟩ := x.tm.app
  have o := q.one
  rw [h1] at o
  exact o.2
theorem SRd.last2 {x1 x2 : Tm} (x : SRd fr K G F1 F2 Γ ρ σ (ts ++ [x1] ++ [x2]) H) (h1 : x1.t = .fro) (h2 : x2.t = .fro) : Rp K G x1.v x1.d ∧ Rp K G x2.v x2.d := by
  have a := x.last1 h2
  obtain ⟨F3, y⟩ := x.drop
  exact ⟨y.last1 h1, a⟩
theorem SRd.last3 {x1 x2 x3 : Tm} (x : SRd fr K G F1 F2 Γ ρ σ (ts ++ [x1] ++ [x2] ++ [x3]) H) (h1 : x1.t = .fro) (h2 : x2.t = .fro) (h3 : x3.t = .fro) : Rp K G x1.v x1.d ∧ Rp K G x2.v x2.d ∧ Rp K G x3.v x3.d := by
  have a := x.last1 h3
  obtain ⟨F3, y⟩ := x.drop
  have b := y.last2 h1 h2
  exact ⟨b.1, b.2, a⟩
/-- H has grown by a new object at p, and G -/
theorem SRd.grow (x : SRd fr K G F1 F2 Γ ρ σ ts H) {p : Addr} {o : HO} (hp : H p = none) : SRd fr K (upd G p o) F1 F2 Γ ρ σ ts (upd H p o) ∧ Same G (upd G p o) := by
  have gp : G p = none := by
    cases e : G p with
    | none => rfl
    | some q =>
      rw [x.sub _ _ e] at hp
      cases hp
  have nm : ∀ a ∈ F1 ++ F2, a ≠ p := fun a ha e => none_of_some (e ▸ hp) (x.there a ha)
  have sG : Same G (upd G p o) := fun a q e => by
    rw [upd_ne (ne_of_none e gp)]
    exact e
  have hH : ∀ a ∈ F1 ++ F2, upd H p o a = H a := fun a ha => upd_ne (nm a ha)
  refine ⟨⟨fun a q e => ?_, x.sl.stay sG (fun a ha => hH a (List.mem_append_left _ ha)), x.tm.stay sG (fun a ha => hH a (List.mem_append_right _ ha)), x.nd, fun a ha => ?_, ?_⟩, sG⟩
  · by_cases h : a = p
    · subst h
      rw [upd_same] at e ⊢
      exact e
    · rw [upd_ne h] at e ⊢
      exact x.sub _ _ e
  · rw [upd_ne (nm a ha)]
    exact x.out a ha
  · refine ⟨fun a q e hF => ?_, fun a e => ?_, fun a q e => sG _ _ (x.ok.sG _ _ e), fun a e => ?_, x.ok.pin⟩
    · have h := x.ok.keep a q e hF
      rw [upd_ne (ne_of_none h hp)]
      exact h
    · by_cases h : a = p
      · subst h
        rw [upd_same] at e
        cases e
      · rw [upd_ne h] at e
        exact x.ok.mono a e
    · by_cases h : a = p
      · subst h
        exact .inr (.inr (x.ok.mono a hp))
      · rw [upd_ne h] at e
        exact x.ok.nG a e
/-- .. H alone: the new list is owned by who holds it -/
theorem SRd.fresh (x : SRd fr K G F1 F2 Γ ρ σ ts H) {p : Addr} {o : HO} (hp : H p = none) : SRd fr K G F1 F2 Γ ρ σ ts (upd H p o) ∧ G p = none ∧ p ∉ F1 ++ F2 ∧ fr.H0 p = none := by
  have gp : G p = none := by
    cases e : G p with
    | none => rfl
    | some q =>
      rw [x.sub _ _ e] at hp
      cases hp
  have nm : ∀ a ∈ F1 ++ F2, a ≠ p := fun a ha e => none_of_some (e ▸ hp) (x.there a ha)
  have hH : ∀ a ∈ F1 ++ F2, upd H p o a = H a := fun a ha => upd_ne (nm a ha)
  refine ⟨⟨fun a q e => ?_, x.sl.stay (Same.refl G) (fun a ha => hH a (List.mem_append_left _ ha)), x.tm.stay (Same.refl G) (fun a ha => hH a (List.mem_append_right _ ha)), x.nd, x.out, ?_⟩, gp, fun h => nm p h rfl, x.ok.mono p hp⟩
  · rw [upd_ne (ne_of_none e gp)]
    exact x.sub _ _ e
  · refine ⟨fun a q e hF => ?_, fun a e => ?_, x.ok.sG, x.ok.nG, x.ok.pin⟩
    · have h := x.ok.keep a q e hF
      rw [upd_ne (ne_of_none h hp)]
      exact h
    · by_cases h : a = p
      · subst h
        rw [upd_same] at e
        cases e
      · rw [upd_ne h] at e
        exact x.ok.mono a e
/-- the last ones held become the items of a new list of their holder's -/
theorem TmF.all {w : Ty} : ∀ {us : List Tm} {F : List Addr}, (∀ x ∈ us, x.t = w) → TmF K G H us F → AllF (Own K G H w) (us.map Tm.d) (us.map Tm.v) F
  | [], _, _, h => h
  | x :: us, F, hw, ⟨F1, F2, e, p, q⟩ => ⟨F1, F2, e, by rw [← hw x List.mem_cons_self]; exact p, TmF.all (fun y hy => hw y (List.mem_cons_of_mem _ hy)) q⟩
theorem SRd.mkList {w : Ty} (x : SRd fr K G F1 F2 Γ ρ σ (ts ++ us) H) (hw : ∀ y ∈ us, y.t = w) {p : Addr} (hp : H p = none) :
    ∃ F3, SRd fr K G F1 F3 Γ ρ σ (ts ++ [⟨.lst w, .list (us.map Tm.d), .ref p⟩]) (upd H p (.lst (us.map Tm.v))) := by
  obtain ⟨y, gp, pF, p0⟩ := x.fresh (o := .lst (us.map Tm.v)) hp
  obtain ⟨F3, F4, e, q1, q2⟩ := y.tm.app
  refine ⟨F3 ++ (p :: F4), y.sub, y.sl, q1.of_app (TmF.of_one (.inr ⟨_, p, _, F4, rfl, rfl, rfl, upd_same, q2.all hw⟩)), ?_, fun a ha => ?_, y.ok⟩
  · have nd := y.nd
    rw [e, ← List.append_assoc] at nd
    rw [← List.append_assoc]
    refine (List.perm_middle.nodup_iff).mpr (List.nodup_cons.mpr ⟨?_, nd⟩)
    intro hm
    apply pF
    rw [e, ← List.append_assoc]
    exact hm
  · rcases List.mem_append.mp ha with ha | ha
    · exact y.out a (List.mem_append_left _ ha)
    · rcases List.mem_append.mp ha with ha | ha
      · exact y.out a (by rw [e]; exact List.mem_append_right _ (List.mem_append_left _ ha))
      · rcases List.mem_cons.mp ha with rfl | ha
        · exact ⟨gp, .inr p0⟩
        · exact y.out a (by rw [e]; exact List.mem_append_right _ (List.mem_append_right _ ha))
/-- an owned thing is given away -/
theorem SRd.give {x1 : Tm} (x : SRd fr K G F1 F2 Γ ρ σ (ts ++ [x1]) H) : ∃ G' F3, SRd fr K G' F1 F3 Γ ρ σ (ts ++ [⟨.fro, x1.d, x1.v⟩]) H := by
  obtain ⟨F3, F4, e, p, q⟩ := x.tm.app
  have o := q.one
  have hF4 : ∀ a ∈ F4, a ∈ F1 ++ F2 := fun a ha => by
    rw [e]
    exact List.mem_append_right _ (List.mem_append_right _ ha)
  have sG : Same G (join G H F4) := join_same fun a ha => (x.out a (hF4 a ha)).1
  have nd := x.nd
  rw [e, ← List.append_assoc] at nd
  have dj : ∀ a ∈ F1 ++ F3, a ∉ F4 := fun a ha hb => (List.nodup_append.mp nd).2.2 a ha a hb rfl
  refine ⟨join G H F4, F3, join_sub x.sub, x.sl.stay sG (fun _ _ => rfl), ?_, nd.sublist (List.sublist_append_left _ _), fun a ha => ?_, ?_⟩
  · have h := (p.stay sG (fun _ _ => rfl)).of_app (us := [⟨.fro, x1.d, x1.v⟩]) (F2 := []) (TmF.of_one (x := ⟨.fro, x1.d, x1.v⟩) ⟨rfl, o.rp sG fun a ha => join_in ha⟩)
    rwa [List.append_nil] at h
  · rw [join_out (dj a ha)]
    refine x.out a ?_
    rw [e, ← List.append_assoc]
    exact List.mem_append_left _ ha
  · refine ⟨x.ok.keep, x.ok.mono, fun a o h => sG _ _ (x.ok.sG _ _ h), fun a h => ?_, x.ok.pin⟩
    by_cases ha : a ∈ F4
    · exact .inr (x.out a (hF4 a ha)).2
    · rw [join_out ha] at h
      exact x.ok.nG a h
theorem SR.give {x1 : Tm} (x : SR fr K Γ ρ σ (ts ++ [x1]) H) : SR fr K Γ ρ σ (ts ++ [⟨.fro, x1.d, x1.v⟩]) H := by
  obtain ⟨G, F1, F2, x⟩ := x
  obtain ⟨G', F3, y⟩ := x.give
  exact ⟨G', F1, F3, y⟩
theorem get_some {ρ : Rho} {i : Nat} {d : D} (h : get ρ i = some d) : ρ[i]? = some (some d) := by
  unfold get at h
  cases e : ρ[i]? with
  | none => rw [e] at h; cases h
  | some o =>
    rw [e] at h
    have h : o = some d := h
    rw [h]
/-- a slot's thing that is nobody's -/
theorem SRd.slot (x : SRd fr K G F1 F2 Γ ρ σ ts H) {i : Nat} {d : D} (h : get ρ i = some d) (hw : Γ[i]? = some .fro) : ∃ v, σ[i]? = some (some v) ∧ Rp K G v d := by
  obtain ⟨t, v, F3, F4, e1, e2, _, o, _⟩ := x.sl.take (get_some h)
  rw [hw] at e1
  cases e1
  exact ⟨v, e2, o.2⟩
/-- a slot's own list, read -/
theorem SRd.slotL (x : SRd fr K G F1 F2 Γ ρ σ ts H) {i : Nat} {l : List D} (h : get ρ i = some (.list l)) (hw : Γ[i]? = some (.lst .fro)) : ∃ a vs, σ[i]? = some (some (.ref a)) ∧ H a = some (.lst vs) ∧ RpAll K G vs l := by
  obtain ⟨t, v, F3, F4, e1, e2, _, o, _⟩ := x.sl.take (get_some h)
  rw [hw] at e1
  cases e1
  rcases o with ⟨s, _, _⟩ | ⟨ds, a, vs, F', q1, q2, q3, q4, q5⟩
  · cases s
  · cases q1
    subst q2
    exact ⟨a, vs, e2, q4, q5.fro.2⟩
theorem perm_sub {F F' : List Addr} (h : F.Perm F') {a : Addr} (ha : a ∈ F) : a ∈ F' := h.mem_iff.mp ha
/-- a slot's thing goes to who holds it; the name keeps its value -/
theorem SRd.takeOut (x : SRd fr K G F1 F2 Γ ρ σ ts H) {i : Nat} {d : D} (h : get ρ i = some d) : ∃ t v F3 F4, Γ[i]? = some t ∧ σ[i]? = some (some v) ∧ SRd fr K G F3 F4 Γ (ρ.set i none) σ (ts ++ [⟨t, d, v⟩]) H := by
  obtain ⟨t, v, F3, F4, e1, e2, pm, o, q⟩ := x.sl.take (get_some h)
  have pm2 : (F4 ++ (F2 ++ F3)).Perm (F1 ++ F2) := by
    have h := List.perm_append_comm (l₁ := F4 ++ F2) (l₂ := F3)
    rw [List.append_assoc, ← List.append_assoc F3] at h
    exact h.trans (pm.append_right F2)
  refine ⟨t, v, F4, F2 ++ F3, e1, e2, x.sub, q, x.tm.of_app (TmF.of_one o), pm2.nodup_iff.mpr x.nd, fun a ha => x.out a (perm_sub pm2 ha), x.ok⟩
/-- .. and back -/
theorem SRd.putBack {i : Nat} {t : Ty} {d : D} {v : V} (x : SRd fr K G F1 F2 Γ ρ σ (ts ++ [⟨t, d, v⟩]) H) (h : ρ[i]? = some none) (ht : Γ[i]? = some t) (hv : σ[i]? = some (some v)) :
    ∃ F3 F4, SRd fr K G F3 F4 Γ (put ρ i d) σ ts H := by
  obtain ⟨F3, F4, e, p, q⟩ := x.tm.app
  obtain ⟨F5, pm, s⟩ := x.sl.put h ht hv q.one
  have pm2 : (F5 ++ F3).Perm (F1 ++ F2) := by
    rw [e]
    have h := List.perm_append_comm (l₁ := F4) (l₂ := F1 ++ F3)
    rw [List.append_assoc, ← List.append_assoc F4] at h
    exact (List.Perm.append_right F3 pm.symm).trans h
  exact ⟨F5, F3, x.sub, s, p, pm2.nodup_iff.mpr x.nd, fun a ha => x.out a (perm_sub pm2 ha), x.ok⟩
/-- a name takes what is held -/
theorem SRd.setSlot {i : Nat} {t : Ty} {d : D} {v : V} (x : SRd fr K G F1 F2 Γ ρ σ (ts ++ [⟨t, d, v⟩]) H) (ht : Γ[i]? = some t) (hi : i < σ.length) (hp : ∀ p ∈ fr.pins, p.1 ≠ i) :
    ∃ F3 F4, SRd fr K G F3 F4 Γ (put ρ i d) (σ.set i (some v)) ts H := by
  obtain ⟨F3, F4, pm, s⟩ := x.sl.drop i (some v)
  have y : SRd fr K G F4 F2 Γ (ρ.set i none) (σ.set i (some v)) (ts ++ [⟨t, d, v⟩]) H := by
    have mem : ∀ a ∈ F4 ++ F2, a ∈ F1 ++ F2 := fun a ha => by
      rcases List.mem_append.mp ha with ha | ha
      · exact List.mem_append_left _ (perm_sub pm (List.mem_append_right _ ha))
      · exact List.mem_append_right _ ha
    refine ⟨x.sub, s, x.tm, ?_, fun a ha => x.out a (mem a ha), x.ok.sig fun p hp' => by rw [List.getElem?_set_ne (Ne.symm (hp p hp'))]⟩
    have nd := ((List.Perm.append_right F2 pm).nodup_iff).mpr x.nd
    rw [List.append_assoc] at nd
    exact nd.sublist (List.sublist_append_right _ _)
  have len := x.sl.lens
  have e1 : (ρ.set i none)[i]? = some none := by rw [List.getElem?_set_self (by omega)]
  have e2 : (σ.set i (some v))[i]? = some (some v) := by rw [List.getElem?_set_self hi]
  obtain ⟨F5, F6, z⟩ := y.putBack e1 ht e2
  refine ⟨F5, F6, ?_⟩
  have e3 : put (ρ.set i none) i d = put ρ i d := by
    unfold put
    rw [List.set_set]
  rwa [e3] at z
/-- a slot's data are forgotten -/
theorem SRd.forget (x : SRd fr K G F1 F2 Γ ρ σ ts H) (i : Nat) : ∃ F3, SRd fr K G F3 F2 Γ (ρ.set i none) σ ts H := by
  obtain ⟨F3, F4, pm, s⟩ := x.sl.forget i
  have mem : ∀ a ∈ F4 ++ F2, a ∈ F1 ++ F2 := fun a ha => by
    rcases List.mem_append.mp ha with ha | ha
    · exact List.mem_append_left _ (perm_sub pm (List.mem_append_right _ ha))
    · exact List.mem_append_right _ ha
  refine ⟨F4, x.sub, s, x.tm, ?_, fun a ha => x.out a (mem a ha), x.ok⟩
  have nd := ((List.Perm.append_right F2 pm).nodup_iff).mpr x.nd
  rw [List.append_assoc] at nd
  exact nd.sublist (List.sublist_append_right _ _)
theorem SRd.wipes (x : SRd fr K G F1 F2 Γ ρ σ ts H) : ∀ ws : List Nat, ∃ F3, SRd fr K G F3 F2 Γ (wipeD ρ ws) σ ts H
  | [] => ⟨F1, x⟩
  | i :: ws => by
    obtain ⟨F3, y⟩ := x.wipes ws
    exact y.forget i
theorem wipeD_len (ρ : Rho) : ∀ ws : List Nat, (wipeD ρ ws).length = ρ.length
  | [] => rfl
  | i :: ws => by
    show ((wipeD ρ ws).set i none).length = _
    rw [List.length_set, wipeD_len ρ ws]
theorem SlF.sig : ∀ {Γ : List Ty} {ρ : Rho} {σ σ' : Sg} {F : List Addr}, σ'.length = σ.length → (∀ (i : Nat) (d : D), ρ[i]? = some (some d) → σ'[i]? = σ[i]?) → SlF K G H Γ ρ σ F → SlF K G H Γ ρ σ' F
  | [], [], [], [], _, _, _, h => h
  | t :: Γ, o :: ρ, s :: σ, s' :: σ', F, hl, hk, ⟨F1, F2, e, p, q⟩ => by
    refine ⟨F1, F2, e, ?_, SlF.sig (by simpa using hl) (fun i d e => by have := hk (i + 1) d (by simpa using e); simpa using this) q⟩
    cases o with
    | none => exact p
    | some d =>
      have := hk 0 d rfl
      have : s' = s := by simpa using this
      subst this
      exact p
  | [], [], [], _ :: _, _, hl, _, _ => by simp at hl
  | [], [], _ :: _, _, _, _, _, h => h.elim
  | [], _ :: _, _, _, _, _, _, h => by cases ‹Sg› <;> exact h.elim
  | _ :: _, [], _, _, _, _, _, h => by cases ‹Sg› <;> exact h.elim
  | _ :: _, _ :: _, [], _, _, _, _, h => h.elim
  | _ :: _, _ :: _, _ :: _, [], _, hl, _, _ => by simp at hl
/-- names whose data are forgotten may hold anything -/
theorem SRd.sig {σ' : Sg} (x : SRd fr K G F1 F2 Γ ρ σ ts H) (hl : σ'.length = σ.length) (hk : ∀ (i : Nat) (d : D), ρ[i]? = some (some d) → σ'[i]? = σ[i]?) (hp : ∀ p ∈ fr.pins, σ'[p.1]? = σ[p.1]?) : SRd fr K G F1 F2 Γ ρ σ' ts H :=
  ⟨x.sub, x.sl.sig hl hk, x.tm, x.nd, x.out, x.ok.sig hp⟩
theorem wipeD_none {ρ : Rho} {i : Nat} : ∀ {ws : List Nat}, i ∈ ws → ∀ d, (wipeD ρ ws)[i]? ≠ some (some d)
  | [], h, _, _ => nomatch h
  | j :: ws, h, d, e => by
    have e : ((wipeD ρ ws).set j none)[i]? = some (some d) := e
    by_cases hj : j = i
    · subst hj
      by_cases hl : j < (wipeD ρ ws).length
      · rw [List.getElem?_set_self hl] at e
        cases e
      · rw [List.getElem?_eq_none (by simpa using hl)] at e
        cases e
    · rw [List.getElem?_set_ne hj] at e
      rcases List.mem_cons.mp h with h | h
      · exact hj h.symm
      · exact wipeD_none h d e
theorem wipe_out' {σ : Sg} {i : Nat} : ∀ {ws : List Nat}, i ∉ ws → (wipe σ ws)[i]? = σ[i]? := wipe_out
/-- ahead of a comprehension's turn: its own names hold nothing -/
theorem SRd.wiped (x : SRd fr K G F1 F2 Γ ρ σ ts H) (ws : List Nat) (hp : ∀ p ∈ fr.pins, p.1 ∉ ws) : ∃ F3, SRd fr K G F3 F2 Γ (wipeD ρ ws) (wipe σ ws) ts H := by
  obtain ⟨F3, y⟩ := x.wipes ws
  refine ⟨F3, y.sig (wipe_length _ _) (fun i d e => ?_) fun p h => wipe_out (hp p h)⟩
  by_cases hi : i ∈ ws
  · exact absurd e (wipeD_none hi d)
  · exact wipe_out hi
/-- behind it: they are what they were, and nothing is known of them -/
theorem SRd.unwiped {σ2 : Sg} (ws : List Nat) (x : SRd fr K G F1 F2 Γ ρ σ2 ts H) (hw : wipe σ2 ws = wipe σ ws) (hl : σ2.length = σ.length) (hp : ∀ p ∈ fr.pins, p.1 ∉ ws) : ∃ F3, SRd fr K G F3 F2 Γ (wipeD ρ ws) σ ts H := by
  obtain ⟨F3, y⟩ := x.wipes ws
  have out : ∀ i, i ∉ ws → σ[i]? = σ2[i]? := fun i hi => by rw [← wipe_out (σ := σ) hi, ← hw, wipe_out hi]
  refine ⟨F3, y.sig hl.symm (fun i d e => ?_) fun p h => out _ (hp p h)⟩
  by_cases hi : i ∈ ws
  · exact absurd e (wipeD_none hi d)
  · exact out i hi
end
end Vw
namespace Vw
open PySem PySem.Spec PyProof.Rows L2
theorem PE_mono {X : Cx} {e : Expr} {t t' : TE} (h : PE X e t) (i : ∀ σ H Q, t' σ H Q → t σ H Q) : PE X e t' := ⟨fun pins s σ H Q I hw => h.run pins s σ H Q I (i σ H Q hw)⟩
theorem PT_mono {X : Cx} {e : Expr} {t t' : TT} (h : PT X e t) (i : ∀ σ H Q, t' σ H Q → t σ H Q) : PT X e t' := ⟨fun pins s σ H Q I hw => h.run pins s σ H Q I (i σ H Q hw)⟩
theorem PA_mono {X : Cx} {e : List Expr} {t t' : TA} (h : PA X e t) (i : ∀ σ H Q, t' σ H Q → t σ H Q) : PA X e t' := ⟨fun pos pins s σ H Q I hw => h.run pos pins s σ H Q I (i σ H Q hw)⟩
theorem PS_mono {X : Cx} {e : Stmt} {t t' : TS} (h : PS X e t) (i : ∀ D σ H, t' D σ H → t D σ H) : PS X e t' := ⟨fun pins s σ H D I hw => h.run pins s σ H D I (i D σ H hw)⟩
theorem PSs_mono {X : Cx} {e : List Stmt} {t t' : TS} (h : PSs X e t) (i : ∀ D σ H, t' D σ H → t D σ H) : PSs X e t' := ⟨fun pins s σ H D I hw => h.run pins s σ H D I (i D σ H hw)⟩
theorem bind_inv {α β : Type} {o : Option α} {f : α → Option β} {b : β} (h : o.bind f = some b) : ∃ a, o = some a ∧ f a = some b := by
  cases o with
  | none => cases h
  | some a => exact ⟨a, rfl, h⟩
theorem map_inv {α β : Type} {o : Option α} {f : α → β} {b : β} (h : o.map f = some b) : ∃ a, o = some a ∧ f a = b := by
  cases o with
  | none => cases h
  | some a => exact ⟨a, rfl, Option.some.inj h⟩

/-! ### readings -/
section
variable (Φ : Cf) (fr : Fr) (K : PySem.W.Frag) (Γ : List Ty)
def tE (w : Ty) (e : E) : TE := fun σ H Q => ∃ ρ ts r, SR fr K Γ ρ σ ts H ∧ ev Φ e ρ = some r ∧ ∀ v H', SR fr K Γ r.2 σ (ts ++ [⟨w, r.1, v⟩]) H' → Q v H'
def tT (e : T) : TT := fun σ H Q => ∃ ρ ts r, SR fr K Γ ρ σ ts H ∧ evT Φ e ρ = some r ∧ ∀ H', SR fr K Γ r.2 σ ts H' → Q r.1 H'
def tms (w : Ty) (ds : List D) (vs : List V) : List Tm := (ds.zip vs).map fun p => ⟨w, p.1, p.2⟩
def tEs (w : Ty) (es : Es) : TA := fun σ H Q => ∃ ρ ts r, SR fr K Γ ρ σ ts H ∧ evs Φ es ρ = some r ∧ ∀ vs H', vs.length = r.1.length → SR fr K Γ r.2 σ (ts ++ tms w r.1 vs) H' → Q vs H'
/-- how what an operand names is held -/
def Hold (σ : Sg) : O → V → D → List Tm → List Tm → Prop
  | .e _, v, d, ts, ts' => ts' = ts ++ [⟨.fro, d, v⟩]
  | .s i, v, _, ts, ts' => ts' = ts ∧ σ[i]? = some (some v) ∧ Γ[i]? = some (.lst .fro)
def tO (o : O) : TE := fun σ H Q => ∃ ρ ts r, SR fr K Γ ρ σ ts H ∧ evO Φ o ρ = some r ∧ ∀ v H' ts', SR fr K Γ r.2 σ ts' H' → Hold Γ σ o v r.1 ts ts' → Q v H'
def tOe (o : Oe) : TO := fun σ H Q => ∃ ρ ts r, SR fr K Γ ρ σ ts H ∧ evOe Φ o ρ = some r ∧ ∀ H', SR fr K Γ r.2 σ ts H' → Q r.1 H'
end
/-- what stands at v reads as x -/
def Sn (K : PySem.W.Frag) (G H : Hp) (x : D) (v : V) : Prop := Rp K G v x ∨ ∃ l a vs, x = .list l ∧ v = .ref a ∧ H a = some (.lst vs) ∧ RpAll K G vs l
theorem Sn.list {K : PySem.W.Frag} {G H : Hp} {l : List D} {v : V} (s : Same G H) (h : Sn K G H (.list l) v) : ∃ a vs, v = .ref a ∧ Rd H a (.lst vs) ∧ RpAll K G vs l := by
  rcases h with h | ⟨l', a, vs, e, e2, h1, h2⟩
  · cases h with
    | lst h1 h2 => exact ⟨_, _, rfl, Rd_same s h1, h2⟩
  · cases e
    exact ⟨a, vs, e2, .inl h1, h2⟩
theorem Sn.tuple {K : PySem.W.Frag} {G H : Hp} {l : List D} {v : V} (s : Same G H) (h : Sn K G H (.tuple l) v) : ∃ a vs, v = .ref a ∧ SqT K H a vs ∧ RpAll K G vs l := by
  rcases h with h | ⟨l', a, vs, e, e2, h1, h2⟩
  · cases h with
    | tup h1 h2 => exact ⟨_, _, rfl, SqT_same s h1, h2⟩
  · cases e
theorem Sn.seq {K : PySem.W.Frag} {G H : Hp} {x : D} {l : List D} {v : V} (s : Same G H) (e : seqD x = some l) (h : Sn K G H x v) : ∃ a vs, v = .ref a ∧ (SqL K H a vs ∨ SqT K H a vs) ∧ RpAll K G vs l := by
  cases x with
  | list m =>
    cases e
    obtain ⟨a, vs, e, h1, h2⟩ := h.list s
    exact ⟨a, vs, e, .inl (.inl h1), h2⟩
  | tuple m =>
    cases e
    obtain ⟨a, vs, e, h1, h2⟩ := h.tuple s
    exact ⟨a, vs, e, .inr h1, h2⟩
  | _ => cases e
section
variable {fr : Fr} {K : PySem.W.Frag} {G H : Hp} {F1 F2 : List Addr} {Γ : List Ty} {ρ : Rho} {σ : Sg} {ts ts' us : List Tm}
theorem SRd.sn {Φ : Cf} {o : O} {v : V} {d x : D} (h : SRd fr K G F1 F2 Γ ρ σ (ts' ++ us) H) (hd : Hold Γ σ o v d ts ts') (e : lateD Φ o d ρ = some x) : Sn K G H x v := by
  cases o with
  | e a =>
    have hd : ts' = ts ++ [⟨.fro, d, v⟩] := hd
    subst hd
    have e : some d = some x := e
    cases e
    obtain ⟨F3, y⟩ := h.drop
    exact .inl (y.last1 rfl)
  | s i =>
    obtain ⟨rfl, h1, h2⟩ := hd
    have e : get ρ i = some x := e
    obtain ⟨t, v', F3, F4, e1, e2, _, ow, _⟩ := h.sl.take (get_some e)
    rw [h2] at e1
    cases e1
    rw [h1] at e2
    cases e2
    rcases ow with ⟨s, _, q⟩ | ⟨ds, a, vs, F', q1, q2, q3, q4, q5⟩
    · exact .inl q
    · exact .inr ⟨ds, a, vs, q1, q2, q4, q5.fro.2⟩
theorem Hold.pre {o : O} {v : V} {d : D} (hd : Hold Γ σ o v d ts ts') : ∃ m, ts' = ts ++ m := by
  cases o with
  | e a => exact ⟨_, hd⟩
  | s i => exact ⟨[], by rw [List.append_nil]; exact hd.1⟩
theorem SR.dropH {o : O} {v : V} {d : D} (h : SR fr K Γ ρ σ (ts' ++ us) H) (hd : Hold Γ σ o v d ts ts') : SR fr K Γ ρ σ ts H := by
  obtain ⟨m, rfl⟩ := hd.pre
  rw [List.append_assoc] at h
  exact h.drop
/-- a plain result -/
theorem SR.res (h : SR fr K Γ ρ σ ts H) {w : Ty} {d : D} {v : V} (s : scalar d = true) (r : ∀ G, Rp K G v d) : SR fr K Γ ρ σ (ts ++ [⟨w, d, v⟩]) H := by
  obtain ⟨G, F1, F2, x⟩ := h
  exact ⟨G, F1, F2, x.pushS s (r G)⟩
theorem SRd.pushes : ∀ {vs : List V} {ds : List D} {ts : List Tm} {F2 : List Addr}, SRd fr K G F1 F2 Γ ρ σ ts H → RpAll K G vs ds → SRd fr K G F1 F2 Γ ρ σ (ts ++ tms .fro ds vs) H
  | _, _, ts, _, h, .nil => by
    show SRd fr K G F1 _ Γ ρ σ (ts ++ []) H
    rw [List.append_nil]
    exact h
  | _, _, ts, _, h, .cons (v := v) (d := d) (vs := vs) (ds := ds) r rs => by
    have q := SRd.pushes (h.push r) rs
    rw [List.append_assoc] at q
    exact q
theorem tms_d {w : Ty} : ∀ {ds : List D} {vs : List V}, vs.length = ds.length → (tms w ds vs).map Tm.d = ds
  | [], [], _ => rfl
  | d :: ds, v :: vs, h => by
    show d :: (tms w ds vs).map Tm.d = _
    rw [tms_d (by simpa using h)]
  | [], _ :: _, h => by simp at h
  | _ :: _, [], h => by simp at h
theorem tms_v {w : Ty} : ∀ {ds : List D} {vs : List V}, vs.length = ds.length → (tms w ds vs).map Tm.v = vs
  | [], [], _ => rfl
  | d :: ds, v :: vs, h => by
    show v :: (tms w ds vs).map Tm.v = _
    rw [tms_v (by simpa using h)]
  | [], _ :: _, h => by simp at h
  | _ :: _, [], h => by simp at h
theorem tms_t {w : Ty} {ds : List D} {vs : List V} : ∀ y ∈ tms w ds vs, y.t = w := fun y hy => by
  obtain ⟨p, _, rfl⟩ := List.mem_map.mp hy
  rfl
/-- whom a new list belongs to -/
def Made (t w : Ty) : Prop := w = .lst t ∨ (w = .fro ∧ t = .fro)
theorem SRd.list {t w : Ty} (x : SRd fr K G F1 F2 Γ ρ σ (ts ++ us) H) (hw : ∀ y ∈ us, y.t = t) (m : Made t w) {p : Addr} (hp : H p = none) :
    SR fr K Γ ρ σ (ts ++ [⟨w, .list (us.map Tm.d), .ref p⟩]) (upd H p (.lst (us.map Tm.v))) := by
  obtain ⟨F3, y⟩ := x.mkList hw hp
  rcases m with rfl | ⟨rfl, rfl⟩
  · exact ⟨_, _, _, y⟩
  · exact SR.give (x1 := ⟨.lst .fro, _, _⟩) ⟨_, _, _, y⟩
theorem SRd.newList {w : Ty} (x : SRd fr K G F1 F2 Γ ρ σ ts H) {vs : List V} {ds : List D} (r : RpAll K G vs ds) (m : Made .fro w) {p : Addr} (hp : H p = none) :
    SR fr K Γ ρ σ (ts ++ [⟨w, .list ds, .ref p⟩]) (upd H p (.lst vs)) := by
  have q := (x.pushes r).list tms_t m hp
  rw [tms_d r.len, tms_v r.len] at q
  exact q
theorem SRd.newTup (x : SRd fr K G F1 F2 Γ ρ σ ts H) {vs : List V} {ds : List D} (r : RpAll K G vs ds) {p : Addr} (hp : H p = none) :
    SR fr K Γ ρ σ (ts ++ [⟨.fro, .tuple ds, .ref p⟩]) (upd H p (.tup vs)) := by
  obtain ⟨y, sG⟩ := x.grow (o := .tup vs) hp
  exact ⟨_, _, _, y.push (.tup (SqT.of upd_same) (RpAll_same sG _ _ r))⟩
end
section
variable {X : Cx} {Φ : Cf} {fr : Fr} {Γ : List Ty} {w : Ty} {pos : Pos}
/-! ### names, constants -/
theorem e_v {i : Nat} {x : Str} (hN : X.N[i]? = some x) (hv : Vis X.env.scope x) (hw : Γ[i]? = some .fro) (hd : (x == ("__debug__" : Str)) = false) (hcd : (x == ("__classdict__" : Str)) = false) :
    PE X (.Name x pos) (tE Φ fr X.K Γ .fro (.v i)) := by
  refine PE_mono (pe_var hN hv hd hcd) fun σ H Q h => ?_
  obtain ⟨ρ, ts, r, ⟨G, F1, F2, sr⟩, he, q⟩ := h
  obtain ⟨d, e1, rfl⟩ := map_inv he
  obtain ⟨v, e2, rp⟩ := sr.slot e1 hw
  exact ⟨v, e2, q v H ⟨G, F1, F2, sr.push rp⟩⟩
theorem e_mv {i : Nat} {x : Str} {t : Ty} (hN : X.N[i]? = some x) (hv : Vis X.env.scope x) (hw : Γ[i]? = some t) (h2 : w = t ∨ w = .fro) (hd : (x == ("__debug__" : Str)) = false) (hcd : (x == ("__classdict__" : Str)) = false) :
    PE X (.Name x pos) (tE Φ fr X.K Γ w (.mv i)) := by
  refine PE_mono (pe_var hN hv hd hcd) fun σ H Q h => ?_
  obtain ⟨ρ, ts, r, ⟨G, F1, F2, sr⟩, he, q⟩ := h
  obtain ⟨d, e1, rfl⟩ := map_inv he
  obtain ⟨t', v, F3, F4, e2, e3, y⟩ := sr.takeOut e1
  rw [hw] at e2
  cases e2
  refine ⟨v, e3, q v H ?_⟩
  rcases h2 with rfl | rfl
  · exact ⟨_, _, _, y⟩
  · exact SR.give ⟨_, _, _, y⟩
/-- an operand that is a slot's own list -/
theorem o_s {i : Nat} {x : Str} (hN : X.N[i]? = some x) (hv : Vis X.env.scope x) (hw : Γ[i]? = some (.lst .fro)) (hd : (x == ("__debug__" : Str)) = false) (hcd : (x == ("__classdict__" : Str)) = false) :
    PE X (.Name x pos) (tO Φ fr X.K Γ (.s i)) := by
  refine PE_mono (pe_var hN hv hd hcd) fun σ H Q h => ?_
  obtain ⟨ρ, ts, r, ⟨G, F1, F2, sr⟩, he, q⟩ := h
  obtain ⟨d, e1, rfl⟩ := map_inv he
  obtain ⟨t', v, F3, F4, e2, e3, y⟩ := sr.takeOut e1
  exact ⟨v, e3, q v H ts ⟨G, F1, F2, sr⟩ ⟨rfl, e3, hw⟩⟩
theorem o_e {e : Expr} {a : E} (h : PE X e (tE Φ fr X.K Γ .fro a)) : PE X e (tO Φ fr X.K Γ (.e a)) := by
  refine PE_mono h fun σ H Q h => ?_
  obtain ⟨ρ, ts, r, sr, he, q⟩ := h
  exact ⟨ρ, ts, r, sr, he, fun v H' s' => q v H' _ s' rfl⟩
theorem e_k {e : Expr} {d : D} {v : V} (h : PE X e (tC v)) (s : scalar d = true) (r : ∀ G, Rp X.K G v d) : PE X e (tE Φ fr X.K Γ w (.k d)) := by
  refine PE_mono h fun σ H Q h => ?_
  obtain ⟨ρ, ts, q, sr, he, k⟩ := h
  have he : some (d, ρ) = some q := he
  cases he
  exact k v H (sr.res s r)
theorem e_gl {e : Expr} {x : Str} {d : D} {v : V} (h : PE X e (tC v)) (r : ∀ G, Rp X.K G v d) : PE X e (tE Φ fr X.K Γ .fro (.gl x d)) := by
  refine PE_mono h fun σ H Q h => ?_
  obtain ⟨ρ, ts, q, ⟨G, F1, F2, sr⟩, he, k⟩ := h
  have he : some (d, ρ) = some q := he
  cases he
  exact k v H ⟨G, F1, F2, sr.push (r G)⟩
/-! ### numbers -/
theorem e_neg {a : Expr} {ea : E} (ha : PE X a (tE Φ fr X.K Γ .fro ea)) : PE X (.UnaryOp .USub a pos) (tE Φ fr X.K Γ w (.neg ea)) := by
  refine PE_mono (pe_un un_neg ha) fun σ H Q h => ?_
  obtain ⟨ρ, ts, r, sr, he, q⟩ := h
  obtain ⟨ra, e1, e2⟩ := bind_inv he
  refine ⟨ρ, ts, ra, sr, e1, fun v H1 s1 => ?_⟩
  obtain ⟨G, F1, F2, y⟩ := id s1
  have rp := y.last1 rfl
  obtain ⟨d, ρ1⟩ := ra
  cases d with
  | int i =>
    cases rp
    cases e2
    exact ⟨i, rfl, q _ _ (s1.drop.res rfl fun G => .int _)⟩
  | _ => cases e2
def opA : Ar → Operator
  | .add => .Add
  | .sub => .Sub
  | .mul => .Mult
  | .fdiv => .FloorDiv
  | .mod => .Mod
  | .pow => .Pow
def rAr (o : Ar) : R2 := fun x y H Q => ∃ i j k, x = .int i ∧ y = .int j ∧ arD o (.int i) (.int j) = some (.int k) ∧ Q (.int k) H
theorem op_ar : ∀ o : Ar, OpR X (binaryOp (opA o)) (rAr o)
  | .add => fun pins s σ H x y v u Q I rx ry h => by
    obtain ⟨i, j, k, e1, e2, e, q⟩ := h
    cases e
    exact op_add pins s σ H x y v u Q I rx ry ⟨i, j, e1, e2, q⟩
  | .sub => fun pins s σ H x y v u Q I rx ry h => by
    obtain ⟨i, j, k, e1, e2, e, q⟩ := h
    cases e
    exact op_sub pins s σ H x y v u Q I rx ry ⟨i, j, e1, e2, q⟩
  | .mul => fun pins s σ H x y v u Q I rx ry h => by
    obtain ⟨i, j, k, e1, e2, e, q⟩ := h
    simp only [arD] at e
    split at e
    · rename_i c
      cases e
      exact op_mul pins s σ H x y v u Q I rx ry ⟨i, j, e1, e2, c, q⟩
    · cases e
  | .fdiv => fun pins s σ H x y v u Q I rx ry h => by
    obtain ⟨i, j, k, e1, e2, e, q⟩ := h
    simp only [arD] at e
    split at e
    · rename_i c
      cases e
      exact op_fdiv pins s σ H x y v u Q I rx ry ⟨i, j, e1, e2, c, q⟩
    · cases e
  | .mod => fun pins s σ H x y v u Q I rx ry h => by
    obtain ⟨i, j, k, e1, e2, e, q⟩ := h
    simp only [arD] at e
    split at e
    · rename_i c
      cases e
      exact op_mod pins s σ H x y v u Q I rx ry ⟨i, j, e1, e2, c, q⟩
    · cases e
  | .pow => fun pins s σ H x y v u Q I rx ry h => by
    obtain ⟨i, j, k, e1, e2, e, q⟩ := h
    simp only [arD] at e
    split at e
    · rename_i c
      cases e
      exact op_pow pins s σ H x y v u Q I rx ry ⟨i, j, e1, e2, c, q⟩
    · cases e
theorem arD_inv {o : Ar} {x y z : D} (h : arD o x y = some z) : ∃ i j k, x = .int i ∧ y = .int j ∧ z = .int k := by
  cases x <;> cases y <;> cases o <;> first
    | (cases h; done)
    | (cases h; exact ⟨_, _, _, rfl, rfl, rfl⟩)
    | (simp only [arD] at h; split at h <;> first | (cases h; exact ⟨_, _, _, rfl, rfl, rfl⟩) | cases h)
theorem e_ar (o : Ar) {a b : Expr} {ea eb : E} (ha : PE X a (tE Φ fr X.K Γ .fro ea)) (hb : PE X b (tE Φ fr X.K Γ .fro eb)) : PE X (.BinOp a (opA o) b pos) (tE Φ fr X.K Γ w (.ar o ea eb)) := by
  refine PE_mono (pe_op (op_ar o) ha hb) fun σ H Q h => ?_
  obtain ⟨ρ, ts, r, sr, he, q⟩ := h
  obtain ⟨ra, e1, he⟩ := bind_inv he
  obtain ⟨rb, e2, he⟩ := bind_inv he
  obtain ⟨d, e3, rfl⟩ := map_inv he
  refine ⟨ρ, ts, ra, sr, e1, fun v H1 s1 => ⟨ra.2, _, rb, s1, e2, fun u H2 s2 => ?_⟩⟩
  obtain ⟨G, F1, F2, y⟩ := id s2
  have rp := y.last2 rfl rfl
  obtain ⟨i, j, k, q1, q2, q3⟩ := arD_inv e3
  obtain ⟨d1, ρ1⟩ := ra
  obtain ⟨d2, ρ2⟩ := rb
  have q1 : d1 = .int i := q1
  have q2 : d2 = .int j := q2
  subst q1 q2 q3
  obtain ⟨r1, r2⟩ := rp
  cases r1
  cases r2
  exact ⟨i, j, k, rfl, rfl, e3, q _ _ (s2.drop.drop.res rfl fun G => .int _)⟩
def opC : Cm → CmpOp
  | .lt => .Lt
  | .le => .LtE
  | .gt => .Gt
  | .ge => .GtE
def rCm (o : Cm) : R2 := rI0 fun i j => .bl (cmI o i j)
theorem op_cm : ∀ o : Cm, OpR X (compareOp (opC o)) (rCm o)
  | .lt => op_lt
  | .le => op_le
  | .gt => op_gt
  | .ge => op_ge
theorem opC_in : ∀ o : Cm, opC o ≠ .In ∧ opC o ≠ .NotIn
  | .lt => ⟨by decide, by decide⟩
  | .le => ⟨by decide, by decide⟩
  | .gt => ⟨by decide, by decide⟩
  | .ge => ⟨by decide, by decide⟩
theorem cmD_inv {o : Cm} {x y : D} {z : Bool} (h : cmD o x y = some z) : ∃ i j, x = .int i ∧ y = .int j ∧ z = cmI o i j := by
  cases x <;> cases y <;> first
    | (cases h; done)
    | (cases h; exact ⟨_, _, rfl, rfl, rfl⟩)
theorem m_cm {K : PySem.W.Frag} (o : Cm) {ea eb : E} {σ : Sg} {H : Hp} {Q : VK} (h : tE Φ fr K Γ w (.cm o ea eb) σ H Q) : tOp (rCm o) (tE Φ fr K Γ .fro ea) (tE Φ fr K Γ .fro eb) σ H Q := by
  obtain ⟨ρ, ts, r, sr, he, q⟩ := h
  obtain ⟨ra, e1, he⟩ := bind_inv he
  obtain ⟨rb, e2, he⟩ := bind_inv he
  obtain ⟨d, e3, rfl⟩ := map_inv he
  refine ⟨ρ, ts, ra, sr, e1, fun v H1 s1 => ⟨ra.2, _, rb, s1, e2, fun u H2 s2 => ?_⟩⟩
  obtain ⟨G, F1, F2, y⟩ := id s2
  have rp := y.last2 rfl rfl
  obtain ⟨i, j, q1, q2, q3⟩ := cmD_inv e3
  obtain ⟨d1, ρ1⟩ := ra
  obtain ⟨d2, ρ2⟩ := rb
  have q1 : d1 = .int i := q1
  have q2 : d2 = .int j := q2
  subst q1 q2 q3
  obtain ⟨r1, r2⟩ := rp
  cases r1
  cases r2
  exact ⟨i, j, rfl, rfl, q _ _ (s2.drop.drop.res rfl fun G => .bl _)⟩
theorem m_ch {K : PySem.W.Frag} (o o2 : Cm) {ea eb ee : E} {σ : Sg} {H : Hp} {Q : VK} (h : tE Φ fr K Γ w (.ch o o2 ea eb ee) σ H Q) : tChain (rCm o) (rCm o2) (tE Φ fr K Γ .fro ea) (tE Φ fr K Γ .fro eb) (tE Φ fr K Γ .fro ee) σ H Q := by
  obtain ⟨ρ, ts, r, sr, he, q⟩ := h
  obtain ⟨ra, e1, he⟩ := bind_inv he
  obtain ⟨rb, e2, he2⟩ := bind_inv he
  obtain ⟨t, e3, he3⟩ := bind_inv he2
  clear he he2
  refine ⟨ρ, ts, ra, sr, e1, fun v H1 s1 => ⟨ra.2, _, rb, s1, e2, fun u H2 s2 => ?_⟩⟩
  obtain ⟨G, F1, F2, y⟩ := id s2
  have rp := y.last2 rfl rfl
  obtain ⟨i, j, q1, q2, q3⟩ := cmD_inv e3
  obtain ⟨d1, ρ1⟩ := ra
  obtain ⟨d2, ρ2⟩ := rb
  have q1 : d1 = .int i := q1
  have q2 : d2 = .int j := q2
  subst q1 q2
  obtain ⟨r1, r2⟩ := rp
  cases r1
  cases r2
  refine ⟨i, j, rfl, rfl, t, by rw [q3], ?_⟩
  by_cases ht : t = true
  · rw [if_pos ht] at he3 ⊢
    obtain ⟨rc, e4, he4⟩ := bind_inv he3
    obtain ⟨d, e5, rfl⟩ := map_inv he4
    refine ⟨ρ2, _, rc, s2, e4, fun v3 H3 s3 => ?_⟩
    obtain ⟨G3, F3, F4, y3⟩ := id s3
    have rp3 := y3.last3 rfl rfl rfl
    obtain ⟨j', k, p1, p2, p3⟩ := cmD_inv e5
    obtain ⟨d3, ρ3⟩ := rc
    have p2 : d3 = .int k := p2
    have p1 : PyData.int j = PyData.int j' := p1
    cases p1
    subst p2 p3
    obtain ⟨_, r2', r3'⟩ := rp3
    cases r3'
    exact ⟨j, k, rfl, rfl, q _ _ (s3.drop.drop.drop.res rfl fun G => .bl _)⟩
  · rw [if_neg ht] at he3 ⊢
    cases he3
    exact q _ _ (s2.drop.drop.res rfl fun G => .bl _)
end
end Vw
namespace Vw
open PySem PySem.Spec PyProof.Rows L2
section
variable {X : Cx} {Φ : Cf} {fr : Fr} {Γ : List Ty} {w : Ty} {pos : Pos}
/-! ### comparisons of data -/
theorem rp_bl {K : PySem.W.Frag} (b : Bool) (G : Hp) : Rp K G (.bl b) (.bool b) := .bl b
theorem op_eqG (hu : X.A.units + 64 < cLine) (ng : Bool) : OpR X (compareOp (if ng then .NotEq else .Eq)) (fun x y H Q => ∃ d e, Dp X.K H x d ∧ Dp X.K H y e ∧ SeqAt.shaped d = true ∧ SeqAt.shaped e = true ∧ Q (.bl (PyData.eqv d e != ng)) H) := by
  cases ng with
  | true =>
    intro pins s σ H x y v u Q I rx ry h
    obtain ⟨d, e, h1, h2, h3, h4, q⟩ := h
    exact op_neD hu pins s σ H x y v u Q I rx ry ⟨d, e, h1, h2, h3, h4, by rw [Bool.bne_true] at q; exact q⟩
  | false =>
    intro pins s σ H x y v u Q I rx ry h
    obtain ⟨d, e, h1, h2, h3, h4, q⟩ := h
    exact op_eqD hu pins s σ H x y v u Q I rx ry ⟨d, e, h1, h2, h3, h4, by rw [Bool.bne_false] at q; exact q⟩
theorem eqD_inv {ng : Bool} {x y z : D} (h : eqD ng x y = some z) : SeqAt.shaped x = true ∧ SeqAt.shaped y = true ∧ z = .bool (PyData.eqv x y != ng) := by
  unfold eqD at h
  split at h
  · rename_i c
    cases h
    exact ⟨c.1, c.2, rfl⟩
  · cases h
theorem eqop_in (ng : Bool) : (if ng then CmpOp.NotEq else .Eq) ≠ .In ∧ (if ng then CmpOp.NotEq else .Eq) ≠ .NotIn := by
  cases ng <;> exact ⟨by decide, by decide⟩
def rEqG (K : PySem.W.Frag) (ng : Bool) : R2 := fun x y H Q => ∃ d e, Dp K H x d ∧ Dp K H y e ∧ SeqAt.shaped d = true ∧ SeqAt.shaped e = true ∧ Q (.bl (PyData.eqv d e != ng)) H
theorem m_eq {K : PySem.W.Frag} (ng : Bool) {ea eb : E} {σ : Sg} {H : Hp} {Q : VK} (h : tE Φ fr K Γ w (.eq ng ea eb) σ H Q) : tOp (rEqG K ng) (tE Φ fr K Γ .fro ea) (tE Φ fr K Γ .fro eb) σ H Q := by
  obtain ⟨ρ, ts, r, sr, he, q⟩ := h
  obtain ⟨ra, e1, he⟩ := bind_inv he
  obtain ⟨rb, e2, he⟩ := bind_inv he
  obtain ⟨d, e3, rfl⟩ := map_inv he
  refine ⟨ρ, ts, ra, sr, e1, fun v H1 s1 => ⟨ra.2, _, rb, s1, e2, fun u H2 s2 => ?_⟩⟩
  obtain ⟨G, F1, F2, y⟩ := id s2
  have rp := y.last2 rfl rfl
  obtain ⟨q1, q2, rfl⟩ := eqD_inv e3
  exact ⟨_, _, (Rp_same y.sub _ _ rp.1).dp, (Rp_same y.sub _ _ rp.2).dp, q1, q2, q _ _ (s2.drop.drop.res rfl (rp_bl _))⟩
theorem op_isG (ng : Bool) : OpR X (compareOp (if ng then .IsNot else .Is)) (fun x y H Q => y = .non ∧ Q (.bl (decide (x = .non) != ng)) H) := by
  cases ng with
  | true =>
    intro pins s σ H x y v u Q I rx ry h
    exact op_notN pins s σ H x y v u Q I rx ry ⟨h.1, by have := h.2; rw [Bool.bne_true] at this; exact this⟩
  | false =>
    intro pins s σ H x y v u Q I rx ry h
    exact op_isN pins s σ H x y v u Q I rx ry ⟨h.1, by have := h.2; rw [Bool.bne_false] at this; exact this⟩
theorem rp_none {K : PySem.W.Frag} {G : Hp} {x : D} {v : V} (h : Rp K G v x) : decide (v = .non) = isNone x := by
  cases h <;> rfl
theorem isop_in (ng : Bool) : (if ng then CmpOp.IsNot else .Is) ≠ .In ∧ (if ng then CmpOp.IsNot else .Is) ≠ .NotIn := by
  cases ng <;> exact ⟨by decide, by decide⟩
def rIsG (ng : Bool) : R2 := fun x y H Q => y = .non ∧ Q (.bl (decide (x = .non) != ng)) H
theorem m_isn {K : PySem.W.Frag} (ng : Bool) {ea : E} {σ : Sg} {H : Hp} {Q : VK} (h : tE Φ fr K Γ w (.isn ng ea) σ H Q) : tOp (rIsG ng) (tE Φ fr K Γ .fro ea) (tC .non) σ H Q := by
  obtain ⟨ρ, ts, r, sr, he, q⟩ := h
  obtain ⟨ra, e1, rfl⟩ := map_inv he
  refine ⟨ρ, ts, ra, sr, e1, fun v H1 s1 => ⟨rfl, ?_⟩⟩
  obtain ⟨G, F1, F2, y⟩ := id s1
  rw [rp_none (y.last1 rfl)]
  exact q _ _ (s1.drop.res rfl (rp_bl _))
/-! ### tests -/
theorem truV {G H : Hp} {x : D} {v : V} {b : Bool} (s : Same G H) (h : Sn X.K G H x v) (e : truD x = some b) : TruV X.K v H b := by
  cases x with
  | none =>
    cases e
    rcases h with h | ⟨l', a, vs, e, _⟩
    · cases h; rfl
    · cases e
  | bool c =>
    cases e
    rcases h with h | ⟨l', a, vs, e, _⟩
    · cases h; rfl
    · cases e
  | int c =>
    cases e
    rcases h with h | ⟨l', a, vs, e, _⟩
    · cases h; rfl
    · cases e
  | list l =>
    cases e
    obtain ⟨a, vs, rfl, h1, h2⟩ := h.list s
    refine .inl ⟨vs, .inl h1, ?_⟩
    have e := h2.len
    cases vs <;> cases l <;> first | rfl | simp at e
  | tuple l =>
    cases e
    obtain ⟨a, vs, rfl, h1, h2⟩ := h.tuple s
    refine .inr (.inl ⟨vs, h1, ?_⟩)
    have e := h2.len
    cases vs <;> cases l <;> first | rfl | simp at e
  | str _ => cases e
  | dict _ => cases e
/-- an expression of no form of its own as a test -/
def plainT : Expr → Bool
  | .UnaryOp .Not _ _ => false
  | .BoolOp _ _ _ => false
  | .IfExp _ _ _ _ => false
  | .Compare _ _ _ _ => false
  | _ => true
theorem isTrue_plainT {a : Expr} {env : Env} (h : plainT a = true) (whole : Sem Value) : isTrue a env whole = (do let v ← whole; standAt a.pos; holding [v] (truthy v)) := by
  cases a with
  | UnaryOp op _ _ => cases op <;> first | rfl | cases h
  | BoolOp _ _ _ => cases h
  | IfExp _ _ _ _ => cases h
  | Compare _ _ _ _ => cases h
  | _ => rfl
theorem t_e {a : Expr} {ea : E} (ha : PE X a (tE Φ fr X.K Γ .fro ea)) (hp : plainT a = true) : PT X a (tT Φ fr X.K Γ (.e ea)) := by
  refine PT_mono (pt_truth ha (isTrue_plainT hp)) fun σ H Q h => ?_
  obtain ⟨ρ, ts, r, sr, he, q⟩ := h
  obtain ⟨ra, e1, he⟩ := bind_inv he
  obtain ⟨b, e2, rfl⟩ := map_inv he
  refine ⟨ρ, ts, ra, sr, e1, fun v H1 s1 => ?_⟩
  obtain ⟨G, F1, F2, y⟩ := id s1
  exact ⟨b, truV y.sub (.inl (y.last1 rfl)) e2, q _ s1.drop⟩
theorem t_sl {i : Nat} {x : Str} (hN : X.N[i]? = some x) (hv : Vis X.env.scope x) (hw : Γ[i]? = some (.lst .fro)) (hd : (x == ("__debug__" : Str)) = false) (hcd : (x == ("__classdict__" : Str)) = false) :
    PT X (.Name x pos) (tT Φ fr X.K Γ (.sl i)) := by
  refine PT_mono (pt_truth (o_s (Φ := Φ) (fr := fr) hN hv hw hd hcd) (isTrue_plainT rfl)) fun σ H Q h => ?_
  obtain ⟨ρ, ts, r, sr, he, q⟩ := h
  obtain ⟨d, e1, he⟩ := bind_inv he
  obtain ⟨b, e2, rfl⟩ := map_inv he
  refine ⟨ρ, ts, (d, ρ), sr, by show Option.map _ _ = _; rw [e1]; rfl, fun v H1 ts' s1 hd => ?_⟩
  obtain ⟨G, F1, F2, y⟩ := id s1
  have y' : SRd fr X.K G F1 F2 Γ ρ σ (ts' ++ []) H1 := by rw [List.append_nil]; exact y
  refine ⟨b, truV y.sub (y'.sn (Φ := Φ) hd e1) e2, q _ ?_⟩
  obtain ⟨rfl, _⟩ := hd
  exact s1
/-- whose value is a bool -/
def boolE : E → Bool
  | .cm _ _ _ => true
  | .ch _ _ _ _ _ => true
  | .eq _ _ _ => true
  | .isn _ _ => true
  | .inn _ _ _ => true
  | .ind _ _ _ => true
  | .ch3 _ _ _ _ _ _ _ => true
  | .isi _ _ => true
  | .isb _ _ _ => true
  | _ => false
theorem innD_inv {ng : Bool} {x y z : D} (h : innD ng x y = some z) : ∃ l, seqD y = some l ∧ flatD x = true ∧ l.all flatD = true ∧ z = .bool (l.any (fun e => PyData.eqv e x) != ng) := by
  unfold innD at h
  obtain ⟨l, e, h⟩ := bind_inv h
  split at h
  · rename_i c
    cases h
    exact ⟨l, e, c.1, c.2, rfl⟩
  · cases h
theorem indD_inv {ng : Bool} {x y z : D} (h : indD ng x y = some z) : ∃ l, y = .list l ∧ SeqAt.shaped x = true ∧ SeqAt.shaped (.list l) = true ∧ z = .bool (l.any (fun e => PyData.eqv e x) != ng) := by
  cases y with
  | list l =>
    have h : (if SeqAt.shaped x = true ∧ SeqAt.shaped (.list l) = true then some (.bool (l.any (fun e => PyData.eqv e x) != ng)) else none) = some z := h
    split at h
    · rename_i c
      cases h
      exact ⟨l, rfl, c.1, c.2, rfl⟩
    · cases h
  | _ => exact absurd (show (none : Option D) = some z from h) (by simp)
theorem boolE_ok {e : E} (h : boolE e = true) {ρ : Rho} {r : D × Rho} (he : ev Φ e ρ = some r) : ∃ b, r.1 = .bool b := by
  cases e with
  | cm o a b =>
    obtain ⟨ra, e1, he⟩ := bind_inv he
    obtain ⟨rb, e2, he⟩ := bind_inv he
    obtain ⟨d, e3, rfl⟩ := map_inv he
    exact ⟨_, rfl⟩
  | ch o o2 a b e =>
    obtain ⟨ra, e1, he⟩ := bind_inv he
    obtain ⟨rb, e2, he⟩ := bind_inv he
    obtain ⟨d, e3, he⟩ := bind_inv he
    split at he
    · obtain ⟨rc, e4, he⟩ := bind_inv he
      obtain ⟨d, e5, rfl⟩ := map_inv he
      exact ⟨_, rfl⟩
    · cases he
      exact ⟨_, rfl⟩
  | eq ng a b =>
    obtain ⟨ra, e1, he⟩ := bind_inv he
    obtain ⟨rb, e2, he⟩ := bind_inv he
    obtain ⟨d, e3, rfl⟩ := map_inv he
    obtain ⟨q1, q2, rfl⟩ := eqD_inv e3
    exact ⟨_, rfl⟩
  | isn ng a =>
    obtain ⟨ra, e1, rfl⟩ := map_inv he
    exact ⟨_, rfl⟩
  | inn ng a b =>
    obtain ⟨ra, e1, he⟩ := bind_inv he
    obtain ⟨rb, e2, he⟩ := bind_inv he
    obtain ⟨d, e3, rfl⟩ := map_inv he
    obtain ⟨l, _, _, _, rfl⟩ := innD_inv e3
    exact ⟨_, rfl⟩
  | ind ng a b =>
    obtain ⟨ra, e1, he⟩ := bind_inv he
    obtain ⟨rb, e2, he⟩ := bind_inv he
    obtain ⟨d, e3, rfl⟩ := map_inv he
    obtain ⟨l, _, _, _, rfl⟩ := indD_inv e3
    exact ⟨_, rfl⟩
  | isb ng v a =>
    obtain ⟨ra, e1, he⟩ := bind_inv he
    split at he
    · cases he
      exact ⟨_, rfl⟩
    · cases he
  | isi k a =>
    obtain ⟨ra, e1, he⟩ := bind_inv he
    obtain ⟨d, e3, rfl⟩ := map_inv he
    exact ⟨_, rfl⟩
  | ch3 o o2 o3 a b e f =>
    obtain ⟨ra, e1, he⟩ := bind_inv he
    obtain ⟨rb, e2, he⟩ := bind_inv he
    obtain ⟨d, e3, he⟩ := bind_inv he
    split at he
    · obtain ⟨rc, e4, he⟩ := bind_inv he
      obtain ⟨d, e5, he⟩ := bind_inv he
      split at he
      · obtain ⟨rd, e6, he⟩ := bind_inv he
        obtain ⟨d, e7, rfl⟩ := map_inv he
        exact ⟨_, rfl⟩
      · cases he
        exact ⟨_, rfl⟩
    · cases he
      exact ⟨_, rfl⟩
  | _ => cases h
/-- a comparison as a test -/
theorem t_cmp {a : Expr} {ops : List CmpOp} {cs : List Expr} {ea : E} {t : TE} (h : PT X (.Compare a ops cs pos) (tTest t)) (hb : boolE ea = true) (i : ∀ σ H Q, tE Φ fr X.K Γ .fro ea σ H Q → t σ H Q) : PT X (.Compare a ops cs pos) (tT Φ fr X.K Γ (.e ea)) := by
  refine PT_mono h fun σ H Q h => ?_
  obtain ⟨ρ, ts, r, sr, he, q⟩ := h
  obtain ⟨ra, e1, he⟩ := bind_inv he
  obtain ⟨b, e2, rfl⟩ := map_inv he
  refine i σ H _ ⟨ρ, ts, ra, sr, e1, fun v H1 s1 => ?_⟩
  obtain ⟨G, F1, F2, y⟩ := id s1
  have rp := y.last1 rfl
  obtain ⟨c, e3⟩ := boolE_ok hb e1
  obtain ⟨d, ρ1⟩ := ra
  have e3 : d = .bool c := e3
  subst e3
  cases rp
  have e2 : some c = some b := e2
  cases e2
  exact ⟨_, rfl, q _ s1.drop⟩
theorem t_no {a : Expr} {ta : T} (ha : PT X a (tT Φ fr X.K Γ ta)) : PT X (.UnaryOp .Not a pos) (tT Φ fr X.K Γ (.no ta)) := by
  refine PT_mono (pt_not ha) fun σ H Q h => ?_
  obtain ⟨ρ, ts, r, sr, he, q⟩ := h
  obtain ⟨ra, e1, rfl⟩ := map_inv he
  exact ⟨ρ, ts, ra, sr, e1, fun H1 s1 => q _ s1⟩
theorem w_an {a b : Expr} {rest : List Expr} {ta tb : T} (ha : PT X a (tT Φ fr X.K Γ ta)) (hb : PW X (.BoolOp .And (b :: rest) pos) (tT Φ fr X.K Γ tb)) : PW X (.BoolOp .And (a :: b :: rest) pos) (tT Φ fr X.K Γ (.an ta tb)) := by
  refine ⟨fun whole pins s σ H Q I h => (pw_and ha hb).run whole pins s σ H Q I ?_⟩
  obtain ⟨ρ, ts, r, sr, he, q⟩ := h
  obtain ⟨ra, e1, he⟩ := bind_inv he
  refine ⟨ρ, ts, ra, sr, e1, fun H1 s1 => ?_⟩
  by_cases hc : ra.1 = true
  · rw [if_pos hc] at he ⊢
    exact ⟨_, ts, r, s1, he, q⟩
  · rw [if_neg hc] at he ⊢
    cases he
    exact q _ s1
theorem w_orr {a b : Expr} {rest : List Expr} {ta tb : T} (ha : PT X a (tT Φ fr X.K Γ ta)) (hb : PW X (.BoolOp .Or (b :: rest) pos) (tT Φ fr X.K Γ tb)) : PW X (.BoolOp .Or (a :: b :: rest) pos) (tT Φ fr X.K Γ (.orr ta tb)) := by
  refine ⟨fun whole pins s σ H Q I h => (pw_or ha hb).run whole pins s σ H Q I ?_⟩
  obtain ⟨ρ, ts, r, sr, he, q⟩ := h
  obtain ⟨ra, e1, he⟩ := bind_inv he
  refine ⟨ρ, ts, ra, sr, e1, fun H1 s1 => ?_⟩
  by_cases hc : ra.1 = true
  · rw [if_pos hc] at he ⊢
    cases he
    exact q _ s1
  · rw [if_neg hc] at he ⊢
    exact ⟨_, ts, r, s1, he, q⟩
/-! ### not, and, or, if as values -/
theorem e_no {a : Expr} {ea : E} (ha : PE X a (tE Φ fr X.K Γ .fro ea)) : PE X (.UnaryOp .Not a pos) (tE Φ fr X.K Γ w (.no (.e ea))) := by
  refine PE_mono (pe_notT ha) fun σ H Q h => ?_
  obtain ⟨ρ, ts, r, sr, he, q⟩ := h
  obtain ⟨rb, e0, rfl⟩ := map_inv he
  obtain ⟨ra, e1, he⟩ := bind_inv e0
  obtain ⟨b, e2, rfl⟩ := map_inv he
  refine ⟨ρ, ts, ra, sr, e1, fun v H1 s1 => ?_⟩
  obtain ⟨G, F1, F2, y⟩ := id s1
  exact ⟨b, truV y.sub (.inl (y.last1 rfl)) e2, q _ _ (s1.drop.res rfl (rp_bl _))⟩
theorem e_an {a b : Expr} {rest : List Expr} {ea eb : E} (ha : PE X a (tE Φ fr X.K Γ .fro ea)) (hb : PE X (.BoolOp .And (b :: rest) pos) (tE Φ fr X.K Γ .fro eb)) : PE X (.BoolOp .And (a :: b :: rest) pos) (tE Φ fr X.K Γ .fro (.an ea eb)) := by
  refine PE_mono (pe_and ha hb) fun σ H Q h => ?_
  obtain ⟨ρ, ts, r, sr, he, q⟩ := h
  obtain ⟨ra, e1, he⟩ := bind_inv he
  refine ⟨ρ, ts, ra, sr, e1, fun v H1 s1 => ?_⟩
  obtain ⟨G, F1, F2, y⟩ := id s1
  have rp := y.last1 rfl
  obtain ⟨d, ρ1⟩ := ra
  cases d with
  | bool c =>
    cases rp
    refine ⟨c, rfl, ?_⟩
    have he : (if c = true then ev Φ eb ρ1 else some (.bool false, ρ1)) = some r := he
    by_cases hc : c = true
    · rw [if_pos hc] at he ⊢
      exact ⟨_, ts, r, s1.drop, he, q⟩
    · rw [if_neg hc] at he ⊢
      cases he
      exact q _ _ (s1.drop.res rfl (rp_bl _))
  | _ => cases he
theorem e_orr {a b : Expr} {rest : List Expr} {ea eb : E} (ha : PE X a (tE Φ fr X.K Γ .fro ea)) (hb : PE X (.BoolOp .Or (b :: rest) pos) (tE Φ fr X.K Γ .fro eb)) : PE X (.BoolOp .Or (a :: b :: rest) pos) (tE Φ fr X.K Γ .fro (.orr ea eb)) := by
  refine PE_mono (pe_or ha hb) fun σ H Q h => ?_
  obtain ⟨ρ, ts, r, sr, he, q⟩ := h
  obtain ⟨ra, e1, he⟩ := bind_inv he
  refine ⟨ρ, ts, ra, sr, e1, fun v H1 s1 => ?_⟩
  obtain ⟨G, F1, F2, y⟩ := id s1
  have rp := y.last1 rfl
  obtain ⟨d, ρ1⟩ := ra
  cases d with
  | bool c =>
    cases rp
    refine ⟨c, rfl, ?_⟩
    have he : (if c = true then some (.bool true, ρ1) else ev Φ eb ρ1) = some r := he
    by_cases hc : c = true
    · rw [if_pos hc] at he ⊢
      cases he
      exact q _ _ (s1.drop.res rfl (rp_bl _))
    · rw [if_neg hc] at he ⊢
      exact ⟨_, ts, r, s1.drop, he, q⟩
  | _ => cases he
theorem e_ife {c a b : Expr} {tc : T} {ea eb : E} (hc : PT X c (tT Φ fr X.K Γ tc)) (ha : PE X a (tE Φ fr X.K Γ w ea)) (hb : PE X b (tE Φ fr X.K Γ w eb)) : PE X (.IfExp c a b pos) (tE Φ fr X.K Γ w (.ife tc ea eb)) := by
  refine PE_mono (pe_ifExp hc ha hb) fun σ H Q h => ?_
  obtain ⟨ρ, ts, r, sr, he, q⟩ := h
  obtain ⟨ra, e1, he⟩ := bind_inv he
  refine ⟨ρ, ts, ra, sr, e1, fun H1 s1 => ?_⟩
  by_cases hd : ra.1 = true
  · rw [if_pos hd] at he ⊢
    exact ⟨_, ts, r, s1, he, q⟩
  · rw [if_neg hd] at he ⊢
    exact ⟨_, ts, r, s1, he, q⟩
/-! ### displays -/
def noStar : Expr → Bool
  | .Starred _ _ => false
  | _ => true
theorem star_cons {e : Expr} {es : List Expr} {env : Env} (h : noStar e = true) : starEach (e :: es) env = (false, eval e env) :: starEach es env := by
  cases e <;> first | rfl | cases h
theorem as_nil : PA X [] (tEs Φ fr X.K Γ w .nil) := by
  refine PA_mono pa_nil fun σ H Q h => ?_
  obtain ⟨ρ, ts, r, sr, he, q⟩ := h
  have he : some ([], ρ) = some r := he
  cases he
  refine q [] H rfl ?_
  show SR fr X.K Γ ρ σ (ts ++ []) H
  rw [List.append_nil]
  exact sr
theorem as_cons {e : Expr} {es : List Expr} {ea : E} {eas : Es} (ha : PE X e (tE Φ fr X.K Γ w ea)) (hb : PA X es (tEs Φ fr X.K Γ w eas)) (hs : noStar e = true) : PA X (e :: es) (tEs Φ fr X.K Γ w (.cons ea eas)) := by
  refine PA_mono (pa_cons ha hb (star_cons hs)) fun σ H Q h => ?_
  obtain ⟨ρ, ts, r, sr, he, q⟩ := h
  obtain ⟨ra, e1, he⟩ := bind_inv he
  obtain ⟨rb, e2, rfl⟩ := map_inv he
  refine ⟨ρ, ts, ra, sr, e1, fun v H1 s1 => ⟨ra.2, _, rb, s1, e2, fun vs H2 hl s2 => ?_⟩⟩
  rw [List.append_assoc] at s2
  exact q (v :: vs) H2 (by simp [hl]) s2
theorem lenOk_of {n : Nat} (h : lenOk n = true) : n ≤ sizeLine := of_decide_eq_true h
theorem e_lst {t : Ty} {es : List Expr} {eas : Es} (m : Made t w) (ha : PA X es (tEs Φ fr X.K Γ t eas)) : PE X (.List es pos) (tE Φ fr X.K Γ w (.lst eas)) := by
  refine PE_mono (pe_lst ha) fun σ H Q h => ?_
  obtain ⟨ρ, ts, r, sr, he, q⟩ := h
  obtain ⟨ra, e1, he⟩ := bind_inv he
  split at he
  · rename_i c
    cases he
    refine ⟨ρ, ts, ra, sr, e1, fun vs H1 hl s1 => ⟨by rw [hl]; exact lenOk_of c, fun p hp => ?_⟩⟩
    obtain ⟨G, F1, F2, y⟩ := id s1
    have z := y.list tms_t m hp
    rw [tms_d hl, tms_v hl] at z
    exact q _ _ z
  · cases he
theorem TmF.alls {K : PySem.W.Frag} {G H : Hp} {us : List Tm} {F : List Addr} (h : TmF K G H us F) (hw : ∀ x ∈ us, x.t = .fro) : RpAll K G (us.map Tm.v) (us.map Tm.d) := (TmF.all hw h).fro.2
theorem e_tup {es : List Expr} {eas : Es} {k : Nat} (ha : PA X es (tEs Φ fr X.K Γ .fro eas)) : PE X (.Tuple es k pos) (tE Φ fr X.K Γ .fro (.tup eas)) := by
  refine PE_mono (pe_tup ha) fun σ H Q h => ?_
  obtain ⟨ρ, ts, r, sr, he, q⟩ := h
  obtain ⟨ra, e1, he⟩ := bind_inv he
  split at he
  · rename_i c
    cases he
    refine ⟨ρ, ts, ra, sr, e1, fun vs H1 hl s1 => ⟨by rw [hl]; exact lenOk_of c, fun p hp => ?_⟩⟩
    obtain ⟨G, F1, F2, y⟩ := id s1
    obtain ⟨F3, F4, _, _, t2⟩ := y.tm.app
    have rs := t2.alls tms_t
    rw [tms_d hl, tms_v hl] at rs
    obtain ⟨F5, y2⟩ := y.drop
    exact q _ _ (y2.newTup rs hp)
  · cases he
end
end Vw
namespace Vw
open PySem PySem.Spec PyProof.Rows L2
/-! ### operations on lists and tuples, by the library's rules -/
theorem tuple_mul1 (l : Addr) (items : Array Value) (n : Nat) (sl : Array (Option Value)) (dd : Option Addr) (u : Tok) :
    Meets (Builtin.«tuple.__mul__» ⟨[.ref l, .int 1 u], []⟩) (fun _ R s => s.heap.get? l = some { cls := .type "tuple", dict := dd, data := .seq items n, slots := sl } ∧ R (.ok (.ret (Value.ref l))) s) :=
  .of_wp fun prog w A R s h => by
    obtain ⟨hp, g, d, tk, os⟩ := s
    obtain ⟨hl, h⟩ := h
    have f1 := AutoSeq1.idx_int
    have c0 : (decide ((1 : Int) < -(2 ^ 63)) || decide ((1 : Int) ≥ 2 ^ 63)) = false := by decide
    have c1 : (items.isEmpty || (1 : Int) == 1) = true := by simp
    wp_walk using wpAny_loadPart' hl
    repeat (first
      | (refine wpAny_ite_false (decide_eq_false (by rw [c0]; exact Bool.false_ne_true)) ?_; wp_walk using wpAny_loadPart' hl)
      | (rw [if_pos c1]; wp_walk using wpAny_loadPart' hl))
    exact ⟨_, rfl, h⟩
section
variable {X : Cx}
def rRep1 (K : PySem.W.Frag) : R2 := fun x y H Q => ∃ l xs, x = .ref l ∧ y = .int 1 ∧ SqT K H l xs ∧ Q (.ref l) H
theorem op_rep1 : OpR X (binaryOp .Mult) (rRep1 X.K) := by
  intro pins s σ H x y v u Q I rx ry h
  obtain ⟨l, xs, rfl, rfl, hT, q⟩ := h
  cases rx
  obtain ⟨t, rfl⟩ := ry
  obtain ⟨its, r, ⟨⟨cls, dd, data, sl⟩, ho, hc, n, hd⟩, hs⟩ := I.tuple hT
  simp only at hc hd
  subst hc hd
  refine wpAny_binaryOp_repeat_ref (T := "tuple") (U := "int") (by decide) ⟨_, ho, rfl⟩ (fun s' => typeIs_int s' 1 t) noFill_tuple_mul F.fills_int_mul F.slot_int_rmul repeat_tuple F.slot_int_index.lookup
    (call_meets F.slot_int_rmul (typeIs_int s 1 t) F.entry_int_rmul (F.args_int_rmul_2 _ _) (int_rmul_tuple 1 t l its.toArray n dd sl)
      ⟨ho, rfl, ⟨_, ho, rfl⟩, call_meets F.slot_tuple_mul ⟨_, ho, rfl⟩ F.entry_tuple_mul (F.args_tuple_mul_2 _ _) (tuple_mul1 l its.toArray n sl dd t) ⟨ho, ?_⟩⟩)
  exact ⟨.ref l, H, I, rfl, q⟩
theorem rd_lst {pins : List (Addr × Obj)} {σ : Sg} {H : Hp} {s : Shared} {l : Addr} {xs : List V} (I : Inv X pins σ H s) (h : Rd H l (.lst xs)) : xs.length ≤ sizeLine ∧ ∃ (its : List Value) (n : Nat), Vals xs its ∧ xs.length = its.length ∧ s.heap.get? l = some { cls := .type "list", data := .seq its.toArray n } := by
  obtain ⟨z, its, n, r, e⟩ := h.ok I.hok
  exact ⟨z, its, n, r, r.length, e⟩
def rCatS : R2 := fun x y H Q => ∃ l b xs zs, x = .ref l ∧ y = .ref b ∧ Rd H l (.lst xs) ∧ Rd H b (.lst zs) ∧ xs.length + zs.length ≤ sizeLine ∧ ∀ p, H p = none → Q (.ref p) (upd H p (.lst (xs ++ zs)))
theorem op_catS : OpR X (binaryOp .Add) rCatS := by
  intro pins s σ H x y v u Q I rx ry h
  obtain ⟨l, b, xs, zs, rfl, rfl, hH, hB, hz, q⟩ := h
  cases rx
  cases ry
  obtain ⟨z, its, n, r, hl, e⟩ := rd_lst I hH
  obtain ⟨z2, its2, n2, r2, hl2, e2⟩ := rd_lst I hB
  refine PySem.P.add_list e e2 ?_ (by rw [List.size_toArray, List.size_toArray]; omega)
  have ea : its.toArray ++ its2.toArray = (its ++ its2).toArray := by simp
  rw [ea]
  exact ⟨.ref _, _, I.lnew (t' := s.toks) (r.append r2) (by rw [List.length_append]; omega), rfl, q _ I.fresh⟩
def rRepS : R2 := fun x y H Q => ∃ l k xs, x = .ref l ∧ y = .int k ∧ Rd H l (.lst xs) ∧ -(2 ^ 63) ≤ k ∧ k < 2 ^ 63 ∧ xs.length * k.toNat ≤ sizeLine ∧
  ∀ p, H p = none → Q (.ref p) (upd H p (.lst (List.replicate k.toNat xs).flatten))
theorem op_repS : OpR X (binaryOp .Mult) rRepS := by
  intro pins s σ H x y v u Q I rx ry h
  obtain ⟨l, k, xs, rfl, rfl, hH, h1, h2, hz, q⟩ := h
  cases rx
  obtain ⟨t, rfl⟩ := ry
  obtain ⟨z, its, n, r, hl, e⟩ := rd_lst I hH
  have hlen : its.toArray.size * k.toNat ≤ sizeLine := by rw [List.size_toArray, ← hl]; exact hz
  have hcap : ¬ its.toArray.size * k.toNat > (2 ^ 63 - 1) / 8 := by
    have : (sizeLine : Nat) ≤ (2 ^ 63 - 1) / 8 := by decide
    omega
  have hfit : ¬ (!Builtin.List.listFitsIndex k) = true := by
    rw [fitsIndex_both h1 h2]
    exact Bool.false_ne_true
  have hlong : ¬ Builtin.List.listTooLong (its.toArray.size * k.toNat) = true := by
    rw [notLongL hlen]
    exact Bool.false_ne_true
  have hnew : List.foldl (fun x1 x2 => x1 ++ x2) #[] (List.replicate (if its.toArray.isEmpty = true then 0 else k.toNat) its.toArray) = (List.replicate k.toNat its).flatten.toArray := by
    have f0 : ∀ m : Nat, List.foldl (fun x1 x2 => x1 ++ x2) #[] (List.replicate m its.toArray) = (List.replicate m its).flatten.toArray := fun m => by
      have := foldl_rep its m []
      rw [List.nil_append] at this
      exact this
    rw [f0]
    cases its with
    | nil => simp
    | cons a r' => rw [if_neg (by simp)]
  refine wpAny_binaryOp_repeat_ref (T := "list") (U := "int") (by decide) ⟨_, e, rfl⟩ (fun s' => typeIs_int s' k t) noFill_list_mul F.fills_int_mul F.slot_int_rmul repeat_list F.slot_int_index.lookup
    (call_meets F.slot_int_rmul (typeIs_int s k t) F.entry_int_rmul (F.args_int_rmul_2 _ _) (int___rmul___int_list k t l its.toArray n)
      ⟨e, rfl, ⟨_, e, rfl⟩, call_meets F.slot_list_mul ⟨_, e, rfl⟩ F.entry_list_mul (F.args_list_mul_2 _ _) (AutoListH.list___mul___list_int_3 l its.toArray n k t hfit hcap hlong) ⟨e, ?_⟩⟩)
  rw [hnew]
  exact ⟨.ref _, _, I.lnew (t' := s.toks) (r.rep k.toNat) (by rw [PyProof.Rows.lm_len_rep_flat, Nat.mul_comm]; exact hz), rfl, q _ I.fresh⟩
end
theorem RpAll.flat {K : PySem.W.Frag} {G : Hp} {vs : List V} {ds : List D} (h : RpAll K G vs ds) : ∀ k : Nat, RpAll K G (List.replicate k vs).flatten (repN k ds)
  | 0 => .nil
  | k + 1 => by
    show RpAll K G (List.replicate (k + 1) vs).flatten (List.replicate (k + 1) ds).flatten
    rw [List.replicate_succ, List.replicate_succ, List.flatten_cons, List.flatten_cons]
    exact h.app (h.flat k)
theorem RpAll.cut {K : PySem.W.Frag} {G : Hp} {vs : List V} {ds : List D} (h : RpAll K G vs ds) (lo hi : Option Int) : RpAll K G (cutV vs lo hi) (cutD ds lo hi) := by
  unfold cutV cutD
  rw [h.len]
  exact (h.drop _).take _
theorem cutD_all {ds : List D} {lo hi : Option Int} (h : HT.sIx ds.length 0 lo = 0 ∧ HT.sIx ds.length ds.length hi = ds.length) : cutD ds lo hi = ds := by
  unfold cutD
  rw [h.1, h.2, List.drop_zero, Nat.sub_zero, List.take_length]
theorem intsD_inv : ∀ {l : List D} {ns : List Int}, intsD l = some ns → l = ns.map .int
  | [], ns, h => by cases h; rfl
  | .int i :: r, ns, h => by
    obtain ⟨m, e, rfl⟩ := map_inv h
    rw [intsD_inv e]
    rfl
  | .none :: _, _, h => nomatch h
  | .bool _ :: _, _, h => nomatch h
  | .str _ :: _, _, h => nomatch h
  | .list _ :: _, _, h => nomatch h
  | .tuple _ :: _, _, h => nomatch h
  | .dict _ :: _, _, h => nomatch h
theorem boolsD_inv : ∀ {l : List D} {ns : List Bool}, boolsD l = some ns → l = ns.map .bool
  | [], ns, h => by cases h; rfl
  | .bool i :: r, ns, h => by
    obtain ⟨m, e, rfl⟩ := map_inv h
    rw [boolsD_inv e]
    rfl
  | .none :: _, _, h => nomatch h
  | .int _ :: _, _, h => nomatch h
  | .str _ :: _, _, h => nomatch h
  | .list _ :: _, _, h => nomatch h
  | .tuple _ :: _, _, h => nomatch h
  | .dict _ :: _, _, h => nomatch h
theorem maxL_is : ∀ {l : List Int} {m k : Int}, maxL l = some m → k ∈ l → (∀ y, y ∈ l → y ≤ k) → k = m
  | [], _, _, h, _, _ => nomatch h
  | [x], m, k, h, hk, _ => by
    cases h
    simpa using hk
  | x :: y :: r, m, k, h, hk, hm => by
    obtain ⟨q, e, h⟩ := map_inv h
    have mem : ∀ {l : List Int} {q : Int}, maxL l = some q → q ∈ l ∧ ∀ z, z ∈ l → z ≤ q := by
      intro l
      induction l with
      | nil => intro q h; cases h
      | cons a l ih =>
        intro q h
        cases l with
        | nil =>
          cases h
          exact ⟨by simp, fun z hz => by simp at hz; omega⟩
        | cons b l =>
          obtain ⟨q', e', h'⟩ := map_inv h
          obtain ⟨i1, i2⟩ := ih e'
          have h' : (if a < q' then q' else a) = q := h'
          by_cases c : a < q'
          · rw [if_pos c] at h'
            subst h'
            refine ⟨List.mem_cons_of_mem _ i1, fun z hz => ?_⟩
            rcases List.mem_cons.mp hz with rfl | hz
            · omega
            · exact i2 z hz
          · rw [if_neg c] at h'
            subst h'
            refine ⟨List.mem_cons_self, fun z hz => ?_⟩
            rcases List.mem_cons.mp hz with rfl | hz
            · omega
            · have := i2 z hz
              omega
    obtain ⟨i1, i2⟩ := mem (l := x :: y :: r) (q := m) (by show Option.map _ _ = _; rw [e]; exact congrArg some h)
    have a1 := i2 k hk
    have a2 := hm m i1
    omega
theorem minL_is : ∀ {l : List Int} {m k : Int}, minL l = some m → k ∈ l → (∀ y, y ∈ l → k ≤ y) → k = m
  | [], _, _, h, _, _ => nomatch h
  | [x], m, k, h, hk, _ => by
    cases h
    simpa using hk
  | x :: y :: r, m, k, h, hk, hm => by
    obtain ⟨q, e, h⟩ := map_inv h
    have mem : ∀ {l : List Int} {q : Int}, minL l = some q → q ∈ l ∧ ∀ z, z ∈ l → q ≤ z := by
      intro l
      induction l with
      | nil => intro q h; cases h
      | cons a l ih =>
        intro q h
        cases l with
        | nil =>
          cases h
          exact ⟨by simp, fun z hz => by simp at hz; omega⟩
        | cons b l =>
          obtain ⟨q', e', h'⟩ := map_inv h
          obtain ⟨i1, i2⟩ := ih e'
          have h' : (if q' < a then q' else a) = q := h'
          by_cases c : q' < a
          · rw [if_pos c] at h'
            subst h'
            refine ⟨List.mem_cons_of_mem _ i1, fun z hz => ?_⟩
            rcases List.mem_cons.mp hz with rfl | hz
            · omega
            · exact i2 z hz
          · rw [if_neg c] at h'
            subst h'
            refine ⟨List.mem_cons_self, fun z hz => ?_⟩
            rcases List.mem_cons.mp hz with rfl | hz
            · omega
            · have := i2 z hz
              omega
    obtain ⟨i1, i2⟩ := mem (l := x :: y :: r) (q := m) (by show Option.map _ _ = _; rw [e]; exact congrArg some h)
    have a1 := i2 k hk
    have a2 := hm m i1
    omega
theorem insI_perm (x : Int) : ∀ l : List Int, (insI x l).Perm (x :: l)
  | [] => List.Perm.refl _
  | y :: r => by
    unfold insI
    split
    · exact List.Perm.refl _
    · exact ((insI_perm x r).cons y).trans (List.Perm.swap x y r)
theorem sortI_perm : ∀ l : List Int, (sortI l).Perm l
  | [] => List.Perm.refl _
  | x :: r => (insI_perm x _).trans ((sortI_perm r).cons x)
theorem insI_sorted (x : Int) : ∀ {l : List Int}, l.Pairwise (· ≤ ·) → (insI x l).Pairwise (· ≤ ·)
  | [], _ => by simp [insI]
  | y :: r, h => by
    unfold insI
    obtain ⟨h1, h2⟩ := List.pairwise_cons.mp h
    split
    · rename_i c
      refine List.pairwise_cons.mpr ⟨fun z hz => ?_, h⟩
      rcases List.mem_cons.mp hz with rfl | hz
      · exact c
      · exact Int.le_trans c (h1 z hz)
    · rename_i c
      refine List.pairwise_cons.mpr ⟨fun z hz => ?_, insI_sorted x h2⟩
      rcases List.mem_cons.mp ((insI_perm x r).mem_iff.mp hz) with rfl | hz
      · omega
      · exact h1 z hz
theorem sortI_sorted : ∀ l : List Int, (sortI l).Pairwise (· ≤ ·)
  | [] => List.Pairwise.nil
  | x :: r => insI_sorted x (sortI_sorted r)
theorem sorted_one {a b : List Int} (h : a.Perm b) (h1 : a.Pairwise (· ≤ ·)) (h2 : b.Pairwise (· ≤ ·)) : a = b :=
  h.eq_of_pairwise (fun x y _ _ p q => Int.le_antisymm p q) h1 h2
section
variable {X : Cx} {Φ : Cf} {fr : Fr} {Γ : List Ty} {w : Ty} {pos : Pos}
/-! ### a[i] -/
theorem plainIx_of {b : Expr} (h : (match b with | .Slice _ _ _ _ => false | _ => true) = true) : PlainIx b := by
  intro o i
  cases b <;> first | rfl | cases h
def notSlice : Expr → Bool
  | .Slice _ _ _ _ => false
  | _ => true
theorem plainIx_ns {b : Expr} (h : notSlice b = true) : PlainIx b := by
  intro o i
  cases b <;> first | rfl | cases h
theorem atI_rp {K : PySem.W.Frag} {G : Hp} {vs : List V} {l : List D} (h : RpAll K G vs l) {i : Int} {d : D} (e : atI l i = some d) : ∃ v, atI vs i = some v ∧ Rp K G v d := by
  unfold atI at e ⊢
  obtain ⟨j, e1, e2⟩ := bind_inv e
  obtain ⟨v, e3, r⟩ := h.get e2
  exact ⟨v, by rw [h.len, e1]; exact e3, r⟩
theorem ixL_inv {l : List D} {x d : D} (h : ixL l x = some d) : ∃ i, x = .int i ∧ atI l i = some d := by
  cases x with
  | int i => exact ⟨i, rfl, h⟩
  | _ => cases h
def rIxB (K : PySem.W.Frag) : R2 := fun x y H Q => rIxL K x y H Q ∨ rIxT K x y H Q
theorem ix_both : IxR X (rIxB X.K) := ix_list.or ix_tup
theorem ixD_sn {K : PySem.W.Frag} {G H : Hp} {x i d : D} {v u : V} {Q : VK} (s : Same G H) (h : Sn K G H x v) (hi : Rp K G u i) (e : ixD x i = some d) (q : ∀ z, Rp K G z d → Q z H) : rIxB K v u H Q := by
  cases x with
  | list l =>
    obtain ⟨k, rfl, e⟩ := ixL_inv e
    obtain ⟨a, vs, rfl, h1, h2⟩ := h.list s
    obtain ⟨z, e1, r⟩ := atI_rp h2 e
    cases hi
    exact .inl ⟨a, vs, k, z, rfl, rfl, .inl h1, e1, q z r⟩
  | tuple l =>
    obtain ⟨k, rfl, e⟩ := ixL_inv e
    obtain ⟨a, vs, rfl, h1, h2⟩ := h.tuple s
    obtain ⟨z, e1, r⟩ := atI_rp h2 e
    cases hi
    exact .inr ⟨a, vs, k, z, rfl, rfl, h1, e1, q z r⟩
  | _ => cases e
theorem e_ix {a b : Expr} {oa : O} {eb : E} (ha : PE X a (tO Φ fr X.K Γ oa)) (hb : PE X b (tE Φ fr X.K Γ .fro eb)) (hs : notSlice b = true) : PE X (.Subscript a b pos) (tE Φ fr X.K Γ .fro (.ix oa eb)) := by
  refine PE_mono (pe_ix ix_both ha hb (plainIx_ns hs)) fun σ H Q h => ?_
  obtain ⟨ρ, ts, r, sr, he, q⟩ := h
  obtain ⟨ra, e1, he⟩ := bind_inv he
  obtain ⟨rb, e2, he⟩ := bind_inv he
  obtain ⟨x, e3, he⟩ := bind_inv he
  obtain ⟨d, e4, rfl⟩ := map_inv he
  refine ⟨ρ, ts, ra, sr, e1, fun v H1 ts' s1 hd => ⟨ra.2, _, rb, s1, e2, fun u H2 s2 => ?_⟩⟩
  obtain ⟨G, F1, F2, y⟩ := id s2
  have ri := y.last1 rfl
  refine ixD_sn y.sub (y.sn hd e3) ri e4 fun z rz => q z H2 ?_
  obtain ⟨m, rfl⟩ := hd.pre
  rw [List.append_assoc] at y
  obtain ⟨F3, y2⟩ := y.drop
  exact ⟨_, _, _, y2.push rz⟩
/-! ### built-ins of one thing -/
theorem fin_list {G H : Hp} {F1 F2 : List Addr} {ρ : Rho} {σ : Sg} {ts ts' us : List Tm} {o : O} {v : V} {d : D} {vs : List V} {ds : List D} (y : SRd fr X.K G F1 F2 Γ ρ σ ts' H) (hd : Hold Γ σ o v d ts ts') (r : RpAll X.K G vs ds) (m : Made .fro w) {p : Addr} (hp : H p = none) :
    SR fr X.K Γ ρ σ (ts ++ [⟨w, .list ds, .ref p⟩]) (upd H p (.lst vs)) := by
  obtain ⟨k, rfl⟩ := hd.pre
  obtain ⟨F3, y2⟩ := y.drop
  exact y2.newList r m hp
def b1S : B1 → String
  | .len => "len"
  | .sum => "sum"
  | .mn => "min"
  | .mx => "max"
  | .srt => "sorted"
  | .all => "all"
  | .any => "any"
  | .abs => "abs"
  | .tup => "tuple"
  | .lst => "list"
  | .int => "int"
/-- is it a built-in class -/
def b1T : B1 → Bool
  | .tup => true
  | .lst => true
  | .int => true
  | _ => false
def b1V (f : B1) : Value := if b1T f then .type (b1S f) else .builtin (b1S f)
/-- what its reading asks: one thing v that reads as x, and b1D f x -/
def rB1 (K : PySem.W.Frag) (f : B1) : List V → Hp → VK → Prop := fun vs H Q => ∃ v x d G, vs = [v] ∧ Same G H ∧ Sn K G H x v ∧ b1D f x = some d ∧
  match d with
  | .list ds => ∀ p zs, H p = none → RpAll K G zs ds → Q (.ref p) (upd H p (.lst zs))
  | .tuple ds => (∀ z, Rp K G z d → Q z H) ∧ ∀ p zs, H p = none → RpAll K G zs ds → Q (.ref p) (upd H p (.tup zs))
  | _ => ∀ z, Rp K G z d → Q z H
theorem cr_b1 (hc : X.calm = true) : ∀ f : B1, CallR X (b1V f) (rB1 X.K f)
  | .len => by
    intro pins s σ H vs us Q I r h
    obtain ⟨v, x, d, G, rfl, sG, sn, e, q⟩ := h
    have go : ∀ l, seqD x = some l → d = .int l.length → wpAny (model X.prog X.w) X.A (call (b1V .len) us) (EP X pins σ Q) X.xe s := fun l e2 e3 => by
      subst e3
      obtain ⟨a, ws, rfl, h1, h2⟩ := sn.seq sG e2
      exact call_len_seq pins s σ H _ us Q I r ⟨a, ws, rfl, h1, by rw [h2.len]; exact q _ (.int _)⟩
    cases x <;> first
      | (cases e; done)
      | (cases e; exact go _ rfl rfl)
  | .tup => by
    intro pins s σ H vs us Q I r h
    obtain ⟨v, x, d, G, rfl, sG, sn, e, q⟩ := h
    cases x with
    | list l =>
      cases e
      obtain ⟨a, ws, rfl, h1, h2⟩ := sn.list sG
      exact call_tuple_of pins s σ H _ us Q I r ⟨a, ws, rfl, .inl ⟨.inl h1, fun p hp => q.2 p ws hp h2⟩⟩
    | tuple l =>
      cases e
      obtain ⟨a, ws, rfl, h1, h2⟩ := sn.tuple sG
      refine call_tuple_of pins s σ H _ us Q I r ⟨a, ws, rfl, .inr ⟨h1, q.1 _ ?_⟩⟩
      rcases sn with sn | ⟨_, _, _, e, _⟩
      · exact sn
      · cases e
    | _ => cases e
  | .lst => by
    intro pins s σ H vs us Q I r h
    obtain ⟨v, x, d, G, rfl, sG, sn, e, q⟩ := h
    cases x with
    | list l =>
      cases e
      obtain ⟨a, ws, rfl, h1, h2⟩ := sn.list sG
      exact call_list_of pins s σ H _ us Q I r ⟨a, ws, rfl, .inl (.inl h1), fun p hp => q p ws hp h2⟩
    | tuple l =>
      cases e
      obtain ⟨a, ws, rfl, h1, h2⟩ := sn.tuple sG
      exact call_list_of pins s σ H _ us Q I r ⟨a, ws, rfl, .inr h1, fun p hp => q p ws hp h2⟩
    | _ => cases e
  | .sum => by
    intro pins s σ H vs us Q I r h
    obtain ⟨v, x, d, G, rfl, sG, sn, e, q⟩ := h
    cases x with
    | list l =>
      obtain ⟨ns, e1, rfl⟩ := map_inv e
      obtain ⟨a, ws, rfl, h1, h2⟩ := sn.list sG
      rw [intsD_inv e1] at h2
      rw [h2.ints] at h1
      exact cr_sum hc pins s σ H _ us Q I r ⟨a, ns, rfl, .inl h1, q _ (.int _)⟩
    | _ => cases e
  | .mn => by
    intro pins s σ H vs us Q I r h
    obtain ⟨v, x, d, G, rfl, sG, sn, e, q⟩ := h
    cases x with
    | list l =>
      obtain ⟨ns, e1, e⟩ := bind_inv e
      obtain ⟨m, e2, rfl⟩ := map_inv e
      obtain ⟨a, ws, rfl, h1, h2⟩ := sn.list sG
      rw [intsD_inv e1] at h2
      rw [h2.ints] at h1
      refine cr_min hc pins s σ H _ us Q I r ⟨a, ns, rfl, .inl h1, ?_, fun k hk hm => ?_⟩
      · cases ns with
        | nil => cases e2
        | cons _ _ => simp
      · rw [minL_is e2 hk hm]
        exact q _ (.int _)
    | _ => cases e
  | .mx => by
    intro pins s σ H vs us Q I r h
    obtain ⟨v, x, d, G, rfl, sG, sn, e, q⟩ := h
    cases x with
    | list l =>
      obtain ⟨ns, e1, e⟩ := bind_inv e
      obtain ⟨m, e2, rfl⟩ := map_inv e
      obtain ⟨a, ws, rfl, h1, h2⟩ := sn.list sG
      rw [intsD_inv e1] at h2
      rw [h2.ints] at h1
      refine cr_max hc pins s σ H _ us Q I r ⟨a, ns, rfl, .inl h1, ?_, fun k hk hm => ?_⟩
      · cases ns with
        | nil => cases e2
        | cons _ _ => simp
      · rw [maxL_is e2 hk hm]
        exact q _ (.int _)
    | _ => cases e
  | .srt => by
    intro pins s σ H vs us Q I r h
    obtain ⟨v, x, d, G, rfl, sG, sn, e, q⟩ := h
    cases x with
    | list l =>
      obtain ⟨ns, e1, e⟩ := bind_inv e
      split at e
      · rename_i c
        cases e
        obtain ⟨a, ws, rfl, h1, h2⟩ := sn.list sG
        rw [intsD_inv e1] at h2
        rw [h2.ints] at h1
        refine cr_sorted pins s σ H _ us Q I r ⟨a, ns, rfl, .inl h1, c, fun ns' p pm srt hp => ?_⟩
        rw [sorted_one (pm.trans (sortI_perm ns).symm) srt (sortI_sorted ns)]
        exact q p _ hp (RpAll.of_ints _)
      · cases e
    | _ => cases e
  | .all => by
    intro pins s σ H vs us Q I r h
    obtain ⟨v, x, d, G, rfl, sG, sn, e, q⟩ := h
    cases x with
    | list l =>
      obtain ⟨ns, e1, rfl⟩ := map_inv e
      obtain ⟨a, ws, rfl, h1, h2⟩ := sn.list sG
      rw [boolsD_inv e1] at h2
      rw [h2.bls] at h1
      exact cr_all hc pins s σ H _ us Q I r ⟨a, ns, rfl, .inl h1, q _ (.bl _)⟩
    | _ => cases e
  | .any => by
    intro pins s σ H vs us Q I r h
    obtain ⟨v, x, d, G, rfl, sG, sn, e, q⟩ := h
    cases x with
    | list l =>
      obtain ⟨ns, e1, rfl⟩ := map_inv e
      obtain ⟨a, ws, rfl, h1, h2⟩ := sn.list sG
      rw [boolsD_inv e1] at h2
      rw [h2.bls] at h1
      exact cr_any hc pins s σ H _ us Q I r ⟨a, ns, rfl, .inl h1, q _ (.bl _)⟩
    | _ => cases e
  | .abs => by
    intro pins s σ H vs us Q I r h
    obtain ⟨v, x, d, G, rfl, sG, sn, e, q⟩ := h
    cases x with
    | int i =>
      cases e
      rcases sn with sn | ⟨_, _, _, e, _⟩
      · cases sn
        exact call_abs pins s σ H _ us Q I r ⟨i, rfl, q _ (.int _)⟩
      · cases e
    | _ => cases e
  | .int => by
    intro pins s σ H vs us Q I r h
    obtain ⟨v, x, d, G, rfl, sG, sn, e, q⟩ := h
    cases x with
    | int i =>
      cases e
      rcases sn with sn | ⟨_, _, _, e, _⟩
      · cases sn
        exact call_int1 pins s σ H _ us Q I r (.inl ⟨i, rfl, q _ (.int _)⟩)
      · cases e
    | bool i =>
      cases e
      rcases sn with sn | ⟨_, _, _, e, _⟩
      · cases sn
        exact call_int1 pins s σ H _ us Q I r (.inr ⟨i, rfl, q _ (.int _)⟩)
      · cases e
    | _ => cases e
end
end Vw
namespace Vw
open PySem PySem.Spec PyProof.Rows L2
section
variable {fr : Fr} {K : PySem.W.Frag} {G H : Hp} {F1 F2 : List Addr} {Γ : List Ty} {ρ : Rho} {σ : Sg} {ts us : List Tm}
/-- what is written at an owned address leaves the rest -/
theorem SRd.write {x1 x2 : Tm} {a : Addr} {o : HO} (x : SRd fr K G F1 F2 Γ ρ σ (ts ++ [x1]) H) (ha : ∀ F, Own K G H x1.t x1.d x1.v F → F.Nodup → a ∈ F ∧ Own K G (upd H a o) x2.t x2.d x2.v F) :
    SRd fr K G F1 F2 Γ ρ σ (ts ++ [x2]) (upd H a o) := by
  obtain ⟨F3, F4, e, p, q⟩ := x.tm.app
  have nd := x.nd
  rw [e, ← List.append_assoc] at nd
  obtain ⟨nd1, nd2, dj⟩ := List.nodup_append.mp nd
  obtain ⟨a4, ow⟩ := ha F4 q.one nd2
  have ain : a ∈ F1 ++ F2 := by
    rw [e]
    exact List.mem_append_right _ (List.mem_append_right _ a4)
  have out : ∀ b ∈ F1 ++ F3, upd H a o b = H b := fun b hb => upd_ne (dj b hb a a4)
  refine ⟨fun b u eb => ?_, x.sl.stay (Same.refl G) (fun b hb => out b (List.mem_append_left _ hb)), ?_, x.nd, x.out, ?_⟩
  · rw [upd_ne (ne_of_none eb (x.out a ain).1)]
    exact x.sub _ _ eb
  · rw [e]
    exact (p.stay (Same.refl G) (fun b hb => out b (List.mem_append_right _ hb))).of_app (TmF.of_one ow)
  · refine ⟨fun b u eb hF => ?_, fun b eb => ?_, x.ok.sG, x.ok.nG, x.ok.pin⟩
    · have hb : b ≠ a := fun z => by
        subst z
        rcases (x.out b ain).2 with h | h
        · exact hF h
        · rw [h] at eb
          cases eb
      rw [upd_ne hb]
      exact x.ok.keep b u eb hF
    · by_cases hb : b = a
      · subst hb
        rw [upd_same] at eb
        cases eb
      · rw [upd_ne hb] at eb
        exact x.ok.mono b eb
/-- a slot's own list: it may be changed in its place -/
theorem SRd.slotMut (x : SRd fr K G F1 F2 Γ ρ σ ts H) {i : Nat} {l : List D} (h : get ρ i = some (.list l)) (hw : Γ[i]? = some (.lst .fro)) :
    ∃ a vs, σ[i]? = some (some (.ref a)) ∧ H a = some (.lst vs) ∧ RpAll K G vs l ∧ ∀ vs' l', RpAll K G vs' l' → SR fr K Γ (put ρ i (.list l')) σ ts (upd H a (.lst vs')) := by
  obtain ⟨t, v, F3, F4, e1, e2, y⟩ := x.takeOut h
  rw [hw] at e1
  cases e1
  obtain ⟨F5, F6, e, p, q⟩ := y.tm.app
  rcases q.one with ⟨s, _, _⟩ | ⟨ds, a, vs, F', q1, q2, q3, q4, q5⟩
  · cases s
  · cases q1
    have q2 : v = .ref a := q2
    subst q2
    refine ⟨a, vs, e2, q4, q5.fro.2, fun vs' l' r => ?_⟩
    have z := y.write (a := a) (o := .lst vs') (x2 := ⟨.lst .fro, .list l', .ref a⟩) fun F ow nd => by
      rcases ow with ⟨s, _, _⟩ | ⟨ds2, a2, vs2, F2', p1, p2, p3, p4, p5⟩
      · cases s
      · cases p2
        obtain ⟨e0, _⟩ := p5.fro
        subst e0
        subst p3
        exact ⟨List.mem_cons_self, .inr ⟨_, a, vs', [], rfl, rfl, rfl, upd_same, AllF.of_fro r⟩⟩
    have hl : i < ρ.length := (List.getElem?_eq_some_iff.mp (get_some h)).1
    obtain ⟨F7, F8, z2⟩ := z.putBack (by rw [List.getElem?_set_self hl]) hw e2
    have e3 : put (ρ.set i none) i (.list l') = put ρ i (.list l') := by
      unfold put
      rw [List.set_set]
    rw [e3] at z2
    exact ⟨_, _, _, z2⟩
theorem AllF.at {P : D → V → List Addr → Prop} : ∀ {ds : List D} {vs : List V} {F : List Addr} {k : Nat} {d : D}, AllF P ds vs F → ds[k]? = some d →
    ∃ v Fk, vs[k]? = some v ∧ P d v Fk ∧ (∀ a ∈ Fk, a ∈ F) ∧ (F.Nodup → ∀ P' d', (∀ e u F', (∀ a ∈ F', a ∉ Fk) → P e u F' → P' e u F') → P' d' v Fk → AllF P' (ds.set k d') vs F)
  | d :: ds, v :: vs, F, 0, d', ⟨F1, F2, e, p, q⟩, ed => by
    have ed : d = d' := by simpa using ed
    subst ed
    refine ⟨v, F1, rfl, p, fun a ha => by rw [e]; exact List.mem_append_left _ ha, fun nd P' d2 hP p2 => ⟨F1, F2, e, p2, ?_⟩⟩
    rw [e] at nd
    refine q.mono fun e u F' hF h => hP e u F' (fun a ha hb => (List.nodup_append.mp nd).2.2 a hb a (hF a ha) rfl) h
  | d :: ds, v :: vs, F, k + 1, d', ⟨F1, F2, e, p, q⟩, ed => by
    obtain ⟨v2, Fk, e1, p1, i1, r⟩ := AllF.at (k := k) (d := d') q (by simpa using ed)
    refine ⟨v2, Fk, by simpa using e1, p1, fun a ha => by rw [e]; exact List.mem_append_right _ (i1 a ha), fun nd P' d2 hP p2 => ?_⟩
    rw [e] at nd
    refine ⟨F1, F2, e, hP _ _ _ (fun a ha hb => (List.nodup_append.mp nd).2.2 a ha a (i1 a hb) rfl) p, r (List.nodup_append.mp nd).2.1 P' d2 hP p2⟩
  | [], _, _, _, _, h, ed => by simp at ed
  | _ :: _, [], _, _, _, h, _ => h.elim
/-- a slot's own list of own lists: an inner one may be changed in its place -/
theorem SRd.slotMut2 (x : SRd fr K G F1 F2 Γ ρ σ ts H) {i k : Nat} {m l : List D} (h : get ρ i = some (.list m)) (hk : m[k]? = some (.list l)) (hw : Γ[i]? = some (.lst (.lst .fro))) :
    ∃ a b vs ws, σ[i]? = some (some (.ref a)) ∧ H a = some (.lst vs) ∧ vs.length = m.length ∧ vs[k]? = some (.ref b) ∧ H b = some (.lst ws) ∧ RpAll K G ws l ∧
      ∀ ws' l', RpAll K G ws' l' → SR fr K Γ (put ρ i (.list (m.set k (.list l')))) σ ts (upd H b (.lst ws')) := by
  obtain ⟨t, v, F3, F4, e1, e2, y⟩ := x.takeOut h
  rw [hw] at e1
  cases e1
  obtain ⟨F5, F6, e, p, q⟩ := y.tm.app
  rcases q.one with ⟨s, _, _⟩ | ⟨ds, a, vs, F', q1, q2, q3, q4, q5⟩
  · cases s
  · cases q1
    have q2 : v = .ref a := q2
    subst q2
    obtain ⟨u, Fk, e3, o1, i1, _⟩ := q5.at hk
    rcases o1 with ⟨s, _, _⟩ | ⟨ds1, b, ws, Fb, r1, r2, r3, r4, r5⟩
    · cases s
    · cases r1
      subst r2
      refine ⟨a, b, vs, ws, e2, q4, q5.len, e3, r4, r5.fro.2, fun ws' l' r => ?_⟩
      have z := y.write (a := b) (o := .lst ws') (x2 := ⟨.lst (.lst .fro), .list (m.set k (.list l')), .ref a⟩) fun F ow nd => by
        rcases ow with ⟨s, _, _⟩ | ⟨ds2, a2, vs2, F2', p1, p2, p3, p4, p5⟩
        · cases s
        · cases p1
          cases p2
          have ev : vs2 = vs := by
            rw [q4] at p4
            cases p4
            rfl
          subst ev
          obtain ⟨u', Fk', e3', o1', i1', st⟩ := p5.at hk
          rw [e3] at e3'
          cases e3'
          rcases o1' with ⟨s, _, _⟩ | ⟨ds1', b', ws1, Fb', r1', r2', r3', r4', r5'⟩
          · cases s
          · cases r1'
            cases r2'
            obtain ⟨e0, _⟩ := r5'.fro
            subst e0
            subst p3
            obtain ⟨na, nd2⟩ := List.nodup_cons.mp nd
            have bF : b ∈ F2' := i1' b (by rw [r3']; exact List.mem_cons_self)
            have ab : a ≠ b := fun z => na (z ▸ bF)
            refine ⟨List.mem_cons_of_mem _ bF, .inr ⟨_, a, vs2, F2', rfl, rfl, rfl, by rw [upd_ne ab]; exact p4, ?_⟩⟩
            refine st nd2 _ _ (fun e u F' hF ho => ho.stay (Same.refl G) fun c hc => upd_ne fun z => hF c hc ?_) ?_
            · rw [r3', z]
              exact List.mem_cons_self
            · exact .inr ⟨_, b, ws', [], rfl, rfl, r3', upd_same, AllF.of_fro r⟩
      have hl : i < ρ.length := (List.getElem?_eq_some_iff.mp (get_some h)).1
      obtain ⟨F7, F8, z2⟩ := z.putBack (by rw [List.getElem?_set_self hl]) hw e2
      have e4 : put (ρ.set i none) i (.list (m.set k (.list l'))) = put ρ i (.list (m.set k (.list l'))) := by
        unfold put
        rw [List.set_set]
      rw [e4] at z2
      exact ⟨_, _, _, z2⟩
end
section
variable {X : Cx} {Φ : Cf} {fr : Fr} {Γ : List Ty} {w : Ty} {pos : Pos}
/-! ### calls of built-ins -/
theorem b1_boot : ∀ f : B1, bootBuiltins (PySem.Str.ofString (b1S f)) = some (b1V f)
  | .len => by decide +kernel
  | .tup => by decide +kernel
  | .lst => by decide +kernel
  | .sum => by decide +kernel
  | .mn => by decide +kernel
  | .mx => by decide +kernel
  | .srt => by decide +kernel
  | .all => by decide +kernel
  | .any => by decide +kernel
  | .abs => by decide +kernel
  | .int => by decide +kernel
theorem star_any1 {e : Expr} {env : Env} {p : Pos} : (backTo p (starEach [] env)).any (·.1) = false := rfl
theorem pe_b1 (hc : X.calm = true) (f : B1) {a : Expr} {ta : TE} {p : Pos} (ha : PE X a ta) (hs : noStar a = true) (hg : Gl X (PySem.Str.ofString (b1S f))) (hm : X.mg (PySem.Str.ofString (b1S f)) = none) :
    PE X (.Call (.Name (PySem.Str.ofString (b1S f)) p) [a] [] pos) (tCB (rB1 X.K f) (tCons ta tNil)) := by
  have hA := pa_cons ha pa_nil (star_cons (env := X.env) hs)
  cases f with
  | len => exact pe_callB (id := "len") (cr_b1 hc .len) hg hm (b1_boot .len) hA (by decide) (by decide) (star_cons hs) rfl
  | tup => exact pe_callTy (T := "tuple") (cr_b1 hc .tup) hg hm (b1_boot .tup) hA (by decide) (by decide) (star_cons hs) rfl
  | lst => exact pe_callTy (T := "list") (cr_b1 hc .lst) hg hm (b1_boot .lst) hA (by decide) (by decide) (star_cons hs) rfl
  | sum => exact pe_callB (id := "sum") (cr_b1 hc .sum) hg hm (b1_boot .sum) hA (by decide) (by decide) (star_cons hs) rfl
  | mn => exact pe_callB (id := "min") (cr_b1 hc .mn) hg hm (b1_boot .mn) hA (by decide) (by decide) (star_cons hs) rfl
  | mx => exact pe_callB (id := "max") (cr_b1 hc .mx) hg hm (b1_boot .mx) hA (by decide) (by decide) (star_cons hs) rfl
  | srt => exact pe_callB (id := "sorted") (cr_b1 hc .srt) hg hm (b1_boot .srt) hA (by decide) (by decide) (star_cons hs) rfl
  | all => exact pe_callB (id := "all") (cr_b1 hc .all) hg hm (b1_boot .all) hA (by decide) (by decide) (star_cons hs) rfl
  | any => exact pe_callB (id := "any") (cr_b1 hc .any) hg hm (b1_boot .any) hA (by decide) (by decide) (star_cons hs) rfl
  | abs => exact pe_callB (id := "abs") (cr_b1 hc .abs) hg hm (b1_boot .abs) hA (by decide) (by decide) (star_cons hs) rfl
  | int => exact pe_callTy (T := "int") (cr_b1 hc .int) hg hm (b1_boot .int) hA (by decide) (by decide) (star_cons hs) rfl
/-- whom its result may belong to -/
def okB1 (f : B1) (w : Ty) : Bool := match f with
  | .tup => decide (w = .fro)
  | .lst => decide (w = .fro ∨ w = .lst .fro)
  | .srt => decide (w = .fro ∨ w = .lst .fro)
  | _ => true
theorem made_of {w : Ty} (h : w = .fro ∨ w = .lst .fro) : Made .fro w := by
  rcases h with h | h
  · exact .inr ⟨h, rfl⟩
  · exact .inl h
theorem b1D_ok {f : B1} {w : Ty} (h : okB1 f w = true) {x d : D} (e : b1D f x = some d) : match d with
    | .list _ => Made .fro w
    | .tuple _ => w = .fro
    | _ => scalar d = true := by
  cases f <;> cases x <;> first
    | (cases e; done)
    | (cases e; exact of_decide_eq_true h)
    | (cases e; exact made_of (of_decide_eq_true h))
    | (cases e; rfl)
    | (obtain ⟨ns, _, rfl⟩ := map_inv e; rfl)
    | (obtain ⟨ns, _, e2⟩ := bind_inv e; obtain ⟨m, _, rfl⟩ := map_inv e2; rfl)
    | (obtain ⟨ns, _, e2⟩ := bind_inv e
       split at e2
       · cases e2
         exact made_of (of_decide_eq_true h)
       · cases e2)
theorem e_b1 (hc : X.calm = true) (f : B1) {a : Expr} {oa : O} {p : Pos} (ha : PE X a (tO Φ fr X.K Γ oa)) (hs : noStar a = true) (hg : Gl X (PySem.Str.ofString (b1S f))) (hm : X.mg (PySem.Str.ofString (b1S f)) = none) (hw : okB1 f w = true) :
    PE X (.Call (.Name (PySem.Str.ofString (b1S f)) p) [a] [] pos) (tE Φ fr X.K Γ w (.b1 f oa)) := by
  refine PE_mono (pe_b1 hc f ha hs hg hm) fun σ H Q h => ?_
  obtain ⟨ρ, ts, r, sr, he, q⟩ := h
  obtain ⟨ra, e1, he⟩ := bind_inv he
  obtain ⟨d, e2, rfl⟩ := map_inv he
  refine ⟨ρ, ts, ra, sr, e1, fun v H1 ts' s1 hd => ?_⟩
  obtain ⟨G, F1, F2, y⟩ := id s1
  have y' : SRd fr X.K G F1 F2 Γ ra.2 σ (ts' ++ []) H1 := by rw [List.append_nil]; exact y
  have lt : lateD Φ oa ra.1 ra.2 = some ra.1 := by
    cases oa with
    | e a => rfl
    | s i =>
      obtain ⟨d', e3, rfl⟩ := map_inv (show (get ρ i).map (fun d => (d, ρ)) = some ra from e1)
      exact e3
  have sn := y'.sn hd lt
  have k := b1D_ok hw e2
  obtain ⟨k2, rfl⟩ := hd.pre
  obtain ⟨F3, y2⟩ := y.drop
  refine ⟨v, ra.1, d, G, rfl, y.sub, sn, e2, ?_⟩
  cases d with
  | list ds => exact fun p zs hp rs => q _ _ (y2.newList rs k hp)
  | tuple ds =>
    have k : w = .fro := k
    subst k
    exact ⟨fun z rz => q _ _ ⟨_, _, _, y2.push rz⟩, fun p zs hp rs => q _ _ (y2.newTup rs hp)⟩
  | none => exact fun z rz => q _ _ ⟨_, _, _, y2.pushS rfl rz⟩
  | bool _ => exact fun z rz => q _ _ ⟨_, _, _, y2.pushS rfl rz⟩
  | int _ => exact fun z rz => q _ _ ⟨_, _, _, y2.pushS rfl rz⟩
  | str _ => exact fun z rz => q _ _ ⟨_, _, _, y2.pushS rfl rz⟩
  | dict _ => cases k
def b2S : B2 → String
  | .mn => "min"
  | .mx => "max"
def rB2 (f : B2) : List V → Hp → VK → Prop := fun vs H Q => ∃ i j k, vs = [.int i, .int j] ∧ b2D f (.int i) (.int j) = some (.int k) ∧ Q (.int k) H
theorem cr_b2 (hc : X.calm = true) : ∀ f : B2, CallR X (.builtin (b2S f)) (rB2 f)
  | .mn => by
    intro pins s σ H vs us Q I r h
    obtain ⟨i, j, k, rfl, e, q⟩ := h
    cases e
    exact call_min2 hc pins s σ H _ us Q I r ⟨i, j, rfl, q⟩
  | .mx => by
    intro pins s σ H vs us Q I r h
    obtain ⟨i, j, k, rfl, e, q⟩ := h
    cases e
    exact call_max2 hc pins s σ H _ us Q I r ⟨i, j, rfl, q⟩
theorem b2_boot : ∀ f : B2, bootBuiltins (PySem.Str.ofString (b2S f)) = some (.builtin (b2S f))
  | .mn => by decide +kernel
  | .mx => by decide +kernel
theorem b2D_inv {f : B2} {x y z : D} (h : b2D f x y = some z) : ∃ i j k, x = .int i ∧ y = .int j ∧ z = .int k := by
  cases f <;> cases x <;> cases y <;> first
    | (cases h; done)
    | (cases h; exact ⟨_, _, _, rfl, rfl, rfl⟩)
theorem plain_cons {e : Expr} {es : List Expr} {env : Env} {p : Pos} (h : noStar e = true) (h2 : (backTo p (starEach es env)).any (·.1) = false) : (backTo p (starEach (e :: es) env)).any (·.1) = false := by
  rw [star_cons h]
  show (false || (backTo p (starEach es env)).any (·.1)) = false
  rw [h2]
  rfl
theorem e_b2 (hc : X.calm = true) (f : B2) {a b : Expr} {ea eb : E} {p : Pos} (ha : PE X a (tE Φ fr X.K Γ .fro ea)) (hb : PE X b (tE Φ fr X.K Γ .fro eb)) (hs : noStar a = true) (hs2 : noStar b = true) (hg : Gl X (PySem.Str.ofString (b2S f))) (hm : X.mg (PySem.Str.ofString (b2S f)) = none) :
    PE X (.Call (.Name (PySem.Str.ofString (b2S f)) p) [a, b] [] pos) (tE Φ fr X.K Γ w (.b2 f ea eb)) := by
  have hA : PA X [a, b] _ := pa_cons ha (pa_cons hb pa_nil (star_cons (env := X.env) hs2)) (star_cons (env := X.env) hs)
  have hn : PySem.Str.ofString (b2S f) ≠ "__name__" := by cases f <;> decide
  have hd : (PySem.Str.ofString (b2S f) == ("__debug__" : Str)) = false := by cases f <;> decide
  refine PE_mono (pe_callB (cr_b2 hc f) hg hm (b2_boot f) hA hn hd (star_cons hs) (plain_cons hs2 rfl)) fun σ H Q h => ?_
  obtain ⟨ρ, ts, r, sr, he, q⟩ := h
  obtain ⟨ra, e1, he⟩ := bind_inv he
  obtain ⟨rb, e2, he⟩ := bind_inv he
  obtain ⟨d, e3, rfl⟩ := map_inv he
  refine ⟨ρ, ts, ra, sr, e1, fun v H1 s1 => ⟨ra.2, _, rb, s1, e2, fun u H2 s2 => ?_⟩⟩
  obtain ⟨G, F1, F2, y⟩ := id s2
  have rp := y.last2 rfl rfl
  obtain ⟨i, j, k, q1, q2, q3⟩ := b2D_inv e3
  obtain ⟨d1, ρ1⟩ := ra
  obtain ⟨d2, ρ2⟩ := rb
  have q1 : d1 = .int i := q1
  have q2 : d2 = .int j := q2
  subst q1 q2 q3
  obtain ⟨r1, r2⟩ := rp
  cases r1
  cases r2
  exact ⟨i, j, k, rfl, e3, q _ _ (s2.drop.drop.res rfl fun G => .int _)⟩
/-! ### in -/
theorem rp_flat {K : PySem.W.Frag} {G : Hp} {x : D} {v : V} (h : Rp K G v x) (f : flatD x = true) : flatV v = true := by
  cases h <;> first | rfl | cases f
theorem rp_eqV {K : PySem.W.Frag} {G : Hp} {x y : D} {v u : V} (h : Rp K G v x) (h2 : Rp K G u y) (f : flatD x = true) (f2 : flatD y = true) : eqV v u = PyData.eqv x y := by
  cases h <;> cases h2 <;> first
    | rfl
    | (cases f; done)
    | (cases f2; done)
    | (simp [eqV, PyData.eqv])
theorem rp_flats {K : PySem.W.Frag} {G : Hp} : ∀ {vs : List V} {l : List D}, RpAll K G vs l → l.all flatD = true → vs.all flatV = true
  | _, _, .nil, _ => rfl
  | _, _, .cons h t, f => by
    simp only [List.all_cons, Bool.and_eq_true] at f ⊢
    exact ⟨rp_flat h f.1, rp_flats t f.2⟩
theorem rp_any {K : PySem.W.Frag} {G : Hp} {x : D} {v : V} (h : Rp K G v x) (f : flatD x = true) : ∀ {vs : List V} {l : List D}, RpAll K G vs l → l.all flatD = true → inV v vs = l.any fun e => PyData.eqv e x
  | _, _, .nil, _ => rfl
  | _, _, .cons h2 t, f2 => by
    simp only [List.all_cons, Bool.and_eq_true] at f2
    show (eqV _ v || inV v _) = (PyData.eqv _ x || _)
    rw [rp_eqV h2 h f2.1 f, rp_any h f t f2.2]
theorem op_inG (ng : Bool) : OpR X (compareOp (if ng then .NotIn else .In)) (rIn X.K ng) := by
  cases ng with
  | true => exact op_notIn_seq
  | false => exact op_in_seq
theorem m_inn {K : PySem.W.Frag} (ng : Bool) {ea : E} {ob : O} {σ : Sg} {H : Hp} {Q : VK} (h : tE Φ fr K Γ w (.inn ng ea ob) σ H Q) : tOp (rIn K ng) (tE Φ fr K Γ .fro ea) (tO Φ fr K Γ ob) σ H Q := by
  obtain ⟨ρ, ts, r, sr, he, q⟩ := h
  obtain ⟨ra, e1, he⟩ := bind_inv he
  obtain ⟨rb, e2, he⟩ := bind_inv he
  obtain ⟨d, e3, rfl⟩ := map_inv he
  refine ⟨ρ, ts, ra, sr, e1, fun v H1 s1 => ⟨ra.2, _, rb, s1, e2, fun u H2 ts' s2 hd => ?_⟩⟩
  obtain ⟨G, F1, F2, y⟩ := id s2
  have y' : SRd fr K G F1 F2 Γ rb.2 σ (ts' ++ []) H2 := by rw [List.append_nil]; exact y
  have lt : lateD Φ ob rb.1 rb.2 = some rb.1 := by
    cases ob with
    | e a => rfl
    | s i =>
      obtain ⟨d', e7, rfl⟩ := map_inv (show (get ra.2 i).map (fun d => (d, ra.2)) = some rb from e2)
      exact e7
  have sn := y'.sn hd lt
  obtain ⟨l, e4, f1, f2, rfl⟩ := innD_inv e3
  obtain ⟨a, vs, rfl, h1, h2⟩ := sn.seq y.sub e4
  obtain ⟨k2, rfl⟩ := hd.pre
  obtain ⟨F3, y2⟩ := y.drop
  have rp := y2.last1 rfl
  refine ⟨a, vs, rfl, h1, rp_flat rp f1, rp_flats h2 f2, ?_⟩
  have e5 : (if ng then !inV v vs else inV v vs) = (l.any (fun e => PyData.eqv e ra.1) != ng) := by
    rw [rp_any rp f1 h2 f2]
    cases ng <;> simp
  rw [e5]
  obtain ⟨F5, y3⟩ := y2.drop
  exact q _ _ ⟨_, _, _, y3.pushS rfl (rp_bl _ G)⟩
end
end Vw
namespace Vw
open PySem PySem.Spec PyProof.Rows L2
section
variable {X : Cx} {Φ : Cf} {fr : Fr} {Γ : List Ty} {w : Ty} {pos : Pos}
/-! ### + and * of lists and tuples -/
theorem e_lcat {a b : Expr} {oa ob : O} (m : Made .fro w) (ha : PE X a (tO Φ fr X.K Γ oa)) (hb : PE X b (tO Φ fr X.K Γ ob)) : PE X (.BinOp a .Add b pos) (tE Φ fr X.K Γ w (.lcat oa ob)) := by
  refine PE_mono (pe_op op_catS ha hb) fun σ H Q h => ?_
  obtain ⟨ρ, ts, r, sr, he, q⟩ := h
  obtain ⟨ra, e1, he⟩ := bind_inv he
  obtain ⟨rb, e2, he⟩ := bind_inv he
  obtain ⟨x, e3, he⟩ := bind_inv he
  obtain ⟨d, e4, rfl⟩ := map_inv he
  refine ⟨ρ, ts, ra, sr, e1, fun v H1 ts' s1 hd => ⟨ra.2, _, rb, s1, e2, fun u H2 ts'' s2 hd2 => ?_⟩⟩
  obtain ⟨G, F1, F2, y⟩ := id s2
  have y' : SRd fr X.K G F1 F2 Γ rb.2 σ (ts'' ++ []) H2 := by rw [List.append_nil]; exact y
  have lt : lateD Φ ob rb.1 rb.2 = some rb.1 := by
    cases ob with
    | e a => rfl
    | s i =>
      obtain ⟨d', e7, rfl⟩ := map_inv (show (get ra.2 i).map (fun d => (d, ra.2)) = some rb from e2)
      exact e7
  have sn2 := y'.sn hd2 lt
  obtain ⟨k2, rfl⟩ := hd2.pre
  have sn1 := y.sn hd e3
  obtain ⟨d2, ρ2⟩ := rb
  cases x with
  | list l =>
    cases d2 with
    | list l2 =>
      have e4 : (if lenOk (l.length + l2.length) = true then some (PyData.list (l ++ l2)) else none) = some d := e4
      split at e4
      · rename_i c
        cases e4
        obtain ⟨a, vs, rfl, h1, h2⟩ := sn1.list y.sub
        obtain ⟨b, ws, rfl, g1, g2⟩ := sn2.list y.sub
        refine ⟨a, b, vs, ws, rfl, rfl, h1, g1, by rw [h2.len, g2.len]; exact lenOk_of c, fun p hp => q _ _ ?_⟩
        obtain ⟨k1, rfl⟩ := hd.pre
        rw [List.append_assoc] at y
        obtain ⟨F3, y2⟩ := y.drop
        exact y2.newList (h2.app g2) m hp
      · cases e4
    | _ => cases e4
  | _ => cases e4
theorem e_lrep {a b : Expr} {oa : O} {eb : E} (m : Made .fro w) (ha : PE X a (tO Φ fr X.K Γ oa)) (hb : PE X b (tE Φ fr X.K Γ .fro eb)) : PE X (.BinOp a .Mult b pos) (tE Φ fr X.K Γ w (.lrep oa eb)) := by
  refine PE_mono (pe_op op_repS ha hb) fun σ H Q h => ?_
  obtain ⟨ρ, ts, r, sr, he, q⟩ := h
  obtain ⟨ra, e1, he⟩ := bind_inv he
  obtain ⟨rb, e2, he⟩ := bind_inv he
  obtain ⟨x, e3, he⟩ := bind_inv he
  obtain ⟨d, e4, rfl⟩ := map_inv he
  refine ⟨ρ, ts, ra, sr, e1, fun v H1 ts' s1 hd => ⟨ra.2, _, rb, s1, e2, fun u H2 s2 => ?_⟩⟩
  obtain ⟨G, F1, F2, y⟩ := id s2
  have ri := y.last1 rfl
  have sn1 := y.sn hd e3
  obtain ⟨d2, ρ2⟩ := rb
  cases x with
  | list l =>
    cases d2 with
    | int k =>
      cases ri
      have e4 : (if -(2 ^ 63) ≤ k ∧ k < 2 ^ 63 ∧ lenOk (l.length * k.toNat) = true then some (PyData.list (repN k.toNat l)) else none) = some d := e4
      split at e4
      · rename_i c
        cases e4
        obtain ⟨a, vs, rfl, h1, h2⟩ := sn1.list y.sub
        refine ⟨a, k, vs, rfl, rfl, h1, c.1, c.2.1, by rw [h2.len]; exact lenOk_of c.2.2, fun p hp => q _ _ ?_⟩
        obtain ⟨k1, rfl⟩ := hd.pre
        rw [List.append_assoc] at y
        obtain ⟨F3, y2⟩ := y.drop
        exact y2.newList (h2.flat k.toNat) m hp
      · cases e4
    | _ => cases e4
  | _ => cases e4
theorem e_tcat {a b : Expr} {ea eb : E} (ha : PE X a (tE Φ fr X.K Γ .fro ea)) (hb : PE X b (tE Φ fr X.K Γ .fro eb)) : PE X (.BinOp a .Add b pos) (tE Φ fr X.K Γ .fro (.tcat ea eb)) := by
  refine PE_mono (pe_op op_catA ha hb) fun σ H Q h => ?_
  obtain ⟨ρ, ts, r, sr, he, q⟩ := h
  obtain ⟨ra, e1, he⟩ := bind_inv he
  obtain ⟨rb, e2, he⟩ := bind_inv he
  obtain ⟨d, e3, rfl⟩ := map_inv he
  refine ⟨ρ, ts, ra, sr, e1, fun v H1 s1 => ⟨ra.2, _, rb, s1, e2, fun u H2 s2 => ?_⟩⟩
  obtain ⟨G, F1, F2, y⟩ := id s2
  have rp := y.last2 rfl rfl
  clear he
  obtain ⟨d1, ρ1⟩ := ra
  obtain ⟨d2, ρ2⟩ := rb
  obtain ⟨r1, r2⟩ := rp
  cases d1 with
  | tuple l =>
    cases d2 with
    | tuple l2 =>
      have e3 : (if lenOk (l.length + l2.length) = true then some (PyData.tuple (l ++ l2)) else none) = some d := e3
      split at e3
      · rename_i c
        cases e3
        obtain ⟨a, vs, rfl, h1, h2⟩ := Sn.tuple y.sub (.inl r1)
        obtain ⟨b, ws, rfl, g1, g2⟩ := Sn.tuple y.sub (.inl r2)
        obtain ⟨F3, y2⟩ := y.drop
        obtain ⟨F4, y3⟩ := y2.drop
        refine ⟨a, b, vs, ws, rfl, rfl, h1, g1, by rw [h2.len, g2.len]; exact lenOk_of c, fun hx => ?_, fun hx hy => ?_, fun hx hy p hp => ?_⟩
        · subst hx
          cases h2
          exact q _ _ ⟨_, _, _, y3.push r2⟩
        · subst hy
          cases g2
          rw [List.append_nil] at q
          exact q _ _ ⟨_, _, _, y3.push r1⟩
        · exact q _ _ (y3.newTup (h2.app g2) hp)
      · cases e3
    | _ => cases e3
  | _ => cases e3
def rRepA (K : PySem.W.Frag) : R2 := fun x y H Q => rRep1 K x y H Q ∨ rRepT K x y H Q
theorem op_repA : OpR X (binaryOp .Mult) (rRepA X.K) := op_rep1.or op_repT
theorem trepD_inv {x y z : D} (h : trepD x y = some z) : ∃ l k, x = .tuple l ∧ y = .int k ∧ l ≠ [] ∧ l.length ≤ 1000 ∧ 1 ≤ k ∧ k ≤ 1000 ∧ z = .tuple (repN k.toNat l) := by
  unfold trepD at h
  split at h
  · rename_i l k
    split at h
    · rename_i c
      cases h
      refine ⟨l, k, rfl, rfl, fun e => ?_, c.2.1, c.2.2.1, c.2.2.2, rfl⟩
      rw [e] at c
      exact absurd c.1 (by decide)
    · cases h
  · cases h
theorem e_trep {a b : Expr} {ea eb : E} (ha : PE X a (tE Φ fr X.K Γ .fro ea)) (hb : PE X b (tE Φ fr X.K Γ .fro eb)) : PE X (.BinOp a .Mult b pos) (tE Φ fr X.K Γ .fro (.trep ea eb)) := by
  refine PE_mono (pe_op op_repA ha hb) fun σ H Q h => ?_
  obtain ⟨ρ, ts, r, sr, he, q⟩ := h
  obtain ⟨ra, e1, he⟩ := bind_inv he
  obtain ⟨rb, e2, he⟩ := bind_inv he
  obtain ⟨d, e3, rfl⟩ := map_inv he
  refine ⟨ρ, ts, ra, sr, e1, fun v H1 s1 => ⟨ra.2, _, rb, s1, e2, fun u H2 s2 => ?_⟩⟩
  obtain ⟨G, F1, F2, y⟩ := id s2
  have rp := y.last2 rfl rfl
  obtain ⟨l, k, q1, q2, c1, c2, c3, c4, rfl⟩ := trepD_inv e3
  obtain ⟨d1, ρ1⟩ := ra
  obtain ⟨d2, ρ2⟩ := rb
  have q1 : d1 = .tuple l := q1
  have q2 : d2 = .int k := q2
  subst q1 q2
  obtain ⟨r1, r2⟩ := rp
  cases r2
  obtain ⟨a, vs, rfl, h1, h2⟩ := Sn.tuple y.sub (.inl r1)
  obtain ⟨F3, y2⟩ := y.drop
  obtain ⟨F4, y3⟩ := y2.drop
  by_cases hk : k = 1
  · subst hk
    refine .inl ⟨a, vs, rfl, rfl, h1, q _ _ ⟨_, _, _, y3.push ?_⟩⟩
    have e : repN (1 : Int).toNat l = l := by simp [repN]
    rw [e]
    exact r1
  · have hne : vs ≠ [] := fun e => by
      subst e
      cases h2
      exact c1 rfl
    refine .inr ⟨a, k, vs, rfl, rfl, h1, hne, by omega, by omega, by rw [h2.len]; exact c2, fun p hp => q _ _ (y3.newTup (h2.flat _) hp)⟩
/-! ### slices -/
theorem oe_no : PO X none (tOe Φ fr X.K Γ .no) := by
  refine ⟨fun pins s σ H Q I h => po_none.run pins s σ H Q I ?_⟩
  obtain ⟨ρ, ts, r, sr, he, q⟩ := h
  have he : some (none, ρ) = some r := he
  cases he
  exact q H sr
theorem oe_so {e : Expr} {ea : E} (h : PE X e (tE Φ fr X.K Γ .fro ea)) : PO X (some e) (tOe Φ fr X.K Γ (.so ea)) := by
  refine ⟨fun pins s σ H Q I hw => (po_some h).run pins s σ H Q I ?_⟩
  obtain ⟨ρ, ts, r, sr, he, q⟩ := hw
  obtain ⟨ra, e1, e2⟩ := bind_inv he
  refine ⟨ρ, ts, ra, sr, e1, fun v H1 s1 => ?_⟩
  obtain ⟨G, F1, F2, y⟩ := id s1
  have rp := y.last1 rfl
  obtain ⟨d, ρ1⟩ := ra
  cases d with
  | int i =>
    cases rp
    cases e2
    exact ⟨i, rfl, q _ s1.drop⟩
  | _ => cases e2
def rSlG (K : PySem.W.Frag) : V → Option Int → Option Int → Hp → VK → Prop := fun x lo hi H Q => rSlA K x lo hi H Q ∨ rSlL K x lo hi H Q
theorem sl_both : SlR X (rSlG X.K) := sl_tupA.or sl_list
/-- whom a cut may belong to: a list's to anybody, a tuple's to nobody -/
theorem e_slc {a : Expr} {oa : O} {lo hi : Option Expr} {ol oh : Oe} {p2 : Pos} (m : Made .fro w) (ha : PE X a (tO Φ fr X.K Γ oa)) (hl : PO X lo (tOe Φ fr X.K Γ ol)) (hh : PO X hi (tOe Φ fr X.K Γ oh)) (hw : w = .fro ∨ (∀ ρ r, evO Φ oa ρ = some r → ∃ l, r.1 = .list l)) :
    PE X (.Subscript a (.Slice lo hi none p2) pos) (tE Φ fr X.K Γ .fro (.slc oa ol oh)) := by
  refine PE_mono (pe_slice sl_both ha hl hh) fun σ H Q h => ?_
  obtain ⟨ρ, ts, r, sr, he, q⟩ := h
  obtain ⟨ra, e1, he⟩ := bind_inv he
  obtain ⟨rb, e2, he⟩ := bind_inv he
  obtain ⟨rc, e3, he⟩ := bind_inv he
  obtain ⟨x, e4, he⟩ := bind_inv he
  obtain ⟨d, e5, rfl⟩ := map_inv he
  refine ⟨ρ, ts, ra, sr, e1, fun v H1 ts' s1 hd => ⟨ra.2, _, rb, s1, e2, fun H2 s2 => ⟨rb.2, _, rc, s2, e3, fun H3 s3 => ?_⟩⟩⟩
  obtain ⟨G, F1, F2, y⟩ := id s3
  have y' : SRd fr X.K G F1 F2 Γ rc.2 σ (ts' ++ []) H3 := by rw [List.append_nil]; exact y
  have sn := y'.sn hd e4
  obtain ⟨k1, rfl⟩ := hd.pre
  obtain ⟨F3, y2⟩ := y.drop
  cases x with
  | list l =>
    cases e5
    obtain ⟨a, vs, rfl, h1, h2⟩ := sn.list y.sub
    exact .inr ⟨a, vs, rfl, .inl h1, fun p hp => q _ _ (y2.newList (h2.cut _ _) (.inr ⟨rfl, rfl⟩) hp)⟩
  | tuple l =>
    cases e5
    obtain ⟨a, vs, rfl, h1, h2⟩ := sn.tuple y.sub
    refine .inl ⟨a, vs, rfl, h1, fun hw => q _ _ ?_, fun hw p hp => q _ _ (y2.newTup (h2.cut _ _) hp)⟩
    rw [h2.len] at hw
    rw [cutD_all hw]
    rcases sn with sn | ⟨_, _, _, e, _⟩
    · exact ⟨_, _, _, y2.push sn⟩
    · cases e
  | _ => cases e5
/-- .. a slot's own list: it is a list -/
theorem e_slcL {x : Str} {i : Nat} {a : Expr} {lo hi : Option Expr} {ol oh : Oe} {p2 : Pos} (m : Made .fro w) (ha : PE X a (tO Φ fr X.K Γ (.s i))) (hl : PO X lo (tOe Φ fr X.K Γ ol)) (hh : PO X hi (tOe Φ fr X.K Γ oh)) :
    PE X (.Subscript a (.Slice lo hi none p2) pos) (tE Φ fr X.K Γ .fro (.slc (.s i) ol oh)) := e_slc (w := .fro) (.inr ⟨rfl, rfl⟩) ha hl hh (.inl rfl)
/-! ### numbers that are reckoned without a new object -/
variable (Φ fr Γ) in
def tI (K : PySem.W.Frag) (e : E) : TE := fun σ H Q => ∃ ρ ts i, SR fr K Γ ρ σ ts H ∧ ev Φ e ρ = some (.int i, ρ) ∧ Q (.int i) H
/-- .. whose reckoning changes nothing -/
def stE : E → Bool
  | .v _ => true
  | .k _ => true
  | .gl _ _ => true
  | .neg a => stE a
  | .ar _ a b => stE a && stE b
  | _ => false
theorem stE_pure : ∀ {e : E}, stE e = true → ∀ {ρ : Rho} {r : D × Rho}, ev Φ e ρ = some r → r.2 = ρ
  | .v i, _, ρ, r, h => by
    obtain ⟨d, _, rfl⟩ := map_inv h
    rfl
  | .k _, _, ρ, r, h => by
    cases h
    rfl
  | .gl _ _, _, ρ, r, h => by
    cases h
    rfl
  | .neg a, c, ρ, r, h => by
    obtain ⟨ra, e1, h⟩ := bind_inv h
    have e2 := stE_pure (e := a) c e1
    obtain ⟨d, ρ1⟩ := ra
    cases d with
    | int i =>
      cases h
      exact e2
    | _ => cases h
  | .ar o a b, c, ρ, r, h => by
    obtain ⟨ra, e1, h⟩ := bind_inv h
    obtain ⟨rb, e2, h⟩ := bind_inv h
    obtain ⟨d, _, rfl⟩ := map_inv h
    obtain ⟨c1, c2⟩ := Bool.and_eq_true_iff.mp (show (stE a && stE b) = true from c)
    rw [stE_pure c1 e1] at e2
    exact (show rb.2 = ρ from stE_pure c2 e2)
theorem i_v {i : Nat} {x : Str} (hN : X.N[i]? = some x) (hv : Vis X.env.scope x) (hw : Γ[i]? = some .fro) (hd : (x == ("__debug__" : Str)) = false) (hcd : (x == ("__classdict__" : Str)) = false) : PE X (.Name x pos) (tI Φ fr Γ X.K (.v i)) := by
  refine PE_mono (pe_var hN hv hd hcd) fun σ H Q h => ?_
  obtain ⟨ρ, ts, j, ⟨G, F1, F2, sr⟩, he, q⟩ := h
  obtain ⟨d, e1, e2⟩ := map_inv he
  cases e2
  obtain ⟨v, e2, rp⟩ := sr.slot e1 hw
  cases rp
  exact ⟨_, e2, q⟩
theorem i_k {e : Expr} {d : D} {v : V} (h : PE X e (tC v)) (r : ∀ G, Rp X.K G v d) : PE X e (tI Φ fr Γ X.K (.k d)) := by
  refine PE_mono h fun σ H Q h => ?_
  obtain ⟨ρ, ts, j, sr, he, k⟩ := h
  have he : some (d, ρ) = some (.int j, ρ) := he
  cases he
  have := r H
  cases this
  exact k
theorem i_gl {e : Expr} {x : Str} {d : D} {v : V} (h : PE X e (tC v)) (r : ∀ G, Rp X.K G v d) : PE X e (tI Φ fr Γ X.K (.gl x d)) := by
  refine PE_mono h fun σ H Q h => ?_
  obtain ⟨ρ, ts, j, sr, he, k⟩ := h
  have he : some (d, ρ) = some (.int j, ρ) := he
  cases he
  have := r H
  cases this
  exact k
theorem i_neg {a : Expr} {ea : E} (c : stE ea = true) (ha : PE X a (tI Φ fr Γ X.K ea)) : PE X (.UnaryOp .USub a pos) (tI Φ fr Γ X.K (.neg ea)) := by
  refine PE_mono (pe_un un_neg ha) fun σ H Q h => ?_
  obtain ⟨ρ, ts, j, sr, he, q⟩ := h
  obtain ⟨ra, e1, e2⟩ := bind_inv he
  have e3 := stE_pure c e1
  obtain ⟨d, ρ1⟩ := ra
  have e3 : ρ1 = ρ := e3
  subst e3
  cases d with
  | int i =>
    cases e2
    exact ⟨ρ1, ts, i, sr, e1, i, rfl, q⟩
  | _ => cases e2
theorem i_ar (o : Ar) {a b : Expr} {ea eb : E} (c : stE ea = true) (c2 : stE eb = true) (ha : PE X a (tI Φ fr Γ X.K ea)) (hb : PE X b (tI Φ fr Γ X.K eb)) : PE X (.BinOp a (opA o) b pos) (tI Φ fr Γ X.K (.ar o ea eb)) := by
  refine PE_mono (pe_op (op_ar o) ha hb) fun σ H Q h => ?_
  obtain ⟨ρ, ts, k, sr, he, q⟩ := h
  obtain ⟨ra, e1, he⟩ := bind_inv he
  obtain ⟨rb, e2, he2⟩ := bind_inv he
  obtain ⟨d, e3, he3⟩ := map_inv he2
  clear he he2
  have p1 := stE_pure c e1
  have p2 := stE_pure c2 e2
  obtain ⟨d1, ρ1⟩ := ra
  obtain ⟨d2, ρ2⟩ := rb
  have p1 : ρ1 = ρ := p1
  subst p1
  have p2 : ρ2 = ρ1 := p2
  subst p2
  cases he3
  obtain ⟨i, j, k', q1, q2, q3⟩ := arD_inv e3
  have q1 : d1 = .int i := q1
  have q2 : d2 = .int j := q2
  subst q1 q2
  exact ⟨ρ2, ts, i, sr, e1, ρ2, ts, j, sr, e2, i, j, k, rfl, rfl, e3, q⟩
/-! ### places in an own list of own lists -/
theorem SRd.slot2 {K : PySem.W.Frag} {G H : Hp} {F1 F2 : List Addr} {ρ : Rho} {σ : Sg} {ts : List Tm} (x : SRd fr K G F1 F2 Γ ρ σ ts H) {i : Nat} {m : List D} (h : get ρ i = some (.list m)) (hw : Γ[i]? = some (.lst (.lst .fro))) :
    ∃ a vs, σ[i]? = some (some (.ref a)) ∧ H a = some (.lst vs) ∧ vs.length = m.length := by
  obtain ⟨t, v, F3, F4, e1, e2, _, o, _⟩ := x.sl.take (get_some h)
  rw [hw] at e1
  cases e1
  rcases o with ⟨s, _, _⟩ | ⟨ds, a, vs, F', q1, q2, q3, q4, q5⟩
  · cases s
  · cases q1
    subst q2
    exact ⟨a, vs, e2, q4, q5.len⟩
theorem atI_ix {α : Type} {l : List α} {i : Int} {d : α} (h : atI l i = some d) : ∃ k, ixN l.length i = some k ∧ l[k]? = some d := bind_inv h
theorem ixD_inv {x i y : D} (h : ixD x i = some y) : ∃ l j, (x = .list l ∨ x = .tuple l) ∧ i = .int j ∧ atI l j = some y := by
  cases x with
  | list l =>
    obtain ⟨j, rfl, e⟩ := ixL_inv h
    exact ⟨l, j, .inl rfl, rfl, e⟩
  | tuple l =>
    obtain ⟨j, rfl, e⟩ := ixL_inv h
    exact ⟨l, j, .inr rfl, rfl, e⟩
  | _ => cases h
theorem e_ix2 {i : Nat} {x : Str} {a b : Expr} {ea eb : E} {px p2 : Pos} (hN : X.N[i]? = some x) (hv : Vis X.env.scope x) (hw : Γ[i]? = some (.lst (.lst .fro))) (hd : (x == ("__debug__" : Str)) = false) (hcd : (x == ("__classdict__" : Str)) = false)
    (ha : PE X a (tE Φ fr X.K Γ .fro ea)) (hb : PE X b (tI Φ fr Γ X.K eb)) (hs : notSlice a = true) (hs2 : notSlice b = true) (st : stE eb = true) :
    PE X (.Subscript (.Subscript (.Name x px) a p2) b pos) (tE Φ fr X.K Γ .fro (.ix2 i ea eb)) := by
  refine PE_mono (pe_ix ix_list (pe_ix ix_list (pe_var hN hv hd hcd) ha (plainIx_ns hs)) hb (plainIx_ns hs2)) fun σ H Q h => ?_
  obtain ⟨ρ, ts, r, ⟨G0, F01, F02, sr⟩, he, q⟩ := h
  obtain ⟨x0, e0, he⟩ := bind_inv he
  obtain ⟨ra, e1, he⟩ := bind_inv he
  obtain ⟨rb, e2, he⟩ := bind_inv he
  obtain ⟨x, e3, he⟩ := bind_inv he
  obtain ⟨y, e4, he⟩ := bind_inv he
  obtain ⟨d, e5, rfl⟩ := map_inv he
  have p2 := stE_pure st e2
  clear he
  obtain ⟨d1, ρ1⟩ := ra
  obtain ⟨d2, ρ2⟩ := rb
  have p2 : ρ2 = ρ1 := p2
  subst p2
  obtain ⟨m, j, q1, q2, e6⟩ := ixD_inv e4
  have q2 : d1 = .int j := q2
  subst q2
  obtain ⟨l, j2, q3, q4, e7⟩ := ixD_inv e5
  have q4 : d2 = .int j2 := q4
  subst q4
  obtain ⟨t0, v0, _, _, g1, g2, _⟩ := sr.takeOut e0
  refine ⟨v0, g2, ρ, ts, _, ⟨_, _, _, sr⟩, e1, fun u H1 s1 => ?_⟩
  obtain ⟨G, F1, F2, z⟩ := id s1
  have ru := z.last1 rfl
  cases ru
  obtain ⟨k, k1, k2⟩ := atI_ix e6
  obtain ⟨t', v', F3, F4, g3, g4, _, ow, _⟩ := z.sl.take (get_some e3)
  rw [hw] at g3
  cases g3
  rw [g2] at g4
  cases g4
  rcases q1 with rfl | rfl
  · rcases ow with ⟨s, _, _⟩ | ⟨ds, a0, vs, F', w1, w2, w3, w4, w5⟩
    · cases s
    · cases w1
      subst w2
      obtain ⟨u2, Fk, g5, o1, i1, _⟩ := w5.at k2
      rcases o1 with ⟨s, _, _⟩ | ⟨ds1, b0, ws, Fb, r1, r2, r3, r4, r5⟩
      · rcases q3 with rfl | rfl <;> cases s
      · rcases q3 with rfl | rfl
        · cases r1
          subst r2
          have rw5 := r5.fro.2
          obtain ⟨zz, at2, rz⟩ := atI_rp rw5 e7
          refine ⟨a0, vs, j, _, rfl, rfl, SqL.of w4, ?_, ρ2, _, j2, s1, e2, b0, ws, j2, zz, rfl, rfl, SqL.of r4, at2, q _ _ ?_⟩
          · unfold atI
            rw [w5.len, k1]
            exact g5
          · obtain ⟨F6, z2⟩ := z.drop
            exact ⟨_, _, _, z2.push rz⟩
        · cases r1
  · rcases ow with ⟨s, _, _⟩ | ⟨ds, a0, vs, F', w1, w2, w3, w4, w5⟩
    · cases s
    · cases w1
end
end Vw
namespace Vw
open PySem PySem.Spec PyProof.Rows L2
/-! ### what a def promises -/
structure Sig where
  ps : List Ty
  ret : Ty
def CallEnd (K : PySem.W.Frag) (G H : Hp) (F : List Addr) (ret : Ty) (ts : List Tm) (ds' : List D) (r : D) (v : V) (H' : Hp) : Prop :=
  ∃ G' ts' FA FR, Same G G' ∧ Same G' H' ∧ ts'.map Tm.t = ts.map Tm.t ∧ ts'.map Tm.v = ts.map Tm.v ∧ ts'.map Tm.d = ds' ∧ TmF K G' H' ts' FA ∧ Own K G' H' ret r v FR ∧ (FA ++ FR).Nodup ∧
    (∀ a ∈ FA ++ FR, G' a = none ∧ (a ∈ F ∨ H a = none)) ∧ (∀ a o, H a = some o → a ∉ F → H' a = some o) ∧ (∀ a, H' a = none → H a = none) ∧ (∀ a, G' a ≠ none → G a ≠ none ∨ a ∈ F ∨ H a = none)
def spI (K : PySem.W.Frag) (g : Sig) (f : List D → Option (D × List D)) : Sp := fun vs H Q _ => ∃ G F ts r, ts.map Tm.v = vs ∧ ts.map Tm.t = g.ps ∧ Same G H ∧ TmF K G H ts F ∧ F.Nodup ∧ (∀ a ∈ F, G a = none) ∧
  f (ts.map Tm.d) = some r ∧ ∀ v H', CallEnd K G H F g.ret ts r.2 r.1 v H' → Q v H'
theorem spI_len {K : PySem.W.Frag} {g : Sig} {f : List D → Option (D × List D)} {vs : List V} {H : Hp} {Q : VK} {E : XK} (h : spI K g f vs H Q E) : vs.length = g.ps.length := by
  obtain ⟨G, F, ts, r, rfl, e, _⟩ := h
  rw [← e, List.length_map, List.length_map]
theorem TmF.perm {K : PySem.W.Frag} {G H : Hp} : ∀ {l1 l2 : List Tm}, l1.Perm l2 → ∀ {F : List Addr}, TmF K G H l1 F → ∃ F', F'.Perm F ∧ TmF K G H l2 F' := by
  intro l1 l2 p
  induction p with
  | nil => exact fun h => ⟨_, List.Perm.refl _, h⟩
  | cons x _ ih =>
    rintro F ⟨F1, F2, e, a, b⟩
    obtain ⟨F3, p3, t3⟩ := ih b
    exact ⟨F1 ++ F3, by rw [e]; exact p3.append_left F1, F1, F3, rfl, a, t3⟩
  | swap x y l =>
    rintro F ⟨F1, F2, e, a, F3, F4, e2, b, c⟩
    refine ⟨F3 ++ (F1 ++ F4), ?_, F3, F1 ++ F4, rfl, b, F1, F4, rfl, a, c⟩
    rw [e, e2, ← List.append_assoc, ← List.append_assoc]
    exact List.perm_append_comm.append_right F4
  | trans _ _ ih1 ih2 =>
    intro F h
    obtain ⟨F1, p1, t1⟩ := ih1 h
    obtain ⟨F2, p2, t2⟩ := ih2 t1
    exact ⟨F2, p2.trans p1, t2⟩
section
variable {fr : Fr} {K : PySem.W.Frag} {G H : Hp} {F1 F2 : List Addr} {Γ : List Ty} {ρ : Rho} {σ : Sg} {ts us : List Tm}
theorem SRd.perm {ts' : List Tm} (x : SRd fr K G F1 F2 Γ ρ σ ts H) (p : ts.Perm ts') : ∃ F3, SRd fr K G F1 F3 Γ ρ σ ts' H := by
  obtain ⟨F3, p3, t⟩ := x.tm.perm p
  have pp := p3.append_left F1
  exact ⟨F3, x.sub, x.sl, t, pp.nodup_iff.mpr x.nd, fun a ha => x.out a (pp.mem_iff.mp ha), x.ok⟩
/-! ### the arguments -/
def HoldA (Γ : List Ty) (σ : Sg) : List Ty → List Ag → List V → List Tm → List Tm → Prop
  | [], [], [], ts, ts' => ts' = ts
  | t :: ps, .d d :: as, v :: vs, ts, ts' => t = .fro ∧ HoldA Γ σ ps as vs (ts ++ [⟨.fro, d, v⟩]) ts'
  | t :: ps, .io i :: as, v :: vs, ts, ts' => Γ[i]? = some t ∧ σ[i]? = some (some v) ∧ HoldA Γ σ ps as vs ts ts'
  | t :: ps, .bo i :: as, v :: vs, ts, ts' => t = .fro ∧ σ[i]? = some (some v) ∧ HoldA Γ σ ps as vs ts ts'
  | _, _, _, _, _ => False
def ios : List Ag → List Nat
  | [] => []
  | .io i :: r => i :: ios r
  | _ :: r => ios r
def noIo : List Ag → Rho → Rho
  | [], ρ => ρ
  | .io i :: r, ρ => (noIo r ρ).set i none
  | _ :: r, ρ => noIo r ρ
theorem noIo_get {i : Nat} : ∀ {as : List Ag} {ρ : Rho}, i ∉ ios as → get (noIo as ρ) i = get ρ i
  | [], ρ, _ => rfl
  | .io j :: r, ρ, h => by
    have h1 : i ≠ j := fun e => h (by rw [e]; exact List.mem_cons_self)
    have h2 : i ∉ ios r := fun e => h (List.mem_cons_of_mem _ e)
    show get ((noIo r ρ).set j none) i = _
    unfold get
    rw [List.getElem?_set_ne (Ne.symm h1)]
    exact noIo_get h2
  | .d _ :: r, ρ, h => noIo_get (as := r) h
  | .bo _ :: r, ρ, h => noIo_get (as := r) h
theorem noIo_len : ∀ {as : List Ag} {ρ : Rho}, (noIo as ρ).length = ρ.length
  | [], _ => rfl
  | .io j :: r, ρ => by
    show ((noIo r ρ).set j none).length = _
    rw [List.length_set, noIo_len]
  | .d _ :: r, ρ => noIo_len (as := r)
  | .bo _ :: r, ρ => noIo_len (as := r)
theorem noIo_put {i : Nat} {d : D} : ∀ {as : List Ag} {ρ : Rho}, i ∉ ios as → noIo as (put ρ i d) = put (noIo as ρ) i d
  | [], _, _ => rfl
  | .io j :: r, ρ, h => by
    have h1 : i ≠ j := fun e => h (by rw [e]; exact List.mem_cons_self)
    have h2 : i ∉ ios r := fun e => h (List.mem_cons_of_mem _ e)
    show (noIo r (put ρ i d)).set j none = put ((noIo r ρ).set j none) i d
    rw [noIo_put h2]
    unfold put
    rw [List.set_comm _ _ h1]
  | .d _ :: r, ρ, h => noIo_put (as := r) h
  | .bo _ :: r, ρ, h => noIo_put (as := r) h
/-- they are all held -/
theorem SRd.args (nb : List Ag → Prop) : ∀ {as : List Ag} {ps : List Ty} {vs : List V} {ts ts' : List Tm} {ds : List D} {F1 F2 : List Addr}, (∀ a ∈ as, isBo a = false) → (ios as).Nodup → SRd fr K G F1 F2 Γ ρ σ ts' H → HoldA Γ σ ps as vs ts ts' → agsD ρ as = some ds →
    ∃ F3 F4 us xs, SRd fr K G F3 F4 Γ (noIo as ρ) σ (ts ++ us) H ∧ us.Perm xs ∧ xs.map Tm.t = ps ∧ xs.map Tm.v = vs ∧ xs.map Tm.d = ds
  | [], [], [], ts, ts', ds, F1, F2, _, _, x, h, e => by
    have h : ts' = ts := h
    subst h
    cases e
    exact ⟨F1, F2, [], [], by rw [List.append_nil]; exact x, List.Perm.refl _, rfl, rfl, rfl⟩
  | .d d :: as, t :: ps, v :: vs, ts, ts', ds, F1, F2, b, nd, x, h, e => by
    obtain ⟨rfl, h⟩ := h
    obtain ⟨d', e1, e⟩ := bind_inv e
    cases e1
    obtain ⟨ds', e2, rfl⟩ := map_inv e
    obtain ⟨F3, F4, us, xs, y, p, q1, q2, q3⟩ := SRd.args nb (fun a ha => b a (List.mem_cons_of_mem _ ha)) nd x h e2
    refine ⟨F3, F4, ⟨.fro, d, v⟩ :: us, ⟨.fro, d, v⟩ :: xs, ?_, p.cons _, by simp [q1], by simp [q2], by simp [q3]⟩
    rw [List.append_assoc] at y
    exact y
  | .io i :: as, t :: ps, v :: vs, ts, ts', ds, F1, F2, b, nd, x, h, e => by
    obtain ⟨g1, g2, h⟩ := h
    obtain ⟨d, e1, e⟩ := bind_inv e
    obtain ⟨ds', e2, rfl⟩ := map_inv e
    obtain ⟨n1, n2⟩ := List.nodup_cons.mp (show (i :: ios as).Nodup from nd)
    obtain ⟨F3, F4, us, xs, y, p, q1, q2, q3⟩ := SRd.args nb (fun a ha => b a (List.mem_cons_of_mem _ ha)) n2 x h e2
    have e3 : get (noIo as ρ) i = some d := by rw [noIo_get n1]; exact e1
    obtain ⟨t', v', F5, F6, g3, g4, z⟩ := y.takeOut e3
    rw [g1] at g3
    cases g3
    rw [g2] at g4
    cases g4
    refine ⟨F5, F6, us ++ [⟨t, d, v⟩], ⟨t, d, v⟩ :: xs, ?_, ?_, by simp [q1], by simp [q2], by simp [q3]⟩
    · rw [List.append_assoc] at z
      exact z
    · exact (List.perm_append_comm (l₁ := us) (l₂ := [⟨t, d, v⟩])).trans (p.cons _)
  | .bo i :: as, _, _, _, _, _, _, _, b, _, _, _, _ => by
    have := b _ List.mem_cons_self
    cases this
  | [], [], _ :: _, _, _, _, _, _, _, _, _, h, _ => h.elim
  | [], _ :: _, _, _, _, _, _, _, _, _, _, h, _ => by cases ‹List V› <;> exact h.elim
  | .d _ :: _, [], _, _, _, _, _, _, _, _, _, h, _ => by cases ‹List V› <;> exact h.elim
  | .io _ :: _, [], _, _, _, _, _, _, _, _, _, h, _ => by cases ‹List V› <;> exact h.elim
  | .d _ :: _, _ :: _, [], _, _, _, _, _, _, _, _, h, _ => h.elim
  | .io _ :: _, _ :: _, [], _, _, _, _, _, _, _, _, h, _ => h.elim
/-- behind the call they go back -/
theorem SRd.back : ∀ {as : List Ag} {ps : List Ty} {vs : List V} {ts ts' us xs : List Tm} {ds : List D} {ρ ρ' : Rho} {F1 F2 : List Addr}, (ios as).Nodup → HoldA Γ σ ps as vs ts ts' → xs.map Tm.t = ps → xs.map Tm.v = vs → xs.map Tm.d = ds → (∀ i ∈ ios as, i < ρ.length) →
    SRd fr K G F1 F2 Γ (noIo as ρ) σ (us ++ xs) H → backD as ds ρ = some ρ' → SR fr K Γ ρ' σ us H
  | [], [], [], _, _, us, [], _, ρ, ρ', F1, F2, _, _, _, _, q3, _, x, e => by
    subst q3
    cases e
    rw [List.append_nil] at x
    exact ⟨_, _, _, x⟩
  | [], [], [], _, _, us, _ :: _, _, ρ, ρ', F1, F2, _, _, q1, _, q3, _, x, e => by simp at q1
  | .d d :: as, t :: ps, v :: vs, ts, ts', us, y :: xs, _, ρ, ρ', F1, F2, nd, h, q1, q2, q3, lt, x, e => by
    subst q3
    obtain ⟨rfl, h⟩ := h
    simp only [List.map_cons, List.cons.injEq] at q1 q2
    have pp : (us ++ y :: xs).Perm (us ++ xs ++ [y]) := by
      rw [List.append_assoc]
      exact (List.perm_append_comm (l₁ := [y]) (l₂ := xs)).append_left us
    obtain ⟨F3, z⟩ := x.perm pp
    obtain ⟨F4, z2⟩ := z.drop
    exact SRd.back (as := as) (show (ios as).Nodup from nd) h q1.2 q2.2 rfl lt z2 (show backD as (xs.map Tm.d) ρ = some ρ' from e)
  | .io i :: as, t :: ps, v :: vs, ts, ts', us, y :: xs, _, ρ, ρ', F1, F2, nd, h, q1, q2, q3, lt, x, e => by
    subst q3
    obtain ⟨g1, g2, h⟩ := h
    simp only [List.map_cons, List.cons.injEq] at q1 q2
    obtain ⟨n1, n2⟩ := List.nodup_cons.mp (show (i :: ios as).Nodup from nd)
    have pp : (us ++ y :: xs).Perm (us ++ xs ++ [y]) := by
      rw [List.append_assoc]
      exact (List.perm_append_comm (l₁ := [y]) (l₂ := xs)).append_left us
    obtain ⟨F3, z⟩ := x.perm pp
    obtain ⟨yt, yd, yv⟩ := y
    obtain ⟨rfl, q1⟩ := q1
    obtain ⟨rfl, q2⟩ := q2
    have li : i < (noIo as ρ).length := by
      rw [noIo_len]
      exact lt i (show i ∈ i :: ios as from List.mem_cons_self)
    have z : SRd fr K G F1 F3 Γ ((noIo as ρ).set i none) σ (us ++ xs ++ [⟨yt, yd, yv⟩]) H := z
    obtain ⟨F5, F6, z2⟩ := z.putBack (by rw [List.getElem?_set_self li]) g1 g2
    have e3 : put ((noIo as ρ).set i none) i yd = noIo as (put ρ i yd) := by
      rw [noIo_put n1]
      unfold put
      rw [List.set_set]
    rw [e3] at z2
    exact SRd.back n2 h q1 q2 rfl (fun j hj => by unfold put; rw [List.length_set]; exact lt j (show j ∈ i :: ios as from List.mem_cons_of_mem _ hj)) z2 e
  | .bo i :: as, t :: ps, v :: vs, ts, ts', us, y :: xs, _, ρ, ρ', F1, F2, nd, h, q1, q2, q3, lt, x, e => by
    subst q3
    obtain ⟨rfl, _, h⟩ := h
    simp only [List.map_cons, List.cons.injEq] at q1 q2
    have pp : (us ++ y :: xs).Perm (us ++ xs ++ [y]) := by
      rw [List.append_assoc]
      exact (List.perm_append_comm (l₁ := [y]) (l₂ := xs)).append_left us
    obtain ⟨F3, z⟩ := x.perm pp
    obtain ⟨F4, z2⟩ := z.drop
    exact SRd.back (as := as) (show (ios as).Nodup from nd) h q1.2 q2.2 rfl lt z2 (show backD as (xs.map Tm.d) ρ = some ρ' from e)
  | _ :: _, _ :: _, _ :: _, _, _, _, [], _, _, _, _, _, _, _, q1, _, _, _, _, _ => by simp at q1
  | [], [], _ :: _, _, _, _, _, _, _, _, _, _, _, h, _, _, _, _, _, _ => h.elim
  | [], _ :: _, _, _, _, _, _, _, _, _, _, _, _, h, _, _, _, _, _, _ => by cases ‹List V› <;> exact h.elim
  | .d _ :: _, [], _, _, _, _, _, _, _, _, _, _, _, h, _, _, _, _, _, _ => by cases ‹List V› <;> exact h.elim
  | .io _ :: _, [], _, _, _, _, _, _, _, _, _, _, _, h, _, _, _, _, _, _ => by cases ‹List V› <;> exact h.elim
  | .bo _ :: _, [], _, _, _, _, _, _, _, _, _, _, _, h, _, _, _, _, _, _ => by cases ‹List V› <;> exact h.elim
  | .d _ :: _, _ :: _, [], _, _, _, _, _, _, _, _, _, _, h, _, _, _, _, _, _ => h.elim
  | .io _ :: _, _ :: _, [], _, _, _, _, _, _, _, _, _, _, h, _, _, _, _, _, _ => h.elim
  | .bo _ :: _, _ :: _, [], _, _, _, _, _, _, _, _, _, _, h, _, _, _, _, _, _ => h.elim
end
end Vw
namespace Vw
open PySem PySem.Spec PyProof.Rows L2
section
variable {X : Cx} {Φ : Cf} {fr : Fr} {Γ : List Ty} {w : Ty} {pos : Pos}
variable (Φ fr Γ) in
def tA (K : PySem.W.Frag) (ps : List Ty) (as : As) : TA := fun σ H Q => ∃ ρ ts r, SR fr K Γ ρ σ ts H ∧ evA Φ as ρ = some r ∧ ∀ vs H' ts', SR fr K Γ r.2 σ ts' H' → HoldA Γ σ ps r.1 vs ts ts' → Q vs H'
theorem a_nil : PA X [] (tA Φ fr Γ X.K [] .nil) := by
  refine PA_mono pa_nil fun σ H Q h => ?_
  obtain ⟨ρ, ts, r, sr, he, q⟩ := h
  have he : some ([], ρ) = some r := he
  cases he
  exact q [] H ts sr rfl
theorem a_fr {e : Expr} {es : List Expr} {ea : E} {as : As} {ps : List Ty} (ha : PE X e (tE Φ fr X.K Γ .fro ea)) (hb : PA X es (tA Φ fr Γ X.K ps as)) (hs : noStar e = true) : PA X (e :: es) (tA Φ fr Γ X.K (.fro :: ps) (.fr ea as)) := by
  refine PA_mono (pa_cons ha hb (star_cons hs)) fun σ H Q h => ?_
  obtain ⟨ρ, ts, r, sr, he, q⟩ := h
  obtain ⟨ra, e1, he⟩ := bind_inv he
  obtain ⟨rb, e2, rfl⟩ := map_inv he
  refine ⟨ρ, ts, ra, sr, e1, fun v H1 s1 => ⟨ra.2, _, rb, s1, e2, fun vs H2 ts' s2 hd => ?_⟩⟩
  exact q (v :: vs) H2 ts' s2 ⟨rfl, hd⟩
theorem a_io {i : Nat} {x : Str} {t : Ty} {es : List Expr} {as : As} {ps : List Ty} (hN : X.N[i]? = some x) (hv : Vis X.env.scope x) (hw : Γ[i]? = some t) (hd : (x == ("__debug__" : Str)) = false) (hcd : (x == ("__classdict__" : Str)) = false) (hb : PA X es (tA Φ fr Γ X.K ps as)) : PA X (.Name x pos :: es) (tA Φ fr Γ X.K (t :: ps) (.io i as)) := by
  refine PA_mono (pa_cons (pe_var hN hv hd hcd) hb (star_cons rfl)) fun σ H Q h => ?_
  obtain ⟨ρ, ts, r, ⟨G, F1, F2, sr⟩, he, q⟩ := h
  obtain ⟨d, e1, he⟩ := bind_inv he
  obtain ⟨rb, e2, rfl⟩ := map_inv he
  obtain ⟨t', v, _, _, g1, g2, _⟩ := sr.takeOut e1
  rw [hw] at g1
  cases g1
  refine ⟨v, g2, ρ, ts, rb, ⟨G, F1, F2, sr⟩, e2, fun vs H2 ts' s2 hd => ?_⟩
  exact q (v :: vs) H2 ts' s2 ⟨hw, g2, hd⟩
theorem a_bo {i : Nat} {x : Str} {es : List Expr} {as : As} {ps : List Ty} (hN : X.N[i]? = some x) (hv : Vis X.env.scope x) (hd : (x == ("__debug__" : Str)) = false) (hcd : (x == ("__classdict__" : Str)) = false) (hb : PA X es (tA Φ fr Γ X.K ps as)) : PA X (.Name x pos :: es) (tA Φ fr Γ X.K (.fro :: ps) (.bo i as)) := by
  refine PA_mono (pa_cons (pe_var hN hv hd hcd) hb (star_cons rfl)) fun σ H Q h => ?_
  obtain ⟨ρ, ts, r, ⟨G, F1, F2, sr⟩, he, q⟩ := h
  obtain ⟨d, e1, he⟩ := bind_inv he
  obtain ⟨rb, e2, rfl⟩ := map_inv he
  obtain ⟨t', v, _, _, g1, g2, _⟩ := sr.takeOut e1
  refine ⟨v, g2, ρ, ts, rb, ⟨G, F1, F2, sr⟩, e2, fun vs H2 ts' s2 hd => ?_⟩
  exact q (v :: vs) H2 ts' s2 ⟨rfl, g2, hd⟩
def iosA : As → List Nat
  | .nil => []
  | .fr _ r => iosA r
  | .io i r => i :: iosA r
  | .bo _ r => iosA r
def hasBo : As → Bool
  | .nil => false
  | .fr _ r => hasBo r
  | .io _ r => hasBo r
  | .bo _ r => true
theorem evA_ag : ∀ {as : As} {ρ : Rho} {r : List Ag × Rho}, evA Φ as ρ = some r → ios r.1 = iosA as ∧ r.1.any isBo = hasBo as
  | .nil, ρ, r, h => by
    have h : some ([], ρ) = some r := h
    cases h
    exact ⟨rfl, rfl⟩
  | .fr e as, ρ, r, h => by
    obtain ⟨ra, e1, h⟩ := bind_inv h
    obtain ⟨rb, e2, rfl⟩ := map_inv h
    obtain ⟨a, b⟩ := evA_ag e2
    exact ⟨a, by simpa [isBo, hasBo] using b⟩
  | .io i as, ρ, r, h => by
    obtain ⟨ra, e1, h⟩ := bind_inv h
    obtain ⟨rb, e2, rfl⟩ := map_inv h
    obtain ⟨a, b⟩ := evA_ag e2
    exact ⟨by show i :: ios rb.1 = _; rw [a]; rfl, by simpa [isBo, hasBo] using b⟩
  | .bo i as, ρ, r, h => by
    obtain ⟨ra, e1, h⟩ := bind_inv h
    obtain ⟨rb, e2, rfl⟩ := map_inv h
    obtain ⟨a, b⟩ := evA_ag e2
    exact ⟨a, by simp [isBo, hasBo]⟩
theorem agsD_lt : ∀ {as : List Ag} {ρ : Rho} {ds : List D}, agsD ρ as = some ds → ∀ i ∈ ios as, i < ρ.length
  | [], _, _, _, i, h => nomatch h
  | .d d :: r, ρ, ds, e, i, h => by
    obtain ⟨_, _, e⟩ := bind_inv e
    obtain ⟨_, e, _⟩ := map_inv e
    exact agsD_lt e i h
  | .bo d :: r, ρ, ds, e, i, h => by
    obtain ⟨_, _, e⟩ := bind_inv e
    obtain ⟨_, e, _⟩ := map_inv e
    exact agsD_lt e i h
  | .io j :: r, ρ, ds, e, i, h => by
    obtain ⟨d, e1, e⟩ := bind_inv e
    obtain ⟨_, e, _⟩ := map_inv e
    rcases List.mem_cons.mp (show i ∈ j :: ios r from h) with rfl | h
    · exact (List.getElem?_eq_some_iff.mp (get_some e1)).1
    · exact agsD_lt e i h
theorem isBo_all {as : List Ag} (h : as.any isBo = false) : ∀ a ∈ as, isBo a = false := fun a ha => by
  cases e : isBo a with
  | false => rfl
  | true =>
    rw [List.any_eq_true.mpr ⟨a, ha, e⟩] at h
    cases h
/-- behind a call whose things were all handed over -/
theorem SRd.called {K : PySem.W.Frag} {G H H' : Hp} {F1 F2 F5 F6 Fx : List Addr} {ρ : Rho} {σ : Sg} {ts us xs : List Tm} {ret : Ty} {ds' : List D} {r : D} {v : V}
    (x : SRd fr K G F1 F2 Γ ρ σ (ts ++ us) H) (e : F2 = F5 ++ F6) (tm1 : TmF K G H ts F5) (px : Fx.Perm F6) (ce : CallEnd K G H Fx ret xs ds' r v H') :
    ∃ G' F3 F4 xs', SRd fr K G' F3 F4 Γ ρ σ (ts ++ [⟨ret, r, v⟩] ++ xs') H' ∧ xs'.map Tm.t = xs.map Tm.t ∧ xs'.map Tm.v = xs.map Tm.v ∧ xs'.map Tm.d = ds' := by
  have nd := x.nd
  rw [e, ← List.append_assoc] at nd
  obtain ⟨nd1, nd2, dj⟩ := List.nodup_append.mp nd
  have inF : ∀ a ∈ Fx, a ∈ F1 ++ F2 := fun a ha => by
    rw [e, ← List.append_assoc]
    exact List.mem_append_right _ (px.mem_iff.mp ha)
  have in1 : ∀ a ∈ F1 ++ F5, a ∈ F1 ++ F2 := fun a ha => by
    rw [e, ← List.append_assoc]
    exact List.mem_append_left _ ha
  have nx : ∀ a ∈ F1 ++ F5, a ∉ Fx := fun a ha hb => dj a ha a (px.mem_iff.mp hb) rfl
  obtain ⟨G', ts', FA, FR, sG, sub', c1, c2, c3, tA, tR, nd', out', keep', mono', nG'⟩ := ce
  have stay : ∀ a ∈ F1 ++ F5, H' a = H a := fun a ha => by
    obtain ⟨vs, eh⟩ := x.there a (in1 a ha)
    rw [eh]
    exact keep' a _ eh (nx a ha)
  have tm' : TmF K G' H' (ts ++ [⟨ret, r, v⟩] ++ ts') (F5 ++ FR ++ FA) :=
    ((tm1.stay sG fun a ha => stay a (List.mem_append_right _ ha)).of_app (TmF.of_one tR)).of_app tA
  have oldH : ∀ a ∈ F1 ++ F5, H a ≠ none := fun a ha z => none_of_some z (x.there a (in1 a ha))
  have dj' : ∀ a ∈ F1 ++ F5, a ∉ FA ++ FR := fun a ha hb => by
    rcases (out' a hb).2 with h | h
    · exact nx a ha h
    · exact oldH a ha h
  refine ⟨G', F1, F5 ++ FR ++ FA, ts', ⟨sub', x.sl.stay sG (fun a ha => stay a (List.mem_append_left _ ha)), tm', ?_, fun a ha => ?_, ?_⟩, c1, c2, c3⟩
  · have e2 : F1 ++ (F5 ++ FR ++ FA) = (F1 ++ F5) ++ (FR ++ FA) := by simp [List.append_assoc]
    rw [e2]
    refine List.nodup_append.mpr ⟨nd1, (List.perm_append_comm.nodup_iff).mpr nd', fun a ha b hb z => ?_⟩
    subst z
    exact dj' a ha (List.perm_append_comm.mem_iff.mp hb)
  · have e2 : F1 ++ (F5 ++ FR ++ FA) = (F1 ++ F5) ++ (FR ++ FA) := by simp [List.append_assoc]
    rw [e2] at ha
    rcases List.mem_append.mp ha with ha | ha
    · refine ⟨?_, (x.out a (in1 a ha)).2⟩
      cases eg : G' a with
      | none => rfl
      | some o =>
        rcases nG' a (by rw [eg]; simp) with h | h | h
        · exact absurd (x.out a (in1 a ha)).1 h
        · exact absurd h (nx a ha)
        · exact absurd h (oldH a ha)
    · have ha : a ∈ FA ++ FR := List.perm_append_comm.mem_iff.mp ha
      refine ⟨(out' a ha).1, ?_⟩
      rcases (out' a ha).2 with h | h
      · exact (x.out a (inF a h)).2
      · exact .inr (x.ok.mono a h)
  · refine ⟨fun a o e1 h1 => ?_, fun a h => x.ok.mono a (mono' a h), fun a o h => sG _ _ (x.ok.sG _ _ h), fun a h => ?_, x.ok.pin⟩
    · refine keep' a o (x.ok.keep a o e1 h1) fun hb => ?_
      rcases (x.out a (inF a hb)).2 with h | h
      · exact h1 h
      · rw [h] at e1
        cases e1
    · rcases nG' a h with h | h | h
      · exact x.ok.nG a h
      · exact .inr (x.out a (inF a h)).2
      · exact .inr (.inr (x.ok.mono a h))
/-- an argument of a borrowing call reads as data while all slots are given -/
theorem HoldA.data {K : PySem.W.Frag} {G H : Hp} {σ : Sg} {ρ : Rho} : ∀ {as : List Ag} {ps : List Ty} {vs : List V} {ts ts' : List Tm} {ds : List D} {F1 F2 : List Addr}, SRd fr K G F1 F2 Γ ρ σ ts' H → HoldA Γ σ ps as vs ts ts' → agsD ρ as = some ds → ios as = [] →
    (∃ us, ts' = ts ++ us) ∧ RpAll K (join G H F1) vs ds ∧ ps = ps.map (fun _ => .fro) ∧ vs.length = ps.length
  | [], [], [], ts, ts', ds, F1, F2, x, h, e, _ => by
    have h : ts' = ts := h
    subst h
    cases e
    exact ⟨⟨[], by rw [List.append_nil]⟩, .nil, rfl, rfl⟩
  | .d d :: as, t :: ps, v :: vs, ts, ts', ds, F1, F2, x, h, e, n => by
    obtain ⟨rfl, h⟩ := h
    obtain ⟨d', e1, e⟩ := bind_inv e
    cases e1
    obtain ⟨ds', e2, rfl⟩ := map_inv e
    obtain ⟨⟨us, hu⟩, r, p, l⟩ := HoldA.data x h e2 n
    refine ⟨⟨⟨.fro, d, v⟩ :: us, by rw [hu, List.append_assoc]; rfl⟩, .cons ?_ r, by rw [List.map_cons, ← p], by simp [l]⟩
    rw [hu] at x
    obtain ⟨F3, y⟩ := x.drop
    exact Rp_same (join_same fun a ha => (x.out a (List.mem_append_left _ ha)).1) _ _ (y.last1 rfl)
  | .bo i :: as, t :: ps, v :: vs, ts, ts', ds, F1, F2, x, h, e, n => by
    obtain ⟨rfl, g2, h⟩ := h
    obtain ⟨d, e1, e⟩ := bind_inv e
    obtain ⟨ds', e2, rfl⟩ := map_inv e
    obtain ⟨hu, r, p, l⟩ := HoldA.data x h e2 n
    refine ⟨hu, .cons ?_ r, by rw [List.map_cons, ← p], by simp [l]⟩
    obtain ⟨t', v', F3, F4, g3, g4, pm, ow, _⟩ := x.sl.take (get_some e1)
    rw [g2] at g4
    cases g4
    exact ow.rp (join_same fun a ha => (x.out a (List.mem_append_left _ ha)).1) fun a ha => join_in (perm_sub pm (List.mem_append_left _ ha))
  | .io i :: as, _, _, _, _, _, _, _, _, _, _, n => by
    have n : i :: ios as = [] := n
    cases n
  | [], [], _ :: _, _, _, _, _, _, _, h, _, _ => h.elim
  | [], _ :: _, _, _, _, _, _, _, _, h, _, _ => by cases ‹List V› <;> exact h.elim
  | .d _ :: _, [], _, _, _, _, _, _, _, h, _, _ => by cases ‹List V› <;> exact h.elim
  | .bo _ :: _, [], _, _, _, _, _, _, _, h, _, _ => by cases ‹List V› <;> exact h.elim
  | .d _ :: _, _ :: _, [], _, _, _, _, _, _, h, _, _ => h.elim
  | .bo _ :: _, _ :: _, [], _, _, _, _, _, _, h, _, _ => h.elim
theorem HoldA.pre {σ : Sg} : ∀ {as : List Ag} {ps : List Ty} {vs : List V} {ts ts' : List Tm}, HoldA Γ σ ps as vs ts ts' → ∃ us, ts' = ts ++ us
  | [], [], [], ts, ts', h => ⟨[], by rw [List.append_nil]; exact h⟩
  | .d d :: as, t :: ps, v :: vs, ts, ts', h => by
    obtain ⟨us, hu⟩ := HoldA.pre h.2
    exact ⟨⟨.fro, d, v⟩ :: us, by rw [hu, List.append_assoc]; rfl⟩
  | .io i :: as, t :: ps, v :: vs, ts, ts', h => HoldA.pre h.2.2
  | .bo i :: as, t :: ps, v :: vs, ts, ts', h => HoldA.pre h.2.2
  | [], [], _ :: _, _, _, h => h.elim
  | [], _ :: _, _, _, _, h => by cases ‹List V› <;> exact h.elim
  | .d _ :: _, [], _, _, _, h => by cases ‹List V› <;> exact h.elim
  | .io _ :: _, [], _, _, _, h => by cases ‹List V› <;> exact h.elim
  | .bo _ :: _, [], _, _, _, h => by cases ‹List V› <;> exact h.elim
  | .d _ :: _, _ :: _, [], _, _, h => h.elim
  | .io _ :: _, _ :: _, [], _, _, h => h.elim
  | .bo _ :: _, _ :: _, [], _, _, h => h.elim
theorem tms_of {w : Ty} {K : PySem.W.Frag} {G H : Hp} : ∀ {vs : List V} {ds : List D}, RpAll K G vs ds → TmF K G H (tms .fro ds vs) []
  | _, _, .nil => rfl
  | _, _, .cons r rs => ⟨[], [], rfl, ⟨rfl, r⟩, tms_of (w := w) rs⟩
/-- a call's reading -/
theorem m_call {K : PySem.W.Frag} {g : Sig} {as : As} {f : Str} {σ : Sg} {H : Hp} {Q : VK} {E : XK} (nd : (iosA as).Nodup) (hw : w = g.ret ∨ w = .fro) (hb : hasBo as = true → iosA as = [] ∧ g.ret = .fro)
    (h : tE Φ fr K Γ w (.call f as) σ H Q) : tCall (spI K g (Φ.fn f)) [] E (tA Φ fr Γ K g.ps as) σ H Q := by
  obtain ⟨ρ, ts, r, sr, he, q⟩ := h
  obtain ⟨ra, e1, he⟩ := bind_inv he
  refine ⟨ρ, ts, ra, sr, e1, fun vs H1 ts' s1 hd => ?_⟩
  show spI K g (Φ.fn f) (vs ++ []) H1 Q E
  rw [List.append_nil]
  obtain ⟨ds, e2, he⟩ := bind_inv he
  obtain ⟨z, e3, he⟩ := bind_inv he
  obtain ⟨a1, a2⟩ := evA_ag e1
  obtain ⟨G, F1, F2, y⟩ := id s1
  rw [a2] at he
  by_cases hbo : hasBo as = true
  · rw [if_pos hbo] at he
    obtain ⟨b1, b2⟩ := hb hbo
    split at he
    · rename_i c
      cases he
      obtain ⟨⟨us, hu⟩, rs, p, l⟩ := HoldA.data y hd e2 (by rw [a1]; exact b1)
      have sJ : Same G (join G H1 F1) := join_same fun a ha => (y.out a (List.mem_append_left _ ha)).1
      have hty : (tms .fro ds vs).map Tm.t = g.ps := by
        rw [p]
        have : (tms .fro ds vs).map Tm.t = (tms .fro ds vs).map (fun _ => Ty.fro) := List.map_congr_left fun x hx => tms_t x hx
        rw [this, List.map_const', List.map_const']
        have e9 := congrArg List.length (tms_d (w := .fro) rs.len)
        rw [List.length_map] at e9
        rw [e9, ← rs.len, l]
      have hfn : Φ.fn f ((tms .fro ds vs).map Tm.d) = some z := by
        rw [tms_d rs.len]
        exact e3
      refine ⟨join G H1 F1, [], tms .fro ds vs, z, tms_v rs.len, hty, join_sub y.sub, tms_of (w := w) rs, List.nodup_nil, by simp, hfn, fun v H' ce => ?_⟩
      obtain ⟨G', xs', FA, FR, sG, sub', c1, c2, c3, tmA, tR, nd', out', keep', mono', nG'⟩ := ce
      have keep : ∀ a o, H1 a = some o → H' a = some o := fun a o e => keep' a o e (by simp)
      rw [hu] at y
      obtain ⟨F3, y2⟩ := y.drop
      have st : ∀ a ∈ F1 ++ F3, H' a = H1 a := fun a ha => by
        obtain ⟨ws, eh⟩ := y2.there a ha
        rw [eh]
        exact keep _ _ eh
      have y3 : SRd fr K G F1 F3 Γ ra.2 σ ts H' := ⟨fun a o e => keep _ _ (y2.sub _ _ e), y2.sl.stay (Same.refl G) (fun a ha => st a (List.mem_append_left _ ha)), y2.tm.stay (Same.refl G) (fun a ha => st a (List.mem_append_right _ ha)), y2.nd, y2.out,
        fun a o e hF => keep _ _ (y2.ok.keep a o e hF), fun a e => y2.ok.mono a (mono' a e), y2.ok.sG, y2.ok.nG, y2.ok.pin⟩
      rw [b2] at tR
      exact q _ _ ⟨_, _, _, y3.pushS c (Rp_scalar c tR.2)⟩
    · cases he
  · rw [if_neg hbo] at he
    obtain ⟨ρ', e4, rfl⟩ := map_inv he
    have nb : ∀ a ∈ ra.1, isBo a = false := isBo_all (by rw [a2]; simpa using hbo)
    rw [← a1] at nd
    obtain ⟨F3, F4, us, xs, y2, p, q1, q2, q3⟩ := SRd.args (fun _ => True) nb nd y hd e2
    obtain ⟨F5, F6, e5, tm1, tm2⟩ := y2.tm.app
    obtain ⟨Fx, px, tmx⟩ := tm2.perm p
    have ndx := y2.nd
    rw [e5, ← List.append_assoc] at ndx
    have inF : ∀ a ∈ Fx, a ∈ F3 ++ F4 := fun a ha => by
      rw [e5, ← List.append_assoc]
      exact List.mem_append_right _ (px.mem_iff.mp ha)
    refine ⟨G, Fx, xs, z, q2, q1, y2.sub, tmx, px.nodup_iff.mpr (List.nodup_append.mp ndx).2.1, fun a ha => (y2.out a (inF a ha)).1, by rw [q3]; exact e3, fun v H' ce => ?_⟩
    obtain ⟨G', F7, F8, xs', z2, c1, c2, c3⟩ := y2.called e5 tm1 px ce
    have fin : SR fr K Γ ρ' σ (ts ++ [⟨g.ret, z.1, v⟩]) H' := SRd.back nd hd (c1.trans q1) (c2.trans q2) c3 (agsD_lt e2) z2 e4
    rcases hw with hw | hw
    · rw [hw] at q
      exact q _ _ fin
    · rw [hw] at q
      exact q _ _ (SR.give (x1 := ⟨g.ret, z.1, v⟩) fin)
def noStars : List Expr → Bool
  | [] => true
  | e :: es => noStar e && noStars es
theorem stars_plain {env : Env} {p : Pos} : ∀ {es : List Expr}, noStars es = true → (backTo p (starEach es env)).any (·.1) = false
  | [], _ => rfl
  | e :: es, h => by
    obtain ⟨h1, h2⟩ := Bool.and_eq_true_iff.mp (show (noStar e && noStars es) = true from h)
    exact plain_cons h1 (stars_plain h2)
theorem e_call {g : Sig} {as : As} {x : Str} {k : Nat} {f : Addr} {fd : FuncData} {ps : List Str} {args : List Expr} {p : Pos} (F : FnOk X.prog X.w X.K X.mg X.base CX0 k f fd ps (spI X.K g (Φ.fn x))) (hr : Room k X.A) (hg : Gl X x) (hm : X.mg x = some (.ref f)) (hk : PySem.W.keepIn X.K (.ref f) = true) (hbd : Binds X.K fd ps [])
    (ha : PA X args (tA Φ fr Γ X.K g.ps as)) (hs : noStars args = true) (hne : args.isEmpty = false) (hdb : (x == ("__debug__" : Str)) = false) (nd : (iosA as).Nodup) (hw : w = g.ret ∨ w = .fro) (hb : hasBo as = true → iosA as = [] ∧ g.ret = .fro) :
    PE X (.Call (.Name x p) args [] pos) (tE Φ fr X.K Γ w (.call x as)) := by
  cases args with
  | nil => cases hne
  | cons e es =>
    obtain ⟨h1, h2⟩ := Bool.and_eq_true_iff.mp (show (noStar e && noStars es) = true from hs)
    exact PE_mono (pe_call F hr hg hm hk hbd .nil pass0 ha hdb (star_cons h1) (stars_plain h2)) fun σ H Q h => m_call nd hw hb h
end
end Vw
namespace Vw
open PySem PySem.Spec PyProof.Rows L2
section
variable {X : Cx} {Φ : Cf} {fr : Fr} {Γ : List Ty} {w : Ty} {pos : Pos}
/-! ### pop -/
theorem RpAll_dropLast {K : PySem.W.Frag} {G : Hp} : ∀ {vs : List V} {l : List D}, RpAll K G vs l → RpAll K G vs.dropLast l.dropLast
  | _, _, .nil => .nil
  | _, _, .cons _ .nil => .nil
  | _, _, .cons h (.cons h2 t) => .cons h (RpAll_dropLast (.cons h2 t))
theorem RpAll_erase {K : PySem.W.Frag} {G : Hp} : ∀ {vs : List V} {l : List D} (k : Nat), RpAll K G vs l → RpAll K G (vs.eraseIdx k) (l.eraseIdx k)
  | _, _, _, .nil => .nil
  | _, _, 0, .cons _ t => t
  | _, _, k + 1, .cons h t => .cons h (RpAll_erase k t)
theorem tyV_l {K : PySem.W.Frag} {a : Addr} {vs : List V} {H : Hp} (h : H a = some (.lst vs)) : tyV K "list" (.ref a) H := Or.inl ⟨rfl, _, .inl (.inl h)⟩
theorem e_pop {i : Nat} {x : Str} {px ap : Pos} (hN : X.N[i]? = some x) (hv : Vis X.env.scope x) (hw : Γ[i]? = some (.lst .fro)) (hd : (x == ("__debug__" : Str)) = false) (hcd : (x == ("__classdict__" : Str)) = false) (hl : (ap.endLine == pos.line) = true) :
    PE X (.Call (.Attribute (.Name x px) "pop" ap) [] [] pos) (tE Φ fr X.K Γ .fro (.pop i)) := by
  refine PE_mono (pe_bm0 PySem.F.plainAttrs_list PySem.F.slot_list_pop PySem.F.type_list_pop mt_pop (pe_var hN hv hd hcd) rfl hl) fun σ H Q h => ?_
  obtain ⟨ρ, ts, r, ⟨G, F1, F2, sr⟩, he, q⟩ := h
  obtain ⟨x, e1, he⟩ := bind_inv he
  cases x with
  | list l =>
    obtain ⟨d, e2, rfl⟩ := map_inv (show (l[l.length - 1]?).map (fun d => (d, put ρ i (.list l.dropLast))) = some r from he)
    obtain ⟨a, vs, g1, g2, g3, _⟩ := sr.slotMut e1 hw
    obtain ⟨y, e3, ry⟩ := g3.get e2
    obtain ⟨a', vs', g1', g2', g3', m⟩ := (sr.push ry).slotMut e1 hw
    rw [g1] at g1'
    cases g1'
    rw [g2] at g2'
    cases g2'
    refine ⟨_, g1, tyV_l g2, a, vs, y, rfl, rfl, g2, by rw [g3.len]; exact e3, q _ _ ?_⟩
    exact m _ _ (RpAll_dropLast g3)
  | _ => cases he
theorem few_of {e : Expr} {env : Env} {p : Pos} (h : noStar e = true) : ((backTo p (starEach [e] env)).all (fun x => !x.1) && (backToKw p (keywordEach [] env)).all (fun x => x.1.isSome)
      && decide ([e].length + ([] : List Keyword).length + (if ([] : List Keyword).isEmpty then 0 else 1) < 30)) = true := by
  rw [star_cons h]
  rfl
theorem e_popat {i : Nat} {x : Str} {px ap : Pos} {e : Expr} {ea : E} (hN : X.N[i]? = some x) (hv : Vis X.env.scope x) (hw : Γ[i]? = some (.lst .fro)) (hd : (x == ("__debug__" : Str)) = false) (hcd : (x == ("__classdict__" : Str)) = false) (hl : (ap.endLine == pos.line) = true)
    (ha : PE X e (tE Φ fr X.K Γ .fro ea)) (hs : noStar e = true) : PE X (.Call (.Attribute (.Name x px) "pop" ap) [e] [] pos) (tE Φ fr X.K Γ .fro (.popat i ea)) := by
  refine PE_mono (pe_bm PySem.F.plainAttrs_list PySem.F.slot_list_pop PySem.F.type_list_pop mt_popAt (pe_var hN hv hd hcd) (pa_cons ha pa_nil (star_cons (env := X.env) hs)) rfl (few_of hs) hl (star_cons hs) rfl) fun σ H Q h => ?_
  obtain ⟨ρ, ts, r, ⟨G0, F01, F02, sr⟩, he, q⟩ := h
  obtain ⟨x0, e0, he⟩ := bind_inv he
  cases x0 with
  | list l0 =>
    obtain ⟨ra, e1, he⟩ := bind_inv he
    obtain ⟨x, e2, he⟩ := bind_inv he
    obtain ⟨a0, vs0, k1, k2, _⟩ := sr.slotL e0 hw
    refine ⟨_, k1, tyV_l k2, ρ, ts, ra, ⟨_, _, _, sr⟩, e1, fun u H1 s1 => ?_⟩
    obtain ⟨G, F1, F2, y⟩ := id s1
    have ru := y.last1 rfl
    clear e1
    obtain ⟨d1, ρ1⟩ := ra
    cases x with
    | list l =>
      cases d1 with
      | int j =>
        cases ru
        have he : (if -(2 ^ 63) ≤ j ∧ j < 2 ^ 63 then (seqIndex? j l.length).bind fun k => (l[k]?).map fun d => (d, put ρ1 i (.list (l.eraseIdx k))) else none) = some r := he
        split at he
        · rename_i c
          obtain ⟨k, e3, he⟩ := bind_inv he
          obtain ⟨d, e4, rfl⟩ := map_inv he
          obtain ⟨F3, y2⟩ := y.drop
          obtain ⟨a, vs, g1, g2, g3, _⟩ := y2.slotMut e2 hw
          obtain ⟨z, e5, rz⟩ := g3.get e4
          obtain ⟨a', vs', g1', g2', g3', m⟩ := (y2.push rz).slotMut e2 hw
          rw [k1] at g1 g1'
          cases g1
          cases g1'
          rw [g2] at g2'
          cases g2'
          exact ⟨_, vs, j, k, z, rfl, rfl, g2, c.1, c.2, by rw [g3.len]; exact e3, e5, q _ _ (m _ _ (RpAll_erase k g3))⟩
        · cases he
      | _ => cases he
    | _ => cases he
  | _ => cases he
/-! ### targets -/
mutual
def tgSl : Tg → List Nat
  | .n i => [i]
  | .t l => tgsSl l
def tgsSl : Tgs → List Nat
  | .nil => []
  | .cons a l => tgSl a ++ tgsSl l
end
/-- but for these places the names are as they were -/
def But (l : List Nat) (σ σ' : Sg) : Prop := σ'.length = σ.length ∧ ∀ j, j ∉ l → σ'[j]? = σ[j]?
theorem But.trans {l m : List Nat} {σ σ1 σ2 : Sg} (a : But l σ σ1) (b : But m σ1 σ2) : But (l ++ m) σ σ2 :=
  ⟨b.1.trans a.1, fun j h => (b.2 j fun z => h (List.mem_append_right _ z)).trans (a.2 j fun z => h (List.mem_append_left _ z))⟩
variable (fr Γ) in
def tG (K : PySem.W.Frag) (tg : Tg) : TG := fun v σ H Q => ∃ ρ ts d ρ', SR fr K Γ ρ σ (ts ++ [⟨.fro, d, v⟩]) H ∧ tgD tg d ρ = some ρ' ∧ ∀ σ' H', But (tgSl tg) σ σ' → SR fr K Γ ρ' σ' ts H' → Q σ' H'
variable (fr Γ) in
def tGs (K : PySem.W.Frag) (tg : Tgs) : TGs := fun vs σ H Q => ∃ ρ ts ds ρ', vs.length = ds.length ∧ SR fr K Γ ρ σ (ts ++ tms .fro ds vs) H ∧ tgsD tg ds ρ = some ρ' ∧ ∀ σ' H', But (tgsSl tg) σ σ' → SR fr K Γ ρ' σ' ts H' → Q σ' H'
theorem PG_mono {e : Expr} {t t' : TG} (h : PG X e t) (i : ∀ v σ H Q, t' v σ H Q → t v σ H Q) : PG X e t' := ⟨fun pins s σ H v u Q I r hw => h.run pins s σ H v u Q I r (i v σ H Q hw)⟩
theorem PGs_mono {e : List Expr} {t t' : TGs} (h : PGs X e t) (i : ∀ v σ H Q, t' v σ H Q → t v σ H Q) : PGs X e t' := ⟨fun pins s σ H v u Q I r hw => h.run pins s σ H v u Q I r (i v σ H Q hw)⟩
theorem PG_or {e : Expr} {t t' : TG} (h : PG X e t) (h' : PG X e t') : PG X e (fun v σ H Q => t v σ H Q ∨ t' v σ H Q) := ⟨fun pins s σ H v u Q I r hw => by
  rcases hw with hw | hw
  · exact h.run pins s σ H v u Q I r hw
  · exact h'.run pins s σ H v u Q I r hw⟩
theorem SR.setSlot {K : PySem.W.Frag} {ρ : Rho} {σ : Sg} {ts : List Tm} {H : Hp} {i : Nat} {t : Ty} {d : D} {v : V} (x : SR fr K Γ ρ σ (ts ++ [⟨t, d, v⟩]) H) (ht : Γ[i]? = some t) (hp : ∀ p ∈ fr.pins, p.1 ≠ i) : SR fr K Γ (put ρ i d) (σ.set i (some v)) ts H := by
  obtain ⟨G, F1, F2, x⟩ := x
  have l := x.sl.lens.1
  obtain ⟨F3, F4, y⟩ := x.setSlot ht (by rw [← l]; exact (List.getElem?_eq_some_iff.mp ht).1) hp
  exact ⟨_, _, _, y⟩
theorem g_n {i : Nat} {x : Str} (nd : X.N.Nodup) (hi : X.N[i]? = some x) (hx : Loc X.env.scope x) (hf : X.fn x = true ∨ X.env.scope.names.lookup x = some .local) (hw : Γ[i]? = some .fro) (hp : ∀ p ∈ fr.pins, p.1 ≠ i) : PG X (.Name x pos) (tG fr Γ X.K (.n i)) := by
  refine PG_mono (pg_name nd hi hx hf) fun v σ H Q h => ?_
  obtain ⟨ρ, ts, d, ρ', sr, he, q⟩ := h
  cases he
  refine q _ _ ⟨List.length_set, fun j hj => ?_⟩ (sr.setSlot hw hp)
  have hj : i ≠ j := fun e => hj (by rw [e]; exact List.mem_cons_self)
  rw [List.getElem?_set_ne hj]
theorem asg_cons {e : Expr} {es : List Expr} {env : Env} (h : noStar e = true) : assignEach (e :: es) env = (false, assign e env) :: assignEach es env := by
  cases e <;> first | rfl | cases h
theorem asg_len {env : Env} : ∀ {es : List Expr}, (assignEach es env).length = es.length
  | [] => rfl
  | e :: es => by
    have : (assignEach (e :: es) env).length = (assignEach es env).length + 1 := by cases e <;> rfl
    rw [this, asg_len]
    rfl
theorem asg_star {env : Env} : ∀ {es : List Expr}, noStars es = true → (assignEach es env).findIdx? (·.1) = none
  | [], _ => rfl
  | e :: es, h => by
    obtain ⟨h1, h2⟩ := Bool.and_eq_true_iff.mp (show (noStar e && noStars es) = true from h)
    rw [asg_cons h1, List.findIdx?_cons, asg_star h2]
    rfl
theorem gs_nil : PGs X [] (tGs fr Γ X.K .nil) := by
  refine PGs_mono pgs_nil fun vs σ H Q h => ?_
  obtain ⟨ρ, ts, ds, ρ', hl, sr, he, q⟩ := h
  cases ds with
  | nil =>
    cases vs with
    | nil =>
      cases he
      refine ⟨rfl, q _ _ ⟨rfl, fun _ _ => rfl⟩ ?_⟩
      have e : ts ++ tms .fro [] [] = ts := List.append_nil ts
      rw [e] at sr
      exact sr
    | cons _ _ => simp at hl
  | cons _ _ => cases he
theorem gs_cons {e : Expr} {es : List Expr} {a : Tg} {l : Tgs} (h1 : PG X e (tG fr Γ X.K a)) (h2 : PGs X es (tGs fr Γ X.K l)) (hs : noStar e = true) : PGs X (e :: es) (tGs fr Γ X.K (.cons a l)) := by
  refine PGs_mono (pgs_cons h1 h2 (by rw [asg_cons hs]; rfl)) fun vs σ H Q h => ?_
  obtain ⟨ρ, ts, ds, ρ', hl, sr, he, q⟩ := h
  cases ds with
  | nil => cases he
  | cons d ds =>
    cases vs with
    | nil => simp at hl
    | cons v vs =>
      obtain ⟨ρ1, e1, e2⟩ := bind_inv he
      have pp : (ts ++ tms .fro (d :: ds) (v :: vs)).Perm (ts ++ tms .fro ds vs ++ [⟨.fro, d, v⟩]) := by
        rw [List.append_assoc]
        exact (List.perm_append_comm (l₁ := [⟨.fro, d, v⟩]) (l₂ := tms .fro ds vs)).append_left ts
      obtain ⟨G, F1, F2, y⟩ := sr
      obtain ⟨F3, z⟩ := y.perm pp
      refine ⟨v, vs, rfl, ρ, _, d, ρ1, ⟨_, _, _, z⟩, e1, fun σ1 H1 b1 s1 => ⟨ρ1, ts, ds, ρ', by simpa using hl, s1, e2, fun σ2 H2 b2 s2 => q _ _ (b1.trans b2) s2⟩⟩
def tgsLen : Tgs → Nat
  | .nil => 0
  | .cons _ l => tgsLen l + 1
theorem tgsD_len : ∀ {l : Tgs} {ds : List D} {ρ ρ' : Rho}, tgsD l ds ρ = some ρ' → ds.length = tgsLen l
  | .nil, [], _, _, _ => rfl
  | .nil, _ :: _, _, _, h => nomatch h
  | .cons _ _, [], _, _, h => nomatch h
  | .cons a l, d :: ds, ρ, ρ', h => by
    obtain ⟨ρ1, _, e2⟩ := bind_inv h
    show _ + 1 = _ + 1
    rw [tgsD_len e2]
theorem g_t {es : List Expr} {l : Tgs} {k : Nat} (hc : X.calm = true) (h : PGs X es (tGs fr Γ X.K l)) (hs : noStars es = true) (hl : tgsLen l = es.length) : PG X (.Tuple es k pos) (tG fr Γ X.K (.t l)) := by
  refine PG_mono (PG_or (pg_tup hc h asg_len (asg_star hs)) (pg_lst hc h asg_len (asg_star hs))) fun v σ H Q hh => ?_
  obtain ⟨ρ, ts, d, ρ', ⟨G, F1, F2, sr⟩, he, q⟩ := hh
  have rp := sr.last1 rfl
  obtain ⟨F3, y⟩ := sr.drop
  cases d with
  | tuple ds =>
    have he : tgsD l ds ρ = some ρ' := he
    obtain ⟨a, vs, rfl, h1, h2⟩ := Sn.tuple sr.sub (.inl rp)
    exact .inl ⟨a, vs, rfl, h1, by rw [h2.len, tgsD_len he, hl], ρ, ts, ds, ρ', h2.len, ⟨_, _, _, y.pushes h2⟩, he, q⟩
  | list ds =>
    have he : tgsD l ds ρ = some ρ' := he
    obtain ⟨a, vs, rfl, h1, h2⟩ := Sn.list sr.sub (.inl rp)
    exact .inr ⟨a, vs, rfl, .inl h1, by rw [h2.len, tgsD_len he, hl], ρ, ts, ds, ρ', h2.len, ⟨_, _, _, y.pushes h2⟩, he, q⟩
  | _ => cases he
/-! ### what is walked -/
variable (fr Γ) in
structure Wk (K : PySem.W.Frag) (fr' : Fr) (J : It) (ts us : List Tm) (ds : List D) (sv : List (Nat × D)) : Prop where
  go : ∀ i ρ σ ts' H (h : i < ds.length), SR fr' K Γ ρ σ (ts ++ us ++ ts') H → J.go i H ∧ ∀ x H', J.yld i H x H' → SR fr' K Γ ρ σ (ts ++ us ++ ts' ++ [⟨.fro, ds[i], x⟩]) H'
  stop : ∀ ρ σ ts' H, SR fr' K Γ ρ σ (ts ++ us ++ ts') H → J.stop ds.length H
  rest : ∀ ρ ρ' σ ts0 H, SR fr' K Γ ρ σ (ts0 ++ us) H → restD sv ρ = some ρ' → SR fr K Γ ρ' σ ts0 H
  weak : ∀ ρ σ ts0 H, SR fr' K Γ ρ σ ts0 H → SR fr K Γ ρ σ ts0 H
  pins : ∀ p ∈ fr'.pins, p ∈ fr.pins ∨ p.1 ∈ sv.map (·.1)
variable (Φ fr Γ) in
def tIt (K : PySem.W.Frag) (it : Iv) : TI := fun σ H R => ∃ ρ ts r, SR fr K Γ ρ σ ts H ∧ evI Φ it ρ = some r ∧ ∀ J H' us fr', SR fr' K Γ r.2.1 σ (ts ++ us) H' → Wk fr Γ K fr' J ts us r.1 r.2.2 → R J H'
theorem PI_mono {tg e : Expr} {t t' : TI} (h : PI X tg e t) (i : ∀ σ H R, t' σ H R → t σ H R) : PI X tg e t' := ⟨fun pins s σ H R I hw => h.run pins s σ H R I (i σ H R hw)⟩
theorem PI_or {tg e : Expr} {t t' : TI} (h : PI X tg e t) (h' : PI X tg e t') : PI X tg e (fun σ H R => t σ H R ∨ t' σ H R) := ⟨fun pins s σ H R I hw => by
  rcases hw with hw | hw
  · exact h.run pins s σ H R I hw
  · exact h'.run pins s σ H R I hw⟩
/-! ### ranges -/
theorem Wk.plain {K : PySem.W.Frag} {J : It} {ts : List Tm} {ds : List D} (go : ∀ i H (h : i < ds.length), J.go i H ∧ ∀ x H', J.yld i H x H' → H' = H ∧ ∃ j, ds[i] = .int j ∧ x = .int j) (stop : ∀ H, J.stop ds.length H) : Wk fr Γ K fr J ts [] ds [] where
  go := fun i ρ σ ts' H h s => by
    obtain ⟨g1, g2⟩ := go i H h
    refine ⟨g1, fun x H' y => ?_⟩
    obtain ⟨rfl, j, e1, rfl⟩ := g2 x H' y
    rw [e1]
    exact s.res rfl fun G => .int j
  stop := fun ρ σ ts' H s => stop H
  rest := fun ρ ρ' σ ts0 H s e => by
    cases e
    rw [List.append_nil] at s
    exact s
  weak := fun ρ σ ts0 H s => s
  pins := fun p h => .inl h
theorem Wk.rng {K : PySem.W.Frag} {ts : List Tm} {lo : Int} {n : Nat} : Wk fr Γ K fr (Itr lo n) ts [] (rngD lo n) [] := by
  have len : (rngD lo n).length = n := by simp [rngD]
  refine Wk.plain (fun i H h => ?_) fun H => ?_
  · rw [len] at h
    refine ⟨h, fun x H' y => ⟨y.1, lo + i, ?_, y.2⟩⟩
    simp [rngD]
  · show n ≤ _
    rw [len]
    exact Nat.le_refl _
theorem Wk.rngC {K : PySem.W.Frag} {ts : List Tm} {lo c : Int} {n : Nat} : Wk fr Γ K fr (Itc lo c n) ts [] (rngC lo c n) [] := by
  have len : (Vw.rngC lo c n).length = n := by simp [Vw.rngC]
  refine Wk.plain (fun i H h => ?_) fun H => ?_
  · rw [len] at h
    refine ⟨h, fun x H' y => ⟨y.1, lo + (i : Nat) * c, ?_, y.2⟩⟩
    simp [Vw.rngC]
  · show n ≤ _
    rw [len]
    exact Nat.le_refl _
theorem star1 {a : Expr} {env : Env} (h : noStar a = true) : starEach [a] env = [(false, eval a env)] := by
  rw [star_cons h]
  rfl
theorem star2 {a b : Expr} {env : Env} (h : noStar a = true) (h2 : noStar b = true) : starEach [a, b] env = [(false, eval a env), (false, eval b env)] := by
  rw [star_cons h, star1 h2]
theorem inR_of {i : Int} (h : inR i = true) : -(2 ^ 62) ≤ i ∧ i < 2 ^ 62 := of_decide_eq_true h
theorem it_r1 {tg a : Expr} {ea : E} {p : Pos} (hg : Gl X "range") (hm : X.mg "range" = none) (ha : PE X a (tE Φ fr X.K Γ .fro ea)) (hs : noStar a = true) : PI X tg (.Call (.Name "range" p) [a] [] pos) (tIt Φ fr Γ X.K (.r1 ea)) := by
  refine PI_mono (pi_range1 hg hm (pa_cons ha pa_nil (star_cons hs)) (star1 hs)) fun σ H R h => ?_
  obtain ⟨ρ, ts, r, sr, he, q⟩ := h
  obtain ⟨ra, e1, he⟩ := bind_inv he
  refine ⟨ρ, ts, ra, sr, e1, fun v H1 s1 => ?_⟩
  obtain ⟨G, F1, F2, y⟩ := id s1
  have rp := y.last1 rfl
  clear e1
  obtain ⟨d, ρ1⟩ := ra
  cases d with
  | int j =>
    cases rp
    have he : (if inR j = true then some (rngD 0 j.toNat, ρ1, []) else none) = some r := he
    split at he
    · rename_i c
      cases he
      refine ⟨j, rfl, (inR_of c).1, (inR_of c).2, q _ _ [] fr ?_ Wk.rng⟩
      rw [List.append_nil]
      exact s1.drop
    · cases he
  | _ => cases he
theorem it_r2 {tg a b : Expr} {ea eb : E} {p : Pos} (hg : Gl X "range") (hm : X.mg "range" = none) (ha : PE X a (tE Φ fr X.K Γ .fro ea)) (hb : PE X b (tE Φ fr X.K Γ .fro eb)) (hs : noStar a = true) (hs2 : noStar b = true) : PI X tg (.Call (.Name "range" p) [a, b] [] pos) (tIt Φ fr Γ X.K (.r2 ea eb)) := by
  refine PI_mono (pi_range2 hg hm (pa_cons ha (pa_cons hb pa_nil (star_cons hs2)) (star_cons hs)) (star2 hs hs2) (star1 hs2)) fun σ H R h => ?_
  obtain ⟨ρ, ts, r, sr, he, q⟩ := h
  obtain ⟨ra, e1, he⟩ := bind_inv he
  obtain ⟨rb, e2, he⟩ := bind_inv he
  refine ⟨ρ, ts, ra, sr, e1, fun v H1 s1 => ⟨ra.2, _, rb, s1, e2, fun u H2 s2 => ?_⟩⟩
  obtain ⟨G, F1, F2, y⟩ := id s2
  have rp := y.last2 rfl rfl
  clear e1 e2
  obtain ⟨d1, ρ1⟩ := ra
  obtain ⟨d2, ρ2⟩ := rb
  cases d1 with
  | int i =>
    cases d2 with
    | int j =>
      obtain ⟨r1, r2⟩ := rp
      cases r1
      cases r2
      have he : (if inR i = true ∧ inR j = true then some (rngD i (j - i).toNat, ρ2, []) else none) = some r := he
      split at he
      · rename_i c
        cases he
        refine ⟨i, j, rfl, ⟨(inR_of c.1).1, (inR_of c.1).2, (inR_of c.2).1, (inR_of c.2).2⟩, q _ _ [] fr ?_ Wk.rng⟩
        rw [List.append_nil]
        exact s2.drop.drop
      · cases he
    | _ => cases he
  | _ => cases he
theorem it_r3 {tg a b e : Expr} {ea eb ee : E} {p : Pos} (hg : Gl X "range") (hm : X.mg "range" = none) (ha : PE X a (tE Φ fr X.K Γ .fro ea)) (hb : PE X b (tE Φ fr X.K Γ .fro eb)) (hc : PE X e (tE Φ fr X.K Γ .fro ee)) (hs : noStar a = true) (hs2 : noStar b = true) (hs3 : noStar e = true) : PI X tg (.Call (.Name "range" p) [a, b, e] [] pos) (tIt Φ fr Γ X.K (.r3 ea eb ee)) := by
  refine PI_mono (pi_range3 hg hm (pa_cons ha (pa_cons hb (pa_cons hc pa_nil (star_cons hs3)) (star_cons hs2)) (star_cons hs)) (star_cons hs) (plain_cons hs2 (plain_cons hs3 rfl))) fun σ H R h => ?_
  obtain ⟨ρ, ts, r, sr, he, q⟩ := h
  obtain ⟨ra, e1, he⟩ := bind_inv he
  obtain ⟨rb, e2, he⟩ := bind_inv he
  obtain ⟨rc, e3, he⟩ := bind_inv he
  refine ⟨ρ, ts, ra, sr, e1, fun v H1 s1 => ⟨ra.2, _, rb, s1, e2, fun u H2 s2 => ⟨rb.2, _, rc, s2, e3, fun u3 H3 s3 => ?_⟩⟩⟩
  obtain ⟨G, F1, F2, y⟩ := id s3
  have rp := y.last3 rfl rfl rfl
  clear e1 e2 e3
  obtain ⟨d1, ρ1⟩ := ra
  obtain ⟨d2, ρ2⟩ := rb
  obtain ⟨d3, ρ3⟩ := rc
  cases d1 with
  | int i =>
    cases d2 with
    | int j =>
      cases d3 with
      | int c =>
        obtain ⟨r1, r2, r3⟩ := rp
        cases r1
        cases r2
        cases r3
        have he : (if inR i = true ∧ inR j = true ∧ c = -1 then some (rngC i c (i - j).toNat, ρ3, []) else none) = some r := he
        split at he
        · rename_i cc
          cases he
          obtain ⟨c1, c2, rfl⟩ := cc
          refine ⟨i, j, -1, (i - j).toNat, rfl, RgC.neg (inR_of c1).1 (inR_of c1).2 (inR_of c2).1 (inR_of c2).2, q _ _ [] fr ?_ Wk.rngC⟩
          rw [List.append_nil]
          exact s3.drop.drop.drop
        · cases he
      | _ => cases he
    | _ => cases he
  | _ => cases he
end
end Vw
/-! enumerate of a tuple, as a walk. -/
namespace Vw
open PySem PySem.Spec PyProof.Rows L2
theorem meets_en_newB {v : Value} {o : Obj} {H : Heap → Prop} (B : Begins v o H) :
    Meets (Builtin.«enumerate.__new__» ⟨[.type "enumerate", v], []⟩) (fun _ R s => H s.heap ∧
      R (.ok (.ret (.ref (s.heap.push o).objs.size))) { s with heap := (s.heap.push o).push { cls := .type "enumerate", data := .fields #[.none, .bool false, .ref s.heap.objs.size, rawInt 0, .none, .none] } }) :=
  .of_wp fun prog w A R s h => by
    obtain ⟨hp, g, d, tk, os⟩ := s; obtain ⟨h1, h⟩ := h
    have hsub := sub_enumerate
    have q1 : ∀ {A' : Around} {E : Value → Shared → Prop} {Q : Value → Shared → Prop}, Q (.ref hp.objs.size) ⟨hp.push o, g, d, tk, os⟩ → wpAny (model prog w) A' (pyIter v) Q E ⟨hp, g, d, tk, os⟩ :=
      fun q => B.iter prog w _ _ ⟨hp, g, d, tk, os⟩ _ h1 q
    wp_walk using q1
    refine wpAny_stack_any fun st => wpAny_pure ?_
    split
    · rename_i c _ _ _ _ _
      cases (c == Value.type "enumerate")
      · wp_walk using q1
        exact ⟨_, rfl, h⟩
      · wp_walk using q1
        exact ⟨_, rfl, h⟩
    · wp_walk using q1
      exact ⟨_, rfl, h⟩
section
variable {prog : Program} {w : World} {A : Around} {E : Value → Shared → Prop} {s : Shared}
theorem en_begins {v : Value} {o : Obj} {H : Heap → Prop} {Q : Value → Shared → Prop} (B : Begins v o H) (h1 : H s.heap)
    (h : ∀ h', IsEnum h' (s.heap.objs.size + 1) s.heap.objs.size 0 .none → h'.get? s.heap.objs.size = some o → h'.objs.size = s.heap.objs.size + 2 →
      (∀ b o, s.heap.get? b = some o → h'.get? b = some o) → Q (.ref (s.heap.objs.size + 1)) { s with heap := h' }) :
    wpAny (model prog w) A (call (.type "enumerate") [v]) Q E s := by
  refine callType_new F.called_enumerate (by decide) (F.typeCall_enumerate_1 _) (F.newCall_enumerate_1 _) (fun obj => F.args_object_init_2 obj _) F.entry_enumerate_new
    (meets_en_newB B) ⟨h1, ?_⟩
  have hz : (s.heap.push o).objs.size = s.heap.objs.size + 1 := Heap.size_push ..
  show _ ∧ _
  rw [hz]
  have he : IsEnum ((s.heap.push o).push { cls := .type "enumerate", data := .fields #[.none, .bool false, .ref s.heap.objs.size, rawInt 0, .none, .none] }) (s.heap.objs.size + 1) s.heap.objs.size 0 .none := by
    have := Heap.get?_push_size (s.heap.push o) (o := { cls := .type "enumerate", data := .fields #[.none, .bool false, .ref s.heap.objs.size, rawInt 0, .none, .none] }) rfl
    rw [hz] at this; exact this
  refine ⟨⟨_, he, rfl⟩, h _ he (Heap.get?_push_of_some _ (Heap.get?_push_size _ B.free)) (by rw [Heap.size_push, hz]) fun b o x => Heap.get?_push_of_some _ (Heap.get?_push_of_some _ x)⟩
end
/-- the tuple at a as it stands at each turn, each item in a new pair -/
def IteT (K : PySem.W.Frag) (a : Addr) : L2.It :=
  ⟨fun i H => ∃ (xs : List V) (x : V), SqT K H a xs ∧ xs[i]? = some x, fun i H v H' => ∃ T x, v = .ref T ∧ H T = none ∧ H' = upd H T (.tup [.int (i : Nat), x]) ∧ ∀ xs, SqT K H a xs → xs[i]? = some x, fun i H => ∃ xs : List V, SqT K H a xs ∧ xs.length = i⟩
theorem turn_enT {P : Program} {w : World} {K : PySem.W.Frag} {elts : List Expr} {kk : Nat} {tpos : Pos} (a e it : Addr) (hne : e ≠ it) (hai : a ≠ it) (hae : e ≠ a) :
    Turn P w K (.Tuple elts kk tpos) (IteT K a) [e, it] e (fun i h => (∃ old, IsEnum h e it ((i : Nat) : Int) old) ∧ h.IsTupleIter it a i) where
  mem := by simp
  obj := fun i h st b hb => by
    obtain ⟨⟨old, he⟩, ⟨o, ho, hc, hd⟩⟩ := st
    have e' : b = e ∨ b = it := by simpa using hb
    rcases e' with z | z
    · rw [z]; exact ⟨_, he, fun v q => nomatch q⟩
    · rw [z]; exact ⟨o, ho, fun v q => by rw [hd] at q; cases q⟩
  keep := fun i h h' st k => let ⟨⟨old, he⟩, hi⟩ := st; ⟨⟨old, k e (by simp) _ he⟩, hi.at fun o q => k it (by simp) o q⟩
  item := by
    intro X hP hw hK hc i pins s σ H E I hf st hg
    subst hP hw hK
    obtain ⟨⟨old, he⟩, hit⟩ := st
    obtain ⟨xs, x, hq, hx⟩ := hg
    obtain ⟨its, rv, p, hz⟩ := I.tuple hq
    obtain ⟨u, hu, ru⟩ := rv.get hx
    have hel : e < s.heap.objs.size := Heap.lt_size he
    have hil : it < s.heap.objs.size := by obtain ⟨_, q, _⟩ := hit; exact Heap.lt_size q
    have hlt : i < its.toArray.size := by
      have := (List.getElem?_eq_some_iff.mp hu).1
      simpa using this
    refine wpAny_pyNext_enum_itemD (Draws.tuple (prog := X.prog) (w := X.w) (A := X.A.in1) (show X.A.in1.handled = none from I.ok.hd hc) it a hai its.toArray) he ⟨hit, p⟩ hlt hne (by simp [hne, hae]) fun x2 h' tk hx2 ho hit' hT hsz hk => ?_
    have ex : x2 = u := by
      have q : its.toArray[i]? = some u := by simpa using hu
      rw [q] at hx2
      exact (Option.some.inj hx2).symm
    subst ex
    refine ⟨_, rfl, wpAny_letOwnedTupleGo_enum (s := { s with heap := h', toks := tk + 1 }) ho fun h'' he' sb => ?_⟩
    have hT2 : h''.get? s.heap.objs.size = some { cls := .type "tuple", data := .seq #[.int i tk, x2] } := (sb.2 _ (Nat.ne_of_gt hel)).trans hT
    have new : ObjOk X.prog X.w (upd H s.heap.objs.size (.tup [.int (i : Nat), x])) h'' s.heap.objs.size (.tup [.int (i : Nat), x]) :=
      ⟨by show 2 ≤ sizeLine; decide, [.int i tk, x2], .cons ⟨_, rfl⟩ (.cons ru .nil), ⟨_, hT2, rfl, _, rfl⟩⟩
    have I1 : Inv X pins σ (upd H s.heap.objs.size (.tup [.int (i : Nat), x])) { s with heap := h'', toks := tk + 1 } :=
      I.turnedNew (ch := [e, it]) (fun b ob hb q => (sb.2 b (fun z => hb (by simp [z]))).trans (hk b ob (fun z => hb (by simp [z])) (fun z => hb (by simp [z])) q)) hf (Nat.le_refl _) new
    refine ⟨.ref s.heap.objs.size, _, I1, rfl, ⟨_, x, rfl, I.hok.fresh (Nat.le_refl _), rfl, fun ys hy => by rw [I.tuple_inj hy hq]; exact hx⟩, ⟨⟨x2, ?_⟩, hit'.1.at fun o q => (sb.2 it (Ne.symm hne)).trans q⟩, fun b hb => ?_⟩
    · have e1 : ((i + 1 : Nat) : Int) = (i : Int) + 1 := by omega
      rw [e1]; exact he'
    · have hb' : b < s.heap.objs.size := by
        have e' : b = e ∨ b = it := by simpa using hb
        rcases e' with z | z
        · rw [z]; exact hel
        · rw [z]; exact hil
      rw [upd_ne (Nat.ne_of_lt hb')]
      exact (hf b hb).1
  done := by
    intro X hP hw hK hc i pins s σ H E I hf st hg
    subst hP hw hK
    obtain ⟨⟨old, he⟩, hit⟩ := st
    obtain ⟨xs, hq, hx⟩ := hg
    obtain ⟨its, rv, p, hz⟩ := I.tuple hq
    obtain ⟨f0, f1, f2, f3, f4, f5⟩ := hf it (by simp)
    have hl : i = its.toArray.size := by
      have := rv.length
      simp
      omega
    subst hl
    exact wpAny_pyNext_enum_endD (Draws.tuple (prog := X.prog) (w := X.w) (A := X.A.in1) (show X.A.in1.handled = none from I.ok.hd hc) it a hai its.toArray) he ⟨hit, p⟩ fun h' eb => ⟨rfl, I.turned (t' := s.toks) (fun b o hb q => eb b o hb q) f0 f1 f3 f4 f5⟩
  self := fun A i s Q E st h => let ⟨⟨_, he⟩, _⟩ := st; wpAny_pyIter_enum he h
def iEnumT (K : PySem.W.Frag) (ta : TA) : TI := fun σ H R => ta σ H fun vs H1 => ∃ a xs, vs = [.ref a] ∧ SqT K H1 a xs ∧ R (IteT K a) H1
theorem pi_enumT {X : Cx} {e : Expr} {ta : TA} {p pos tpos : Pos} {elts : List Expr} {kk : Nat} (hg : Gl X "enumerate") (hm : X.mg "enumerate" = none) (ha : PA X [e] ta) (hs : starEach [e] X.env = [(false, eval e X.env)]) :
    PI X (.Tuple elts kk tpos) (.Call (.Name "enumerate" p) [e] [] pos) (iEnumT X.K ta) := by
  refine ⟨fun pins s σ H R I h => ?_⟩
  refine Call_ (ld_blt I hg hm boot_enumerate (PyProof.Rows.callWith_type1 (thn (ha.run pos pins s σ H _ I h) fun us s1 ⟨vs, H1, I1, r1, q1⟩ => ?_) hs rfl))
  obtain ⟨a, xs, ex, hq, q⟩ := q1
  subst ex
  cases r1 with
  | cons r rr =>
    cases rr
    cases r
    obtain ⟨its, rv, p', hz⟩ := I1.tuple hq
    have hal : a < s1.heap.objs.size := by obtain ⟨o, q, _⟩ := p'; exact Heap.lt_size q
    refine en_begins (begins_tuple a its.toArray) p' fun h' he hit hsz hk => wpAny_pyIter_enum he ?_
    have I2 : Inv X pins σ H1 { s1 with heap := h' } := I1.kept (t' := s1.toks) hk
    refine ⟨s1.heap.objs.size + 1, [s1.heap.objs.size + 1, s1.heap.objs.size], _, _, H1, rfl, I2, turn_enT a (s1.heap.objs.size + 1) s1.heap.objs.size (Nat.succ_ne_self _) (Nat.ne_of_lt hal) (Nat.ne_of_gt (Nat.lt_succ_of_lt hal)), ⟨⟨.none, he⟩, ⟨_, hit, rfl, rfl⟩⟩, fun b hb => ?_, q⟩
    have e' : b = s1.heap.objs.size + 1 ∨ b = s1.heap.objs.size := by simpa using hb
    have hle : s1.heap.objs.size ≤ b := by
      rcases e' with z | z
      · rw [z]; exact Nat.le_add_right _ _
      · rw [z]; exact Nat.le_refl _
    exact I1.fpOk hle (I1.hok.fresh hle)
end Vw
namespace Vw
open PySem PySem.Spec PyProof.Rows L2
abbrev Fr.pin (fr : Fr) (i : Nat) (v : V) : Fr := { fr with pins := (i, v) :: fr.pins }
section
variable {K : PySem.W.Frag} {G H : Hp} {F1 F2 : List Addr} {Γ : List Ty} {ρ : Rho} {σ : Sg} {ts us : List Tm}
theorem SRd.pinned {fr : Fr} (x : SRd fr K G F1 F2 Γ ρ σ ts H) {i : Nat} {v : V} (h : σ[i]? = some (some v)) : SRd (fr.pin i v) K G F1 F2 Γ ρ σ ts H :=
  ⟨x.sub, x.sl, x.tm, x.nd, x.out, x.ok.keep, x.ok.mono, x.ok.sG, x.ok.nG, fun p hp => by
    rcases List.mem_cons.mp hp with rfl | hp
    · exact h
    · exact x.ok.pin p hp⟩
theorem SRd.unpin {fr : Fr} {i : Nat} {v : V} (x : SRd (fr.pin i v) K G F1 F2 Γ ρ σ ts H) : SRd fr K G F1 F2 Γ ρ σ ts H :=
  ⟨x.sub, x.sl, x.tm, x.nd, x.out, x.ok.keep, x.ok.mono, x.ok.sG, x.ok.nG, fun p hp => x.ok.pin p (List.mem_cons_of_mem _ hp)⟩
theorem SRd.midOwn {fr : Fr} {ts' : List Tm} {y : Tm} (x : SRd fr K G F1 F2 Γ ρ σ (ts ++ [y] ++ ts') H) : ∃ F, Own K G H y.t y.d y.v F := by
  obtain ⟨_, _, _, a, _⟩ := x.tm.app
  obtain ⟨_, F4, _, _, b⟩ := a.app
  exact ⟨F4, b.one⟩
theorem Own.sn {t : Ty} {d : D} {v : V} {F : List Addr} (h : Own K G H t d v F) (c : t = .fro ∨ t = .lst .fro) : Sn K G H d v := by
  rcases c with rfl | rfl
  · exact .inl h.2
  · rcases h with ⟨_, _, q⟩ | ⟨ds, a, vs, F', q1, q2, q3, q4, q5⟩
    · exact .inl q
    · exact .inr ⟨ds, a, vs, q1, q2, q4, q5.fro.2⟩
end
section
variable {X : Cx} {Φ : Cf} {fr : Fr} {Γ : List Ty} {w : Ty} {pos : Pos}
/-- what is walked stands among what is held -/
theorem Wk.one {K : PySem.W.Frag} {fr' : Fr} {J : It} {ts : List Tm} {t : Ty} {d : D} {v : V} {ds : List D} {sv : List (Nat × D)} (ht : t = .fro ∨ t = .lst .fro)
    (go : ∀ G F1 F2 ρ σ ts' H i (h : i < ds.length), SRd fr' K G F1 F2 Γ ρ σ ts' H → Sn K G H d v → J.go i H ∧ ∀ x H', J.yld i H x H' → SR fr' K Γ ρ σ (ts' ++ [⟨.fro, ds[i], x⟩]) H')
    (stop : ∀ G H, Same G H → Sn K G H d v → J.stop ds.length H)
    (h : (t = .fro ∧ sv = [] ∧ fr' = fr) ∨ ∃ i, t = .lst .fro ∧ Γ[i]? = some (.lst .fro) ∧ sv = [(i, d)] ∧ fr' = fr.pin i v) : Wk fr Γ K fr' J ts [⟨t, d, v⟩] ds sv where
  go := fun i ρ σ ts' H h s => by
    obtain ⟨G, F1, F2, y⟩ := s
    obtain ⟨F, ow⟩ := y.midOwn
    exact go G F1 F2 ρ σ _ H i h y (ow.sn ht)
  stop := fun ρ σ ts' H s => by
    obtain ⟨G, F1, F2, y⟩ := s
    obtain ⟨F, ow⟩ := y.midOwn
    exact stop G H y.sub (ow.sn ht)
  rest := fun ρ ρ' σ ts0 H s e => by
    rcases h with ⟨rfl, rfl, rfl⟩ | ⟨i, rfl, hg, rfl, rfl⟩
    · cases e
      exact s.drop
    · obtain ⟨ρ1, e1, e⟩ := bind_inv e
      cases e1
      obtain ⟨G, F1, F2, y⟩ := s
      have hv := y.ok.pin (i, v) List.mem_cons_self
      split at e
      · rename_i e0
        cases e
        obtain ⟨F3, F4, z⟩ := y.putBack e0 hg hv
        exact ⟨_, _, _, z.unpin⟩
      · cases e
  weak := fun ρ σ ts0 H s => by
    rcases h with ⟨rfl, rfl, rfl⟩ | ⟨i, rfl, hg, rfl, rfl⟩
    · exact s
    · obtain ⟨G, F1, F2, y⟩ := s
      exact ⟨_, _, _, y.unpin⟩
  pins := fun p hp => by
    rcases h with ⟨rfl, rfl, rfl⟩ | ⟨i, rfl, hg, rfl, rfl⟩
    · exact .inl hp
    · rcases List.mem_cons.mp hp with rfl | hp
      · exact .inr (by simp)
      · exact .inl hp
/-- how a walked operand is held -/
def HoldW (Γ : List Ty) (fr : Fr) : O → V → D → List Tm → Fr → List (Nat × D) → Prop
  | .e _, v, d, us, fr', sv => us = [⟨.fro, d, v⟩] ∧ fr' = fr ∧ sv = []
  | .s i, v, d, us, fr', sv => us = [⟨.lst .fro, d, v⟩] ∧ fr' = fr.pin i v ∧ sv = [(i, d)] ∧ Γ[i]? = some (.lst .fro)
variable (Φ fr Γ) in
def tW (K : PySem.W.Frag) (o : O) : TE := fun σ H Q => ∃ ρ ts r, SR fr K Γ ρ σ ts H ∧ evW Φ o ρ = some r ∧ ∀ v H' us fr', SR fr' K Γ r.2.1 σ (ts ++ us) H' → HoldW Γ fr o v r.1 us fr' r.2.2 → Q v H'
theorem w_e {e : Expr} {a : E} (h : PE X e (tE Φ fr X.K Γ .fro a)) : PE X e (tW Φ fr Γ X.K (.e a)) := by
  refine PE_mono h fun σ H Q h => ?_
  obtain ⟨ρ, ts, r, sr, he, q⟩ := h
  obtain ⟨ra, e1, rfl⟩ := map_inv he
  exact ⟨ρ, ts, ra, sr, e1, fun v H' s' => q v H' _ fr s' ⟨rfl, rfl, rfl⟩⟩
theorem w_s {i : Nat} {x : Str} (hN : X.N[i]? = some x) (hv : Vis X.env.scope x) (hw : Γ[i]? = some (.lst .fro)) (hd : (x == ("__debug__" : Str)) = false) (hcd : (x == ("__classdict__" : Str)) = false) :
    PE X (.Name x pos) (tW Φ fr Γ X.K (.s i)) := by
  refine PE_mono (pe_var hN hv hd hcd) fun σ H Q h => ?_
  obtain ⟨ρ, ts, r, ⟨G, F1, F2, sr⟩, he, q⟩ := h
  obtain ⟨d, e1, rfl⟩ := map_inv he
  obtain ⟨t', v, F3, F4, e2, e3, y⟩ := sr.takeOut e1
  rw [hw] at e2
  cases e2
  exact ⟨v, e3, q v H _ (fr.pin i v) ⟨_, _, _, y.pinned e3⟩ ⟨rfl, rfl, rfl, hw⟩⟩
theorem HoldW.or {o : O} {v : V} {d : D} {us : List Tm} {fr' : Fr} {sv : List (Nat × D)} (h : HoldW Γ fr o v d us fr' sv) : ∃ t, us = [⟨t, d, v⟩] ∧ (t = .fro ∨ t = .lst .fro) ∧ ((t = .fro ∧ sv = [] ∧ fr' = fr) ∨ ∃ i, t = .lst .fro ∧ Γ[i]? = some (.lst .fro) ∧ sv = [(i, d)] ∧ fr' = fr.pin i v) := by
  cases o with
  | e a => exact ⟨.fro, h.1, .inl rfl, .inl ⟨rfl, h.2.2, h.2.1⟩⟩
  | s i => exact ⟨.lst .fro, h.1, .inr rfl, .inr ⟨i, rfl, h.2.2.2, h.2.2.1, h.2.1⟩⟩
theorem it_o {tg a : Expr} {oa : O} (ha : PE X a (tW Φ fr Γ X.K oa)) : PI X tg a (tIt Φ fr Γ X.K (.o oa)) := by
  refine PI_mono (PI_or (pi_list ha) (pi_tup ha)) fun σ H R h => ?_
  obtain ⟨ρ, ts, r, sr, he, q⟩ := h
  obtain ⟨ra, e1, he⟩ := bind_inv he
  obtain ⟨l, e2, rfl⟩ := map_inv he
  obtain ⟨d, ρ1, sv⟩ := ra
  cases d with
  | list l' =>
    cases e2
    refine .inl ⟨ρ, ts, _, sr, e1, fun v H1 us fr' s1 hd => ?_⟩
    obtain ⟨t, rfl, c1, c2⟩ := hd.or
    obtain ⟨G, F1, F2, y⟩ := id s1
    have y0 : SRd fr' X.K G F1 F2 Γ ρ1 σ (ts ++ [⟨t, .list l, v⟩] ++ []) H1 := by rw [List.append_nil]; exact y
    obtain ⟨F, ow⟩ := y0.midOwn
    obtain ⟨a, vs, e3, h1, h2⟩ := (ow.sn c1).list y.sub
    have e3 : v = .ref a := e3
    subst e3
    refine ⟨a, rfl, ⟨vs, .inl h1⟩, q _ _ _ fr' s1 (Wk.one c1 (fun G F1 F2 ρ σ ts' H i hi s sn => ?_) (fun G H sG sn => ?_) c2)⟩
    · obtain ⟨b, ws, e4, g1, g2⟩ := sn.list s.sub
      cases e4
      obtain ⟨x, e5, rx⟩ := g2.get (List.getElem?_eq_getElem hi)
      refine ⟨⟨ws, x, .inl g1, e5⟩, fun x' H' yl => ?_⟩
      obtain ⟨rfl, yl⟩ := yl
      have := yl ws (.inl g1)
      rw [e5] at this
      cases this
      exact ⟨_, _, _, s.push rx⟩
    · obtain ⟨b, ws, e4, g1, g2⟩ := sn.list sG
      cases e4
      exact ⟨ws, .inl g1, by rw [g2.len]; exact Nat.le_refl _⟩
  | tuple l' =>
    cases e2
    refine .inr ⟨ρ, ts, _, sr, e1, fun v H1 us fr' s1 hd => ?_⟩
    obtain ⟨t, rfl, c1, c2⟩ := hd.or
    obtain ⟨G, F1, F2, y⟩ := id s1
    have y0 : SRd fr' X.K G F1 F2 Γ ρ1 σ (ts ++ [⟨t, .tuple l, v⟩] ++ []) H1 := by rw [List.append_nil]; exact y
    obtain ⟨F, ow⟩ := y0.midOwn
    obtain ⟨a, vs, e3, h1, h2⟩ := (ow.sn c1).tuple y.sub
    have e3 : v = .ref a := e3
    subst e3
    refine ⟨a, rfl, ⟨vs, h1⟩, q _ _ _ fr' s1 (Wk.one c1 (fun G F1 F2 ρ σ ts' H i hi s sn => ?_) (fun G H sG sn => ?_) c2)⟩
    · obtain ⟨b, ws, e4, g1, g2⟩ := sn.tuple s.sub
      cases e4
      obtain ⟨x, e5, rx⟩ := g2.get (List.getElem?_eq_getElem hi)
      refine ⟨⟨ws, x, g1, e5⟩, fun x' H' yl => ?_⟩
      obtain ⟨rfl, yl⟩ := yl
      have := yl ws g1
      rw [e5] at this
      cases this
      exact ⟨_, _, _, s.push rx⟩
    · obtain ⟨b, ws, e4, g1, g2⟩ := sn.tuple sG
      cases e4
      exact ⟨ws, g1, by rw [g2.len]; exact Nat.le_refl _⟩
  | _ => cases e2
theorem enumD_len (l : List D) : (enumD l).length = l.length := by simp [enumD]
theorem enumD_at {l : List D} {i : Nat} (h : i < l.length) : (enumD l)[i]'(by rw [enumD_len]; exact h) = .tuple [.int (i : Nat), l[i]] := by
  simp [enumD, List.getD, List.getElem?_eq_getElem h]
theorem it_en {a : Expr} {oa : O} {p tpos : Pos} {elts : List Expr} {kk : Nat} (hg : Gl X "enumerate") (hm : X.mg "enumerate" = none) (ha : PE X a (tW Φ fr Γ X.K oa)) (hs : noStar a = true) : PI X (.Tuple elts kk tpos) (.Call (.Name "enumerate" p) [a] [] pos) (tIt Φ fr Γ X.K (.en oa)) := by
  have hA := pa_cons ha pa_nil (star_cons (env := X.env) hs)
  refine PI_mono (PI_or (pi_enum hg hm hA (star1 hs)) (pi_enumT hg hm hA (star1 hs))) fun σ H R h => ?_
  obtain ⟨ρ, ts, r, sr, he, q⟩ := h
  obtain ⟨ra, e1, he⟩ := bind_inv he
  obtain ⟨l, e2, rfl⟩ := map_inv he
  obtain ⟨d, ρ1, sv⟩ := ra
  cases d with
  | list l' =>
    cases e2
    refine .inl ⟨ρ, ts, _, sr, e1, fun v H1 us fr' s1 hd => ?_⟩
    obtain ⟨t, rfl, c1, c2⟩ := hd.or
    obtain ⟨G, F1, F2, y⟩ := id s1
    have y0 : SRd fr' X.K G F1 F2 Γ ρ1 σ (ts ++ [⟨t, .list l, v⟩] ++ []) H1 := by rw [List.append_nil]; exact y
    obtain ⟨F, ow⟩ := y0.midOwn
    obtain ⟨a, vs, e3, h1, h2⟩ := (ow.sn c1).list y.sub
    have e3 : v = .ref a := e3
    subst e3
    refine ⟨a, vs, rfl, .inl h1, q _ _ _ fr' s1 (Wk.one c1 (fun G F1 F2 ρ σ ts' H i hi s sn => ?_) (fun G H sG sn => ?_) c2)⟩
    · obtain ⟨b, ws, e4, g1, g2⟩ := sn.list s.sub
      cases e4
      have hi2 : i < l.length := by rw [← enumD_len]; exact hi
      obtain ⟨x, e5, rx⟩ := g2.get (List.getElem?_eq_getElem hi2)
      refine ⟨⟨ws, x, .inl g1, e5⟩, fun x' H' yl => ?_⟩
      obtain ⟨T, x2, rfl, hT, rfl, yl⟩ := yl
      have := yl ws (.inl g1)
      rw [e5] at this
      cases this
      rw [enumD_at hi2]
      exact s.newTup (.cons (.int _) (.cons rx .nil)) hT
    · obtain ⟨b, ws, e4, g1, g2⟩ := sn.list sG
      cases e4
      exact ⟨ws, .inl g1, by rw [g2.len, enumD_len]; exact Nat.le_refl _⟩
  | tuple l' =>
    cases e2
    refine .inr ⟨ρ, ts, _, sr, e1, fun v H1 us fr' s1 hd => ?_⟩
    obtain ⟨t, rfl, c1, c2⟩ := hd.or
    obtain ⟨G, F1, F2, y⟩ := id s1
    have y0 : SRd fr' X.K G F1 F2 Γ ρ1 σ (ts ++ [⟨t, .tuple l, v⟩] ++ []) H1 := by rw [List.append_nil]; exact y
    obtain ⟨F, ow⟩ := y0.midOwn
    obtain ⟨a, vs, e3, h1, h2⟩ := (ow.sn c1).tuple y.sub
    have e3 : v = .ref a := e3
    subst e3
    refine ⟨a, vs, rfl, h1, q _ _ _ fr' s1 (Wk.one c1 (fun G F1 F2 ρ σ ts' H i hi s sn => ?_) (fun G H sG sn => ?_) c2)⟩
    · obtain ⟨b, ws, e4, g1, g2⟩ := sn.tuple s.sub
      cases e4
      have hi2 : i < l.length := by rw [← enumD_len]; exact hi
      obtain ⟨x, e5, rx⟩ := g2.get (List.getElem?_eq_getElem hi2)
      refine ⟨⟨ws, x, g1, e5⟩, fun x' H' yl => ?_⟩
      obtain ⟨T, x2, rfl, hT, rfl, yl⟩ := yl
      have := yl ws g1
      rw [e5] at this
      cases this
      rw [enumD_at hi2]
      exact s.newTup (.cons (.int _) (.cons rx .nil)) hT
    · obtain ⟨b, ws, e4, g1, g2⟩ := sn.tuple sG
      cases e4
      exact ⟨ws, g1, by rw [g2.len, enumD_len]⟩
  | _ => cases e2
theorem zipD_len (l m : List D) : (zipD l m).length = min l.length m.length := by simp [zipD]
theorem zipD_at {l m : List D} {i : Nat} (h : i < l.length) (h2 : i < m.length) : (zipD l m)[i]'(by rw [zipD_len]; omega) = .tuple [l[i], m[i]] := by
  simp [zipD, List.getD, List.getElem?_eq_getElem h, List.getElem?_eq_getElem h2]
theorem SRd.mid2 {K : PySem.W.Frag} {G H : Hp} {F1 F2 : List Addr} {ρ : Rho} {σ : Sg} {ts ts' : List Tm} {y z : Tm} (x : SRd fr K G F1 F2 Γ ρ σ (ts ++ [y, z] ++ ts') H) (h1 : y.t = .fro) (h2 : z.t = .fro) : Rp K G y.v y.d ∧ Rp K G z.v z.d := by
  obtain ⟨_, _, _, a, _⟩ := x.tm.app
  obtain ⟨_, F4, _, _, b⟩ := a.app
  obtain ⟨_, _, _, p, q⟩ := b
  have q := q.one
  rw [h1] at p
  rw [h2] at q
  exact ⟨p.2, q.2⟩
theorem it_zp {a b : Expr} {ea eb : E} {p tpos : Pos} {elts : List Expr} {kk : Nat} (hg : Gl X "zip") (hm : X.mg "zip" = none) (ha : PE X a (tE Φ fr X.K Γ .fro ea)) (hb : PE X b (tE Φ fr X.K Γ .fro eb)) (hs : noStar a = true) (hs2 : noStar b = true) : PI X (.Tuple elts kk tpos) (.Call (.Name "zip" p) [a, b] [] pos) (tIt Φ fr Γ X.K (.zp ea eb)) := by
  refine PI_mono (RZ.pi_zipA hg hm (pa_cons ha (pa_cons hb pa_nil (star_cons hs2)) (star_cons hs)) (star_cons hs) (plain_cons hs2 rfl)) fun σ H R h => ?_
  obtain ⟨ρ, ts, r, sr, he, q⟩ := h
  obtain ⟨ra, e1, he⟩ := bind_inv he
  obtain ⟨rb, e2, he⟩ := bind_inv he
  refine ⟨ρ, ts, ra, sr, e1, fun v H1 s1 => ⟨ra.2, _, rb, s1, e2, fun u H2 s2 => ?_⟩⟩
  obtain ⟨G, F1, F2, y⟩ := id s2
  have rp := y.last2 rfl rfl
  clear e1 e2
  obtain ⟨d1, ρ1⟩ := ra
  obtain ⟨d2, ρ2⟩ := rb
  have s3 : SR fr X.K Γ ρ2 σ (ts ++ [⟨.fro, d1, v⟩, ⟨.fro, d2, u⟩]) H2 := by
    have := s2
    rw [List.append_assoc] at this
    exact this
  cases d1 with
  | list l =>
    cases d2 with
    | list m =>
      cases he
      obtain ⟨a, vs, e3, h1, h2⟩ := Sn.list y.sub (.inl rp.1)
      obtain ⟨b, ws, e4, g1, g2⟩ := Sn.list y.sub (.inl rp.2)
      have e3 : v = .ref a := e3
      have e4 : u = .ref b := e4
      subst e3 e4
      refine ⟨a, b, vs, ws, rfl, .inl ⟨.inl h1, .inl g1, q _ _ [⟨.fro, .list l, .ref a⟩, ⟨.fro, .list m, .ref b⟩] fr s3 ?_⟩⟩
      refine ⟨fun i ρ σ ts' H hi s => ?_, fun ρ σ ts' H s => ?_, fun ρ ρ' σ ts0 H s e => by cases e; exact s.drop, fun _ _ _ _ s => s, fun p hp => .inl hp⟩
      · obtain ⟨G, F1, F2, s⟩ := s
        obtain ⟨r1, r2⟩ := s.mid2 rfl rfl
        have hi2 : i < l.length ∧ i < m.length := by
          have := hi
          rw [zipD_len] at this
          omega
        obtain ⟨a', xs, e5, k1, k2⟩ := Sn.list s.sub (.inl r1)
        obtain ⟨b', ys, e6, k3, k4⟩ := Sn.list s.sub (.inl r2)
        cases e5
        cases e6
        obtain ⟨x, e7, rx⟩ := k2.get (List.getElem?_eq_getElem hi2.1)
        obtain ⟨z, e8, rz⟩ := k4.get (List.getElem?_eq_getElem hi2.2)
        refine ⟨⟨xs, ys, x, z, .inl k1, .inl k3, e7, e8⟩, fun x' H' yl => ?_⟩
        obtain ⟨T, x2, z2, rfl, hT, rfl, y1, y2⟩ := yl
        have q1 := y1 xs (.inl k1)
        have q2 := y2 ys (.inl k3)
        rw [e7] at q1
        rw [e8] at q2
        cases q1
        cases q2
        rw [zipD_at hi2.1 hi2.2]
        exact s.newTup (.cons rx (.cons rz .nil)) hT
      · obtain ⟨G, F1, F2, s⟩ := s
        obtain ⟨r1, r2⟩ := s.mid2 rfl rfl
        obtain ⟨a', xs, e5, k1, k2⟩ := Sn.list s.sub (.inl r1)
        obtain ⟨b', ys, e6, k3, k4⟩ := Sn.list s.sub (.inl r2)
        cases e5
        cases e6
        refine ⟨xs, ys, .inl k1, .inl k3, ?_⟩
        rw [zipD_len, k2.len, k4.len]
        omega
    | _ => cases he
  | tuple l =>
    cases d2 with
    | tuple m =>
      cases he
      obtain ⟨a, vs, e3, h1, h2⟩ := Sn.tuple y.sub (.inl rp.1)
      obtain ⟨b, ws, e4, g1, g2⟩ := Sn.tuple y.sub (.inl rp.2)
      have e3 : v = .ref a := e3
      have e4 : u = .ref b := e4
      subst e3 e4
      refine ⟨a, b, vs, ws, rfl, .inr ⟨h1, g1, q _ _ [⟨.fro, .tuple l, .ref a⟩, ⟨.fro, .tuple m, .ref b⟩] fr s3 ?_⟩⟩
      refine ⟨fun i ρ σ ts' H hi s => ?_, fun ρ σ ts' H s => ?_, fun ρ ρ' σ ts0 H s e => by cases e; exact s.drop, fun _ _ _ _ s => s, fun p hp => .inl hp⟩
      · obtain ⟨G, F1, F2, s⟩ := s
        obtain ⟨r1, r2⟩ := s.mid2 rfl rfl
        have hi2 : i < l.length ∧ i < m.length := by
          have := hi
          rw [zipD_len] at this
          omega
        obtain ⟨a', xs, e5, k1, k2⟩ := Sn.tuple s.sub (.inl r1)
        obtain ⟨b', ys, e6, k3, k4⟩ := Sn.tuple s.sub (.inl r2)
        cases e5
        cases e6
        obtain ⟨x, e7, rx⟩ := k2.get (List.getElem?_eq_getElem hi2.1)
        obtain ⟨z, e8, rz⟩ := k4.get (List.getElem?_eq_getElem hi2.2)
        refine ⟨⟨xs, ys, x, z, k1, k3, e7, e8⟩, fun x' H' yl => ?_⟩
        obtain ⟨T, x2, z2, rfl, hT, rfl, y1, y2⟩ := yl
        have q1 := y1 xs k1
        have q2 := y2 ys k3
        rw [e7] at q1
        rw [e8] at q2
        cases q1
        cases q2
        rw [zipD_at hi2.1 hi2.2]
        exact s.newTup (.cons rx (.cons rz .nil)) hT
      · obtain ⟨G, F1, F2, s⟩ := s
        obtain ⟨r1, r2⟩ := s.mid2 rfl rfl
        obtain ⟨a', xs, e5, k1, k2⟩ := Sn.tuple s.sub (.inl r1)
        obtain ⟨b', ys, e6, k3, k4⟩ := Sn.tuple s.sub (.inl r2)
        cases e5
        cases e6
        refine ⟨xs, ys, k1, k3, ?_⟩
        rw [zipD_len, k2.len, k4.len]
        omega
    | _ => cases he
  | _ => cases he
end
end Vw
namespace Vw
open PySem PySem.Spec PyProof.Rows L2
theorem AllF.snoc {P : D → V → List Addr → Prop} {d : D} {v : V} {F2 : List Addr} (p : P d v F2) : ∀ {ds : List D} {vs : List V} {F1 : List Addr}, AllF P ds vs F1 → AllF P (ds ++ [d]) (vs ++ [v]) (F1 ++ F2)
  | [], [], F1, h => by
    have h : F1 = [] := h
    subst h
    exact ⟨F2, [], by simp, p, rfl⟩
  | e :: ds, u :: vs, F1, ⟨F3, F4, ee, q, r⟩ => ⟨F3, F4 ++ F2, by rw [ee, List.append_assoc], q, AllF.snoc p r⟩
  | [], _ :: _, _, h => h.elim
  | _ :: _, [], _, h => h.elim
theorem SRd.accum {fr : Fr} {K : PySem.W.Frag} {G H : Hp} {F1 F2 : List Addr} {Γ : List Ty} {ρ : Rho} {σ : Sg} {ts : List Tm} {t : Ty} {acc : List D} {D0 : Addr} {y : D} {yv : V}
    (x : SRd fr K G F1 F2 Γ ρ σ (ts ++ [⟨.lst t, .list acc, .ref D0⟩] ++ [⟨t, y, yv⟩]) H) : ∃ av, H D0 = some (.lst av) ∧ av.length = acc.length ∧ SR fr K Γ ρ σ (ts ++ [⟨.lst t, .list (acc ++ [y]), .ref D0⟩]) (upd H D0 (.lst (av ++ [yv]))) := by
  obtain ⟨F34, F5, e, p34, q5⟩ := x.tm.app
  obtain ⟨F3, F4, e2, p3, q4⟩ := p34.app
  have o5 := q5.one
  rcases q4.one with ⟨s, _, _⟩ | ⟨ds, a, av, F', r1, r2, r3, r4, r5⟩
  · cases s
  · cases r1
    cases r2
    have e3 : F4 = D0 :: F' := r3
    refine ⟨av, r4, r5.len, G, F1, F3 ++ (D0 :: (F' ++ F5)), ?_⟩
    have nd := x.nd
    rw [e, e2, e3] at nd
    have pp : (F1 ++ (F3 ++ (D0 :: (F' ++ F5)))) = (F1 ++ (F3 ++ D0 :: F' ++ F5)) := by simp [List.append_assoc]
    have ndD : ∀ b ∈ F1 ++ F3, b ≠ D0 := fun b hb z => by
      subst z
      have nd2 : ((F1 ++ F3) ++ (b :: (F' ++ F5))).Nodup := by
        rw [← pp] at nd
        rw [List.append_assoc]
        exact nd
      exact (List.nodup_append.mp nd2).2.2 b hb b List.mem_cons_self rfl
    have nd3 : (D0 :: (F' ++ F5)).Nodup := by
      rw [← pp, ← List.append_assoc] at nd
      exact (List.nodup_append.mp nd).2.1
    have nD : ∀ b ∈ F' ++ F5, b ≠ D0 := fun b hb z => (List.nodup_cons.mp nd3).1 (z ▸ hb)
    have inF : ∀ b, b ∈ F1 ++ (F3 ++ (D0 :: (F' ++ F5))) → b ∈ F1 ++ F2 := fun b hb => by
      rw [e, e2, e3, ← pp]
      exact hb
    have Din : D0 ∈ F1 ++ F2 := inF D0 (by simp)
    have st : ∀ b ∈ F1 ++ F3, upd H D0 (.lst (av ++ [yv])) b = H b := fun b hb => upd_ne (ndD b hb)
    have st2 : ∀ b ∈ F' ++ F5, upd H D0 (.lst (av ++ [yv])) b = H b := fun b hb => upd_ne (nD b hb)
    refine ⟨fun b u eb => ?_, x.sl.stay (Same.refl G) (fun b hb => st b (List.mem_append_left _ hb)), ?_, by rw [pp]; exact nd, fun b hb => x.out b (inF b hb), ?_⟩
    · rw [upd_ne (ne_of_none eb (x.out D0 Din).1)]
      exact x.sub _ _ eb
    · refine (p3.stay (Same.refl G) (fun b hb => st b (List.mem_append_right _ hb))).of_app (TmF.of_one (.inr ⟨_, D0, _, F' ++ F5, rfl, rfl, rfl, upd_same, ?_⟩))
      refine AllF.snoc (o5.stay (Same.refl G) fun b hb => st2 b (List.mem_append_right _ hb)) (r5.mono fun d v F'' hF h => h.stay (Same.refl G) fun b hb => st2 b (List.mem_append_left _ (hF b hb)))
    · refine ⟨fun b u eb hF => ?_, fun b eb => ?_, x.ok.sG, x.ok.nG, x.ok.pin⟩
      · have hb : b ≠ D0 := fun z => by
          subst z
          rcases (x.out b Din).2 with h | h
          · exact hF h
          · rw [h] at eb
            cases eb
        rw [upd_ne hb]
        exact x.ok.keep b u eb hF
      · by_cases hb : b = D0
        · subst hb
          rw [upd_same] at eb
          cases eb
        · rw [upd_ne hb] at eb
          exact x.ok.mono b eb
def Pin (P : List Nat) (fr : Fr) : Prop := ∀ p ∈ fr.pins, p.1 ∈ P
def oB : O → List Nat
  | .e _ => []
  | .s i => [i]
def itB : Iv → List Nat
  | .o a => oB a
  | .en a => oB a
  | _ => []
section
variable {Φ : Cf}
theorem evW_b {o : O} {ρ : Rho} {r : D × Rho × List (Nat × D)} (h : evW Φ o ρ = some r) : r.2.2.map (·.1) = oB o := by
  cases o with
  | e a =>
    obtain ⟨x, _, rfl⟩ := map_inv h
    rfl
  | s i =>
    obtain ⟨x, _, rfl⟩ := map_inv h
    rfl
theorem evI_b {it : Iv} {ρ : Rho} {r : List D × Rho × List (Nat × D)} (h : evI Φ it ρ = some r) : r.2.2.map (·.1) = itB it := by
  cases it with
  | o a =>
    obtain ⟨x, e, h⟩ := bind_inv h
    obtain ⟨y, _, rfl⟩ := map_inv h
    exact evW_b e
  | en a =>
    obtain ⟨x, e, h⟩ := bind_inv h
    obtain ⟨y, _, rfl⟩ := map_inv h
    exact evW_b e
  | r1 a =>
    obtain ⟨x, e, h⟩ := bind_inv h
    split at h
    · split at h
      · cases h; rfl
      · cases h
    · cases h
  | r2 a b =>
    obtain ⟨x, e, h⟩ := bind_inv h
    obtain ⟨x2, e, h⟩ := bind_inv h
    split at h
    · split at h
      · cases h; rfl
      · cases h
    · cases h
  | r3 a b c =>
    obtain ⟨x, e, h⟩ := bind_inv h
    obtain ⟨x2, e, h⟩ := bind_inv h
    obtain ⟨x3, e, h⟩ := bind_inv h
    split at h
    · split at h
      · cases h; rfl
      · cases h
    · cases h
  | zp a b =>
    obtain ⟨x, e, h⟩ := bind_inv h
    obtain ⟨x2, e, h⟩ := bind_inv h
    split at h
    · cases h; rfl
    · cases h; rfl
    · cases h
theorem Wk.pin {fr fr' : Fr} {Γ : List Ty} {K : PySem.W.Frag} {J : L2.It} {ts us : List Tm} {ds : List D} {sv : List (Nat × D)} {P P' : List Nat} {l : List Nat} (h : Wk fr Γ K fr' J ts us ds sv) (hp : Pin P fr) (e : sv.map (·.1) = l) (h1 : ∀ i ∈ P, i ∈ P') (h2 : ∀ i ∈ l, i ∈ P') : Pin P' fr' := fun p hp' => by
  rcases h.pins p hp' with q | q
  · exact h1 _ (hp p q)
  · rw [e] at q
    exact h2 _ q
end
section
variable {X : Cx} {Φ : Cf} {fr : Fr} {Γ : List Ty} {w : Ty} {pos : Pos} {P P' : List Nat}
variable (Φ Γ P) in
def xE (K : PySem.W.Frag) (w : Ty) (e : E) : TE := fun σ H Q => ∃ fr, Pin P fr ∧ tE Φ fr K Γ w e σ H Q
variable (Γ P) in
def xG (K : PySem.W.Frag) (tg : Tg) : TG := fun v σ H Q => ∃ fr, Pin P fr ∧ tG fr Γ K tg v σ H Q
variable (Φ Γ P) in
def xC (K : PySem.W.Frag) (cd : Ot) : TT := fun σ H Q => ∃ fr, Pin P fr ∧ ∃ ρ ts r, SR fr K Γ ρ σ ts H ∧ evC Φ cd ρ = some r ∧ ∀ H', SR fr K Γ r.2 σ ts H' → Q r.1 H'
theorem pe_x {e : Expr} {ea : E} (h : ∀ fr, Pin P fr → PE X e (tE Φ fr X.K Γ w ea)) : PE X e (xE Φ Γ P X.K w ea) := ⟨fun pins s σ H Q I ⟨fr, hp, hw⟩ => (h fr hp).run pins s σ H Q I hw⟩
theorem pg_x {e : Expr} {tg : Tg} (h : ∀ fr, Pin P fr → PG X e (tG fr Γ X.K tg)) : PG X e (xG Γ P X.K tg) := ⟨fun pins s σ H v u Q I r ⟨fr, hp, hw⟩ => (h fr hp).run pins s σ H v u Q I r hw⟩
theorem pc_no : PTs X [] (xC Φ Γ P X.K .no) := ⟨fun pins s σ H Q I ⟨fr, hp, ρ, ts, r, sr, he, q⟩ => pts_nil.run pins s σ H Q I (by
  have he : some (true, ρ) = some r := he
  cases he
  exact q H sr)⟩
theorem pc_so {e : Expr} {t : T} (h : ∀ fr, Pin P fr → PT X e (tT Φ fr X.K Γ t)) : PTs X [e] (xC Φ Γ P X.K (.so t)) := ⟨fun pins s σ H Q I ⟨fr, hp, hw⟩ => (pts_one (h fr hp)).run pins s σ H Q I hw⟩
theorem wipe_at {σ : Sg} {j : Nat} : ∀ {ws : List Nat}, (wipe σ ws)[j]? = if j ∈ ws then (if j < σ.length then some none else none) else σ[j]?
  | [] => by simp [wipe]
  | v :: ws => by
    show ((wipe σ ws).set v none)[j]? = _
    by_cases h : v = j
    · subst h
      rw [if_pos List.mem_cons_self]
      by_cases hl : v < σ.length
      · rw [List.getElem?_set_self (by rw [wipe_length]; exact hl), if_pos hl]
      · rw [List.getElem?_eq_none (by rw [List.length_set, wipe_length]; omega), if_neg hl]
    · rw [List.getElem?_set_ne h, wipe_at]
      by_cases h2 : j ∈ ws
      · rw [if_pos h2, if_pos (List.mem_cons_of_mem _ h2)]
      · rw [if_neg h2, if_neg (fun z => (List.mem_cons.mp z).elim (fun e => h e.symm) h2)]
theorem wipe_but {σ σ' : Sg} {l ws : List Nat} (b : But l σ σ') (h : ∀ i ∈ l, i ∈ ws) : wipe σ' ws = wipe σ ws := by
  refine List.ext_getElem? fun j => ?_
  rw [wipe_at, wipe_at, b.1]
  by_cases hj : j ∈ ws
  · rw [if_pos hj, if_pos hj]
  · rw [if_neg hj, if_neg hj]
    exact b.2 j fun z => hj (h j z)
theorem wipe_wipe {σ : Sg} {ws : List Nat} : wipe (wipe σ ws) ws = wipe σ ws := by
  refine List.ext_getElem? fun j => ?_
  rw [wipe_at, wipe_at, wipe_length]
  by_cases hj : j ∈ ws
  · rw [if_pos hj, if_pos hj]
  · rw [if_neg hj, if_neg hj]
theorem m_lc {K : PySem.W.Frag} {t : Ty} {elt : E} {tg : Tg} {it : Iv} {cd : Ot} {ws : List Nat} {σ : Sg} {H : Hp} {Q : VK} (m : Made t w) (hpin : Pin P fr) (h1 : ∀ i ∈ P, i ∈ P') (h2 : ∀ i ∈ itB it, i ∈ P') (hd : ∀ i ∈ P', i ∉ ws) (hsl : ∀ i ∈ tgSl tg, i ∈ ws)
    (h : tE Φ fr K Γ w (.comp elt tg it cd ws) σ H Q) : tLc (tIt Φ fr Γ K it) (xG Γ P' K tg) (xC Φ Γ P' K cd) (xE Φ Γ P' K t elt) ws σ H Q := by
  obtain ⟨ρ, ts, r, sr, he, q⟩ := h
  obtain ⟨ra, e1, he⟩ := bind_inv he
  obtain ⟨rc, e2, he⟩ := bind_inv he
  split at he
  · rename_i lok
    obtain ⟨ρF, e3, rfl⟩ := map_inv he
    clear he
    refine ⟨ρ, ts, ra, sr, e1, fun J H1 us fr' s1 wk D0 hD => ?_⟩
    have pin' : Pin P' fr' := wk.pin hpin (evI_b e1) h1 h2
    have dis : ∀ p ∈ fr'.pins, p.1 ∉ ws := fun p hp => hd _ (pin' p hp)
    refine ⟨fun i n H => ∃ ρ acc rest ρE, n = ra.1.length - i ∧ i ≤ ra.1.length ∧ (∃ ρ0, ρ = wipeD ρ0 ws) ∧ SR fr' K Γ ρ (wipe σ ws) (ts ++ us ++ [⟨.lst t, .list acc, .ref D0⟩]) H ∧ compL _ (ra.1.drop i) ρ = some (rest, ρE) ∧ acc ++ rest = rc.1 ∧ ρE = rc.2, ⟨_, wipeD ra.2.1 ws, [], rc.1, rc.2, rfl, Nat.zero_le _, ⟨_, rfl⟩, ?_, e2, rfl, rfl⟩, ?_⟩
    · obtain ⟨G, F1, F2, y⟩ := s1
      obtain ⟨F3, y2⟩ := y.wiped ws dis
      have y3 : SRd fr' K G F3 F2 Γ (wipeD ra.2.1 ws) (wipe σ ws) (ts ++ us ++ []) H1 := by rw [List.append_nil]; exact y2
      obtain ⟨F4, z⟩ := y3.mkList (w := t) (fun y hy => nomatch hy) hD
      exact ⟨_, _, _, z⟩
    · rintro i n H ⟨ρ1, acc, rest, ρE, rfl, hi, ⟨ρ0, rfl⟩, s, ec, ea, rfl⟩
      by_cases hlt : i < ra.1.length
      · rw [List.drop_eq_getElem_cons hlt] at ec
        obtain ⟨rs, c1, c2⟩ := bind_inv ec
        obtain ⟨q2, c3, c4⟩ := map_inv c2
        clear ec c2
        obtain ⟨g1, g2⟩ := wk.go i _ _ [⟨.lst t, .list acc, .ref D0⟩] H hlt s
        refine .inr ⟨g1, fun H' => ∃ ρ acc rest ρE, (∃ ρ0, ρ = wipeD ρ0 ws) ∧ SR fr' K Γ ρ (wipe σ ws) (ts ++ us ++ [⟨.lst t, .list acc, .ref D0⟩]) H' ∧ compL _ (ra.1.drop (i + 1)) ρ = some (rest, ρE) ∧ acc ++ rest = rc.1 ∧ ρE = rc.2, fun H' ⟨ρ', acc', rest', ρE', a1, a2, a3, a4, a5⟩ => ⟨ra.1.length - (i + 1), by omega, ρ', acc', rest', ρE', rfl, hlt, a1, a2, a3, a4, a5⟩, fun x H' yl => ?_⟩
        have s2 := g2 x H' yl
        obtain ⟨ρ2, d1, d2⟩ := bind_inv c1
        obtain ⟨b, d3, d4⟩ := bind_inv d2
        clear c1 d2
        refine ⟨fr', pin', _, _, _, ρ2, s2, d1, fun σ2 H2 bt s3 => ?_⟩
        have wp : wipe σ2 ws = wipe σ ws := by
          rw [wipe_but bt hsl, wipe_wipe]
        have ln : σ2.length = (wipe σ ws).length := bt.1
        refine ⟨wp, fr', pin', ρ2, _, b, s3, d3, fun H3 s4 => ?_⟩
        by_cases hb : b.1 = true
        · rw [if_pos hb] at d4 ⊢
          obtain ⟨qe, d5, rfl⟩ := map_inv d4
          refine ⟨fr', pin', b.2, _, qe, s4, d5, fun yv H4 s5 => ?_⟩
          obtain ⟨G, F1, F2, z⟩ := s5
          obtain ⟨av, k1, k2, s6⟩ := z.accum
          have e9 : acc ++ qe.1 :: q2.1 = rc.1 := by
            have c5 := congrArg Prod.fst c4
            have c5 : qe.1 :: q2.1 = rest := c5
            rw [c5]
            exact ea
          refine ⟨av, k1, ?_, ?_⟩
          · have := lenOk_of lok
            rw [← e9, List.length_append, List.length_cons] at this
            rw [k2]
            omega
          · obtain ⟨G6, F7, F8, z6⟩ := s6
            obtain ⟨F9, z7⟩ := z6.wiped ws dis
            rw [wp] at z7
            refine ⟨wipeD qe.2 ws, acc ++ [qe.1], q2.1, q2.2, ⟨_, rfl⟩, ⟨_, _, _, z7⟩, c3, by rw [List.append_assoc]; exact e9, ?_⟩
            have c7 := congrArg Prod.snd c4
            exact c7
        · rw [if_neg hb] at d4 ⊢
          cases d4
          obtain ⟨G6, F7, F8, z6⟩ := s4
          obtain ⟨F9, z7⟩ := z6.wiped ws dis
          rw [wp] at z7
          have c5 := congrArg Prod.fst c4
          have c5 : q2.1 = rest := c5
          have c6 := congrArg Prod.snd c4
          exact ⟨wipeD b.2 ws, acc, q2.1, q2.2, ⟨_, rfl⟩, ⟨_, _, _, z7⟩, c3, by rw [c5]; exact ea, c6⟩
      · have ei : i = ra.1.length := by omega
        subst ei
        rw [List.drop_length] at ec
        have ec : some (([] : List D), wipeD ρ0 ws) = some (rest, rc.2) := ec
        have ec := Option.some.inj ec
        have c5 : [] = rest := congrArg Prod.fst ec
        have c6 : wipeD ρ0 ws = rc.2 := congrArg Prod.snd ec
        rw [← c5, List.append_nil] at ea
        rw [← c6] at e3
        rw [← ea] at q lok
        refine .inl ⟨wk.stop _ _ [⟨.lst t, .list acc, .ref D0⟩] H s, ?_⟩
        obtain ⟨G, F1, F2, z⟩ := s
        have z2 : SRd fr' K G F1 F2 Γ (wipeD ρ0 ws) σ (ts ++ us ++ [⟨.lst t, .list acc, .ref D0⟩]) H :=
          z.sig (wipe_length _ _).symm (fun i d e => by
            by_cases hi : i ∈ ws
            · exact absurd e (wipeD_none hi d)
            · rw [wipe_at, if_neg hi]) fun p hp => by rw [wipe_at, if_neg (dis p hp)]
        have pp : (ts ++ us ++ [(⟨.lst t, .list acc, .ref D0⟩ : Tm)]).Perm (ts ++ [(⟨.lst t, .list acc, .ref D0⟩ : Tm)] ++ us) := by
          rw [List.append_assoc, List.append_assoc]
          exact List.perm_append_comm.append_left ts
        obtain ⟨F5, z3⟩ := z2.perm pp
        have z4 : SR fr' K Γ (wipeD ρ0 ws) σ (ts ++ [⟨.lst t, .list acc, .ref D0⟩] ++ us) _ := ⟨_, _, _, z3⟩
        have fin := wk.rest _ _ _ _ _ z4 e3
        rcases m with rfl | ⟨rfl, rfl⟩
        · exact q _ _ fin
        · exact q _ _ (SR.give (x1 := ⟨.lst .fro, .list acc, .ref D0⟩) fin)
  · cases he
def noSet : Expr → Bool
  | .Set _ _ _ => false
  | _ => true
theorem folded_of {e : Expr} {env : Env} (h : noSet e = true) (x : Value) : foldedSetIterable e env x = pure x := by
  cases e <;> first | rfl | cases h
theorem e_comp {t : Ty} {elt tgt iter : Expr} {ifs : List Expr} {scope : Scope} {own : List (Str × Nat)} {eelt : E} {tg : Tg} {it : Iv} {cd : Ot} (m : Made t w) (hc : X.calm = true) (hN : X.N.Nodup) (hpin : Pin P fr) (h1 : ∀ i ∈ P, i ∈ P') (h2 : ∀ i ∈ itB it, i ∈ P') (hd : ∀ i ∈ P', i ∉ own.map (·.2)) (hsl : ∀ i ∈ tgSl tg, i ∈ own.map (·.2))
    (hi : PI X tgt iter (tIt Φ fr Γ X.K it)) (ok : BlkOk X.N X.env.scope scope own) (hs : noSet iter = true)
    (hg : ∀ (s : Shared) (H : Hp) (C : Addr) (cl : List (Str × Addr)) (fp : List Addr) (fr : Fr), Pin P' fr → PG (X.blk s H scope (compEnvC scope cl C X.env) fp) tgt (tG fr Γ X.K tg))
    (ht : ∀ (s : Shared) (H : Hp) (C : Addr) (cl : List (Str × Addr)) (fp : List Addr), PTs (X.blk s H scope (compEnvC scope cl C X.env) fp) ifs (xC Φ Γ P' X.K cd))
    (he : ∀ (s : Shared) (H : Hp) (C : Addr) (cl : List (Str × Addr)) (fp : List Addr) (fr : Fr), Pin P' fr → PE (X.blk s H scope (compEnvC scope cl C X.env) fp) elt (tE Φ fr X.K Γ t eelt)) :
    PE X (.ListComp elt [⟨tgt, iter, ifs, 0⟩] scope pos) (tE Φ fr X.K Γ w (.comp eelt tg it cd (own.map (·.2)))) :=
  PE_mono (pe_lc hc hN hi ok (fun s H C cl fp => pg_x (hg s H C cl fp)) ht (fun s H C cl fp => pe_x (he s H C cl fp)) (folded_of hs)) fun σ H Q h => m_lc m hpin h1 h2 hd hsl h
end
end Vw
namespace Vw
open PySem PySem.Spec PyProof.Rows L2
def noComp : Expr → Bool
  | .ListComp _ _ _ _ => false
  | .SetComp _ _ _ _ => false
  | .DictComp _ _ _ _ _ => false
  | _ => true
theorem swaps_no {e : Expr} {t : Option Expr} {l : Nat} {env : Env} (h : noComp e = true) : swapsWith e t l env = pure false := by
  cases e <;> first | rfl | cases h
/-- where the classes stand; what is wished of an exception -/
structure Xw where
  mg : Str → Option Value
  W : WX
/-- the dict of an exception -/
def xdOf (fs : Fs) (vs : List V) : HO := .xd ((fs.map (·.1)).zip vs)
section
variable {X : Cx} {Φ : Cf} {fr : Fr} {Γ : List Ty} {ret : Ty} {wx : Xw} {pos : Pos} {P : List Nat}
variable (fr Γ ret wx) in
def Out (K : PySem.W.Frag) (ts : List Tm) (D : Ends) : Rs → Prop
  | .nx ρ => ∀ σ H, SR fr K Γ ρ σ ts H → D.nx σ H
  | .brk ρ => ∀ σ H, SR fr K Γ ρ σ ts H → D.bk σ H
  | .cnt ρ => ∀ σ H, SR fr K Γ ρ σ ts H → D.ct σ H
  | .ret d ρ => ∀ v σ H us, SR fr K Γ ρ σ (ts ++ us ++ [⟨ret, d, v⟩]) H → D.rt v H
  | .exn x fs ρ => ∀ σ H us vs C dd, SR fr K Γ ρ σ (ts ++ us ++ tms .fro (fs.map (·.2)) vs) H → vs.length = fs.length → wx.mg x = some (.ref C) → H dd = some (xdOf fs vs) → wx.W (.ref C) (some dd) σ H
variable (Φ fr Γ ret wx) in
def tS (K : PySem.W.Frag) (s : S) : TS := fun D σ H => ∃ ρ ts r, SR fr K Γ ρ σ ts H ∧ exS Φ s ρ = some r ∧ Out fr Γ ret wx K ts D r
variable (Φ fr Γ ret wx) in
def tSs (K : PySem.W.Frag) (s : Ss) : TS := fun D σ H => ∃ ρ ts r, SR fr K Γ ρ σ ts H ∧ exSs Φ s ρ = some r ∧ Out fr Γ ret wx K ts D r
theorem ss_nil : PSs X [] (tSs Φ fr Γ ret wx X.K .nil) := by
  refine PSs_mono pss_nil fun D σ H h => ?_
  obtain ⟨ρ, ts, r, sr, he, q⟩ := h
  have he : some (Rs.nx ρ) = some r := he
  cases he
  exact q σ H sr
theorem ss_cons {st : Stmt} {rest : List Stmt} {s : S} {ss : Ss} (h1 : PS X st (tS Φ fr Γ ret wx X.K s)) (h2 : PSs X rest (tSs Φ fr Γ ret wx X.K ss)) : PSs X (st :: rest) (tSs Φ fr Γ ret wx X.K (.cons s ss)) := by
  refine PSs_mono (pss_cons h1 h2) fun D σ H h => ?_
  obtain ⟨ρ, ts, r, sr, he, q⟩ := h
  obtain ⟨ra, e1, e2⟩ := bind_inv he
  refine ⟨ρ, ts, ra, sr, e1, ?_⟩
  cases ra with
  | nx ρ1 => exact fun σ1 H1 s1 => ⟨ρ1, ts, r, s1, e2, q⟩
  | ret d ρ1 =>
    cases e2
    exact q
  | brk ρ1 =>
    cases e2
    exact q
  | cnt ρ1 =>
    cases e2
    exact q
  | exn x fs ρ1 =>
    cases e2
    exact q
theorem ss_kill {rest : List Stmt} {ss : Ss} {l : List Nat} (h2 : PSs X rest (tSs Φ fr Γ ret wx X.K ss)) : PSs X rest (tSs Φ fr Γ ret wx X.K (.cons (.kill l) ss)) := by
  refine PSs_mono h2 fun D σ H h => ?_
  obtain ⟨ρ, ts, r, ⟨G, F1, F2, sr⟩, he, q⟩ := h
  obtain ⟨F3, y⟩ := sr.wipes l
  exact ⟨wipeD ρ l, ts, r, ⟨_, _, _, y⟩, he, q⟩
theorem s_doc {x : Str} {j : Nat} {p : Pos} {rest : List Stmt} {ss : Ss} (h2 : PSs X rest (tSs Φ fr Γ ret wx X.K ss)) : PSs X (.Expr (.Constant (.str x) j p) pos :: rest) (tSs Φ fr Γ ret wx X.K ss) :=
  PSs_mono (pss_cons ps_doc h2) fun D σ H h => h
theorem s_pas : PS X (.Pass pos) (tS Φ fr Γ ret wx X.K .pas) := by
  refine PS_mono ps_pass fun D σ H h => ?_
  obtain ⟨ρ, ts, r, sr, he, q⟩ := h
  have he : some (Rs.nx ρ) = some r := he
  cases he
  exact q σ H sr
theorem s_brk : PS X (.Break pos) (tS Φ fr Γ ret wx X.K .brk) := by
  refine PS_mono ps_break fun D σ H h => ?_
  obtain ⟨ρ, ts, r, sr, he, q⟩ := h
  have he : some (Rs.brk ρ) = some r := he
  cases he
  exact q σ H sr
theorem s_cnt : PS X (.Continue pos) (tS Φ fr Γ ret wx X.K .cnt) := by
  refine PS_mono ps_continue fun D σ H h => ?_
  obtain ⟨ρ, ts, r, sr, he, q⟩ := h
  have he : some (Rs.cnt ρ) = some r := he
  cases he
  exact q σ H sr
theorem s_ret {e : Expr} {ee : E} (he : PE X e (tE Φ fr X.K Γ ret ee)) : PS X (.Return (some e) pos) (tS Φ fr Γ ret wx X.K (.ret ee)) := by
  refine PS_mono (ps_ret he) fun D σ H h => ?_
  obtain ⟨ρ, ts, r, sr, he, q⟩ := h
  obtain ⟨ra, e1, rfl⟩ := map_inv he
  refine ⟨ρ, ts, ra, sr, e1, fun v H1 s1 => q v σ H1 [] ?_⟩
  rw [List.append_nil]
  exact s1
theorem s_retn : PS X (.Return none pos) (tS Φ fr Γ ret wx X.K .retn) := by
  refine PS_mono ps_retN fun D σ H h => ?_
  obtain ⟨ρ, ts, r, sr, he, q⟩ := h
  have he : some (Rs.ret .none ρ) = some r := he
  cases he
  refine q .non σ H [] ?_
  rw [List.append_nil]
  exact sr.res rfl fun G => .non
theorem s_ex {e : Expr} {ee : E} (hn : noComp e = true) (he : PE X e (tE Φ fr X.K Γ .fro ee)) : PS X (.Expr e pos) (tS Φ fr Γ ret wx X.K (.ex ee)) := by
  refine PS_mono (ps_expr he (swaps_no hn)) fun D σ H h => ?_
  obtain ⟨ρ, ts, r, sr, he, q⟩ := h
  obtain ⟨ra, e1, rfl⟩ := map_inv he
  exact ⟨ρ, ts, ra, sr, e1, fun v H1 s1 => q σ H1 s1.drop⟩
theorem s_ife {c : Expr} {a b : List Stmt} {tc : T} {sa sb : Ss} (hc : PT X c (tT Φ fr X.K Γ tc)) (ha : PSs X a (tSs Φ fr Γ ret wx X.K sa)) (hb : PSs X b (tSs Φ fr Γ ret wx X.K sb)) : PS X (.If c a b pos) (tS Φ fr Γ ret wx X.K (.ife tc sa sb)) := by
  refine PS_mono (ps_if hc ha hb) fun D σ H h => ?_
  obtain ⟨ρ, ts, r, sr, he, q⟩ := h
  obtain ⟨ra, e1, he⟩ := bind_inv he
  refine ⟨ρ, ts, ra, sr, e1, fun H1 s1 => ?_⟩
  by_cases hd : ra.1 = true
  · rw [if_pos hd] at he ⊢
    exact ⟨_, ts, r, s1, he, q⟩
  · rw [if_neg hd] at he ⊢
    exact ⟨_, ts, r, s1, he, q⟩
theorem pin_ne {i : Nat} (hp : Pin P fr) (h : i ∉ P) : ∀ p ∈ fr.pins, p.1 ≠ i := fun p hm e => h (e ▸ hp p hm)
theorem s_set {i : Nat} {x : Str} {t : Ty} {e : Expr} {ee : E} {px : Pos} (nd : X.N.Nodup) (hi : X.N[i]? = some x) (hx : Loc X.env.scope x) (hf : X.fn x = true ∨ X.env.scope.names.lookup x = some .local) (hw : Γ[i]? = some t) (hp : ∀ p ∈ fr.pins, p.1 ≠ i)
    (hn : swapsWith e (some (.Name x px)) pos.line X.env = pure false) (he : PE X e (tE Φ fr X.K Γ t ee)) : PS X (.Assign [.Name x px] e pos) (tS Φ fr Γ ret wx X.K (.set i ee)) := by
  refine PS_mono (ps_set nd hi hx he hn hf) fun D σ H h => ?_
  obtain ⟨ρ, ts, r, sr, he, q⟩ := h
  obtain ⟨ra, e1, rfl⟩ := map_inv he
  exact ⟨ρ, ts, ra, sr, e1, fun v H1 s1 => q _ _ (s1.setSlot hw hp)⟩
/-- name = [..] on one line -/
theorem s_setC {i : Nat} {x : Str} {t w : Ty} {px : Pos} {P' : List Nat} {elt tgt iter : Expr} {ifs : List Expr} {scope : Scope} {own : List (Str × Nat)} {cpos : Pos} {eelt : E} {tg : Tg} {it : Iv} {cd : Ot} (m : Made t w) (hc : X.calm = true) (hN : X.N.Nodup) (hi : X.N[i]? = some x) (hx : X.env.scope.names.lookup x = some .local) (hw : Γ[i]? = some w) (hpi : i ∉ P)
    (hsw : swapsWith (.ListComp elt [⟨tgt, iter, ifs, 0⟩] scope cpos) (some (.Name x px)) pos.line X.env = pure true) (hpin : Pin P fr) (h1 : ∀ i ∈ P, i ∈ P') (h2 : ∀ i ∈ itB it, i ∈ P') (hd : ∀ i ∈ P', i ∉ own.map (·.2)) (hsl : ∀ i ∈ tgSl tg, i ∈ own.map (·.2))
    (hit : PI X tgt iter (tIt Φ fr Γ X.K it)) (ok : BlkOk X.N X.env.scope scope own) (hs : noSet iter = true)
    (hg : ∀ (s : Shared) (H : Hp) (C : Addr) (cl : List (Str × Addr)) (fp : List Addr) (fr : Fr), Pin P' fr → PG (X.blk s H scope (compEnvC scope cl C X.env) fp) tgt (tG fr Γ X.K tg))
    (ht : ∀ (s : Shared) (H : Hp) (C : Addr) (cl : List (Str × Addr)) (fp : List Addr), PTs (X.blk s H scope (compEnvC scope cl C X.env) fp) ifs (xC Φ Γ P' X.K cd))
    (he : ∀ (s : Shared) (H : Hp) (C : Addr) (cl : List (Str × Addr)) (fp : List Addr) (fr : Fr), Pin P' fr → PE (X.blk s H scope (compEnvC scope cl C X.env) fp) elt (tE Φ fr X.K Γ t eelt)) :
    PS X (.Assign [.Name x px] (.ListComp elt [⟨tgt, iter, ifs, 0⟩] scope cpos) pos) (tS Φ fr Γ ret wx X.K (.set i (.comp eelt tg it cd (own.map (·.2))))) := by
  refine PS_mono (ps_setLc (g := xG Γ P' X.K tg) (tt := xC Φ Γ P' X.K cd) (te := xE Φ Γ P' X.K t eelt) hc hN hi hx hsw hit ok (fun s H C cl fp => pg_x (hg s H C cl fp)) ht (fun s H C cl fp => pe_x (he s H C cl fp)) (folded_of hs)) fun D σ H h => ?_
  obtain ⟨ρ, ts, r, sr, e0, q⟩ := h
  obtain ⟨ra, e1, rfl⟩ := map_inv (show (ev Φ _ ρ).map _ = _ from e0)
  exact m_lc (fr := fr) (P := P) (P' := P') m hpin h1 h2 hd hsl ⟨ρ, ts, ra, sr, e1, fun v H1 s1 => q _ _ (s1.setSlot hw (pin_ne hpin hpi))⟩
/-- is it a tuple that is written -/
def noTup : Expr → Bool
  | .Tuple _ _ _ => false
  | .List _ _ => false
  | _ => true
theorem swst_no {es : List Expr} {k : Nat} {p : Pos} {e : Expr} {env : Env} (h : noTup e = true) : swappedStores [.Tuple es k p] e env = pure none := by
  cases e <;> first | rfl | cases h
theorem swss_no {es : List Expr} {k : Nat} {p : Pos} {e : Expr} {l : Nat} {env : Env} (h : noComp e = true) : swapsWithSole [.Tuple es k p] e l env = pure false := by
  rw [swapsWithSole]
  exact swaps_no h
theorem s_unp {es : List Expr} {k : Nat} {p : Pos} {e : Expr} {tg : Tg} {ee : E} (hn : noComp e = true) (ht : noTup e = true) (hg : PG X (.Tuple es k p) (tG fr Γ X.K tg)) (he : PE X e (tE Φ fr X.K Γ .fro ee)) : PS X (.Assign [.Tuple es k p] e pos) (tS Φ fr Γ ret wx X.K (.unp tg ee)) := by
  refine PS_mono (ps_asg he hg (swss_no hn) (swst_no ht) rfl) fun D σ H h => ?_
  obtain ⟨ρ, ts, r, sr, he, q⟩ := h
  obtain ⟨ra, e1, he⟩ := bind_inv he
  obtain ⟨ρ1, e2, rfl⟩ := map_inv he
  exact ⟨ρ, ts, ra, sr, e1, fun v H1 s1 => ⟨_, ts, _, ρ1, s1, e2, fun σ' H' _ s2 => q _ _ s2⟩⟩
/-- a, b = x, y -/
theorem s_par {i j : Nat} {x y : Str} {a b : Expr} {ea eb : E} {px py pt : Pos} {kt k2 : Nat} {pt2 : Pos} {t u : Ty} (hc : X.calm = true) (hN : X.N.Nodup) (hi : X.N[i]? = some x) (hj : X.N[j]? = some y) (hij : i ≠ j)
    (hx : X.env.scope.names.lookup x = some .local) (hy : X.env.scope.names.lookup y = some .local) (hw : Γ[i]? = some t) (hw2 : Γ[j]? = some u) (hp : ∀ p ∈ fr.pins, p.1 ≠ i) (hp2 : ∀ p ∈ fr.pins, p.1 ≠ j) (ha : PE X a (tE Φ fr X.K Γ t ea)) (hb : PE X b (tE Φ fr X.K Γ u eb)) (hs : noStar a = true) (hs2 : noStar b = true)
    (hsw : swappedStores [.Tuple [.Name x px, .Name y py] kt pt] (.Tuple [a, b] k2 pt2) X.env = pure (some [x, y])) :
    PS X (.Assign [.Tuple [.Name x px, .Name y py] kt pt] (.Tuple [a, b] k2 pt2) pos) (tS Φ fr Γ ret wx X.K (.par i j ea eb)) := by
  refine PS_mono (ps_par hc hN hi hj hij hx hy (pa_cons ha (pa_cons hb pa_nil (star_cons hs2)) (star_cons hs)) hsw rfl) fun D σ H h => ?_
  obtain ⟨ρ, ts, r, sr, he, q⟩ := h
  obtain ⟨ra, e1, he⟩ := bind_inv he
  obtain ⟨rb, e2, rfl⟩ := map_inv he
  refine ⟨ρ, ts, ra, sr, e1, fun v H1 s1 => ⟨ra.2, _, rb, s1, e2, fun z H2 s2 => ⟨v, z, rfl, q _ _ ?_⟩⟩⟩
  obtain ⟨G, F1, F2, s3⟩ := s2
  have pp : (ts ++ [(⟨t, ra.1, v⟩ : Tm)] ++ [(⟨u, rb.1, z⟩ : Tm)]).Perm (ts ++ [(⟨u, rb.1, z⟩ : Tm)] ++ [(⟨t, ra.1, v⟩ : Tm)]) := by
    rw [List.append_assoc, List.append_assoc]
    exact List.perm_append_comm.append_left ts
  obtain ⟨F3, s4⟩ := s3.perm pp
  have s5 : SR fr X.K Γ (put rb.2 i ra.1) (σ.set i (some v)) (ts ++ [⟨u, rb.1, z⟩]) H2 := SR.setSlot ⟨_, _, _, s4⟩ hw hp
  exact s5.setSlot hw2 hp2
theorem iop_ar : ∀ o : Ar, o ≠ .pow → OpR X (inplaceOp (opA o)) (rAr o)
  | .add, _ => fun pins s σ H x y v u Q I rx ry h => by
    obtain ⟨i, j, k, e1, e2, e, q⟩ := h
    cases e
    exact iop_add pins s σ H x y v u Q I rx ry ⟨i, j, e1, e2, q⟩
  | .sub, _ => fun pins s σ H x y v u Q I rx ry h => by
    obtain ⟨i, j, k, e1, e2, e, q⟩ := h
    cases e
    exact iop_sub pins s σ H x y v u Q I rx ry ⟨i, j, e1, e2, q⟩
  | .mul, _ => fun pins s σ H x y v u Q I rx ry h => by
    obtain ⟨i, j, k, e1, e2, e, q⟩ := h
    simp only [arD] at e
    split at e
    · rename_i c
      cases e
      exact iop_mul pins s σ H x y v u Q I rx ry ⟨i, j, e1, e2, c, q⟩
    · cases e
  | .fdiv, _ => fun pins s σ H x y v u Q I rx ry h => by
    obtain ⟨i, j, k, e1, e2, e, q⟩ := h
    simp only [arD] at e
    split at e
    · rename_i c
      cases e
      exact iop_fdiv pins s σ H x y v u Q I rx ry ⟨i, j, e1, e2, c, q⟩
    · cases e
  | .mod, _ => fun pins s σ H x y v u Q I rx ry h => by
    obtain ⟨i, j, k, e1, e2, e, q⟩ := h
    simp only [arD] at e
    split at e
    · rename_i c
      cases e
      exact iop_mod pins s σ H x y v u Q I rx ry ⟨i, j, e1, e2, c, q⟩
    · cases e
  | .pow, h => absurd rfl h
theorem s_aug {i : Nat} {x : Str} {o : Ar} {e : Expr} {ee : E} {px : Pos} (ho : o ≠ .pow) (nd : X.N.Nodup) (hi : X.N[i]? = some x) (hx : Loc X.env.scope x) (hf : X.fn x = true ∨ X.env.scope.names.lookup x = some .local) (hw : Γ[i]? = some .fro) (hp : ∀ p ∈ fr.pins, p.1 ≠ i)
    (he : PE X e (tE Φ fr X.K Γ .fro ee)) : PS X (.AugAssign (.Name x px) (opA o) e pos) (tS Φ fr Γ ret wx X.K (.aug i o ee)) := by
  refine PS_mono (ps_aug nd hi hx he (iop_ar o ho) hf) fun D σ H h => ?_
  obtain ⟨ρ, ts, r, ⟨G, F1, F2, sr⟩, he, q⟩ := h
  obtain ⟨x0, e0, he⟩ := bind_inv he
  obtain ⟨ra, e1, he⟩ := bind_inv he
  obtain ⟨d, e2, rfl⟩ := map_inv he
  obtain ⟨v, g1, g2⟩ := sr.slot e0 hw
  refine ⟨v, g1, ρ, ts, ra, ⟨_, _, _, sr⟩, e1, fun u H1 s1 => ?_⟩
  obtain ⟨G1, F3, F4, y⟩ := id s1
  have ru := y.last1 rfl
  obtain ⟨a, b, k, q1, q2, q3⟩ := arD_inv e2
  clear e1
  obtain ⟨d1, ρ1⟩ := ra
  have q2 : d1 = .int b := q2
  subst q1 q2 q3
  cases g2
  cases ru
  exact ⟨a, b, k, rfl, rfl, e2, q _ _ ((s1.drop.res (w := .fro) (d := .int k) (v := .int k) rfl fun G => .int _).setSlot hw hp)⟩
theorem s_app {i : Nat} {x : Str} {e : Expr} {ee : E} {px ap cp : Pos} (hN : X.N[i]? = some x) (hv : Vis X.env.scope x) (hw : Γ[i]? = some (.lst .fro)) (hd : (x == ("__debug__" : Str)) = false) (hcd : (x == ("__classdict__" : Str)) = false) (hl : (ap.endLine == cp.line) = true)
    (ha : PE X e (tE Φ fr X.K Γ .fro ee)) (hs : noStar e = true) : PS X (.Expr (.Call (.Attribute (.Name x px) "append" ap) [e] [] cp) pos) (tS Φ fr Γ ret wx X.K (.app i ee)) := by
  refine PS_mono (ps_expr (pe_bm PySem.F.plainAttrs_list PySem.F.slot_list_append PySem.F.type_list_append mt_append (pe_var hN hv hd hcd) (pa_cons ha pa_nil (star_cons (env := X.env) hs)) rfl (few_of hs) hl (star_cons hs) rfl) rfl) fun D σ H h => ?_
  obtain ⟨ρ, ts, r, ⟨G0, F01, F02, sr⟩, he, q⟩ := h
  obtain ⟨x0, e0, he⟩ := bind_inv he
  cases x0 with
  | list l0 =>
    obtain ⟨ra, e1, he⟩ := bind_inv he
    obtain ⟨x, e2, he⟩ := bind_inv he
    obtain ⟨a0, vs0, k1, k2, _⟩ := sr.slotL e0 hw
    refine ⟨_, k1, tyV_l k2, ρ, ts, ra, ⟨_, _, _, sr⟩, e1, fun u H1 s1 => ?_⟩
    obtain ⟨G, F1, F2, y⟩ := id s1
    have ru := y.last1 rfl
    cases x with
    | list l =>
      have he : (if l.length < sizeLine then some (Rs.nx (put ra.2 i (.list (l ++ [ra.1])))) else none) = some r := he
      split at he
      · rename_i c
        cases he
        obtain ⟨F3, y2⟩ := y.drop
        obtain ⟨a, vs, g1, g2, g3, m⟩ := y2.slotMut e2 hw
        rw [k1] at g1
        cases g1
        exact ⟨_, vs, u, rfl, rfl, g2, by rw [g3.len]; exact c, q _ _ (m _ _ (g3.app (.cons ru .nil)))⟩
      · cases he
    | _ => cases he
  | _ => cases he
theorem asg_sub {o i : Expr} {p : Pos} {env : Env} (h : notSlice i = true) (v : Value) : assign (.Subscript o i p) env v = (do
      let ov ← holding [v] (eval o env)
      let iv ← holding [v, ov] (eval i env)
      standAt p
      holding [v, ov, iv] (setItem ov iv v)
      release [v, ov, iv] []) := by
  cases i <;> first | rfl | cases h
theorem s_sti {i : Nat} {x : Str} {a e : Expr} {ea ee : E} {px sp : Pos} (hN : X.N[i]? = some x) (hv : Vis X.env.scope x) (hw : Γ[i]? = some (.lst .fro)) (hd : (x == ("__debug__" : Str)) = false) (hcd : (x == ("__classdict__" : Str)) = false)
    (ha : PE X a (tE Φ fr X.K Γ .fro ea)) (he : PE X e (tE Φ fr X.K Γ .fro ee)) (hs : notSlice a = true) (hn : noComp e = true) : PS X (.Assign [.Subscript (.Name x px) a sp] e pos) (tS Φ fr Γ ret wx X.K (.sti i ea ee)) := by
  refine PS_mono (ps_asg he (pg_sub (pe_var hN hv hd hcd) ha set_list (asg_sub hs)) (by rw [swapsWithSole]; exact swaps_no hn) (by cases e <;> rfl) rfl) fun D σ H h => ?_
  obtain ⟨ρ, ts, r, sr, he, q⟩ := h
  obtain ⟨ra, e1, he⟩ := bind_inv he
  obtain ⟨x0, e0, he⟩ := bind_inv he
  obtain ⟨rb, e2, he⟩ := bind_inv he
  obtain ⟨x, e3, he⟩ := bind_inv he
  refine ⟨ρ, ts, ra, sr, e1, fun u H1 s1 => ?_⟩
  obtain ⟨G1, F11, F12, y1⟩ := id s1
  obtain ⟨t0, v0, _, _, g1, g2, _⟩ := y1.takeOut e0
  refine ⟨v0, g2, ra.2, _, rb, s1, e2, fun z H2 s2 => ?_⟩
  obtain ⟨G, F1, F2, y⟩ := id s2
  have rz := y.last2 rfl rfl
  clear e2
  obtain ⟨d2, ρ2⟩ := rb
  cases x with
  | list l =>
    cases d2 with
    | int j =>
      obtain ⟨k, e4, rfl⟩ := map_inv he
      obtain ⟨r1, r2⟩ := rz
      cases r2
      obtain ⟨F3, y2⟩ := y.drop
      obtain ⟨F4, y3⟩ := y2.drop
      obtain ⟨a, vs, k1, k2, k3, m⟩ := y3.slotMut e3 hw
      rw [g2] at k1
      cases k1
      exact ⟨a, vs, j, k, rfl, rfl, k2, by rw [k3.len]; exact e4, q _ _ (m _ _ (k3.set r1 k))⟩
    | _ => cases he
  | _ => cases he
end
end Vw
namespace Vw
open PySem PySem.Spec PyProof.Rows L2
section
variable {X : Cx} {Φ : Cf} {fr : Fr} {Γ : List Ty} {ret : Ty} {wx : Xw} {pos : Pos} {P P' : List Nat}
theorem s_sti2 {i : Nat} {x : Str} {a b e : Expr} {ea eb ee : E} {px sp sp2 : Pos} (hN : X.N[i]? = some x) (hv : Vis X.env.scope x) (hw : Γ[i]? = some (.lst (.lst .fro))) (hd : (x == ("__debug__" : Str)) = false) (hcd : (x == ("__classdict__" : Str)) = false)
    (ha : PE X a (tE Φ fr X.K Γ .fro ea)) (hb : PE X b (tI Φ fr Γ X.K eb)) (st : stE eb = true) (he : PE X e (tE Φ fr X.K Γ .fro ee)) (hs : notSlice a = true) (hs2 : notSlice b = true) (hn : noComp e = true) : PS X (.Assign [.Subscript (.Subscript (.Name x px) a sp2) b sp] e pos) (tS Φ fr Γ ret wx X.K (.sti2 i ea eb ee)) := by
  refine PS_mono (ps_asg he (pg_sub (pe_ix ix_list (pe_var hN hv hd hcd) ha (plainIx_ns hs)) hb set_list (asg_sub hs2)) (by rw [swapsWithSole]; exact swaps_no hn) (by cases e <;> rfl) rfl) fun D σ H h => ?_
  obtain ⟨ρ, ts, r, sr, he, q⟩ := h
  obtain ⟨ra, e1, he⟩ := bind_inv he
  obtain ⟨x0, e0, he⟩ := bind_inv he
  obtain ⟨rb, e2, he⟩ := bind_inv he
  obtain ⟨rc, e3, he⟩ := bind_inv he
  obtain ⟨x, e4, he⟩ := bind_inv he
  have p3 := stE_pure st e3
  refine ⟨ρ, ts, ra, sr, e1, fun u H1 s1 => ?_⟩
  obtain ⟨G1, F11, F12, y1⟩ := id s1
  obtain ⟨t0, v0, _, _, g1, g2, _⟩ := y1.takeOut e0
  refine ⟨v0, g2, ra.2, _, rb, s1, e2, fun z H2 s2 => ?_⟩
  obtain ⟨G, F1, F2, y⟩ := id s2
  have rz := y.last2 rfl rfl
  clear e2
  obtain ⟨d2, ρ2⟩ := rb
  obtain ⟨d3, ρ3⟩ := rc
  have p3 : ρ3 = ρ2 := p3
  subst p3
  cases x with
  | list m =>
    cases d2 with
    | int j =>
      cases d3 with
      | int j2 =>
        obtain ⟨k, e5, he⟩ := bind_inv (show (ixN m.length j).bind _ = _ from he)
        obtain ⟨yy, e6, he⟩ := bind_inv he
        cases yy with
        | list l =>
          obtain ⟨k2, e7, rfl⟩ := map_inv he
          obtain ⟨r1, r2⟩ := rz
          cases r2
          obtain ⟨F3, y2⟩ := y.drop
          obtain ⟨F4, y3⟩ := y2.drop
          obtain ⟨a0, b0, vs, ws, k1, k3, k4, k5, k6, k7, mm⟩ := y3.slotMut2 e4 e6 hw
          rw [g2] at k1
          cases k1
          refine ⟨a0, vs, j, .ref b0, rfl, rfl, SqL.of k3, ?_, ρ3, _, j2, s2, e3, b0, ws, j2, k2, rfl, rfl, k6, by rw [k7.len]; exact e7, q _ _ (mm _ _ (k7.set r1 k2))⟩
          unfold atI
          rw [k4, e5]
          exact k5
        | _ => cases he
      | _ => cases he
    | _ => cases he
  | _ => cases he
end
section
variable {X : Cx} {Φ : Cf} {fr : Fr} {Γ : List Ty} {ret : Ty} {wx : Xw} {pos : Pos} {P P' : List Nat}
variable (Φ Γ P ret wx) in
def xS (K : PySem.W.Frag) (s : Ss) : TS := fun D σ H => ∃ fr, Pin P fr ∧ tSs Φ fr Γ ret wx K s D σ H
theorem ps_x {l : List Stmt} {s : Ss} (h : ∀ fr, Pin P fr → PSs X l (tSs Φ fr Γ ret wx X.K s)) : PSs X l (xS Φ Γ ret wx P X.K s) := ⟨fun pins s σ H D I ⟨fr, hp, hw⟩ => (h fr hp).run pins s σ H D I hw⟩
theorem s_for {tgt iter : Expr} {body : List Stmt} {tg : Tg} {it : Iv} {b : Ss} (hp : PassesOwn (model X.prog X.w) X.A X.env X.xe) (hc : X.calm = true) (hpin : Pin P fr) (h1 : ∀ i ∈ P, i ∈ P') (h2 : ∀ i ∈ itB it, i ∈ P') (hi : PI X tgt iter (tIt Φ fr Γ X.K it))
    (hg : ∀ fr, Pin P' fr → PG X tgt (tG fr Γ X.K tg)) (hb : ∀ fr, Pin P' fr → PSs X body (tSs Φ fr Γ ret wx X.K b)) (hs : noSet iter = true) : PS X (.For tgt iter body [] pos) (tS Φ fr Γ ret wx X.K (.for tg it b)) := by
  refine PS_mono (ps_for hp hc hi (pg_x hg) (ps_x hb) (folded_of hs)) fun D σ H h => ?_
  obtain ⟨ρ, ts, r, sr, he, q⟩ := h
  obtain ⟨ra, e1, he⟩ := bind_inv he
  obtain ⟨rq, e2, e3⟩ := bind_inv he
  clear he
  refine ⟨ρ, ts, ra, sr, e1, fun J H1 us fr' s1 wk => ?_⟩
  have pin' : Pin P' fr' := wk.pin hpin (evI_b e1) h1 h2
  have go1 : ∀ (i : Nat) (ρ : Rho) (σ : Sg) (H : Hp) (h : i < ra.1.length), SR fr' X.K Γ ρ σ (ts ++ us) H → J.go i H ∧ ∀ x H', J.yld i H x H' → SR fr' X.K Γ ρ σ (ts ++ us ++ [⟨.fro, ra.1[i], x⟩]) H' := fun i ρ σ H h s => by
    have g := wk.go i ρ σ [] H h (by rw [List.append_nil]; exact s)
    rw [List.append_nil] at g
    exact g
  refine ⟨fun i m σ H => m = ra.1.length - i ∧ i ≤ ra.1.length ∧ ∃ ρ, SR fr' X.K Γ ρ σ (ts ++ us) H ∧ forL (fun d ρ => (tgD tg d ρ).bind fun ρ1 => exSs Φ b ρ1) (ra.1.drop i) ρ = some rq, ⟨_, rfl, Nat.zero_le _, _, s1, e2⟩, ?_⟩
  rintro i m σ1 H2 ⟨rfl, hi, ρ1, s, ef⟩
  by_cases hlt : i < ra.1.length
  · rw [List.drop_eq_getElem_cons hlt] at ef
    obtain ⟨rs, c1, c2⟩ := bind_inv ef
    clear ef
    obtain ⟨g1, g2⟩ := go1 i _ _ H2 hlt s
    refine .inr ⟨g1, fun σ' H' => ∃ ρ, SR fr' X.K Γ ρ σ' (ts ++ us) H' ∧ forL (fun d ρ => (tgD tg d ρ).bind fun ρ1 => exSs Φ b ρ1) (ra.1.drop (i + 1)) ρ = some rq, fun σ' H' ⟨ρ', a1, a2⟩ => ⟨ra.1.length - (i + 1), by omega, rfl, hlt, ρ', a1, a2⟩, fun x H' yl => ?_⟩
    have s2 := g2 x H' yl
    obtain ⟨ρ2, d1, d2⟩ := bind_inv c1
    clear c1
    refine ⟨fr', pin', _, _, _, ρ2, s2, d1, fun σ2 H3 bt s3 => ⟨fr', pin', ρ2, _, rs, s3, d2, ?_⟩⟩
    cases rs with
    | nx ρ3 => exact fun σ3 H4 s4 => ⟨ρ3, s4, c2⟩
    | cnt ρ3 => exact fun σ3 H4 s4 => ⟨ρ3, s4, c2⟩
    | brk ρ3 =>
      have c2 : some (Rs.nx ρ3) = some rq := c2
      cases c2
      obtain ⟨ρ4, e4, rfl⟩ := map_inv e3
      exact fun σ3 H4 s4 => q σ3 H4 (wk.rest _ _ _ _ _ s4 e4)
    | ret d ρ3 =>
      have c2 : some (Rs.ret d ρ3) = some rq := c2
      cases c2
      have e3 : some (Rs.ret d ρ3) = some r := e3
      cases e3
      refine fun v σ3 H4 us2 s4 => q v σ3 H4 (us ++ us2) ?_
      rw [← List.append_assoc]
      exact wk.weak _ _ _ _ s4
    | exn x fs ρ3 =>
      have c2 : some (Rs.exn x fs ρ3) = some rq := c2
      cases c2
      have e3 : some (Rs.exn x fs ρ3) = some r := e3
      cases e3
      refine fun σ3 H4 us2 vs C dd s4 => q σ3 H4 (us ++ us2) vs C dd ?_
      rw [← List.append_assoc]
      exact wk.weak _ _ _ _ s4
  · have ei : i = ra.1.length := by omega
    subst ei
    rw [List.drop_length] at ef
    have ef : some (Rs.nx ρ1) = some rq := ef
    cases ef
    obtain ⟨ρ4, e4, rfl⟩ := map_inv e3
    refine .inl ⟨wk.stop _ _ [] H2 (by rw [List.append_nil]; exact s), q _ _ (wk.rest _ _ _ _ _ s e4)⟩
theorem s_wh {c : Expr} {body : List Stmt} {t : T} {b : Ss} (hp : PassesOwn (model X.prog X.w) X.A X.env X.xe) (hc : PT X c (tT Φ fr X.K Γ t)) (hb : PSs X body (tSs Φ fr Γ ret wx X.K b)) : PS X (.While c body [] pos) (tS Φ fr Γ ret wx X.K (.wh t b)) := by
  refine PS_mono (ps_while hp hc hb) fun D σ H h => ?_
  obtain ⟨ρ, ts, r, sr, he, q⟩ := h
  have he : whL (fun ρ => evT Φ t ρ) (fun ρ => exSs Φ b ρ) Φ.W ρ = some r := he
  refine ⟨fun n σ H => ∃ ρ, SR fr X.K Γ ρ σ ts H ∧ whL (fun ρ => evT Φ t ρ) (fun ρ => exSs Φ b ρ) n ρ = some r, ⟨_, _, sr, he⟩, ?_⟩
  rintro n σ1 H1 ⟨ρ1, s, e⟩
  cases n with
  | zero => cases e
  | succ n =>
    obtain ⟨rb, e1, e2⟩ := bind_inv e
    clear e
    refine ⟨ρ1, ts, rb, s, e1, fun H2 s2 => ?_⟩
    by_cases hb : rb.1 = true
    · rw [if_pos hb] at e2 ⊢
      obtain ⟨rs, e3, e4⟩ := bind_inv e2
      clear e2
      refine ⟨fun σ' H' => ∃ ρ, SR fr X.K Γ ρ σ' ts H' ∧ whL (fun ρ => evT Φ t ρ) (fun ρ => exSs Φ b ρ) n ρ = some r, fun σ' H' h => ⟨n, Nat.lt_succ_self _, h⟩, rb.2, ts, rs, s2, e3, ?_⟩
      cases rs with
      | nx ρ3 => exact fun σ3 H4 s4 => ⟨ρ3, s4, e4⟩
      | cnt ρ3 => exact fun σ3 H4 s4 => ⟨ρ3, s4, e4⟩
      | brk ρ3 =>
        have e4 : some (Rs.nx ρ3) = some r := e4
        cases e4
        exact q
      | ret d ρ3 =>
        have e4 : some (Rs.ret d ρ3) = some r := e4
        cases e4
        exact q
      | exn x fs ρ3 =>
        have e4 : some (Rs.exn x fs ρ3) = some r := e4
        cases e4
        exact q
    · rw [if_neg hb] at e2 ⊢
      cases e2
      exact q _ _ s2
end
end Vw
namespace Vw
open PySem PySem.Spec PyProof.Rows L2
/-! ### a def's names, looked at -/
structure Ct where
  N : List Str
  sc : Scope
  cl : Str → Bool
  gl : List (Str × Int)
def blAll : List Str := ["len", "tuple", "list", "sum", "min", "max", "sorted", "all", "any", "abs", "int", "range", "enumerate", "zip", "set", "isinstance", "bool", "str", "repr"]
structure Gd (X : Cx) (c : Ct) : Prop where
  N : X.N = c.N
  nd : c.N.Nodup
  sc : X.env.scope = c.sc
  kd : c.sc.kind = .function
  calm : X.calm = true
  pas : PassesOwn (model X.prog X.w) X.A X.env X.xe
  cl : ∀ x, c.cl x = true → X.fn x = true
  un : X.A.units + 100 < cLine
  bl : ∀ x, x ∈ blAll → X.mg x = none
  gl : ∀ p ∈ c.gl, ∃ t, X.mg p.1 = some (.int p.2 t)
def visK : Option NameKind → Bool
  | some .local => true
  | some .cell => true
  | some .free => true
  | _ => false
def vC (c : Ct) (Γ : List Ty) (i : Nat) (x : Str) (t : Ty) : Bool := decide (c.N[i]? = some x) && visK (c.sc.names.lookup x) && decide (Γ[i]? = some t) && !(x == ("__debug__" : Str)) && !(x == ("__classdict__" : Str))
def glC (c : Ct) (x : Str) : Bool := decide (c.sc.names.lookup x = some .globalImplicit)
def blC (c : Ct) (x : Str) : Bool := glC c x && decide (x ∈ blAll)
def lcC (c : Ct) (x : Str) : Bool := match c.sc.names.lookup x with
  | some .local => true
  | some .cell => c.cl x
  | _ => false
def sC (c : Ct) (Γ : List Ty) (P : List Nat) (i : Nat) (x : Str) (t : Ty) : Bool := decide (c.N[i]? = some x) && lcC c x && decide (Γ[i]? = some t) && decide (i ∉ P)
def Ct.blk (c : Ct) (scope : Scope) : Ct := ⟨c.N, relS scope c.sc, fun x => scope.names.lookup x == some .cell, c.gl⟩
/-- a callee -/
structure Cal (X : Cx) (Φ : Cf) (x : Str) (g : Sig) : Prop where
  ex : ∃ (k : Nat) (f : Addr) (fd : FuncData) (ps : List Str), FnOk X.prog X.w X.K X.mg X.base CX0 k f fd ps (spI X.K g (Φ.fn x)) ∧ Room k X.A ∧ X.mg x = some (.ref f) ∧ PySem.W.keepIn X.K (.ref f) = true ∧ Binds X.K fd ps []
section
variable {X : Cx} {c : Ct} {Φ : Cf} {fr : Fr} {Γ : List Ty} {w : Ty} {ret : Ty} {wx : Xw} {pos : Pos} {P P' : List Nat}
theorem vC_of {i : Nat} {x : Str} {t : Ty} (gd : Gd X c) (h : vC c Γ i x t = true) : X.N[i]? = some x ∧ Vis X.env.scope x ∧ Γ[i]? = some t ∧ (x == ("__debug__" : Str)) = false ∧ (x == ("__classdict__" : Str)) = false := by
  unfold vC at h
  simp only [Bool.and_eq_true, decide_eq_true_eq, Bool.not_eq_true'] at h
  obtain ⟨⟨⟨⟨h1, h2⟩, h3⟩, h4⟩, h5⟩ := h
  refine ⟨by rw [gd.N]; exact h1, ?_, h3, h4, h5⟩
  unfold Vis
  rw [gd.sc]
  cases e : c.sc.names.lookup x with
  | none => rw [e] at h2; cases h2
  | some k =>
    rw [e] at h2
    cases k <;> first | exact .inl rfl | exact .inr (.inl rfl) | exact .inr (.inr rfl) | cases h2
theorem glC_of {x : Str} (gd : Gd X c) (h : glC c x = true) : Gl X x := by
  have h : c.sc.names.lookup x = some .globalImplicit := of_decide_eq_true h
  show X.env.scope.names.lookup x = _
  rw [gd.sc]
  exact h
theorem blC_of {x : Str} (gd : Gd X c) (h : blC c x = true) : Gl X x ∧ X.mg x = none := by
  obtain ⟨h1, h2⟩ := Bool.and_eq_true_iff.mp h
  exact ⟨glC_of gd h1, gd.bl x (of_decide_eq_true h2)⟩
theorem lcC_of {x : Str} (gd : Gd X c) (h : lcC c x = true) : L2.Loc X.env.scope x ∧ (X.fn x = true ∨ X.env.scope.names.lookup x = some .local) := by
  unfold L2.Loc
  rw [gd.sc]
  unfold lcC at h
  cases e : c.sc.names.lookup x with
  | none => rw [e] at h; cases h
  | some k =>
    rw [e] at h
    cases k <;> first | exact ⟨.inl rfl, .inr rfl⟩ | exact ⟨.inr rfl, .inl (gd.cl x h)⟩ | cases h
theorem sC_of {i : Nat} {x : Str} {t : Ty} (gd : Gd X c) (hp : Pin P fr) (h : sC c Γ P i x t = true) : X.N.Nodup ∧ X.N[i]? = some x ∧ L2.Loc X.env.scope x ∧ (X.fn x = true ∨ X.env.scope.names.lookup x = some .local) ∧ Γ[i]? = some t ∧ (∀ p ∈ fr.pins, p.1 ≠ i) := by
  unfold sC at h
  simp only [Bool.and_eq_true, decide_eq_true_eq] at h
  obtain ⟨⟨⟨h1, h2⟩, h3⟩, h4⟩ := h
  obtain ⟨l1, l2⟩ := lcC_of gd h2
  exact ⟨by rw [gd.N]; exact gd.nd, by rw [gd.N]; exact h1, l1, l2, h3, pin_ne hp h4⟩
theorem Gd.u64 (gd : Gd X c) : X.A.units + 64 < cLine := by
  have := gd.un
  omega
theorem Gd.u65 (gd : Gd X c) : X.A.units + 65 < cLine := by
  have := gd.un
  omega
theorem Gd.blk (gd : Gd X c) {s : Shared} {H : Hp} {scope : Scope} {C : Addr} {cl : List (Str × Addr)} {fp : List Addr} (h : scope.kind = .function) : Gd (X.blk s H scope (compEnvC scope cl C X.env) fp) (c.blk scope) where
  N := gd.N
  nd := gd.nd
  sc := by
    show relS scope X.env.scope = relS scope c.sc
    rw [gd.sc]
  kd := h
  calm := gd.calm
  pas := PassesOwn.never
  cl := fun x hx => hx
  un := gd.un
  bl := gd.bl
  gl := gd.gl
theorem Cal.blk {x : Str} {g : Sig} (h : Cal X Φ x g) {s : Shared} {H : Hp} {scope : Scope} {C : Addr} {cl : List (Str × Addr)} {fp : List Addr} : Cal (X.blk s H scope (compEnvC scope cl C X.env) fp) Φ x g := ⟨h.ex⟩
/-! expressions -/
theorem k_v (gd : Gd X c) (i : Nat) {x : Str} (h : vC c Γ i x .fro = true) : PE X (.Name x pos) (tE Φ fr X.K Γ .fro (.v i)) := by
  obtain ⟨h1, h2, h3, h4, h5⟩ := vC_of gd h
  exact e_v h1 h2 h3 h4 h5
theorem k_mv (gd : Gd X c) (i : Nat) {x : Str} (t : Ty) (h : (vC c Γ i x t && decide (w = t ∨ w = .fro)) = true) : PE X (.Name x pos) (tE Φ fr X.K Γ w (.mv i)) := by
  obtain ⟨h, h6⟩ := Bool.and_eq_true_iff.mp h
  obtain ⟨h1, h2, h3, h4, h5⟩ := vC_of gd h
  exact e_mv h1 h2 h3 (of_decide_eq_true h6) h4 h5
theorem k_os (gd : Gd X c) (i : Nat) {x : Str} (h : vC c Γ i x (.lst .fro) = true) : PE X (.Name x pos) (tO Φ fr X.K Γ (.s i)) := by
  obtain ⟨h1, h2, h3, h4, h5⟩ := vC_of gd h
  exact o_s h1 h2 h3 h4 h5
theorem k_ts (gd : Gd X c) (i : Nat) {x : Str} (h : vC c Γ i x (.lst .fro) = true) : PT X (.Name x pos) (tT Φ fr X.K Γ (.sl i)) := by
  obtain ⟨h1, h2, h3, h4, h5⟩ := vC_of gd h
  exact t_sl h1 h2 h3 h4 h5
theorem k_ws (gd : Gd X c) (i : Nat) {x : Str} (h : vC c Γ i x (.lst .fro) = true) : PE X (.Name x pos) (tW Φ fr Γ X.K (.s i)) := by
  obtain ⟨h1, h2, h3, h4, h5⟩ := vC_of gd h
  exact w_s h1 h2 h3 h4 h5
theorem k_iv (gd : Gd X c) (i : Nat) {x : Str} (h : vC c Γ i x .fro = true) : PE X (.Name x pos) (tI Φ fr Γ X.K (.v i)) := by
  obtain ⟨h1, h2, h3, h4, h5⟩ := vC_of gd h
  exact i_v h1 h2 h3 h4 h5
theorem k_i {n : Int} {j : Nat} : PE X (.Constant (.int n) j pos) (tE Φ fr X.K Γ w (.k (.int n))) := e_k pe_int rfl fun G => .int n
theorem k_b {b : Bool} {j : Nat} : PE X (.Constant (.bool b) j pos) (tE Φ fr X.K Γ w (.k (.bool b))) := e_k pe_bl rfl fun G => .bl b
theorem k_n {j : Nat} : PE X (.Constant .none j pos) (tE Φ fr X.K Γ w (.k .none)) := e_k pe_non rfl fun G => .non
theorem k_s {x : Str} {j : Nat} : PE X (.Constant (.str x) j pos) (tE Φ fr X.K Γ w (.k (.str x))) := e_k pe_str rfl fun G => .str x
theorem k_ii {n : Int} {j : Nat} : PE X (.Constant (.int n) j pos) (tI Φ fr Γ X.K (.k (.int n))) := i_k pe_int fun G => .int n
theorem k_cm (o : Cm) {a b : Expr} {ea eb : E} (ha : PE X a (tE Φ fr X.K Γ .fro ea)) (hb : PE X b (tE Φ fr X.K Γ .fro eb)) : PE X (.Compare a [opC o] [b] pos) (tE Φ fr X.K Γ w (.cm o ea eb)) :=
  PE_mono (pe_cmpR (op_cm o) ha hb (nobehind b (opC_in o).1 (opC_in o).2)) fun σ H Q h => m_cm o h
theorem k_cmT (o : Cm) {a b : Expr} {ea eb : E} (ha : PE X a (tE Φ fr X.K Γ .fro ea)) (hb : PE X b (tE Φ fr X.K Γ .fro eb)) : PT X (.Compare a [opC o] [b] pos) (tT Φ fr X.K Γ (.e (.cm o ea eb))) :=
  t_cmp (pt_cmpR (op_cm o) ha hb (nobehind b (opC_in o).1 (opC_in o).2)) rfl fun σ H Q h => m_cm o h
theorem k_ch (o o2 : Cm) {a b e : Expr} {ea eb ee : E} (ha : PE X a (tE Φ fr X.K Γ .fro ea)) (hb : PE X b (tE Φ fr X.K Γ .fro eb)) (he : PE X e (tE Φ fr X.K Γ .fro ee)) : PE X (.Compare a [opC o, opC o2] [b, e] pos) (tE Φ fr X.K Γ w (.ch o o2 ea eb ee)) :=
  PE_mono (pe_chain (op_cm o) (op_cm o2) ha hb he (nobehind e (opC_in o2).1 (opC_in o2).2)) fun σ H Q h => m_ch o o2 h
theorem k_chT (o o2 : Cm) {a b e : Expr} {ea eb ee : E} (ha : PE X a (tE Φ fr X.K Γ .fro ea)) (hb : PE X b (tE Φ fr X.K Γ .fro eb)) (he : PE X e (tE Φ fr X.K Γ .fro ee)) : PT X (.Compare a [opC o, opC o2] [b, e] pos) (tT Φ fr X.K Γ (.e (.ch o o2 ea eb ee))) :=
  t_cmp (pt_chain (op_cm o) (op_cm o2) ha hb he (nobehind e (opC_in o2).1 (opC_in o2).2)) rfl fun σ H Q h => m_ch o o2 h
theorem k_eq (gd : Gd X c) (ng : Bool) {a b : Expr} {ea eb : E} (ha : PE X a (tE Φ fr X.K Γ .fro ea)) (hb : PE X b (tE Φ fr X.K Γ .fro eb)) : PE X (.Compare a [if ng then .NotEq else .Eq] [b] pos) (tE Φ fr X.K Γ w (.eq ng ea eb)) :=
  PE_mono (pe_cmpR (op_eqG gd.u64 ng) ha hb (nobehind b (eqop_in ng).1 (eqop_in ng).2)) fun σ H Q h => m_eq ng h
theorem k_eqT (gd : Gd X c) (ng : Bool) {a b : Expr} {ea eb : E} (ha : PE X a (tE Φ fr X.K Γ .fro ea)) (hb : PE X b (tE Φ fr X.K Γ .fro eb)) : PT X (.Compare a [if ng then .NotEq else .Eq] [b] pos) (tT Φ fr X.K Γ (.e (.eq ng ea eb))) :=
  t_cmp (pt_cmpR (op_eqG gd.u64 ng) ha hb (nobehind b (eqop_in ng).1 (eqop_in ng).2)) rfl fun σ H Q h => m_eq ng h
theorem k_is (ng : Bool) {a : Expr} {j : Nat} {p : Pos} {ea : E} (ha : PE X a (tE Φ fr X.K Γ .fro ea)) : PE X (.Compare a [if ng then .IsNot else .Is] [.Constant .none j p] pos) (tE Φ fr X.K Γ w (.isn ng ea)) :=
  PE_mono (pe_cmpR (op_isG ng) ha pe_non (nobehind _ (isop_in ng).1 (isop_in ng).2)) fun σ H Q h => m_isn ng h
theorem k_isT (ng : Bool) {a : Expr} {j : Nat} {p : Pos} {ea : E} (ha : PE X a (tE Φ fr X.K Γ .fro ea)) : PT X (.Compare a [if ng then .IsNot else .Is] [.Constant .none j p] pos) (tT Φ fr X.K Γ (.e (.isn ng ea))) :=
  t_cmp (pt_cmpR (op_isG ng) ha pe_non (nobehind _ (isop_in ng).1 (isop_in ng).2)) rfl fun σ H Q h => m_isn ng h
theorem k_in (ng : Bool) {a b : Expr} {ea : E} {ob : O} (ha : PE X a (tE Φ fr X.K Γ .fro ea)) (hb : PE X b (tO Φ fr X.K Γ ob)) (hn : noSet b = true) : PE X (.Compare a [if ng then .NotIn else .In] [b] pos) (tE Φ fr X.K Γ w (.inn ng ea ob)) :=
  PE_mono (pe_cmpR (op_inG ng) ha hb (by cases b <;> first | rfl | cases hn)) fun σ H Q h => m_inn ng h
theorem k_inT (ng : Bool) {a b : Expr} {ea : E} {ob : O} (ha : PE X a (tE Φ fr X.K Γ .fro ea)) (hb : PE X b (tO Φ fr X.K Γ ob)) (hn : noSet b = true) : PT X (.Compare a [if ng then .NotIn else .In] [b] pos) (tT Φ fr X.K Γ (.e (.inn ng ea ob))) :=
  t_cmp (pt_cmpR (op_inG ng) ha hb (by cases b <;> first | rfl | cases hn)) rfl fun σ H Q h => m_inn ng h
theorem k_b1 (gd : Gd X c) (f : B1) {a : Expr} {oa : O} {p : Pos} (ha : PE X a (tO Φ fr X.K Γ oa)) (h : (noStar a && blC c (PySem.Str.ofString (b1S f)) && okB1 f w) = true) :
    PE X (.Call (.Name (PySem.Str.ofString (b1S f)) p) [a] [] pos) (tE Φ fr X.K Γ w (.b1 f oa)) := by
  simp only [Bool.and_eq_true] at h
  exact e_b1 gd.calm f ha h.1.1 (blC_of gd h.1.2).1 (blC_of gd h.1.2).2 h.2
theorem k_b2 (gd : Gd X c) (f : B2) {a b : Expr} {ea eb : E} {p : Pos} (ha : PE X a (tE Φ fr X.K Γ .fro ea)) (hb : PE X b (tE Φ fr X.K Γ .fro eb)) (h : (noStar a && noStar b && blC c (PySem.Str.ofString (b2S f))) = true) :
    PE X (.Call (.Name (PySem.Str.ofString (b2S f)) p) [a, b] [] pos) (tE Φ fr X.K Γ w (.b2 f ea eb)) := by
  simp only [Bool.and_eq_true] at h
  exact e_b2 gd.calm f ha hb h.1.1 h.1.2 (blC_of gd h.2).1 (blC_of gd h.2).2
theorem k_ix2 (gd : Gd X c) (i : Nat) {x : Str} {a b : Expr} {ea eb : E} {px p2 : Pos} (ha : PE X a (tE Φ fr X.K Γ .fro ea)) (hb : PE X b (tI Φ fr Γ X.K eb)) (h : (vC c Γ i x (.lst (.lst .fro)) && notSlice a && notSlice b && stE eb) = true) :
    PE X (.Subscript (.Subscript (.Name x px) a p2) b pos) (tE Φ fr X.K Γ .fro (.ix2 i ea eb)) := by
  simp only [Bool.and_eq_true] at h
  obtain ⟨h1, h2, h3, h4, h5⟩ := vC_of gd h.1.1.1
  exact e_ix2 h1 h2 h3 h4 h5 ha hb h.1.1.2 h.1.2 h.2
theorem k_call (gd : Gd X c) {x : Str} {g : Sig} (cal : Cal X Φ x g) {as : As} {args : List Expr} {p : Pos} (ha : PA X args (tA Φ fr Γ X.K g.ps as))
    (h : (noStars args && !args.isEmpty && glC c x && !(x == ("__debug__" : Str)) && decide ((iosA as).Nodup) && decide (w = g.ret ∨ w = .fro) && (!(hasBo as) || (decide (iosA as = []) && decide (g.ret = .fro)))) = true) :
    PE X (.Call (.Name x p) args [] pos) (tE Φ fr X.K Γ w (.call x as)) := by
  obtain ⟨k, f, fd, ps, F, hr, hm, hk, hb⟩ := cal.ex
  simp only [Bool.and_eq_true, Bool.or_eq_true, decide_eq_true_eq, Bool.not_eq_true'] at h
  obtain ⟨⟨⟨⟨⟨⟨h1, h2⟩, h3⟩, h4⟩, h5⟩, h6⟩, h7⟩ := h
  exact e_call F hr (glC_of gd h3) hm hk hb ha h1 h2 h4 h5 h6 fun hh => h7.elim (fun z => by rw [hh] at z; cases z) fun z => z
theorem k_io (gd : Gd X c) (i : Nat) {x : Str} {t : Ty} {es : List Expr} {as : As} {ps : List Ty} (h : vC c Γ i x t = true) (hb : PA X es (tA Φ fr Γ X.K ps as)) : PA X (.Name x pos :: es) (tA Φ fr Γ X.K (t :: ps) (.io i as)) := by
  obtain ⟨h1, h2, h3, h4, h5⟩ := vC_of gd h
  exact a_io h1 h2 h3 h4 h5 hb
theorem k_bo (gd : Gd X c) (i : Nat) {x : Str} {t : Ty} {es : List Expr} {as : As} {ps : List Ty} (h : vC c Γ i x t = true) (hb : PA X es (tA Φ fr Γ X.K ps as)) : PA X (.Name x pos :: es) (tA Φ fr Γ X.K (.fro :: ps) (.bo i as)) := by
  obtain ⟨h1, h2, h3, h4, h5⟩ := vC_of gd h
  exact a_bo h1 h2 h4 h5 hb
theorem k_pop (gd : Gd X c) (i : Nat) {x : Str} {px ap : Pos} (h : (vC c Γ i x (.lst .fro) && (ap.endLine == pos.line)) = true) : PE X (.Call (.Attribute (.Name x px) "pop" ap) [] [] pos) (tE Φ fr X.K Γ .fro (.pop i)) := by
  obtain ⟨h, h6⟩ := Bool.and_eq_true_iff.mp h
  obtain ⟨h1, h2, h3, h4, h5⟩ := vC_of gd h
  exact e_pop h1 h2 h3 h4 h5 h6
theorem k_popat (gd : Gd X c) (i : Nat) {x : Str} {px ap : Pos} {e : Expr} {ea : E} (ha : PE X e (tE Φ fr X.K Γ .fro ea)) (h : (vC c Γ i x (.lst .fro) && (ap.endLine == pos.line) && noStar e) = true) : PE X (.Call (.Attribute (.Name x px) "pop" ap) [e] [] pos) (tE Φ fr X.K Γ .fro (.popat i ea)) := by
  obtain ⟨h, h7⟩ := Bool.and_eq_true_iff.mp h
  obtain ⟨h, h6⟩ := Bool.and_eq_true_iff.mp h
  obtain ⟨h1, h2, h3, h4, h5⟩ := vC_of gd h
  exact e_popat h1 h2 h3 h4 h5 h6 ha h7
/-! targets, walks -/
theorem k_gn (gd : Gd X c) (hp : Pin P fr) (i : Nat) {x : Str} (h : sC c Γ P i x .fro = true) : PG X (.Name x pos) (tG fr Γ X.K (.n i)) := by
  obtain ⟨h1, h2, h3, h4, h5, h6⟩ := sC_of gd hp h
  exact g_n h1 h2 h3 h4 h5 h6
theorem k_gt (gd : Gd X c) {es : List Expr} {l : Tgs} {k : Nat} (h : PGs X es (tGs fr Γ X.K l)) (hs : (noStars es && decide (tgsLen l = es.length)) = true) : PG X (.Tuple es k pos) (tG fr Γ X.K (.t l)) := by
  simp only [Bool.and_eq_true, decide_eq_true_eq] at hs
  exact g_t gd.calm h hs.1 hs.2
theorem k_r1 (gd : Gd X c) {tg a : Expr} {ea : E} {p : Pos} (ha : PE X a (tE Φ fr X.K Γ .fro ea)) (h : (blC c "range" && noStar a) = true) : PI X tg (.Call (.Name "range" p) [a] [] pos) (tIt Φ fr Γ X.K (.r1 ea)) := by
  simp only [Bool.and_eq_true] at h
  exact it_r1 (blC_of gd h.1).1 (blC_of gd h.1).2 ha h.2
theorem k_r2 (gd : Gd X c) {tg a b : Expr} {ea eb : E} {p : Pos} (ha : PE X a (tE Φ fr X.K Γ .fro ea)) (hb : PE X b (tE Φ fr X.K Γ .fro eb)) (h : (blC c "range" && noStar a && noStar b) = true) : PI X tg (.Call (.Name "range" p) [a, b] [] pos) (tIt Φ fr Γ X.K (.r2 ea eb)) := by
  simp only [Bool.and_eq_true] at h
  exact it_r2 (blC_of gd h.1.1).1 (blC_of gd h.1.1).2 ha hb h.1.2 h.2
theorem k_r3 (gd : Gd X c) {tg a b e : Expr} {ea eb ee : E} {p : Pos} (ha : PE X a (tE Φ fr X.K Γ .fro ea)) (hb : PE X b (tE Φ fr X.K Γ .fro eb)) (he : PE X e (tE Φ fr X.K Γ .fro ee)) (h : (blC c "range" && noStar a && noStar b && noStar e) = true) : PI X tg (.Call (.Name "range" p) [a, b, e] [] pos) (tIt Φ fr Γ X.K (.r3 ea eb ee)) := by
  simp only [Bool.and_eq_true] at h
  exact it_r3 (blC_of gd h.1.1.1).1 (blC_of gd h.1.1.1).2 ha hb he h.1.1.2 h.1.2 h.2
theorem k_en (gd : Gd X c) {a : Expr} {oa : O} {p tpos : Pos} {elts : List Expr} {kk : Nat} (ha : PE X a (tW Φ fr Γ X.K oa)) (h : (blC c "enumerate" && noStar a) = true) : PI X (.Tuple elts kk tpos) (.Call (.Name "enumerate" p) [a] [] pos) (tIt Φ fr Γ X.K (.en oa)) := by
  simp only [Bool.and_eq_true] at h
  exact it_en (blC_of gd h.1).1 (blC_of gd h.1).2 ha h.2
theorem k_zp (gd : Gd X c) {a b : Expr} {ea eb : E} {p tpos : Pos} {elts : List Expr} {kk : Nat} (ha : PE X a (tE Φ fr X.K Γ .fro ea)) (hb : PE X b (tE Φ fr X.K Γ .fro eb)) (h : (blC c "zip" && noStar a && noStar b) = true) : PI X (.Tuple elts kk tpos) (.Call (.Name "zip" p) [a, b] [] pos) (tIt Φ fr Γ X.K (.zp ea eb)) := by
  simp only [Bool.and_eq_true] at h
  exact it_zp (blC_of gd h.1.1).1 (blC_of gd h.1.1).2 ha hb h.1.2 h.2
/-! comprehensions -/
def inAll (l m : List Nat) : Bool := l.all fun i => decide (i ∈ m)
theorem inAll_of {l m : List Nat} (h : inAll l m = true) : ∀ i ∈ l, i ∈ m := fun i hi => of_decide_eq_true (List.all_eq_true.mp h i hi)
def cmpC (c : Ct) (P P' : List Nat) (it : Iv) (tg : Tg) (own : List (Str × Nat)) (scope : Scope) (iter : Expr) : Bool :=
  inAll P P' && inAll (itB it) P' && (P'.all fun i => decide (i ∉ own.map (·.2))) && inAll (tgSl tg) (own.map (·.2)) && blkC c.N c.sc scope own && noSet iter
theorem blk_kind {N : List Str} {sc scope : Scope} {own : List (Str × Nat)} (h : blkC N sc scope own = true) : scope.kind = .function := (blkOk_by h).kind
theorem k_comp (gd : Gd X c) (hpin : Pin P fr) (P' : List Nat) (own : List (Str × Nat)) {t : Ty} {elt tgt iter : Expr} {ifs : List Expr} {scope : Scope} {eelt : E} {tg : Tg} {it : Iv} {cd : Ot} (m : Made t w)
    (h : cmpC c P P' it tg own scope iter = true) (hi : PI X tgt iter (tIt Φ fr Γ X.K it))
    (hg : ∀ (X' : Cx), Gd X' (c.blk scope) → (∀ x g, Cal X Φ x g → Cal X' Φ x g) → ∀ fr, Pin P' fr → PG X' tgt (tG fr Γ X'.K tg))
    (ht : ∀ (X' : Cx), Gd X' (c.blk scope) → (∀ x g, Cal X Φ x g → Cal X' Φ x g) → PTs X' ifs (xC Φ Γ P' X'.K cd))
    (he : ∀ (X' : Cx), Gd X' (c.blk scope) → (∀ x g, Cal X Φ x g → Cal X' Φ x g) → ∀ fr, Pin P' fr → PE X' elt (tE Φ fr X'.K Γ t eelt)) :
    PE X (.ListComp elt [⟨tgt, iter, ifs, 0⟩] scope pos) (tE Φ fr X.K Γ w (.comp eelt tg it cd (own.map (·.2)))) := by
  unfold cmpC at h
  simp only [Bool.and_eq_true] at h
  obtain ⟨⟨⟨⟨⟨h1, h2⟩, h3⟩, h4⟩, h5⟩, h6⟩ := h
  have hk := blk_kind h5
  refine e_comp m gd.calm (by rw [gd.N]; exact gd.nd) hpin (inAll_of h1) (inAll_of h2) (fun i hi => of_decide_eq_true (List.all_eq_true.mp h3 i hi)) (inAll_of h4) hi (by rw [gd.N, gd.sc]; exact blkOk_by h5) h6 ?_ ?_ ?_
  · exact fun s H C cl fp fr hp => hg _ (gd.blk hk) (fun x g h => h.blk) fr hp
  · exact fun s H C cl fp => ht _ (gd.blk hk) (fun x g h => h.blk)
  · exact fun s H C cl fp fr hp => he _ (gd.blk hk) (fun x g h => h.blk) fr hp
/-! statements -/
theorem k_set (gd : Gd X c) (hp : Pin P fr) (i : Nat) (t : Ty) {x : Str} {e : Expr} {ee : E} {px : Pos} (he : PE X e (tE Φ fr X.K Γ t ee)) (h : (sC c Γ P i x t && noComp e) = true) : PS X (.Assign [.Name x px] e pos) (tS Φ fr Γ ret wx X.K (.set i ee)) := by
  obtain ⟨h, h7⟩ := Bool.and_eq_true_iff.mp h
  obtain ⟨h1, h2, h3, h4, h5, h6⟩ := sC_of gd hp h
  exact s_set h1 h2 h3 h4 h5 h6 (swaps_no h7) he
theorem swaps_cell {elt : Expr} {gs : List Comprehension} {scope : Scope} {cp py : Pos} {y : Str} {l : Nat} {env : Env} (h : env.scope.names.lookup y = some .cell) : swapsWith (.ListComp elt gs scope cp) (some (.Name y py)) l env = pure false := by
  have hk : env.kindOf y = some .cell := h
  unfold swapsWith
  simp only [hk]
  have e : ((some NameKind.cell : Option NameKind) == some .local) = false := by decide
  simp only [e, Bool.and_false, Bool.false_and]
theorem k_setK (gd : Gd X c) (hp : Pin P fr) (i : Nat) (t : Ty) {x : Str} {elt : Expr} {gs : List Comprehension} {scope : Scope} {cp : Pos} {ee : E} {px : Pos} (he : PE X (.ListComp elt gs scope cp) (tE Φ fr X.K Γ t ee)) (h : (sC c Γ P i x t && decide (c.sc.names.lookup x = some .cell)) = true) : PS X (.Assign [.Name x px] (.ListComp elt gs scope cp) pos) (tS Φ fr Γ ret wx X.K (.set i ee)) := by
  obtain ⟨h, h7⟩ := Bool.and_eq_true_iff.mp h
  obtain ⟨h1, h2, h3, h4, h5, h6⟩ := sC_of gd hp h
  exact s_set h1 h2 h3 h4 h5 h6 (swaps_cell (by rw [gd.sc]; exact of_decide_eq_true h7)) he
theorem k_setC (gd : Gd X c) (hpin : Pin P fr) (i : Nat) (w : Ty) (P' : List Nat) (own : List (Str × Nat)) {x : Str} {px cp : Pos} {t : Ty} {elt tgt iter : Expr} {ifs : List Expr} {scope : Scope} {eelt : E} {tg : Tg} {it : Iv} {cd : Ot} (m : Made t w)
    (h : (cmpC c P P' it tg own scope iter && sC c Γ P i x w && decide (c.sc.names.lookup x = some .local) && (px.line == cp.line) && !(scope.names.any fun (n, k) => n == x && (k == .local || k == .cell))) = true) (hi : PI X tgt iter (tIt Φ fr Γ X.K it))
    (hg : ∀ (X' : Cx), Gd X' (c.blk scope) → (∀ x g, Cal X Φ x g → Cal X' Φ x g) → ∀ fr, Pin P' fr → PG X' tgt (tG fr Γ X'.K tg))
    (ht : ∀ (X' : Cx), Gd X' (c.blk scope) → (∀ x g, Cal X Φ x g → Cal X' Φ x g) → PTs X' ifs (xC Φ Γ P' X'.K cd))
    (he : ∀ (X' : Cx), Gd X' (c.blk scope) → (∀ x g, Cal X Φ x g → Cal X' Φ x g) → ∀ fr, Pin P' fr → PE X' elt (tE Φ fr X'.K Γ t eelt)) :
    PS X (.Assign [.Name x px] (.ListComp elt [⟨tgt, iter, ifs, 0⟩] scope cp) pos) (tS Φ fr Γ ret wx X.K (.set i (.comp eelt tg it cd (own.map (·.2))))) := by
  simp only [Bool.and_eq_true, Bool.not_eq_true', decide_eq_true_eq] at h
  obtain ⟨⟨⟨⟨h, g1⟩, g2⟩, g3⟩, g4⟩ := h
  unfold cmpC at h
  simp only [Bool.and_eq_true] at h
  obtain ⟨⟨⟨⟨⟨h1, h2⟩, h3⟩, h4⟩, h5⟩, h6⟩ := h
  have hk := blk_kind h5
  have g2' : X.env.scope.names.lookup x = some .local := by rw [gd.sc]; exact g2
  unfold sC at g1
  simp only [Bool.and_eq_true, decide_eq_true_eq] at g1
  refine s_setC m gd.calm (by rw [gd.N]; exact gd.nd) (by rw [gd.N]; exact g1.1.1.1) g2' g1.1.2 g1.2 (sw_true (by rw [gd.sc]; exact gd.kd) g2' g3 g4) hpin (inAll_of h1) (inAll_of h2) (fun i hi => of_decide_eq_true (List.all_eq_true.mp h3 i hi)) (inAll_of h4) hi (by rw [gd.N, gd.sc]; exact blkOk_by h5) h6 ?_ ?_ ?_
  · exact fun s H C cl fp fr hp => hg _ (gd.blk hk) (fun x g h => h.blk) fr hp
  · exact fun s H C cl fp => ht _ (gd.blk hk) (fun x g h => h.blk)
  · exact fun s H C cl fp fr hp => he _ (gd.blk hk) (fun x g h => h.blk) fr hp
theorem k_unp {es : List Expr} {k : Nat} {p : Pos} {e : Expr} {tg : Tg} {ee : E} (hg : PG X (.Tuple es k p) (tG fr Γ X.K tg)) (he : PE X e (tE Φ fr X.K Γ .fro ee)) (h : (noComp e && noTup e) = true) : PS X (.Assign [.Tuple es k p] e pos) (tS Φ fr Γ ret wx X.K (.unp tg ee)) := by
  obtain ⟨h1, h2⟩ := Bool.and_eq_true_iff.mp h
  exact s_unp h1 h2 hg he
end
end Vw
namespace Vw
open PySem PySem.Spec PyProof.Rows L2
/-! ### a def's body keeps its promise -/
def pinsOf : Nat → List Ty → List V → List (Nat × V)
  | n, .lst _ :: ps, v :: vs => (n, v) :: pinsOf (n + 1) ps vs
  | n, .fro :: ps, _ :: vs => pinsOf (n + 1) ps vs
  | _, _, _ => []
def pinP : Nat → List Ty → List Nat
  | _, [] => []
  | n, .lst _ :: ps => n :: pinP (n + 1) ps
  | n, .fro :: ps => pinP (n + 1) ps
def PinL : List Ty → List V → Sg → Prop
  | .lst _ :: ps, v :: vs, s :: σ => s = some v ∧ PinL ps vs σ
  | .fro :: ps, _ :: vs, _ :: σ => PinL ps vs σ
  | [], [], _ => True
  | _, _, _ => False
theorem pin_in : ∀ {ps : List Ty} {vs : List V} {n : Nat}, ∀ p ∈ pinsOf n ps vs, p.1 ∈ pinP n ps
  | [], _, _, p, h => by simp [pinsOf] at h
  | .lst _ :: ps, [], _, p, h => by simp [pinsOf] at h
  | .fro :: ps, [], _, p, h => by simp [pinsOf] at h
  | .lst _ :: ps, v :: vs, n, p, h => by
    rcases List.mem_cons.mp (show p ∈ (n, v) :: pinsOf (n + 1) ps vs from h) with rfl | h
    · exact List.mem_cons_self
    · exact List.mem_cons_of_mem _ (pin_in p h)
  | .fro :: ps, v :: vs, n, p, h => pin_in (ps := ps) p h
theorem pinL_of {σ0 : Sg} : ∀ {ps : List Ty} {vs : List V} {n : Nat}, vs.length = ps.length → n + ps.length ≤ σ0.length → (∀ p ∈ pinsOf n ps vs, σ0[p.1]? = some (some p.2)) → PinL ps vs (σ0.drop n)
  | [], [], n, _, _, _ => by
    cases σ0.drop n <;> exact trivial
  | [], _ :: _, _, h, _, _ => by simp at h
  | _ :: _, [], _, h, _, _ => by simp at h
  | .lst t :: ps, v :: vs, n, hl, hn, h => by
    have hlt : n < σ0.length := by simp at hn; omega
    rw [List.drop_eq_getElem_cons hlt]
    have e := h (n, v) List.mem_cons_self
    rw [List.getElem?_eq_getElem hlt] at e
    exact ⟨Option.some.inj e, pinL_of (by simpa using hl) (by simp at hn; omega) fun p hp => h p (List.mem_cons_of_mem _ hp)⟩
  | .fro :: ps, v :: vs, n, hl, hn, h => by
    have hlt : n < σ0.length := by simp at hn; omega
    rw [List.drop_eq_getElem_cons hlt]
    exact pinL_of (ps := ps) (by simpa using hl) (by simp at hn; omega) fun p hp => h p hp
theorem start_pins {m : Nat} : ∀ {ps : List Ty} {vs : List V} {n : Nat} {pre : Sg}, pre.length = n → ∀ p ∈ pinsOf n ps vs, (pre ++ (vs.map some ++ List.replicate m none))[p.1]? = some (some p.2)
  | [], _, _, _, _, p, h => by simp [pinsOf] at h
  | .lst _ :: ps, [], _, _, _, p, h => by simp [pinsOf] at h
  | .fro :: ps, [], _, _, _, p, h => by simp [pinsOf] at h
  | .lst _ :: ps, v :: vs, n, pre, hn, p, h => by
    rcases List.mem_cons.mp (show p ∈ (n, v) :: pinsOf (n + 1) ps vs from h) with rfl | h
    · show (pre ++ _)[n]? = _
      rw [List.getElem?_append_right (by omega), hn, Nat.sub_self]
      rfl
    · have g := start_pins (m := m) (ps := ps) (vs := vs) (n := n + 1) (pre := pre ++ [some v]) (by simp [hn]) p h
      rw [List.append_assoc] at g
      exact g
  | .fro :: ps, v :: vs, n, pre, hn, p, h => by
    have g := start_pins (m := m) (ps := ps) (vs := vs) (n := n + 1) (pre := pre ++ [some v]) (by simp [hn]) p h
    rw [List.append_assoc] at g
    exact g
section
variable {K : PySem.W.Frag} {G G' H H' : Hp}
theorem SlF.blank : ∀ {Γ : List Ty}, SlF K G H Γ (List.replicate Γ.length none) (List.replicate Γ.length none) []
  | [] => rfl
  | t :: Γ => ⟨[], [], rfl, rfl, SlF.blank⟩
theorem SlF.start {Γr : List Ty} : ∀ {ts : List Tm} {F : List Addr}, TmF K G H ts F → SlF K G H (ts.map Tm.t ++ Γr) ((ts.map Tm.d).map some ++ List.replicate Γr.length none) ((ts.map Tm.v).map some ++ List.replicate Γr.length none) F
  | [], F, h => by
    have h : F = [] := h
    subst h
    exact SlF.blank
  | x :: ts, F, ⟨F1, F2, e, p, q⟩ => ⟨F1, F2, e, ⟨x.v, rfl, p⟩, SlF.start q⟩
theorem fout_tm (sG : Same G G') {Γr : List Ty} : ∀ {ps : List Ty} {ts : List Tm} {ρ : Rho} {σ : Sg} {F F1 : List Addr} {o : List D}, ts.map Tm.t = ps → TmF K G H ts F → SlF K G' H' (ps ++ Γr) ρ σ F1 → PinL ps (ts.map Tm.v) σ → fout ps (ts.map Tm.d) ρ = some o →
    ∃ ts' FA, ts'.map Tm.t = ps ∧ ts'.map Tm.v = ts.map Tm.v ∧ ts'.map Tm.d = o ∧ TmF K G' H' ts' FA ∧ FA.Sublist F1
  | [], [], ρ, σ, F, F1, o, _, _, _, _, ho => by
    have ho : some [] = some o := by
      cases ρ <;> exact ho
    cases ho
    exact ⟨[], [], rfl, rfl, rfl, rfl, List.nil_sublist _⟩
  | [], _ :: _, _, _, _, _, _, e, _, _, _, _ => by simp at e
  | _ :: _, [], _, _, _, _, _, e, _, _, _, _ => by simp at e
  | p :: ps, x :: ts, [], σ, F, F1, o, _, _, s, _, _ => by
    cases σ <;> exact s.elim
  | p :: ps, x :: ts, oo :: ρ, [], F, F1, o, _, _, s, _, _ => s.elim
  | p :: ps, x :: ts, oo :: ρ, sv :: σ, F, F1, o, e, ⟨Fa, Fb, ef, tx, tr⟩, ⟨Fc, Fd, ef2, sx, sr⟩, pl, ho => by
    have e1 : x.t = p := List.head_eq_of_cons_eq e
    have e2 : ts.map Tm.t = ps := List.tail_eq_of_cons_eq e
    cases p with
    | fro =>
      obtain ⟨o', h1, rfl⟩ := map_inv (show (fout ps (ts.map Tm.d) ρ).map (x.d :: ·) = some o by cases oo <;> exact ho)
      obtain ⟨ts', FA, a1, a2, a3, a4, a5⟩ := fout_tm sG e2 tr sr (show PinL ps (ts.map Tm.v) σ from pl) h1
      rw [e1] at tx
      exact ⟨⟨.fro, x.d, x.v⟩ :: ts', FA, by simp [a1], by simp [a2], by simp [a3], ⟨[], FA, rfl, ⟨rfl, Rp_same sG _ _ tx.2⟩, a4⟩, by rw [ef2]; exact a5.trans (List.sublist_append_right _ _)⟩
    | lst t =>
      cases oo with
      | none => cases ho
      | some d =>
        obtain ⟨o', h1, rfl⟩ := map_inv (show (fout ps (ts.map Tm.d) ρ).map (d :: ·) = some o from ho)
        obtain ⟨pl1, pl2⟩ := (show sv = some x.v ∧ PinL ps (ts.map Tm.v) σ from pl)
        obtain ⟨ts', FA, a1, a2, a3, a4, a5⟩ := fout_tm sG e2 tr sr pl2 h1
        obtain ⟨v, s1, s2⟩ := sx
        rw [pl1] at s1
        cases s1
        exact ⟨⟨.lst t, d, x.v⟩ :: ts', Fc ++ FA, by simp [a1], by simp [a2], by simp [a3], ⟨Fc, FA, rfl, s2, a4⟩, by rw [ef2]; exact (List.Sublist.refl Fc).append a5⟩
end
structure Callee (P : Program) (w : World) (K : PySem.W.Frag) (mg : Str → Option Value) (base : Heap) (Φ : Cf) (k : Nat) (x : Str) (g : Sig) : Prop where
  ex : ∃ (k' : Nat) (f : Addr) (fd : FuncData) (ps : List Str), FnOk P w K mg base CX0 k' f fd ps (spI K g (Φ.fn x)) ∧ k' ≤ k ∧ mg x = some (.ref f) ∧ PySem.W.keepIn K (.ref f) = true ∧ Binds K fd ps []
theorem Callee.mono {P : Program} {w : World} {K : PySem.W.Frag} {mg : Str → Option Value} {base : Heap} {Φ : Cf} {k k2 : Nat} {x : Str} {g : Sig} (h : Callee P w K mg base Φ k x g) (l : k ≤ k2) : Callee P w K mg base Φ k2 x g := by
  obtain ⟨k', f, fd, ps, h1, h2, h3⟩ := h.ex
  exact ⟨k', f, fd, ps, h1, by omega, h3⟩
theorem res_end {fr : Fr} {K : PySem.W.Frag} {G H H' : Hp} {F : List Addr} {Γr : List Ty} {ps : List Ty} {ret : Ty} {ts us : List Tm} {ρ : Rho} {σ : Sg} {d : D} {v : V} {o : List D} (hfr : fr = ⟨H, G, F, pinsOf 0 ps (ts.map Tm.v)⟩) (e : ts.map Tm.t = ps) (tm : TmF K G H ts F)
    (s : SR fr K (ps ++ Γr) ρ σ (us ++ [⟨ret, d, v⟩]) H') (ho : fout ps (ts.map Tm.d) ρ = some o) : CallEnd K G H F ret ts o d v H' := by
  subst hfr
  obtain ⟨G', F1, F2, x⟩ := s
  obtain ⟨F3, F4, ef, t1, t2⟩ := x.tm.app
  have len := x.sl.lens.1
  have pl := pinL_of (σ0 := σ) (ps := ps) (vs := ts.map Tm.v) (n := 0) (by rw [← e]; simp) (by rw [← len]; simp) x.ok.pin
  obtain ⟨ts', FA, a1, a2, a3, a4, a5⟩ := fout_tm x.ok.sG e tm x.sl pl ho
  have sub : (FA ++ F4).Sublist (F1 ++ F2) := by
    rw [ef]
    exact a5.append (List.sublist_append_right _ _)
  exact ⟨G', ts', FA, F4, x.ok.sG, x.sub, by rw [a1, e], a2, a3, a4, t2.one, x.nd.sublist sub, fun a ha => x.out a (sub.subset ha), x.ok.keep, x.ok.mono, x.ok.nG⟩
/-! ### defs that may raise -/
def XEnd (K : PySem.W.Frag) (G H : Hp) (fs : Fs) (vs : List V) (H' : Hp) : Prop := ∃ G', Same G G' ∧ Same G' H' ∧ RpAll K G' vs (fs.map (·.2)) ∧ (∀ a o, H a = some o → H' a = some o) ∧ (∀ a, H' a = none → H a = none) ∧ (∀ a, G' a ≠ none → G a ≠ none ∨ H a = none)
def spX (mg : Str → Option Value) (K : PySem.W.Frag) (g : Sig) (f : List D → Option Xr) : Sp := fun vs H Q E => ∃ G ts r, ts.map Tm.v = vs ∧ ts.map Tm.t = g.ps ∧ Same G H ∧ TmF K G H ts [] ∧ f (ts.map Tm.d) = some r ∧ match r with
  | .ret d o => ∀ v H', CallEnd K G H [] g.ret ts o d v H' → Q v H'
  | .exn x fs => ∀ C dd vs H', mg x = some (.ref C) → vs.length = fs.length → XEnd K G H fs vs H' → H' dd = some (xdOf fs vs) → E (.ref C) (some dd) H'
theorem spX_len {mg : Str → Option Value} {K : PySem.W.Frag} {g : Sig} {f : List D → Option Xr} {vs : List V} {H : Hp} {Q : VK} {E : XK} (h : spX mg K g f vs H Q E) : vs.length = g.ps.length := by
  obtain ⟨G, ts, r, rfl, e, _⟩ := h
  rw [← e, List.length_map, List.length_map]
structure CalleeX (P : Program) (w : World) (K : PySem.W.Frag) (mg : Str → Option Value) (base : Heap) (Φ : Cf) (k : Nat) (x : Str) (g : Sig) : Prop where
  ex : ∃ (k' : Nat) (f : Addr) (fd : FuncData) (ps : List Str), FnOk P w K mg base (L2.CX P w) k' f fd ps (spX mg K g (Φ.fx x)) ∧ k' ≤ k ∧ mg x = some (.ref f) ∧ PySem.W.keepIn K (.ref f) = true ∧ Binds K fd ps []
structure CalX (X : Cx) (Φ : Cf) (x : Str) (g : Sig) : Prop where
  ex : ∃ (k : Nat) (f : Addr) (fd : FuncData) (ps : List Str), FnOk X.prog X.w X.K X.mg X.base (L2.CX X.prog X.w) k f fd ps (spX X.mg X.K g (Φ.fx x)) ∧ Room k X.A ∧ X.mg x = some (.ref f) ∧ PySem.W.keepIn X.K (.ref f) = true ∧ Binds X.K fd ps []
/-- a class that is raised -/
structure KlsAt (P : Program) (K : PySem.W.Frag) (mg : Str → Option Value) (x : Str) : Prop where
  ex : ∃ C, Ve.Err2 K P C ∧ mg x = some (.ref C) ∧ mg "super" = none ∧ PySem.W.exmOne K (.ref C) (.ref C) = some true ∧ XfC K C
structure Kls (X : Cx) (x : Str) : Prop where
  at_ : KlsAt X.prog X.K X.mg x
  rm : Room 2 X.A
structure Gx (X : Cx) (wx : Xw) : Prop where
  mg : X.mg = wx.mg
  tk : Takes X wx.W
  stk : X.stack = X.env :: X.outer
  frm : X.env.frame = some X.env.locals
theorem fn_sound {P : Program} {w : World} {K : PySem.W.Frag} {mg : Str → Option Value} {base : Heap} {Φ : Cf} {x qual : Str} {st : Stmt} {f : Addr} {fd : FuncData} {N ps : List Str} {k : Nat} (F : Fun K x qual st f fd) (S : FnScope N ps (defScope st)) (g : Sig) (Γr : List Ty) (b : Ss)
    (hl : (decide (g.ps.length = ps.length) && decide (g.ps.length + Γr.length = N.length)) = true) (hbl : ∀ x, x ∈ blAll → mg x = none) (gl : List (Str × Int)) (hgl : ∀ p ∈ gl, ∃ t, mg p.1 = some (.int p.2 t))
    (hbody : ∀ (X : Cx), Gd X ⟨N, defScope st, fun _ => true, gl⟩ → (∀ x g, Callee P w K mg base Φ k x g → Cal X Φ x g) → (∀ x g, CalleeX P w K mg base Φ k x g → CalX X Φ x g) → (∀ x, KlsAt P K mg x → 2 ≤ k → Kls X x) → ∀ (wx : Xw), Gx X wx → ∀ (fr : Fr), Pin (pinP 0 g.ps) fr → PSs X (defBody st) (tSs Φ fr (g.ps ++ Γr) g.ret wx X.K b)) :
    FnOk P w K mg base CX0 (k + 1) f fd ps (spI K g (evF Φ g.ps N.length b)) := by
  obtain ⟨hl1, hl2⟩ := Bool.and_eq_true_iff.mp hl
  have hl1 : g.ps.length = ps.length := of_decide_eq_true hl1
  have hl2 : g.ps.length + Γr.length = N.length := of_decide_eq_true hl2
  refine F.ok S (fun vs H Q E h => by rw [spI_len h]; exact hl1) fun cdv A outer s H vs Q E hr h => ?_
  obtain ⟨G, Fo, ts, r, e1, e2, sG, tm, nd, gn, hf, q⟩ := h
  have gd : Gd (cxOf CX0 P w K mg base N qual (defScope st) f cdv A outer s H E).nox ⟨N, defScope st, fun _ => true, gl⟩ := {
    N := rfl
    nd := S.nd
    sc := rfl
    kd := S.kind
    calm := rfl
    pas := PassesOwn.never
    cl := fun x hx => rfl
    un := by
      have := hr.un
      show (A.deeper _).units + 100 < cLine
      omega
    bl := hbl
    gl := hgl }
  have lts : ts.length = g.ps.length := by rw [← e2, List.length_map]
  let fr : Fr := ⟨H, G, Fo, pinsOf 0 g.ps (ts.map Tm.v)⟩
  refine ⟨_, hbody _ gd (fun y g' hc => ?_) (fun y g' hc => ?_) (fun y hk h2 => ⟨hk, hr.mono h2⟩) ⟨mg, fun _ _ _ _ => False⟩ ⟨rfl, takes0, rfl, rfl⟩ fr (fun p hp => pin_in p hp), ?_⟩
  · obtain ⟨k', f', fd', ps', c1, c2, c3, c4, c5⟩ := hc.ex
    exact ⟨k', f', fd', ps', c1, hr.mono c2, c3, c4, c5⟩
  · obtain ⟨k', f', fd', ps', c1, c2, c3, c4, c5⟩ := hc.ex
    exact ⟨k', f', fd', ps', c1, hr.mono c2, c3, c4, c5⟩
  · obtain ⟨rr, h1, h2⟩ := bind_inv hf
    have sl : SlF K G H (g.ps ++ Γr) ((ts.map Tm.d).map some ++ List.replicate Γr.length none) ((ts.map Tm.v).map some ++ List.replicate Γr.length none) Fo := by
      rw [← e2]
      exact SlF.start tm
    have er : (ts.map Tm.d).map some ++ List.replicate (N.length - (ts.map Tm.d).length) none = (ts.map Tm.d).map some ++ List.replicate Γr.length none := by
      rw [List.length_map, lts, ← hl2, Nat.add_sub_cancel_left]
    have es : L2.start N vs = (ts.map Tm.v).map some ++ List.replicate Γr.length none := by
      rw [← e1]
      unfold L2.start
      rw [List.length_map, lts, ← hl2, Nat.add_sub_cancel_left]
    rw [er] at h1
    have sr : SR fr K (g.ps ++ Γr) ((ts.map Tm.d).map some ++ List.replicate Γr.length none) (L2.start N vs) [] H := by
      rw [es]
      refine ⟨G, Fo, [], sG, sl, rfl, by rw [List.append_nil]; exact nd, fun a ha => ?_, ?_⟩
      · rw [List.append_nil] at ha
        exact ⟨gn a ha, .inl ha⟩
      · refine ⟨fun a o e _ => e, fun a e => e, Same.refl G, fun a h => .inl h, fun p hp => ?_⟩
        have := start_pins (m := Γr.length) (ps := g.ps) (vs := ts.map Tm.v) (n := 0) (pre := []) rfl p hp
        rw [List.nil_append] at this
        exact this
    refine ⟨_, [], rr, sr, h1, ?_⟩
    cases rr with
    | nx ρ =>
      obtain ⟨o, h3, rfl⟩ := map_inv h2
      exact fun σ H' s' => q _ _ (res_end (us := []) rfl e2 tm (s'.res (w := g.ret) rfl fun G => .non) h3)
    | ret d ρ =>
      obtain ⟨o, h3, rfl⟩ := map_inv h2
      exact fun v σ H' us s' => q _ _ (res_end (us := us) (σ := σ) (Γr := Γr) rfl e2 tm (by rw [List.nil_append] at s'; exact s') h3)
    | brk ρ => cases h2
    | cnt ρ => cases h2
    | exn x fs ρ => cases h2
theorem fn_soundX {P : Program} {w : World} {K : PySem.W.Frag} {mg : Str → Option Value} {base : Heap} {Φ : Cf} {x qual : Str} {st : Stmt} {f : Addr} {fd : FuncData} {N ps : List Str} {k : Nat} (F : Fun K x qual st f fd) (S : FnScope N ps (defScope st)) (g : Sig) (Γr : List Ty) (b : Ss)
    (ha : (g.ps.all fun t => decide (t = .fro)) = true) (hl : (decide (g.ps.length = ps.length) && decide (g.ps.length + Γr.length = N.length)) = true) (hbl : ∀ x, x ∈ blAll → mg x = none) (gl : List (Str × Int)) (hgl : ∀ p ∈ gl, ∃ t, mg p.1 = some (.int p.2 t))
    (hbody : ∀ (X : Cx), Gd X ⟨N, defScope st, fun _ => true, gl⟩ → (∀ x g, Callee P w K mg base Φ k x g → Cal X Φ x g) → (∀ x g, CalleeX P w K mg base Φ k x g → CalX X Φ x g) → (∀ x, KlsAt P K mg x → 2 ≤ k → Kls X x) → ∀ (wx : Xw), Gx X wx → ∀ (fr : Fr), Pin (pinP 0 g.ps) fr → PSs X (defBody st) (tSs Φ fr (g.ps ++ Γr) g.ret wx X.K b)) :
    FnOk P w K mg base (L2.CX P w) (k + 1) f fd ps (spX mg K g (evX Φ g.ps N.length b)) := by
  obtain ⟨hl1, hl2⟩ := Bool.and_eq_true_iff.mp hl
  have hl1 : g.ps.length = ps.length := of_decide_eq_true hl1
  have hl2 : g.ps.length + Γr.length = N.length := of_decide_eq_true hl2
  refine F.okX S (fun vs H Q E h => by rw [spX_len h]; exact hl1) fun cdv A outer s H vs Q E hr h => ?_
  obtain ⟨G, ts, r, e1, e2, sG, tm, hf, q⟩ := h
  have nd : ([] : List Addr).Nodup := List.nodup_nil
  have gd : Gd (cxOf (L2.CX P w) P w K mg base N qual (defScope st) f cdv A outer s H E) ⟨N, defScope st, fun _ => true, gl⟩ := {
    N := rfl
    nd := S.nd
    sc := rfl
    kd := S.kind
    calm := rfl
    pas := passes_of rfl
    cl := fun x hx => rfl
    un := by
      have := hr.un
      show (A.deeper _).units + 100 < cLine
      omega
    bl := hbl
    gl := hgl }
  have lts : ts.length = g.ps.length := by rw [← e2, List.length_map]
  let fr : Fr := ⟨H, G, [], pinsOf 0 g.ps (ts.map Tm.v)⟩
  refine ⟨_, hbody _ gd (fun y g' hc => ?_) (fun y g' hc => ?_) (fun y hk h2 => ⟨hk, hr.mono h2⟩) ⟨mg, fun cls d _ H => E cls d H⟩ ⟨rfl, takes_of rfl rfl rfl rfl, rfl, rfl⟩ fr (fun p hp => pin_in p hp), ?_⟩
  · obtain ⟨k', f', fd', ps', c1, c2, c3, c4, c5⟩ := hc.ex
    exact ⟨k', f', fd', ps', c1, hr.mono c2, c3, c4, c5⟩
  · obtain ⟨k', f', fd', ps', c1, c2, c3, c4, c5⟩ := hc.ex
    exact ⟨k', f', fd', ps', c1, hr.mono c2, c3, c4, c5⟩
  · obtain ⟨rr, h1, h2⟩ := bind_inv hf
    have sl : SlF K G H (g.ps ++ Γr) ((ts.map Tm.d).map some ++ List.replicate Γr.length none) ((ts.map Tm.v).map some ++ List.replicate Γr.length none) [] := by
      rw [← e2]
      exact SlF.start tm
    have er : (ts.map Tm.d).map some ++ List.replicate (N.length - (ts.map Tm.d).length) none = (ts.map Tm.d).map some ++ List.replicate Γr.length none := by
      rw [List.length_map, lts, ← hl2, Nat.add_sub_cancel_left]
    have es : L2.start N vs = (ts.map Tm.v).map some ++ List.replicate Γr.length none := by
      rw [← e1]
      unfold L2.start
      rw [List.length_map, lts, ← hl2, Nat.add_sub_cancel_left]
    rw [er] at h1
    have sr : SR fr K (g.ps ++ Γr) ((ts.map Tm.d).map some ++ List.replicate Γr.length none) (L2.start N vs) [] H := by
      rw [es]
      refine ⟨G, [], [], sG, sl, rfl, nd, fun a ha => ?_, ?_⟩
      · cases ha
      · refine ⟨fun a o e _ => e, fun a e => e, Same.refl G, fun a h => .inl h, fun p hp => ?_⟩
        have := start_pins (m := Γr.length) (ps := g.ps) (vs := ts.map Tm.v) (n := 0) (pre := []) rfl p hp
        rw [List.nil_append] at this
        exact this
    refine ⟨_, [], rr, sr, h1, ?_⟩
    cases rr with
    | nx ρ =>
      obtain ⟨o, h3, rfl⟩ := map_inv h2
      exact fun σ H' s' => q _ _ (res_end (us := []) rfl e2 tm (s'.res (w := g.ret) rfl fun G => .non) h3)
    | ret d ρ =>
      obtain ⟨o, h3, rfl⟩ := map_inv h2
      exact fun v σ H' us s' => q _ _ (res_end (us := us) (σ := σ) (Γr := Γr) rfl e2 tm (by rw [List.nil_append] at s'; exact s') h3)
    | brk ρ => cases h2
    | cnt ρ => cases h2
    | exn x fs ρ =>
      cases h2
      refine fun σ H' us vs C dd s' hv hm hd => q C dd vs H' hm hv ?_ hd
      obtain ⟨G', F1, F2, y⟩ := s'
      obtain ⟨F3, F4, _, _, t2⟩ := y.tm.app
      have rs := t2.alls tms_t
      rw [tms_d (by rw [List.length_map]; exact hv), tms_v (by rw [List.length_map]; exact hv)] at rs
      exact ⟨G', y.ok.sG, y.sub, rs, fun a o e => y.ok.keep a o e (by intro h; cases h), y.ok.mono, fun a h => (y.ok.nG a h).elim .inl fun h => h.elim (fun h => absurd h (by intro h; cases h)) .inr⟩
end Vw
namespace Vw
open PySem PySem.Spec PyProof.Rows L2
section
variable {X : Cx} {c : Ct} {Φ : Cf} {fr : Fr} {Γ : List Ty} {w : Ty} {ret : Ty} {wx : Xw} {pos : Pos} {P P' : List Nat}
theorem k_app (gd : Gd X c) (i : Nat) {x : Str} {e : Expr} {ee : E} {px ap cp : Pos} (ha : PE X e (tE Φ fr X.K Γ .fro ee)) (h : (vC c Γ i x (.lst .fro) && (ap.endLine == cp.line) && noStar e) = true) : PS X (.Expr (.Call (.Attribute (.Name x px) "append" ap) [e] [] cp) pos) (tS Φ fr Γ ret wx X.K (.app i ee)) := by
  obtain ⟨h, h7⟩ := Bool.and_eq_true_iff.mp h
  obtain ⟨h, h6⟩ := Bool.and_eq_true_iff.mp h
  obtain ⟨h1, h2, h3, h4, h5⟩ := vC_of gd h
  exact s_app h1 h2 h3 h4 h5 h6 ha h7
theorem k_sti (gd : Gd X c) (i : Nat) {x : Str} {a e : Expr} {ea ee : E} {px sp : Pos} (ha : PE X a (tE Φ fr X.K Γ .fro ea)) (he : PE X e (tE Φ fr X.K Γ .fro ee)) (h : (vC c Γ i x (.lst .fro) && notSlice a && noComp e) = true) : PS X (.Assign [.Subscript (.Name x px) a sp] e pos) (tS Φ fr Γ ret wx X.K (.sti i ea ee)) := by
  obtain ⟨h, h7⟩ := Bool.and_eq_true_iff.mp h
  obtain ⟨h, h6⟩ := Bool.and_eq_true_iff.mp h
  obtain ⟨h1, h2, h3, h4, h5⟩ := vC_of gd h
  exact s_sti h1 h2 h3 h4 h5 ha he h6 h7
theorem k_sti2 (gd : Gd X c) (i : Nat) {x : Str} {a b e : Expr} {ea eb ee : E} {px sp sp2 : Pos} (ha : PE X a (tE Φ fr X.K Γ .fro ea)) (hb : PE X b (tI Φ fr Γ X.K eb)) (he : PE X e (tE Φ fr X.K Γ .fro ee)) (h : (vC c Γ i x (.lst (.lst .fro)) && stE eb && notSlice a && notSlice b && noComp e) = true) :
    PS X (.Assign [.Subscript (.Subscript (.Name x px) a sp2) b sp] e pos) (tS Φ fr Γ ret wx X.K (.sti2 i ea eb ee)) := by
  simp only [Bool.and_eq_true] at h
  obtain ⟨h1, h2, h3, h4, h5⟩ := vC_of gd h.1.1.1.1
  exact s_sti2 h1 h2 h3 h4 h5 ha hb h.1.1.1.2 he h.1.1.2 h.1.2 h.2
theorem k_aug (gd : Gd X c) (hp : Pin P fr) (i : Nat) {x : Str} (o : Ar) {e : Expr} {ee : E} {px : Pos} (he : PE X e (tE Φ fr X.K Γ .fro ee)) (h : (sC c Γ P i x .fro && decide (o ≠ .pow)) = true) : PS X (.AugAssign (.Name x px) (opA o) e pos) (tS Φ fr Γ ret wx X.K (.aug i o ee)) := by
  obtain ⟨h, h7⟩ := Bool.and_eq_true_iff.mp h
  obtain ⟨h1, h2, h3, h4, h5, h6⟩ := sC_of gd hp h
  exact s_aug (of_decide_eq_true h7) h1 h2 h3 h4 h5 h6 he
theorem k_for (gd : Gd X c) (hpin : Pin P fr) (P' : List Nat) {tgt iter : Expr} {body : List Stmt} {tg : Tg} {it : Iv} {b : Ss} (hi : PI X tgt iter (tIt Φ fr Γ X.K it)) (hg : ∀ fr, Pin P' fr → PG X tgt (tG fr Γ X.K tg)) (hb : ∀ fr, Pin P' fr → PSs X body (tSs Φ fr Γ ret wx X.K b))
    (h : (inAll P P' && inAll (itB it) P' && noSet iter) = true) : PS X (.For tgt iter body [] pos) (tS Φ fr Γ ret wx X.K (.for tg it b)) := by
  simp only [Bool.and_eq_true] at h
  exact s_for gd.pas gd.calm hpin (inAll_of h.1.1) (inAll_of h.1.2) hi hg hb h.2
theorem sw_par {x y : Str} {px py pt pt2 : Pos} {kt k2 : Nat} {a b : Expr} {env : Env} (hk : env.scope.kind = .function) (hx : env.scope.names.lookup x = some .local) (hy : env.scope.names.lookup y = some .local) (hl : (py.line == px.line) = true) (hne : (x == y) = false) (hs : noStar a = true) (hs2 : noStar b = true)
    (h1 : ([a, b].all (foldedForSure 8)) = false) (h2 : ([a, b].all (constantsAlone 8)) = false) :
    swappedStores [.Tuple [.Name x px, .Name y py] kt pt] (.Tuple [a, b] k2 pt2) env = pure (some [x, y]) := by
  have kx : env.kindOf x = some .local := hx
  have ky : env.kindOf y = some .local := hy
  have hb : env.blockKind = .function := by unfold Env.blockKind; rw [hk]; rfl
  have hst : ([a, b].any fun | .Starred .. => true | _ => false) = false := by
    have f : ∀ e : Expr, noStar e = true → (match e with | .Starred .. => true | _ => false) = false := fun e h => by
      cases e <;> first | rfl | exact absurd h Bool.false_ne_true
    rw [List.any_cons, List.any_cons, f a hs, f b hs2]
    rfl
  have e1 : ([x, y].eraseDups.length != 2) = false := by
    have : (y == x) = false := by
      rw [← hne]
      exact BEq.comm
    simp [List.eraseDups_cons, this]
  unfold swappedStores
  simp only [hb, kx, ky, hst, h1, h2, List.filterMap, List.head?, Option.map, Option.getD, hl, List.length]
  simp [Expr.pos, hl, kx, ky, e1]
  intro h
  rcases h with h | h
  · cases a <;> first | exact absurd hs Bool.false_ne_true | exact absurd h Bool.false_ne_true
  · cases b <;> first | exact absurd hs2 Bool.false_ne_true | exact absurd h Bool.false_ne_true
theorem k_par (gd : Gd X c) (hpin : Pin P fr) (i j : Nat) (t u : Ty) {x y : Str} {a b : Expr} {ea eb : E} {px py pt pt2 : Pos} {kt k2 : Nat} (ha : PE X a (tE Φ fr X.K Γ t ea)) (hb : PE X b (tE Φ fr X.K Γ u eb))
    (h : (sC c Γ P i x t && sC c Γ P j y u && decide (i ≠ j) && decide (c.sc.names.lookup x = some .local) && decide (c.sc.names.lookup y = some .local) && noStar a && noStar b && (py.line == px.line) && !(x == y) && !([a, b].all (foldedForSure 8)) && !([a, b].all (constantsAlone 8))) = true) :
    PS X (.Assign [.Tuple [.Name x px, .Name y py] kt pt] (.Tuple [a, b] k2 pt2) pos) (tS Φ fr Γ ret wx X.K (.par i j ea eb)) := by
  simp only [Bool.and_eq_true, Bool.not_eq_true', decide_eq_true_eq] at h
  obtain ⟨⟨⟨⟨⟨⟨⟨⟨⟨⟨g1, g2⟩, g3⟩, g4⟩, g5⟩, g6⟩, g7⟩, g8⟩, g9⟩, g10⟩, g11⟩ := h
  obtain ⟨h1, h2, h3, h4, h5, h6⟩ := sC_of gd hpin g1
  obtain ⟨k1, k2, k3, k4, k5, k6⟩ := sC_of gd hpin g2
  have e4 : X.env.scope.names.lookup x = some .local := by rw [gd.sc]; exact g4
  have e5 : X.env.scope.names.lookup y = some .local := by rw [gd.sc]; exact g5
  exact s_par gd.calm h1 h2 k2 g3 e4 e5 h5 k5 h6 k6 ha hb g6 g7 (sw_par (by rw [gd.sc]; exact gd.kd) e4 e5 g8 g9 g6 g7 g10 g11)
end
end Vw
namespace Vw
open PySem PySem.Spec PyProof.Rows L2
section
variable {X : Cx} {Φ : Cf} {fr : Fr} {Γ : List Ty} {w : Ty} {ret : Ty} {wx : Xw} {pos : Pos} {c : Ct} {P P' : List Nat}
/-! ### three comparisons in a chain -/
def tCh3 (r1 r2 r3 : R2) (ta tb tc td : TE) : TE := fun σ H Q => ta σ H fun x H1 => tb σ H1 fun y H2 => r1 x y H2 fun z H3 => ∃ k, z = .bl k ∧ (if k = true then tc σ H3 fun z' H4 => r2 y z' H4 fun z2 H5 => ∃ k2, z2 = .bl k2 ∧ (if k2 = true then td σ H5 fun z3 H6 => r3 z' z3 H6 Q else Q (.bl false) H5) else Q (.bl false) H3)
section
variable {a b e f : Expr} {ta tb tc td : TE}
theorem pe_ch3 {op op' op'' : CmpOp} {r r' r'' : R2} (ho : OpR X (compareOp op) r) (ho' : OpR X (compareOp op') r') (ho'' : OpR X (compareOp op'') r'') (ha : PE X a ta) (hb : PE X b tb) (hc : PE X e tc) (hd : PE X f td)
    (hm : lastMarks [op, op', op''] [b, e, f] = false) : PE X (.Compare a [op, op', op''] [b, e, f] pos) (tCh3 r r' r'' ta tb tc td) := by
  refine ⟨fun pins s σ H Q I h => ?_⟩
  refine Compare_chain (thn (ha.run pins s σ H _ I h) fun v s1 ⟨x, H1, I1, r1, q1⟩ => chain_link (thn (hb.run pins s1 σ H1 _ I1 q1) fun u s2 ⟨y, H2, I2, r2, q2⟩ =>
    thn (ho pins s2 σ H2 x y v u _ I2 r1 r2 q2) fun d s3 ⟨z, H3, I3, r3, k, e, q3⟩ => ?_)) hm
  subst e
  cases r3
  refine wpAny_truthy_bool ?_
  cases k with
  | false => exact ite_ff ⟨.bl false, H3, I3, rfl, q3⟩
  | true =>
    refine ite_tt (chain_link (thn (hc.run pins s3 σ H3 _ I3 q3) fun w' s4 ⟨z', H4, I4, r4, q4⟩ => thn (ho' pins s4 σ H4 y z' u w' _ I4 r2 r4 q4) fun d' s5 ⟨z2, H5, I5, r5, k2, e2, q5⟩ => ?_))
    subst e2
    cases r5
    refine wpAny_truthy_bool ?_
    cases k2 with
    | false => exact ite_ff ⟨.bl false, H5, I5, rfl, q5⟩
    | true => exact ite_tt (chain_last (thn (hd.run pins s5 σ H5 _ I5 q5) fun w2 s6 ⟨z3, H6, I6, r6, q6⟩ => ho'' pins s6 σ H6 z' z3 w' w2 Q I6 r4 r6 q6))
end
theorem m_ch3 {K : PySem.W.Frag} (o o2 o3 : Cm) {ea eb ee ef : E} {σ : Sg} {H : Hp} {Q : VK} (h : tE Φ fr K Γ w (.ch3 o o2 o3 ea eb ee ef) σ H Q) : tCh3 (rCm o) (rCm o2) (rCm o3) (tE Φ fr K Γ .fro ea) (tE Φ fr K Γ .fro eb) (tE Φ fr K Γ .fro ee) (tE Φ fr K Γ .fro ef) σ H Q := by
  obtain ⟨ρ, ts, r, sr, he, q⟩ := h
  obtain ⟨ra, e1, he⟩ := bind_inv he
  obtain ⟨rb, e2, he⟩ := bind_inv he
  obtain ⟨t, e3, he⟩ := bind_inv he
  refine ⟨ρ, ts, ra, sr, e1, fun v H1 s1 => ⟨ra.2, _, rb, s1, e2, fun u H2 s2 => ?_⟩⟩
  obtain ⟨G, F1, F2, y⟩ := id s2
  have rp := y.last2 rfl rfl
  clear e1 e2
  obtain ⟨d1, ρ1⟩ := ra
  obtain ⟨d2, ρ2⟩ := rb
  cases d1 with
  | int i =>
    cases d2 with
    | int j =>
      obtain ⟨r1, r2⟩ := rp
      cases r1
      cases r2
      have e3 : some (cmI o i j) = some t := e3
      cases e3
      refine ⟨i, j, rfl, rfl, _, rfl, ?_⟩
      have s2' := s2.drop.drop
      split at he
      · rename_i c1
        rw [if_pos c1]
        obtain ⟨rc, e4, he⟩ := bind_inv he
        obtain ⟨t2, e5, he⟩ := bind_inv he
        refine ⟨_, _, rc, s2', e4, fun u3 H3 s3 => ?_⟩
        obtain ⟨G3, F31, F32, y3⟩ := id s3
        have rp3 := y3.last1 rfl
        clear e4
        obtain ⟨d3, ρ3⟩ := rc
        cases d3 with
        | int l =>
          cases rp3
          have e5 : some (cmI o2 j l) = some t2 := e5
          cases e5
          refine ⟨j, l, rfl, rfl, _, rfl, ?_⟩
          have s3' := s3.drop
          split at he
          · rename_i c2
            rw [if_pos c2]
            obtain ⟨rd, e6, he⟩ := bind_inv he
            obtain ⟨t3, e7, rfl⟩ := map_inv he
            refine ⟨_, _, rd, s3', e6, fun u4 H4 s4 => ?_⟩
            obtain ⟨G4, F41, F42, y4⟩ := id s4
            have rp4 := y4.last1 rfl
            clear e6
            obtain ⟨d4, ρ4⟩ := rd
            cases d4 with
            | int n =>
              cases rp4
              have e7 : some (cmI o3 l n) = some t3 := e7
              cases e7
              exact ⟨l, n, rfl, rfl, q _ _ (s4.drop.res rfl (rp_bl _))⟩
            | _ => cases e7
          · rename_i c2
            rw [if_neg c2]
            cases he
            exact q _ _ (s3'.res rfl (rp_bl _))
        | _ => cases e5
      · rename_i c1
        rw [if_neg c1]
        cases he
        exact q _ _ (s2'.res rfl (rp_bl _))
    | _ => cases e3
  | _ => cases e3
theorem k_ch3 (o o2 o3 : Cm) {a b e f : Expr} {ea eb ee ef : E} (ha : PE X a (tE Φ fr X.K Γ .fro ea)) (hb : PE X b (tE Φ fr X.K Γ .fro eb)) (he : PE X e (tE Φ fr X.K Γ .fro ee)) (hf : PE X f (tE Φ fr X.K Γ .fro ef)) : PE X (.Compare a [opC o, opC o2, opC o3] [b, e, f] pos) (tE Φ fr X.K Γ w (.ch3 o o2 o3 ea eb ee ef)) :=
  PE_mono (pe_ch3 (op_cm o) (op_cm o2) (op_cm o3) ha hb he hf (nobehind f (opC_in o3).1 (opC_in o3).2)) fun σ H Q h => m_ch3 o o2 o3 h

theorem pt_ch3 {a b e f : Expr} {ta tb tc td : TE} {op op' op'' : CmpOp} {r r' r'' : R2} (ho : OpR X (compareOp op) r) (ho' : OpR X (compareOp op') r') (ho'' : OpR X (compareOp op'') r'') (ha : PE X a ta) (hb : PE X b tb) (hc : PE X e tc) (hd : PE X f td)
    (hm : lastMarks [op, op', op''] [b, e, f] = false) : PT X (.Compare a [op, op', op''] [b, e, f] pos) (tTest (tCh3 r r' r'' ta tb tc td)) := by
  refine ⟨fun pins s σ H Q I h => ?_⟩
  refine isTrue_chain (thn (ha.run pins s σ H _ I h) fun v s1 ⟨x, H1, I1, r1, q1⟩ => test_link (thn (hb.run pins s1 σ H1 _ I1 q1) fun u s2 ⟨y, H2, I2, r2, q2⟩ =>
    thn (ho pins s2 σ H2 x y v u _ I2 r1 r2 q2) fun d s3 ⟨z, H3, I3, r3, k, e, q3⟩ => ?_)) hm
  subst e
  cases r3
  refine wpAny_truthy_bool ?_
  cases k with
  | false =>
    obtain ⟨k', e, q⟩ := q3
    cases e
    exact ite_ff ⟨H3, I3, q⟩
  | true =>
    refine ite_tt (test_link (thn (hc.run pins s3 σ H3 _ I3 q3) fun w' s4 ⟨z', H4, I4, r4, q4⟩ => thn (ho' pins s4 σ H4 y z' u w' _ I4 r2 r4 q4) fun d' s5 ⟨z2, H5, I5, r5, k2, e2, q5⟩ => ?_))
    subst e2
    cases r5
    refine wpAny_truthy_bool ?_
    cases k2 with
    | false =>
      obtain ⟨k', e, q⟩ := q5
      cases e
      exact ite_ff ⟨H5, I5, q⟩
    | true =>
      refine ite_tt (test_last (thn (hd.run pins s5 σ H5 _ I5 q5) fun w2 s6 ⟨z3, H6, I6, r6, q6⟩ => thn (ho'' pins s6 σ H6 z' z3 w' w2 _ I6 r4 r6 q6) fun d'' s7 ⟨z4, H7, I7, r7, k3, e3, q7⟩ => ?_))
      subst e3
      cases r7
      exact wpAny_truthy_bool ⟨H7, I7, q7⟩
theorem k_ch3T (o o2 o3 : Cm) {a b e f : Expr} {ea eb ee ef : E} (ha : PE X a (tE Φ fr X.K Γ .fro ea)) (hb : PE X b (tE Φ fr X.K Γ .fro eb)) (he : PE X e (tE Φ fr X.K Γ .fro ee)) (hf : PE X f (tE Φ fr X.K Γ .fro ef)) : PT X (.Compare a [opC o, opC o2, opC o3] [b, e, f] pos) (tT Φ fr X.K Γ (.e (.ch3 o o2 o3 ea eb ee ef))) :=
  t_cmp (pt_ch3 (op_cm o) (op_cm o2) (op_cm o3) ha hb he hf (nobehind f (opC_in o3).1 (opC_in o3).2)) rfl fun σ H Q h => m_ch3 o o2 o3 h
/-! ### in, of data of any depth -/
def rInDG (K : PySem.W.Frag) (ng : Bool) : R2 := fun x y H Q => ∃ d ds, Dp K H x d ∧ Dp K H y (.list ds) ∧ SeqAt.shaped d = true ∧ SeqAt.shaped (.list ds) = true ∧ Q (.bl ((ds.any fun z => PyData.eqv z d) != ng)) H
theorem op_indG (hu : X.A.units + 65 < cLine) (ng : Bool) : OpR X (compareOp (if ng then .NotIn else .In)) (rInDG X.K ng) := by
  cases ng with
  | true =>
    intro pins s σ H x y v u Q I rx ry h
    obtain ⟨d, e, h1, h2, h3, h4, q⟩ := h
    exact op_notInD hu pins s σ H x y v u Q I rx ry ⟨d, e, h1, h2, h3, h4, by rw [Bool.bne_true] at q; exact q⟩
  | false =>
    intro pins s σ H x y v u Q I rx ry h
    obtain ⟨d, e, h1, h2, h3, h4, q⟩ := h
    exact op_inD hu pins s σ H x y v u Q I rx ry ⟨d, e, h1, h2, h3, h4, by rw [Bool.bne_false] at q; exact q⟩
theorem m_ind {K : PySem.W.Frag} (ng : Bool) {ea eb : E} {σ : Sg} {H : Hp} {Q : VK} (h : tE Φ fr K Γ w (.ind ng ea eb) σ H Q) : tOp (rInDG K ng) (tE Φ fr K Γ .fro ea) (tE Φ fr K Γ .fro eb) σ H Q := by
  obtain ⟨ρ, ts, r, sr, he, q⟩ := h
  obtain ⟨ra, e1, he⟩ := bind_inv he
  obtain ⟨rb, e2, he⟩ := bind_inv he
  obtain ⟨d, e3, rfl⟩ := map_inv he
  refine ⟨ρ, ts, ra, sr, e1, fun v H1 s1 => ⟨ra.2, _, rb, s1, e2, fun u H2 s2 => ?_⟩⟩
  obtain ⟨G, F1, F2, y⟩ := id s2
  have rp := y.last2 rfl rfl
  obtain ⟨l, q1, q2, q3, rfl⟩ := indD_inv e3
  refine ⟨_, l, (Rp_same y.sub _ _ rp.1).dp, ?_, q2, q3, q _ _ (s2.drop.drop.res rfl (rp_bl _))⟩
  have := (Rp_same y.sub _ _ rp.2).dp
  rw [show (⟨.fro, rb.1, u⟩ : Tm).d = .list l from q1] at this
  exact this
theorem k_ind (gd : Gd X c) (ng : Bool) {a b : Expr} {ea eb : E} (ha : PE X a (tE Φ fr X.K Γ .fro ea)) (hb : PE X b (tE Φ fr X.K Γ .fro eb)) (hn : noSet b = true) : PE X (.Compare a [if ng then .NotIn else .In] [b] pos) (tE Φ fr X.K Γ w (.ind ng ea eb)) :=
  PE_mono (pe_cmpR (op_indG gd.u65 ng) ha hb (by cases b <;> first | rfl | cases hn)) fun σ H Q h => m_ind ng h
theorem k_indT (gd : Gd X c) (ng : Bool) {a b : Expr} {ea eb : E} (ha : PE X a (tE Φ fr X.K Γ .fro ea)) (hb : PE X b (tE Φ fr X.K Γ .fro eb)) (hn : noSet b = true) : PT X (.Compare a [if ng then .NotIn else .In] [b] pos) (tT Φ fr X.K Γ (.e (.ind ng ea eb))) :=
  t_cmp (pt_cmpR (op_indG gd.u65 ng) ha hb (by cases b <;> first | rfl | cases hn)) rfl fun σ H Q h => m_ind ng h
/-! ### isinstance -/
def tyN : D → String
  | .none => "NoneType"
  | .bool _ => "bool"
  | .int _ => "int"
  | .str _ => "str"
  | .list _ => "list"
  | .tuple _ => "tuple"
  | .dict _ => "dict"
def ikN : Ik → String
  | .l => "list"
  | .t => "tuple"
  | .b => "bool"
  | .i => "int"
  | _ => "str"
def ik1 : Ik → Bool
  | .lt => false
  | .tl => false
  | _ => true
theorem kit1 {K : PySem.W.Frag} {k : Ik} (hk : ik1 k = true) {x : D} {b : Bool} (h : isiD k x = some b) : PySem.W.kitOne K (.type (tyN x)) (.type (ikN k)) = some b := by
  cases k <;> first | (cases hk; done) | (cases x <;> first | (cases h; done) | (cases h; kernel_rfl))
theorem tyX_of {K : PySem.W.Frag} {G H : Hp} {x : D} {v : V} (s : Same G H) (h : Sn K G H x v) : TyX K H v (.type (tyN x)) := by
  rcases h with h | ⟨l, a, vs, rfl, rfl, h1, _⟩
  · cases h with
    | non => exact .base .non
    | bl b => exact .base (.bl b)
    | int i => exact .base (.int i)
    | str x => exact .base (.str x)
    | lst h1 _ =>
      rcases Rd_same s h1 with h1 | ⟨o, h1⟩
      · exact .base (.lst h1)
      · exact .base (.frz h1)
    | tup h1 _ =>
      rcases SqT_same s h1 with (h1 | ⟨o, h1⟩) | ⟨o, its, n, h1, h2, _⟩
      · exact .base (.tup h1)
      · exact .fTuple h1
      · exact .kTuple h1 h2
  · exact .base (.lst h1)
theorem ik_boot : ∀ k : Ik, ik1 k = true → bootBuiltins (PySem.Str.ofString (ikN k)) = some (.type (ikN k))
  | .l, _ => by decide +kernel
  | .t, _ => by decide +kernel
  | .b, _ => by decide +kernel
  | .i, _ => by decide +kernel
  | .s, _ => by decide +kernel
theorem ik_nm : ∀ k : Ik, PySem.Str.ofString (ikN k) ≠ "__name__" ∧ (PySem.Str.ofString (ikN k) == ("__debug__" : Str)) = false
  | .l => ⟨by decide, by decide⟩
  | .t => ⟨by decide, by decide⟩
  | .b => ⟨by decide, by decide⟩
  | .i => ⟨by decide, by decide⟩
  | .s => ⟨by decide, by decide⟩
  | .lt => ⟨by decide, by decide⟩
  | .tl => ⟨by decide, by decide⟩
theorem late_same {o : O} {ρ : Rho} {ra : D × Rho} (e1 : evO Φ o ρ = some ra) : lateD Φ o ra.1 ra.2 = some ra.1 := by
  cases o with
  | e a => rfl
  | s i =>
    obtain ⟨d', e3, rfl⟩ := map_inv (show (get ρ i).map (fun d => (d, ρ)) = some ra from e1)
    exact e3
theorem SR.undo {K : PySem.W.Frag} {ρ : Rho} {σ : Sg} {ts ts' : List Tm} {H : Hp} {o : O} {v : V} {d : D} (s : SR fr K Γ ρ σ ts' H) (hd : Hold Γ σ o v d ts ts') : SR fr K Γ ρ σ ts H := by
  cases o with
  | e a =>
    have hd : ts' = ts ++ [⟨.fro, d, v⟩] := hd
    subst hd
    exact s.drop
  | s i =>
    obtain ⟨rfl, _⟩ := hd
    exact s
theorem k_isi (gd : Gd X c) (k : Ik) {a : Expr} {oa : O} {p p2 : Pos} (ha : PE X a (tO Φ fr X.K Γ oa)) (h : (ik1 k && noStar a && blC c "isinstance" && blC c (PySem.Str.ofString (ikN k))) = true) :
    PE X (.Call (.Name "isinstance" p) [a, .Name (PySem.Str.ofString (ikN k)) p2] [] pos) (tE Φ fr X.K Γ w (.isi k oa)) := by
  simp only [Bool.and_eq_true] at h
  obtain ⟨⟨⟨h0, h1⟩, h2⟩, h3⟩ := h
  have hT : PE X (.Name (PySem.Str.ofString (ikN k)) p2) (tC (.ty (ikN k))) := pe_bltn (blC_of gd h3).1 (blC_of gd h3).2 (ik_boot k h0) rfl (ik_nm k).1 (ik_nm k).2
  refine PE_mono (pe_callB call_isi (blC_of gd h2).1 (blC_of gd h2).2 (by decide +kernel) (pa_cons ha (pa_cons hT pa_nil rfl) (star_cons h1)) (by decide) (by decide) (star_cons h1) rfl) fun σ H Q h => ?_
  obtain ⟨ρ, ts, r, sr, he, q⟩ := h
  obtain ⟨ra, e1, he⟩ := bind_inv he
  obtain ⟨b, e2, rfl⟩ := map_inv he
  refine ⟨ρ, ts, ra, sr, e1, fun v H1 ts' s1 hd => ?_⟩
  obtain ⟨G, F1, F2, y⟩ := id s1
  have y' : SRd fr X.K G F1 F2 Γ ra.2 σ (ts' ++ []) H1 := by rw [List.append_nil]; exact y
  exact ⟨v, _, _, _, b, rfl, .ty _, tyX_of y.sub (y'.sn hd (late_same e1)), kit1 h0 e2, q _ _ ((s1.undo hd).res rfl (rp_bl _))⟩
end
end Vw
namespace Vw
open PySem PySem.Spec PyProof.Rows L2
/-! ### a slot's type changes for the rest of a block -/
theorem SlF.chg {K : PySem.W.Frag} {G H : Hp} {t' : Ty} : ∀ {Γ : List Ty} {ρ : Rho} {σ : Sg} {F : List Addr} (i : Nat), (ρ[i]? = some none ∨ ρ[i]? = none) → SlF K G H Γ ρ σ F → SlF K G H (Γ.set i t') ρ σ F
  | [], [], [], _, _, _, h => h
  | t :: Γ, o :: ρ, s :: σ, F, 0, hr, ⟨F1, F2, e, p, q⟩ => by
    have ho : o = none := by
      rcases hr with h | h
      · exact Option.some.inj h
      · cases h
    subst ho
    exact ⟨F1, F2, e, p, q⟩
  | t :: Γ, o :: ρ, s :: σ, F, i + 1, hr, ⟨F1, F2, e, p, q⟩ => ⟨F1, F2, e, p, SlF.chg (Γ := Γ) (ρ := ρ) i hr q⟩
  | [], [], _ :: _, _, _, _, h => h.elim
  | [], _ :: _, _, _, _, _, h => by cases ‹Sg› <;> exact h.elim
  | _ :: _, [], _, _, _, _, h => by cases ‹Sg› <;> exact h.elim
  | _ :: _, _ :: _, [], _, _, _, h => h.elim
section
variable {fr : Fr} {K : PySem.W.Frag} {G H : Hp} {F1 F2 : List Addr} {Γ : List Ty} {ρ : Rho} {σ : Sg} {ts us : List Tm}
theorem SRd.chg (x : SRd fr K G F1 F2 Γ ρ σ ts H) (i : Nat) (t' : Ty) (h : ρ[i]? = some none ∨ ρ[i]? = none) : SRd fr K G F1 F2 (Γ.set i t') ρ σ ts H := ⟨x.sub, x.sl.chg i h, x.tm, x.nd, x.out, x.ok⟩
theorem set_none_at (ρ : Rho) (i : Nat) : (ρ.set i none)[i]? = some none ∨ (ρ.set i none)[i]? = none := by
  by_cases h : i < ρ.length
  · exact .inl (by rw [List.getElem?_set_self h])
  · exact .inr (List.getElem?_eq_none (by rw [List.length_set]; omega))
/-- let go, with whatever type -/
theorem SR.blank (x : SR fr K Γ ρ σ ts H) (i : Nat) (t' : Ty) : SR fr K (Γ.set i t') (ρ.set i none) σ ts H := by
  obtain ⟨G, F1, F2, y⟩ := x
  obtain ⟨F3, z⟩ := y.forget i
  exact ⟨_, _, _, z.chg i t' (set_none_at ρ i)⟩
theorem SR.unblank {t' : Ty} {i : Nat} (x : SR fr K (Γ.set i t') ρ σ ts H) : SR fr K Γ (ρ.set i none) σ ts H := by
  cases e : Γ[i]? with
  | none =>
    have hn : Γ.length ≤ i := List.getElem?_eq_none_iff.mp e
    rw [List.set_eq_of_length_le hn] at x
    obtain ⟨G, F1, F2, y⟩ := x
    obtain ⟨F3, z⟩ := y.forget i
    exact ⟨_, _, _, z⟩
  | some t =>
    have y := x.blank i t
    rw [List.set_set] at y
    have e2 : Γ.set i t = Γ := by
      refine List.ext_getElem? fun j => ?_
      by_cases hj : i = j
      · subst hj
        rw [List.getElem?_set_self (List.getElem?_eq_some_iff.mp e).1, e]
      · rw [List.getElem?_set_ne hj]
    rwa [e2] at y
theorem put_same {i : Nat} {d : D} (h : get ρ i = some d) : put (ρ.set i none) i d = ρ := by
  unfold put
  rw [List.set_set]
  have h2 := get_some h
  refine List.ext_getElem? fun j => ?_
  by_cases hj : i = j
  · subst hj
    rw [List.getElem?_set_self (List.getElem?_eq_some_iff.mp h2).1, h2]
  · rw [List.getElem?_set_ne hj]
/-- an own thing becomes everybody's -/
theorem SR.freeze (x : SR fr K Γ ρ σ ts H) (i : Nat) : SR fr K (Γ.set i .fro) ρ σ ts H := by
  cases e : get ρ i with
  | none =>
    obtain ⟨G, F1, F2, y⟩ := x
    refine ⟨_, _, _, y.chg i .fro ?_⟩
    unfold get at e
    cases e2 : ρ[i]? with
    | none => exact .inr rfl
    | some o =>
      rw [e2] at e
      cases o with
      | none => exact .inl rfl
      | some d => cases e
  | some d =>
    obtain ⟨G, F1, F2, y⟩ := x
    obtain ⟨t, v, F3, F4, g1, g2, z⟩ := y.takeOut e
    obtain ⟨G', F5, z2⟩ := z.give
    have z3 := z2.chg i .fro (set_none_at ρ i)
    have hl := (List.getElem?_eq_some_iff.mp g1).1
    have hr := (List.getElem?_eq_some_iff.mp (get_some e)).1
    obtain ⟨F6, F7, z4⟩ := z3.putBack (by rw [List.getElem?_set_self hr]) (by rw [List.getElem?_set_self hl]) g2
    rw [put_same e] at z4
    exact ⟨_, _, _, z4⟩
end
section
variable {X : Cx} {Φ : Cf} {fr : Fr} {Γ : List Ty} {w : Ty} {ret : Ty} {wx : Xw} {pos : Pos} {c : Ct} {P P' : List Nat}
theorem Out.wipe {K : PySem.W.Frag} {ts : List Tm} {D : Ends} {i : Nat} {t' : Ty} {r : Rs} (h : Out fr Γ ret wx K ts D (rsWipe i r)) : Out fr (Γ.set i t') ret wx K ts D r := by
  cases r with
  | nx ρ => exact fun σ H s => h σ H s.unblank
  | brk ρ => exact fun σ H s => h σ H s.unblank
  | cnt ρ => exact fun σ H s => h σ H s.unblank
  | ret d ρ => exact fun v σ H us s => h v σ H us s.unblank
  | exn x fs ρ => exact fun σ H us vs C dd s => h σ H us vs C dd s.unblank
theorem ss_fz (i : Nat) {rest : List Stmt} {ss : Ss} (h2 : PSs X rest (tSs Φ fr (Γ.set i .fro) ret wx X.K ss)) : PSs X rest (tSs Φ fr Γ ret wx X.K (.fz i ss)) := by
  refine PSs_mono h2 fun D σ H h => ?_
  obtain ⟨ρ, ts, r, sr, he, q⟩ := h
  obtain ⟨r0, e1, rfl⟩ := map_inv (show (exSs Φ ss ρ).map (rsWipe i) = some r from he)
  exact ⟨ρ, ts, r0, sr.freeze i, e1, q.wipe⟩
theorem ss_reb (gd : Gd X c) (hp : Pin P fr) (i : Nat) (t : Ty) {x : Str} {e : Expr} {ee : E} {px : Pos} {rest : List Stmt} {ss : Ss} (he : PE X e (tE Φ fr X.K Γ t ee)) (h : (sC c (Γ.set i t) P i x t && noComp e) = true)
    (h2 : PSs X rest (tSs Φ fr (Γ.set i t) ret wx X.K ss)) : PSs X (.Assign [.Name x px] e pos :: rest) (tSs Φ fr Γ ret wx X.K (.reb i t ee ss)) := by
  obtain ⟨h, h7⟩ := Bool.and_eq_true_iff.mp h
  obtain ⟨g1, g2, g3, g4, g5, g6⟩ := sC_of gd hp h
  refine PSs_mono (pss_cons (ps_set g1 g2 g3 he (swaps_no h7) g4) h2) fun D σ H h => ?_
  obtain ⟨ρ, ts, r, sr, he, q⟩ := h
  obtain ⟨ra, e1, he⟩ := bind_inv (show (ev Φ ee ρ).bind _ = some r from he)
  obtain ⟨r0, e2, rfl⟩ := map_inv he
  refine ⟨ρ, ts, ra, sr, e1, fun v H1 s1 => ⟨_, ts, r0, ?_, e2, q.wipe⟩⟩
  have s2 := (s1.blank i t).setSlot g5 g6
  have e3 : put (ra.2.set i none) i ra.1 = put ra.2 i ra.1 := by
    unfold put
    rw [List.set_set]
  rwa [e3] at s2
/-! ### the module's constants -/
theorem k_gi (gd : Gd X c) {x : Str} (n : Int) (h : (glC c x && !(x == ("__debug__" : Str)) && decide ((x, n) ∈ c.gl)) = true) : PE X (.Name x pos) (tE Φ fr X.K Γ w (.gl x (.int n))) := by
  obtain ⟨h, h3⟩ := Bool.and_eq_true_iff.mp h
  obtain ⟨h1, h2⟩ := Bool.and_eq_true_iff.mp h
  obtain ⟨t, hm⟩ := gd.gl _ (of_decide_eq_true h3)
  have hp : PE X (.Name x pos) (tC (.int n)) := pe_glob (glC_of gd h1) hm ⟨t, rfl⟩ (by simpa using h2)
  refine PE_mono hp fun σ H Q h => ?_
  obtain ⟨ρ, ts, r, sr, he, q⟩ := h
  have he : some (.int n, ρ) = some r := he
  cases he
  exact q _ _ (sr.res rfl fun G => .int n)
end
end Vw
namespace Vw
open PySem PySem.Spec PyProof.Rows L2
section
variable {X : Cx} {Φ : Cf} {fr : Fr} {Γ : List Ty} {w : Ty} {pos : Pos} {c : Ct}
/-! ### is True, is not False .. of a bool; repr of a bool -/
def rIsb (ng : Bool) : R2 := fun x y H Q => ∃ a b, x = .bl a ∧ y = .bl b ∧ Q (.bl (decide (a = b) != ng)) H
theorem op_isbG (ng : Bool) : OpR X (compareOp (if ng then .IsNot else .Is)) (rIsb ng) := by
  cases ng with
  | true =>
    intro pins s σ H x y v u Q I rx ry h
    obtain ⟨a, b, h1, h2, q⟩ := h
    exact op_isnot_bl pins s σ H x y v u Q I rx ry ⟨a, b, h1, h2, by rw [Bool.bne_true] at q; exact q⟩
  | false =>
    intro pins s σ H x y v u Q I rx ry h
    obtain ⟨a, b, h1, h2, q⟩ := h
    exact op_is_bl pins s σ H x y v u Q I rx ry ⟨a, b, h1, h2, by rw [Bool.bne_false] at q; exact q⟩
theorem m_isb {K : PySem.W.Frag} (ng v : Bool) {ea : E} {σ : Sg} {H : Hp} {Q : VK} (h : tE Φ fr K Γ w (.isb ng v ea) σ H Q) : tOp (rIsb ng) (tE Φ fr K Γ .fro ea) (tC (.bl v)) σ H Q := by
  obtain ⟨ρ, ts, r, sr, he, q⟩ := h
  obtain ⟨ra, e1, he⟩ := bind_inv he
  refine ⟨ρ, ts, ra, sr, e1, fun u H1 s1 => ?_⟩
  obtain ⟨G, F1, F2, y⟩ := id s1
  have rp := y.last1 rfl
  clear e1
  obtain ⟨d, ρ1⟩ := ra
  cases d with
  | bool b =>
    cases rp
    cases he
    exact ⟨b, v, rfl, rfl, q _ _ (s1.drop.res rfl (rp_bl _))⟩
  | _ => cases he
theorem k_isb (ng v : Bool) {a : Expr} {j : Nat} {p : Pos} {ea : E} (ha : PE X a (tE Φ fr X.K Γ .fro ea)) : PE X (.Compare a [if ng then .IsNot else .Is] [.Constant (.bool v) j p] pos) (tE Φ fr X.K Γ w (.isb ng v ea)) :=
  PE_mono (pe_cmpR (op_isbG ng) ha pe_bl (nobehind _ (isop_in ng).1 (isop_in ng).2)) fun σ H Q h => m_isb ng v h
theorem k_isbT (ng v : Bool) {a : Expr} {j : Nat} {p : Pos} {ea : E} (ha : PE X a (tE Φ fr X.K Γ .fro ea)) : PT X (.Compare a [if ng then .IsNot else .Is] [.Constant (.bool v) j p] pos) (tT Φ fr X.K Γ (.e (.isb ng v ea))) :=
  t_cmp (pt_cmpR (op_isbG ng) ha pe_bl (nobehind _ (isop_in ng).1 (isop_in ng).2)) rfl fun σ H Q h => m_isb ng v h
theorem call_repr_bl : CallR X (.builtin "repr") (fun xs H Q => ∃ b : Bool, xs = [.bl b] ∧ Q (.str (if b then "True" else "False")) H) := by
  intro pins s σ H xs us Q I r h
  obtain ⟨b, rfl, q⟩ := h
  obtain ⟨u, rfl, rx⟩ := vals1 r
  obtain rfl : u = Value.bool b := rx
  exact PySem.P.repr_of_bool ⟨.str _, H, I.tok _, ⟨_, rfl⟩, q⟩
theorem repD_inv {x d : D} (h : repD x = some d) : ∃ b : Bool, x = .bool b ∧ d = .str (if b then "True" else "False") := by
  cases x with
  | bool b =>
    cases b <;> cases h
    · exact ⟨false, rfl, rfl⟩
    · exact ⟨true, rfl, rfl⟩
  | _ => cases h
theorem k_rep (gd : Gd X c) {a : Expr} {ea : E} {p : Pos} (ha : PE X a (tE Φ fr X.K Γ .fro ea)) (h : (noStar a && blC c "repr") = true) : PE X (.Call (.Name "repr" p) [a] [] pos) (tE Φ fr X.K Γ w (.rep ea)) := by
  obtain ⟨h1, h2⟩ := Bool.and_eq_true_iff.mp h
  refine PE_mono (pe_callB call_repr_bl (blC_of gd h2).1 (blC_of gd h2).2 (by decide +kernel) (pa_cons ha pa_nil (star_cons h1)) (by decide) (by decide) (star_cons h1) rfl) fun σ H Q h => ?_
  obtain ⟨ρ, ts, r, sr, he, q⟩ := h
  obtain ⟨ra, e1, he⟩ := bind_inv he
  obtain ⟨d, e2, rfl⟩ := map_inv he
  refine ⟨ρ, ts, ra, sr, e1, fun v H1 s1 => ?_⟩
  obtain ⟨G, F1, F2, y⟩ := id s1
  have rp := y.last1 rfl
  clear e1
  obtain ⟨d1, ρ1⟩ := ra
  obtain ⟨b, q1, rfl⟩ := repD_inv e2
  have q1 : d1 = .bool b := q1
  subst q1
  cases rp
  exact ⟨b, rfl, q _ _ (s1.drop.res rfl fun G => .str _)⟩
end
end Vw
namespace Vw
open PySem PySem.Spec PyProof.Rows L2
/-! ### raise, calls that may raise, try -/
section
variable {fr : Fr} {K : PySem.W.Frag} {G G' H H' : Hp} {F1 F2 : List Addr} {Γ : List Ty} {ρ : Rho} {σ : Sg} {ts us : List Tm}
/-- behind a call that owns nothing -/
theorem SRd.jump (x : SRd fr K G F1 F2 Γ ρ σ ts H) (sG : Same G G') (sub : Same G' H') (keep : ∀ a o, H a = some o → H' a = some o) (mono : ∀ a, H' a = none → H a = none) (nG : ∀ a, G' a ≠ none → G a ≠ none ∨ H a = none) : SRd fr K G' F1 F2 Γ ρ σ ts H' := by
  have st : ∀ a ∈ F1 ++ F2, H' a = H a := fun a ha => by
    obtain ⟨ws, eh⟩ := x.there a ha
    rw [eh]
    exact keep _ _ eh
  refine ⟨sub, x.sl.stay sG (fun a ha => st a (List.mem_append_left _ ha)), x.tm.stay sG (fun a ha => st a (List.mem_append_right _ ha)), x.nd, fun a ha => ⟨?_, (x.out a ha).2⟩, fun a o e hF => keep _ _ (x.ok.keep a o e hF), fun a e => x.ok.mono a (mono a e), fun a o e => sG _ _ (x.ok.sG a o e), fun a h => ?_, x.ok.pin⟩
  · cases e : G' a with
    | none => rfl
    | some o =>
      obtain ⟨ws, eh⟩ := x.there a ha
      rcases nG a (by rw [e]; exact fun z => nomatch z) with h | h
      · exact absurd (x.out a ha).1 h
      · rw [eh] at h
        cases h
  · rcases nG a h with h | h
    · exact x.ok.nG a h
    · exact .inr (.inr (x.ok.mono a h))
theorem SRd.segment {ds : List D} {vs : List V} (x : SRd fr K G F1 F2 Γ ρ σ (ts ++ tms .fro ds vs ++ us) H) (hl : vs.length = ds.length) : RpAll K G vs ds := by
  obtain ⟨F3, y⟩ := x.drop
  obtain ⟨F4, F5, _, _, t2⟩ := y.tm.app
  have rs := t2.alls tms_t
  rwa [tms_d hl, tms_v hl] at rs
theorem SRd.seg (x : SRd fr K G F1 F2 Γ ρ σ (ts ++ tms .fro ds vs) H) (hl : vs.length = ds.length) : RpAll K G vs ds := by
  obtain ⟨F4, F5, _, _, t2⟩ := x.tm.app
  have rs := t2.alls tms_t
  rwa [tms_d hl, tms_v hl] at rs
end
section
variable {X : Cx} {c : Ct} {Φ : Cf} {fr : Fr} {Γ : List Ty} {w : Ty} {ret : Ty} {wx : Xw} {pos : Pos} {P P' : List Nat}
/-- raise x(a, b) -/
theorem s_rse {x : Str} {a b : Expr} {es : Es} {p ps p2 : Pos} (gx : Gx X wx) (gd : Gd X c) (kl : Kls X x) (ha : PA X [a, b] (tEs Φ fr X.K Γ .fro es)) (h : (noStar a && noStar b && glC c x && !(x == ("__debug__" : Str))) = true) :
    PS X (.Raise (some (.Call (.Name x p) [a, b] [] ps)) none p2) (tS Φ fr Γ ret wx X.K (.rse x [PySem.Str.ofString "rule", PySem.Str.ofString "index"] es)) := by
  simp only [Bool.and_eq_true, Bool.not_eq_true'] at h
  obtain ⟨⟨⟨h1, h2⟩, h3⟩, h4⟩ := h
  obtain ⟨C, eC, mC, ms, _, _⟩ := kl.at_.ex
  refine PS_mono (ps_raise gd.calm gx.tk (pmk2 eC mC ms kl.rm (Nat.le_refl _) ha (glC_of gd h3) h4 (star_cons h1) (stars_plain (by show (noStar b && true) = true; rw [h2]; rfl)))) fun D σ H h => ?_
  obtain ⟨ρ, ts, r, sr, he, q⟩ := h
  obtain ⟨ra, e1, he⟩ := bind_inv he
  split at he
  · rename_i hl
    cases he
    refine ⟨ρ, ts, ra, sr, e1, fun vs H1 hv s1 => ?_⟩
    obtain ⟨ds, ρ1⟩ := ra
    have hl : 2 = ds.length := hl
    have hv : vs.length = ds.length := hv
    match ds, vs, hl, hv with
    | [d1, d2], [v1, v2], _, _ =>
      refine ⟨v1, v2, rfl, fun d hd => ?_⟩
      obtain ⟨G, F1, F2, y⟩ := s1
      have mC' : wx.mg x = some (.ref C) := by
        rw [← gx.mg]
        exact mC
      exact q σ _ [] [v1, v2] C d ⟨_, _, _, by rw [List.append_nil]; exact (y.fresh hd).1⟩ rfl mC' upd_same
  · cases he
/-! calls -/
def esN : Es → Nat
  | .nil => 0
  | .cons _ es => esN es + 1
theorem evs_len : ∀ {es : Es} {ρ : Rho} {r : List D × Rho}, evs Φ es ρ = some r → r.1.length = esN es
  | .nil, _, _, h => by
    cases h
    rfl
  | .cons e es, ρ, r, h => by
    obtain ⟨ra, e1, h⟩ := bind_inv h
    obtain ⟨rb, e2, rfl⟩ := map_inv h
    show _ + 1 = _ + 1
    rw [evs_len e2]
variable (Φ fr Γ ret wx w) in
def tCx (K : PySem.W.Frag) (f : Str) (es : Es) : TE := fun σ H Q => ∃ ρ ts rr xr, SR fr K Γ ρ σ ts H ∧ evs Φ es ρ = some rr ∧ Φ.fx f rr.1 = some xr ∧ match xr with
  | .ret d _ => ∀ v H', SR fr K Γ rr.2 σ (ts ++ [⟨w, d, v⟩]) H' → Q v H'
  | .exn x fs => Out fr Γ ret wx K ts { nx := fun _ _ => False, rt := fun _ _ => False } (.exn x fs rr.2)
theorem all_fro {g : Sig} {ds : List D} {vs : List V} (hp : (g.ps.all fun t => decide (t = .fro)) = true) (hl : vs.length = ds.length) (hg : g.ps.length = ds.length) : (tms .fro ds vs).map Tm.t = g.ps := by
  have h1 : (tms .fro ds vs).map Tm.t = (tms .fro ds vs).map (fun _ => Ty.fro) := List.map_congr_left fun x hx => tms_t x hx
  have h2 : g.ps = g.ps.map (fun _ => Ty.fro) := by
    have : g.ps.map id = g.ps.map (fun _ => Ty.fro) := List.map_congr_left fun t ht => of_decide_eq_true (List.all_eq_true.mp hp t ht)
    rwa [List.map_id] at this
  rw [h1, h2, List.map_const', List.map_const', hg]
  have e9 := congrArg List.length (tms_d (w := .fro) hl)
  rw [List.length_map] at e9
  rw [e9]
theorem e_cx {x : Str} {g : Sig} {es : Es} {args : List Expr} {p : Pos} (gx : Gx X wx) (gd : Gd X c) (cal : CalX X Φ x g) (ha : PA X args (tEs Φ fr X.K Γ .fro es))
    (h : (noStars args && !args.isEmpty && glC c x && !(x == ("__debug__" : Str)) && decide (w = g.ret) && (g.ps.all fun t => decide (t = .fro)) && decide (g.ps.length = esN es)) = true) :
    PE X (.Call (.Name x p) args [] pos) (tCx Φ fr Γ w ret wx X.K x es) := by
  obtain ⟨k, f, fd, ps, F, hr, hm, hk, hb⟩ := cal.ex
  simp only [Bool.and_eq_true, decide_eq_true_eq, Bool.not_eq_true'] at h
  obtain ⟨⟨⟨⟨⟨⟨h1, h2⟩, h3⟩, h4⟩, h5⟩, h6⟩, h7⟩ := h
  cases args with
  | nil => cases h2
  | cons e1 es1 =>
    obtain ⟨g1, g2⟩ := Bool.and_eq_true_iff.mp (show (noStar e1 && noStars es1) = true from h1)
    refine PE_mono (pe_callS F hr (glC_of gd h3) hm hk hb (fun σ => passAt gx.tk σ) ha h4 (star_cons g1) (stars_plain g2)) fun σ H Q h => ?_
    obtain ⟨ρ, ts, rr, xr, sr, e1, e2, q⟩ := h
    refine ⟨ρ, ts, rr, sr, e1, fun vs H1 hl s1 => ?_⟩
    obtain ⟨G, F1, F2, y⟩ := s1
    have rs := y.seg hl
    have hps := all_fro (g := g) (ds := rr.1) (vs := vs) h6 hl (by rw [h7, evs_len e1])
    obtain ⟨F3, y2⟩ := y.drop
    refine ⟨G, tms .fro rr.1 vs, xr, tms_v hl, hps, y.sub, tms_of (w := w) rs, by rw [tms_d hl]; exact e2, ?_⟩
    cases xr with
    | ret d o =>
      intro v H' ce
      obtain ⟨G', xs', FA, FR, sG, sub', c1, c2, c3, tmA, tR, nd', out', keep', mono', nG'⟩ := ce
      have y3 : SRd fr X.K G' F1 F3 Γ rr.2 σ ts H' := y2.jump sG sub' (fun a o e => keep' a o e (by intro z; cases z)) mono' (fun a h => (nG' a h).elim .inl fun h => h.elim (fun z => by cases z) .inr)
      refine q v H' ⟨G', F1, F3 ++ FR, y3.sub, y3.sl, y3.tm.of_app (TmF.of_one (by rw [h5]; exact tR)), ?_, fun a ha => ?_, y3.ok⟩
      · rw [← List.append_assoc]
        refine List.nodup_append.mpr ⟨y3.nd, nd'.sublist (List.sublist_append_right _ _), fun a ha b hb e => ?_⟩
        subst e
        obtain ⟨ws, eh⟩ := y2.there a ha
        rcases (out' a (List.mem_append_right _ hb)).2 with h | h
        · cases h
        · rw [eh] at h
          cases h
      · rw [← List.append_assoc] at ha
        rcases List.mem_append.mp ha with ha | ha
        · exact y3.out a ha
        · obtain ⟨o1, o2⟩ := out' a (List.mem_append_right _ ha)
          refine ⟨o1, .inr ?_⟩
          rcases o2 with h | h
          · cases h
          · exact y2.ok.mono a h
    | exn z fs =>
      intro C dd vs' H' hC hv' xe hd
      obtain ⟨G', sG, sub', rv, keep', mono', nG'⟩ := xe
      have y3 : SRd fr X.K G' F1 F3 Γ rr.2 σ ts H' := y2.jump sG sub' keep' mono' nG'
      exact q σ H' [] vs' C dd ⟨G', F1, F3, by rw [List.append_nil]; exact y3.pushes rv⟩ hv' (by rw [← gx.mg]; exact hC) hd
/-! the statements -/
theorem s_cx {x : Str} {es : Es} {args : List Expr} {p cp : Pos} (he : PE X (.Call (.Name x p) args [] cp) (tCx Φ fr Γ .fro ret wx X.K x es)) : PS X (.Expr (.Call (.Name x p) args [] cp) pos) (tS Φ fr Γ ret wx X.K (.cx x es)) := by
  refine PS_mono (ps_expr he (swaps_no rfl)) fun D σ H h => ?_
  obtain ⟨ρ, ts, r, sr, he, q⟩ := h
  obtain ⟨ra, e1, he⟩ := bind_inv he
  obtain ⟨xr, e2, he⟩ := bind_inv he
  refine ⟨ρ, ts, ra, xr, sr, e1, e2, ?_⟩
  cases xr with
  | ret d o =>
    cases he
    exact fun v H1 s1 => q σ H1 s1.drop
  | exn z fs =>
    cases he
    exact q
theorem s_rtx {x : Str} {es : Es} {args : List Expr} {p cp : Pos} (he : PE X (.Call (.Name x p) args [] cp) (tCx Φ fr Γ ret ret wx X.K x es)) : PS X (.Return (some (.Call (.Name x p) args [] cp)) pos) (tS Φ fr Γ ret wx X.K (.rtx x es)) := by
  refine PS_mono (ps_ret he) fun D σ H h => ?_
  obtain ⟨ρ, ts, r, sr, he, q⟩ := h
  obtain ⟨ra, e1, he⟩ := bind_inv he
  obtain ⟨xr, e2, he⟩ := bind_inv he
  refine ⟨ρ, ts, ra, xr, sr, e1, e2, ?_⟩
  cases xr with
  | ret d o =>
    cases he
    exact fun v H1 s1 => q v σ H1 [] (by rw [List.append_nil]; exact s1)
  | exn z fs =>
    cases he
    exact q
theorem s_sx {i : Nat} {t : Ty} {y : Str} {py : Pos} {x : Str} {es : Es} {args : List Expr} {p cp : Pos} (gd : Gd X c) (hp : Pin P fr) (h : sC c Γ P i y t = true) (he : PE X (.Call (.Name x p) args [] cp) (tCx Φ fr Γ t ret wx X.K x es)) : PS X (.Assign [.Name y py] (.Call (.Name x p) args [] cp) pos) (tS Φ fr Γ ret wx X.K (.sx i x es)) := by
  obtain ⟨h1, h2, h3, h4, h5, h6⟩ := sC_of gd hp h
  refine PS_mono (ps_set h1 h2 h3 he (swaps_no rfl) h4) fun D σ H h => ?_
  obtain ⟨ρ, ts, r, sr, he, q⟩ := h
  obtain ⟨ra, e1, he⟩ := bind_inv he
  obtain ⟨xr, e2, he⟩ := bind_inv he
  refine ⟨ρ, ts, ra, xr, sr, e1, e2, ?_⟩
  cases xr with
  | ret d o =>
    cases he
    exact fun v H1 s1 => q _ _ (s1.setSlot h5 h6)
  | exn z fs =>
    cases he
    exact q
theorem s_ifx (ng : Bool) {x : Str} {es : Es} {args : List Expr} {p cp np ip : Pos} {j : Nat} {a b : List Stmt} {sa sb : Ss} (he : PE X (.Call (.Name x p) args [] cp) (tCx Φ fr Γ .fro ret wx X.K x es)) (ha : PSs X a (tSs Φ fr Γ ret wx X.K sa)) (hb : PSs X b (tSs Φ fr Γ ret wx X.K sb)) :
    PS X (.If (.Compare (.Call (.Name x p) args [] cp) [if ng then .IsNot else .Is] [.Constant .none j np] ip) a b pos) (tS Φ fr Γ ret wx X.K (.ifx ng x es sa sb)) := by
  refine PS_mono (ps_if (pt_cmpR (op_isG ng) he pe_non (nobehind _ (isop_in ng).1 (isop_in ng).2)) ha hb) fun D σ H h => ?_
  obtain ⟨ρ, ts, r, sr, he, q⟩ := h
  obtain ⟨ra, e1, he⟩ := bind_inv he
  obtain ⟨xr, e2, he⟩ := bind_inv he
  refine ⟨ρ, ts, ra, xr, sr, e1, e2, ?_⟩
  cases xr with
  | ret d o =>
    intro v H1 s1
    have hn : decide (v = .non) = isNone d := by
      obtain ⟨G, F1, F2, y⟩ := id s1
      have rd := y.last1 rfl
      cases rd <;> rfl
    refine ⟨rfl, _, rfl, ?_⟩
    rw [hn]
    have he : (if (isNone d != ng) = true then exSs Φ sa ra.2 else exSs Φ sb ra.2) = some r := he
    show if (isNone d != ng) = true then tSs Φ fr Γ ret wx X.K sa D σ H1 else tSs Φ fr Γ ret wx X.K sb D σ H1
    by_cases hd : (isNone d != ng) = true
    · rw [if_pos hd] at he ⊢
      exact ⟨_, ts, r, s1.drop, he, q⟩
    · rw [if_neg hd] at he ⊢
      exact ⟨_, ts, r, s1.drop, he, q⟩
  | exn z fs =>
    cases he
    exact q
end
/-! ### the except suite -/
section
variable {X : Cx} {c : Ct} {Φ : Cf} {fr : Fr} {Γ : List Ty} {pos : Pos} {a C : Addr} {dd : Addr} {oe : Obj} {pn : List (Addr × Obj)} {x : Str} {i : Nat}
theorem zip_look : ∀ {fs : Fs} {vs : List V} {f : Str} {d : D} {K : PySem.W.Frag} {G : Hp}, RpAll K G vs (fs.map (·.2)) → fs.lookup f = some d → ∃ v, ((fs.map (·.1)).zip vs).lookup f = some v ∧ Rp K G v d
  | [], _, _, _, _, _, _, e => by cases e
  | (y, e0) :: fs, [], _, _, _, _, h, _ => by cases h
  | (y, e0) :: fs, v :: vs, f, d, K, G, h, e => by
    cases h with
    | cons h1 h2 =>
      show ∃ u, ((y, v) :: (fs.map (·.1)).zip vs).lookup f = some u ∧ Rp K G u d
      rw [List.lookup_cons] at e ⊢
      by_cases hy : (f == y) = true
      · rw [hy] at e ⊢
        cases e
        exact ⟨v, rfl, h1⟩
      · have hy : (f == y) = false := by simpa using hy
        rw [hy] at e ⊢
        exact zip_look h2 e

variable (fr Γ x i a dd) in
def tH (K : PySem.W.Frag) (hx : Hx) : TE := fun σ H Q => ∃ ρ fs vs ts d, SR fr K Γ ρ σ (tms .fro (fs.map (·.2)) vs ++ ts) H ∧ vs.length = fs.length ∧ H dd = some (xdOf fs vs) ∧ ρ[i]? = some none ∧ σ[i]? = some (some (.ref a)) ∧ hxD x fs ρ hx = some d ∧
  ∀ v H', SR fr K Γ ρ σ (tms .fro (fs.map (·.2)) vs ++ ts ++ [⟨.fro, d, v⟩]) H' → H' dd = some (xdOf fs vs) → Q v H'
variable (fr Γ x i a dd) in
def tHs (K : PySem.W.Frag) (l : Hxs) : TA := fun σ H Q => ∃ ρ fs vs ts ds, SR fr K Γ ρ σ (tms .fro (fs.map (·.2)) vs ++ ts) H ∧ vs.length = fs.length ∧ H dd = some (xdOf fs vs) ∧ ρ[i]? = some none ∧ σ[i]? = some (some (.ref a)) ∧ hxsD x fs ρ l = some ds ∧
  ∀ us H', us.length = ds.length → SR fr K Γ ρ σ (tms .fro (fs.map (·.2)) vs ++ ts ++ tms .fro ds us) H' → H' dd = some (xdOf fs vs) → Q us H'
abbrev Su (X : Cx) (a : Addr) (oe : Obj) (pn : List (Addr × Obj)) : Cx := X.suite a ((a, oe) :: pn)
theorem h_k {e : Expr} {v : V} {d : D} (he : PE (Su X a oe pn) e (tC v)) (s : scalar d = true) (r : ∀ G, Rp X.K G v d) : PE (Su X a oe pn) e (tH fr Γ a dd x i X.K (.k d)) := by
  refine PE_mono he fun σ H Q h => ?_
  obtain ⟨ρ, fs, vs, ts, d', sr, hl, hd, hi, hs, he, q⟩ := h
  have he : (if scalar d = true then some d else none) = some d' := he
  rw [if_pos s] at he
  cases he
  exact q _ _ (sr.res s r) hd
theorem h_v {j : Nat} {y : Str} (hN : X.N[j]? = some y) (hv : Vis X.env.scope y) (hw : Γ[j]? = some .fro) (hdb : (y == ("__debug__" : Str)) = false) (hcd : (y == ("__classdict__" : Str)) = false) : PE (Su X a oe pn) (.Name y pos) (tH fr Γ a dd x i X.K (.v j)) := by
  refine PE_mono (pe_var (X := Su X a oe pn) hN hv hdb hcd) fun σ H Q h => ?_
  obtain ⟨ρ, fs, vs, ts, d', ⟨G, F1, F2, y⟩, hl, hd, hi, hs, he, q⟩ := h
  obtain ⟨v, g1, g2⟩ := y.slot he hw
  exact ⟨v, g1, q _ _ ⟨G, F1, F2, y.push g2⟩ hd⟩
theorem h_xf {f y : Str} {py : Pos} (T : XfC X.K C) (hno : PySem.W.findIn X.K (.ref C) f = some none) (hz : Zc (.ref C) (some dd) oe) (hf : ∃ vs, oe.data = .fields vs) (hN : X.N[i]? = some y) (hv : Vis X.env.scope y) (hdb : (y == ("__debug__" : Str)) = false) (hcd : (y == ("__classdict__" : Str)) = false) :
    PE (Su X a oe pn) (.Attribute (.Name y py) f pos) (tH fr Γ a dd x i X.K (.xf f)) := by
  refine PE_mono (pe_xf T hno hz hf (pe_var (X := Su X a oe pn) hN hv hdb hcd) rfl) fun σ H Q h => ?_
  obtain ⟨ρ, fs, vs, ts, d', ⟨G, F1, F2, y⟩, hl, hd, hi, hs, he, q⟩ := h
  have rs : RpAll X.K G vs (fs.map (·.2)) := SRd.segment (ts := []) (us := ts) y (by rw [List.length_map]; exact hl)
  obtain ⟨v, l, rv⟩ := zip_look rs he
  exact ⟨.ref a, hs, rfl, rfl, dd, _, v, rfl, hd, l, q v H ⟨G, F1, F2, y.push rv⟩ hd⟩
theorem hs_nil : PA (Su X a oe pn) [] (tHs fr Γ a dd x i X.K .nil) := by
  refine PA_mono pa_nil fun σ H Q h => ?_
  obtain ⟨ρ, fs, vs, ts, d', sr, hl, hd, hi, hs, he, q⟩ := h
  have he : some [] = some d' := he
  cases he
  exact q [] H rfl (by rw [show tms .fro [] [] = [] from rfl, List.append_nil]; exact sr) hd
theorem hs_cons {e : Expr} {es : List Expr} {h : Hx} {l : Hxs} (ha : PE (Su X a oe pn) e (tH fr Γ a dd x i X.K h)) (hb : PA (Su X a oe pn) es (tHs fr Γ a dd x i X.K l)) (hs : noStar e = true) : PA (Su X a oe pn) (e :: es) (tHs fr Γ a dd x i X.K (.cons h l)) := by
  refine PA_mono (pa_cons ha hb (star_cons hs)) fun σ H Q h => ?_
  obtain ⟨ρ, fs, vs, ts, d', sr, hl, hd, hi, hs, he, q⟩ := h
  obtain ⟨d1, e1, he⟩ := bind_inv he
  obtain ⟨ds, e2, rfl⟩ := map_inv he
  refine ⟨ρ, fs, vs, ts, d1, sr, hl, hd, hi, hs, e1, fun v H1 s1 hd1 => ⟨ρ, fs, vs, ts ++ [⟨.fro, d1, v⟩], ds, by rw [← List.append_assoc]; exact s1, hl, hd1, hi, hs, e2, fun us H2 hu s2 hd2 => q (v :: us) H2 (by simp [hu]) ?_ hd2⟩⟩
  rw [← List.append_assoc, List.append_assoc] at s2
  exact s2
theorem h_tup {es : List Expr} {l : Hxs} {k : Nat} (ha : PA (Su X a oe pn) es (tHs fr Γ a dd x i X.K l)) : PE (Su X a oe pn) (.Tuple es k pos) (tH fr Γ a dd x i X.K (.tup l)) := by
  refine PE_mono (pe_tup ha) fun σ H Q h => ?_
  obtain ⟨ρ, fs, vs, ts, d', sr, hl, hd, hi, hs, he, q⟩ := h
  obtain ⟨ds, e1, he⟩ := bind_inv he
  split at he
  · rename_i c
    cases he
    refine ⟨ρ, fs, vs, ts, ds, sr, hl, hd, hi, hs, e1, fun us H1 hu s1 hd1 => ⟨by rw [hu]; exact lenOk_of c, fun p hp => ?_⟩⟩
    obtain ⟨G, F1, F2, y⟩ := id s1
    have rs := y.seg hu
    obtain ⟨F5, y2⟩ := y.drop
    exact q _ _ (y2.newTup rs hp) (by rw [upd_ne (ne_of_none hd1 hp)]; exact hd1)
  · cases he
variable (fr Γ x i a dd) in
def tHb (K : PySem.W.Frag) (h : Hs) : TS := fun D σ H => ∃ ρ fs vs ts d, SR fr K Γ ρ σ (tms .fro (fs.map (·.2)) vs ++ ts) H ∧ vs.length = fs.length ∧ H dd = some (xdOf fs vs) ∧ ρ[i]? = some none ∧ σ[i]? = some (some (.ref a)) ∧ hsD x fs ρ h = some d ∧
  ∀ v H', SR fr K Γ ρ σ (tms .fro (fs.map (·.2)) vs ++ ts ++ [⟨.fro, d, v⟩]) H' → D.rt v H'
theorem hb_ret {e : Expr} {h : Hx} (ha : PE (Su X a oe pn) e (tH fr Γ a dd x i X.K h)) : PSs (Su X a oe pn) [.Return (some e) pos] (tHb fr Γ a dd x i X.K (.ret h)) := by
  refine PSs_mono (pss_one (ps_ret ha)) fun D σ H h => ?_
  obtain ⟨ρ, fs, vs, ts, d, sr, hl, hd, hi, hs, he, q⟩ := h
  exact ⟨ρ, fs, vs, ts, d, sr, hl, hd, hi, hs, he, fun v H' s1 _ => q v H' s1⟩
/-- what is known of a class that is caught -/
structure KC (X : Cx) (C : Addr) : Prop where
  er : Ve.Err2 X.K X.prog C
  xf : XfC X.K C
theorem k_xf1 {y : Str} {py : Pos} (gd : Gd X c) (kc : KC X C) (hz : Zc (.ref C) (some dd) oe) (hf : ∃ vs, oe.data = .fields vs) (h : vC c Γ i y .fro = true) : PE (Su X a oe pn) (.Attribute (.Name y py) "rule" pos) (tH fr Γ a dd x i X.K (.xf (PySem.Str.ofString "rule"))) := by
  obtain ⟨h1, h2, h3, h4, h5⟩ := vC_of gd h
  exact h_xf kc.xf kc.er.n1 hz hf h1 h2 h4 h5
theorem k_xf2 {y : Str} {py : Pos} (gd : Gd X c) (kc : KC X C) (hz : Zc (.ref C) (some dd) oe) (hf : ∃ vs, oe.data = .fields vs) (h : vC c Γ i y .fro = true) : PE (Su X a oe pn) (.Attribute (.Name y py) "index" pos) (tH fr Γ a dd x i X.K (.xf (PySem.Str.ofString "index"))) := by
  obtain ⟨h1, h2, h3, h4, h5⟩ := vC_of gd h
  exact h_xf kc.xf kc.er.n2 hz hf h1 h2 h4 h5
theorem k_hv {j : Nat} {y : Str} (gd : Gd X c) (h : vC c Γ j y .fro = true) : PE (Su X a oe pn) (.Name y pos) (tH fr Γ a dd x i X.K (.v j)) := by
  obtain ⟨h1, h2, h3, h4, h5⟩ := vC_of gd h
  exact h_v h1 h2 h3 h4 h5
theorem k_hi {n : Int} {j : Nat} : PE (Su X a oe pn) (.Constant (.int n) j pos) (tH fr Γ a dd x i X.K (.k (.int n))) := h_k pe_int rfl fun G => .int n
theorem k_hs {z : Str} {j : Nat} : PE (Su X a oe pn) (.Constant (.str z) j pos) (tH fr Γ a dd x i X.K (.k (.str z))) := h_k pe_str rfl fun G => .str z
theorem s_tr {wx : Xw} {P : List Nat} {n : Str} {np pos' : Pos} {body suite : List Stmt} {b₀ : Stmt} {b : Ss} {hs : Hs} (gx : Gx X wx) (gd : Gd X c) (hp : Pin P fr) (kl : Kls X x)
    (h : (decide (c.N[i]? = some n) && decide (c.sc.names.lookup n = some .local) && decide (i ∉ P) && glC c x && !(x == ("__debug__" : Str))) = true)
    (hb : ∀ (X' : Cx), Gd X' c → (∀ x g, Cal X Φ x g → Cal X' Φ x g) → (∀ x g, CalX X Φ x g → CalX X' Φ x g) → (∀ x, Kls X x → Kls X' x) → ∀ wx', Gx X' wx' → PSs X' body (tSs Φ fr Γ .fro wx' X'.K b))
    (hsu : ∀ (C : Addr), KC X C → ∀ (a : Addr) (oe : Obj) (dd : Addr) (pn : List (Addr × Obj)), Zc (.ref C) (some dd) oe → (∃ vs, oe.data = .fields vs) → PSs (Su X a oe pn) (b₀ :: suite) (tHb fr Γ a dd x i X.K hs)) :
    PS X (.Try body [.ExceptHandler (some (.Name x np)) (some n) (b₀ :: suite) pos'] [] [] pos) (tS Φ fr Γ .fro wx X.K (.tr b x i hs)) := by
  simp only [Bool.and_eq_true, decide_eq_true_eq, Bool.not_eq_true'] at h
  obtain ⟨⟨⟨⟨h1, h2⟩, h3⟩, h4⟩, h5⟩ := h
  obtain ⟨C, er, kmg, _, kex, kxf⟩ := kl.at_.ex
  have hi : X.N[i]? = some n := by rw [gd.N]; exact h1
  have hln : X.env.kindOf n = some .local := by
    show X.env.scope.names.lookup n = _
    rw [gd.sc]
    exact h2
  refine PS_mono (ps_try_as (tb := fun W => tSs Φ fr Γ .fro ⟨wx.mg, W⟩ X.K b) (ts := fun a cls d D σ H => ∃ dd, cls = .ref C ∧ d = some dd ∧ tHb fr Γ a dd x i X.K hs D σ H) (Wout := wx.W) gx.stk gx.frm (by rw [gd.N]; exact gd.nd) hi hln ⟨glC_of gd h4, h5, .inl kmg⟩ gx.tk
    (fun W pn xe tk pa => hb (X.tr pn xe) ⟨gd.N, gd.nd, gd.sc, gd.kd, gd.calm, pa, gd.cl, gd.un, gd.bl, gd.gl⟩ (fun _ _ h => ⟨h.ex⟩) (fun _ _ h => ⟨h.ex⟩) (fun _ h => ⟨h.at_, h.rm⟩) ⟨wx.mg, W⟩ ⟨gx.mg, tk, gx.stk, gx.frm⟩)
    (fun a oe cls d pn hz hf => ⟨fun pins s σ H D I ⟨dd, e1, e2, h⟩ => by
      subst e1 e2
      exact (hsu C ⟨er, kxf⟩ a oe dd pn hz hf).run pins s σ H D I h⟩)) fun D σ H h => ?_
  obtain ⟨ρ, ts, r, sr, he, q⟩ := h
  obtain ⟨r0, e1, he⟩ := bind_inv he
  refine ⟨ρ, ts, r0, sr, e1, ?_⟩
  cases r0 with
  | nx ρ1 =>
    cases he
    exact q
  | brk ρ1 =>
    cases he
    exact q
  | cnt ρ1 =>
    cases he
    exact q
  | ret d ρ1 =>
    cases he
    exact q
  | exn y fs ρ1 =>
    have he2 : (if y = x ∧ i < ρ1.length then (hsD y fs (ρ1.set i none) hs).map fun d => Rs.ret d (ρ1.set i none) else none) = some r := he
    by_cases hy : y = x ∧ i < ρ1.length
    · rw [if_pos hy] at he2
      clear he
      obtain ⟨rfl, hlt⟩ := hy
      obtain ⟨d, e2, rfl⟩ := map_inv he2
      intro σ' H' us vs C' dd s1 hv hm hd
      have hC : C' = C := by
        have hm : wx.mg y = some (.ref C') := hm
        rw [← gx.mg, kmg] at hm
        cases hm
        rfl
      subst hC
      refine ⟨true, kex, fun _ a ha => ⟨dd, rfl, rfl, ρ1.set i none, fs, vs, ts ++ us, d, ?_, hv, hd, by rw [List.getElem?_set_self hlt], ?_, e2, fun v H2 s2 => q v (σ'.set i (some (.ref a))) H2 (us ++ tms .fro (fs.map (·.2)) vs) ?_⟩, fun z => nomatch z⟩
      · obtain ⟨G, F1, F2, y1⟩ := s1
        obtain ⟨F3, y2⟩ := y1.perm (List.perm_append_comm)
        obtain ⟨F4, y3⟩ := y2.forget i
        refine ⟨G, F4, F3, y3.sig (by rw [List.length_set]) (fun j d' hj => ?_) (fun p hpp => ?_)⟩
        · by_cases hji : j = i
          · subst hji
            rw [List.getElem?_set_self hlt] at hj
            cases hj
          · rw [List.getElem?_set_ne (Ne.symm hji)]
        · rw [List.getElem?_set_ne (fun z => h3 (by rw [z]; exact hp p hpp))]
      · obtain ⟨G, F1, F2, y1⟩ := s1
        have := y1.sl.lens.2
        rw [List.getElem?_set_self (by omega)]
      · obtain ⟨G, F1, F2, y1⟩ := s2
        have pp : (tms .fro (fs.map (·.2)) vs ++ (ts ++ us) ++ [(⟨.fro, d, v⟩ : Tm)]).Perm (ts ++ (us ++ tms .fro (fs.map (·.2)) vs) ++ [⟨.fro, d, v⟩]) := by
          refine List.Perm.append_right _ ?_
          rw [← List.append_assoc ts us]
          exact List.perm_append_comm
        obtain ⟨F3, y2⟩ := y1.perm pp
        exact ⟨_, _, _, y2⟩
    · rw [if_neg hy] at he2
      cases he2
end
end Vw
namespace Vw
open PySem PySem.Spec PyProof.Rows L2
/-! ### the draw of a state [cells, seed] -/
def drop0 : List Int → List Int
  | [] => []
  | x :: r => if x = 0 then drop0 r else x :: r
def nextS (s : Int) : Int := (s * 48271 + 12345) % 2147483647
/-- value, the cells and the seed behind it -/
def drawA (ns : List Int) (s m : Int) : Int × List Int × Int := match drop0 ns with
  | v :: r => (v % m, v / m :: r, s)
  | [] => (nextS s / 64 % m, [], nextS s)
def stA (ns : List Int) (s : Int) : D := .list [.list (ns.map .int), .int s]
def fxDrawA : List D → Option (D × List D)
  | [.list [.list cs, .int s], .int m] => (intsD cs).bind fun ns => if 0 < m ∧ m < 1073741824 then some (.int (drawA ns s m).1, [stA (drawA ns s m).2.1 (drawA ns s m).2.2, .int m]) else none
  | _ => none
def nmA : List Str := ["state", "many", "cells", "value", "mixed"]
theorem fxDrawA_inv {ds : List D} {r : D × List D} (h : fxDrawA ds = some r) : ∃ ns s m, ds = [stA ns s, .int m] ∧ 0 < m ∧ m < 1073741824 ∧ r = (.int (drawA ns s m).1, [stA (drawA ns s m).2.1 (drawA ns s m).2.2, .int m]) := by
  unfold fxDrawA at h
  split at h
  · rename_i cs s m
    obtain ⟨ns, e1, h⟩ := bind_inv h
    split at h
    · rename_i c
      cases h
      refine ⟨ns, s, m, ?_, c.1, c.2, rfl⟩
      rw [intsD_inv e1]
      rfl
    · cases h
  · cases h
theorem if_t {c : Prop} [Decidable c] {a b : Prop} (h : c) (ha : a) : if c then a else b := by
  rw [if_pos h]
  exact ha
theorem if_f {c : Prop} [Decidable c] {a b : Prop} (h : ¬c) (hb : b) : if c then a else b := by
  rw [if_neg h]
  exact hb
theorem ar_mod {i j : Int} (h : 0 < j) : arD .mod (.int i) (.int j) = some (.int (i % j)) := if_pos h
theorem ar_div {i j : Int} (h : 0 < j) (h2 : j < 1073741824) : arD .fdiv (.int i) (.int j) = some (.int (i / j)) := if_pos ⟨h, h2⟩
theorem ar_mul {i j : Int} (h : -(2 ^ 64) < j) (h2 : j < 2 ^ 64) : arD .mul (.int i) (.int j) = some (.int (i * j)) := if_pos (.inr ⟨h, h2⟩)
theorem sq0 (n : Nat) : seqIndex? 0 (n + 1) = some 0 := by
  unfold seqIndex?
  simp
theorem gt0 {n : Nat} : decide ((0 : Int) < n) = true ↔ n ≠ 0 := by
  rw [decide_eq_true_eq]
  omega
def sgA : Sig := ⟨[.lst (.lst .fro), .fro], .fro⟩
theorem drawA_in {K : PySem.W.Frag} {vs : List V} {H : Hp} {Q : VK} {E : XK} (h : spI K sgA fxDrawA vs H Q E) : ∃ (a c : Addr) (ns : List Int) (s0 m : Int), vs = [.ref a, .int m] ∧ 0 < m ∧ m < 1073741824 ∧ a ≠ c ∧ H a = some (.lst [.ref c, .int s0]) ∧ H c = some (.lst (ns.map V.int)) ∧
    ∀ (H' : Hp) (ns' : List Int) (s' z : Int), H' a = some (.lst [.ref c, .int s']) → H' c = some (.lst (ns'.map V.int)) → (∀ b o, H b = some o → b ≠ a → b ≠ c → H' b = some o) → (∀ b, H' b = none → H b = none) →
      drawA ns s0 m = (z, ns', s') → Q (.int z) H' := by
  obtain ⟨G, Fo, ts, r, e1, e2, sG, tm, nd, gn, hf, q⟩ := h
  obtain ⟨ns, s0, m, ed, m1, m2, rfl⟩ := fxDrawA_inv hf
  obtain ⟨x1, x2, rfl⟩ : ∃ x1 x2, ts = [x1, x2] := by
    have l : ts.length = 2 := by
      have := congrArg List.length e2
      rw [List.length_map] at this
      exact this
    clear e2 ed tm hf
    match ts, l with
    | [x1, x2], _ => exact ⟨x1, x2, rfl⟩
  obtain ⟨F1, F2', ef, o1, F3, F4, ef2, o2, ef3⟩ := tm
  obtain ⟨t1, d1, v1⟩ := x1
  obtain ⟨t2, d2, v2⟩ := x2
  have ht1 : t1 = .lst (.lst .fro) := List.head_eq_of_cons_eq e2
  have ht2 : t2 = .fro := List.head_eq_of_cons_eq (List.tail_eq_of_cons_eq e2)
  have hd1 : d1 = stA ns s0 := List.head_eq_of_cons_eq ed
  have hd2 : d2 = .int m := List.head_eq_of_cons_eq (List.tail_eq_of_cons_eq ed)
  subst ht1 ht2 hd1 hd2 ef3
  obtain ⟨ef4, o2⟩ := o2
  have ef4 : F3 = [] := ef4
  cases o2
  rcases o1 with ⟨s, _, _⟩ | ⟨ds, a, ws, F', q1, q2, q3, q4, q5⟩
  · cases s
  cases q1
  have q2 : v1 = .ref a := q2
  subst q2
  obtain ⟨w1, w2, rfl⟩ : ∃ w1 w2, ws = [w1, w2] := by
    have l := q5.len
    match ws, l with
    | [w1, w2], _ => exact ⟨w1, w2, rfl⟩
  obtain ⟨Fa, Fb, eF', oa, Fc, Fd, eF2, ob, eF3⟩ := q5
  rcases oa with ⟨s, _, _⟩ | ⟨dsa, c, cs, F'', p1, p2, p3, p4, p5⟩
  · cases s
  cases p1
  subst p2
  obtain ⟨p5x, p6⟩ := p5.fro
  have p7 := p6.ints
  subst p7
  have ob2 : Fc = [] ∧ Rp K G w2 (.int s0) := by
    rcases ob with ⟨_, eb, rb⟩ | ⟨_, _, _, _, eb, _⟩
    · exact ⟨eb, rb⟩
    · cases eb
  obtain ⟨eb, rb⟩ := ob2
  cases rb
  have eF3 : Fd = [] := eF3
  have eFo : Fo = [a, c] := by
    rw [ef, ef2, ef4, q3, eF', p3, p5x, eF2, eb, eF3]
    rfl
  subst eFo
  have hac : a ≠ c := fun e => by
    rw [e] at nd
    simp at nd
  subst e1
  refine ⟨a, c, ns, s0, m, rfl, m1, m2, hac, q4, p4, ?_⟩
  have fin : ∀ (H' : Hp) (ns' : List Int) (s' z : Int), H' a = some (.lst [.ref c, .int s']) → H' c = some (.lst (ns'.map V.int)) → (∀ b o, H b = some o → b ≠ a → b ≠ c → H' b = some o) → (∀ b, H' b = none → H b = none) →
      drawA ns s0 m = (z, ns', s') → Q (.int z) H' := fun H' ns' s' z h1 h2 h3 h4 hz => by
    refine q (.int z) H' ⟨G, [⟨.lst (.lst .fro), stA ns' s', .ref a⟩, ⟨.fro, .int m, .int m⟩], [a, c], [], Same.refl G, fun b o e => ?_, rfl, rfl, ?_, ?_, ?_, by rw [List.append_nil]; exact nd, fun b hb => ?_, fun b o e hb => ?_, h4, fun b hb => .inl hb⟩
    · refine h3 b o (sG _ _ e) (fun z => ?_) (fun z => ?_)
      · rw [z, gn a List.mem_cons_self] at e
        cases e
      · rw [z, gn c (List.mem_cons_of_mem _ List.mem_cons_self)] at e
        cases e
    · show [stA ns' s', PyData.int m] = [stA (drawA ns s0 m).2.1 (drawA ns s0 m).2.2, .int m]
      rw [hz]
    · refine ⟨[a, c], [], rfl, .inr ⟨_, a, _, [c], rfl, rfl, rfl, h1, [c], [], rfl, .inr ⟨_, c, _, [], rfl, rfl, rfl, h2, AllF.of_fro (RpAll.of_ints ns')⟩, [], [], rfl, .inl ⟨rfl, rfl, .int s'⟩, rfl⟩, [], [], rfl, ⟨rfl, .int m⟩, rfl⟩
    · show Own K G H' .fro (.int (drawA ns s0 m).1) (.int z) []
      rw [hz]
      exact ⟨rfl, .int z⟩
    · rw [List.append_nil] at hb
      exact ⟨gn b hb, .inl hb⟩
    · exact h3 b o e (fun z => hb (by rw [z]; exact List.mem_cons_self)) (fun z => hb (by rw [z]; exact List.mem_cons_of_mem _ List.mem_cons_self))
  exact fin
end Vw
namespace Vw
open PySem PySem.Spec PyProof.Rows L2
/-! ### the law's end -/
def tab (l : List (Str × (List D → Option (D × List D)))) (x : Str) : List D → Option (D × List D) := match l.lookup x with
  | some f => f
  | none => fun _ => none
def noListB (p : Addr × Obj) : Bool := match p.2.cls with
  | .type s => !(s == "list")
  | _ => true
theorem lookup_mem {K : PySem.W.Frag} {a : Addr} {o : Obj} : ∀ {K : PySem.W.Frag}, K.lookup a = some o → (a, o) ∈ K
  | [], h => by simp at h
  | (b, u) :: r, h => by
    rw [List.lookup_cons] at h
    split at h
    · rename_i e
      cases h
      have : a = b := by simpa using e
      rw [this]
      exact List.mem_cons_self
    · exact List.mem_cons_of_mem _ (lookup_mem (K := r) h)
theorem rd_of_sql {K : PySem.W.Frag} {H : Hp} {a : Addr} {xs : List V} (nl : K.all noListB = true) (h : SqL K H a xs) : Rd H a (.lst xs) := by
  rcases h with h | ⟨o, its, n, h1, h2, _⟩
  · exact h
  · have h3 := List.all_eq_true.mp nl _ (lookup_mem (K := K) h1)
    unfold noListB at h3
    rw [h2] at h3
    exact absurd h3 (by decide)
def spLaw (K : PySem.W.Frag) : Sp := fun vs H Q _ => ∃ (a : Addr) (ns : List Int), vs = [.ref a] ∧ SqL K H a (ns.map V.int) ∧ ns.length ≤ 63 ∧ ∀ H', Q (.bl true) H'
theorem law_imp {K : PySem.W.Frag} {fx : List D → Option (D × List D)} (nl : K.all noListB = true) (h : ∀ ns : List Int, ns.length ≤ 63 → ∃ o, fx [.list (ns.map .int)] = some (.bool true, o)) :
    ∀ vs H Q E, spLaw K vs H Q E → spI K ⟨[.fro], .fro⟩ fx vs H Q E := by
  rintro vs H Q E ⟨a, ns, rfl, hS, hl, q⟩
  obtain ⟨o, e⟩ := h ns hl
  refine ⟨H, [], [⟨.fro, .list (ns.map .int), .ref a⟩], (.bool true, o), rfl, rfl, Same.refl H, ⟨[], [], rfl, ⟨rfl, .lst (rd_of_sql nl hS) (RpAll.of_ints ns)⟩, rfl⟩, List.nodup_nil, by simp, e, fun v H' ce => ?_⟩
  obtain ⟨G', ts', FA, FR, _, _, _, _, _, _, own, _⟩ := ce
  have r : Rp K G' v (.bool true) := own.2
  cases r
  exact q H'
theorem bl_of {mg : Str → Option Value} (h : ∀ x, x ∈ blAll → mg x = none) : ∀ x, x ∈ blAll → mg x = none := h
theorem bl_mk {l : PySem.W.Frag} {h : Heap} {mg : Str → Option Value} (X : l.In h) (G : h.Ns mainGlobals mg) (z : ∀ x, x ∈ blAll → PySem.W.nsIn l mainGlobals x = some none) : ∀ x, x ∈ blAll → mg x = none := fun x hx => PySem.W.mg_none_of X G (z x hx)
end Vw
namespace Vw
open PySem PySem.Spec PyProof.Rows L2
def isSN : Option (Option Value) → Bool
  | some none => true
  | _ => false
theorem bl_all {K : PySem.W.Frag} {h : Heap} {mg : Str → Option Value} (X : K.In h) (G : h.Ns mainGlobals mg) (z : (blAll.all fun x => isSN (PySem.W.nsIn K mainGlobals x)) = true) : ∀ x, x ∈ blAll → mg x = none := fun x hx => by
  have := List.all_eq_true.mp z x hx
  refine PySem.W.mg_none_of X G ?_
  cases e : PySem.W.nsIn K mainGlobals x with
  | none => rw [e] at this; cases this
  | some o =>
    rw [e] at this
    cases o with
    | none => rfl
    | some v => cases this
theorem callee {P : Program} {w : World} {K : PySem.W.Frag} {mg : Str → Option Value} {base : Heap} {Φ : Cf} {k k' : Nat} {x : Str} {g : Sig} {f : Addr} {fd : FuncData} {ps : List Str} {fx : List D → Option (D × List D)}
    (F : FnOk P w K mg base CX0 k' f fd ps (spI K g fx)) (e : Φ.fn x = fx) (l : k' ≤ k) (m : mg x = some (.ref f)) (kp : PySem.W.keepIn K (.ref f) = true) (b : Binds K fd ps []) : Callee P w K mg base Φ k x g :=
  ⟨⟨k', f, fd, ps, by rw [e]; exact F, l, m, kp, b⟩⟩
theorem calleeX {P : Program} {w : World} {K : PySem.W.Frag} {mg : Str → Option Value} {base : Heap} {Φ : Cf} {k k' : Nat} {x : Str} {g : Sig} {f : Addr} {fd : FuncData} {ps : List Str} {fx : List D → Option Xr}
    (F : FnOk P w K mg base (L2.CX P w) k' f fd ps (spX mg K g fx)) (e : Φ.fx x = fx) (l : k' ≤ k) (m : mg x = some (.ref f)) (kp : PySem.W.keepIn K (.ref f) = true) (b : Binds K fd ps []) : CalleeX P w K mg base Φ k x g :=
  ⟨⟨k', f, fd, ps, by rw [e]; exact F, l, m, kp, b⟩⟩
def tabX (l : List (Str × (List D → Option Xr))) (x : Str) : List D → Option Xr := match l.lookup x with
  | some f => f
  | none => fun _ => none
/-- an error of the class at C is what «except C» names -/
theorem exm_own {K : PySem.W.Frag} {S : Addr} (h1 : PySem.W.subIn K (.ref S) (.type "BaseException") = some true) (h2 : PySem.W.isClsIn K S = true) (h3 : PySem.W.typeIn K (.ref S) = some (.type "type")) (h4 : PySem.W.subIn K (.ref S) (.ref S) = some true) : PySem.W.exmOne K (.ref S) (.ref S) = some true := by
  have e1 : (PySem.W.subIn K (.ref S) (.type "BaseException") == some true) = true := by rw [h1]; rfl
  have e2 : ((PySem.W.clsIn K S).isSome && PySem.W.typeIn K (.ref S) == some (.type "type")) = true := by
    rw [show (PySem.W.clsIn K S).isSome = true from h2, h3]
    rfl
  show (if (PySem.W.subIn K (.ref S) (.type "BaseException") == some true) = true then (if ((PySem.W.clsIn K S).isSome && PySem.W.typeIn K (.ref S) == some (.type "type")) = true then PySem.W.subIn K (.ref S) (.ref S) else none) else none) = some true
  rw [if_pos e1, if_pos e2]
  exact h4
end Vw
namespace Vw
open PySem PySem.Spec PyProof.Rows L2
/-! ### reckoning on data -/
@[simp] theorem get_z (o : Option D) (ρ : Rho) : Vw.get (o :: ρ) 0 = o := by cases o <;> rfl
@[simp] theorem get_s (o : Option D) (ρ : Rho) (n : Nat) : Vw.get (o :: ρ) (n + 1) = Vw.get ρ n := rfl
@[simp] theorem put_z (o : Option D) (ρ : Rho) (d : D) : put (o :: ρ) 0 d = some d :: ρ := rfl
@[simp] theorem put_s (o : Option D) (ρ : Rho) (n : Nat) (d : D) : put (o :: ρ) (n + 1) d = o :: put ρ n d := rfl
@[simp] theorem wipeD_nil (ρ : Rho) : wipeD ρ [] = ρ := rfl
@[simp] theorem wipeD_cons (ρ : Rho) (i : Nat) (r : List Nat) : wipeD ρ (i :: r) = (wipeD ρ r).set i none := rfl
@[simp] theorem restD_nil (ρ : Rho) : restD [] ρ = some ρ := rfl
@[simp] theorem rsBack_nx (ρ : Rho) : rsBack [] (.nx ρ) = some (.nx ρ) := rfl
@[simp] theorem rsBack_ret (sv : List (Nat × D)) (d : D) (ρ : Rho) : rsBack sv (.ret d ρ) = some (.ret d ρ) := rfl
theorem sizeL : sizeLine = 16777216 := rfl
@[simp] theorem lenOk_le {n : Nat} (h : n ≤ 16777216) : lenOk n = true := decide_eq_true h
theorem len_b1L (l : List D) : b1D .len (.list l) = some (.int l.length) := rfl
theorem len_b1T (l : List D) : b1D .len (.tuple l) = some (.int l.length) := rfl
/-- a loop by its invariant -/
def After (N : Rho → Prop) (R : D → Rho → Prop) : Rs → Prop
  | .nx ρ => N ρ
  | .ret d ρ => R d ρ
  | _ => False
theorem forL_rule {f : D → Rho → Option Rs} (I : Nat → Rho → Prop) (R : D → Rho → Prop) : ∀ (ds : List D) (k : Nat),
    (∀ i (h : i < ds.length) ρ, I (k + i) ρ → ∃ r, f ds[i] ρ = some r ∧ After (I (k + i + 1)) R r) → ∀ ρ, I k ρ → ∃ q, forL f ds ρ = some q ∧ After (I (k + ds.length)) R q
  | [], k, _, ρ, h => ⟨.nx ρ, rfl, h⟩
  | d :: ds, k, step, ρ, h => by
    obtain ⟨r, e1, h1⟩ := step 0 (Nat.succ_pos _) ρ h
    have e1 : f d ρ = some r := e1
    cases r with
    | nx ρ1 =>
      obtain ⟨q, e2, h2⟩ := forL_rule I R ds (k + 1) (fun i hi ρ hI => by
        have := step (i + 1) (by simpa using hi) ρ (by rw [show k + (i + 1) = k + 1 + i by omega]; exact hI)
        obtain ⟨r, e, h⟩ := this
        refine ⟨r, by simpa using e, ?_⟩
        rw [show k + 1 + i + 1 = k + (i + 1) + 1 by omega]
        exact h) ρ1 h1
      refine ⟨q, ?_, ?_⟩
      · show (f d ρ).bind _ = _
        rw [e1]
        exact e2
      · rw [show k + (d :: ds).length = k + 1 + ds.length by simp; omega]
        exact h2
    | ret x ρ1 => exact ⟨.ret x ρ1, by show (f d ρ).bind _ = _; rw [e1]; rfl, h1⟩
    | brk _ => exact h1.elim
    | cnt _ => exact h1.elim
    | exn _ _ _ => exact h1.elim
theorem for_rule {f : D → Rho → Option Rs} {ds : List D} (I : Nat → Rho → Prop) (R : D → Rho → Prop) (step : ∀ i (h : i < ds.length) ρ, I i ρ → ∃ r, f ds[i] ρ = some r ∧ After (I (i + 1)) R r) {ρ : Rho} (h : I 0 ρ) : ∃ q, forL f ds ρ = some q ∧ After (I ds.length) R q := by
  obtain ⟨q, e, a⟩ := forL_rule I R ds 0 (fun i hi ρ hI => by
    rw [Nat.zero_add] at hI ⊢
    exact step i hi ρ hI) ρ h
  rw [Nat.zero_add] at a
  exact ⟨q, e, a⟩
/-- a comprehension by its invariant: what has come out so far -/
theorem compL_rule {f : D → Rho → Option (Option D × Rho)} (I : List D → Nat → Rho → Prop) : ∀ (ds : List D) (k : Nat) (acc : List D),
    (∀ i (h : i < ds.length) acc ρ, I acc (k + i) ρ → ∃ r, f ds[i] ρ = some r ∧ I (acc ++ r.1.toList) (k + i + 1) r.2) → ∀ ρ, I acc k ρ → ∃ out ρ', compL f ds ρ = some (out, ρ') ∧ I (acc ++ out) (k + ds.length) ρ'
  | [], k, acc, _, ρ, h => ⟨[], ρ, rfl, by rw [List.append_nil]; exact h⟩
  | d :: ds, k, acc, step, ρ, h => by
    obtain ⟨r, e1, h1⟩ := step 0 (Nat.succ_pos _) acc ρ h
    have e1 : f d ρ = some r := e1
    obtain ⟨out, ρ', e2, h2⟩ := compL_rule I ds (k + 1) (acc ++ r.1.toList) (fun i hi acc ρ hI => by
      have := step (i + 1) (by simpa using hi) acc ρ (by rw [show k + (i + 1) = k + 1 + i by omega]; exact hI)
      obtain ⟨r, e, h⟩ := this
      refine ⟨r, by simpa using e, ?_⟩
      rw [show k + 1 + i + 1 = k + (i + 1) + 1 by omega]
      exact h) r.2 h1
    refine ⟨r.1.toList ++ out, ρ', ?_, ?_⟩
    · show (f d ρ).bind _ = _
      rw [e1]
      show (compL f ds r.2).map _ = _
      rw [e2]
      obtain ⟨o, _⟩ := r
      cases o <;> rfl
    · rw [← List.append_assoc, show k + (d :: ds).length = k + 1 + ds.length by simp; omega]
      exact h2
theorem comp_rule {f : D → Rho → Option (Option D × Rho)} {ds : List D} (I : List D → Nat → Rho → Prop) (step : ∀ i (h : i < ds.length) acc ρ, I acc i ρ → ∃ r, f ds[i] ρ = some r ∧ I (acc ++ r.1.toList) (i + 1) r.2) {ρ : Rho} (h : I [] 0 ρ) : ∃ out ρ', compL f ds ρ = some (out, ρ') ∧ I out ds.length ρ' := by
  obtain ⟨out, ρ', e, a⟩ := compL_rule I ds 0 [] (fun i hi acc ρ hI => by
    rw [Nat.zero_add] at hI ⊢
    exact step i hi acc ρ hI) ρ h
  rw [Nat.zero_add, List.nil_append] at a
  exact ⟨out, ρ', e, a⟩
/-- draws -/
theorem drawA_ok {ns : List Int} {s m : Int} (h : 0 < m) (h2 : m < 1073741824) : ∃ v ns' s', 0 ≤ v ∧ v < m ∧ fxDrawA [stA ns s, .int m] = some (.int v, [stA ns' s', .int m]) := by
  have hI : intsD (ns.map .int) = some ns := by
    induction ns with
    | nil => rfl
    | cons x r ih =>
      show (intsD (r.map .int)).map _ = _ 
      rw [ih]
      rfl
  have e : fxDrawA [stA ns s, .int m] = some (.int (drawA ns s m).1, [stA (drawA ns s m).2.1 (drawA ns s m).2.2, .int m]) := by
    show (intsD (ns.map .int)).bind _ = _
    rw [hI]
    exact if_pos ⟨h, h2⟩
  refine ⟨_, _, _, ?_, ?_, e⟩
  · unfold drawA
    split <;> exact Int.emod_nonneg _ (by omega)
  · unfold drawA
    split <;> exact Int.emod_lt_of_pos _ h
theorem ixN_nat {n i : Nat} (h : i < n) : ixN n (i : Int) = some i := by
  unfold ixN
  rw [if_pos (by omega), if_pos (by omega)]
  simp
theorem ixL_nat {l : List D} {i : Int} {d : D} (h0 : 0 ≤ i) (h : l[i.toNat]? = some d) : ixL l (.int i) = some d := by
  obtain ⟨n, rfl⟩ := Int.eq_ofNat_of_zero_le h0
  exact atI_nat (by simpa using h)
end Vw
namespace Vw
open PySem PySem.Spec PyProof.Rows L2
/-! ### rules for bodies on data -/
structure Po where
  N : Rho → Prop
  R : D → Rho → Prop
  B : Rho → Prop
  C : Rho → Prop
  X : Str → Fs → Rho → Prop
def Po.at (K : Po) : Rs → Prop
  | .nx ρ => K.N ρ
  | .ret d ρ => K.R d ρ
  | .brk ρ => K.B ρ
  | .cnt ρ => K.C ρ
  | .exn x fs ρ => K.X x fs ρ
def Wp (c : Cf) (ss : Ss) (ρ : Rho) (K : Po) : Prop := ∃ r, exSs c ss ρ = some r ∧ K.at r
def WpS (c : Cf) (s : S) (ρ : Rho) (K : Po) : Prop := ∃ r, exS c s ρ = some r ∧ K.at r
section
variable {c : Cf} {ρ ρ' ρ'' : Rho} {K : Po} {d x : D} {ss : Ss}
theorem wp_nil (h : K.N ρ) : Wp c .nil ρ K := ⟨.nx ρ, rfl, h⟩
theorem wp_cons {s : S} (h : WpS c s ρ { K with N := fun ρ' => Wp c ss ρ' K }) : Wp c (.cons s ss) ρ K := by
  obtain ⟨r, e, h⟩ := h
  cases r with
  | nx ρ1 =>
    obtain ⟨r2, e2, h2⟩ := h
    exact ⟨r2, by show (exS c s ρ).bind _ = _; rw [e]; exact e2, h2⟩
  | ret d ρ1 => exact ⟨.ret d ρ1, by show (exS c s ρ).bind _ = _; rw [e]; rfl, h⟩
  | brk ρ1 => exact ⟨.brk ρ1, by show (exS c s ρ).bind _ = _; rw [e]; rfl, h⟩
  | cnt ρ1 => exact ⟨.cnt ρ1, by show (exS c s ρ).bind _ = _; rw [e]; rfl, h⟩
  | exn x fs ρ1 => exact ⟨.exn x fs ρ1, by show (exS c s ρ).bind _ = _; rw [e]; rfl, h⟩
theorem wp_fz {i : Nat} (h : Wp c ss ρ ⟨fun ρ => K.N (ρ.set i none), fun d ρ => K.R d (ρ.set i none), fun ρ => K.B (ρ.set i none), fun ρ => K.C (ρ.set i none), fun x fs ρ => K.X x fs (ρ.set i none)⟩) : Wp c (.fz i ss) ρ K := by
  obtain ⟨r, e, h⟩ := h
  refine ⟨rsWipe i r, by show (exSs c ss ρ).map _ = _; rw [e]; rfl, ?_⟩
  cases r <;> exact h
theorem wp_reb {i : Nat} {t : Ty} {e : E} (he : ev c e ρ = some (d, ρ')) (h : Wp c ss (put ρ' i d) ⟨fun ρ => K.N (ρ.set i none), fun d ρ => K.R d (ρ.set i none), fun ρ => K.B (ρ.set i none), fun ρ => K.C (ρ.set i none), fun x fs ρ => K.X x fs (ρ.set i none)⟩) : Wp c (.reb i t e ss) ρ K := by
  obtain ⟨r, e2, h⟩ := h
  refine ⟨rsWipe i r, by show (ev c e ρ).bind _ = _; rw [he]; show (exSs c ss _).map _ = _; rw [e2]; rfl, ?_⟩
  cases r <;> exact h
theorem w_set {i : Nat} {e : E} (he : ev c e ρ = some (d, ρ')) (h : K.N (put ρ' i d)) : WpS c (.set i e) ρ K := ⟨.nx (put ρ' i d), by show (ev c e ρ).map _ = _; rw [he]; rfl, h⟩
theorem w_unp {tg : Tg} {e : E} (he : ev c e ρ = some (d, ρ')) (ht : tgD tg d ρ' = some ρ'') (h : K.N ρ'') : WpS c (.unp tg e) ρ K := ⟨.nx ρ'', by show (ev c e ρ).bind _ = _; rw [he]; show (tgD tg d ρ').map _ = _; rw [ht]; rfl, h⟩
theorem w_par {i j : Nat} {a b : E} (ha : ev c a ρ = some (d, ρ')) (hb : ev c b ρ' = some (x, ρ'')) (h : K.N (put (put ρ'' i d) j x)) : WpS c (.par i j a b) ρ K := ⟨.nx _, by show (ev c a ρ).bind _ = _; rw [ha]; show (ev c b ρ').map _ = _; rw [hb]; rfl, h⟩
theorem w_aug {i : Nat} {o : Ar} {e : E} {y z : D} (h0 : Vw.get ρ i = some y) (he : ev c e ρ = some (d, ρ')) (ho : arD o y d = some z) (h : K.N (put ρ' i z)) : WpS c (.aug i o e) ρ K := ⟨.nx _, by show (Vw.get ρ i).bind _ = _; rw [h0]; show (ev c e ρ).bind _ = _; rw [he]; show (arD o y d).map _ = _; rw [ho]; rfl, h⟩
theorem w_app {i : Nat} {e : E} {l l0 : List D} (h0 : Vw.get ρ i = some (.list l0)) (he : ev c e ρ = some (d, ρ')) (h1 : Vw.get ρ' i = some (.list l)) (hl : l.length < 16777216) (h : K.N (put ρ' i (.list (l ++ [d])))) : WpS c (.app i e) ρ K :=
  ⟨.nx _, by show (Vw.get ρ i).bind _ = _; rw [h0]; show (ev c e ρ).bind _ = _; rw [he]; show (Vw.get ρ' i).bind _ = _; rw [h1]; exact if_pos hl, h⟩
theorem w_sti {i : Nat} {a e : E} {l : List D} {y : D} {j : Int} {k : Nat} (he : ev c e ρ = some (d, ρ')) (h0 : Vw.get ρ' i = some y) (ha : ev c a ρ' = some (.int j, ρ'')) (h1 : Vw.get ρ'' i = some (.list l)) (hk : ixN l.length j = some k) (h : K.N (put ρ'' i (.list (l.set k d)))) : WpS c (.sti i a e) ρ K :=
  ⟨.nx _, by show (ev c e ρ).bind _ = _; rw [he]; show (Vw.get ρ' i).bind _ = _; rw [h0]; show (ev c a ρ').bind _ = _; rw [ha]; show (Vw.get ρ'' i).bind _ = _; rw [h1]; show (ixN l.length j).map _ = _; rw [hk]; rfl, h⟩
theorem w_ex {e : E} (he : ev c e ρ = some (d, ρ')) (h : K.N ρ') : WpS c (.ex e) ρ K := ⟨.nx ρ', by show (ev c e ρ).map _ = _; rw [he]; rfl, h⟩
theorem w_ret {e : E} (he : ev c e ρ = some (d, ρ')) (h : K.R d ρ') : WpS c (.ret e) ρ K := ⟨.ret d ρ', by show (ev c e ρ).map _ = _; rw [he]; rfl, h⟩
theorem w_retn (h : K.R .none ρ) : WpS c .retn ρ K := ⟨_, rfl, h⟩
theorem w_brk (h : K.B ρ) : WpS c .brk ρ K := ⟨_, rfl, h⟩
theorem w_cnt (h : K.C ρ) : WpS c .cnt ρ K := ⟨_, rfl, h⟩
theorem w_pas (h : K.N ρ) : WpS c .pas ρ K := ⟨_, rfl, h⟩
theorem w_ife {t : T} {a b : Ss} {z : Bool} (ht : evT c t ρ = some (z, ρ')) (h1 : z = true → Wp c a ρ' K) (h2 : z = false → Wp c b ρ' K) : WpS c (.ife t a b) ρ K := by
  cases z with
  | true =>
    obtain ⟨r, e, h⟩ := h1 rfl
    exact ⟨r, by show (evT c t ρ).bind _ = _; rw [ht]; exact e, h⟩
  | false =>
    obtain ⟨r, e, h⟩ := h2 rfl
    exact ⟨r, by show (evT c t ρ).bind _ = _; rw [ht]; exact e, h⟩
theorem forL_po {f : D → Rho → Option Rs} (I : Nat → Rho → Prop) : ∀ (ds : List D) (k : Nat),
    (∀ i (h : i < ds.length) ρ, I (k + i) ρ → ∃ r, f ds[i] ρ = some r ∧ ({ K with N := I (k + i + 1), C := I (k + i + 1) } : Po).at r) → ∀ ρ, I k ρ →
      ∃ q, forL f ds ρ = some q ∧ ((∃ ρ', q = .nx ρ' ∧ (I (k + ds.length) ρ' ∨ K.B ρ')) ∨ (∃ d ρ', q = .ret d ρ' ∧ K.R d ρ') ∨ ∃ x fs ρ', q = .exn x fs ρ' ∧ K.X x fs ρ')
  | [], k, _, ρ, h => ⟨.nx ρ, rfl, .inl ⟨ρ, rfl, .inl h⟩⟩
  | d :: ds, k, step, ρ, h => by
    obtain ⟨r, e1, h1⟩ := step 0 (Nat.succ_pos _) ρ h
    have e1 : f d ρ = some r := e1
    have go : ∀ ρ1, I (k + 1) ρ1 → ∃ q, forL f ds ρ1 = some q ∧ ((∃ ρ', q = .nx ρ' ∧ (I (k + (d :: ds).length) ρ' ∨ K.B ρ')) ∨ (∃ d ρ', q = .ret d ρ' ∧ K.R d ρ') ∨ ∃ x fs ρ', q = .exn x fs ρ' ∧ K.X x fs ρ') := fun ρ1 h1 => by
      have := forL_po I ds (k + 1) (fun i hi ρ hI => by
        have := step (i + 1) (by simpa using hi) ρ (by rw [show k + (i + 1) = k + 1 + i by omega]; exact hI)
        obtain ⟨r, e, h⟩ := this
        refine ⟨r, by simpa using e, ?_⟩
        rw [show k + 1 + i + 1 = k + (i + 1) + 1 by omega]
        exact h) ρ1 h1
      rw [show k + (d :: ds).length = k + 1 + ds.length by simp; omega]
      exact this
    cases r with
    | nx ρ1 =>
      obtain ⟨q, e2, h2⟩ := go ρ1 h1
      exact ⟨q, by show (f d ρ).bind _ = _; rw [e1]; exact e2, h2⟩
    | cnt ρ1 =>
      obtain ⟨q, e2, h2⟩ := go ρ1 h1
      exact ⟨q, by show (f d ρ).bind _ = _; rw [e1]; exact e2, h2⟩
    | ret x ρ1 => exact ⟨.ret x ρ1, by show (f d ρ).bind _ = _; rw [e1]; rfl, .inr (.inl ⟨x, ρ1, rfl, h1⟩)⟩
    | exn x fs ρ1 => exact ⟨.exn x fs ρ1, by show (f d ρ).bind _ = _; rw [e1]; rfl, .inr (.inr ⟨x, fs, ρ1, rfl, h1⟩)⟩
    | brk ρ1 => exact ⟨.nx ρ1, by show (f d ρ).bind _ = _; rw [e1]; rfl, .inl ⟨ρ1, rfl, .inr h1⟩⟩
/-- for: I by the turn -/
theorem w_for {tg : Tg} {it : Iv} {b : Ss} {ds : List D} {sv : List (Nat × D)} (hi : evI c it ρ = some (ds, ρ', sv)) (I : Nat → Rho → Prop) (h0 : I 0 ρ')
    (step : ∀ i (h : i < ds.length) ρ, I i ρ → ∃ ρ1, tgD tg ds[i] ρ = some ρ1 ∧ Wp c b ρ1 { K with N := I (i + 1), C := I (i + 1), B := fun ρ => ∃ ρ', restD sv ρ = some ρ' ∧ K.N ρ' })
    (fin : ∀ ρ, I ds.length ρ → ∃ ρ', restD sv ρ = some ρ' ∧ K.N ρ') : WpS c (.for tg it b) ρ K := by
  obtain ⟨q, e, a⟩ := forL_po (K := { K with B := fun ρ => ∃ ρ', restD sv ρ = some ρ' ∧ K.N ρ' }) (f := fun d ρ => (tgD tg d ρ).bind fun ρ1 => exSs c b ρ1) I ds 0 (fun i h ρ hI => by
    rw [Nat.zero_add] at hI
    obtain ⟨ρ1, e1, r, e2, h2⟩ := step i h ρ hI
    refine ⟨r, by show (tgD tg ds[i] ρ).bind _ = _; rw [e1]; exact e2, ?_⟩
    rw [Nat.zero_add]
    exact h2) ρ' h0
  rw [Nat.zero_add] at a
  have e0 : exS c (.for tg it b) ρ = rsBack sv q := by
    show (evI c it ρ).bind _ = _
    rw [hi]
    show (forL _ ds ρ').bind _ = _
    rw [e]
    rfl
  rcases a with ⟨ρ1, rfl, a⟩ | ⟨d, ρ1, rfl, a⟩ | ⟨x, fs, ρ1, rfl, a⟩
  · have : ∃ ρ', restD sv ρ1 = some ρ' ∧ K.N ρ' := a.elim (fin ρ1) id
    obtain ⟨ρ2, e2, h2⟩ := this
    exact ⟨.nx ρ2, by rw [e0]; show (restD sv ρ1).map _ = _; rw [e2]; rfl, h2⟩
  · exact ⟨.ret d ρ1, by rw [e0]; rfl, a⟩
  · exact ⟨.exn x fs ρ1, by rw [e0]; rfl, a⟩
/-- while: I by what is left -/
theorem w_wh {t : T} {b : Ss} (I : Nat → Rho → Prop) (n : Nat) (hn : n < c.W) (h0 : I n ρ)
    (step : ∀ n ρ, I n ρ → ∃ z ρ1, evT c t ρ = some (z, ρ1) ∧ (z = false → K.N ρ1) ∧ (z = true → Wp c b ρ1 { K with N := fun ρ => ∃ m, m < n ∧ I m ρ, C := fun ρ => ∃ m, m < n ∧ I m ρ, B := K.N })) : WpS c (.wh t b) ρ K := by
  have go : ∀ (w n : Nat) (ρ : Rho), n < w → I n ρ → ∃ r, whL (fun ρ => evT c t ρ) (fun ρ => exSs c b ρ) w ρ = some r ∧ K.at r := by
    intro w
    induction w with
    | zero => exact fun n ρ h => absurd h (Nat.not_lt_zero _)
    | succ w ih =>
      intro n ρ hw hI
      obtain ⟨z, ρ1, e, f1, f2⟩ := step n ρ hI
      cases z with
      | false => exact ⟨.nx ρ1, by show (evT c t ρ).bind _ = _; rw [e]; rfl, f1 rfl⟩
      | true =>
        obtain ⟨r, e2, h2⟩ := f2 rfl
        cases r with
        | nx ρ2 =>
          obtain ⟨m, hm, hI2⟩ := h2
          obtain ⟨r3, e3, h3⟩ := ih m ρ2 (by omega) hI2
          exact ⟨r3, by show (evT c t ρ).bind _ = _; rw [e]; show (exSs c b ρ1).bind _ = _; rw [e2]; exact e3, h3⟩
        | cnt ρ2 =>
          obtain ⟨m, hm, hI2⟩ := h2
          obtain ⟨r3, e3, h3⟩ := ih m ρ2 (by omega) hI2
          exact ⟨r3, by show (evT c t ρ).bind _ = _; rw [e]; show (exSs c b ρ1).bind _ = _; rw [e2]; exact e3, h3⟩
        | brk ρ2 => exact ⟨.nx ρ2, by show (evT c t ρ).bind _ = _; rw [e]; show (exSs c b ρ1).bind _ = _; rw [e2]; rfl, h2⟩
        | ret d ρ2 => exact ⟨.ret d ρ2, by show (evT c t ρ).bind _ = _; rw [e]; show (exSs c b ρ1).bind _ = _; rw [e2]; rfl, h2⟩
        | exn x fs ρ2 => exact ⟨.exn x fs ρ2, by show (evT c t ρ).bind _ = _; rw [e]; show (exSs c b ρ1).bind _ = _; rw [e2]; rfl, h2⟩
  exact go c.W n ρ hn h0
theorem ev_call {f : Str} {as : As} {ags : List Ag} {ds ds' : List D} (ha : evA c as ρ = some (ags, ρ')) (hd : agsD ρ' ags = some ds) (hf : c.fn f ds = some (d, ds')) (hb : ags.any isBo = false) (hk : backD ags ds' ρ' = some ρ'') : ev c (.call f as) ρ = some (d, ρ'') := by
  show (evA c as ρ).bind _ = _
  rw [ha]
  show (agsD ρ' ags).bind _ = _
  rw [hd]
  show (c.fn f ds).bind _ = _
  rw [hf]
  show (if ags.any isBo = true then _ else _) = _
  rw [if_neg (by rw [hb]; exact Bool.false_ne_true)]
  show (backD ags ds' ρ').map _ = _
  rw [hk]
  rfl
theorem ev_comp {elt : E} {tg : Tg} {it : Iv} {cd : Ot} {ws : List Nat} {ds : List D} {sv : List (Nat × D)} (hi : evI c it ρ = some (ds, ρ', sv)) (I : List D → Nat → Rho → Prop) (h0 : I [] 0 (wipeD ρ' ws))
    (step : ∀ i (h : i < ds.length) acc ρ, I acc i ρ → ∃ ρ1 z ρ2, tgD tg ds[i] ρ = some ρ1 ∧ evC c cd ρ1 = some (z, ρ2) ∧ (z = false → I acc (i + 1) (wipeD ρ2 ws)) ∧ (z = true → ∃ x ρ3, ev c elt ρ2 = some (x, ρ3) ∧ I (acc ++ [x]) (i + 1) (wipeD ρ3 ws)))
    {Q : D → Rho → Prop} (fin : ∀ out ρ, I out ds.length ρ → out.length ≤ 16777216 ∧ ∃ ρ', restD sv ρ = some ρ' ∧ Q (.list out) ρ') : ∃ d ρ', ev c (.comp elt tg it cd ws) ρ = some (d, ρ') ∧ Q d ρ' := by
  obtain ⟨out, ρ2, e, hI⟩ := comp_rule (ds := ds) (f := fun d ρ => (tgD tg d ρ).bind fun ρ1 => (evC c cd ρ1).bind fun b =>
      if b.1 = true then (ev c elt b.2).map fun q => (some q.1, wipeD q.2 ws) else some (none, wipeD b.2 ws)) I (fun i h acc ρ hI => by
    obtain ⟨ρ1, z, ρ2, e1, e2, f1, f2⟩ := step i h acc ρ hI
    cases z with
    | false =>
      refine ⟨(none, wipeD ρ2 ws), by show (tgD tg ds[i] ρ).bind _ = _; rw [e1]; show (evC c cd ρ1).bind _ = _; rw [e2]; rfl, ?_⟩
      show I (acc ++ []) _ _
      rw [List.append_nil]
      exact f1 rfl
    | true =>
      obtain ⟨x, ρ3, e3, h3⟩ := f2 rfl
      exact ⟨(some x, wipeD ρ3 ws), by show (tgD tg ds[i] ρ).bind _ = _; rw [e1]; show (evC c cd ρ1).bind _ = _; rw [e2]; show (ev c elt ρ2).map _ = _; rw [e3]; rfl, h3⟩) h0
  obtain ⟨hl, ρ3, e3, q⟩ := fin out ρ2 hI
  refine ⟨.list out, ρ3, ?_, q⟩
  show (evI c it ρ).bind _ = _
  rw [hi]
  show (compL _ ds (wipeD ρ' ws)).bind _ = _
  rw [e]
  show (if lenOk out.length = true then _ else _) = _
  rw [if_pos (lenOk_le hl)]
  show (restD sv ρ2).map _ = _
  rw [e3]
  rfl
end
theorem fn_rule {c : Cf} {ps : List Ty} {n : Nat} {b : Ss} {ds : List D} {Q : D → List D → Prop} (h : Wp c b (ds.map some ++ List.replicate (n - ds.length) none) ⟨fun ρ => ∃ o, fout ps ds ρ = some o ∧ Q .none o, fun d ρ => ∃ o, fout ps ds ρ = some o ∧ Q d o, fun _ => False, fun _ => False, fun _ _ _ => False⟩) : ∃ d o, evF c ps n b ds = some (d, o) ∧ Q d o := by
  obtain ⟨r, e, h⟩ := h
  cases r with
  | nx ρ =>
    obtain ⟨o, e2, q⟩ := h
    exact ⟨.none, o, by unfold evF; rw [e]; show (fout ps ds ρ).map _ = _; rw [e2]; rfl, q⟩
  | ret d ρ =>
    obtain ⟨o, e2, q⟩ := h
    exact ⟨d, o, by unfold evF; rw [e]; show (fout ps ds ρ).map _ = _; rw [e2]; rfl, q⟩
  | brk ρ => exact h.elim
  | cnt ρ => exact h.elim
  | exn x fs ρ => exact h.elim
/-- a def that may raise -/
theorem fx_rule {c : Cf} {ps : List Ty} {n : Nat} {b : Ss} {ds : List D} {Q : Xr → Prop} (h : Wp c b (ds.map some ++ List.replicate (n - ds.length) none) ⟨fun ρ => ∃ o, fout ps ds ρ = some o ∧ Q (.ret .none o), fun d ρ => ∃ o, fout ps ds ρ = some o ∧ Q (.ret d o), fun _ => False, fun _ => False, fun x fs _ => Q (.exn x fs)⟩) : ∃ r, evX c ps n b ds = some r ∧ Q r := by
  obtain ⟨r, e, h⟩ := h
  cases r with
  | nx ρ =>
    obtain ⟨o, e2, q⟩ := h
    exact ⟨_, by unfold evX; rw [e]; show (fout ps ds ρ).map _ = _; rw [e2]; rfl, q⟩
  | ret d ρ =>
    obtain ⟨o, e2, q⟩ := h
    exact ⟨_, by unfold evX; rw [e]; show (fout ps ds ρ).map _ = _; rw [e2]; rfl, q⟩
  | brk ρ => exact h.elim
  | cnt ρ => exact h.elim
  | exn x fs ρ => exact ⟨_, by unfold evX; rw [e]; rfl, h⟩
section
variable {c : Cf} {ρ ρ' : Rho} {K : Po} {es : Es} {ds : List D} {f : Str}
theorem w_rse {x : Str} {ns : List Str} (he : evs c es ρ = some (ds, ρ')) (hl : ns.length = ds.length) (h : K.X x (ns.zip ds) ρ') : WpS c (.rse x ns es) ρ K :=
  ⟨.exn x (ns.zip ds) ρ', by show (evs c es ρ).bind _ = _; rw [he]; exact if_pos hl, h⟩
/-- what is behind a call -/
def XK (K : Po) (ρ : Rho) (k : D → Prop) : Xr → Prop
  | .ret d _ => k d
  | .exn x fs => K.X x fs ρ
theorem w_cx {r : Xr} (he : evs c es ρ = some (ds, ρ')) (hf : c.fx f ds = some r) (h : XK K ρ' (fun _ => K.N ρ') r) : WpS c (.cx f es) ρ K := by
  cases r with
  | ret d o => exact ⟨.nx ρ', by show (evs c es ρ).bind _ = _; rw [he]; show (c.fx f ds).bind _ = _; rw [hf]; rfl, h⟩
  | exn x fs => exact ⟨.exn x fs ρ', by show (evs c es ρ).bind _ = _; rw [he]; show (c.fx f ds).bind _ = _; rw [hf]; rfl, h⟩
theorem w_rtx {r : Xr} (he : evs c es ρ = some (ds, ρ')) (hf : c.fx f ds = some r) (h : XK K ρ' (fun d => K.R d ρ') r) : WpS c (.rtx f es) ρ K := by
  cases r with
  | ret d o => exact ⟨.ret d ρ', by show (evs c es ρ).bind _ = _; rw [he]; show (c.fx f ds).bind _ = _; rw [hf]; rfl, h⟩
  | exn x fs => exact ⟨.exn x fs ρ', by show (evs c es ρ).bind _ = _; rw [he]; show (c.fx f ds).bind _ = _; rw [hf]; rfl, h⟩
theorem w_sx {i : Nat} {r : Xr} (he : evs c es ρ = some (ds, ρ')) (hf : c.fx f ds = some r) (h : XK K ρ' (fun d => K.N (put ρ' i d)) r) : WpS c (.sx i f es) ρ K := by
  cases r with
  | ret d o => exact ⟨.nx (put ρ' i d), by show (evs c es ρ).bind _ = _; rw [he]; show (c.fx f ds).bind _ = _; rw [hf]; rfl, h⟩
  | exn x fs => exact ⟨.exn x fs ρ', by show (evs c es ρ).bind _ = _; rw [he]; show (c.fx f ds).bind _ = _; rw [hf]; rfl, h⟩
theorem w_ifx {ng : Bool} {a b : Ss} {r : Xr} (he : evs c es ρ = some (ds, ρ')) (hf : c.fx f ds = some r) (h : XK K ρ' (fun d => ((isNone d != ng) = true → Wp c a ρ' K) ∧ ((isNone d != ng) = false → Wp c b ρ' K)) r) : WpS c (.ifx ng f es a b) ρ K := by
  cases r with
  | ret d o =>
    obtain ⟨h1, h2⟩ := h
    cases hd : (isNone d != ng) with
    | true =>
      obtain ⟨q, e, h⟩ := h1 hd
      exact ⟨q, by show (evs c es ρ).bind _ = _; rw [he]; show (c.fx f ds).bind _ = _; rw [hf]; exact (if_pos hd).trans e, h⟩
    | false =>
      obtain ⟨q, e, h⟩ := h2 hd
      exact ⟨q, by show (evs c es ρ).bind _ = _; rw [he]; show (c.fx f ds).bind _ = _; rw [hf]; exact (if_neg (by rw [hd]; exact Bool.false_ne_true)).trans e, h⟩
  | exn x fs => exact ⟨.exn x fs ρ', by show (evs c es ρ).bind _ = _; rw [he]; show (c.fx f ds).bind _ = _; rw [hf]; rfl, h⟩
/-- try: what the suite tells of the exception -/
theorem w_tr {b : Ss} {x : Str} {i : Nat} {g : Hs} (h : Wp c b ρ { K with X := fun y fs ρ => y = x ∧ i < ρ.length ∧ ∃ d, hsD y fs (ρ.set i none) g = some d ∧ K.R d (ρ.set i none) }) : WpS c (.tr b x i g) ρ K := by
  obtain ⟨r, e, h⟩ := h
  cases r with
  | nx ρ1 => exact ⟨.nx ρ1, by show (exSs c b ρ).bind _ = _; rw [e]; rfl, h⟩
  | ret d ρ1 => exact ⟨.ret d ρ1, by show (exSs c b ρ).bind _ = _; rw [e]; rfl, h⟩
  | brk ρ1 => exact ⟨.brk ρ1, by show (exSs c b ρ).bind _ = _; rw [e]; rfl, h⟩
  | cnt ρ1 => exact ⟨.cnt ρ1, by show (exSs c b ρ).bind _ = _; rw [e]; rfl, h⟩
  | exn y fs ρ1 =>
    obtain ⟨h1, h2, d, h3, h4⟩ := h
    exact ⟨.ret d (ρ1.set i none), by show (exSs c b ρ).bind _ = _; rw [e]; exact (if_pos ⟨h1, h2⟩).trans (by rw [h3]; rfl), h4⟩
end
end Vw
namespace Vw
open PySem PySem.Spec PyProof.Rows L2
section
variable {c : Cf} {ρ ρ1 ρ2 ρ3 : Rho} {x y z d : D} {a b e : E}
theorem r_neg {i : Int} (ha : ev c a ρ = some (.int i, ρ1)) : ev c (.neg a) ρ = some (.int (-i), ρ1) := by
  show (ev c a ρ).bind _ = _
  rw [ha]
  rfl
theorem r_ar {o : Ar} (ha : ev c a ρ = some (x, ρ1)) (hb : ev c b ρ1 = some (y, ρ2)) (h : arD o x y = some d) : ev c (.ar o a b) ρ = some (d, ρ2) := by
  show (ev c a ρ).bind _ = _
  rw [ha]
  show (ev c b ρ1).bind _ = _
  rw [hb]
  show (arD o x y).map _ = _
  rw [h]
  rfl
theorem r_cm {o : Cm} {i j : Int} (ha : ev c a ρ = some (.int i, ρ1)) (hb : ev c b ρ1 = some (.int j, ρ2)) : ev c (.cm o a b) ρ = some (.bool (cmI o i j), ρ2) := by
  show (ev c a ρ).bind _ = _
  rw [ha]
  show (ev c b ρ1).bind _ = _
  rw [hb]
  rfl
theorem r_eq {ng : Bool} (ha : ev c a ρ = some (x, ρ1)) (hb : ev c b ρ1 = some (y, ρ2)) (h1 : SeqAt.shaped x = true) (h2 : SeqAt.shaped y = true) : ev c (.eq ng a b) ρ = some (.bool (PyData.eqv x y != ng), ρ2) := by
  show (ev c a ρ).bind _ = _
  rw [ha]
  show (ev c b ρ1).bind _ = _
  rw [hb]
  show (eqD ng x y).map _ = _
  unfold eqD
  rw [if_pos ⟨h1, h2⟩]
  rfl
theorem r_isn {ng : Bool} (ha : ev c a ρ = some (x, ρ1)) : ev c (.isn ng a) ρ = some (.bool (isNone x != ng), ρ1) := by
  show (ev c a ρ).map _ = _
  rw [ha]
  rfl
theorem r_ind {ng : Bool} {l : List D} (ha : ev c a ρ = some (x, ρ1)) (hb : ev c b ρ1 = some (.list l, ρ2)) (h1 : SeqAt.shaped x = true) (h2 : SeqAt.shaped (.list l) = true) : ev c (.ind ng a b) ρ = some (.bool (l.any (fun e => PyData.eqv e x) != ng), ρ2) := by
  show (ev c a ρ).bind _ = _
  rw [ha]
  show (ev c b ρ1).bind _ = _
  rw [hb]
  show (if _ then _ else _ : Option D).map _ = _
  rw [if_pos ⟨h1, h2⟩]
  rfl
theorem r_inn {ng : Bool} {o : O} {l : List D} (ha : ev c a ρ = some (x, ρ1)) (hb : evO c o ρ1 = some (y, ρ2)) (hs : seqD y = some l) (h1 : flatD x = true) (h2 : l.all flatD = true) : ev c (.inn ng a o) ρ = some (.bool (l.any (fun e => PyData.eqv e x) != ng), ρ2) := by
  show (ev c a ρ).bind _ = _
  rw [ha]
  show (evO c o ρ1).bind _ = _
  rw [hb]
  show (innD ng x y).map _ = _
  unfold innD
  rw [hs]
  show (if _ then _ else _ : Option D).map _ = _
  rw [if_pos ⟨h1, h2⟩]
  rfl
theorem r_ife {t : T} {v : Bool} (ht : evT c t ρ = some (v, ρ1)) (h1 : v = true → ev c a ρ1 = some (d, ρ2)) (h2 : v = false → ev c b ρ1 = some (d, ρ2)) : ev c (.ife t a b) ρ = some (d, ρ2) := by
  show (evT c t ρ).bind _ = _
  rw [ht]
  cases v with
  | true => exact h1 rfl
  | false => exact h2 rfl
theorem r_nil : evs c .nil ρ = some ([], ρ) := rfl
theorem r_cons {es : Es} {ds : List D} (ha : ev c a ρ = some (x, ρ1)) (hb : evs c es ρ1 = some (ds, ρ2)) : evs c (.cons a es) ρ = some (x :: ds, ρ2) := by
  show (ev c a ρ).bind _ = _
  rw [ha]
  show (evs c es ρ1).map _ = _
  rw [hb]
  rfl
theorem r_tup {es : Es} {ds : List D} (h : evs c es ρ = some (ds, ρ1)) (hl : lenOk ds.length = true := by rfl) : ev c (.tup es) ρ = some (.tuple ds, ρ1) := by
  show (evs c es ρ).bind _ = _
  rw [h]
  exact if_pos hl
theorem r_lst {es : Es} {ds : List D} (h : evs c es ρ = some (ds, ρ1)) (hl : lenOk ds.length = true := by rfl) : ev c (.lst es) ρ = some (.list ds, ρ1) := by
  show (evs c es ρ).bind _ = _
  rw [h]
  exact if_pos hl
theorem r_oe (h : ev c a ρ = some (x, ρ1)) : evO c (.e a) ρ = some (x, ρ1) := h
theorem r_ix {o : O} (ha : evO c o ρ = some (x, ρ1)) (hb : ev c b ρ1 = some (y, ρ2)) (hl : lateD c o x ρ2 = some z) (h : ixD z y = some d) : ev c (.ix o b) ρ = some (d, ρ2) := by
  show (evO c o ρ).bind _ = _
  rw [ha]
  show (ev c b ρ1).bind _ = _
  rw [hb]
  show (lateD c o x ρ2).bind _ = _
  rw [hl]
  show (ixD z y).map _ = _
  rw [h]
  rfl
theorem r_b1 {f : B1} {o : O} (ha : evO c o ρ = some (x, ρ1)) (h : b1D f x = some d) : ev c (.b1 f o) ρ = some (d, ρ1) := by
  show (evO c o ρ).bind _ = _
  rw [ha]
  show (b1D f x).map _ = _
  rw [h]
  rfl
theorem r_b2 {f : B2} (ha : ev c a ρ = some (x, ρ1)) (hb : ev c b ρ1 = some (y, ρ2)) (h : b2D f x y = some d) : ev c (.b2 f a b) ρ = some (d, ρ2) := by
  show (ev c a ρ).bind _ = _
  rw [ha]
  show (ev c b ρ1).bind _ = _
  rw [hb]
  show (b2D f x y).map _ = _
  rw [h]
  rfl
theorem r_lcat {o o2 : O} (ha : evO c o ρ = some (x, ρ1)) (hb : evO c o2 ρ1 = some (y, ρ2)) (hl : lateD c o x ρ2 = some z) (h : lcatD z y = some d) : ev c (.lcat o o2) ρ = some (d, ρ2) := by
  show (evO c o ρ).bind _ = _
  rw [ha]
  show (evO c o2 ρ1).bind _ = _
  rw [hb]
  show (lateD c o x ρ2).bind _ = _
  rw [hl]
  show (lcatD z y).map _ = _
  rw [h]
  rfl
theorem r_popat {i : Nat} {l l0 : List D} {j : Int} {k : Nat} (h0 : Vw.get ρ i = some (.list l0)) (ha : ev c a ρ = some (.int j, ρ1)) (h1 : Vw.get ρ1 i = some (.list l)) (hj : -(2 ^ 63) ≤ j ∧ j < 2 ^ 63) (hk : seqIndex? j l.length = some k) (hd : l[k]? = some d) : ev c (.popat i a) ρ = some (d, put ρ1 i (.list (l.eraseIdx k))) := by
  show (Vw.get ρ i).bind _ = _
  rw [h0]
  show (ev c a ρ).bind _ = _
  rw [ha]
  show (Vw.get ρ1 i).bind _ = _
  rw [h1]
  show (if _ then _ else _ : Option (D × Rho)) = _
  rw [if_pos hj]
  show (seqIndex? j l.length).bind _ = _
  rw [hk]
  show (l[k]?).map _ = _
  rw [hd]
  rfl
theorem t_e' {v : Bool} (ha : ev c a ρ = some (x, ρ1)) (h : truD x = some v) : evT c (.e a) ρ = some (v, ρ1) := by
  show (ev c a ρ).bind _ = _
  rw [ha]
  show (truD x).map _ = _
  rw [h]
  rfl
theorem t_b {v : Bool} (ha : ev c a ρ = some (.bool v, ρ1)) : evT c (.e a) ρ = some (v, ρ1) := t_e' ha rfl
theorem t_no' {t : T} {v : Bool} (h : evT c t ρ = some (v, ρ1)) : evT c (.no t) ρ = some (!v, ρ1) := by
  show (evT c t ρ).map _ = _
  rw [h]
  rfl
theorem t_an {t u : T} {v w : Bool} (h : evT c t ρ = some (v, ρ1)) (h0 : v = false → w = false ∧ ρ2 = ρ1) (h1 : v = true → evT c u ρ1 = some (w, ρ2)) : evT c (.an t u) ρ = some (w, ρ2) := by
  show (evT c t ρ).bind _ = _
  rw [h]
  cases v with
  | true => exact h1 rfl
  | false =>
    obtain ⟨rfl, rfl⟩ := h0 rfl
    rfl
theorem t_or {t u : T} {v w : Bool} (h : evT c t ρ = some (v, ρ1)) (h0 : v = true → w = true ∧ ρ2 = ρ1) (h1 : v = false → evT c u ρ1 = some (w, ρ2)) : evT c (.orr t u) ρ = some (w, ρ2) := by
  show (evT c t ρ).bind _ = _
  rw [h]
  cases v with
  | false => exact h1 rfl
  | true =>
    obtain ⟨rfl, rfl⟩ := h0 rfl
    rfl
/-- both sides known -/
theorem t_an2 {t u : T} {v w : Bool} (h : evT c t ρ = some (v, ρ)) (h1 : v = true → evT c u ρ = some (w, ρ)) : evT c (.an t u) ρ = some (v && w, ρ) := by
  refine t_an h (fun e => by rw [e]; exact ⟨rfl, rfl⟩) fun e => ?_
  rw [e, Bool.true_and]
  exact h1 e
theorem t_or2 {t u : T} {v w : Bool} (h : evT c t ρ = some (v, ρ)) (h1 : v = false → evT c u ρ = some (w, ρ)) : evT c (.orr t u) ρ = some (v || w, ρ) := by
  refine t_or h (fun e => by rw [e]; exact ⟨rfl, rfl⟩) fun e => ?_
  rw [e, Bool.false_or]
  exact h1 e
/-- a call whose arguments are all shared -/
theorem r_call {f : Str} {as : As} {ags : List Ag} {ds ds' : List D} (ha : evA c as ρ = some (ags, ρ1)) (hd : agsD ρ1 ags = some ds) (hf : c.fn f ds = some (d, ds')) (hb : ags.any isBo = false) (hk : backD ags ds' ρ1 = some ρ2) : ev c (.call f as) ρ = some (d, ρ2) := ev_call ha hd hf hb hk
theorem a_n : evA c .nil ρ = some ([], ρ) := rfl
theorem a_f {as : As} {ags : List Ag} (ha : ev c a ρ = some (x, ρ1)) (hb : evA c as ρ1 = some (ags, ρ2)) : evA c (.fr a as) ρ = some (.d x :: ags, ρ2) := by
  show (ev c a ρ).bind _ = _
  rw [ha]
  show (evA c as ρ1).map _ = _
  rw [hb]
  rfl
theorem a_i {i : Nat} {as : As} {ags : List Ag} (h : Vw.get ρ i = some x) (hb : evA c as ρ = some (ags, ρ2)) : evA c (.io i as) ρ = some (.io i :: ags, ρ2) := by
  show (Vw.get ρ i).bind _ = _
  rw [h]
  show (evA c as ρ).map _ = _
  rw [hb]
  rfl
theorem i_r1 {j : Int} (ha : ev c a ρ = some (.int j, ρ1)) (h : inR j = true) : evI c (.r1 a) ρ = some (rngD 0 j.toNat, ρ1, []) := by
  show (ev c a ρ).bind _ = _
  rw [ha]
  exact if_pos h
theorem i_r2 {i j : Int} (ha : ev c a ρ = some (.int i, ρ1)) (hb : ev c b ρ1 = some (.int j, ρ2)) (h : inR i = true ∧ inR j = true) : evI c (.r2 a b) ρ = some (rngD i (j - i).toNat, ρ2, []) := by
  show (ev c a ρ).bind _ = _
  rw [ha]
  show (ev c b ρ1).bind _ = _
  rw [hb]
  exact if_pos h
theorem i_o {l : List D} (ha : ev c a ρ = some (x, ρ1)) (h : seqD x = some l) : evI c (.o (.e a)) ρ = some (l, ρ1, []) := by
  show ((ev c a ρ).map _).bind _ = _
  rw [ha]
  show (seqD x).map _ = _
  rw [h]
  rfl
end
theorem rng_len {lo : Int} {n : Nat} : (rngD lo n).length = n := by simp [rngD]
theorem rng_at {lo : Int} {n i : Nat} (h : i < (rngD lo n).length) : (rngD lo n)[i] = .int (lo + i) := by simp [rngD]
theorem inR_small {j : Int} (h0 : -1000000000 ≤ j) (h1 : j ≤ 1000000000) : inR j = true := decide_eq_true ⟨by omega, by omega⟩
@[simp] theorem bneF {b : Bool} : (b != false) = b := by cases b <;> rfl
@[simp] theorem bneT {b : Bool} : (b != true) = !b := by cases b <;> rfl
theorem eq_of {α β : Type} {o : Option (α × β)} {x : α} {y : β} (h : ∃ d o', o = some (d, o') ∧ d = x ∧ o' = y) : o = some (x, y) := by
  obtain ⟨d, o', e, rfl, rfl⟩ := h
  exact e
theorem lenOkS {n : Nat} (h : n ≤ 16777216) : lenOk n = true := decide_eq_true h
/-! shaped data -/
theorem canAll {l : List D} (h : ∀ d ∈ l, PyData.canLay0 d = true) : PyData.canLayAll0 l = true := by
  induction l with
  | nil => rfl
  | cons x r ih =>
    show (PyData.canLay0 x && PyData.canLayAll0 r) = true
    rw [h x List.mem_cons_self, ih fun d hd => h d (List.mem_cons_of_mem _ hd)]
    rfl
end Vw
namespace Vw
open PySem PySem.Spec PyProof.Rows L2
section
variable {c : Cf} {ρ ρ1 ρ2 ρ3 ρ' ρ0 : Rho} {x y z d : D} {a b e : E}
theorem r_an {v : Bool} (ha : ev c a ρ = some (.bool v, ρ1)) (h0 : v = false → d = .bool false ∧ ρ2 = ρ1) (h1 : v = true → ev c b ρ1 = some (d, ρ2)) : ev c (.an a b) ρ = some (d, ρ2) := by
  show (ev c a ρ).bind _ = _
  rw [ha]
  cases v with
  | true => exact h1 rfl
  | false =>
    obtain ⟨rfl, rfl⟩ := h0 rfl
    rfl
theorem r_orr {v : Bool} (ha : ev c a ρ = some (.bool v, ρ1)) (h0 : v = true → d = .bool true ∧ ρ2 = ρ1) (h1 : v = false → ev c b ρ1 = some (d, ρ2)) : ev c (.orr a b) ρ = some (d, ρ2) := by
  show (ev c a ρ).bind _ = _
  rw [ha]
  cases v with
  | false => exact h1 rfl
  | true =>
    obtain ⟨rfl, rfl⟩ := h0 rfl
    rfl
theorem r_an2 {v w : Bool} (ha : ev c a ρ = some (.bool v, ρ)) (h1 : v = true → ev c b ρ = some (.bool w, ρ)) : ev c (.an a b) ρ = some (.bool (v && w), ρ) := by
  refine r_an ha (fun e => by rw [e]; exact ⟨rfl, rfl⟩) fun e => ?_
  rw [e, Bool.true_and]
  exact h1 e
theorem r_orr2 {v w : Bool} (ha : ev c a ρ = some (.bool v, ρ)) (h1 : v = false → ev c b ρ = some (.bool w, ρ)) : ev c (.orr a b) ρ = some (.bool (v || w), ρ) := by
  refine r_orr ha (fun e => by rw [e]; exact ⟨rfl, rfl⟩) fun e => ?_
  rw [e, Bool.false_or]
  exact h1 e
theorem r_ch {o o2 : Cm} {i j k : Int} (ha : ev c a ρ = some (.int i, ρ)) (hb : ev c b ρ = some (.int j, ρ)) (he : ev c e ρ = some (.int k, ρ)) : ev c (.ch o o2 a b e) ρ = some (.bool (cmI o i j && cmI o2 j k), ρ) := by
  show (ev c a ρ).bind _ = _
  rw [ha]
  show (ev c b ρ).bind _ = _
  rw [hb]
  show (if cmI o i j = true then _ else _ : Option (D × Rho)) = _
  cases h : cmI o i j with
  | false => rfl
  | true =>
    rw [if_pos rfl]
    show (ev c e ρ).bind _ = _
    rw [he]
    rfl
theorem r_no {t : T} {v : Bool} (h : evT c t ρ = some (v, ρ1)) : ev c (.no t) ρ = some (.bool (!v), ρ1) := by
  show (evT c t ρ).map _ = _
  rw [h]
  rfl
theorem r_tcat {l m : List D} (ha : ev c a ρ = some (.tuple l, ρ1)) (hb : ev c b ρ1 = some (.tuple m, ρ2)) (h : (l ++ m).length ≤ 16777216) : ev c (.tcat a b) ρ = some (.tuple (l ++ m), ρ2) := by
  show (ev c a ρ).bind _ = _
  rw [ha]
  show (ev c b ρ1).bind _ = _
  rw [hb]
  show (if lenOk (l.length + m.length) = true then some (PyData.tuple (l ++ m)) else none).map _ = _
  rw [List.length_append] at h
  rw [if_pos (lenOkS h)]
  rfl
/-- a comprehension whose parts leave the names as they were -/
theorem comp_filt {elt : E} {tg : Tg} {it : Iv} {cd : Ot} {ws : List Nat} {ds : List D} (hi : evI c it ρ = some (ds, ρ', [])) (p : D → Bool) (f : D → D) (h0 : wipeD ρ' ws = ρ0) (hl : ds.length ≤ 16777216)
    (step : ∀ d ∈ ds, ∃ ρ1 ρ2, tgD tg d ρ0 = some ρ1 ∧ evC c cd ρ1 = some (p d, ρ2) ∧ (p d = false → wipeD ρ2 ws = ρ0) ∧ (p d = true → ∃ ρ3, ev c elt ρ2 = some (f d, ρ3) ∧ wipeD ρ3 ws = ρ0)) :
    ev c (.comp elt tg it cd ws) ρ = some (.list ((ds.filter p).map f), ρ0) := by
  have h : ∃ d ρ', ev c (.comp elt tg it cd ws) ρ = some (d, ρ') ∧ d = .list ((ds.filter p).map f) ∧ ρ' = ρ0 := by
    refine ev_comp hi (fun acc k ρ => acc = ((ds.take k).filter p).map f ∧ ρ = ρ0) ⟨by rw [List.take_zero]; rfl, h0⟩ (fun i hi acc ρ hI => ?_) (Q := fun d ρ' => d = .list ((ds.filter p).map f) ∧ ρ' = ρ0) (fun out ρ hI => ?_)
    · obtain ⟨rfl, rfl⟩ := hI
      obtain ⟨ρ1, ρ2, e1, e2, e3, e4⟩ := step ds[i] (List.getElem_mem hi)
      have et : ds.take (i + 1) = ds.take i ++ [ds[i]] := by
        rw [List.take_add_one, List.getElem?_eq_getElem hi]
        rfl
      refine ⟨ρ1, p ds[i], ρ2, e1, e2, fun z => ⟨?_, e3 z⟩, fun z => ?_⟩
      · rw [et, List.filter_append, List.map_append]
        simp [z]
      · obtain ⟨ρ3, g1, g2⟩ := e4 z
        refine ⟨_, ρ3, g1, ?_, g2⟩
        rw [et, List.filter_append, List.map_append]
        simp [z]
    · obtain ⟨rfl, rfl⟩ := hI
      rw [List.take_length]
      have h9 := List.length_filter_le p ds
      exact ⟨by rw [List.length_map]; omega, _, rfl, rfl, rfl⟩
  obtain ⟨d, ρ2, e, rfl, rfl⟩ := h
  exact e
theorem comp_map {elt : E} {tg : Tg} {it : Iv} {ws : List Nat} {ds : List D} (hi : evI c it ρ = some (ds, ρ', [])) (f : D → D) (h0 : wipeD ρ' ws = ρ0) (hl : ds.length ≤ 16777216)
    (step : ∀ d ∈ ds, ∃ ρ1 ρ3, tgD tg d ρ0 = some ρ1 ∧ ev c elt ρ1 = some (f d, ρ3) ∧ wipeD ρ3 ws = ρ0) :
    ev c (.comp elt tg it .no ws) ρ = some (.list (ds.map f), ρ0) := by
  have := comp_filt (cd := .no) (elt := elt) (tg := tg) hi (fun _ => true) f h0 hl (fun d hd => by
    obtain ⟨ρ1, ρ3, e1, e2, e3⟩ := step d hd
    exact ⟨ρ1, ρ1, e1, rfl, (fun z => nomatch z), fun _ => ⟨ρ3, e2, e3⟩⟩)
  rwa [List.filter_eq_self.mpr (fun _ _ => rfl)] at this
theorem slc_b {l : List D} {i : Int} {o : O} {e : E} (ho : evO c o ρ = some (x, ρ1)) (hi : ev c e ρ1 = some (.int i, ρ2)) (hl : lateD c o x ρ2 = some z) (h : slcD z none (some i) = some d) : ev c (.slc o .no (.so e)) ρ = some (d, ρ2) := by
  show (evO c o ρ).bind _ = _
  rw [ho]
  show ((ev c e ρ1).bind _).bind _ = _
  rw [hi]
  show (lateD c o x ρ2).bind _ = _
  rw [hl]
  show (slcD z none (some i)).map _ = _
  rw [h]
  rfl
theorem slc_a {l : List D} {i : Int} {o : O} {e : E} (ho : evO c o ρ = some (x, ρ1)) (hi : ev c e ρ1 = some (.int i, ρ2)) (hl : lateD c o x ρ2 = some z) (h : slcD z (some i) none = some d) : ev c (.slc o (.so e) .no) ρ = some (d, ρ2) := by
  show (evO c o ρ).bind _ = _
  rw [ho]
  show ((ev c e ρ1).bind _).bind _ = _
  rw [hi]
  show (lateD c o x ρ2).bind _ = _
  rw [hl]
  show (slcD z (some i) none).map _ = _
  rw [h]
  rfl
end
theorem cut_b {l : List D} (k : Nat) : cutD l none (some (k : Int)) = l.take k := by
  unfold cutD
  rw [HT.sIx_none, HT.sIx_nat, List.drop_zero, Nat.sub_zero]
  by_cases h : k ≤ l.length
  · rw [Nat.min_eq_left h]
  · rw [Nat.min_eq_right (by omega), List.take_of_length_le (Nat.le_refl _), List.take_of_length_le (by omega)]
theorem cut_a {l : List D} (k : Nat) : cutD l (some (k : Int)) none = l.drop k := by
  unfold cutD
  rw [HT.sIx_none, HT.sIx_nat]
  by_cases h : k ≤ l.length
  · rw [Nat.min_eq_left h, List.take_of_length_le (by rw [List.length_drop]; omega)]
  · rw [Nat.min_eq_right (by omega), Nat.sub_self, List.take_zero, List.drop_eq_nil_of_le (by omega)]
section
variable {c : Cf} {ρ ρ1 ρ2 : Rho} {d : D}
/-- a call, its def by name -/
theorem r_callf {f : Str} {g : List D → Option (D × List D)} {as : As} {ags : List Ag} {ds ds' : List D} (hc : c.fn f = g) (hf : g ds = some (d, ds')) (ha : evA c as ρ = some (ags, ρ1)) (hd : agsD ρ1 ags = some ds) (hb : ags.any isBo = false) (hk : backD ags ds' ρ1 = some ρ2) : ev c (.call f as) ρ = some (d, ρ2) :=
  ev_call ha hd (by rw [hc]; exact hf) hb hk
end
/-! ### data that == may look at -/
def Sh (k : Nat) (d : D) : Prop := PyData.canLay0 d = true ∧ PyData.depth d ≤ k
theorem sh_int {k : Nat} (i : Int) : Sh k (.int i) := ⟨rfl, Nat.zero_le _⟩
theorem sh_bool {k : Nat} (b : Bool) : Sh k (.bool b) := ⟨rfl, Nat.zero_le _⟩
theorem sh_none {k : Nat} : Sh k .none := ⟨rfl, Nat.zero_le _⟩
theorem sh_str {k : Nat} {x : Str} (h : PyData.canLay0 (.str x) = true) : Sh k (.str x) := ⟨h, Nat.zero_le _⟩
theorem Sh.mono {k m : Nat} {d : D} (h : Sh k d) (l : k ≤ m) : Sh m d := ⟨h.1, Nat.le_trans h.2 l⟩
theorem sh_all {k : Nat} : ∀ {l : List D}, (∀ d ∈ l, Sh k d) → PyData.canLayAll0 l = true ∧ PyData.depthAll l ≤ k
  | [], _ => ⟨rfl, Nat.zero_le _⟩
  | x :: r, h => by
    obtain ⟨h1, h2⟩ := sh_all (l := r) fun d hd => h d (List.mem_cons_of_mem _ hd)
    obtain ⟨g1, g2⟩ := h x List.mem_cons_self
    refine ⟨?_, ?_⟩
    · show (PyData.canLay0 x && PyData.canLayAll0 r) = true
      rw [g1, h1]
      rfl
    · show max (PyData.depth x) (PyData.depthAll r) ≤ k
      omega
theorem sh_list {k : Nat} {l : List D} (h : ∀ d ∈ l, Sh k d) : Sh (k + 1) (.list l) := by
  obtain ⟨h1, h2⟩ := sh_all h
  exact ⟨h1, Nat.succ_le_succ h2⟩
theorem sh_tup {k : Nat} {l : List D} (h : ∀ d ∈ l, Sh k d) : Sh (k + 1) (.tuple l) := by
  obtain ⟨h1, h2⟩ := sh_all h
  exact ⟨h1, Nat.succ_le_succ h2⟩
theorem sh_map {α : Type} {k : Nat} {f : α → D} {l : List α} (h : ∀ x, Sh k (f x)) : ∀ d ∈ l.map f, Sh k d := fun d hd => by
  obtain ⟨x, _, rfl⟩ := List.mem_map.mp hd
  exact h x
theorem sh_nil {k : Nat} : ∀ d ∈ ([] : List D), Sh k d := fun d hd => nomatch hd
theorem sh_cons {k : Nat} {x : D} {l : List D} (h : Sh k x) (t : ∀ d ∈ l, Sh k d) : ∀ d ∈ x :: l, Sh k d := fun d hd => by
  rcases List.mem_cons.mp hd with rfl | hd
  · exact h
  · exact t d hd
theorem Sh.ok {k : Nat} {d : D} (h : Sh k d) (l : k ≤ 64 := by decide) : SeqAt.shaped d = true := by
  unfold SeqAt.shaped
  rw [Bool.and_eq_true]
  exact ⟨h.1, decide_eq_true (Nat.le_trans h.2 l)⟩
end Vw
namespace Lw_k40
open PySem PySem.Spec PyProof.Rows L2 Vw
def topS (i : Nat) : Stmt := PySem.Challenge.pw_brackenway_k40_terrains_and_walks.main.body.getD i (.Pass ⟨0, 0, 0, 0⟩)
def cin (i : Nat) : Stmt := match topS i with
  | .ClassDef _ _ _ (st :: _) _ _ _ _ _ _ _ => st
  | s => s
section
variable {P : Program} {w : World} {K : PySem.W.Frag} {mg : Str → Option Value} {base : Heap}
/-! _law_state(script): {} -/
def nm__law_state : List Str := [(PySem.Str.ofString "script"), (PySem.Str.ofString "seed"), (PySem.Str.ofString "cell")]
theorem sc__law_state : FnScope nm__law_state [(PySem.Str.ofString "script")] (defScope (topS 15)) := ⟨rfl, rfl, rfl, by decide +kernel, rfl, by decide +kernel, by decide +kernel⟩
def sg__law_state : Sig := ⟨[.fro], (.lst (.lst .fro))⟩
def ir__law_state : Ss := (.cons (.set 1 (.k (.int 7))) (.cons (.for (.n 2) (.o (.e (.v 0))) (.cons (.set 1 (.ar .mod (.b1 .int (.e (.ar .add (.ar .mul (.v 1) (.k (.int 31))) (.v 2)))) (.k (.int 1000003)))) .nil)) (.cons (.ret (.lst (.cons (.comp (.b1 .abs (.e (.v 2))) (.n 2) (.o (.e (.v 0))) .no [2]) (.cons (.ar .add (.v 1) (.k (.int 1))) .nil)))) .nil)))
def fx__law_state (Φ : Cf) : List D → Option (D × List D) := evF Φ sg__law_state.ps 3 ir__law_state
theorem ok__law_state {Φ : Cf} {f : Addr} {fd : FuncData} {k : Nat} (F : Fun K (PySem.Str.ofString "_law_state") (PySem.Str.ofString "_law_state") (topS 15) f fd) (hbl : ∀ x, x ∈ blAll → mg x = none) :
    FnOk P w K mg base CX0 (k + 1) f fd [(PySem.Str.ofString "script")] (spI K sg__law_state (fx__law_state Φ)) :=
  fn_sound F sc__law_state sg__law_state [.fro, .fro] ir__law_state (by decide +kernel) hbl [] (by simp) fun X gd hc hx hk wx gx fr hp =>
    (ss_cons (k_set gd hp 1 .fro k_i (by decide +kernel))
    (ss_cons (k_for gd hp [] (it_o (w_e (k_v gd 0 (by decide +kernel)))) (fun fr1 hp1 => (k_gn gd hp1 2 (by decide +kernel))) (fun fr1 hp1 => (ss_cons (k_set gd hp1 1 .fro (e_ar .mod (k_b1 gd .int (o_e (e_ar .add (e_ar .mul (k_v gd 1 (by decide +kernel)) k_i) (k_v gd 2 (by decide +kernel)))) (by decide +kernel)) k_i) (by decide +kernel))
    ss_nil)) (by decide +kernel))
    (ss_cons (s_ret (e_lst (t := (.lst .fro)) (.inl rfl) (as_cons (k_comp gd hp [] [(PySem.Str.ofString "cell", 2)] (t := .fro) (.inl rfl) (by decide +kernel) (it_o (w_e (k_v gd 0 (by decide +kernel)))) (fun _ gd2 cv2 fr2 hp2 => (k_gn gd2 hp2 2 (by decide +kernel))) (fun _ gd2 cv2 => pc_no) (fun _ gd2 cv2 fr2 hp2 => (k_b1 gd2 .abs (o_e (k_v gd2 2 (by decide +kernel))) (by decide +kernel)))) (as_cons (e_ar .add (k_v gd 1 (by decide +kernel)) k_i) as_nil rfl) rfl)))
    ss_nil)))

abbrev sg__law_draw : Sig := sgA
theorem sc__law_draw : FnScope nmA ["state", "many"] (defScope (topS 16)) := ⟨rfl, rfl, rfl, by decide +kernel, rfl, by decide +kernel, by decide +kernel⟩
theorem ok__law_draw {f : Addr} {fd : FuncData} {k : Nat} (F : Fun K "_law_draw" "_law_draw" (topS 16) f fd) (hbl : ∀ x, x ∈ blAll → mg x = none) :
    FnOk P w K mg base CX0 (k + 1) f fd ["state", "many"] (spI K sgA fxDrawA) := by
  refine F.ok sc__law_draw (fun vs H Q E h => (spI_len h).trans rfl) (fun cdv A outer s H vs Q E hr h => ?_)
  have ml : mg "len" = none := hbl _ (by decide +kernel)
  have mi : mg "int" = none := hbl _ (by decide +kernel)
  obtain ⟨a, c, ns, s0, m, rfl, m1, m2, hac, hA, hC, fin⟩ := drawA_in h
  refine ⟨_, pss_cons (ps_set (i := 2) sc__law_draw.nd rfl (.inl rfl) (pe_ix ix_list (pv 0) pe_int (fun _ _ => rfl)))
    (pss_cons (ps_while PassesOwn.never (PW.pt (pw_and (pt_cmpR (op_cm .gt) (pe_callB call_len_seq (by rfl) ml PySem.boot_len (pa_cons (pv 2) pa_nil)) pe_int (nomark _)) (pw_and1 (pt_cmpR op_eq (pe_ix ix_list (pv 2) pe_int (fun _ _ => rfl)) pe_int (nomark _)))))
      (pss_one (ps_expr (pe_bm PySem.F.plainAttrs_list PySem.F.slot_list_pop PySem.F.type_list_pop mt_popAt (pv 2) (pa_cons pe_int pa_nil)))))
    (pss_cons (ps_if (pt_cmpR (op_cm .gt) (pe_callB call_len_seq (by rfl) ml PySem.boot_len (pa_cons (pv 2) pa_nil)) pe_int (nomark _))
      (pss_cons (ps_set (i := 3) sc__law_draw.nd rfl (.inl rfl) (pe_ix ix_list (pv 2) pe_int (fun _ _ => rfl)))
      (pss_cons (ps_asg (pe_op (op_ar .fdiv) (pv 3) (pv 1)) (pg_sub (pv 2) pe_int set_list (asg_sub rfl)))
      (pss_one (ps_ret (pe_op (op_ar .mod) (pe_b1 rfl .int (pv 3) rfl (by rfl) mi) (pv 1)))))) pss_nil)
    (pss_cons (ps_set (i := 4) sc__law_draw.nd rfl (.inl rfl) (pe_op (op_ar .mod) (pe_b1 rfl .int (pe_op (op_ar .add) (pe_op (op_ar .mul) (pe_ix ix_list (pv 0) pe_int (fun _ _ => rfl)) pe_int) pe_int) rfl (by rfl) mi) pe_int))
    (pss_cons (ps_asg (pv 4) (pg_sub (pv 0) pe_int set_list (asg_sub rfl)))
    (pss_one (ps_ret (pe_op (op_ar .mod) (pe_b1 rfl .int (pe_op (op_ar .fdiv) (pv 4) pe_int) rfl (by rfl) mi) (pv 1)))))))), ?_⟩
  -- cells = state[0]
  refine ⟨.ref a, rfl, a, _, 0, .ref c, rfl, rfl, SqL.of hA, rfl, ?_⟩
  refine ⟨fun n σ H' => ∃ ns', σ = [some (.ref a), some (.int m), some (.ref c), none, none] ∧ n = ns'.length ∧ H' a = some (.lst [.ref c, .int s0]) ∧ H' c = some (.lst (ns'.map V.int)) ∧ (∀ b o, H b = some o → b ≠ a → b ≠ c → H' b = some o) ∧ (∀ b, H' b = none → H b = none) ∧ drop0 ns' = drop0 ns,
    ⟨ns.length, ns, rfl, rfl, hA, hC, fun b o e _ _ => e, fun b e => e, rfl⟩, ?_⟩
  rintro n σ H1 ⟨ns1, rfl, rfl, h1, h2, h3, h4, h5⟩
  refine ⟨.ref c, rfl, c, _, rfl, .inl (SqL.of h2), _, _, rfl, rfl, _, rfl, ?_⟩
  cases ns1 with
  | nil =>
    refine if_f (by decide) (if_f (by decide) ?_)
    refine ⟨.ref c, rfl, c, _, rfl, .inl (SqL.of h2), _, _, rfl, rfl, _, rfl, ?_⟩
    refine if_f (by decide) ?_
    refine ⟨.ref a, rfl, a, _, 1, .int s0, rfl, rfl, SqL.of h1, rfl, s0, 48271, _, rfl, rfl, ar_mul (by decide) (by decide), _, 12345, _, rfl, rfl, rfl, _, _, _, _, rfl, Same.refl _, .inl (.int _), rfl, fun z hz => ?_⟩
    cases hz
    refine ⟨_, 2147483647, _, rfl, rfl, ar_mod (by decide), _, rfl, .ref a, rfl, a, _, 1, 1, rfl, rfl, h1, rfl, ?_⟩
    refine ⟨_, rfl, _, 64, _, rfl, rfl, ar_div (by decide) (by decide), _, _, _, _, rfl, Same.refl _, .inl (.int _), rfl, fun z hz => ?_⟩
    cases hz
    refine ⟨_, rfl, _, m, _, rfl, rfl, ar_mod m1, fin _ [] (nextS s0) _ upd_same ?_ ?_ ?_ ?_⟩
    · rw [upd_ne (Ne.symm hac)]
      exact h2
    · intro b o e n1 n2
      rw [upd_ne n1]
      exact h3 b o e n1 n2
    · intro b e
      by_cases n1 : b = a
      · rw [n1, upd_same] at e
        cases e
      · rw [upd_ne n1] at e
        exact h4 b e
    · have h5 : [] = drop0 ns := h5
      unfold drawA
      rw [← h5]
      rfl
  | cons v r =>
    refine if_t (by
      show decide (_ < _) = true
      rw [decide_eq_true_eq, List.length_map, List.length_cons]
      omega) ?_
    refine ⟨.ref c, rfl, c, _, 0, .int v, rfl, rfl, SqL.of h2, atI_nat (j := 0) rfl, rfl, _, rfl, ?_⟩
    by_cases hv : v = 0
    · subst hv
      refine if_t (decide_eq_true rfl) ?_
      refine ⟨fun σ H' => ∃ ns', σ = [some (.ref a), some (.int m), some (.ref c), none, none] ∧ r.length = ns'.length ∧ H' a = some (.lst [.ref c, .int s0]) ∧ H' c = some (.lst (ns'.map V.int)) ∧ (∀ b o, H b = some o → b ≠ a → b ≠ c → H' b = some o) ∧ (∀ b, H' b = none → H b = none) ∧ drop0 ns' = drop0 ns,
        fun σ' H' hN => ⟨r.length, by show r.length < r.length + 1; omega, hN⟩, ?_⟩
      refine ⟨.ref c, rfl, tyV_l h2, c, _, 0, 0, .int 0, rfl, rfl, h2, by decide, by decide, ?_, rfl, ?_⟩
      · rw [List.length_map, List.length_cons]
        exact sq0 _
      · refine ⟨r, rfl, rfl, ?_, upd_same, ?_, ?_, h5⟩
        · rw [upd_ne hac]
          exact h1
        · intro b o e n1 n2
          rw [upd_ne n2]
          exact h3 b o e n1 n2
        · intro b e
          by_cases n1 : b = c
          · rw [n1, upd_same] at e
            cases e
          · rw [upd_ne n1] at e
            exact h4 b e
    · refine if_f (by
        intro z
        exact hv (V.int.inj (of_decide_eq_true z))) ?_
      refine ⟨.ref c, rfl, c, _, rfl, .inl (SqL.of h2), _, _, rfl, rfl, _, rfl, ?_⟩
      refine if_t (by
        show decide (_ < _) = true
        rw [decide_eq_true_eq, List.length_map, List.length_cons]
        omega) ?_
      refine ⟨.ref c, rfl, c, _, 0, .int v, rfl, rfl, SqL.of h2, atI_nat (j := 0) rfl, ?_⟩
      refine ⟨_, rfl, _, rfl, v, m, _, rfl, rfl, ar_div m1 m2, .ref c, rfl, c, _, 0, 0, rfl, rfl, h2, ?_, ?_⟩
      · rw [List.length_map, List.length_cons]
        unfold ixN
        simp
      · refine ⟨_, rfl, _, _, _, _, rfl, Same.refl _, .inl (.int _), rfl, fun z hz => ?_⟩
        cases hz
        refine ⟨_, rfl, v, m, _, rfl, rfl, ar_mod m1, fin _ (v / m :: r) s0 _ ?_ upd_same ?_ ?_ ?_⟩
        · rw [upd_ne hac]
          exact h1
        · intro b o e n1 n2
          rw [upd_ne n2]
          exact h3 b o e n1 n2
        · intro b e
          by_cases n1 : b = c
          · rw [n1, upd_same] at e
            cases e
          · rw [upd_ne n1] at e
            exact h4 b e
        · have h6 : drop0 (v :: r) = v :: r := if_neg hv
          rw [h6] at h5
          unfold drawA
          rw [← h5]

/-! _law_pick(state, row): {'state': "('lst', ('lst', 'fro'))"} -/
def nm__law_pick : List Str := [(PySem.Str.ofString "state"), (PySem.Str.ofString "row")]
theorem sc__law_pick : FnScope nm__law_pick [(PySem.Str.ofString "state"), (PySem.Str.ofString "row")] (defScope (topS 17)) := ⟨rfl, rfl, rfl, by decide +kernel, rfl, by decide +kernel, by decide +kernel⟩
def sg__law_pick : Sig := ⟨[(.lst (.lst .fro)), .fro], .fro⟩
def ir__law_pick : Ss := (.cons (.ret (.ix (.e (.v 1)) (.call (PySem.Str.ofString "_law_draw") (.io 0 (.fr (.b1 .len (.e (.v 1))) .nil))))) .nil)
def fx__law_pick (Φ : Cf) : List D → Option (D × List D) := evF Φ sg__law_pick.ps 2 ir__law_pick
theorem ok__law_pick {Φ : Cf} {f : Addr} {fd : FuncData} {k : Nat} (F : Fun K (PySem.Str.ofString "_law_pick") (PySem.Str.ofString "_law_pick") (topS 17) f fd) (hbl : ∀ x, x ∈ blAll → mg x = none) (c__law_draw : Callee P w K mg base Φ k (PySem.Str.ofString "_law_draw") sg__law_draw) :
    FnOk P w K mg base CX0 (k + 1) f fd [(PySem.Str.ofString "state"), (PySem.Str.ofString "row")] (spI K sg__law_pick (fx__law_pick Φ)) :=
  fn_sound F sc__law_pick sg__law_pick [] ir__law_pick (by decide +kernel) hbl [] (by simp) fun X gd hc hx hk wx gx fr hp =>
    (ss_cons (s_ret (e_ix (o_e (k_v gd 1 (by decide +kernel))) (k_call gd (hc _ _ c__law_draw) (k_io gd 0 (by decide +kernel) (a_fr (k_b1 gd .len (o_e (k_v gd 1 (by decide +kernel))) (by decide +kernel)) a_nil rfl)) (by decide +kernel)) rfl))
    ss_nil)

/-! _law_terrain(state, points, tracks): {'state': "('lst', ('lst', 'fro'))", 'rows': "('lst', 'fro')"} -/
def nm__law_terrain : List Str := [(PySem.Str.ofString "state"), (PySem.Str.ofString "points"), (PySem.Str.ofString "tracks"), (PySem.Str.ofString "heights"), (PySem.Str.ofString "rows"), (PySem.Str.ofString "k"), (PySem.Str.ofString "one"), (PySem.Str.ofString "other")]
theorem sc__law_terrain : FnScope nm__law_terrain [(PySem.Str.ofString "state"), (PySem.Str.ofString "points"), (PySem.Str.ofString "tracks")] (defScope (topS 18)) := ⟨rfl, rfl, rfl, by decide +kernel, rfl, by decide +kernel, by decide +kernel⟩
def sg__law_terrain : Sig := ⟨[(.lst (.lst .fro)), .fro, .fro], .fro⟩
def ir__law_terrain : Ss := (.cons (.set 3 (.b1 .tup (.e (.comp (.call (PySem.Str.ofString "_law_draw") (.io 0 (.fr (.call (PySem.Str.ofString "_law_pick") (.io 0 (.fr (.lst (.cons (.k (.int 3)) (.cons (.k (.int 100)) .nil))) .nil))) .nil))) (.n 5) (.r1 (.v 1)) .no [5])))) (.cons (.set 4 (.lst .nil)) (.cons (.for (.n 5) (.r1 (.ar .mul (.v 2) (.b1 .int (.e (.cm .gt (.v 1) (.k (.int 1))))))) (.cons (.set 6 (.call (PySem.Str.ofString "_law_draw") (.io 0 (.fr (.v 1) .nil)))) (.cons (.set 7 (.ar .mod (.b1 .int (.e (.ar .add (.ar .add (.v 6) (.k (.int 1))) (.call (PySem.Str.ofString "_law_draw") (.io 0 (.fr (.ar .sub (.v 1) (.k (.int 1))) .nil)))))) (.v 1))) (.cons (.app 4 (.tup (.cons (.v 6) (.cons (.v 7) (.cons (.ar .add (.k (.int 1)) (.call (PySem.Str.ofString "_law_draw") (.io 0 (.fr (.call (PySem.Str.ofString "_law_pick") (.io 0 (.fr (.lst (.cons (.k (.int 2)) (.cons (.k (.int 5)) (.cons (.k (.int 99)) .nil)))) .nil))) .nil)))) .nil))))) .nil)))) (.fz 4 (.cons (.ret (.tup (.cons (.v 3) (.cons (.b1 .tup (.e (.v 4))) .nil)))) .nil)))))
def fx__law_terrain (Φ : Cf) : List D → Option (D × List D) := evF Φ sg__law_terrain.ps 8 ir__law_terrain
theorem ok__law_terrain {Φ : Cf} {f : Addr} {fd : FuncData} {k : Nat} (F : Fun K (PySem.Str.ofString "_law_terrain") (PySem.Str.ofString "_law_terrain") (topS 18) f fd) (hbl : ∀ x, x ∈ blAll → mg x = none) (c__law_draw : Callee P w K mg base Φ k (PySem.Str.ofString "_law_draw") sg__law_draw) (c__law_pick : Callee P w K mg base Φ k (PySem.Str.ofString "_law_pick") sg__law_pick) :
    FnOk P w K mg base CX0 (k + 1) f fd [(PySem.Str.ofString "state"), (PySem.Str.ofString "points"), (PySem.Str.ofString "tracks")] (spI K sg__law_terrain (fx__law_terrain Φ)) :=
  fn_sound F sc__law_terrain sg__law_terrain [.fro, (.lst .fro), .fro, .fro, .fro] ir__law_terrain (by decide +kernel) hbl [] (by simp) fun X gd hc hx hk wx gx fr hp =>
    (ss_cons (k_set gd hp 3 .fro (k_b1 gd .tup (o_e (k_comp gd hp [0] [(PySem.Str.ofString "k", 5)] (t := .fro) (.inr ⟨rfl, rfl⟩) (by decide +kernel) (k_r1 gd (k_v gd 1 (by decide +kernel)) (by decide +kernel)) (fun _ gd1 cv1 fr1 hp1 => (k_gn gd1 hp1 5 (by decide +kernel))) (fun _ gd1 cv1 => pc_no) (fun _ gd1 cv1 fr1 hp1 => (k_call gd1 (cv1 _ _ (hc _ _ c__law_draw)) (k_io gd1 0 (by decide +kernel) (a_fr (k_call gd1 (cv1 _ _ (hc _ _ c__law_pick)) (k_io gd1 0 (by decide +kernel) (a_fr (e_lst (t := .fro) (.inr ⟨rfl, rfl⟩) (as_cons k_i (as_cons k_i as_nil rfl) rfl)) a_nil rfl)) (by decide +kernel)) a_nil rfl)) (by decide +kernel))))) (by decide +kernel)) (by decide +kernel))
    (ss_cons (k_set gd hp 4 (.lst .fro) (e_lst (t := .fro) (.inl rfl) as_nil) (by decide +kernel))
    (ss_cons (k_for gd hp [0] (k_r1 gd (e_ar .mul (k_v gd 2 (by decide +kernel)) (k_b1 gd .int (o_e (k_cm .gt (k_v gd 1 (by decide +kernel)) k_i)) (by decide +kernel))) (by decide +kernel)) (fun fr2 hp2 => (k_gn gd hp2 5 (by decide +kernel))) (fun fr2 hp2 => (ss_cons (k_set gd hp2 6 .fro (k_call gd (hc _ _ c__law_draw) (k_io gd 0 (by decide +kernel) (a_fr (k_v gd 1 (by decide +kernel)) a_nil rfl)) (by decide +kernel)) (by decide +kernel))
    (ss_cons (k_set gd hp2 7 .fro (e_ar .mod (k_b1 gd .int (o_e (e_ar .add (e_ar .add (k_v gd 6 (by decide +kernel)) k_i) (k_call gd (hc _ _ c__law_draw) (k_io gd 0 (by decide +kernel) (a_fr (e_ar .sub (k_v gd 1 (by decide +kernel)) k_i) a_nil rfl)) (by decide +kernel)))) (by decide +kernel)) (k_v gd 1 (by decide +kernel))) (by decide +kernel))
    (ss_cons (k_app gd 4 (e_tup (as_cons (k_v gd 6 (by decide +kernel)) (as_cons (k_v gd 7 (by decide +kernel)) (as_cons (e_ar .add k_i (k_call gd (hc _ _ c__law_draw) (k_io gd 0 (by decide +kernel) (a_fr (k_call gd (hc _ _ c__law_pick) (k_io gd 0 (by decide +kernel) (a_fr (e_lst (t := .fro) (.inr ⟨rfl, rfl⟩) (as_cons k_i (as_cons k_i (as_cons k_i as_nil rfl) rfl) rfl)) a_nil rfl)) (by decide +kernel)) a_nil rfl)) (by decide +kernel))) as_nil rfl) rfl) rfl)) (by decide +kernel))
    ss_nil)))) (by decide +kernel))
    (ss_fz 4 (ss_cons (s_ret (e_tup (as_cons (k_v gd 3 (by decide +kernel)) (as_cons (k_b1 gd .tup (o_e (k_v gd 4 (by decide +kernel))) (by decide +kernel)) as_nil rfl) rfl)))
    ss_nil)))))

/-! _law_put(row, at, one): {} -/
def nm__law_put : List Str := [(PySem.Str.ofString "row"), (PySem.Str.ofString "at"), (PySem.Str.ofString "one")]
theorem sc__law_put : FnScope nm__law_put [(PySem.Str.ofString "row"), (PySem.Str.ofString "at"), (PySem.Str.ofString "one")] (defScope (topS 24)) := ⟨rfl, rfl, rfl, by decide +kernel, rfl, by decide +kernel, by decide +kernel⟩
def sg__law_put : Sig := ⟨[.fro, .fro, .fro], .fro⟩
def ir__law_put : Ss := (.cons (.ret (.tcat (.tcat (.slc (.e (.v 0)) .no (.so (.v 1))) (.tup (.cons (.v 2) .nil))) (.slc (.e (.v 0)) (.so (.ar .add (.v 1) (.k (.int 1)))) .no))) .nil)
def fx__law_put (Φ : Cf) : List D → Option (D × List D) := evF Φ sg__law_put.ps 3 ir__law_put
theorem ok__law_put {Φ : Cf} {f : Addr} {fd : FuncData} {k : Nat} (F : Fun K (PySem.Str.ofString "_law_put") (PySem.Str.ofString "_law_put") (topS 24) f fd) (hbl : ∀ x, x ∈ blAll → mg x = none) :
    FnOk P w K mg base CX0 (k + 1) f fd [(PySem.Str.ofString "row"), (PySem.Str.ofString "at"), (PySem.Str.ofString "one")] (spI K sg__law_put (fx__law_put Φ)) :=
  fn_sound F sc__law_put sg__law_put [] ir__law_put (by decide +kernel) hbl [] (by simp) fun X gd hc hx hk wx gx fr hp =>
    (ss_cons (s_ret (e_tcat (e_tcat (e_slc (w := .fro) (.inr ⟨rfl, rfl⟩) (o_e (k_v gd 0 (by decide +kernel))) oe_no (oe_so (k_v gd 1 (by decide +kernel))) (.inl rfl)) (e_tup (as_cons (k_v gd 2 (by decide +kernel)) as_nil rfl))) (e_slc (w := .fro) (.inr ⟨rfl, rfl⟩) (o_e (k_v gd 0 (by decide +kernel))) (oe_so (e_ar .add (k_v gd 1 (by decide +kernel)) k_i)) oe_no (.inl rfl))))
    ss_nil)

/-! _law_broken(state, terrain): {'state': "('lst', ('lst', 'fro'))"} -/
def nm__law_broken : List Str := [(PySem.Str.ofString "state"), (PySem.Str.ofString "terrain"), (PySem.Str.ofString "heights"), (PySem.Str.ofString "tracks"), (PySem.Str.ofString "many"), (PySem.Str.ofString "kind"), (PySem.Str.ofString "wrong"), (PySem.Str.ofString "k"), (PySem.Str.ofString "at"), (PySem.Str.ofString "two")]
theorem sc__law_broken : FnScope nm__law_broken [(PySem.Str.ofString "state"), (PySem.Str.ofString "terrain")] (defScope (topS 25)) := ⟨rfl, rfl, rfl, by decide +kernel, rfl, by decide +kernel, by decide +kernel⟩
def sg__law_broken : Sig := ⟨[(.lst (.lst .fro)), .fro], .fro⟩
def ir__law_broken : Ss := (.cons (.unp (.t (.cons (.n 2) (.cons (.n 3) .nil))) (.v 1)) (.cons (.set 4 (.b1 .len (.e (.v 2)))) (.cons (.set 5 (.call (PySem.Str.ofString "_law_draw") (.io 0 (.fr (.k (.int 5)) .nil)))) (.cons (.ife (.e (.eq false (.v 5) (.k (.int 0)))) (.cons (.set 6 (.call (PySem.Str.ofString "_law_pick") (.io 0 (.fr (.lst (.cons (.tup .nil) (.cons (.trep (.tup (.cons (.k (.int 0)) .nil)) (.k (.int 25))) .nil))) .nil)))) (.cons (.ret (.tup (.cons (.tup (.cons (.v 6) (.cons (.v 3) .nil))) (.cons (.k (.str (PySem.Str.ofString "points"))) (.cons (.b1 .len (.e (.v 6))) .nil))))) .nil)) .nil) (.cons (.ife (.e (.eq false (.v 5) (.k (.int 1)))) (.cons (.set 7 (.call (PySem.Str.ofString "_law_draw") (.io 0 (.fr (.v 4) .nil)))) (.cons (.ret (.tup (.cons (.tup (.cons (.call (PySem.Str.ofString "_law_put") (.fr (.v 2) (.fr (.v 7) (.fr (.call (PySem.Str.ofString "_law_pick") (.io 0 (.fr (.lst (.cons (.neg (.k (.int 1))) (.cons (.k (.int 100)) .nil))) .nil))) .nil)))) (.cons (.v 3) .nil))) (.cons (.k (.str (PySem.Str.ofString "height"))) (.cons (.v 7) .nil))))) .nil)) .nil) (.cons (.ife (.e (.eq false (.v 5) (.k (.int 2)))) (.cons (.ret (.tup (.cons (.tup (.cons (.v 2) (.cons (.trep (.tup (.cons (.tup (.cons (.k (.int 0)) (.cons (.k (.int 1)) (.cons (.k (.int 1)) .nil)))) .nil)) (.k (.int 61))) .nil))) (.cons (.k (.str (PySem.Str.ofString "tracks"))) (.cons (.k (.int 61)) .nil))))) .nil) .nil) (.cons (.set 8 (.b2 .mn (.b1 .len (.e (.v 3))) (.k (.int 59)))) (.cons (.ife (.orr (.e (.eq false (.v 5) (.k (.int 3)))) (.e (.eq false (.v 4) (.k (.int 1))))) (.cons (.set 9 (.call (PySem.Str.ofString "_law_pick") (.io 0 (.fr (.lst (.cons (.tup (.cons (.k (.int 0)) (.cons (.k (.int 0)) .nil))) (.cons (.tup (.cons (.neg (.k (.int 1))) (.cons (.k (.int 0)) .nil))) (.cons (.tup (.cons (.k (.int 0)) (.cons (.v 4) .nil))) (.cons (.tup (.cons (.v 4) (.cons (.k (.int 0)) .nil))) (.cons (.tup (.cons (.ar .sub (.v 4) (.k (.int 1))) (.cons (.ar .sub (.v 4) (.k (.int 1))) .nil))) .nil)))))) .nil)))) (.cons (.ret (.tup (.cons (.tup (.cons (.v 2) (.cons (.tcat (.slc (.e (.v 3)) .no (.so (.v 8))) (.tup (.cons (.tcat (.v 9) (.tup (.cons (.k (.int 1)) .nil))) .nil))) .nil))) (.cons (.k (.str (PySem.Str.ofString "track"))) (.cons (.v 8) .nil))))) .nil)) .nil) (.cons (.ret (.tup (.cons (.tup (.cons (.v 2) (.cons (.tcat (.slc (.e (.v 3)) .no (.so (.v 8))) (.tup (.cons (.tup (.cons (.k (.int 0)) (.cons (.k (.int 1)) (.cons (.call (PySem.Str.ofString "_law_pick") (.io 0 (.fr (.lst (.cons (.k (.int 0)) (.cons (.k (.int 100)) (.cons (.neg (.k (.int 1))) .nil)))) .nil))) .nil)))) .nil))) .nil))) (.cons (.k (.str (PySem.Str.ofString "flat"))) (.cons (.v 8) .nil))))) .nil)))))))))
def fx__law_broken (Φ : Cf) : List D → Option (D × List D) := evF Φ sg__law_broken.ps 10 ir__law_broken
theorem ok__law_broken {Φ : Cf} {f : Addr} {fd : FuncData} {k : Nat} (F : Fun K (PySem.Str.ofString "_law_broken") (PySem.Str.ofString "_law_broken") (topS 25) f fd) (hbl : ∀ x, x ∈ blAll → mg x = none) (c__law_draw : Callee P w K mg base Φ k (PySem.Str.ofString "_law_draw") sg__law_draw) (c__law_pick : Callee P w K mg base Φ k (PySem.Str.ofString "_law_pick") sg__law_pick) (c__law_put : Callee P w K mg base Φ k (PySem.Str.ofString "_law_put") sg__law_put) :
    FnOk P w K mg base CX0 (k + 1) f fd [(PySem.Str.ofString "state"), (PySem.Str.ofString "terrain")] (spI K sg__law_broken (fx__law_broken Φ)) :=
  fn_sound F sc__law_broken sg__law_broken [.fro, .fro, .fro, .fro, .fro, .fro, .fro, .fro] ir__law_broken (by decide +kernel) hbl [] (by simp) fun X gd hc hx hk wx gx fr hp =>
    (ss_cons (k_unp (k_gt gd (gs_cons (k_gn gd hp 2 (by decide +kernel)) (gs_cons (k_gn gd hp 3 (by decide +kernel)) gs_nil rfl) rfl) (by decide +kernel)) (k_v gd 1 (by decide +kernel)) (by decide +kernel))
    (ss_cons (k_set gd hp 4 .fro (k_b1 gd .len (o_e (k_v gd 2 (by decide +kernel))) (by decide +kernel)) (by decide +kernel))
    (ss_cons (k_set gd hp 5 .fro (k_call gd (hc _ _ c__law_draw) (k_io gd 0 (by decide +kernel) (a_fr k_i a_nil rfl)) (by decide +kernel)) (by decide +kernel))
    (ss_cons (s_ife (k_eqT gd false (k_v gd 5 (by decide +kernel)) k_i) (ss_cons (k_set gd hp 6 .fro (k_call gd (hc _ _ c__law_pick) (k_io gd 0 (by decide +kernel) (a_fr (e_lst (t := .fro) (.inr ⟨rfl, rfl⟩) (as_cons (e_tup as_nil) (as_cons (e_trep (e_tup (as_cons k_i as_nil rfl)) k_i) as_nil rfl) rfl)) a_nil rfl)) (by decide +kernel)) (by decide +kernel))
    (ss_cons (s_ret (e_tup (as_cons (e_tup (as_cons (k_v gd 6 (by decide +kernel)) (as_cons (k_v gd 3 (by decide +kernel)) as_nil rfl) rfl)) (as_cons k_s (as_cons (k_b1 gd .len (o_e (k_v gd 6 (by decide +kernel))) (by decide +kernel)) as_nil rfl) rfl) rfl)))
    ss_nil)) ss_nil)
    (ss_cons (s_ife (k_eqT gd false (k_v gd 5 (by decide +kernel)) k_i) (ss_cons (k_set gd hp 7 .fro (k_call gd (hc _ _ c__law_draw) (k_io gd 0 (by decide +kernel) (a_fr (k_v gd 4 (by decide +kernel)) a_nil rfl)) (by decide +kernel)) (by decide +kernel))
    (ss_cons (s_ret (e_tup (as_cons (e_tup (as_cons (k_call gd (hc _ _ c__law_put) (a_fr (k_v gd 2 (by decide +kernel)) (a_fr (k_v gd 7 (by decide +kernel)) (a_fr (k_call gd (hc _ _ c__law_pick) (k_io gd 0 (by decide +kernel) (a_fr (e_lst (t := .fro) (.inr ⟨rfl, rfl⟩) (as_cons (e_neg k_i) (as_cons k_i as_nil rfl) rfl)) a_nil rfl)) (by decide +kernel)) a_nil rfl) rfl) rfl) (by decide +kernel)) (as_cons (k_v gd 3 (by decide +kernel)) as_nil rfl) rfl)) (as_cons k_s (as_cons (k_v gd 7 (by decide +kernel)) as_nil rfl) rfl) rfl)))
    ss_nil)) ss_nil)
    (ss_cons (s_ife (k_eqT gd false (k_v gd 5 (by decide +kernel)) k_i) (ss_cons (s_ret (e_tup (as_cons (e_tup (as_cons (k_v gd 2 (by decide +kernel)) (as_cons (e_trep (e_tup (as_cons (e_tup (as_cons k_i (as_cons k_i (as_cons k_i as_nil rfl) rfl) rfl)) as_nil rfl)) k_i) as_nil rfl) rfl)) (as_cons k_s (as_cons k_i as_nil rfl) rfl) rfl)))
    ss_nil) ss_nil)
    (ss_cons (k_set gd hp 8 .fro (k_b2 gd .mn (k_b1 gd .len (o_e (k_v gd 3 (by decide +kernel))) (by decide +kernel)) k_i (by decide +kernel)) (by decide +kernel))
    (ss_cons (s_ife (PW.pt (w_orr (k_eqT gd false (k_v gd 5 (by decide +kernel)) k_i) (pw_or1 (k_eqT gd false (k_v gd 4 (by decide +kernel)) k_i)))) (ss_cons (k_set gd hp 9 .fro (k_call gd (hc _ _ c__law_pick) (k_io gd 0 (by decide +kernel) (a_fr (e_lst (t := .fro) (.inr ⟨rfl, rfl⟩) (as_cons (e_tup (as_cons k_i (as_cons k_i as_nil rfl) rfl)) (as_cons (e_tup (as_cons (e_neg k_i) (as_cons k_i as_nil rfl) rfl)) (as_cons (e_tup (as_cons k_i (as_cons (k_v gd 4 (by decide +kernel)) as_nil rfl) rfl)) (as_cons (e_tup (as_cons (k_v gd 4 (by decide +kernel)) (as_cons k_i as_nil rfl) rfl)) (as_cons (e_tup (as_cons (e_ar .sub (k_v gd 4 (by decide +kernel)) k_i) (as_cons (e_ar .sub (k_v gd 4 (by decide +kernel)) k_i) as_nil rfl) rfl)) as_nil rfl) rfl) rfl) rfl) rfl)) a_nil rfl)) (by decide +kernel)) (by decide +kernel))
    (ss_cons (s_ret (e_tup (as_cons (e_tup (as_cons (k_v gd 2 (by decide +kernel)) (as_cons (e_tcat (e_slc (w := .fro) (.inr ⟨rfl, rfl⟩) (o_e (k_v gd 3 (by decide +kernel))) oe_no (oe_so (k_v gd 8 (by decide +kernel))) (.inl rfl)) (e_tup (as_cons (e_tcat (k_v gd 9 (by decide +kernel)) (e_tup (as_cons k_i as_nil rfl))) as_nil rfl))) as_nil rfl) rfl)) (as_cons k_s (as_cons (k_v gd 8 (by decide +kernel)) as_nil rfl) rfl) rfl)))
    ss_nil)) ss_nil)
    (ss_cons (s_ret (e_tup (as_cons (e_tup (as_cons (k_v gd 2 (by decide +kernel)) (as_cons (e_tcat (e_slc (w := .fro) (.inr ⟨rfl, rfl⟩) (o_e (k_v gd 3 (by decide +kernel))) oe_no (oe_so (k_v gd 8 (by decide +kernel))) (.inl rfl)) (e_tup (as_cons (e_tup (as_cons k_i (as_cons k_i (as_cons (k_call gd (hc _ _ c__law_pick) (k_io gd 0 (by decide +kernel) (a_fr (e_lst (t := .fro) (.inr ⟨rfl, rfl⟩) (as_cons k_i (as_cons k_i (as_cons (e_neg k_i) as_nil rfl) rfl) rfl)) a_nil rfl)) (by decide +kernel)) as_nil rfl) rfl) rfl)) as_nil rfl))) as_nil rfl) rfl)) (as_cons k_s (as_cons (k_v gd 8 (by decide +kernel)) as_nil rfl) rfl) rfl)))
    ss_nil)))))))))

/-! _law_class(state): {'state': "('lst', ('lst', 'fro'))"} -/
def nm__law_class : List Str := [(PySem.Str.ofString "state")]
theorem sc__law_class : FnScope nm__law_class [(PySem.Str.ofString "state")] (defScope (topS 19)) := ⟨rfl, rfl, rfl, by decide +kernel, rfl, by decide +kernel, by decide +kernel⟩
def sg__law_class : Sig := ⟨[(.lst (.lst .fro))], .fro⟩
def ir__law_class : Ss := (.cons (.ret (.tup (.cons (.ar .add (.k (.int 1)) (.call (PySem.Str.ofString "_law_draw") (.io 0 (.fr (.k (.int 9)) .nil)))) (.cons (.call (PySem.Str.ofString "_law_pick") (.io 0 (.fr (.lst (.cons (.k (.int 0)) (.cons (.k (.int 0)) (.cons (.call (PySem.Str.ofString "_law_draw") (.io 0 (.fr (.k (.int 10)) .nil))) .nil)))) .nil))) .nil)))) .nil)
def fx__law_class (Φ : Cf) : List D → Option (D × List D) := evF Φ sg__law_class.ps 1 ir__law_class
theorem ok__law_class {Φ : Cf} {f : Addr} {fd : FuncData} {k : Nat} (F : Fun K (PySem.Str.ofString "_law_class") (PySem.Str.ofString "_law_class") (topS 19) f fd) (hbl : ∀ x, x ∈ blAll → mg x = none) (c__law_draw : Callee P w K mg base Φ k (PySem.Str.ofString "_law_draw") sg__law_draw) (c__law_pick : Callee P w K mg base Φ k (PySem.Str.ofString "_law_pick") sg__law_pick) :
    FnOk P w K mg base CX0 (k + 1) f fd [(PySem.Str.ofString "state")] (spI K sg__law_class (fx__law_class Φ)) :=
  fn_sound F sc__law_class sg__law_class [] ir__law_class (by decide +kernel) hbl [] (by simp) fun X gd hc hx hk wx gx fr hp =>
    (ss_cons (s_ret (e_tup (as_cons (e_ar .add k_i (k_call gd (hc _ _ c__law_draw) (k_io gd 0 (by decide +kernel) (a_fr k_i a_nil rfl)) (by decide +kernel))) (as_cons (k_call gd (hc _ _ c__law_pick) (k_io gd 0 (by decide +kernel) (a_fr (e_lst (t := .fro) (.inr ⟨rfl, rfl⟩) (as_cons k_i (as_cons k_i (as_cons (k_call gd (hc _ _ c__law_draw) (k_io gd 0 (by decide +kernel) (a_fr k_i a_nil rfl)) (by decide +kernel)) as_nil rfl) rfl) rfl)) a_nil rfl)) (by decide +kernel)) as_nil rfl) rfl)))
    ss_nil)

/-! _law_shut(state, terrain): {'state': "('lst', ('lst', 'fro'))"} -/
def nm__law_shut : List Str := [(PySem.Str.ofString "state"), (PySem.Str.ofString "terrain"), (PySem.Str.ofString "k")]
theorem sc__law_shut : FnScope nm__law_shut [(PySem.Str.ofString "state"), (PySem.Str.ofString "terrain")] (defScope (topS 20)) := ⟨rfl, rfl, rfl, by decide +kernel, rfl, by decide +kernel, by decide +kernel⟩
def sg__law_shut : Sig := ⟨[(.lst (.lst .fro)), .fro], .fro⟩
def ir__law_shut : Ss := (.cons (.ret (.b1 .tup (.e (.comp (.v 2) (.n 2) (.r1 (.b1 .len (.e (.ix (.e (.v 1)) (.k (.int 1)))))) (.so (.e (.eq false (.call (PySem.Str.ofString "_law_draw") (.io 0 (.fr (.k (.int 7)) .nil))) (.k (.int 0))))) [2])))) .nil)
def fx__law_shut (Φ : Cf) : List D → Option (D × List D) := evF Φ sg__law_shut.ps 3 ir__law_shut
theorem ok__law_shut {Φ : Cf} {f : Addr} {fd : FuncData} {k : Nat} (F : Fun K (PySem.Str.ofString "_law_shut") (PySem.Str.ofString "_law_shut") (topS 20) f fd) (hbl : ∀ x, x ∈ blAll → mg x = none) (c__law_draw : Callee P w K mg base Φ k (PySem.Str.ofString "_law_draw") sg__law_draw) :
    FnOk P w K mg base CX0 (k + 1) f fd [(PySem.Str.ofString "state"), (PySem.Str.ofString "terrain")] (spI K sg__law_shut (fx__law_shut Φ)) :=
  fn_sound F sc__law_shut sg__law_shut [.fro] ir__law_shut (by decide +kernel) hbl [] (by simp) fun X gd hc hx hk wx gx fr hp =>
    (ss_cons (s_ret (k_b1 gd .tup (o_e (k_comp gd hp [0] [(PySem.Str.ofString "k", 2)] (t := .fro) (.inr ⟨rfl, rfl⟩) (by decide +kernel) (k_r1 gd (k_b1 gd .len (o_e (e_ix (o_e (k_v gd 1 (by decide +kernel))) k_i rfl)) (by decide +kernel)) (by decide +kernel)) (fun _ gd1 cv1 fr1 hp1 => (k_gn gd1 hp1 2 (by decide +kernel))) (fun _ gd1 cv1 => pc_so fun fr1 hp1 => (k_eqT gd1 false (k_call gd1 (cv1 _ _ (hc _ _ c__law_draw)) (k_io gd1 0 (by decide +kernel) (a_fr k_i a_nil rfl)) (by decide +kernel)) k_i)) (fun _ gd1 cv1 fr1 hp1 => (k_v gd1 2 (by decide +kernel))))) (by decide +kernel)))
    ss_nil)

/-! require(holds, rule, index): {} -/
def nm_require : List Str := [(PySem.Str.ofString "holds"), (PySem.Str.ofString "rule"), (PySem.Str.ofString "index")]
theorem sc_require : FnScope nm_require [(PySem.Str.ofString "holds"), (PySem.Str.ofString "rule"), (PySem.Str.ofString "index")] (defScope (topS 8)) := ⟨rfl, rfl, rfl, by decide +kernel, rfl, by decide +kernel, by decide +kernel⟩
def sg_require : Sig := ⟨[.fro, .fro, .fro], .fro⟩
def ir_require : Ss := (.cons (.ife (.no (.e (.v 0))) (.cons (.rse (PySem.Str.ofString "TerrainError") [(PySem.Str.ofString "rule"), (PySem.Str.ofString "index")] (.cons (.v 1) (.cons (.v 2) .nil))) .nil) .nil) .nil)
def fx_require (Φ : Cf) : List D → Option Xr := evX Φ sg_require.ps 3 ir_require
theorem ok_require {Φ : Cf} {f : Addr} {fd : FuncData} {k : Nat} (F : Fun K (PySem.Str.ofString "require") (PySem.Str.ofString "require") (topS 8) f fd) (hbl : ∀ x, x ∈ blAll → mg x = none) (q_TerrainError : KlsAt P K mg (PySem.Str.ofString "TerrainError")) (hk2 : 2 ≤ k) :
    FnOk P w K mg base (L2.CX P w) (k + 1) f fd [(PySem.Str.ofString "holds"), (PySem.Str.ofString "rule"), (PySem.Str.ofString "index")] (spX mg K sg_require (fx_require Φ)) :=
  fn_soundX F sc_require sg_require [] ir_require (by decide) (by decide +kernel) hbl [] (by simp) fun X gd hc hx hk wx gx fr hp =>
    (ss_cons (s_ife (t_no (t_e (k_v gd 0 (by decide +kernel)) rfl)) (ss_cons (s_rse gx gd (hk _ q_TerrainError hk2) (as_cons (k_v gd 1 (by decide +kernel)) (as_cons (k_v gd 2 (by decide +kernel)) as_nil rfl) rfl) (by decide +kernel))
    ss_nil) ss_nil)
    ss_nil)

/-! check_terrain(terrain): {} -/
def nm_check_terrain : List Str := [(PySem.Str.ofString "terrain"), (PySem.Str.ofString "heights"), (PySem.Str.ofString "tracks"), (PySem.Str.ofString "index"), (PySem.Str.ofString "height"), (PySem.Str.ofString "one"), (PySem.Str.ofString "other"), (PySem.Str.ofString "flat"), (PySem.Str.ofString "ends"), (PySem.Str.ofString "end")]
theorem sc_check_terrain : FnScope nm_check_terrain [(PySem.Str.ofString "terrain")] (defScope (topS 9)) := ⟨rfl, rfl, rfl, by decide +kernel, rfl, by decide +kernel, by decide +kernel⟩
def sg_check_terrain : Sig := ⟨[.fro], .fro⟩
def ir_check_terrain : Ss := (.cons (.unp (.t (.cons (.n 1) (.cons (.n 2) .nil))) (.v 0)) (.cons (.cx (PySem.Str.ofString "require") (.cons (.ch .le .le (.k (.int 1)) (.b1 .len (.e (.v 1))) (.gl (PySem.Str.ofString "MOST_POINTS") (.int 24))) (.cons (.k (.str (PySem.Str.ofString "points"))) (.cons (.b1 .len (.e (.v 1))) .nil)))) (.cons (.for (.t (.cons (.n 3) (.cons (.n 4) .nil))) (.en (.e (.v 1))) (.cons (.cx (PySem.Str.ofString "require") (.cons (.ch .le .le (.k (.int 0)) (.v 4) (.gl (PySem.Str.ofString "MOST_HEIGHT") (.int 99))) (.cons (.k (.str (PySem.Str.ofString "height"))) (.cons (.v 3) .nil)))) .nil)) (.cons (.cx (PySem.Str.ofString "require") (.cons (.cm .le (.b1 .len (.e (.v 2))) (.gl (PySem.Str.ofString "MOST_TRACKS") (.int 60))) (.cons (.k (.str (PySem.Str.ofString "tracks"))) (.cons (.b1 .len (.e (.v 2))) .nil)))) (.cons (.for (.t (.cons (.n 3) (.cons (.t (.cons (.n 5) (.cons (.n 6) (.cons (.n 7) .nil)))) .nil))) (.en (.e (.v 2))) (.cons (.set 8 (.comp (.ch .le .lt (.k (.int 0)) (.v 9) (.b1 .len (.e (.v 1)))) (.n 9) (.o (.e (.tup (.cons (.v 5) (.cons (.v 6) .nil))))) .no [9])) (.cons (.cx (PySem.Str.ofString "require") (.cons (.an (.b1 .all (.e (.v 8))) (.eq true (.v 5) (.v 6))) (.cons (.k (.str (PySem.Str.ofString "track"))) (.cons (.v 3) .nil)))) (.cons (.cx (PySem.Str.ofString "require") (.cons (.ch .le .le (.k (.int 1)) (.v 7) (.gl (PySem.Str.ofString "MOST_FLAT") (.int 99))) (.cons (.k (.str (PySem.Str.ofString "flat"))) (.cons (.v 3) .nil)))) .nil)))) .nil)))))
def fx_check_terrain (Φ : Cf) : List D → Option Xr := evX Φ sg_check_terrain.ps 10 ir_check_terrain
theorem ok_check_terrain {Φ : Cf} {f : Addr} {fd : FuncData} {k : Nat} (F : Fun K (PySem.Str.ofString "check_terrain") (PySem.Str.ofString "check_terrain") (topS 9) f fd) (hbl : ∀ x, x ∈ blAll → mg x = none) (hgl : ∀ p ∈ ([(PySem.Str.ofString "MOST_POINTS", 24), (PySem.Str.ofString "MOST_HEIGHT", 99), (PySem.Str.ofString "MOST_TRACKS", 60), (PySem.Str.ofString "MOST_FLAT", 99)] : List (Str × Int)), ∃ t, mg p.1 = some (.int p.2 t)) (c_require : CalleeX P w K mg base Φ k (PySem.Str.ofString "require") sg_require) :
    FnOk P w K mg base (L2.CX P w) (k + 1) f fd [(PySem.Str.ofString "terrain")] (spX mg K sg_check_terrain (fx_check_terrain Φ)) :=
  fn_soundX F sc_check_terrain sg_check_terrain [.fro, .fro, .fro, .fro, .fro, .fro, .fro, .fro, .fro] ir_check_terrain (by decide) (by decide +kernel) hbl [(PySem.Str.ofString "MOST_POINTS", 24), (PySem.Str.ofString "MOST_HEIGHT", 99), (PySem.Str.ofString "MOST_TRACKS", 60), (PySem.Str.ofString "MOST_FLAT", 99)] hgl fun X gd hc hx hk wx gx fr hp =>
    (ss_cons (k_unp (k_gt gd (gs_cons (k_gn gd hp 1 (by decide +kernel)) (gs_cons (k_gn gd hp 2 (by decide +kernel)) gs_nil rfl) rfl) (by decide +kernel)) (k_v gd 0 (by decide +kernel)) (by decide +kernel))
    (ss_cons (s_cx (e_cx gx gd (hx _ _ c_require) (as_cons (k_ch .le .le k_i (k_b1 gd .len (o_e (k_v gd 1 (by decide +kernel))) (by decide +kernel)) (k_gi gd 24 (by decide +kernel))) (as_cons k_s (as_cons (k_b1 gd .len (o_e (k_v gd 1 (by decide +kernel))) (by decide +kernel)) as_nil rfl) rfl) rfl) (by decide +kernel)))
    (ss_cons (k_for gd hp [] (k_en gd (w_e (k_v gd 1 (by decide +kernel))) (by decide +kernel)) (fun fr1 hp1 => (k_gt gd (gs_cons (k_gn gd hp1 3 (by decide +kernel)) (gs_cons (k_gn gd hp1 4 (by decide +kernel)) gs_nil rfl) rfl) (by decide +kernel))) (fun fr1 hp1 => (ss_cons (s_cx (e_cx gx gd (hx _ _ c_require) (as_cons (k_ch .le .le k_i (k_v gd 4 (by decide +kernel)) (k_gi gd 99 (by decide +kernel))) (as_cons k_s (as_cons (k_v gd 3 (by decide +kernel)) as_nil rfl) rfl) rfl) (by decide +kernel)))
    ss_nil)) (by decide +kernel))
    (ss_cons (s_cx (e_cx gx gd (hx _ _ c_require) (as_cons (k_cm .le (k_b1 gd .len (o_e (k_v gd 2 (by decide +kernel))) (by decide +kernel)) (k_gi gd 60 (by decide +kernel))) (as_cons k_s (as_cons (k_b1 gd .len (o_e (k_v gd 2 (by decide +kernel))) (by decide +kernel)) as_nil rfl) rfl) rfl) (by decide +kernel)))
    (ss_cons (k_for gd hp [] (k_en gd (w_e (k_v gd 2 (by decide +kernel))) (by decide +kernel)) (fun fr2 hp2 => (k_gt gd (gs_cons (k_gn gd hp2 3 (by decide +kernel)) (gs_cons (k_gt gd (gs_cons (k_gn gd hp2 5 (by decide +kernel)) (gs_cons (k_gn gd hp2 6 (by decide +kernel)) (gs_cons (k_gn gd hp2 7 (by decide +kernel)) gs_nil rfl) rfl) rfl) (by decide +kernel)) gs_nil rfl) rfl) (by decide +kernel))) (fun fr2 hp2 => (ss_cons (k_setC gd hp2 8 .fro [] [(PySem.Str.ofString "end", 9)] (t := .fro) (.inr ⟨rfl, rfl⟩) (by decide +kernel) (it_o (w_e (e_tup (as_cons (k_v gd 5 (by decide +kernel)) (as_cons (k_v gd 6 (by decide +kernel)) as_nil rfl) rfl)))) (fun _ gd3 cv3 fr3 hp3 => (k_gn gd3 hp3 9 (by decide +kernel))) (fun _ gd3 cv3 => pc_no) (fun _ gd3 cv3 fr3 hp3 => (k_ch .le .lt k_i (k_v gd3 9 (by decide +kernel)) (k_b1 gd3 .len (o_e (k_v gd3 1 (by decide +kernel))) (by decide +kernel)))))
    (ss_cons (s_cx (e_cx gx gd (hx _ _ c_require) (as_cons (e_an (k_b1 gd .all (o_e (k_v gd 8 (by decide +kernel))) (by decide +kernel)) (pe_one (k_eq gd true (k_v gd 5 (by decide +kernel)) (k_v gd 6 (by decide +kernel))))) (as_cons k_s (as_cons (k_v gd 3 (by decide +kernel)) as_nil rfl) rfl) rfl) (by decide +kernel)))
    (ss_cons (s_cx (e_cx gx gd (hx _ _ c_require) (as_cons (k_ch .le .le k_i (k_v gd 7 (by decide +kernel)) (k_gi gd 99 (by decide +kernel))) (as_cons k_s (as_cons (k_v gd 3 (by decide +kernel)) as_nil rfl) rfl) rfl) (by decide +kernel)))
    ss_nil)))) (by decide +kernel))
    ss_nil)))))

/-! _law_raised(terrain): {} -/
def nm__law_raised : List Str := [(PySem.Str.ofString "terrain"), (PySem.Str.ofString "e")]
theorem sc__law_raised : FnScope nm__law_raised [(PySem.Str.ofString "terrain")] (defScope (topS 23)) := ⟨rfl, rfl, rfl, by decide +kernel, rfl, by decide +kernel, by decide +kernel⟩
def sg__law_raised : Sig := ⟨[.fro], .fro⟩
def ir__law_raised : Ss := (.cons (.tr (.cons (.ifx true (PySem.Str.ofString "check_terrain") (.cons (.v 0) .nil) (.cons (.ret (.tup (.cons (.k (.str (PySem.Str.ofString "answer"))) (.cons (.k (.int 0)) .nil)))) .nil) .nil) .nil) (PySem.Str.ofString "TerrainError") 1 (.ret (.tup (.cons (.xf (PySem.Str.ofString "rule")) (.cons (.xf (PySem.Str.ofString "index")) .nil))))) (.cons (.ret (.tup (.cons (.k (.str (PySem.Str.ofString ""))) (.cons (.k (.int 0)) .nil)))) .nil))
def fx__law_raised (Φ : Cf) : List D → Option (D × List D) := evF Φ sg__law_raised.ps 2 ir__law_raised
theorem ok__law_raised {Φ : Cf} {f : Addr} {fd : FuncData} {k : Nat} (F : Fun K (PySem.Str.ofString "_law_raised") (PySem.Str.ofString "_law_raised") (topS 23) f fd) (hbl : ∀ x, x ∈ blAll → mg x = none) (q_TerrainError : KlsAt P K mg (PySem.Str.ofString "TerrainError")) (hk2 : 2 ≤ k) (c_check_terrain : CalleeX P w K mg base Φ k (PySem.Str.ofString "check_terrain") sg_check_terrain) :
    FnOk P w K mg base CX0 (k + 1) f fd [(PySem.Str.ofString "terrain")] (spI K sg__law_raised (fx__law_raised Φ)) :=
  fn_sound F sc__law_raised sg__law_raised [.fro] ir__law_raised (by decide +kernel) hbl [] (by simp) fun X gd hc hx hk wx gx fr hp =>
    (ss_cons (s_tr (i := 1) gx gd hp (hk _ q_TerrainError hk2) (by decide +kernel) (fun _ gd1 cv1 xv1 kv1 _ gx1 => (ss_cons (s_ifx true (e_cx gx1 gd1 (xv1 _ _ (hx _ _ c_check_terrain)) (as_cons (k_v gd1 0 (by decide +kernel)) as_nil rfl) (by decide +kernel)) (ss_cons (s_ret (e_tup (as_cons k_s (as_cons k_i as_nil rfl) rfl)))
    ss_nil) ss_nil)
    ss_nil)) (fun _ kc _ _ _ _ hz hf => (hb_ret (h_tup (hs_cons (k_xf1 gd kc hz hf (by decide +kernel)) (hs_cons (k_xf2 gd kc hz hf (by decide +kernel)) hs_nil rfl) rfl)))))
    (ss_cons (s_ret (e_tup (as_cons k_s (as_cons k_i as_nil rfl) rfl)))
    ss_nil))

/-! other_end(terrain, track, start): {} -/
def nm_other_end : List Str := [(PySem.Str.ofString "terrain"), (PySem.Str.ofString "track"), (PySem.Str.ofString "start"), (PySem.Str.ofString "one"), (PySem.Str.ofString "other"), (PySem.Str.ofString "_")]
theorem sc_other_end : FnScope nm_other_end [(PySem.Str.ofString "terrain"), (PySem.Str.ofString "track"), (PySem.Str.ofString "start")] (defScope (topS 10)) := ⟨rfl, rfl, rfl, by decide +kernel, rfl, by decide +kernel, by decide +kernel⟩
def sg_other_end : Sig := ⟨[.fro, .fro, .fro], .fro⟩
def ir_other_end : Ss := (.cons (.unp (.t (.cons (.n 3) (.cons (.n 4) (.cons (.n 5) .nil)))) (.ix (.e (.ix (.e (.v 0)) (.k (.int 1)))) (.v 1))) (.cons (.ret (.ife (.e (.eq false (.v 2) (.v 3))) (.v 4) (.v 3))) .nil))
def fx_other_end (Φ : Cf) : List D → Option (D × List D) := evF Φ sg_other_end.ps 6 ir_other_end
theorem ok_other_end {Φ : Cf} {f : Addr} {fd : FuncData} {k : Nat} (F : Fun K (PySem.Str.ofString "other_end") (PySem.Str.ofString "other_end") (topS 10) f fd) (hbl : ∀ x, x ∈ blAll → mg x = none) :
    FnOk P w K mg base CX0 (k + 1) f fd [(PySem.Str.ofString "terrain"), (PySem.Str.ofString "track"), (PySem.Str.ofString "start")] (spI K sg_other_end (fx_other_end Φ)) :=
  fn_sound F sc_other_end sg_other_end [.fro, .fro, .fro] ir_other_end (by decide +kernel) hbl [] (by simp) fun X gd hc hx hk wx gx fr hp =>
    (ss_cons (k_unp (k_gt gd (gs_cons (k_gn gd hp 3 (by decide +kernel)) (gs_cons (k_gn gd hp 4 (by decide +kernel)) (gs_cons (k_gn gd hp 5 (by decide +kernel)) gs_nil rfl) rfl) rfl) (by decide +kernel)) (e_ix (o_e (e_ix (o_e (k_v gd 0 (by decide +kernel))) k_i rfl)) (k_v gd 1 (by decide +kernel)) rfl) (by decide +kernel))
    (ss_cons (s_ret (e_ife (k_eqT gd false (k_v gd 2 (by decide +kernel)) (k_v gd 3 (by decide +kernel))) (k_v gd 4 (by decide +kernel)) (k_v gd 3 (by decide +kernel))))
    ss_nil))

/-! track_time(terrain, kind, track, start): {} -/
def nm_track_time : List Str := [(PySem.Str.ofString "terrain"), (PySem.Str.ofString "kind"), (PySem.Str.ofString "track"), (PySem.Str.ofString "start"), (PySem.Str.ofString "heights"), (PySem.Str.ofString "tracks"), (PySem.Str.ofString "pace"), (PySem.Str.ofString "steep"), (PySem.Str.ofString "climb")]
theorem sc_track_time : FnScope nm_track_time [(PySem.Str.ofString "terrain"), (PySem.Str.ofString "kind"), (PySem.Str.ofString "track"), (PySem.Str.ofString "start")] (defScope (topS 11)) := ⟨rfl, rfl, rfl, by decide +kernel, rfl, by decide +kernel, by decide +kernel⟩
def sg_track_time : Sig := ⟨[.fro, .fro, .fro, .fro], .fro⟩
def ir_track_time : Ss := (.cons (.unp (.t (.cons (.n 4) (.cons (.n 5) .nil))) (.v 0)) (.cons (.unp (.t (.cons (.n 6) (.cons (.n 7) .nil))) (.v 1)) (.cons (.set 8 (.b2 .mx (.k (.int 0)) (.ar .sub (.ix (.e (.v 4)) (.call (PySem.Str.ofString "other_end") (.fr (.v 0) (.fr (.v 2) (.fr (.v 3) .nil))))) (.ix (.e (.v 4)) (.v 3))))) (.cons (.ret (.ar .add (.ar .mul (.ix (.e (.ix (.e (.v 5)) (.v 2))) (.k (.int 2))) (.v 6)) (.ar .mul (.v 8) (.v 7)))) .nil))))
def fx_track_time (Φ : Cf) : List D → Option (D × List D) := evF Φ sg_track_time.ps 9 ir_track_time
theorem ok_track_time {Φ : Cf} {f : Addr} {fd : FuncData} {k : Nat} (F : Fun K (PySem.Str.ofString "track_time") (PySem.Str.ofString "track_time") (topS 11) f fd) (hbl : ∀ x, x ∈ blAll → mg x = none) (c_other_end : Callee P w K mg base Φ k (PySem.Str.ofString "other_end") sg_other_end) :
    FnOk P w K mg base CX0 (k + 1) f fd [(PySem.Str.ofString "terrain"), (PySem.Str.ofString "kind"), (PySem.Str.ofString "track"), (PySem.Str.ofString "start")] (spI K sg_track_time (fx_track_time Φ)) :=
  fn_sound F sc_track_time sg_track_time [.fro, .fro, .fro, .fro, .fro] ir_track_time (by decide +kernel) hbl [] (by simp) fun X gd hc hx hk wx gx fr hp =>
    (ss_cons (k_unp (k_gt gd (gs_cons (k_gn gd hp 4 (by decide +kernel)) (gs_cons (k_gn gd hp 5 (by decide +kernel)) gs_nil rfl) rfl) (by decide +kernel)) (k_v gd 0 (by decide +kernel)) (by decide +kernel))
    (ss_cons (k_unp (k_gt gd (gs_cons (k_gn gd hp 6 (by decide +kernel)) (gs_cons (k_gn gd hp 7 (by decide +kernel)) gs_nil rfl) rfl) (by decide +kernel)) (k_v gd 1 (by decide +kernel)) (by decide +kernel))
    (ss_cons (k_set gd hp 8 .fro (k_b2 gd .mx k_i (e_ar .sub (e_ix (o_e (k_v gd 4 (by decide +kernel))) (k_call gd (hc _ _ c_other_end) (a_fr (k_v gd 0 (by decide +kernel)) (a_fr (k_v gd 2 (by decide +kernel)) (a_fr (k_v gd 3 (by decide +kernel)) a_nil rfl) rfl) rfl) (by decide +kernel)) rfl) (e_ix (o_e (k_v gd 4 (by decide +kernel))) (k_v gd 3 (by decide +kernel)) rfl)) (by decide +kernel)) (by decide +kernel))
    (ss_cons (s_ret (e_ar .add (e_ar .mul (e_ix (o_e (e_ix (o_e (k_v gd 5 (by decide +kernel))) (k_v gd 2 (by decide +kernel)) rfl)) k_i rfl) (k_v gd 6 (by decide +kernel))) (e_ar .mul (k_v gd 8 (by decide +kernel)) (k_v gd 7 (by decide +kernel)))))
    ss_nil))))

/-! ways_from(terrain, shut, start): {'found': "('lst', 'fro')"} -/
def nm_ways_from : List Str := [(PySem.Str.ofString "terrain"), (PySem.Str.ofString "shut"), (PySem.Str.ofString "start"), (PySem.Str.ofString "found"), (PySem.Str.ofString "track"), (PySem.Str.ofString "one"), (PySem.Str.ofString "other"), (PySem.Str.ofString "_")]
theorem sc_ways_from : FnScope nm_ways_from [(PySem.Str.ofString "terrain"), (PySem.Str.ofString "shut"), (PySem.Str.ofString "start")] (defScope (topS 12)) := ⟨rfl, rfl, rfl, by decide +kernel, rfl, by decide +kernel, by decide +kernel⟩
def sg_ways_from : Sig := ⟨[.fro, .fro, .fro], .fro⟩
def ir_ways_from : Ss := (.cons (.set 3 (.lst .nil)) (.cons (.for (.t (.cons (.n 4) (.cons (.t (.cons (.n 5) (.cons (.n 6) (.cons (.n 7) .nil)))) .nil))) (.en (.e (.ix (.e (.v 0)) (.k (.int 1))))) (.cons (.ife (.an (.e (.inn true (.v 4) (.e (.v 1)))) (.e (.inn false (.v 2) (.e (.tup (.cons (.v 5) (.cons (.v 6) .nil))))))) (.cons (.app 3 (.tup (.cons (.v 4) (.cons (.call (PySem.Str.ofString "other_end") (.fr (.v 0) (.fr (.v 4) (.fr (.v 2) .nil)))) .nil)))) .nil) .nil) .nil)) (.fz 3 (.cons (.ret (.v 3)) .nil))))
def fx_ways_from (Φ : Cf) : List D → Option (D × List D) := evF Φ sg_ways_from.ps 8 ir_ways_from
theorem ok_ways_from {Φ : Cf} {f : Addr} {fd : FuncData} {k : Nat} (F : Fun K (PySem.Str.ofString "ways_from") (PySem.Str.ofString "ways_from") (topS 12) f fd) (hbl : ∀ x, x ∈ blAll → mg x = none) (c_other_end : Callee P w K mg base Φ k (PySem.Str.ofString "other_end") sg_other_end) :
    FnOk P w K mg base CX0 (k + 1) f fd [(PySem.Str.ofString "terrain"), (PySem.Str.ofString "shut"), (PySem.Str.ofString "start")] (spI K sg_ways_from (fx_ways_from Φ)) :=
  fn_sound F sc_ways_from sg_ways_from [(.lst .fro), .fro, .fro, .fro, .fro] ir_ways_from (by decide +kernel) hbl [] (by simp) fun X gd hc hx hk wx gx fr hp =>
    (ss_cons (k_set gd hp 3 (.lst .fro) (e_lst (t := .fro) (.inl rfl) as_nil) (by decide +kernel))
    (ss_cons (k_for gd hp [] (k_en gd (w_e (e_ix (o_e (k_v gd 0 (by decide +kernel))) k_i rfl)) (by decide +kernel)) (fun fr1 hp1 => (k_gt gd (gs_cons (k_gn gd hp1 4 (by decide +kernel)) (gs_cons (k_gt gd (gs_cons (k_gn gd hp1 5 (by decide +kernel)) (gs_cons (k_gn gd hp1 6 (by decide +kernel)) (gs_cons (k_gn gd hp1 7 (by decide +kernel)) gs_nil rfl) rfl) rfl) (by decide +kernel)) gs_nil rfl) rfl) (by decide +kernel))) (fun fr1 hp1 => (ss_cons (s_ife (PW.pt (w_an (k_inT true (k_v gd 4 (by decide +kernel)) (o_e (k_v gd 1 (by decide +kernel))) rfl) (pw_and1 (k_inT false (k_v gd 2 (by decide +kernel)) (o_e (e_tup (as_cons (k_v gd 5 (by decide +kernel)) (as_cons (k_v gd 6 (by decide +kernel)) as_nil rfl) rfl))) rfl)))) (ss_cons (k_app gd 3 (e_tup (as_cons (k_v gd 4 (by decide +kernel)) (as_cons (k_call gd (hc _ _ c_other_end) (a_fr (k_v gd 0 (by decide +kernel)) (a_fr (k_v gd 4 (by decide +kernel)) (a_fr (k_v gd 2 (by decide +kernel)) a_nil rfl) rfl) rfl) (by decide +kernel)) as_nil rfl) rfl)) (by decide +kernel))
    ss_nil) ss_nil)
    ss_nil)) (by decide +kernel))
    (ss_fz 3 (ss_cons (s_ret (k_v gd 3 (by decide +kernel)))
    ss_nil))))

/-! walked(terrain, kind, shut, start, route): {} -/
def nm_walked : List Str := [(PySem.Str.ofString "terrain"), (PySem.Str.ofString "kind"), (PySem.Str.ofString "shut"), (PySem.Str.ofString "start"), (PySem.Str.ofString "route"), (PySem.Str.ofString "time"), (PySem.Str.ofString "point"), (PySem.Str.ofString "track"), (PySem.Str.ofString "ways"), (PySem.Str.ofString "one"), (PySem.Str.ofString "goal")]
theorem sc_walked : FnScope nm_walked [(PySem.Str.ofString "terrain"), (PySem.Str.ofString "kind"), (PySem.Str.ofString "shut"), (PySem.Str.ofString "start"), (PySem.Str.ofString "route")] (defScope (topS 13)) := ⟨rfl, rfl, rfl, by decide +kernel, rfl, by decide +kernel, by decide +kernel⟩
def sg_walked : Sig := ⟨[.fro, .fro, .fro, .fro, .fro], .fro⟩
def ir_walked : Ss := (.cons (.set 5 (.k (.int 0))) (.cons (.set 6 (.v 3)) (.cons (.for (.n 7) (.o (.e (.v 4))) (.cons (.set 8 (.comp (.v 10) (.t (.cons (.n 9) (.cons (.n 10) .nil))) (.o (.e (.call (PySem.Str.ofString "ways_from") (.fr (.v 0) (.fr (.v 2) (.fr (.v 6) .nil)))))) (.so (.e (.eq false (.v 9) (.v 7)))) [9, 10])) (.cons (.ife (.e (.eq false (.b1 .len (.e (.v 8))) (.k (.int 0)))) (.cons (.ret (.k .none)) .nil) .nil) (.cons (.aug 5 .add (.call (PySem.Str.ofString "track_time") (.fr (.v 0) (.fr (.v 1) (.fr (.v 7) (.fr (.v 6) .nil)))))) (.cons (.set 6 (.ix (.e (.v 8)) (.k (.int 0)))) .nil))))) (.cons (.ret (.tup (.cons (.v 5) (.cons (.v 6) .nil)))) .nil))))
def fx_walked (Φ : Cf) : List D → Option (D × List D) := evF Φ sg_walked.ps 11 ir_walked
theorem ok_walked {Φ : Cf} {f : Addr} {fd : FuncData} {k : Nat} (F : Fun K (PySem.Str.ofString "walked") (PySem.Str.ofString "walked") (topS 13) f fd) (hbl : ∀ x, x ∈ blAll → mg x = none) (c_ways_from : Callee P w K mg base Φ k (PySem.Str.ofString "ways_from") sg_ways_from) (c_track_time : Callee P w K mg base Φ k (PySem.Str.ofString "track_time") sg_track_time) :
    FnOk P w K mg base CX0 (k + 1) f fd [(PySem.Str.ofString "terrain"), (PySem.Str.ofString "kind"), (PySem.Str.ofString "shut"), (PySem.Str.ofString "start"), (PySem.Str.ofString "route")] (spI K sg_walked (fx_walked Φ)) :=
  fn_sound F sc_walked sg_walked [.fro, .fro, .fro, .fro, .fro, .fro] ir_walked (by decide +kernel) hbl [] (by simp) fun X gd hc hx hk wx gx fr hp =>
    (ss_cons (k_set gd hp 5 .fro k_i (by decide +kernel))
    (ss_cons (k_set gd hp 6 .fro (k_v gd 3 (by decide +kernel)) (by decide +kernel))
    (ss_cons (k_for gd hp [] (it_o (w_e (k_v gd 4 (by decide +kernel)))) (fun fr1 hp1 => (k_gn gd hp1 7 (by decide +kernel))) (fun fr1 hp1 => (ss_cons (k_setC gd hp1 8 .fro [] [(PySem.Str.ofString "one", 9), (PySem.Str.ofString "goal", 10)] (t := .fro) (.inr ⟨rfl, rfl⟩) (by decide +kernel) (it_o (w_e (k_call gd (hc _ _ c_ways_from) (a_fr (k_v gd 0 (by decide +kernel)) (a_fr (k_v gd 2 (by decide +kernel)) (a_fr (k_v gd 6 (by decide +kernel)) a_nil rfl) rfl) rfl) (by decide +kernel)))) (fun _ gd2 cv2 fr2 hp2 => (k_gt gd2 (gs_cons (k_gn gd2 hp2 9 (by decide +kernel)) (gs_cons (k_gn gd2 hp2 10 (by decide +kernel)) gs_nil rfl) rfl) (by decide +kernel))) (fun _ gd2 cv2 => pc_so fun fr2 hp2 => (k_eqT gd2 false (k_v gd2 9 (by decide +kernel)) (k_v gd2 7 (by decide +kernel)))) (fun _ gd2 cv2 fr2 hp2 => (k_v gd2 10 (by decide +kernel))))
    (ss_cons (s_ife (k_eqT gd false (k_b1 gd .len (o_e (k_v gd 8 (by decide +kernel))) (by decide +kernel)) k_i) (ss_cons (s_ret k_n)
    ss_nil) ss_nil)
    (ss_cons (k_aug gd hp1 5 .add (k_call gd (hc _ _ c_track_time) (a_fr (k_v gd 0 (by decide +kernel)) (a_fr (k_v gd 1 (by decide +kernel)) (a_fr (k_v gd 7 (by decide +kernel)) (a_fr (k_v gd 6 (by decide +kernel)) a_nil rfl) rfl) rfl) rfl) (by decide +kernel)) (by decide +kernel))
    (ss_cons (k_set gd hp1 6 .fro (e_ix (o_e (k_v gd 8 (by decide +kernel))) k_i rfl) (by decide +kernel))
    ss_nil))))) (by decide +kernel))
    (ss_cons (s_ret (e_tup (as_cons (k_v gd 5 (by decide +kernel)) (as_cons (k_v gd 6 (by decide +kernel)) as_nil rfl) rfl)))
    ss_nil))))

/-! _law_ways(terrain, shut, start): {'found': "('lst', 'fro')"} -/
def nm__law_ways : List Str := [(PySem.Str.ofString "terrain"), (PySem.Str.ofString "shut"), (PySem.Str.ofString "start"), (PySem.Str.ofString "found"), (PySem.Str.ofString "k"), (PySem.Str.ofString "one"), (PySem.Str.ofString "other"), (PySem.Str.ofString "flat")]
theorem sc__law_ways : FnScope nm__law_ways [(PySem.Str.ofString "terrain"), (PySem.Str.ofString "shut"), (PySem.Str.ofString "start")] (defScope (topS 22)) := ⟨rfl, rfl, rfl, by decide +kernel, rfl, by decide +kernel, by decide +kernel⟩
def sg__law_ways : Sig := ⟨[.fro, .fro, .fro], .fro⟩
def ir__law_ways : Ss := (.cons (.set 3 (.lst .nil)) (.cons (.for (.n 4) (.r1 (.b1 .len (.e (.ix (.e (.v 0)) (.k (.int 1)))))) (.cons (.unp (.t (.cons (.n 5) (.cons (.n 6) (.cons (.n 7) .nil)))) (.ix (.e (.ix (.e (.v 0)) (.k (.int 1)))) (.v 4))) (.cons (.ife (.an (.e (.inn true (.v 4) (.e (.v 1)))) (.e (.inn false (.v 2) (.e (.lst (.cons (.v 5) (.cons (.v 6) .nil))))))) (.cons (.app 3 (.tup (.cons (.v 4) (.cons (.ar .sub (.ar .add (.v 5) (.v 6)) (.v 2)) .nil)))) .nil) .nil) .nil))) (.fz 3 (.cons (.ret (.v 3)) .nil))))
def fx__law_ways (Φ : Cf) : List D → Option (D × List D) := evF Φ sg__law_ways.ps 8 ir__law_ways
theorem ok__law_ways {Φ : Cf} {f : Addr} {fd : FuncData} {k : Nat} (F : Fun K (PySem.Str.ofString "_law_ways") (PySem.Str.ofString "_law_ways") (topS 22) f fd) (hbl : ∀ x, x ∈ blAll → mg x = none) :
    FnOk P w K mg base CX0 (k + 1) f fd [(PySem.Str.ofString "terrain"), (PySem.Str.ofString "shut"), (PySem.Str.ofString "start")] (spI K sg__law_ways (fx__law_ways Φ)) :=
  fn_sound F sc__law_ways sg__law_ways [(.lst .fro), .fro, .fro, .fro, .fro] ir__law_ways (by decide +kernel) hbl [] (by simp) fun X gd hc hx hk wx gx fr hp =>
    (ss_cons (k_set gd hp 3 (.lst .fro) (e_lst (t := .fro) (.inl rfl) as_nil) (by decide +kernel))
    (ss_cons (k_for gd hp [] (k_r1 gd (k_b1 gd .len (o_e (e_ix (o_e (k_v gd 0 (by decide +kernel))) k_i rfl)) (by decide +kernel)) (by decide +kernel)) (fun fr1 hp1 => (k_gn gd hp1 4 (by decide +kernel))) (fun fr1 hp1 => (ss_cons (k_unp (k_gt gd (gs_cons (k_gn gd hp1 5 (by decide +kernel)) (gs_cons (k_gn gd hp1 6 (by decide +kernel)) (gs_cons (k_gn gd hp1 7 (by decide +kernel)) gs_nil rfl) rfl) rfl) (by decide +kernel)) (e_ix (o_e (e_ix (o_e (k_v gd 0 (by decide +kernel))) k_i rfl)) (k_v gd 4 (by decide +kernel)) rfl) (by decide +kernel))
    (ss_cons (s_ife (PW.pt (w_an (k_inT true (k_v gd 4 (by decide +kernel)) (o_e (k_v gd 1 (by decide +kernel))) rfl) (pw_and1 (k_inT false (k_v gd 2 (by decide +kernel)) (o_e (e_lst (t := .fro) (.inr ⟨rfl, rfl⟩) (as_cons (k_v gd 5 (by decide +kernel)) (as_cons (k_v gd 6 (by decide +kernel)) as_nil rfl) rfl))) rfl)))) (ss_cons (k_app gd 3 (e_tup (as_cons (k_v gd 4 (by decide +kernel)) (as_cons (e_ar .sub (e_ar .add (k_v gd 5 (by decide +kernel)) (k_v gd 6 (by decide +kernel))) (k_v gd 2 (by decide +kernel))) as_nil rfl) rfl)) (by decide +kernel))
    ss_nil) ss_nil)
    ss_nil))) (by decide +kernel))
    (ss_fz 3 (ss_cons (s_ret (k_v gd 3 (by decide +kernel)))
    ss_nil))))

/-! _law_time(terrain, kind, track, start): {} -/
def nm__law_time : List Str := [(PySem.Str.ofString "terrain"), (PySem.Str.ofString "kind"), (PySem.Str.ofString "track"), (PySem.Str.ofString "start"), (PySem.Str.ofString "one"), (PySem.Str.ofString "other"), (PySem.Str.ofString "flat"), (PySem.Str.ofString "goal"), (PySem.Str.ofString "climb")]
theorem sc__law_time : FnScope nm__law_time [(PySem.Str.ofString "terrain"), (PySem.Str.ofString "kind"), (PySem.Str.ofString "track"), (PySem.Str.ofString "start")] (defScope (topS 21)) := ⟨rfl, rfl, rfl, by decide +kernel, rfl, by decide +kernel, by decide +kernel⟩
def sg__law_time : Sig := ⟨[.fro, .fro, .fro, .fro], .fro⟩
def ir__law_time : Ss := (.cons (.unp (.t (.cons (.n 4) (.cons (.n 5) (.cons (.n 6) .nil)))) (.ix (.e (.ix (.e (.v 0)) (.k (.int 1)))) (.v 2))) (.cons (.set 7 (.ar .sub (.ar .add (.v 4) (.v 5)) (.v 3))) (.cons (.set 8 (.ar .sub (.ix (.e (.ix (.e (.v 0)) (.k (.int 0)))) (.v 7)) (.ix (.e (.ix (.e (.v 0)) (.k (.int 0)))) (.v 3)))) (.cons (.ret (.ar .add (.ar .mul (.v 6) (.ix (.e (.v 1)) (.k (.int 0)))) (.ife (.e (.cm .gt (.v 8) (.k (.int 0)))) (.ar .mul (.v 8) (.ix (.e (.v 1)) (.k (.int 1)))) (.k (.int 0))))) .nil))))
def fx__law_time (Φ : Cf) : List D → Option (D × List D) := evF Φ sg__law_time.ps 9 ir__law_time
theorem ok__law_time {Φ : Cf} {f : Addr} {fd : FuncData} {k : Nat} (F : Fun K (PySem.Str.ofString "_law_time") (PySem.Str.ofString "_law_time") (topS 21) f fd) (hbl : ∀ x, x ∈ blAll → mg x = none) :
    FnOk P w K mg base CX0 (k + 1) f fd [(PySem.Str.ofString "terrain"), (PySem.Str.ofString "kind"), (PySem.Str.ofString "track"), (PySem.Str.ofString "start")] (spI K sg__law_time (fx__law_time Φ)) :=
  fn_sound F sc__law_time sg__law_time [.fro, .fro, .fro, .fro, .fro] ir__law_time (by decide +kernel) hbl [] (by simp) fun X gd hc hx hk wx gx fr hp =>
    (ss_cons (k_unp (k_gt gd (gs_cons (k_gn gd hp 4 (by decide +kernel)) (gs_cons (k_gn gd hp 5 (by decide +kernel)) (gs_cons (k_gn gd hp 6 (by decide +kernel)) gs_nil rfl) rfl) rfl) (by decide +kernel)) (e_ix (o_e (e_ix (o_e (k_v gd 0 (by decide +kernel))) k_i rfl)) (k_v gd 2 (by decide +kernel)) rfl) (by decide +kernel))
    (ss_cons (k_set gd hp 7 .fro (e_ar .sub (e_ar .add (k_v gd 4 (by decide +kernel)) (k_v gd 5 (by decide +kernel))) (k_v gd 3 (by decide +kernel))) (by decide +kernel))
    (ss_cons (k_set gd hp 8 .fro (e_ar .sub (e_ix (o_e (e_ix (o_e (k_v gd 0 (by decide +kernel))) k_i rfl)) (k_v gd 7 (by decide +kernel)) rfl) (e_ix (o_e (e_ix (o_e (k_v gd 0 (by decide +kernel))) k_i rfl)) (k_v gd 3 (by decide +kernel)) rfl)) (by decide +kernel))
    (ss_cons (s_ret (e_ar .add (e_ar .mul (k_v gd 6 (by decide +kernel)) (e_ix (o_e (k_v gd 1 (by decide +kernel))) k_i rfl)) (e_ife (k_cmT .gt (k_v gd 8 (by decide +kernel)) k_i) (e_ar .mul (k_v gd 8 (by decide +kernel)) (e_ix (o_e (k_v gd 1 (by decide +kernel))) k_i rfl)) k_i)))
    ss_nil))))

/-! _law_walks_right(state, terrain, kind, shut): {'state': "('lst', ('lst', 'fro'))", 'route': "('lst', 'fro')"} -/
def nm__law_walks_right : List Str := [(PySem.Str.ofString "state"), (PySem.Str.ofString "terrain"), (PySem.Str.ofString "kind"), (PySem.Str.ofString "shut"), (PySem.Str.ofString "start"), (PySem.Str.ofString "point"), (PySem.Str.ofString "time"), (PySem.Str.ofString "route"), (PySem.Str.ofString "turn"), (PySem.Str.ofString "ways"), (PySem.Str.ofString "track"), (PySem.Str.ofString "goal"), (PySem.Str.ofString "tracks"), (PySem.Str.ofString "wrong"), (PySem.Str.ofString "told"), (PySem.Str.ofString "one"), (PySem.Str.ofString "other"), (PySem.Str.ofString "flat")]
theorem sc__law_walks_right : FnScope nm__law_walks_right [(PySem.Str.ofString "state"), (PySem.Str.ofString "terrain"), (PySem.Str.ofString "kind"), (PySem.Str.ofString "shut")] (defScope (topS 26)) := ⟨rfl, rfl, rfl, by decide +kernel, rfl, by decide +kernel, by decide +kernel⟩
def sg__law_walks_right : Sig := ⟨[(.lst (.lst .fro)), .fro, .fro, .fro], .fro⟩
def ir__law_walks_right : Ss := (.cons (.set 4 (.call (PySem.Str.ofString "_law_draw") (.io 0 (.fr (.b1 .len (.e (.ix (.e (.v 1)) (.k (.int 0))))) .nil)))) (.cons (.par 5 6 (.v 4) (.k (.int 0))) (.cons (.set 7 (.lst .nil)) (.cons (.for (.n 8) (.r1 (.call (PySem.Str.ofString "_law_draw") (.io 0 (.fr (.k (.int 9)) .nil)))) (.cons (.set 9 (.call (PySem.Str.ofString "_law_ways") (.fr (.v 1) (.fr (.v 3) (.fr (.v 5) .nil))))) (.cons (.ife (.e (.eq true (.v 9) (.lst .nil))) (.cons (.unp (.t (.cons (.n 10) (.cons (.n 11) .nil))) (.call (PySem.Str.ofString "_law_pick") (.io 0 (.fr (.v 9) .nil)))) (.cons (.ife (.e (.eq true (.call (PySem.Str.ofString "track_time") (.fr (.v 1) (.fr (.v 2) (.fr (.v 10) (.fr (.v 5) .nil))))) (.call (PySem.Str.ofString "_law_time") (.fr (.v 1) (.fr (.v 2) (.fr (.v 10) (.fr (.v 5) .nil))))))) (.cons (.ret (.k (.bool false))) .nil) .nil) (.cons (.set 6 (.ar .add (.v 6) (.call (PySem.Str.ofString "_law_time") (.fr (.v 1) (.fr (.v 2) (.fr (.v 10) (.fr (.v 5) .nil))))))) (.cons (.app 7 (.v 10)) (.cons (.set 5 (.v 11)) .nil))))) .nil) .nil))) (.fz 7 (.cons (.ife (.e (.eq true (.call (PySem.Str.ofString "walked") (.fr (.v 1) (.fr (.v 2) (.fr (.v 3) (.fr (.v 4) (.fr (.b1 .lst (.e (.v 7))) .nil)))))) (.tup (.cons (.v 6) (.cons (.v 5) .nil))))) (.cons (.ret (.k (.bool false))) .nil) .nil) (.cons (.set 12 (.comp (.v 10) (.t (.cons (.n 10) (.cons (.n 11) .nil))) (.o (.e (.call (PySem.Str.ofString "_law_ways") (.fr (.v 1) (.fr (.v 3) (.fr (.v 5) .nil)))))) .no [10, 11])) (.cons (.set 13 (.call (PySem.Str.ofString "_law_pick") (.io 0 (.fr (.lcat (.e (.lst (.cons (.neg (.k (.int 1))) (.cons (.b1 .len (.e (.ix (.e (.v 1)) (.k (.int 1))))) (.cons (.call (PySem.Str.ofString "_law_draw") (.io 0 (.fr (.k (.int 60)) .nil))) .nil))))) (.e (.b1 .lst (.e (.v 3))))) .nil)))) (.cons (.set 14 (.call (PySem.Str.ofString "walked") (.fr (.v 1) (.fr (.v 2) (.fr (.v 3) (.fr (.v 4) (.fr (.lcat (.e (.v 7)) (.e (.lst (.cons (.v 13) .nil)))) .nil))))))) (.cons (.ife (.e (.inn true (.v 13) (.e (.v 12)))) (.cons (.ret (.isn false (.v 14))) .nil) .nil) (.cons (.unp (.t (.cons (.n 15) (.cons (.n 16) (.cons (.n 17) .nil)))) (.ix (.e (.ix (.e (.v 1)) (.k (.int 1)))) (.v 13))) (.cons (.ret (.eq false (.v 14) (.tup (.cons (.ar .add (.v 6) (.call (PySem.Str.ofString "_law_time") (.fr (.v 1) (.fr (.v 2) (.fr (.v 13) (.fr (.v 5) .nil)))))) (.cons (.ar .sub (.ar .add (.v 15) (.v 16)) (.v 5)) .nil))))) .nil))))))))))))
def fx__law_walks_right (Φ : Cf) : List D → Option (D × List D) := evF Φ sg__law_walks_right.ps 18 ir__law_walks_right
theorem ok__law_walks_right {Φ : Cf} {f : Addr} {fd : FuncData} {k : Nat} (F : Fun K (PySem.Str.ofString "_law_walks_right") (PySem.Str.ofString "_law_walks_right") (topS 26) f fd) (hbl : ∀ x, x ∈ blAll → mg x = none) (c__law_draw : Callee P w K mg base Φ k (PySem.Str.ofString "_law_draw") sg__law_draw) (c__law_ways : Callee P w K mg base Φ k (PySem.Str.ofString "_law_ways") sg__law_ways) (c__law_pick : Callee P w K mg base Φ k (PySem.Str.ofString "_law_pick") sg__law_pick) (c_track_time : Callee P w K mg base Φ k (PySem.Str.ofString "track_time") sg_track_time) (c__law_time : Callee P w K mg base Φ k (PySem.Str.ofString "_law_time") sg__law_time) (c_walked : Callee P w K mg base Φ k (PySem.Str.ofString "walked") sg_walked) :
    FnOk P w K mg base CX0 (k + 1) f fd [(PySem.Str.ofString "state"), (PySem.Str.ofString "terrain"), (PySem.Str.ofString "kind"), (PySem.Str.ofString "shut")] (spI K sg__law_walks_right (fx__law_walks_right Φ)) :=
  fn_sound F sc__law_walks_right sg__law_walks_right [.fro, .fro, .fro, (.lst .fro), .fro, .fro, .fro, .fro, .fro, .fro, .fro, .fro, .fro, .fro] ir__law_walks_right (by decide +kernel) hbl [] (by simp) fun X gd hc hx hk wx gx fr hp =>
    (ss_cons (k_set gd hp 4 .fro (k_call gd (hc _ _ c__law_draw) (k_io gd 0 (by decide +kernel) (a_fr (k_b1 gd .len (o_e (e_ix (o_e (k_v gd 1 (by decide +kernel))) k_i rfl)) (by decide +kernel)) a_nil rfl)) (by decide +kernel)) (by decide +kernel))
    (ss_cons (k_par gd hp 5 6 .fro .fro (k_v gd 4 (by decide +kernel)) k_i (by decide +kernel))
    (ss_cons (k_set gd hp 7 (.lst .fro) (e_lst (t := .fro) (.inl rfl) as_nil) (by decide +kernel))
    (ss_cons (k_for gd hp [0] (k_r1 gd (k_call gd (hc _ _ c__law_draw) (k_io gd 0 (by decide +kernel) (a_fr k_i a_nil rfl)) (by decide +kernel)) (by decide +kernel)) (fun fr1 hp1 => (k_gn gd hp1 8 (by decide +kernel))) (fun fr1 hp1 => (ss_cons (k_set gd hp1 9 .fro (k_call gd (hc _ _ c__law_ways) (a_fr (k_v gd 1 (by decide +kernel)) (a_fr (k_v gd 3 (by decide +kernel)) (a_fr (k_v gd 5 (by decide +kernel)) a_nil rfl) rfl) rfl) (by decide +kernel)) (by decide +kernel))
    (ss_cons (s_ife (k_eqT gd true (k_v gd 9 (by decide +kernel)) (e_lst (t := .fro) (.inr ⟨rfl, rfl⟩) as_nil)) (ss_cons (k_unp (k_gt gd (gs_cons (k_gn gd hp1 10 (by decide +kernel)) (gs_cons (k_gn gd hp1 11 (by decide +kernel)) gs_nil rfl) rfl) (by decide +kernel)) (k_call gd (hc _ _ c__law_pick) (k_io gd 0 (by decide +kernel) (a_fr (k_v gd 9 (by decide +kernel)) a_nil rfl)) (by decide +kernel)) (by decide +kernel))
    (ss_cons (s_ife (k_eqT gd true (k_call gd (hc _ _ c_track_time) (a_fr (k_v gd 1 (by decide +kernel)) (a_fr (k_v gd 2 (by decide +kernel)) (a_fr (k_v gd 10 (by decide +kernel)) (a_fr (k_v gd 5 (by decide +kernel)) a_nil rfl) rfl) rfl) rfl) (by decide +kernel)) (k_call gd (hc _ _ c__law_time) (a_fr (k_v gd 1 (by decide +kernel)) (a_fr (k_v gd 2 (by decide +kernel)) (a_fr (k_v gd 10 (by decide +kernel)) (a_fr (k_v gd 5 (by decide +kernel)) a_nil rfl) rfl) rfl) rfl) (by decide +kernel))) (ss_cons (s_ret k_b)
    ss_nil) ss_nil)
    (ss_cons (k_set gd hp1 6 .fro (e_ar .add (k_v gd 6 (by decide +kernel)) (k_call gd (hc _ _ c__law_time) (a_fr (k_v gd 1 (by decide +kernel)) (a_fr (k_v gd 2 (by decide +kernel)) (a_fr (k_v gd 10 (by decide +kernel)) (a_fr (k_v gd 5 (by decide +kernel)) a_nil rfl) rfl) rfl) rfl) (by decide +kernel))) (by decide +kernel))
    (ss_cons (k_app gd 7 (k_v gd 10 (by decide +kernel)) (by decide +kernel))
    (ss_cons (k_set gd hp1 5 .fro (k_v gd 11 (by decide +kernel)) (by decide +kernel))
    ss_nil))))) ss_nil)
    ss_nil))) (by decide +kernel))
    (ss_fz 7 (ss_cons (s_ife (k_eqT gd true (k_call gd (hc _ _ c_walked) (a_fr (k_v gd 1 (by decide +kernel)) (a_fr (k_v gd 2 (by decide +kernel)) (a_fr (k_v gd 3 (by decide +kernel)) (a_fr (k_v gd 4 (by decide +kernel)) (a_fr (k_b1 gd .lst (o_e (k_v gd 7 (by decide +kernel))) (by decide +kernel)) a_nil rfl) rfl) rfl) rfl) rfl) (by decide +kernel)) (e_tup (as_cons (k_v gd 6 (by decide +kernel)) (as_cons (k_v gd 5 (by decide +kernel)) as_nil rfl) rfl))) (ss_cons (s_ret k_b)
    ss_nil) ss_nil)
    (ss_cons (k_setC gd hp 12 .fro [0] [(PySem.Str.ofString "track", 10), (PySem.Str.ofString "goal", 11)] (t := .fro) (.inr ⟨rfl, rfl⟩) (by decide +kernel) (it_o (w_e (k_call gd (hc _ _ c__law_ways) (a_fr (k_v gd 1 (by decide +kernel)) (a_fr (k_v gd 3 (by decide +kernel)) (a_fr (k_v gd 5 (by decide +kernel)) a_nil rfl) rfl) rfl) (by decide +kernel)))) (fun _ gd2 cv2 fr2 hp2 => (k_gt gd2 (gs_cons (k_gn gd2 hp2 10 (by decide +kernel)) (gs_cons (k_gn gd2 hp2 11 (by decide +kernel)) gs_nil rfl) rfl) (by decide +kernel))) (fun _ gd2 cv2 => pc_no) (fun _ gd2 cv2 fr2 hp2 => (k_v gd2 10 (by decide +kernel))))
    (ss_cons (k_set gd hp 13 .fro (k_call gd (hc _ _ c__law_pick) (k_io gd 0 (by decide +kernel) (a_fr (e_lcat (.inr ⟨rfl, rfl⟩) (o_e (e_lst (t := .fro) (.inr ⟨rfl, rfl⟩) (as_cons (e_neg k_i) (as_cons (k_b1 gd .len (o_e (e_ix (o_e (k_v gd 1 (by decide +kernel))) k_i rfl)) (by decide +kernel)) (as_cons (k_call gd (hc _ _ c__law_draw) (k_io gd 0 (by decide +kernel) (a_fr k_i a_nil rfl)) (by decide +kernel)) as_nil rfl) rfl) rfl))) (o_e (k_b1 gd .lst (o_e (k_v gd 3 (by decide +kernel))) (by decide +kernel)))) a_nil rfl)) (by decide +kernel)) (by decide +kernel))
    (ss_cons (k_set gd hp 14 .fro (k_call gd (hc _ _ c_walked) (a_fr (k_v gd 1 (by decide +kernel)) (a_fr (k_v gd 2 (by decide +kernel)) (a_fr (k_v gd 3 (by decide +kernel)) (a_fr (k_v gd 4 (by decide +kernel)) (a_fr (e_lcat (.inr ⟨rfl, rfl⟩) (o_e (k_v gd 7 (by decide +kernel))) (o_e (e_lst (t := .fro) (.inr ⟨rfl, rfl⟩) (as_cons (k_v gd 13 (by decide +kernel)) as_nil rfl)))) a_nil rfl) rfl) rfl) rfl) rfl) (by decide +kernel)) (by decide +kernel))
    (ss_cons (s_ife (k_inT true (k_v gd 13 (by decide +kernel)) (o_e (k_v gd 12 (by decide +kernel))) rfl) (ss_cons (s_ret (k_is false (k_v gd 14 (by decide +kernel))))
    ss_nil) ss_nil)
    (ss_cons (k_unp (k_gt gd (gs_cons (k_gn gd hp 15 (by decide +kernel)) (gs_cons (k_gn gd hp 16 (by decide +kernel)) (gs_cons (k_gn gd hp 17 (by decide +kernel)) gs_nil rfl) rfl) rfl) (by decide +kernel)) (e_ix (o_e (e_ix (o_e (k_v gd 1 (by decide +kernel))) k_i rfl)) (k_v gd 13 (by decide +kernel)) rfl) (by decide +kernel))
    (ss_cons (s_ret (k_eq gd false (k_v gd 14 (by decide +kernel)) (e_tup (as_cons (e_ar .add (k_v gd 6 (by decide +kernel)) (k_call gd (hc _ _ c__law_time) (a_fr (k_v gd 1 (by decide +kernel)) (a_fr (k_v gd 2 (by decide +kernel)) (a_fr (k_v gd 13 (by decide +kernel)) (a_fr (k_v gd 5 (by decide +kernel)) a_nil rfl) rfl) rfl) rfl) (by decide +kernel))) (as_cons (e_ar .sub (e_ar .add (k_v gd 15 (by decide +kernel)) (k_v gd 16 (by decide +kernel))) (k_v gd 5 (by decide +kernel))) as_nil rfl) rfl))))
    ss_nil))))))))))))

/-! law(script): {'state': "('lst', ('lst', 'fro'))"} -/
def nm_law : List Str := [(PySem.Str.ofString "script"), (PySem.Str.ofString "state"), (PySem.Str.ofString "points"), (PySem.Str.ofString "terrain"), (PySem.Str.ofString "wrong"), (PySem.Str.ofString "rule"), (PySem.Str.ofString "index"), (PySem.Str.ofString "two"), (PySem.Str.ofString "kind"), (PySem.Str.ofString "shut")]
theorem sc_law : FnScope nm_law [(PySem.Str.ofString "script")] (defScope (topS 27)) := ⟨rfl, rfl, rfl, by decide +kernel, rfl, by decide +kernel, by decide +kernel⟩
def sg_law : Sig := ⟨[.fro], .fro⟩
def ir_law : Ss := (.cons (.set 1 (.call (PySem.Str.ofString "_law_state") (.fr (.v 0) .nil))) (.cons (.set 2 (.call (PySem.Str.ofString "_law_pick") (.io 1 (.fr (.lst (.cons (.k (.int 1)) (.cons (.k (.int 2)) (.cons (.k (.int 5)) (.cons (.k (.int 24)) .nil))))) .nil)))) (.cons (.set 3 (.call (PySem.Str.ofString "_law_terrain") (.io 1 (.fr (.v 2) (.fr (.call (PySem.Str.ofString "_law_pick") (.io 1 (.fr (.lst (.cons (.k (.int 0)) (.cons (.k (.int 4)) (.cons (.k (.int 20)) (.cons (.k (.int 60)) .nil))))) .nil))) .nil))))) (.cons (.ife (.e (.eq true (.call (PySem.Str.ofString "_law_raised") (.fr (.v 3) .nil)) (.tup (.cons (.k (.str (PySem.Str.ofString ""))) (.cons (.k (.int 0)) .nil))))) (.cons (.ret (.k (.bool false))) .nil) .nil) (.cons (.unp (.t (.cons (.n 4) (.cons (.n 5) (.cons (.n 6) .nil)))) (.call (PySem.Str.ofString "_law_broken") (.io 1 (.fr (.v 3) .nil)))) (.cons (.ife (.e (.eq true (.call (PySem.Str.ofString "_law_raised") (.fr (.v 4) .nil)) (.tup (.cons (.v 5) (.cons (.v 6) .nil))))) (.cons (.ret (.k (.bool false))) .nil) .nil) (.cons (.ife (.e (.inn false (.v 5) (.e (.lst (.cons (.k (.str (PySem.Str.ofString "track"))) (.cons (.k (.str (PySem.Str.ofString "flat"))) (.cons (.k (.str (PySem.Str.ofString "tracks"))) .nil))))))) (.cons (.set 7 (.tup (.cons (.call (PySem.Str.ofString "_law_put") (.fr (.ix (.e (.v 4)) (.k (.int 0))) (.fr (.ar .sub (.v 2) (.k (.int 1))) (.fr (.k (.int 100)) .nil)))) (.cons (.ix (.e (.v 4)) (.k (.int 1))) .nil)))) (.cons (.ife (.e (.eq true (.call (PySem.Str.ofString "_law_raised") (.fr (.v 7) .nil)) (.tup (.cons (.k (.str (PySem.Str.ofString "height"))) (.cons (.ar .sub (.v 2) (.k (.int 1))) .nil))))) (.cons (.ret (.k (.bool false))) .nil) .nil) .nil)) .nil) (.cons (.set 8 (.call (PySem.Str.ofString "_law_class") (.io 1 .nil))) (.cons (.set 9 (.call (PySem.Str.ofString "_law_shut") (.io 1 (.fr (.v 3) .nil)))) (.cons (.ret (.an (.call (PySem.Str.ofString "_law_walks_right") (.io 1 (.fr (.v 3) (.fr (.v 8) (.fr (.v 9) .nil))))) (.call (PySem.Str.ofString "_law_walks_right") (.io 1 (.fr (.v 3) (.fr (.v 8) (.fr (.tup .nil) .nil))))))) .nil))))))))))
def fx_law (Φ : Cf) : List D → Option (D × List D) := evF Φ sg_law.ps 10 ir_law
theorem ok_law {Φ : Cf} {f : Addr} {fd : FuncData} {k : Nat} (F : Fun K (PySem.Str.ofString "law") (PySem.Str.ofString "law") (topS 27) f fd) (hbl : ∀ x, x ∈ blAll → mg x = none) (c__law_state : Callee P w K mg base Φ k (PySem.Str.ofString "_law_state") sg__law_state) (c__law_pick : Callee P w K mg base Φ k (PySem.Str.ofString "_law_pick") sg__law_pick) (c__law_terrain : Callee P w K mg base Φ k (PySem.Str.ofString "_law_terrain") sg__law_terrain) (c__law_raised : Callee P w K mg base Φ k (PySem.Str.ofString "_law_raised") sg__law_raised) (c__law_broken : Callee P w K mg base Φ k (PySem.Str.ofString "_law_broken") sg__law_broken) (c__law_put : Callee P w K mg base Φ k (PySem.Str.ofString "_law_put") sg__law_put) (c__law_class : Callee P w K mg base Φ k (PySem.Str.ofString "_law_class") sg__law_class) (c__law_shut : Callee P w K mg base Φ k (PySem.Str.ofString "_law_shut") sg__law_shut) (c__law_walks_right : Callee P w K mg base Φ k (PySem.Str.ofString "_law_walks_right") sg__law_walks_right) :
    FnOk P w K mg base CX0 (k + 1) f fd [(PySem.Str.ofString "script")] (spI K sg_law (fx_law Φ)) :=
  fn_sound F sc_law sg_law [(.lst (.lst .fro)), .fro, .fro, .fro, .fro, .fro, .fro, .fro, .fro] ir_law (by decide +kernel) hbl [] (by simp) fun X gd hc hx hk wx gx fr hp =>
    (ss_cons (k_set gd hp 1 (.lst (.lst .fro)) (k_call gd (hc _ _ c__law_state) (a_fr (k_v gd 0 (by decide +kernel)) a_nil rfl) (by decide +kernel)) (by decide +kernel))
    (ss_cons (k_set gd hp 2 .fro (k_call gd (hc _ _ c__law_pick) (k_io gd 1 (by decide +kernel) (a_fr (e_lst (t := .fro) (.inr ⟨rfl, rfl⟩) (as_cons k_i (as_cons k_i (as_cons k_i (as_cons k_i as_nil rfl) rfl) rfl) rfl)) a_nil rfl)) (by decide +kernel)) (by decide +kernel))
    (ss_cons (k_set gd hp 3 .fro (k_call gd (hc _ _ c__law_terrain) (k_io gd 1 (by decide +kernel) (a_fr (k_v gd 2 (by decide +kernel)) (a_fr (k_call gd (hc _ _ c__law_pick) (k_io gd 1 (by decide +kernel) (a_fr (e_lst (t := .fro) (.inr ⟨rfl, rfl⟩) (as_cons k_i (as_cons k_i (as_cons k_i (as_cons k_i as_nil rfl) rfl) rfl) rfl)) a_nil rfl)) (by decide +kernel)) a_nil rfl) rfl)) (by decide +kernel)) (by decide +kernel))
    (ss_cons (s_ife (k_eqT gd true (k_call gd (hc _ _ c__law_raised) (a_fr (k_v gd 3 (by decide +kernel)) a_nil rfl) (by decide +kernel)) (e_tup (as_cons k_s (as_cons k_i as_nil rfl) rfl))) (ss_cons (s_ret k_b)
    ss_nil) ss_nil)
    (ss_cons (k_unp (k_gt gd (gs_cons (k_gn gd hp 4 (by decide +kernel)) (gs_cons (k_gn gd hp 5 (by decide +kernel)) (gs_cons (k_gn gd hp 6 (by decide +kernel)) gs_nil rfl) rfl) rfl) (by decide +kernel)) (k_call gd (hc _ _ c__law_broken) (k_io gd 1 (by decide +kernel) (a_fr (k_v gd 3 (by decide +kernel)) a_nil rfl)) (by decide +kernel)) (by decide +kernel))
    (ss_cons (s_ife (k_eqT gd true (k_call gd (hc _ _ c__law_raised) (a_fr (k_v gd 4 (by decide +kernel)) a_nil rfl) (by decide +kernel)) (e_tup (as_cons (k_v gd 5 (by decide +kernel)) (as_cons (k_v gd 6 (by decide +kernel)) as_nil rfl) rfl))) (ss_cons (s_ret k_b)
    ss_nil) ss_nil)
    (ss_cons (s_ife (k_inT false (k_v gd 5 (by decide +kernel)) (o_e (e_lst (t := .fro) (.inr ⟨rfl, rfl⟩) (as_cons k_s (as_cons k_s (as_cons k_s as_nil rfl) rfl) rfl))) rfl) (ss_cons (k_set gd hp 7 .fro (e_tup (as_cons (k_call gd (hc _ _ c__law_put) (a_fr (e_ix (o_e (k_v gd 4 (by decide +kernel))) k_i rfl) (a_fr (e_ar .sub (k_v gd 2 (by decide +kernel)) k_i) (a_fr k_i a_nil rfl) rfl) rfl) (by decide +kernel)) (as_cons (e_ix (o_e (k_v gd 4 (by decide +kernel))) k_i rfl) as_nil rfl) rfl)) (by decide +kernel))
    (ss_cons (s_ife (k_eqT gd true (k_call gd (hc _ _ c__law_raised) (a_fr (k_v gd 7 (by decide +kernel)) a_nil rfl) (by decide +kernel)) (e_tup (as_cons k_s (as_cons (e_ar .sub (k_v gd 2 (by decide +kernel)) k_i) as_nil rfl) rfl))) (ss_cons (s_ret k_b)
    ss_nil) ss_nil)
    ss_nil)) ss_nil)
    (ss_cons (k_set gd hp 8 .fro (k_call gd (hc _ _ c__law_class) (k_io gd 1 (by decide +kernel) a_nil) (by decide +kernel)) (by decide +kernel))
    (ss_cons (k_set gd hp 9 .fro (k_call gd (hc _ _ c__law_shut) (k_io gd 1 (by decide +kernel) (a_fr (k_v gd 3 (by decide +kernel)) a_nil rfl)) (by decide +kernel)) (by decide +kernel))
    (ss_cons (s_ret (e_an (k_call gd (hc _ _ c__law_walks_right) (k_io gd 1 (by decide +kernel) (a_fr (k_v gd 3 (by decide +kernel)) (a_fr (k_v gd 8 (by decide +kernel)) (a_fr (k_v gd 9 (by decide +kernel)) a_nil rfl) rfl) rfl)) (by decide +kernel)) (pe_one (k_call gd (hc _ _ c__law_walks_right) (k_io gd 1 (by decide +kernel) (a_fr (k_v gd 3 (by decide +kernel)) (a_fr (k_v gd 8 (by decide +kernel)) (a_fr (e_tup as_nil) a_nil rfl) rfl) rfl)) (by decide +kernel)))))
    ss_nil))))))))))

end
def cf__law_state : Cf := ⟨tab [], 1000000, tabX []⟩
def fn__law_state : List D → Option (D × List D) := fx__law_state cf__law_state
def fn__law_draw : List D → Option (D × List D) := fxDrawA
def cf__law_pick : Cf := ⟨tab [((PySem.Str.ofString "_law_draw"), fn__law_draw)], 1000000, tabX []⟩
def fn__law_pick : List D → Option (D × List D) := fx__law_pick cf__law_pick
def cf__law_terrain : Cf := ⟨tab [((PySem.Str.ofString "_law_draw"), fn__law_draw), ((PySem.Str.ofString "_law_pick"), fn__law_pick)], 1000000, tabX []⟩
def fn__law_terrain : List D → Option (D × List D) := fx__law_terrain cf__law_terrain
def cf__law_put : Cf := ⟨tab [], 1000000, tabX []⟩
def fn__law_put : List D → Option (D × List D) := fx__law_put cf__law_put
def cf__law_broken : Cf := ⟨tab [((PySem.Str.ofString "_law_draw"), fn__law_draw), ((PySem.Str.ofString "_law_pick"), fn__law_pick), ((PySem.Str.ofString "_law_put"), fn__law_put)], 1000000, tabX []⟩
def fn__law_broken : List D → Option (D × List D) := fx__law_broken cf__law_broken
def cf__law_class : Cf := ⟨tab [((PySem.Str.ofString "_law_draw"), fn__law_draw), ((PySem.Str.ofString "_law_pick"), fn__law_pick)], 1000000, tabX []⟩
def fn__law_class : List D → Option (D × List D) := fx__law_class cf__law_class
def cf__law_shut : Cf := ⟨tab [((PySem.Str.ofString "_law_draw"), fn__law_draw)], 1000000, tabX []⟩
def fn__law_shut : List D → Option (D × List D) := fx__law_shut cf__law_shut
def cf_require : Cf := ⟨tab [], 1000000, tabX []⟩
def fn_require : List D → Option Xr := fx_require cf_require
def cf_check_terrain : Cf := ⟨tab [], 1000000, tabX [((PySem.Str.ofString "require"), fn_require)]⟩
def fn_check_terrain : List D → Option Xr := fx_check_terrain cf_check_terrain
def cf__law_raised : Cf := ⟨tab [], 1000000, tabX [((PySem.Str.ofString "check_terrain"), fn_check_terrain)]⟩
def fn__law_raised : List D → Option (D × List D) := fx__law_raised cf__law_raised
def cf_other_end : Cf := ⟨tab [], 1000000, tabX []⟩
def fn_other_end : List D → Option (D × List D) := fx_other_end cf_other_end
def cf_track_time : Cf := ⟨tab [((PySem.Str.ofString "other_end"), fn_other_end)], 1000000, tabX []⟩
def fn_track_time : List D → Option (D × List D) := fx_track_time cf_track_time
def cf_ways_from : Cf := ⟨tab [((PySem.Str.ofString "other_end"), fn_other_end)], 1000000, tabX []⟩
def fn_ways_from : List D → Option (D × List D) := fx_ways_from cf_ways_from
def cf_walked : Cf := ⟨tab [((PySem.Str.ofString "ways_from"), fn_ways_from), ((PySem.Str.ofString "track_time"), fn_track_time)], 1000000, tabX []⟩
def fn_walked : List D → Option (D × List D) := fx_walked cf_walked
def cf__law_ways : Cf := ⟨tab [], 1000000, tabX []⟩
def fn__law_ways : List D → Option (D × List D) := fx__law_ways cf__law_ways
def cf__law_time : Cf := ⟨tab [], 1000000, tabX []⟩
def fn__law_time : List D → Option (D × List D) := fx__law_time cf__law_time
def cf__law_walks_right : Cf := ⟨tab [((PySem.Str.ofString "_law_draw"), fn__law_draw), ((PySem.Str.ofString "_law_ways"), fn__law_ways), ((PySem.Str.ofString "_law_pick"), fn__law_pick), ((PySem.Str.ofString "track_time"), fn_track_time), ((PySem.Str.ofString "_law_time"), fn__law_time), ((PySem.Str.ofString "walked"), fn_walked)], 1000000, tabX []⟩
def fn__law_walks_right : List D → Option (D × List D) := fx__law_walks_right cf__law_walks_right
def cf_law : Cf := ⟨tab [((PySem.Str.ofString "_law_state"), fn__law_state), ((PySem.Str.ofString "_law_pick"), fn__law_pick), ((PySem.Str.ofString "_law_terrain"), fn__law_terrain), ((PySem.Str.ofString "_law_raised"), fn__law_raised), ((PySem.Str.ofString "_law_broken"), fn__law_broken), ((PySem.Str.ofString "_law_put"), fn__law_put), ((PySem.Str.ofString "_law_class"), fn__law_class), ((PySem.Str.ofString "_law_shut"), fn__law_shut), ((PySem.Str.ofString "_law_walks_right"), fn__law_walks_right)], 1000000, tabX []⟩
def fn_law : List D → Option (D × List D) := fx_law cf_law
end Lw_k40
namespace Lw_k40
open PySem PySem.Spec L2 Vw
/-! ### the mathematics of k40: terrains, ways, times -/
structure Tk where
  a : Int
  b : Int
  f : Int
def tkD (t : Tk) : D := .tuple [.int t.a, .int t.b, .int t.f]
def terD (hs : List Int) (tks : List Tk) : D := .tuple [.tuple (hs.map .int), .tuple (tks.map tkD)]
def kindD (p q : Int) : D := .tuple [.int p, .int q]
def shutD (sh : List Int) : D := .tuple (sh.map .int)
def pairD (p : Int × Int) : D := .tuple [.int p.1, .int p.2]
structure Good (n : Nat) (hs : List Int) (tks : List Tk) (pa st : Int) : Prop where
  n1 : n = hs.length
  hs0 : ∀ h ∈ hs, 0 ≤ h ∧ h < 100
  tk : ∀ t ∈ tks, 0 ≤ t.a ∧ t.a < n ∧ 0 ≤ t.b ∧ t.b < n ∧ t.a ≠ t.b ∧ 1 ≤ t.f ∧ t.f ≤ 99
  pa : 1 ≤ pa ∧ pa ≤ 9
  st : 0 ≤ st ∧ st ≤ 9
theorem beq_dec (a b : Int) : (a == b) = decide (a = b) := by
  rw [Bool.eq_iff_iff]
  simp
theorem any_int (l : List Int) (x : Int) : ((l.map PyData.int).any fun e => PyData.eqv e (.int x)) = decide (x ∈ l) := by
  induction l with
  | nil => simp
  | cons y r ih =>
    rw [List.map_cons, List.any_cons, ih, show PyData.eqv (.int y) (.int x) = (y == x) from rfl, beq_dec, Bool.eq_iff_iff, Bool.or_eq_true, decide_eq_true_eq, decide_eq_true_eq, decide_eq_true_eq, List.mem_cons]
    exact ⟨fun h => h.elim (fun e => .inl e.symm) .inr, fun h => h.elim (fun e => .inl e.symm) .inr⟩
theorem flat_ints (l : List Int) : (l.map PyData.int).all flatD = true := by
  rw [List.all_eq_true]
  intro d hd
  obtain ⟨x, _, rfl⟩ := List.mem_map.mp hd
  rfl
theorem r_eqi {c : Cf} {ρ ρ1 ρ2 : Rho} {a b : E} {x y : Int} (ha : ev c a ρ = some (.int x, ρ1)) (hb : ev c b ρ1 = some (.int y, ρ2)) : ev c (.eq false a b) ρ = some (.bool (decide (x = y)), ρ2) := by
  have := r_eq (ng := false) ha hb rfl rfl
  rw [bneF, show PyData.eqv (.int x) (.int y) = (x == y) from rfl, beq_dec] at this
  exact this
theorem ints_at {l : List Int} {i : Int} (h0 : 0 ≤ i) (h1 : i < l.length) : ixL (l.map .int) (.int i) = some (.int (l.getD i.toNat 0)) := by
  refine ixL_nat h0 ?_
  have : i.toNat < l.length := by omega
  simp [List.getD_eq_getElem?_getD, this]
theorem tk_at {tks : List Tk} {k : Nat} (h : k < tks.length) : ixL (tks.map tkD) (.int (k : Int)) = some (tkD tks[k]) := ixL_nat (by omega) (by simp [h])
/-- is the track open at p -/
def opn (sh : List Int) (p : Int) (k : Nat) (t : Tk) : Bool := !decide ((k : Int) ∈ sh) && decide (p ∈ [t.a, t.b])
def one (sh : List Int) (p : Int) (k : Nat) (t : Tk) : List (Int × Int) := if opn sh p k t = true then [((k : Int), t.a + t.b - p)] else []
/-- the ways from p, tracks from number k on -/
def wys (sh : List Int) (p : Int) : Nat → List Tk → List (Int × Int)
  | _, [] => []
  | k, t :: r => one sh p k t ++ wys sh p (k + 1) r
theorem wys_snoc (sh : List Int) (p : Int) (t : Tk) : ∀ (k : Nat) (l : List Tk), wys sh p k (l ++ [t]) = wys sh p k l ++ one sh p (k + l.length) t
  | k, [] => by simp [wys]
  | k, x :: l => by
    show one sh p k x ++ wys sh p (k + 1) (l ++ [t]) = (one sh p k x ++ wys sh p (k + 1) l) ++ _
    rw [wys_snoc sh p t (k + 1) l, List.append_assoc]
    simp [Nat.add_assoc, Nat.add_comm 1]
theorem wys_len (sh : List Int) (p : Int) : ∀ (k : Nat) (l : List Tk), (wys sh p k l).length ≤ l.length
  | _, [] => Nat.le_refl _
  | k, t :: r => by
    have := wys_len sh p (k + 1) r
    show (one sh p k t ++ wys sh p (k + 1) r).length ≤ r.length + 1
    rw [List.length_append]
    unfold one
    split <;> simp <;> omega
theorem wys_mem {sh : List Int} {p : Int} {q : Int × Int} : ∀ {k : Nat} {l : List Tk}, q ∈ wys sh p k l ↔ ∃ (j : Nat) (h : j < l.length), opn sh p (k + j) l[j] = true ∧ q = (((k + j : Nat) : Int), l[j].a + l[j].b - p)
  | k, [] => by simp [wys]
  | k, t :: r => by
    show q ∈ one sh p k t ++ wys sh p (k + 1) r ↔ _
    rw [List.mem_append, wys_mem (k := k + 1) (l := r)]
    constructor
    · rintro (h | ⟨j, hj, h1, h2⟩)
      · unfold one at h
        split at h
        · rename_i ho
          exact ⟨0, Nat.succ_pos _, ho, by simpa using h⟩
        · simp at h
      · refine ⟨j + 1, by simpa using hj, ?_, ?_⟩
        · rw [show k + (j + 1) = k + 1 + j by omega]
          exact h1
        · rw [show k + (j + 1) = k + 1 + j by omega]
          exact h2
    · rintro ⟨j, hj, h1, h2⟩
      cases j with
      | zero =>
        left
        have h1 : opn sh p k t = true := h1
        unfold one
        rw [if_pos h1]
        simpa using h2
      | succ j =>
        right
        refine ⟨j, by simpa using hj, ?_, ?_⟩
        · rw [show k + 1 + j = k + (j + 1) by omega]
          exact h1
        · rw [show k + 1 + j = k + (j + 1) by omega]
          exact h2
variable {hs : List Int} {tks : List Tk}
theorem take_succ' {l : List Tk} {k : Nat} (h : k < l.length) : l.take (k + 1) = l.take k ++ [l[k]] := by
  rw [List.take_add_one, List.getElem?_eq_getElem h]
  rfl
theorem law_ways_ok (hl : tks.length ≤ 1000) (sh : List Int) (p : Int) : fn__law_ways [terD hs tks, shutD sh, .int p] = some (.list ((wys sh p 0 tks).map pairD), [terD hs tks, shutD sh, .int p]) := by
  refine eq_of (fn_rule (c := cf__law_ways) (ps := sg__law_ways.ps) (n := 8) (b := ir__law_ways) (ds := [terD hs tks, shutD sh, .int p]) (Q := fun d o => d = .list ((wys sh p 0 tks).map pairD) ∧ o = [terD hs tks, shutD sh, .int p]) ?_)
  refine wp_cons (w_set (d := .list []) rfl ?_)
  refine wp_cons (w_for (ds := rngD 0 tks.length) (sv := []) (by
    have e := r_b1 (c := cf__law_ways) (f := .len) (o := .e (.ix (.e (.v 0)) (.k (.int 1)))) (ρ := [some (terD hs tks), some (shutD sh), some (.int p), some (.list []), none, none, none, none]) rfl (len_b1T (tks.map tkD))
    rw [List.length_map] at e
    exact i_r1 (j := (tks.length : Int)) e (inR_small (by omega) (by omega))) (fun k ρ => ∃ x4 x5 x6 x7, ρ = [some (terD hs tks), some (shutD sh), some (.int p), some (.list ((wys sh p 0 (tks.take k)).map pairD)), x4, x5, x6, x7]) ⟨_, _, _, _, rfl⟩ ?_ ?_)
  · rintro k hk _ ⟨x4, x5, x6, x7, rfl⟩
    have hk' : k < tks.length := by simpa [rngD] using hk
    rw [rng_at hk, Int.zero_add]
    refine ⟨_, rfl, wp_cons (w_unp (r_ix (o := .e (.ix (.e (.v 0)) (.k (.int 1)))) (b := .v 4) rfl rfl rfl (tk_at hk')) rfl ?_)⟩
    generalize et : tks[k] = t
    have c1 := r_inn (c := cf__law_ways) (ng := true) (a := .v 4) (o := .e (.v 1)) (ρ := [some (terD hs tks), some (shutD sh), some (.int p), some (.list ((wys sh p 0 (tks.take k)).map pairD)), some (.int (k : Int)), some (.int t.a), some (.int t.b), some (.int t.f)]) rfl rfl rfl rfl (flat_ints sh)
    rw [bneT, any_int] at c1
    have c2 := r_inn (c := cf__law_ways) (ng := false) (a := .v 2) (o := .e (.lst (.cons (.v 5) (.cons (.v 6) .nil)))) (l := [t.a, t.b].map PyData.int) (ρ := [some (terD hs tks), some (shutD sh), some (.int p), some (.list ((wys sh p 0 (tks.take k)).map pairD)), some (.int (k : Int)), some (.int t.a), some (.int t.b), some (.int t.f)]) rfl rfl rfl rfl (flat_ints _)
    rw [bneF, any_int] at c2
    have ew : wys sh p 0 (tks.take (k + 1)) = wys sh p 0 (tks.take k) ++ one sh p k t := by
      rw [take_succ' hk', wys_snoc, List.length_take, Nat.min_eq_left (by omega), Nat.zero_add, et]
    have hwl := wys_len sh p 0 (tks.take k)
    rw [List.length_take] at hwl
    refine wp_cons (w_ife (t_an2 (t_b c1) fun _ => t_b c2) (fun z => ?_) fun z => ?_)
    · refine wp_cons (w_app rfl (r_tup (r_cons rfl (r_cons rfl r_nil))) rfl (by rw [List.length_map]; omega) (wp_nil (wp_nil ⟨some (.int (k : Int)), some (.int t.a), some (.int t.b), some (.int t.f), ?_⟩)))
      have ho : one sh p k t = [((k : Int), t.a + t.b - p)] := if_pos z
      rw [ew, ho, List.map_append]
      rfl
    · refine wp_nil (wp_nil ⟨some (.int (k : Int)), some (.int t.a), some (.int t.b), some (.int t.f), ?_⟩)
      have ho : one sh p k t = [] := if_neg (by unfold opn; rw [z]; exact Bool.false_ne_true)
      rw [ew, ho, List.append_nil]
      rfl
  · rintro _ ⟨x4, x5, x6, x7, rfl⟩
    rw [rng_len, List.take_length]
    exact ⟨_, rfl, wp_fz (wp_cons (w_ret rfl ⟨_, rfl, rfl, rfl⟩))⟩
end Lw_k40
namespace Lw_k40
open PySem PySem.Spec L2 Vw
variable {hs : List Int} {tks : List Tk}
theorem opn_in {sh : List Int} {p : Int} {k : Nat} {t : Tk} (h : opn sh p k t = true) : p = t.a ∨ p = t.b := by
  unfold opn at h
  simp only [Bool.and_eq_true, decide_eq_true_eq] at h
  have := h.2
  simp only [List.mem_cons, List.not_mem_nil, or_false] at this
  exact this
theorem other_end_ok {k : Nat} (hk : k < tks.length) {p : Int} (hp : p = tks[k].a ∨ p = tks[k].b) : fn_other_end [terD hs tks, .int (k : Int), .int p] = some (.int (tks[k].a + tks[k].b - p), [terD hs tks, .int (k : Int), .int p]) := by
  refine eq_of (fn_rule (c := cf_other_end) (ps := sg_other_end.ps) (n := 6) (b := ir_other_end) (ds := [terD hs tks, .int (k : Int), .int p]) (Q := fun d o => d = .int (tks[k].a + tks[k].b - p) ∧ o = [terD hs tks, .int (k : Int), .int p]) ?_)
  refine wp_cons (w_unp (r_ix (o := .e (.ix (.e (.v 0)) (.k (.int 1)))) (b := .v 1) rfl rfl rfl (tk_at hk)) rfl ?_)
  generalize tks[k] = t at *
  refine wp_cons (w_ret (d := .int (t.a + t.b - p)) (ρ' := [some (terD hs tks), some (.int (k : Int)), some (.int p), some (.int t.a), some (.int t.b), some (.int t.f)]) ?_ ⟨_, rfl, rfl, rfl⟩)
  refine r_ife (t_b (r_eqi rfl rfl)) (fun z => ?_) fun z => ?_
  · have z : p = t.a := of_decide_eq_true z
    rw [show t.a + t.b - p = t.b by omega]
    rfl
  · have z : ¬ p = t.a := of_decide_eq_false z
    rw [show t.a + t.b - p = t.a by omega]
    rfl
theorem enum_at {l : List D} {i : Nat} (h : i < (enumD l).length) : ∃ h' : i < l.length, (enumD l)[i] = .tuple [.int (i : Nat), l[i]] := by
  have h' : i < l.length := by simpa [enumD] using h
  refine ⟨h', ?_⟩
  simp [enumD, h']
theorem ways_from_ok (hl : tks.length ≤ 1000) (sh : List Int) (p : Int) : fn_ways_from [terD hs tks, shutD sh, .int p] = some (.list ((wys sh p 0 tks).map pairD), [terD hs tks, shutD sh, .int p]) := by
  refine eq_of (fn_rule (c := cf_ways_from) (ps := sg_ways_from.ps) (n := 8) (b := ir_ways_from) (ds := [terD hs tks, shutD sh, .int p]) (Q := fun d o => d = .list ((wys sh p 0 tks).map pairD) ∧ o = [terD hs tks, shutD sh, .int p]) ?_)
  refine wp_cons (w_set (d := .list []) rfl ?_)
  refine wp_cons (w_for (ds := enumD (tks.map tkD)) (sv := []) rfl (fun k ρ => ∃ x4 x5 x6 x7, ρ = [some (terD hs tks), some (shutD sh), some (.int p), some (.list ((wys sh p 0 (tks.take k)).map pairD)), x4, x5, x6, x7]) ⟨_, _, _, _, rfl⟩ ?_ ?_)
  · rintro k hk _ ⟨x4, x5, x6, x7, rfl⟩
    obtain ⟨hk2, e⟩ := enum_at hk
    have hk' : k < tks.length := by simpa using hk2
    have oe := fun hp => other_end_ok (hs := hs) hk' (p := p) hp
    rw [e, List.getElem_map]
    generalize et : tks[k] = t at *
    refine ⟨_, rfl, ?_⟩
    have c1 := r_inn (c := cf_ways_from) (ng := true) (a := .v 4) (o := .e (.v 1)) (ρ := [some (terD hs tks), some (shutD sh), some (.int p), some (.list ((wys sh p 0 (tks.take k)).map pairD)), some (.int (k : Int)), some (.int t.a), some (.int t.b), some (.int t.f)]) rfl rfl rfl rfl (flat_ints sh)
    rw [bneT, any_int] at c1
    have c2 := r_inn (c := cf_ways_from) (ng := false) (a := .v 2) (o := .e (.tup (.cons (.v 5) (.cons (.v 6) .nil)))) (l := [t.a, t.b].map PyData.int) (ρ := [some (terD hs tks), some (shutD sh), some (.int p), some (.list ((wys sh p 0 (tks.take k)).map pairD)), some (.int (k : Int)), some (.int t.a), some (.int t.b), some (.int t.f)]) rfl rfl rfl rfl (flat_ints _)
    rw [bneF, any_int] at c2
    have ew : wys sh p 0 (tks.take (k + 1)) = wys sh p 0 (tks.take k) ++ one sh p k t := by
      rw [take_succ' hk', wys_snoc, List.length_take, Nat.min_eq_left (by omega), Nat.zero_add, et]
    have hwl := wys_len sh p 0 (tks.take k)
    rw [List.length_take] at hwl
    refine wp_cons (w_ife (t_an2 (t_b c1) fun _ => t_b c2) (fun z => ?_) fun z => ?_)
    · have hp := opn_in (sh := sh) (k := k) (show opn sh p k t = true from z)
      refine wp_cons (w_app rfl (r_tup (r_cons rfl (r_cons (r_call (f := PySem.Str.ofString "other_end") (as := .fr (.v 0) (.fr (.v 4) (.fr (.v 2) .nil))) rfl rfl (oe hp) rfl rfl) r_nil))) rfl (by rw [List.length_map]; omega) (wp_nil (wp_nil ⟨some (.int (k : Int)), some (.int t.a), some (.int t.b), some (.int t.f), ?_⟩)))
      have ho : one sh p k t = [((k : Int), t.a + t.b - p)] := if_pos z
      rw [ew, ho, List.map_append]
      rfl
    · refine wp_nil (wp_nil ⟨some (.int (k : Int)), some (.int t.a), some (.int t.b), some (.int t.f), ?_⟩)
      have ho : one sh p k t = [] := if_neg (by unfold opn; rw [z]; exact Bool.false_ne_true)
      rw [ew, ho, List.append_nil]
      rfl
  · rintro _ ⟨x4, x5, x6, x7, rfl⟩
    have hlen : (enumD (tks.map tkD)).length = tks.length := by simp [enumD]
    rw [hlen, List.take_length]
    exact ⟨_, rfl, wp_fz (wp_cons (w_ret rfl ⟨_, rfl, rfl, rfl⟩))⟩
/-- the time on track k from p -/
def tm (hs : List Int) (pa st : Int) (t : Tk) (p : Int) : Int := t.f * pa + max 0 (hs.getD (t.a + t.b - p).toNat 0 - hs.getD p.toNat 0) * st
theorem hs_get {n : Nat} {pa st : Int} (g : Good n hs tks pa st) {p : Int} (h0 : 0 ≤ p) (h1 : p < n) : 0 ≤ hs.getD p.toNat 0 ∧ hs.getD p.toNat 0 < 100 := by
  have h : p.toNat < hs.length := by
    have := g.n1
    omega
  rw [List.getD_eq_getElem?_getD, List.getElem?_eq_getElem h]
  exact g.hs0 _ (List.getElem_mem h)
theorem law_time_ok {n : Nat} {pa st : Int} (g : Good n hs tks pa st) {k : Nat} (hk : k < tks.length) {p : Int} (hp : p = tks[k].a ∨ p = tks[k].b) : fn__law_time [terD hs tks, kindD pa st, .int (k : Int), .int p] = some (.int (tm hs pa st tks[k] p), [terD hs tks, kindD pa st, .int (k : Int), .int p]) := by
  refine eq_of (fn_rule (c := cf__law_time) (ps := sg__law_time.ps) (n := 9) (b := ir__law_time) (ds := [terD hs tks, kindD pa st, .int (k : Int), .int p]) (Q := fun d o => d = .int (tm hs pa st tks[k] p) ∧ o = [terD hs tks, kindD pa st, .int (k : Int), .int p]) ?_)
  have gt := g.tk _ (List.getElem_mem hk)
  refine wp_cons (w_unp (r_ix (o := .e (.ix (.e (.v 0)) (.k (.int 1)))) (b := .v 2) rfl rfl rfl (tk_at hk)) rfl ?_)
  generalize tks[k] = t at *
  obtain ⟨g1, g2, g3, g4, g5, g6, g7⟩ := gt
  have hn := g.n1
  have p0 : 0 ≤ p ∧ p < n := by omega
  have q0 : 0 ≤ t.a + t.b - p ∧ t.a + t.b - p < n := by omega
  have b1 := hs_get g p0.1 p0.2
  have b2 := hs_get g q0.1 q0.2
  refine wp_cons (w_set rfl ?_)
  refine wp_cons (w_set (r_ar (r_ix (o := .e (.ix (.e (.v 0)) (.k (.int 0)))) (b := .v 7) rfl rfl rfl (ints_at q0.1 (by omega))) (r_ix (o := .e (.ix (.e (.v 0)) (.k (.int 0)))) (b := .v 3) rfl rfl rfl (ints_at p0.1 (by omega))) rfl) ?_)
  have hpa := g.pa
  have hst := g.st
  unfold tm
  generalize hs.getD (t.a + t.b - p).toNat 0 - hs.getD p.toNat 0 = cl at *
  have m : ev cf__law_time (.ife (.e (.cm .gt (.v 8) (.k (.int 0)))) (.ar .mul (.v 8) (.ix (.e (.v 1)) (.k (.int 1)))) (.k (.int 0))) [some (terD hs tks), some (kindD pa st), some (.int (k : Int)), some (.int p), some (.int t.a), some (.int t.b), some (.int t.f), some (.int (t.a + t.b - p)), some (.int cl)] = some (.int (max 0 cl * st), [some (terD hs tks), some (kindD pa st), some (.int (k : Int)), some (.int p), some (.int t.a), some (.int t.b), some (.int t.f), some (.int (t.a + t.b - p)), some (.int cl)]) := by
    refine r_ife (t_b (r_cm rfl rfl)) (fun z => ?_) fun z => ?_
    · have z : (0 : Int) < cl := of_decide_eq_true z
      rw [show max 0 cl = cl by omega]
      exact r_ar rfl rfl (ar_mul (by omega) (by omega))
    · have z : ¬ (0 : Int) < cl := of_decide_eq_false z
      rw [show max 0 cl = 0 by omega, Int.zero_mul]
      rfl
  exact wp_cons (w_ret (r_ar (r_ar rfl rfl (ar_mul (by omega) (by omega))) m rfl) ⟨_, rfl, rfl, rfl⟩)
theorem track_time_ok {n : Nat} {pa st : Int} (g : Good n hs tks pa st) {k : Nat} (hk : k < tks.length) {p : Int} (hp : p = tks[k].a ∨ p = tks[k].b) : fn_track_time [terD hs tks, kindD pa st, .int (k : Int), .int p] = some (.int (tm hs pa st tks[k] p), [terD hs tks, kindD pa st, .int (k : Int), .int p]) := by
  refine eq_of (fn_rule (c := cf_track_time) (ps := sg_track_time.ps) (n := 9) (b := ir_track_time) (ds := [terD hs tks, kindD pa st, .int (k : Int), .int p]) (Q := fun d o => d = .int (tm hs pa st tks[k] p) ∧ o = [terD hs tks, kindD pa st, .int (k : Int), .int p]) ?_)
  have gt := g.tk _ (List.getElem_mem hk)
  have oe := other_end_ok (hs := hs) hk hp
  have ta := tk_at hk
  generalize tks[k] = t at *
  obtain ⟨g1, g2, g3, g4, g5, g6, g7⟩ := gt
  have hn := g.n1
  have p0 : 0 ≤ p ∧ p < n := by omega
  have q0 : 0 ≤ t.a + t.b - p ∧ t.a + t.b - p < n := by omega
  have b1 := hs_get g p0.1 p0.2
  have b2 := hs_get g q0.1 q0.2
  refine wp_cons (w_unp rfl rfl (wp_cons (w_unp rfl rfl ?_)))
  have hpa := g.pa
  have hst := g.st
  have e2 := r_ix (c := cf_track_time) (o := .e (.v 4)) (ρ := [some (terD hs tks), some (kindD pa st), some (.int (k : Int)), some (.int p), some (.tuple (hs.map .int)), some (.tuple (tks.map tkD)), some (.int pa), some (.int st), none]) rfl (r_call (f := PySem.Str.ofString "other_end") (as := .fr (.v 0) (.fr (.v 2) (.fr (.v 3) .nil))) rfl rfl oe rfl rfl) rfl (ints_at q0.1 (by omega))
  have e3 := r_ix (c := cf_track_time) (o := .e (.v 4)) (b := .v 3) (ρ := [some (terD hs tks), some (kindD pa st), some (.int (k : Int)), some (.int p), some (.tuple (hs.map .int)), some (.tuple (tks.map tkD)), some (.int pa), some (.int st), none]) rfl rfl rfl (ints_at p0.1 (by omega))
  have e5 := r_ar (o := .sub) (d := .int (hs.getD (t.a + t.b - p).toNat 0 - hs.getD p.toNat 0)) e2 e3 rfl
  have e6 : b2D .mx (.int 0) (.int (hs.getD (t.a + t.b - p).toNat 0 - hs.getD p.toNat 0)) = some (.int (max 0 (hs.getD (t.a + t.b - p).toNat 0 - hs.getD p.toNat 0))) := by
    generalize hs.getD (t.a + t.b - p).toNat 0 - hs.getD p.toNat 0 = cl
    show some (PyData.int (if cl > 0 then cl else 0)) = _
    have : (if cl > 0 then cl else 0) = max 0 cl := by split <;> omega
    rw [this]
  have e4 := r_b2 (f := .mx) (a := .k (.int 0)) rfl e5 e6
  refine wp_cons (w_set e4 ?_)
  exact wp_cons (w_ret (r_ar (r_ar (r_ix (o := .e (.ix (.e (.v 5)) (.v 2))) (b := .k (.int 2)) (x := tkD t) (z := tkD t) (r_ix (o := .e (.v 5)) (b := .v 2) rfl rfl rfl ta) rfl rfl rfl) rfl (ar_mul (by omega) (by omega))) (r_ar rfl rfl (ar_mul (by omega) (by omega))) rfl) ⟨_, rfl, rfl, rfl⟩)
end Lw_k40
namespace Lw_k40
open PySem PySem.Spec L2 Vw
variable {hs : List Int} {tks : List Tk}
theorem draw_rule {c : Cf} (hc : c.fn (PySem.Str.ofString "_law_draw") = fxDrawA) {i : Nat} {e : E} {ρ ρ' : Rho} {m : Int} {x0 : D} {ns : List Int} {s : Int} (h0 : Vw.get ρ i = some x0) (he : ev c e ρ = some (.int m, ρ')) (hs : Vw.get ρ' i = some (stA ns s)) (h1 : 0 < m) (h2 : m < 1073741824) :
    ∃ v ns' s', 0 ≤ v ∧ v < m ∧ ev c (.call (PySem.Str.ofString "_law_draw") (.io i (.fr e .nil))) ρ = some (.int v, put ρ' i (stA ns' s')) := by
  obtain ⟨v, ns', s', v0, v1, e1⟩ := drawA_ok (ns := ns) (s := s) h1 h2
  refine ⟨v, ns', s', v0, v1, ev_call (ags := [.io i, .d (.int m)]) (ds := [stA ns s, .int m]) (ds' := [stA ns' s', .int m]) (a_i h0 (a_f he a_n)) ?_ (by rw [hc]; exact e1) rfl rfl⟩
  show (Vw.get ρ' i).bind _ = _
  rw [hs]
  rfl
theorem law_state_ok (ns : List Int) (hl : ns.length ≤ 63) : ∃ ns' s', fn__law_state [.list (ns.map .int)] = some (stA ns' s', [.list (ns.map .int)]) := by
  have h : ∃ d o, fn__law_state [.list (ns.map .int)] = some (d, o) ∧ ∃ ns' s', d = stA ns' s' ∧ o = [.list (ns.map .int)] := by
    refine fn_rule (c := cf__law_state) (ps := sg__law_state.ps) (n := 3) (b := ir__law_state) (ds := [.list (ns.map .int)]) (Q := fun d o => ∃ ns' s', d = stA ns' s' ∧ o = [.list (ns.map .int)]) ?_
    refine wp_cons (w_set (d := .int 7) rfl ?_)
    refine wp_cons (w_for (ds := ns.map .int) (sv := []) rfl (fun i ρ => ∃ s x2, ρ = [some (.list (ns.map .int)), some (.int s), x2]) ⟨_, _, rfl⟩ ?_ ?_)
    · rintro i hi _ ⟨s, x2, rfl⟩
      rw [List.getElem_map]
      refine ⟨_, rfl, wp_cons (w_set (r_ar (r_b1 (r_oe (r_ar (r_ar rfl rfl (ar_mul (by decide) (by decide))) rfl rfl)) rfl) rfl (ar_mod (by decide))) (wp_nil ⟨_, _, rfl⟩))⟩
    · rintro _ ⟨s, x2, rfl⟩
      have hc : ∃ d ρ', ev cf__law_state (.comp (.b1 .abs (.e (.v 2))) (.n 2) (.o (.e (.v 0))) .no [2]) [some (.list (ns.map .int)), some (.int s), x2] = some (d, ρ') ∧ ∃ ns' : List Int, d = .list (ns'.map .int) ∧ ρ' = [some (.list (ns.map .int)), some (.int s), none] := by
        refine ev_comp (i_o (l := ns.map .int) rfl rfl) (fun acc k ρ => ρ = [some (.list (ns.map .int)), some (.int s), none] ∧ ∃ ac : List Int, acc = ac.map .int ∧ ac.length ≤ k) ⟨rfl, [], rfl, Nat.le_refl _⟩ (fun k hk acc ρ hI => ?_)
          (Q := fun d ρ' => ∃ ns' : List Int, d = .list (ns'.map .int) ∧ ρ' = [some (.list (ns.map .int)), some (.int s), none]) (fun out ρ hI => ?_)
        · obtain ⟨rfl, ac, rfl, h⟩ := hI
          rw [List.getElem_map]
          refine ⟨_, true, _, rfl, rfl, (fun z => by cases z), fun _ => ⟨_, _, rfl, rfl, ac ++ [if ns[k]'(by simpa using hk) < 0 then -(ns[k]'(by simpa using hk)) else ns[k]'(by simpa using hk)], ?_, by simp; omega⟩⟩
          rw [List.map_append]
          rfl
        · obtain ⟨rfl, ac, rfl, h⟩ := hI
          rw [List.length_map] at h
          exact ⟨by rw [List.length_map]; omega, _, rfl, ac, rfl, rfl⟩
      obtain ⟨d, ρ', e, ns', rfl, rfl⟩ := hc
      exact ⟨_, rfl, wp_cons (w_ret (r_lst (r_cons e (r_cons rfl r_nil))) ⟨_, rfl, ns', s + 1, rfl, rfl⟩)⟩
  obtain ⟨d, o, e, ns', s', rfl, rfl⟩ := h
  exact ⟨ns', s', e⟩
theorem drawI {c : Cf} (hc : c.fn (PySem.Str.ofString "_law_draw") = fxDrawA) {e : E} {ρ : Rho} {m : Int} {ns : List Int} {s : Int} (he : ev c e (some (stA ns s) :: ρ) = some (.int m, some (stA ns s) :: ρ)) (h1 : 0 < m) (h2 : m < 1073741824) :
    ∃ v ns' s', 0 ≤ v ∧ v < m ∧ ev c (.call (PySem.Str.ofString "_law_draw") (.io 0 (.fr e .nil))) (some (stA ns s) :: ρ) = some (.int v, some (stA ns' s') :: ρ) := by
  obtain ⟨v, ns', s', a, b, e⟩ := draw_rule hc (i := 0) rfl he rfl h1 h2
  exact ⟨v, ns', s', a, b, e⟩
theorem comp_draw {c : Cf} (hc : c.fn (PySem.Str.ofString "_law_draw") = fxDrawA) {e : E} {ρ ρ' : Rho} {m n : Int} {ns : List Int} {s : Int} {j : Nat} {a : E} (hn0 : 0 ≤ n) (hn : n ≤ 100000) (ha : ev c a (some (stA ns s) :: ρ) = some (.int n, some (stA ns s) :: ρ)) (hw : ∀ x, (put ρ j x).set j none = ρ.set j none)
    (h1 : 0 < m) (h2 : m < 1073741824) (he : ∀ ns s x, ev c e (some (stA ns s) :: put (ρ.set j none) j x) = some (.int m, some (stA ns s) :: put (ρ.set j none) j x)) :
    ∃ sg : List Int, ∃ ns' s', ev c (.comp (.call (PySem.Str.ofString "_law_draw") (.io 0 (.fr e .nil))) (.n (j + 1)) (.r1 a) .no [j + 1]) (some (stA ns s) :: ρ) = some (.list (sg.map .int), some (stA ns' s') :: ρ.set j none) ∧ sg.length = n.toNat := by
  have h : ∃ d ρ', ev c (.comp (.call (PySem.Str.ofString "_law_draw") (.io 0 (.fr e .nil))) (.n (j + 1)) (.r1 a) .no [j + 1]) (some (stA ns s) :: ρ) = some (d, ρ') ∧ ∃ sg : List Int, ∃ ns' s', d = .list (sg.map .int) ∧ ρ' = some (stA ns' s') :: ρ.set j none ∧ sg.length = n.toNat := by
    refine ev_comp (i_r1 ha (inR_small (by omega) (by omega))) (fun acc k ρ1 => ∃ sg : List Int, ∃ ns' s', acc = sg.map .int ∧ ρ1 = some (stA ns' s') :: ρ.set j none ∧ sg.length = k) ⟨[], ns, s, rfl, rfl, rfl⟩ (fun k hk acc ρ1 hI => ?_)
      (Q := fun d ρ' => ∃ sg : List Int, ∃ ns' s', d = .list (sg.map .int) ∧ ρ' = some (stA ns' s') :: ρ.set j none ∧ sg.length = n.toNat) (fun out ρ1 hI => ?_)
    · obtain ⟨sg, ns1, s1, rfl, rfl, hl⟩ := hI
      rw [rng_at hk]
      obtain ⟨v, ns2, s2, v0, v1, e2⟩ := drawI hc (he ns1 s1 (.int (0 + (k : Int)))) h1 h2
      refine ⟨_, true, _, rfl, rfl, (fun z => by cases z), fun _ => ⟨_, _, e2, sg ++ [v], ns2, s2, by rw [List.map_append]; rfl, ?_, by simp [hl]⟩⟩
      show some (stA ns2 s2) :: (put (ρ.set j none) j _).set j none = _
      unfold put
      rw [List.set_set, List.set_set]
    · obtain ⟨sg, ns1, s1, rfl, rfl, hl⟩ := hI
      rw [rng_len] at hl
      exact ⟨by rw [List.length_map]; omega, _, rfl, sg, ns1, s1, rfl, rfl, hl⟩
  obtain ⟨d, ρ', e, sg, ns', s', rfl, rfl, hl⟩ := h
  exact ⟨sg, ns', s', e, hl⟩

/-- a pick: some item of the row -/
theorem pick_ok (ns : List Int) (s : Int) (l : List D) (hl : 0 < l.length) (hl2 : l.length ≤ 100000) : ∃ (j : Nat) (h : j < l.length) (ns' : List Int) (s' : Int), fn__law_pick [stA ns s, .list l] = some (l[j], [stA ns' s', .list l]) := by
  obtain ⟨v, ns', s', v0, v1, e⟩ := drawI (c := cf__law_pick) rfl (e := .b1 .len (.e (.v 1))) (ns := ns) (s := s) (ρ := [some (.list l)]) (r_b1 (f := .len) (o := .e (.v 1)) rfl (len_b1L l)) (by omega) (by omega)
  have hv : v.toNat < l.length := by omega
  have h : ∃ d o, fn__law_pick [stA ns s, .list l] = some (d, o) ∧ d = l[v.toNat] ∧ o = [stA ns' s', .list l] := by
    refine fn_rule (c := cf__law_pick) (ps := sg__law_pick.ps) (n := 2) (b := ir__law_pick) (ds := [stA ns s, .list l]) (Q := fun d o => d = l[v.toNat] ∧ o = [stA ns' s', .list l]) ?_
    exact wp_cons (w_ret (r_ix (o := .e (.v 1)) rfl e rfl (ixL_nat (d := l[v.toNat]) v0 (by simp [hv]))) ⟨_, rfl, rfl, rfl⟩)
  obtain ⟨d, o, e2, rfl, rfl⟩ := h
  exact ⟨v.toNat, hv, ns', s', e2⟩
/-- .. of numbers -/
theorem pick_int (ns : List Int) (s : Int) (l : List Int) (hl : 0 < l.length) (hl2 : l.length ≤ 100000) : ∃ x ∈ l, ∃ (ns' : List Int) (s' : Int), fn__law_pick [stA ns s, .list (l.map .int)] = some (.int x, [stA ns' s', .list (l.map .int)]) := by
  obtain ⟨j, h, ns', s', e⟩ := pick_ok ns s (l.map .int) (by rw [List.length_map]; exact hl) (by rw [List.length_map]; exact hl2)
  have h' : j < l.length := by simpa using h
  rw [List.getElem_map] at e
  exact ⟨l[j], List.getElem_mem h', ns', s', e⟩
theorem class_ok (ns : List Int) (s : Int) : ∃ pa st ns' s', fn__law_class [stA ns s] = some (kindD pa st, [stA ns' s']) ∧ (1 ≤ pa ∧ pa ≤ 9) ∧ 0 ≤ st ∧ st ≤ 9 := by
  have h : ∃ d o, fn__law_class [stA ns s] = some (d, o) ∧ ∃ pa st ns' s', d = kindD pa st ∧ o = [stA ns' s'] ∧ (1 ≤ pa ∧ pa ≤ 9) ∧ 0 ≤ st ∧ st ≤ 9 := by
    refine fn_rule (c := cf__law_class) (ps := sg__law_class.ps) (n := 1) (b := ir__law_class) (ds := [stA ns s]) (Q := fun d o => ∃ pa st ns' s', d = kindD pa st ∧ o = [stA ns' s'] ∧ (1 ≤ pa ∧ pa ≤ 9) ∧ 0 ≤ st ∧ st ≤ 9) ?_
    obtain ⟨v, ns1, s1, v0, v1, e1⟩ := drawI (c := cf__law_class) rfl (e := .k (.int 9)) (ns := ns) (s := s) (ρ := []) rfl (by decide) (by decide)
    obtain ⟨u, ns2, s2, u0, u1, e2⟩ := drawI (c := cf__law_class) rfl (e := .k (.int 10)) (ns := ns1) (s := s1) (ρ := []) rfl (by decide) (by decide)
    obtain ⟨x, hx, ns3, s3, e3⟩ := pick_int ns2 s2 [0, 0, u] (by simp) (by simp)
    have hx2 : 0 ≤ x ∧ x ≤ 9 := by
      simp only [List.mem_cons, List.not_mem_nil, or_false] at hx
      omega
    have p := ev_call (c := cf__law_class) (f := PySem.Str.ofString "_law_pick") (ags := [.io 0, .d (.list [.int 0, .int 0, .int u])]) (ρ := [some (stA ns1 s1)]) (as := .io 0 (.fr (.lst (.cons (.k (.int 0)) (.cons (.k (.int 0)) (.cons (.call (PySem.Str.ofString "_law_draw") (.io 0 (.fr (.k (.int 10)) .nil))) .nil)))) .nil)) (a_i rfl (a_f (r_lst (r_cons rfl (r_cons rfl (r_cons e2 r_nil)))) a_n)) rfl e3 rfl rfl
    exact wp_cons (w_ret (r_tup (r_cons (r_ar rfl e1 rfl) (r_cons p r_nil))) ⟨_, rfl, 1 + v, x, ns3, s3, rfl, rfl, ⟨by omega, by omega⟩, hx2⟩)
  obtain ⟨d, o, e, pa, st, ns', s', rfl, rfl, h⟩ := h
  exact ⟨pa, st, ns', s', e, h⟩
end Lw_k40
namespace Lw_k40
open PySem PySem.Spec L2 Vw
/-! ### drawn terrains -/
theorem shut_ok (ns : List Int) (s : Int) {hs : List Int} {tks : List Tk} (hl : tks.length ≤ 1000) : ∃ sh ns' s', fn__law_shut [stA ns s, terD hs tks] = some (shutD sh, [stA ns' s', terD hs tks]) ∧ sh.length ≤ tks.length := by
  have h : ∃ d o, fn__law_shut [stA ns s, terD hs tks] = some (d, o) ∧ ∃ sh ns' s', d = shutD sh ∧ o = [stA ns' s', terD hs tks] ∧ sh.length ≤ tks.length := by
    refine fn_rule (c := cf__law_shut) (ps := sg__law_shut.ps) (n := 3) (b := ir__law_shut) (ds := [stA ns s, terD hs tks]) (Q := fun d o => ∃ sh ns' s', d = shutD sh ∧ o = [stA ns' s', terD hs tks] ∧ sh.length ≤ tks.length) ?_
    have e := r_b1 (c := cf__law_shut) (f := .len) (o := .e (.ix (.e (.v 1)) (.k (.int 1)))) (ρ := [some (stA ns s), some (terD hs tks), none]) rfl (len_b1T (tks.map tkD))
    rw [List.length_map] at e
    have hc : ∃ d ρ', ev cf__law_shut (.comp (.v 2) (.n 2) (.r1 (.b1 .len (.e (.ix (.e (.v 1)) (.k (.int 1)))))) (.so (.e (.eq false (.call (PySem.Str.ofString "_law_draw") (.io 0 (.fr (.k (.int 7)) .nil))) (.k (.int 0))))) [2]) [some (stA ns s), some (terD hs tks), none] = some (d, ρ') ∧ ∃ sh : List Int, ∃ ns' s', d = .list (sh.map .int) ∧ ρ' = [some (stA ns' s'), some (terD hs tks), none] ∧ sh.length ≤ tks.length := by
      refine ev_comp (i_r1 (j := (tks.length : Int)) e (inR_small (by omega) (by omega))) (fun acc k ρ => ∃ sh : List Int, ∃ ns' s', acc = sh.map .int ∧ ρ = [some (stA ns' s'), some (terD hs tks), none] ∧ sh.length ≤ k) ⟨[], ns, s, rfl, rfl, Nat.le_refl _⟩ (fun k hk acc ρ hI => ?_)
        (Q := fun d ρ' => ∃ sh : List Int, ∃ ns' s', d = .list (sh.map .int) ∧ ρ' = [some (stA ns' s'), some (terD hs tks), none] ∧ sh.length ≤ tks.length) (fun out ρ hI => ?_)
      · obtain ⟨sh, ns1, s1, rfl, rfl, hl⟩ := hI
        rw [rng_at hk]
        obtain ⟨v, ns2, s2, v0, v1, e2⟩ := drawI (c := cf__law_shut) rfl (e := .k (.int 7)) (ns := ns1) (s := s1) (ρ := [some (terD hs tks), some (.int (0 + (k : Int)))]) rfl (by decide) (by decide)
        exact ⟨_, _, _, rfl, t_b (r_eqi e2 rfl), fun _ => ⟨sh, ns2, s2, rfl, rfl, by omega⟩, fun _ => ⟨_, _, rfl, sh ++ [0 + (k : Int)], ns2, s2, by rw [List.map_append]; rfl, rfl, by simp; omega⟩⟩
      · obtain ⟨sh, ns1, s1, rfl, rfl, hl⟩ := hI
        rw [rng_len] at hl
        exact ⟨by rw [List.length_map]; omega, _, rfl, sh, ns1, s1, rfl, rfl, by omega⟩
    obtain ⟨d, ρ', e1, sh, ns1, s1, rfl, rfl, hls⟩ := hc
    exact wp_cons (w_ret (r_b1 (d := shutD sh) (r_oe e1) rfl) ⟨_, rfl, sh, ns1, s1, rfl, rfl, hls⟩)
  obtain ⟨d, o, e, sh, ns', s', rfl, rfl, hls⟩ := h
  exact ⟨sh, ns', s', e, hls⟩
/-- a draw below a pick of some numbers -/
theorem pick_draw {c : Cf} (hc : c.fn (PySem.Str.ofString "_law_draw") = fxDrawA) (hp : c.fn (PySem.Str.ofString "_law_pick") = fn__law_pick) {ρ : Rho} (ns : List Int) (s : Int) {es : Es} {l : List Int} (he : ∀ ns s, ev c (.lst es) (some (stA ns s) :: ρ) = some (.list (l.map .int), some (stA ns s) :: ρ)) (h0 : 0 < l.length) (h1 : l.length ≤ 1000) (hm : ∀ x ∈ l, 0 < x ∧ x < 1000000) (M : Int) (hM : ∀ x ∈ l, x ≤ M) :
    ∃ v ns' s', 0 ≤ v ∧ v < M ∧ ev c (.call (PySem.Str.ofString "_law_draw") (.io 0 (.fr (.call (PySem.Str.ofString "_law_pick") (.io 0 (.fr (.lst es) .nil))) .nil))) (some (stA ns s) :: ρ) = some (.int v, some (stA ns' s') :: ρ) := by
  obtain ⟨x, hx, ns1, s1, e1⟩ := pick_int ns s l h0 (by omega)
  have p : ev c (.call (PySem.Str.ofString "_law_pick") (.io 0 (.fr (.lst es) .nil))) (some (stA ns s) :: ρ) = some (.int x, some (stA ns1 s1) :: ρ) := ev_call (ags := [.io 0, .d (.list (l.map .int))]) (a_i rfl (a_f (he ns s) a_n)) rfl (by rw [hp]; exact e1) rfl rfl
  obtain ⟨v, ns2, s2, v0, v1, e2⟩ := draw_rule hc (i := 0) (x0 := stA ns s) rfl p rfl (hm x hx).1 (by have := (hm x hx).2; omega)
  exact ⟨v, ns2, s2, v0, by have := hM x hx; omega, e2⟩
end Lw_k40
namespace Lw_k40
open PySem PySem.Spec L2 Vw
theorem other_ne {o d n : Int} (o0 : 0 ≤ o) (o1 : o < n) (d0 : 0 ≤ d) (d1 : d < n - 1) : 0 ≤ (o + 1 + d) % n ∧ (o + 1 + d) % n < n ∧ (o + 1 + d) % n ≠ o := by
  refine ⟨Int.emod_nonneg _ (by omega), Int.emod_lt_of_pos _ (by omega), ?_⟩
  by_cases h : o + 1 + d < n
  · rw [Int.emod_eq_of_lt (by omega) h]
    omega
  · have e : o + 1 + d = (o + 1 + d - n) + n * 1 := by omega
    rw [e, Int.add_mul_emod_self_left, Int.emod_eq_of_lt (by omega) (by omega)]
    omega
def TkOk (n : Nat) (tks : List Tk) : Prop := ∀ t ∈ tks, 0 ≤ t.a ∧ t.a < (n : Int) ∧ 0 ≤ t.b ∧ t.b < (n : Int) ∧ t.a ≠ t.b ∧ 1 ≤ t.f ∧ t.f ≤ 99
theorem terrain_ok (ns : List Int) (s : Int) {n m : Nat} (n0 : 0 < n) (n1 : n ≤ 24) (m1 : m ≤ 100) : ∃ hs tks ns' s', fn__law_terrain [stA ns s, .int (n : Int), .int (m : Int)] = some (terD hs tks, [stA ns' s', .int (n : Int), .int (m : Int)]) ∧ n = hs.length ∧ (∀ h ∈ hs, 0 ≤ h ∧ h < 100) ∧ TkOk n tks ∧ tks.length ≤ m := by
  have h : ∃ d o, fn__law_terrain [stA ns s, .int (n : Int), .int (m : Int)] = some (d, o) ∧ ∃ hs tks ns' s', d = terD hs tks ∧ o = [stA ns' s', .int (n : Int), .int (m : Int)] ∧ n = hs.length ∧ (∀ h ∈ hs, 0 ≤ h ∧ h < 100) ∧ TkOk n tks ∧ tks.length ≤ m := by
    refine fn_rule (c := cf__law_terrain) (ps := sg__law_terrain.ps) (n := 8) (b := ir__law_terrain) (ds := [stA ns s, .int (n : Int), .int (m : Int)]) (Q := fun d o => ∃ hs tks ns' s', d = terD hs tks ∧ o = [stA ns' s', .int (n : Int), .int (m : Int)] ∧ n = hs.length ∧ (∀ h ∈ hs, 0 ≤ h ∧ h < 100) ∧ TkOk n tks ∧ tks.length ≤ m) ?_
    have hc : ∃ d ρ', ev cf__law_terrain (.comp (.call (PySem.Str.ofString "_law_draw") (.io 0 (.fr (.call (PySem.Str.ofString "_law_pick") (.io 0 (.fr (.lst (.cons (.k (.int 3)) (.cons (.k (.int 100)) .nil))) .nil))) .nil))) (.n 5) (.r1 (.v 1)) .no [5]) [some (stA ns s), some (.int (n : Int)), some (.int (m : Int)), none, none, none, none, none] = some (d, ρ') ∧ ∃ hs : List Int, ∃ ns' s', d = .list (hs.map .int) ∧ ρ' = [some (stA ns' s'), some (.int (n : Int)), some (.int (m : Int)), none, none, none, none, none] ∧ n = hs.length ∧ ∀ h ∈ hs, 0 ≤ h ∧ h < 100 := by
      refine ev_comp (i_r1 (j := (n : Int)) rfl (inR_small (by omega) (by omega))) (fun acc k ρ => ∃ hs : List Int, ∃ ns' s', acc = hs.map .int ∧ ρ = [some (stA ns' s'), some (.int (n : Int)), some (.int (m : Int)), none, none, none, none, none] ∧ k = hs.length ∧ ∀ h ∈ hs, 0 ≤ h ∧ h < 100) ⟨[], ns, s, rfl, rfl, rfl, by simp⟩ (fun k hk acc ρ hI => ?_)
        (Q := fun d ρ' => ∃ hs : List Int, ∃ ns' s', d = .list (hs.map .int) ∧ ρ' = [some (stA ns' s'), some (.int (n : Int)), some (.int (m : Int)), none, none, none, none, none] ∧ n = hs.length ∧ ∀ h ∈ hs, 0 ≤ h ∧ h < 100) (fun out ρ hI => ?_)
      · obtain ⟨hs, ns1, s1, rfl, rfl, hk2, hh⟩ := hI
        rw [rng_at hk]
        obtain ⟨v, ns2, s2, v0, v1, e2⟩ := pick_draw (c := cf__law_terrain) rfl rfl (ρ := [some (.int (n : Int)), some (.int (m : Int)), none, none, some (.int (0 + (k : Int))), none, none]) ns1 s1 (es := .cons (.k (.int 3)) (.cons (.k (.int 100)) .nil)) (l := [3, 100]) (fun _ _ => rfl) (by simp) (by simp) (by simp) 100 (by simp)
        refine ⟨_, true, _, rfl, rfl, (fun z => by cases z), fun _ => ⟨_, _, e2, hs ++ [v], ns2, s2, by rw [List.map_append]; rfl, rfl, by simp; omega, fun y hy => ?_⟩⟩
        rcases List.mem_append.mp hy with hy | hy
        · exact hh y hy
        · rw [List.mem_singleton.mp hy]
          exact ⟨v0, v1⟩
      · obtain ⟨hs, ns1, s1, rfl, rfl, hk2, hh⟩ := hI
        rw [rng_len] at hk2
        have hk3 : n = hs.length := by omega
        exact ⟨by rw [List.length_map]; omega, _, rfl, hs, ns1, s1, rfl, rfl, hk3, hh⟩
    obtain ⟨d, ρ', e1, hs, ns1, s1, rfl, rfl, hh0, hh⟩ := hc
    refine wp_cons (w_set (r_b1 (d := .tuple (hs.map .int)) (r_oe e1) rfl) ?_)
    refine wp_cons (w_set (d := .list []) rfl ?_)
    have hr : ∃ r : Nat, r ≤ m ∧ (0 < r → 1 < n) ∧ evI cf__law_terrain (.r1 (.ar .mul (.v 2) (.b1 .int (.e (.cm .gt (.v 1) (.k (.int 1))))))) [some (stA ns1 s1), some (.int (n : Int)), some (.int (m : Int)), some (.tuple (hs.map .int)), some (.list []), none, none, none] = some (rngD 0 r, [some (stA ns1 s1), some (.int (n : Int)), some (.int (m : Int)), some (.tuple (hs.map .int)), some (.list []), none, none, none], []) := by
      have c1 := r_cm (c := cf__law_terrain) (o := .gt) (a := .v 1) (b := .k (.int 1)) (ρ := [some (stA ns1 s1), some (.int (n : Int)), some (.int (m : Int)), some (.tuple (hs.map .int)), some (.list []), none, none, none]) rfl rfl
      by_cases h : 1 < n
      · rw [show cmI .gt (n : Int) 1 = true from decide_eq_true (by omega)] at c1
        have e := i_r1 (r_ar (o := .mul) (a := .v 2) (ρ := [some (stA ns1 s1), some (.int (n : Int)), some (.int (m : Int)), some (.tuple (hs.map .int)), some (.list []), none, none, none]) (d := .int ((m : Int) * 1)) rfl (r_b1 (f := .int) (d := .int 1) (r_oe c1) rfl) (ar_mul (by decide) (by decide))) (inR_small (by omega) (by omega))
        rw [Int.mul_one, Int.toNat_natCast] at e
        exact ⟨m, Nat.le_refl _, fun _ => h, e⟩
      · rw [show cmI .gt (n : Int) 1 = false from decide_eq_false (by omega)] at c1
        have e := i_r1 (r_ar (o := .mul) (a := .v 2) (ρ := [some (stA ns1 s1), some (.int (n : Int)), some (.int (m : Int)), some (.tuple (hs.map .int)), some (.list []), none, none, none]) (d := .int ((m : Int) * 0)) rfl (r_b1 (f := .int) (d := .int 0) (r_oe c1) rfl) (ar_mul (by decide) (by decide))) (inR_small (by omega) (by omega))
        rw [Int.mul_zero] at e
        exact ⟨0, by omega, fun h => absurd h (by omega), e⟩
    obtain ⟨r, r1, r2, er⟩ := hr
    refine wp_cons (w_for er (fun i ρ => ∃ ns s tks x5 x6 x7, ρ = [some (stA ns s), some (.int (n : Int)), some (.int (m : Int)), some (.tuple (hs.map .int)), some (.list (tks.map tkD)), x5, x6, x7] ∧ TkOk n tks ∧ tks.length ≤ i)
      ⟨ns1, s1, [], _, _, _, rfl, (by intro t ht; simp at ht), Nat.le_refl _⟩ ?_ ?_)
    · rintro i hi _ ⟨ns, s, tks, x5, x6, x7, rfl, ht, hl⟩
      have hi' : i < r := by simpa [rngD] using hi
      have hn2 := r2 (by omega)
      rw [rng_at hi]
      obtain ⟨v, ns2, s2, v0, v1, e2⟩ := drawI (c := cf__law_terrain) rfl (e := .v 1) (m := (n : Int)) (ns := ns) (s := s) (ρ := [some (.int (n : Int)), some (.int (m : Int)), some (.tuple (hs.map .int)), some (.list (tks.map tkD)), some (.int (0 + (i : Int))), x6, x7]) rfl (by omega) (by omega)
      refine ⟨_, rfl, wp_cons (w_set e2 ?_)⟩
      obtain ⟨u, ns3, s3, u0, u1, e3⟩ := drawI (c := cf__law_terrain) rfl (e := .ar .sub (.v 1) (.k (.int 1))) (m := (n : Int) - 1) (ns := ns2) (s := s2) (ρ := [some (.int (n : Int)), some (.int (m : Int)), some (.tuple (hs.map .int)), some (.list (tks.map tkD)), some (.int (0 + (i : Int))), some (.int v), x7]) rfl (by omega) (by omega)
      refine wp_cons (w_set (r_ar (r_b1 (f := .int) (r_oe (r_ar (o := .add) (r_ar rfl rfl rfl) e3 rfl)) rfl) rfl (ar_mod (by omega))) ?_)
      obtain ⟨o0, o1, o2⟩ := other_ne v0 v1 u0 u1
      obtain ⟨w, ns4, s4, w0, w1, e4⟩ := pick_draw (c := cf__law_terrain) rfl rfl (ρ := [some (.int (n : Int)), some (.int (m : Int)), some (.tuple (hs.map .int)), some (.list (tks.map tkD)), some (.int (0 + (i : Int))), some (.int v), some (.int ((v + 1 + u) % (n : Int)))]) ns3 s3 (es := .cons (.k (.int 2)) (.cons (.k (.int 5)) (.cons (.k (.int 99)) .nil))) (l := [2, 5, 99]) (fun _ _ => rfl) (by simp) (by simp) (by simp) 99 (by simp)
      refine wp_cons (w_app (l := tks.map tkD) rfl (r_tup (r_cons rfl (r_cons rfl (r_cons (r_ar rfl e4 rfl) r_nil)))) rfl (by rw [List.length_map]; omega) (wp_nil ⟨ns4, s4, tks ++ [⟨v, (v + 1 + u) % (n : Int), 1 + w⟩], some (.int (0 + (i : Int))), some (.int v), some (.int ((v + 1 + u) % (n : Int))), ?_, fun y hy => ?_, by simp; omega⟩))
      · rw [List.map_append]
        rfl
      · rcases List.mem_append.mp hy with hy | hy
        · exact ht y hy
        · rw [List.mem_singleton.mp hy]
          exact ⟨v0, v1, o0, o1, fun e => o2 e.symm, by show 1 ≤ 1 + w; omega, by show 1 + w ≤ 99; omega⟩
    · rintro _ ⟨ns, s, tks, x5, x6, x7, rfl, ht, hl⟩
      rw [rng_len] at hl
      exact ⟨_, rfl, wp_fz (wp_cons (w_ret (d := terD hs tks) rfl ⟨_, rfl, hs, tks, ns, s, rfl, rfl, hh0, hh, ht, by omega⟩))⟩
  obtain ⟨d, o, e, hs, tks, ns', s', rfl, rfl, h⟩ := h
  exact ⟨hs, tks, ns', s', e, h⟩
end Lw_k40
namespace Lw_k40
open PySem PySem.Spec L2 Vw
/-! ### check_terrain -/
abbrev sS (x : String) : Str := PySem.Str.ofString x
def eF (r : Str) (i : Int) : Fs := [(PySem.Str.ofString "rule", .str r), (PySem.Str.ofString "index", .int i)]
theorem w_req {c : Cf} (hc : c.fx (PySem.Str.ofString "require") = fn_require) {es : Es} {ρ ρ' : Rho} {K : Po} {b : Bool} {r : Str} {i : Int} (he : evs c es ρ = some ([.bool b, .str r, .int i], ρ')) (h1 : b = true → K.N ρ') (h2 : b = false → K.X (PySem.Str.ofString "TerrainError") (eF r i) ρ') : WpS c (.cx (PySem.Str.ofString "require") es) ρ K := by
  cases b with
  | true => exact w_cx (r := .ret .none [.bool true, .str r, .int i]) he (by rw [hc]; rfl) (h1 rfl)
  | false => exact w_cx (r := .exn (PySem.Str.ofString "TerrainError") (eF r i)) he (by rw [hc]; rfl) (h2 rfl)
abbrev Bad := Option (Str × Int)
def chkH : Nat → List Int → Bad
  | _, [] => none
  | k, h :: r => if 0 ≤ h ∧ h ≤ 99 then chkH (k + 1) r else some (PySem.Str.ofString "height", (k : Int))
def tkP (n : Int) (t : Tk) : Prop := (0 ≤ t.a ∧ t.a < n) ∧ (0 ≤ t.b ∧ t.b < n) ∧ t.a ≠ t.b
instance (n : Int) (t : Tk) : Decidable (tkP n t) := by unfold tkP; infer_instance
def chkT (n : Int) : Nat → List Tk → Bad
  | _, [] => none
  | k, t :: r => if tkP n t then (if 1 ≤ t.f ∧ t.f ≤ 99 then chkT n (k + 1) r else some (PySem.Str.ofString "flat", (k : Int))) else some (PySem.Str.ofString "track", (k : Int))
def chk (hs : List Int) (tks : List Tk) : Bad :=
  if 1 ≤ hs.length ∧ hs.length ≤ 24 then
    match chkH 0 hs with
    | some b => some b
    | none => if tks.length ≤ 60 then chkT (hs.length : Int) 0 tks else some (PySem.Str.ofString "tracks", (tks.length : Int))
  else some (PySem.Str.ofString "points", (hs.length : Int))
def xrB (o : List D) : Bad → Xr
  | none => .ret .none o
  | some b => .exn (PySem.Str.ofString "TerrainError") (eF b.1 b.2)
theorem lenT_map {α : Type} (f : α → D) (l : List α) : b1D .len (.tuple (l.map f)) = some (.int (l.length : Int)) := by rw [len_b1T, List.length_map]
theorem chkH_end (l : List Int) : chkH l.length (l.drop l.length) = none := by
  rw [List.drop_length]
  rfl
theorem chkT_end (n : Int) (l : List Tk) : chkT n l.length (l.drop l.length) = none := by
  rw [List.drop_length]
  rfl
theorem check_ok (hs : List Int) (tks : List Tk) (l1 : hs.length ≤ 10000) (l2 : tks.length ≤ 10000) : fn_check_terrain [terD hs tks] = some (xrB [terD hs tks] (chk hs tks)) := by
  have h : ∃ r, fn_check_terrain [terD hs tks] = some r ∧ r = xrB [terD hs tks] (chk hs tks) := by
    refine fx_rule (c := cf_check_terrain) (ps := sg_check_terrain.ps) (n := 10) (b := ir_check_terrain) (ds := [terD hs tks]) (Q := fun r => r = xrB [terD hs tks] (chk hs tks)) ?_
    refine wp_cons (w_unp rfl rfl ?_)
    refine wp_cons (w_req rfl (r_cons (r_ch (j := (hs.length : Int)) rfl (r_b1 (r_oe rfl) (lenT_map _ hs)) rfl) (r_cons rfl (r_cons (r_b1 (r_oe rfl) (lenT_map _ hs)) r_nil))) (fun z => ?_) fun z => ?_)
    · have z : 1 ≤ hs.length ∧ hs.length ≤ 24 := by
        rw [Bool.and_eq_true] at z
        have z1 : (1 : Int) ≤ (hs.length : Int) := of_decide_eq_true z.1
        have z2 : (hs.length : Int) ≤ 24 := of_decide_eq_true z.2
        omega
      refine wp_cons (w_for (ds := enumD (hs.map .int)) (sv := []) rfl (fun k ρ => chkH 0 hs = chkH k (hs.drop k) ∧ ∃ x3 x4, ρ = [some (terD hs tks), some (.tuple (hs.map .int)), some (.tuple (tks.map tkD)), x3, x4, none, none, none, none, none]) ⟨rfl, _, _, rfl⟩ ?_ ?_)
      · rintro k hk _ ⟨e0, x3, x4, rfl⟩
        obtain ⟨hk2, e⟩ := enum_at hk
        have hk' : k < hs.length := by simpa using hk2
        rw [e, List.getElem_map]
        rw [List.drop_eq_getElem_cons hk'] at e0
        generalize hs[k] = h at *
        refine ⟨_, rfl, wp_cons (w_req rfl (r_cons (r_ch rfl rfl rfl) (r_cons rfl (r_cons rfl r_nil))) (fun z => ?_) fun z => ?_)⟩
        · rw [Bool.and_eq_true] at z
          have z1 : 0 ≤ h := of_decide_eq_true z.1
          have z2 : h ≤ 99 := of_decide_eq_true z.2
          refine wp_nil ⟨?_, _, _, rfl⟩
          rw [e0]
          exact if_pos ⟨z1, z2⟩
        · have z1 : ¬ (0 ≤ h ∧ h ≤ 99) := fun q => by
            rw [show cmI .le 0 h = true from decide_eq_true q.1, show cmI .le h 99 = true from decide_eq_true q.2] at z
            cases z
          have e2 : chkH 0 hs = some (PySem.Str.ofString "height", (k : Int)) := by
            rw [e0]
            exact if_neg z1
          show _ = xrB _ (chk hs tks)
          unfold chk
          rw [if_pos ‹1 ≤ hs.length ∧ hs.length ≤ 24›, e2]
          rfl
      · rintro _ ⟨e0, x3, x4, rfl⟩
        have hlen : (enumD (hs.map PyData.int)).length = hs.length := by simp [enumD]
        rw [hlen, chkH_end] at e0
        have ec : chk hs tks = if tks.length ≤ 60 then chkT (hs.length : Int) 0 tks else some (PySem.Str.ofString "tracks", (tks.length : Int)) := by
          unfold chk
          rw [if_pos z, e0]
        refine ⟨_, rfl, wp_cons (w_req rfl (r_cons (r_cm (i := (tks.length : Int)) (r_b1 (r_oe rfl) (lenT_map _ tks)) rfl) (r_cons rfl (r_cons (r_b1 (r_oe rfl) (lenT_map _ tks)) r_nil))) (fun z => ?_) fun z => ?_)⟩
        · have z2 : tks.length ≤ 60 := by
            have z1 : (tks.length : Int) ≤ 60 := of_decide_eq_true z
            omega
          rw [if_pos z2] at ec
          refine wp_cons (w_for (ds := enumD (tks.map tkD)) (sv := []) rfl (fun k ρ => chk hs tks = chkT (hs.length : Int) k (tks.drop k) ∧ ∃ x3 x4 x5 x6 x7 x8, ρ = [some (terD hs tks), some (.tuple (hs.map .int)), some (.tuple (tks.map tkD)), x3, x4, x5, x6, x7, x8, none]) ⟨ec, _, _, _, _, _, _, rfl⟩ ?_ ?_)
          · rintro k hk _ ⟨e0, x3, x4, x5, x6, x7, x8, rfl⟩
            obtain ⟨hk2, e⟩ := enum_at hk
            have hk' : k < tks.length := by simpa using hk2
            rw [e, List.getElem_map]
            rw [List.drop_eq_getElem_cons hk'] at e0
            generalize tks[k] = t at *
            refine ⟨_, rfl, ?_⟩
            have cm := comp_map (c := cf_check_terrain) (elt := .ch .le .lt (.k (.int 0)) (.v 9) (.b1 .len (.e (.v 1)))) (tg := .n 9) (it := .o (.e (.tup (.cons (.v 5) (.cons (.v 6) .nil))))) (ws := [9]) (ds := [.int t.a, .int t.b]) (ρ := [some (terD hs tks), some (.tuple (hs.map .int)), some (.tuple (tks.map tkD)), some (.int (k : Int)), x4, some (.int t.a), some (.int t.b), some (.int t.f), x8, none]) rfl
              (fun d => match d with
                | .int x => .bool (cmI .le 0 x && cmI .lt x (hs.length : Int))
                | d => d) rfl (by simp) (fun d hd => by
                  simp only [List.mem_cons, List.not_mem_nil, or_false] at hd
                  rcases hd with rfl | rfl
                  · exact ⟨_, _, rfl, r_ch (j := t.a) rfl rfl (r_b1 (r_oe rfl) (lenT_map _ hs)), rfl⟩
                  · exact ⟨_, _, rfl, r_ch (j := t.b) rfl rfl (r_b1 (r_oe rfl) (lenT_map _ hs)), rfl⟩)
            refine wp_cons (w_set cm ?_)
            have ea : b1D .all (.list [.bool (cmI .le 0 t.a && cmI .lt t.a (hs.length : Int)), .bool (cmI .le 0 t.b && cmI .lt t.b (hs.length : Int))]) = some (.bool ((cmI .le 0 t.a && cmI .lt t.a (hs.length : Int)) && (cmI .le 0 t.b && cmI .lt t.b (hs.length : Int)))) := by
              show some (PyData.bool (_ && (_ && true))) = _
              rw [Bool.and_true]
              rfl
            refine wp_cons (w_req rfl (r_cons (r_an2 (r_b1 (r_oe rfl) ea) (fun _ => r_eq (ng := true) rfl rfl rfl rfl)) (r_cons rfl (r_cons rfl r_nil))) (fun z => ?_) fun z => ?_)
            · have zt : tkP (hs.length : Int) t := by
                rw [Bool.and_eq_true, Bool.and_eq_true, Bool.and_eq_true, Bool.and_eq_true] at z
                obtain ⟨⟨⟨y1, y2⟩, y3, y4⟩, y5⟩ := z
                refine ⟨⟨of_decide_eq_true y1, of_decide_eq_true y2⟩, ⟨of_decide_eq_true y3, of_decide_eq_true y4⟩, fun q => ?_⟩
                rw [q] at y5
                simp [PyData.eqv] at y5
              refine wp_cons (w_req rfl (r_cons (r_ch rfl rfl rfl) (r_cons rfl (r_cons rfl r_nil))) (fun z => ?_) fun z => ?_)
              · rw [Bool.and_eq_true] at z
                refine wp_nil ⟨?_, _, _, _, _, _, _, rfl⟩
                rw [e0]
                exact (if_pos zt).trans (if_pos ⟨of_decide_eq_true z.1, of_decide_eq_true z.2⟩)
              · have z1 : ¬ (1 ≤ t.f ∧ t.f ≤ 99) := fun q => by
                  rw [show cmI .le 1 t.f = true from decide_eq_true q.1, show cmI .le t.f 99 = true from decide_eq_true q.2] at z
                  cases z
                show _ = xrB _ (chk hs tks)
                rw [e0]
                rw [show chkT (hs.length : Int) k (t :: tks.drop (k + 1)) = some (PySem.Str.ofString "flat", (k : Int)) from (if_pos zt).trans (if_neg z1)]
                rfl
            · have zt : ¬ tkP (hs.length : Int) t := fun q => by
                obtain ⟨⟨y1, y2⟩, ⟨y3, y4⟩, y5⟩ := q
                have e5 : (PyData.eqv (.int t.a) (.int t.b) != true) = true := by
                  show ((t.a == t.b) != true) = true
                  rw [beq_dec, decide_eq_false y5]
                  rfl
                rw [show cmI .le 0 t.a = true from decide_eq_true y1, show cmI .lt t.a (hs.length : Int) = true from decide_eq_true y2, show cmI .le 0 t.b = true from decide_eq_true y3, show cmI .lt t.b (hs.length : Int) = true from decide_eq_true y4, e5] at z
                cases z
              show _ = xrB _ (chk hs tks)
              rw [e0]
              rw [show chkT (hs.length : Int) k (t :: tks.drop (k + 1)) = some (PySem.Str.ofString "track", (k : Int)) from if_neg zt]
              rfl
          · rintro _ ⟨e0, x3, x4, x5, x6, x7, x8, rfl⟩
            have hlen : (enumD (tks.map tkD)).length = tks.length := by simp [enumD]
            rw [hlen, chkT_end] at e0
            refine ⟨_, rfl, wp_nil ⟨_, rfl, ?_⟩⟩
            rw [e0]
            rfl
        · have z2 : ¬ tks.length ≤ 60 := fun q => by
            have z : decide ((tks.length : Int) ≤ 60) = false := z
            rw [decide_eq_true (by omega)] at z
            cases z
          show _ = xrB _ (chk hs tks)
          rw [ec, if_neg z2]
          rfl
    · have z : ¬ (1 ≤ hs.length ∧ hs.length ≤ 24) := fun q => by
        rw [show cmI .le 1 (hs.length : Int) = true from decide_eq_true (by omega), show cmI .le (hs.length : Int) 24 = true from decide_eq_true (by omega)] at z
        cases z
      show _ = xrB _ (chk hs tks)
      unfold chk
      rw [if_neg z]
      rfl
  obtain ⟨r, e, rfl⟩ := h
  exact e
def badD : Bad → D
  | none => .tuple [.str (PySem.Str.ofString ""), .int 0]
  | some b => .tuple [.str b.1, .int b.2]
theorem raised_ok (hs : List Int) (tks : List Tk) (l1 : hs.length ≤ 10000) (l2 : tks.length ≤ 10000) : fn__law_raised [terD hs tks] = some (badD (chk hs tks), [terD hs tks]) := by
  refine eq_of (fn_rule (c := cf__law_raised) (ps := sg__law_raised.ps) (n := 2) (b := ir__law_raised) (ds := [terD hs tks]) (Q := fun d o => d = badD (chk hs tks) ∧ o = [terD hs tks]) ?_)
  refine wp_cons (w_tr (wp_cons (w_ifx (r_cons rfl r_nil) (check_ok hs tks l1 l2) ?_)))
  cases h : chk hs tks with
  | none =>
    refine And.intro (fun z => nomatch z) (fun _ => ?_)
    refine wp_nil (wp_nil ?_)
    exact wp_cons (w_ret (d := badD none) rfl ⟨_, rfl, rfl, rfl⟩)
  | some b =>
    exact ⟨rfl, Nat.lt_succ_self 1, badD (some b), rfl, _, rfl, rfl, rfl⟩
end Lw_k40
namespace Lw_k40
open PySem PySem.Spec L2 Vw
variable {hs : List Int} {tks : List Tk}
/-- the time on the track of number k from p -/
def tmi (hs : List Int) (tks : List Tk) (pa st : Int) (k p : Int) : Int := match tks[k.toNat]? with
  | some t => tm hs pa st t p
  | none => 0
theorem tmi_at {pa st : Int} {k : Nat} (hk : k < tks.length) (p : Int) : tmi hs tks pa st (k : Int) p = tm hs pa st tks[k] p := by
  unfold tmi
  rw [Int.toNat_natCast, List.getElem?_eq_getElem hk]
theorem way_of {n : Nat} {pa st : Int} (g : Good n hs tks pa st) {sh : List Int} {p : Int} {q : Int × Int} (h : q ∈ wys sh p 0 tks) :
    ∃ k : Nat, ∃ hk : k < tks.length, q.1 = (k : Int) ∧ (p = tks[k].a ∨ p = tks[k].b) ∧ q.2 = tks[k].a + tks[k].b - p ∧ 0 ≤ q.2 ∧ q.2 < n ∧ ((k : Int), p) ∈ wys sh q.2 0 tks ∧ 1 ≤ tm hs pa st tks[k] p := by
  obtain ⟨k, hk, ho, rfl⟩ := wys_mem.mp h
  rw [Nat.zero_add] at ho
  have hp := opn_in ho
  have gt := g.tk _ (List.getElem_mem hk)
  have hpa := g.pa
  have hst := g.st
  refine ⟨k, hk, by simp, hp, by simp, ?_, ?_, ?_, ?_⟩
  · show 0 ≤ tks[k].a + tks[k].b - p
    omega
  · show tks[k].a + tks[k].b - p < n
    omega
  · refine wys_mem.mpr ⟨k, hk, ?_, ?_⟩
    · rw [Nat.zero_add]
      unfold opn at ho ⊢
      simp only [Bool.and_eq_true, decide_eq_true_eq, Bool.not_eq_true', decide_eq_false_iff_not, List.mem_cons, List.not_mem_nil, or_false] at ho ⊢
      refine ⟨ho.1, ?_⟩
      omega
    · rw [Nat.zero_add]
      show ((k : Int), p) = ((k : Int), tks[k].a + tks[k].b - (tks[k].a + tks[k].b - p))
      rw [show tks[k].a + tks[k].b - (tks[k].a + tks[k].b - p) = p by omega]
  · unfold tm
    have h1 : 1 ≤ tks[k].f * pa := by
      have := Int.mul_le_mul gt.2.2.2.2.2.1 hpa.1 (by omega) (by omega)
      omega
    have h2 : 0 ≤ max 0 (hs.getD (tks[k].a + tks[k].b - p).toNat 0 - hs.getD p.toNat 0) * st := Int.mul_nonneg (by omega) (by omega)
    omega
/-- the ways from p by the track k -/
def hit (tks : List Tk) (sh : List Int) (p k : Int) : List (Int × Int) := (wys sh p 0 tks).filter fun q => decide (q.1 = k)
def wst (hs : List Int) (tks : List Tk) (pa st : Int) (sh : List Int) (tp : Int × Int) (k : Int) : Option (Int × Int) := match hit tks sh tp.2 k with
  | [] => none
  | q :: _ => some (tp.1 + tmi hs tks pa st k tp.2, q.2)
def wlk (hs : List Int) (tks : List Tk) (pa st : Int) (sh : List Int) : Int × Int → List Int → Option (Int × Int)
  | tp, [] => some tp
  | tp, k :: r => (wst hs tks pa st sh tp k).bind fun tp' => wlk hs tks pa st sh tp' r
theorem wlk_app {pa st : Int} {sh : List Int} : ∀ {l m : List Int} {tp : Int × Int}, wlk hs tks pa st sh tp (l ++ m) = (wlk hs tks pa st sh tp l).bind fun tp' => wlk hs tks pa st sh tp' m
  | [], _, _ => rfl
  | k :: l, m, tp => by
    show (wst hs tks pa st sh tp k).bind _ = ((wst hs tks pa st sh tp k).bind _).bind _
    cases wst hs tks pa st sh tp k with
    | none => rfl
    | some tp' => exact wlk_app (l := l)
theorem hit_mem {sh : List Int} {p k : Int} {q : Int × Int} (h : q ∈ hit tks sh p k) : q ∈ wys sh p 0 tks ∧ q.1 = k := by
  obtain ⟨h1, h2⟩ := List.mem_filter.mp h
  exact ⟨h1, of_decide_eq_true h2⟩
/-- all ways by one track lead to one point -/
theorem hit_one {n : Nat} {pa st : Int} (g : Good n hs tks pa st) {sh : List Int} {p : Int} {q q' : Int × Int} (h : q ∈ wys sh p 0 tks) (h' : q' ∈ wys sh p 0 tks) (e : q.1 = q'.1) : q = q' := by
  obtain ⟨k, hk, a1, _, a3, _⟩ := way_of g h
  obtain ⟨k', hk', b1, _, b3, _⟩ := way_of g h'
  have : k = k' := by omega
  subst this
  exact Prod.ext e (a3.trans b3.symm)
theorem hit_map {sh : List Int} {p k : Int} : (((wys sh p 0 tks).map pairD).filter fun d => match d with
      | .tuple [.int a, _] => decide (a = k)
      | _ => false).map (fun d => match d with
      | .tuple [_, b] => b
      | d => d) = (hit tks sh p k).map fun q => .int q.2 := by
  rw [List.filter_map, List.map_map]
  rfl
theorem ixD0 {x : D} {r : List D} : ixD (.list (x :: r)) (.int 0) = some x := by
  show ixL (x :: r) (.int 0) = _
  exact ixL_nat (l := x :: r) (i := 0) (Int.le_refl 0) rfl
def wD : Option (Int × Int) → D
  | none => .none
  | some tp => .tuple [.int tp.1, .int tp.2]
theorem walked_ok {n : Nat} {pa st : Int} (g : Good n hs tks pa st) (hl : tks.length ≤ 1000) (sh : List Int) {s0 : Int} (h0 : 0 ≤ s0) (h1 : s0 < n) (rt : List Int) (hr : rt.length ≤ 1000) :
    fn_walked [terD hs tks, kindD pa st, shutD sh, .int s0, .list (rt.map .int)] = some (wD (wlk hs tks pa st sh (0, s0) rt), [terD hs tks, kindD pa st, shutD sh, .int s0, .list (rt.map .int)]) := by
  refine eq_of (fn_rule (c := cf_walked) (ps := sg_walked.ps) (n := 11) (b := ir_walked) (ds := [terD hs tks, kindD pa st, shutD sh, .int s0, .list (rt.map .int)]) (Q := fun d o => d = (wD (wlk hs tks pa st sh (0, s0) rt)) ∧ o = [terD hs tks, kindD pa st, shutD sh, .int s0, .list (rt.map .int)]) ?_)
  refine wp_cons (w_set (d := .int 0) rfl (wp_cons (w_set (d := .int s0) rfl ?_)))
  refine wp_cons (w_for (ds := rt.map .int) (sv := []) rfl (fun i ρ => ∃ t p x7 x8 x9 x10, ρ = [some (terD hs tks), some (kindD pa st), some (shutD sh), some (.int s0), some (.list (rt.map .int)), some (.int t), some (.int p), x7, x8, x9, x10] ∧ 0 ≤ p ∧ p < n ∧ wlk hs tks pa st sh (0, s0) rt = wlk hs tks pa st sh (t, p) (rt.drop i))
    ⟨0, s0, _, _, _, _, rfl, h0, h1, rfl⟩ ?_ ?_)
  · rintro i hi _ ⟨t, p, x7, x8, x9, x10, rfl, p0, p1, ew⟩
    have hi' : i < rt.length := by simpa using hi
    rw [List.getElem_map]
    rw [List.drop_eq_getElem_cons hi'] at ew
    generalize rt[i] = k at *
    have cl : ev cf_walked (.call (PySem.Str.ofString "ways_from") (.fr (.v 0) (.fr (.v 2) (.fr (.v 6) .nil)))) [some (terD hs tks), some (kindD pa st), some (shutD sh), some (.int s0), some (.list (rt.map .int)), some (.int t), some (.int p), some (.int k), x8, x9, x10] = some (.list ((wys sh p 0 tks).map pairD), [some (terD hs tks), some (kindD pa st), some (shutD sh), some (.int s0), some (.list (rt.map .int)), some (.int t), some (.int p), some (.int k), x8, x9, x10]) :=
      r_call rfl rfl (ways_from_ok hl sh p) rfl rfl
    have hwl := wys_len sh p 0 tks
    have cm := comp_filt (c := cf_walked) (elt := .v 10) (tg := .t (.cons (.n 9) (.cons (.n 10) .nil))) (cd := .so (.e (.eq false (.v 9) (.v 7)))) (ws := [9, 10]) (i_o cl rfl) (fun d => match d with
      | .tuple [.int a, _] => decide (a = k)
      | _ => false) (fun d => match d with
      | .tuple [_, b] => b
      | d => d) (ρ0 := [some (terD hs tks), some (kindD pa st), some (shutD sh), some (.int s0), some (.list (rt.map .int)), some (.int t), some (.int p), some (.int k), x8, none, none]) rfl (by rw [List.length_map]; omega) (fun d hd => by
        obtain ⟨q, hq, rfl⟩ := List.mem_map.mp hd
        exact ⟨_, _, rfl, t_b (r_eqi rfl rfl), fun _ => rfl, fun _ => ⟨_, rfl, rfl⟩⟩)
    rw [hit_map] at cm
    refine ⟨_, rfl, wp_cons (w_set cm ?_)⟩
    cases hh : hit tks sh p k with
    | nil =>
      refine wp_cons (w_ife (z := true) (t_b rfl) (fun _ => ?_) (fun z => nomatch z))
      refine wp_cons (w_ret (d := .none) rfl ⟨_, rfl, ?_, rfl⟩)
      rw [ew]
      show _ = wD ((wst hs tks pa st sh (t, p) k).bind _)
      unfold wst
      rw [hh]
      rfl
    | cons q r =>
      obtain ⟨q1, q2⟩ := hit_mem (show q ∈ hit tks sh p k by rw [hh]; exact List.mem_cons_self)
      obtain ⟨j, hj, a1, a2, a3, a4, a5, _⟩ := way_of g q1
      have kj : k = (j : Int) := by omega
      subst kj
      have lenb : b1D .len (.list ((q :: r).map fun q => PyData.int q.2)) = some (.int ((r.length + 1 : Nat) : Int)) := by rw [len_b1L, List.length_map]; rfl
      refine wp_cons (w_ife (z := false) (t_b (by
        have := r_eqi (c := cf_walked) (a := .b1 .len (.e (.v 8))) (b := .k (.int 0)) (y := 0) (ρ := [some (terD hs tks), some (kindD pa st), some (shutD sh), some (.int s0), some (.list (rt.map .int)), some (.int t), some (.int p), some (.int (j : Int)), some (.list ((q :: r).map fun q => PyData.int q.2)), none, none]) (r_b1 (r_oe rfl) lenb) rfl
        rwa [decide_eq_false (by omega)] at this)) (fun z => nomatch z) (fun _ => wp_nil ?_))
      have tc : ev cf_walked (.call (PySem.Str.ofString "track_time") (.fr (.v 0) (.fr (.v 1) (.fr (.v 7) (.fr (.v 6) .nil))))) [some (terD hs tks), some (kindD pa st), some (shutD sh), some (.int s0), some (.list (rt.map .int)), some (.int t), some (.int p), some (.int (j : Int)), some (.list ((q :: r).map fun q => PyData.int q.2)), none, none] = some (.int (tm hs pa st tks[j] p), [some (terD hs tks), some (kindD pa st), some (shutD sh), some (.int s0), some (.list (rt.map .int)), some (.int t), some (.int p), some (.int (j : Int)), some (.list ((q :: r).map fun q => PyData.int q.2)), none, none]) :=
        r_call rfl rfl (track_time_ok g hj a2) rfl rfl
      refine wp_cons (w_aug (y := .int t) (z := .int (t + tm hs pa st tks[j] p)) rfl tc rfl ?_)
      refine wp_cons (w_set (d := .int q.2) (ρ' := [some (terD hs tks), some (kindD pa st), some (shutD sh), some (.int s0), some (.list (rt.map .int)), some (.int (t + tm hs pa st tks[j] p)), some (.int p), some (.int (j : Int)), some (.list ((q :: r).map fun q => PyData.int q.2)), none, none]) (r_ix (o := .e (.v 8)) rfl rfl rfl ixD0) (wp_nil ⟨t + tm hs pa st tks[j] p, q.2, some (.int (j : Int)), some (.list ((q :: r).map fun q => PyData.int q.2)), none, none, rfl, a4, a5, ?_⟩))
      rw [ew]
      show (wst hs tks pa st sh (t, p) (j : Int)).bind _ = _
      unfold wst
      rw [hh, tmi_at hj]
      rfl
  · rintro _ ⟨t, p, x7, x8, x9, x10, rfl, p0, p1, ew⟩
    rw [List.length_map, List.drop_length] at ew
    refine ⟨_, rfl, wp_cons (w_ret (d := .tuple [.int t, .int p]) rfl ⟨_, rfl, ?_, rfl⟩)⟩
    rw [ew]
    rfl
end Lw_k40
namespace Lw_k40
open PySem PySem.Spec L2 Vw
variable {hs : List Int} {tks : List Tk}
theorem shaped_pairs (l : List (Int × Int)) : SeqAt.shaped (.list (l.map pairD)) = true := by
  exact (sh_list (k := 1) (sh_map fun q => sh_tup (sh_cons (sh_int _) (sh_cons (sh_int _) sh_nil)))).ok
theorem walks_ok {n : Nat} {pa st : Int} (g : Good n hs tks pa st) (hl : tks.length ≤ 1000) (hn0 : 0 < n) (hn : n ≤ 1000) (sh : List Int) (hsl : sh.length ≤ 1000) (ns0 : List Int) (s0 : Int) :
    ∃ ns' s', fn__law_walks_right [stA ns0 s0, terD hs tks, kindD pa st, shutD sh] = some (.bool true, [stA ns' s', terD hs tks, kindD pa st, shutD sh]) := by
  have h : ∃ d o, fn__law_walks_right [stA ns0 s0, terD hs tks, kindD pa st, shutD sh] = some (d, o) ∧ ∃ ns' s', d = .bool true ∧ o = [stA ns' s', terD hs tks, kindD pa st, shutD sh] := by
    refine fn_rule (c := cf__law_walks_right) (ps := sg__law_walks_right.ps) (n := 18) (b := ir__law_walks_right) (ds := [stA ns0 s0, terD hs tks, kindD pa st, shutD sh]) (Q := fun d o => ∃ ns' s', d = .bool true ∧ o = [stA ns' s', terD hs tks, kindD pa st, shutD sh]) ?_
    have n1 := g.n1
    have lenh : b1D .len (.tuple (hs.map .int)) = some (.int (n : Int)) := by rw [lenT_map, n1]
    obtain ⟨v, ns1, s1, v0, v1, e1⟩ := drawI (c := cf__law_walks_right) rfl (e := .b1 .len (.e (.ix (.e (.v 1)) (.k (.int 0))))) (m := (n : Int)) (ns := ns0) (s := s0) (ρ := [some (terD hs tks), some (kindD pa st), some (shutD sh), none, none, none, none, none, none, none, none, none, none, none, none, none, none]) (r_b1 (r_oe rfl) lenh) (by omega) (by omega)
    refine wp_cons (w_set e1 (wp_cons (w_par rfl rfl (wp_cons (w_set (d := .list []) rfl ?_)))))
    obtain ⟨u, ns2, s2, u0, u1, e2⟩ := drawI (c := cf__law_walks_right) rfl (e := .k (.int 9)) (ns := ns1) (s := s1) (ρ := [some (terD hs tks), some (kindD pa st), some (shutD sh), some (.int v), some (.int v), some (.int 0), some (.list []), none, none, none, none, none, none, none, none, none, none]) rfl (by decide) (by decide)
    refine wp_cons (w_for (i_r1 e2 (inR_small (by omega) (by omega))) (fun i ρ => ∃ ns s p τ rt x8 x9 x10 x11, ρ = [some (stA ns s), some (terD hs tks), some (kindD pa st), some (shutD sh), some (.int v), some (.int p), some (.int τ), some (.list ((rt : List Int).map .int)), x8, x9, x10, x11, none, none, none, none, none, none] ∧ 0 ≤ p ∧ p < (n : Int) ∧ wlk hs tks pa st sh (0, v) rt = some (τ, p) ∧ rt.length ≤ i)
      ⟨ns2, s2, v, 0, [], _, _, _, _, rfl, v0, v1, rfl, Nat.le_refl _⟩ ?_ ?_)
    · rintro i hi _ ⟨ns, s, p, τ, rt, x8, x9, x10, x11, rfl, p0, p1, ew, hrl⟩
      have hi' : i < 9 := by
        have : i < u.toNat := by simpa [rngD] using hi
        omega
      rw [rng_at hi]
      have lw : ev cf__law_walks_right (.call (PySem.Str.ofString "_law_ways") (.fr (.v 1) (.fr (.v 3) (.fr (.v 5) .nil)))) [some (stA ns s), some (terD hs tks), some (kindD pa st), some (shutD sh), some (.int v), some (.int p), some (.int τ), some (.list (rt.map .int)), some (.int (0 + (i : Int))), x9, x10, x11, none, none, none, none, none, none] = some (.list ((wys sh p 0 tks).map pairD), [some (stA ns s), some (terD hs tks), some (kindD pa st), some (shutD sh), some (.int v), some (.int p), some (.int τ), some (.list (rt.map .int)), some (.int (0 + (i : Int))), x9, x10, x11, none, none, none, none, none, none]) :=
        r_callf (g := fn__law_ways) rfl (law_ways_ok hl sh p) rfl rfl rfl rfl
      refine ⟨_, rfl, wp_cons (w_set lw ?_)⟩
      have te := r_eq (c := cf__law_walks_right) (ng := true) (a := .v 9) (b := .lst .nil) (x := .list ((wys sh p 0 tks).map pairD)) (y := .list []) (ρ := [some (stA ns s), some (terD hs tks), some (kindD pa st), some (shutD sh), some (.int v), some (.int p), some (.int τ), some (.list (rt.map .int)), some (.int (0 + (i : Int))), some (.list ((wys sh p 0 tks).map pairD)), x10, x11, none, none, none, none, none, none]) rfl (r_lst r_nil) (shaped_pairs _) rfl
      have tv : (PyData.eqv (.list ((wys sh p 0 tks).map pairD)) (.list []) != true) = !(wys sh p 0 tks).isEmpty := by cases wys sh p 0 tks <;> rfl
      rw [tv] at te
      refine wp_cons (w_ife (t_b te) (fun hz => ?_) fun hz => wp_nil (wp_nil ⟨ns, s, p, τ, rt, _, some (.list ((wys sh p 0 tks).map pairD)), x10, x11, rfl, p0, p1, ew, by omega⟩))
      · have hw : 0 < (wys sh p 0 tks).length := by
          cases h : wys sh p 0 tks with
          | nil => rw [h] at hz; cases hz
          | cons q r => exact Nat.succ_pos _
        have hwl := wys_len sh p 0 tks
        obtain ⟨j, hj, ns3, s3, e3⟩ := pick_ok ns s ((wys sh p 0 tks).map pairD) (by rw [List.length_map]; exact hw) (by rw [List.length_map]; omega)
        have hj' : j < (wys sh p 0 tks).length := by simpa using hj
        rw [List.getElem_map] at e3
        have hq : (wys sh p 0 tks)[j] ∈ wys sh p 0 tks := List.getElem_mem hj'
        generalize (wys sh p 0 tks)[j] = q' at *
        obtain ⟨k, hk, a1, a2, a3, a4, a5, _⟩ := way_of g hq
        have pk : ev cf__law_walks_right (.call (PySem.Str.ofString "_law_pick") (.io 0 (.fr (.v 9) .nil))) [some (stA ns s), some (terD hs tks), some (kindD pa st), some (shutD sh), some (.int v), some (.int p), some (.int τ), some (.list (rt.map .int)), some (.int (0 + (i : Int))), some (.list ((wys sh p 0 tks).map pairD)), x10, x11, none, none, none, none, none, none] = some (pairD q', [some (stA ns3 s3), some (terD hs tks), some (kindD pa st), some (shutD sh), some (.int v), some (.int p), some (.int τ), some (.list (rt.map .int)), some (.int (0 + (i : Int))), some (.list ((wys sh p 0 tks).map pairD)), x10, x11, none, none, none, none, none, none]) :=
          r_callf (g := fn__law_pick) rfl e3 (a_i rfl (a_f rfl a_n)) rfl rfl rfl
        refine wp_cons (w_unp pk rfl ?_)
        obtain ⟨q1, q2⟩ := q'
        have a1 : q1 = (k : Int) := a1
        subst a1
        have tt : ev cf__law_walks_right (.call (PySem.Str.ofString "track_time") (.fr (.v 1) (.fr (.v 2) (.fr (.v 10) (.fr (.v 5) .nil))))) [some (stA ns3 s3), some (terD hs tks), some (kindD pa st), some (shutD sh), some (.int v), some (.int p), some (.int τ), some (.list (rt.map .int)), some (.int (0 + (i : Int))), some (.list ((wys sh p 0 tks).map pairD)), some (.int (k : Int)), some (.int q2), none, none, none, none, none, none] = some (.int (tm hs pa st tks[k] p), [some (stA ns3 s3), some (terD hs tks), some (kindD pa st), some (shutD sh), some (.int v), some (.int p), some (.int τ), some (.list (rt.map .int)), some (.int (0 + (i : Int))), some (.list ((wys sh p 0 tks).map pairD)), some (.int (k : Int)), some (.int q2), none, none, none, none, none, none]) :=
          r_callf (g := fn_track_time) rfl (track_time_ok g hk a2) rfl rfl rfl rfl
        have lt : ev cf__law_walks_right (.call (PySem.Str.ofString "_law_time") (.fr (.v 1) (.fr (.v 2) (.fr (.v 10) (.fr (.v 5) .nil))))) [some (stA ns3 s3), some (terD hs tks), some (kindD pa st), some (shutD sh), some (.int v), some (.int p), some (.int τ), some (.list (rt.map .int)), some (.int (0 + (i : Int))), some (.list ((wys sh p 0 tks).map pairD)), some (.int (k : Int)), some (.int q2), none, none, none, none, none, none] = some (.int (tm hs pa st tks[k] p), [some (stA ns3 s3), some (terD hs tks), some (kindD pa st), some (shutD sh), some (.int v), some (.int p), some (.int τ), some (.list (rt.map .int)), some (.int (0 + (i : Int))), some (.list ((wys sh p 0 tks).map pairD)), some (.int (k : Int)), some (.int q2), none, none, none, none, none, none]) :=
          r_callf (g := fn__law_time) rfl (law_time_ok g hk a2) rfl rfl rfl rfl
        have ne := r_eq (ng := true) tt lt rfl rfl
        have e0 : (PyData.eqv (.int (tm hs pa st tks[k] p)) (.int (tm hs pa st tks[k] p)) != true) = false := by
          show ((tm hs pa st tks[k] p == tm hs pa st tks[k] p) != true) = false
          rw [beq_self_eq_true]
          rfl
        rw [e0] at ne
        refine wp_cons (w_ife (z := false) (t_b ne) (fun z => nomatch z) fun _ => wp_nil ?_)
        refine wp_cons (w_set (r_ar rfl lt rfl) (wp_cons (w_app (l := rt.map .int) rfl rfl rfl (by rw [List.length_map]; omega) (wp_cons (w_set (d := .int q2) rfl ?_)))))
        refine wp_nil (wp_nil ⟨ns3, s3, q2, τ + tm hs pa st tks[k] p, rt ++ [(k : Int)], some (.int (0 + (i : Int))), some (.list ((wys sh p 0 tks).map pairD)), some (.int (k : Int)), some (.int q2), ?_, a4, a5, ?_, by simp; omega⟩)
        · rw [List.map_append]
          rfl
        · rw [wlk_app, ew]
          show (wst hs tks pa st sh (τ, p) (k : Int)).bind _ = _
          unfold wst
          have hm : ((k : Int), q2) ∈ hit tks sh p (k : Int) := List.mem_filter.mpr ⟨hq, decide_eq_true rfl⟩
          cases hh : hit tks sh p (k : Int) with
          | nil => rw [hh] at hm; cases hm
          | cons q r =>
            obtain ⟨b1, b2⟩ := hit_mem (show q ∈ hit tks sh p (k : Int) by rw [hh]; exact List.mem_cons_self)
            have := hit_one g b1 hq b2
            rw [this, tmi_at hk]
            rfl
    · rintro _ ⟨ns, s, p, τ, rt, x8, x9, x10, x11, rfl, p0, p1, ew, hrl⟩
      rw [rng_len] at hrl
      have hrl : rt.length ≤ 9 := by omega
      have wk : ev cf__law_walks_right (.call (PySem.Str.ofString "walked") (.fr (.v 1) (.fr (.v 2) (.fr (.v 3) (.fr (.v 4) (.fr (.b1 .lst (.e (.v 7))) .nil)))))) [some (stA ns s), some (terD hs tks), some (kindD pa st), some (shutD sh), some (.int v), some (.int p), some (.int τ), some (.list (rt.map .int)), x8, x9, x10, x11, none, none, none, none, none, none] = some (.tuple [.int τ, .int p], [some (stA ns s), some (terD hs tks), some (kindD pa st), some (shutD sh), some (.int v), some (.int p), some (.int τ), some (.list (rt.map .int)), x8, x9, x10, x11, none, none, none, none, none, none]) := by
        have := walked_ok g hl sh v0 v1 rt (by omega)
        rw [ew] at this
        exact r_callf (g := fn_walked) rfl this rfl rfl rfl rfl
      have ne := r_eq (ng := true) (b := .tup (.cons (.v 6) (.cons (.v 5) .nil))) wk (r_tup (r_cons rfl (r_cons rfl r_nil))) rfl rfl
      have e0 : (PyData.eqv (.tuple [.int τ, .int p]) (.tuple [.int τ, .int p]) != true) = false := by
        show (((τ == τ) && ((p == p) && true)) != true) = false
        rw [beq_self_eq_true, beq_self_eq_true]
        rfl
      rw [e0] at ne
      refine ⟨_, rfl, wp_fz (wp_cons (w_ife (z := false) (t_b ne) (fun z => nomatch z) fun _ => wp_nil ?_))⟩
      have lw : ev cf__law_walks_right (.call (PySem.Str.ofString "_law_ways") (.fr (.v 1) (.fr (.v 3) (.fr (.v 5) .nil)))) [some (stA ns s), some (terD hs tks), some (kindD pa st), some (shutD sh), some (.int v), some (.int p), some (.int τ), some (.list (rt.map .int)), x8, x9, x10, x11, none, none, none, none, none, none] = some (.list ((wys sh p 0 tks).map pairD), [some (stA ns s), some (terD hs tks), some (kindD pa st), some (shutD sh), some (.int v), some (.int p), some (.int τ), some (.list (rt.map .int)), x8, x9, x10, x11, none, none, none, none, none, none]) :=
        r_callf (g := fn__law_ways) rfl (law_ways_ok hl sh p) rfl rfl rfl rfl
      have hwl := wys_len sh p 0 tks
      have cm := comp_map (c := cf__law_walks_right) (elt := .v 10) (tg := .t (.cons (.n 10) (.cons (.n 11) .nil))) (ws := [10, 11]) (i_o lw rfl) (fun d => match d with
        | .tuple [a, _] => a
        | d => d) (ρ0 := [some (stA ns s), some (terD hs tks), some (kindD pa st), some (shutD sh), some (.int v), some (.int p), some (.int τ), some (.list (rt.map .int)), x8, x9, none, none, none, none, none, none, none, none]) rfl (by rw [List.length_map]; omega) (fun d hd => by
          obtain ⟨q, hq, rfl⟩ := List.mem_map.mp hd
          exact ⟨_, _, rfl, rfl, rfl⟩)
      have em : (((wys sh p 0 tks).map pairD).map (fun d => match d with
        | .tuple [a, _] => a
        | d => d)) = ((wys sh p 0 tks).map (·.1)).map PyData.int := by
        rw [List.map_map, List.map_map]
        rfl
      rw [em] at cm
      refine wp_cons (w_set cm ?_)
      obtain ⟨y, ns4, s4, y0, y1, e4⟩ := drawI (c := cf__law_walks_right) rfl (e := .k (.int 60)) (ns := ns) (s := s) (ρ := [some (terD hs tks), some (kindD pa st), some (shutD sh), some (.int v), some (.int p), some (.int τ), some (.list (rt.map .int)), x8, x9, none, none, some (.list (((wys sh p 0 tks).map (·.1)).map PyData.int)), none, none, none, none, none]) rfl (by decide) (by decide)
      obtain ⟨wr, hwr, ns5, s5, e5⟩ := pick_int ns4 s4 ([-1, (tks.length : Int), y] ++ sh) (by simp) (by simp; omega)
      have lst : ev cf__law_walks_right (.lcat (.e (.lst (.cons (.neg (.k (.int 1))) (.cons (.b1 .len (.e (.ix (.e (.v 1)) (.k (.int 1))))) (.cons (.call (PySem.Str.ofString "_law_draw") (.io 0 (.fr (.k (.int 60)) .nil))) .nil))))) (.e (.b1 .lst (.e (.v 3))))) [some (stA ns s), some (terD hs tks), some (kindD pa st), some (shutD sh), some (.int v), some (.int p), some (.int τ), some (.list (rt.map .int)), x8, x9, none, none, some (.list (((wys sh p 0 tks).map (·.1)).map PyData.int)), none, none, none, none, none] = some (.list (([-1, (tks.length : Int), y] ++ sh).map .int), [some (stA ns4 s4), some (terD hs tks), some (kindD pa st), some (shutD sh), some (.int v), some (.int p), some (.int τ), some (.list (rt.map .int)), x8, x9, none, none, some (.list (((wys sh p 0 tks).map (·.1)).map PyData.int)), none, none, none, none, none]) := by
        refine r_lcat (r_oe (r_lst (r_cons rfl (r_cons (r_b1 (r_oe rfl) (lenT_map _ tks)) (r_cons e4 r_nil))))) (r_oe (r_b1 (d := .list (sh.map .int)) (r_oe rfl) rfl)) rfl ?_
        show (if lenOk (3 + (sh.map PyData.int).length) = true then _ else none) = _
        rw [List.length_map, if_pos (lenOkS (by omega)), List.map_append]
        rfl
      have pk : ev cf__law_walks_right (.call (PySem.Str.ofString "_law_pick") (.io 0 (.fr (.lcat (.e (.lst (.cons (.neg (.k (.int 1))) (.cons (.b1 .len (.e (.ix (.e (.v 1)) (.k (.int 1))))) (.cons (.call (PySem.Str.ofString "_law_draw") (.io 0 (.fr (.k (.int 60)) .nil))) .nil))))) (.e (.b1 .lst (.e (.v 3))))) .nil))) [some (stA ns s), some (terD hs tks), some (kindD pa st), some (shutD sh), some (.int v), some (.int p), some (.int τ), some (.list (rt.map .int)), x8, x9, none, none, some (.list (((wys sh p 0 tks).map (·.1)).map PyData.int)), none, none, none, none, none] = some (.int wr, [some (stA ns5 s5), some (terD hs tks), some (kindD pa st), some (shutD sh), some (.int v), some (.int p), some (.int τ), some (.list (rt.map .int)), x8, x9, none, none, some (.list (((wys sh p 0 tks).map (·.1)).map PyData.int)), none, none, none, none, none]) :=
        r_callf (g := fn__law_pick) rfl e5 (a_i rfl (a_f lst a_n)) rfl rfl rfl
      refine wp_cons (w_set pk ?_)
      have hw2 := walked_ok g hl sh v0 v1 (rt ++ [wr]) (by simp; omega)
      have ap : ev cf__law_walks_right (.lcat (.e (.v 7)) (.e (.lst (.cons (.v 13) .nil)))) [some (stA ns5 s5), some (terD hs tks), some (kindD pa st), some (shutD sh), some (.int v), some (.int p), some (.int τ), some (.list (rt.map .int)), x8, x9, none, none, some (.list (((wys sh p 0 tks).map (·.1)).map PyData.int)), some (.int wr), none, none, none, none] = some (.list ((rt ++ [wr]).map .int), [some (stA ns5 s5), some (terD hs tks), some (kindD pa st), some (shutD sh), some (.int v), some (.int p), some (.int τ), some (.list (rt.map .int)), x8, x9, none, none, some (.list (((wys sh p 0 tks).map (·.1)).map PyData.int)), some (.int wr), none, none, none, none]) := by
        refine r_lcat (r_oe rfl) (r_oe (r_lst (r_cons rfl r_nil))) rfl ?_
        show (if lenOk ((rt.map PyData.int).length + 1) = true then _ else none) = _
        rw [List.length_map, if_pos (lenOkS (by omega)), List.map_append]
        rfl
      have wk2 : ev cf__law_walks_right (.call (PySem.Str.ofString "walked") (.fr (.v 1) (.fr (.v 2) (.fr (.v 3) (.fr (.v 4) (.fr (.lcat (.e (.v 7)) (.e (.lst (.cons (.v 13) .nil)))) .nil)))))) [some (stA ns5 s5), some (terD hs tks), some (kindD pa st), some (shutD sh), some (.int v), some (.int p), some (.int τ), some (.list (rt.map .int)), x8, x9, none, none, some (.list (((wys sh p 0 tks).map (·.1)).map PyData.int)), some (.int wr), none, none, none, none] = some (wD (wlk hs tks pa st sh (0, v) (rt ++ [wr])), [some (stA ns5 s5), some (terD hs tks), some (kindD pa st), some (shutD sh), some (.int v), some (.int p), some (.int τ), some (.list (rt.map .int)), x8, x9, none, none, some (.list (((wys sh p 0 tks).map (·.1)).map PyData.int)), some (.int wr), none, none, none, none]) :=
        r_callf (g := fn_walked) rfl hw2 (a_f rfl (a_f rfl (a_f rfl (a_f rfl (a_f ap a_n))))) rfl rfl rfl
      refine wp_cons (w_set wk2 ?_)
      have ew2 : wlk hs tks pa st sh (0, v) (rt ++ [wr]) = wst hs tks pa st sh (τ, p) wr := by
        rw [wlk_app, ew]
        show (wst hs tks pa st sh (τ, p) wr).bind _ = _
        cases wst hs tks pa st sh (τ, p) wr <;> rfl
      rw [ew2]
      have ni := r_inn (c := cf__law_walks_right) (ng := true) (a := .v 13) (o := .e (.v 12)) (l := ((wys sh p 0 tks).map (·.1)).map PyData.int) (ρ := [some (stA ns5 s5), some (terD hs tks), some (kindD pa st), some (shutD sh), some (.int v), some (.int p), some (.int τ), some (.list (rt.map .int)), x8, x9, none, none, some (.list (((wys sh p 0 tks).map (·.1)).map PyData.int)), some (.int wr), some (wD (wst hs tks pa st sh (τ, p) wr)), none, none, none]) rfl rfl rfl rfl (flat_ints _)
      rw [bneT, any_int] at ni
      refine wp_cons (w_ife (t_b ni) (fun z => ?_) fun z => wp_nil ?_)
      · have hn : wr ∉ (wys sh p 0 tks).map (·.1) := fun q => by
          rw [decide_eq_true q] at z
          cases z
        have hh : hit tks sh p wr = [] := List.filter_eq_nil_iff.mpr fun q hq => by
          intro h
          exact hn (List.mem_map.mpr ⟨q, hq, of_decide_eq_true h⟩)
        have e9 : wst hs tks pa st sh (τ, p) wr = none := by
          unfold wst
          rw [hh]
        rw [e9]
        exact wp_cons (w_ret (d := .bool true) rfl ⟨_, rfl, ns5, s5, rfl, rfl⟩)
      · have hn : wr ∈ (wys sh p 0 tks).map (·.1) := by
          by_cases q : wr ∈ (wys sh p 0 tks).map (·.1)
          · exact q
          · rw [decide_eq_false q] at z
            cases z
        obtain ⟨q, hq, e6⟩ := List.mem_map.mp hn
        obtain ⟨k, hk, a1, a2, a3, a4, a5, _⟩ := way_of g hq
        have e7 : wr = (k : Int) := by omega
        subst e7
        have e9 : wst hs tks pa st sh (τ, p) (k : Int) = some (τ + tm hs pa st tks[k] p, tks[k].a + tks[k].b - p) := by
          unfold wst
          have hm : q ∈ hit tks sh p (k : Int) := List.mem_filter.mpr ⟨hq, decide_eq_true a1⟩
          cases hh : hit tks sh p (k : Int) with
          | nil => rw [hh] at hm; cases hm
          | cons q' r =>
            obtain ⟨b1, b2⟩ := hit_mem (show q' ∈ hit tks sh p (k : Int) by rw [hh]; exact List.mem_cons_self)
            have := hit_one g b1 hq (by omega)
            show some (τ + tmi hs tks pa st (k : Int) p, q'.2) = _
            rw [this, tmi_at hk, a3]
        rw [e9]
        refine wp_cons (w_unp (r_ix (o := .e (.ix (.e (.v 1)) (.k (.int 1)))) (b := .v 13) rfl rfl rfl (tk_at hk)) rfl ?_)
        have lt : ev cf__law_walks_right (.call (PySem.Str.ofString "_law_time") (.fr (.v 1) (.fr (.v 2) (.fr (.v 13) (.fr (.v 5) .nil))))) [some (stA ns5 s5), some (terD hs tks), some (kindD pa st), some (shutD sh), some (.int v), some (.int p), some (.int τ), some (.list (rt.map .int)), x8, x9, none, none, some (.list (((wys sh p 0 tks).map (·.1)).map PyData.int)), some (.int (k : Int)), some (wD (some (τ + tm hs pa st tks[k] p, tks[k].a + tks[k].b - p))), some (.int tks[k].a), some (.int tks[k].b), some (.int tks[k].f)] = some (.int (tm hs pa st tks[k] p), [some (stA ns5 s5), some (terD hs tks), some (kindD pa st), some (shutD sh), some (.int v), some (.int p), some (.int τ), some (.list (rt.map .int)), x8, x9, none, none, some (.list (((wys sh p 0 tks).map (·.1)).map PyData.int)), some (.int (k : Int)), some (wD (some (τ + tm hs pa st tks[k] p, tks[k].a + tks[k].b - p))), some (.int tks[k].a), some (.int tks[k].b), some (.int tks[k].f)]) :=
          r_callf (g := fn__law_time) rfl (law_time_ok g hk a2) rfl rfl rfl rfl
        have fin := r_eq (c := cf__law_walks_right) (ρ := [some (stA ns5 s5), some (terD hs tks), some (kindD pa st), some (shutD sh), some (.int v), some (.int p), some (.int τ), some (.list (rt.map .int)), x8, x9, none, none, some (.list (((wys sh p 0 tks).map (·.1)).map PyData.int)), some (.int (k : Int)), some (wD (some (τ + tm hs pa st tks[k] p, tks[k].a + tks[k].b - p))), some (.int tks[k].a), some (.int tks[k].b), some (.int tks[k].f)]) (ρ1 := [some (stA ns5 s5), some (terD hs tks), some (kindD pa st), some (shutD sh), some (.int v), some (.int p), some (.int τ), some (.list (rt.map .int)), x8, x9, none, none, some (.list (((wys sh p 0 tks).map (·.1)).map PyData.int)), some (.int (k : Int)), some (wD (some (τ + tm hs pa st tks[k] p, tks[k].a + tks[k].b - p))), some (.int tks[k].a), some (.int tks[k].b), some (.int tks[k].f)]) (ng := false) (a := .v 14) (x := wD (some (τ + tm hs pa st tks[k] p, tks[k].a + tks[k].b - p))) (y := .tuple [.int (τ + tm hs pa st tks[k] p), .int (tks[k].a + tks[k].b - p)]) rfl (r_tup (r_cons (r_ar (o := .add) (a := .v 6) (x := .int τ) rfl lt rfl) (r_cons (r_ar (o := .sub) (a := .ar .add (.v 15) (.v 16)) (b := .v 5) (x := .int (tks[k].a + tks[k].b)) (y := .int p) rfl rfl rfl) r_nil))) rfl rfl
        have e10 : (PyData.eqv (wD (some (τ + tm hs pa st tks[k] p, tks[k].a + tks[k].b - p))) (.tuple [.int (τ + tm hs pa st tks[k] p), .int (tks[k].a + tks[k].b - p)]) != false) = true := by
          show (((τ + tm hs pa st tks[k] p == τ + tm hs pa st tks[k] p) && ((tks[k].a + tks[k].b - p == tks[k].a + tks[k].b - p) && true)) != false) = true
          rw [beq_self_eq_true, beq_self_eq_true]
          rfl
        rw [e10] at fin
        exact wp_cons (w_ret fin ⟨_, rfl, ns5, s5, rfl, rfl⟩)
  obtain ⟨d, o, e, ns', s', rfl, rfl⟩ := h
  exact ⟨ns', s', e⟩
end Lw_k40
namespace Lw_k40
open PySem PySem.Spec L2 Vw
variable {hs : List Int} {tks : List Tk}
/-! ### what is broken -/
theorem chkH_good : ∀ {l : List Int} {j : Nat}, (∀ h ∈ l, 0 ≤ h ∧ h < 100) → chkH j l = none
  | [], _, _ => rfl
  | h :: r, j, g => by
    have := g h List.mem_cons_self
    exact (if_pos ⟨this.1, by omega⟩).trans (chkH_good fun x hx => g x (List.mem_cons_of_mem _ hx))
theorem chkH_bad {v : Int} (hv : ¬ (0 ≤ v ∧ v ≤ 99)) {post : List Int} : ∀ {l : List Int} {j : Nat}, (∀ h ∈ l, 0 ≤ h ∧ h < 100) → chkH j (l ++ v :: post) = some (PySem.Str.ofString "height", ((j + l.length : Nat) : Int))
  | [], _, _ => if_neg hv
  | h :: r, j, g => by
    have := g h List.mem_cons_self
    refine (if_pos ⟨this.1, by omega⟩).trans ?_
    show chkH (j + 1) (r ++ v :: post) = _
    rw [chkH_bad hv (fun x hx => g x (List.mem_cons_of_mem _ hx))]
    rw [List.length_cons, show j + 1 + r.length = j + (r.length + 1) by omega]
theorem tkP_of {n : Nat} {t : Tk} (h : 0 ≤ t.a ∧ t.a < (n : Int) ∧ 0 ≤ t.b ∧ t.b < (n : Int) ∧ t.a ≠ t.b ∧ 1 ≤ t.f ∧ t.f ≤ 99) : tkP (n : Int) t := ⟨⟨h.1, h.2.1⟩, ⟨h.2.2.1, h.2.2.2.1⟩, h.2.2.2.2.1⟩
theorem chkT_good {n : Nat} : ∀ {l : List Tk} {j : Nat}, TkOk n l → chkT (n : Int) j l = none
  | [], _, _ => rfl
  | t :: r, j, g => by
    have := g t List.mem_cons_self
    exact (if_pos (tkP_of this)).trans ((if_pos this.2.2.2.2.2).trans (chkT_good fun x hx => g x (List.mem_cons_of_mem _ hx)))
theorem chkT_app {n : Nat} {t : Tk} : ∀ {l : List Tk} {j : Nat}, TkOk n l → chkT (n : Int) j (l ++ [t]) = chkT (n : Int) (j + l.length) [t]
  | [], _, _ => rfl
  | x :: r, j, g => by
    have := g x List.mem_cons_self
    refine (if_pos (tkP_of this)).trans ((if_pos this.2.2.2.2.2).trans ?_)
    show chkT (n : Int) (j + 1) (r ++ [t]) = _
    rw [chkT_app (fun x hx => g x (List.mem_cons_of_mem _ hx)), List.length_cons, show j + 1 + r.length = j + (r.length + 1) by omega]
theorem chk_good {n : Nat} (n0 : 1 ≤ n) (n1 : n ≤ 24) (hn : n = hs.length) (gh : ∀ h ∈ hs, 0 ≤ h ∧ h < 100) (gt : TkOk n tks) (tl : tks.length ≤ 60) : chk hs tks = none := by
  subst hn
  unfold chk
  rw [if_pos ⟨n0, n1⟩, chkH_good gh]
  exact (if_pos tl).trans (chkT_good gt)
theorem chk_tracks {n : Nat} (n0 : 1 ≤ n) (n1 : n ≤ 24) (hn : n = hs.length) (gh : ∀ h ∈ hs, 0 ≤ h ∧ h < 100) {l : List Tk} : chk hs l = if l.length ≤ 60 then chkT (n : Int) 0 l else some (PySem.Str.ofString "tracks", (l.length : Int)) := by
  subst hn
  unfold chk
  rw [if_pos ⟨n0, n1⟩, chkH_good gh]
theorem put_len {α : Type} {l : List α} {k : Nat} {x : α} (h : k < l.length) : (l.take k ++ x :: l.drop (k + 1)).length = l.length := by
  rw [List.length_append, List.length_take, List.length_cons, List.length_drop]
  omega
theorem chk_height {n k : Nat} (n0 : 1 ≤ n) (n1 : n ≤ 24) (hn : n = hs.length) (gh : ∀ h ∈ hs, 0 ≤ h ∧ h < 100) (hk : k < n) {v : Int} (hv : ¬ (0 ≤ v ∧ v ≤ 99)) {l : List Tk} : chk (hs.take k ++ v :: hs.drop (k + 1)) l = some (PySem.Str.ofString "height", (k : Int)) := by
  unfold chk
  rw [put_len (by omega), ← hn, if_pos ⟨n0, n1⟩, chkH_bad hv (fun x hx => gh x (List.mem_of_mem_take hx)), List.length_take, Nat.min_eq_left (by omega), Nat.zero_add]
theorem put_ok {l : List D} {k : Nat} {x : D} (hl : l.length ≤ 1000) : fn__law_put [.tuple l, .int (k : Int), x] = some (.tuple (l.take k ++ x :: l.drop (k + 1)), [.tuple l, .int (k : Int), x]) := by
  refine eq_of (fn_rule (c := cf__law_put) (ps := sg__law_put.ps) (n := 3) (b := ir__law_put) (ds := [.tuple l, .int (k : Int), x]) (Q := fun d o => d = .tuple (l.take k ++ x :: l.drop (k + 1)) ∧ o = [.tuple l, .int (k : Int), x]) ?_)
  have e1 : ev cf__law_put (.slc (.e (.v 0)) .no (.so (.v 1))) [some (.tuple l), some (.int (k : Int)), some x] = some (.tuple (l.take k), [some (.tuple l), some (.int (k : Int)), some x]) :=
    slc_b (l := l) (r_oe rfl) rfl rfl (by show some (PyData.tuple (cutD l none (some (k : Int)))) = _; rw [cut_b])
  have e2 : ev cf__law_put (.slc (.e (.v 0)) (.so (.ar .add (.v 1) (.k (.int 1)))) .no) [some (.tuple l), some (.int (k : Int)), some x] = some (.tuple (l.drop (k + 1)), [some (.tuple l), some (.int (k : Int)), some x]) :=
    slc_a (l := l) (i := ((k + 1 : Nat) : Int)) (r_oe rfl) rfl rfl (by show some (PyData.tuple (cutD l (some ((k + 1 : Nat) : Int)) none)) = _; rw [cut_a])
  have e3 := r_tcat (r_tcat e1 (r_tup (r_cons (a := .v 2) rfl r_nil)) (m := [x]) (by simp; omega)) e2 (by simp; omega)
  exact wp_cons (w_ret e3 ⟨_, rfl, by rw [List.append_assoc]; rfl, rfl⟩)
def brD (hs : List Int) (l : List Tk) (r : Str) (i : Int) : D := .tuple [terD hs l, .str r, .int i]
theorem broken_ok {n : Nat} (n0 : 1 ≤ n) (n1 : n ≤ 24) (hn : n = hs.length) (gh : ∀ h ∈ hs, 0 ≤ h ∧ h < 100) (gt : TkOk n tks) (tl : tks.length ≤ 60) (ns0 : List Int) (s0 : Int) :
    ∃ hs' l r i ns' s', fn__law_broken [stA ns0 s0, terD hs tks] = some (brD hs' l r i, [stA ns' s', terD hs tks]) ∧ chk hs' l = some (r, i) ∧ hs'.length ≤ 1000 ∧ l.length ≤ 1000 ∧
      ((r = PySem.Str.ofString "points" ∨ r = PySem.Str.ofString "height") ∨ ((r = PySem.Str.ofString "track" ∨ r = PySem.Str.ofString "flat" ∨ r = PySem.Str.ofString "tracks") ∧ hs' = hs)) := by
  have h : ∃ d o, fn__law_broken [stA ns0 s0, terD hs tks] = some (d, o) ∧ ∃ hs' l r i ns' s', d = brD hs' l r i ∧ o = [stA ns' s', terD hs tks] ∧ chk hs' l = some (r, i) ∧ hs'.length ≤ 1000 ∧ l.length ≤ 1000 ∧
      ((r = PySem.Str.ofString "points" ∨ r = PySem.Str.ofString "height") ∨ ((r = PySem.Str.ofString "track" ∨ r = PySem.Str.ofString "flat" ∨ r = PySem.Str.ofString "tracks") ∧ hs' = hs)) := by
    refine fn_rule (c := cf__law_broken) (ps := sg__law_broken.ps) (n := 10) (b := ir__law_broken) (ds := [stA ns0 s0, terD hs tks]) (Q := fun d o => ∃ hs' l r i ns' s', d = brD hs' l r i ∧ o = [stA ns' s', terD hs tks] ∧ chk hs' l = some (r, i) ∧ hs'.length ≤ 1000 ∧ l.length ≤ 1000 ∧
      ((r = PySem.Str.ofString "points" ∨ r = PySem.Str.ofString "height") ∨ ((r = PySem.Str.ofString "track" ∨ r = PySem.Str.ofString "flat" ∨ r = PySem.Str.ofString "tracks") ∧ hs' = hs))) ?_
    have lenh : b1D .len (.tuple (hs.map .int)) = some (.int (n : Int)) := by rw [lenT_map, hn]
    refine wp_cons (w_unp rfl rfl (wp_cons (w_set (r_b1 (r_oe rfl) lenh) ?_)))
    obtain ⟨k, ns1, s1, k0, k1, e1⟩ := drawI (c := cf__law_broken) rfl (e := .k (.int 5)) (ns := ns0) (s := s0) (ρ := [some (terD hs tks), some (.tuple (hs.map .int)), some (.tuple (tks.map tkD)), some (.int (n : Int)), none, none, none, none, none]) rfl (by decide) (by decide)
    refine wp_cons (w_set e1 ?_)
    refine wp_cons (w_ife (t_b (r_eqi rfl rfl)) (fun z => ?_) fun z => wp_nil ?_)
    · -- points
      obtain ⟨j, hj, ns2, s2, e2⟩ := pick_ok ns1 s1 [.tuple [], .tuple (repN 25 [.int 0])] (by simp) (by simp)
      have pk : ev cf__law_broken (.call (PySem.Str.ofString "_law_pick") (.io 0 (.fr (.lst (.cons (.tup .nil) (.cons (.trep (.tup (.cons (.k (.int 0)) .nil)) (.k (.int 25))) .nil))) .nil))) [some (stA ns1 s1), some (terD hs tks), some (.tuple (hs.map .int)), some (.tuple (tks.map tkD)), some (.int (n : Int)), some (.int k), none, none, none, none] = some ([PyData.tuple [], .tuple (repN 25 [.int 0])][j], [some (stA ns2 s2), some (terD hs tks), some (.tuple (hs.map .int)), some (.tuple (tks.map tkD)), some (.int (n : Int)), some (.int k), none, none, none, none]) :=
        r_callf (g := fn__law_pick) rfl e2 (a_i rfl (a_f (r_lst (r_cons (r_tup r_nil) (r_cons rfl r_nil))) a_n)) rfl rfl rfl
      refine wp_cons (w_set pk ?_)
      match j, hj with
      | 0, _ => exact wp_cons (w_ret (d := brD [] tks (PySem.Str.ofString "points") 0) rfl ⟨_, rfl, [], tks, _, _, ns2, s2, rfl, rfl, rfl, by simp, by omega, .inl (.inl rfl)⟩)
      | 1, _ => exact wp_cons (w_ret (d := brD (List.replicate 25 0) tks (PySem.Str.ofString "points") 25) rfl ⟨_, rfl, List.replicate 25 0, tks, _, _, ns2, s2, rfl, rfl, rfl, by simp, by omega, .inl (.inl rfl)⟩)
    refine wp_cons (w_ife (t_b (r_eqi rfl rfl)) (fun z => ?_) fun z => wp_nil ?_)
    · -- height
      obtain ⟨j, ns2, s2, j0, j1, e2⟩ := drawI (c := cf__law_broken) rfl (e := .v 4) (m := (n : Int)) (ns := ns1) (s := s1) (ρ := [some (terD hs tks), some (.tuple (hs.map .int)), some (.tuple (tks.map tkD)), some (.int (n : Int)), some (.int k), none, none, none, none]) rfl (by omega) (by omega)
      refine wp_cons (w_set e2 ?_)
      obtain ⟨x, hx, ns3, s3, e3⟩ := pick_int ns2 s2 [-1, 100] (by simp) (by simp)
      have hx2 : ¬ (0 ≤ x ∧ x ≤ 99) := by
        simp only [List.mem_cons, List.not_mem_nil, or_false] at hx
        omega
      obtain ⟨j', rfl⟩ := Int.eq_ofNat_of_zero_le j0
      have pk : ev cf__law_broken (.call (PySem.Str.ofString "_law_pick") (.io 0 (.fr (.lst (.cons (.neg (.k (.int 1))) (.cons (.k (.int 100)) .nil))) .nil))) [some (stA ns2 s2), some (terD hs tks), some (.tuple (hs.map .int)), some (.tuple (tks.map tkD)), some (.int (n : Int)), some (.int k), none, some (.int (j' : Int)), none, none] = some (.int x, [some (stA ns3 s3), some (terD hs tks), some (.tuple (hs.map .int)), some (.tuple (tks.map tkD)), some (.int (n : Int)), some (.int k), none, some (.int (j' : Int)), none, none]) :=
        r_callf (g := fn__law_pick) rfl e3 (a_i rfl (a_f (r_lst (r_cons rfl (r_cons rfl r_nil))) a_n)) rfl rfl rfl
      have pt := put_ok (l := hs.map .int) (k := j') (x := .int x) (by rw [List.length_map]; omega)
      have pc := r_callf (c := cf__law_broken) (ρ := [some (stA ns2 s2), some (terD hs tks), some (.tuple (hs.map .int)), some (.tuple (tks.map tkD)), some (.int (n : Int)), some (.int k), none, some (.int (j' : Int)), none, none]) (f := PySem.Str.ofString "_law_put") (g := fn__law_put) rfl pt (a_f (a := .v 2) rfl (a_f (a := .v 7) rfl (a_f pk a_n))) rfl rfl rfl
      have em : (hs.map PyData.int).take j' ++ .int x :: (hs.map PyData.int).drop (j' + 1) = (hs.take j' ++ x :: hs.drop (j' + 1)).map .int := by
        rw [List.map_append, List.map_cons, List.map_take, List.map_drop]
      rw [em] at pc
      refine wp_cons (w_ret (r_tup (r_cons (r_tup (r_cons pc (r_cons rfl r_nil))) (r_cons rfl (r_cons rfl r_nil)))) ⟨_, rfl, hs.take j' ++ x :: hs.drop (j' + 1), tks, PySem.Str.ofString "height", (j' : Int), ns3, s3, rfl, rfl, chk_height n0 n1 hn gh (by omega) hx2, ?_, by omega, .inl (.inr rfl)⟩)
      rw [put_len (by omega)]
      omega
    refine wp_cons (w_ife (t_b (r_eqi rfl rfl)) (fun z => ?_) fun z => wp_nil ?_)
    · -- tracks
      have hr : ev cf__law_broken (.trep (.tup (.cons (.tup (.cons (.k (.int 0)) (.cons (.k (.int 1)) (.cons (.k (.int 1)) .nil)))) .nil)) (.k (.int 61))) [some (stA ns1 s1), some (terD hs tks), some (.tuple (hs.map .int)), some (.tuple (tks.map tkD)), some (.int (n : Int)), some (.int k), none, none, none, none] = some (.tuple ((List.replicate 61 (⟨0, 1, 1⟩ : Tk)).map tkD), [some (stA ns1 s1), some (terD hs tks), some (.tuple (hs.map .int)), some (.tuple (tks.map tkD)), some (.int (n : Int)), some (.int k), none, none, none, none]) := rfl
      refine wp_cons (w_ret (r_tup (r_cons (r_tup (r_cons rfl (r_cons hr r_nil))) (r_cons rfl (r_cons rfl r_nil)))) ⟨_, rfl, hs, List.replicate 61 ⟨0, 1, 1⟩, PySem.Str.ofString "tracks", 61, ns1, s1, rfl, rfl, ?_, by omega, by simp, .inr ⟨.inr (.inr rfl), rfl⟩⟩)
      rw [chk_tracks n0 n1 hn gh]
      rfl
    have lent : b1D .len (.tuple (tks.map tkD)) = some (.int (tks.length : Int)) := lenT_map _ tks
    have hat : b2D .mn (.int (tks.length : Int)) (.int 59) = some (.int ((min tks.length 59 : Nat) : Int)) := by
      show some (PyData.int (if (59 : Int) < (tks.length : Int) then 59 else (tks.length : Int))) = _
      congr 2
      split <;> omega
    refine wp_cons (w_set (r_b2 (r_b1 (r_oe rfl) lent) rfl hat) ?_)
    generalize ha : min tks.length 59 = at_ at *
    have hat2 : at_ ≤ tks.length := by omega
    have sl : ∀ {x6 x7 x9 : Option D} {ns s}, ev cf__law_broken (.slc (.e (.v 3)) .no (.so (.v 8))) [some (stA ns s), some (terD hs tks), some (.tuple (hs.map .int)), some (.tuple (tks.map tkD)), some (.int (n : Int)), some (.int k), x6, x7, some (.int (at_ : Int)), x9] = some (.tuple ((tks.take at_).map tkD), [some (stA ns s), some (terD hs tks), some (.tuple (hs.map .int)), some (.tuple (tks.map tkD)), some (.int (n : Int)), some (.int k), x6, x7, some (.int (at_ : Int)), x9]) := fun {x6 x7 x9 ns s} =>
      slc_b (l := tks.map tkD) (r_oe rfl) rfl rfl (by show some (PyData.tuple (cutD (tks.map tkD) none (some (at_ : Int)))) = _; rw [cut_b, List.map_take])
    have gtk : TkOk n (tks.take at_) := fun t ht => gt t (List.mem_of_mem_take ht)
    have ltk : (tks.take at_).length = at_ := by rw [List.length_take]; omega
    have app : ∀ t : Tk, (tks.take at_).map tkD ++ [tkD t] = (tks.take at_ ++ [t]).map tkD := fun t => by rw [List.map_append]; rfl
    have cka : ∀ t : Tk, chk hs (tks.take at_ ++ [t]) = chkT (n : Int) at_ [t] := fun t => by
      rw [chk_tracks n0 n1 hn gh, if_pos (by rw [List.length_append, ltk]; show at_ + 1 ≤ 60; omega), chkT_app gtk, ltk, Nat.zero_add]
    have lapp : ∀ t : Tk, (tks.take at_ ++ [t]).length ≤ 1000 := fun t => by rw [List.length_append, ltk]; show at_ + 1 ≤ 1000; omega
    refine wp_cons (w_ife (t_or2 (t_b (r_eqi rfl rfl)) fun _ => t_b (r_eqi rfl rfl)) (fun z => ?_) fun z => wp_nil ?_)
    · -- track
      obtain ⟨j, hj, ns2, s2, e2⟩ := pick_ok ns1 s1 [.tuple [.int 0, .int 0], .tuple [.int (-1), .int 0], .tuple [.int 0, .int (n : Int)], .tuple [.int (n : Int), .int 0], .tuple [.int ((n : Int) - 1), .int ((n : Int) - 1)]] (by simp) (by simp)
      have hx : ∃ a b : Int, [PyData.tuple [.int 0, .int 0], .tuple [.int (-1), .int 0], .tuple [.int 0, .int (n : Int)], .tuple [.int (n : Int), .int 0], .tuple [.int ((n : Int) - 1), .int ((n : Int) - 1)]][j] = .tuple [.int a, .int b] ∧ ¬ tkP (n : Int) ⟨a, b, 1⟩ := by
        match j, hj with
        | 0, _ => exact ⟨0, 0, rfl, fun q => q.2.2 rfl⟩
        | 1, _ => exact ⟨-1, 0, rfl, fun q => by have := q.1.1; have : (0 : Int) ≤ -1 := this; omega⟩
        | 2, _ => exact ⟨0, (n : Int), rfl, fun q => by have := q.2.1.2; have : (n : Int) < (n : Int) := this; omega⟩
        | 3, _ => exact ⟨(n : Int), 0, rfl, fun q => by have := q.1.2; have : (n : Int) < (n : Int) := this; omega⟩
        | 4, _ => exact ⟨(n : Int) - 1, (n : Int) - 1, rfl, fun q => q.2.2 rfl⟩
      obtain ⟨a, b, ex, hp⟩ := hx
      rw [ex] at e2
      have pk : ev cf__law_broken (.call (PySem.Str.ofString "_law_pick") (.io 0 (.fr (.lst (.cons (.tup (.cons (.k (.int 0)) (.cons (.k (.int 0)) .nil))) (.cons (.tup (.cons (.neg (.k (.int 1))) (.cons (.k (.int 0)) .nil))) (.cons (.tup (.cons (.k (.int 0)) (.cons (.v 4) .nil))) (.cons (.tup (.cons (.v 4) (.cons (.k (.int 0)) .nil))) (.cons (.tup (.cons (.ar .sub (.v 4) (.k (.int 1))) (.cons (.ar .sub (.v 4) (.k (.int 1))) .nil))) .nil)))))) .nil))) [some (stA ns1 s1), some (terD hs tks), some (.tuple (hs.map .int)), some (.tuple (tks.map tkD)), some (.int (n : Int)), some (.int k), none, none, some (.int (at_ : Int)), none] = some (.tuple [.int a, .int b], [some (stA ns2 s2), some (terD hs tks), some (.tuple (hs.map .int)), some (.tuple (tks.map tkD)), some (.int (n : Int)), some (.int k), none, none, some (.int (at_ : Int)), none]) :=
        r_callf (g := fn__law_pick) rfl e2 (a_i rfl (a_f (r_lst (r_cons (r_tup (r_cons rfl (r_cons rfl r_nil))) (r_cons (r_tup (r_cons rfl (r_cons rfl r_nil))) (r_cons (r_tup (r_cons rfl (r_cons rfl r_nil))) (r_cons (r_tup (r_cons rfl (r_cons rfl r_nil))) (r_cons (r_tup (r_cons rfl (r_cons rfl r_nil))) r_nil)))))) a_n)) rfl rfl rfl
      refine wp_cons (w_set pk ?_)
      have e3 := r_tcat (a := .slc (.e (.v 3)) .no (.so (.v 8))) (b := .tup (.cons (.tcat (.v 9) (.tup (.cons (.k (.int 1)) .nil))) .nil)) (m := [tkD ⟨a, b, 1⟩]) (sl (ns := ns2) (s := s2) (x6 := none) (x7 := none) (x9 := some (.tuple [.int a, .int b]))) (r_tup (r_cons (r_tcat (l := [.int a, .int b]) (m := [.int 1]) rfl (r_tup (r_cons rfl r_nil)) (by simp)) r_nil)) (by rw [List.length_append, List.length_map, ltk]; show at_ + 1 ≤ _; omega)
      rw [app] at e3
      refine wp_cons (w_ret (r_tup (r_cons (r_tup (r_cons rfl (r_cons e3 r_nil))) (r_cons rfl (r_cons rfl r_nil)))) ⟨_, rfl, hs, tks.take at_ ++ [⟨a, b, 1⟩], PySem.Str.ofString "track", (at_ : Int), ns2, s2, rfl, rfl, ?_, by omega, lapp _, .inr ⟨.inl rfl, rfl⟩⟩)
      rw [cka]
      exact if_neg hp
    · -- flat
      have hn2 : 2 ≤ n := by
        rw [Bool.or_eq_false_iff] at z
        have : ¬ (n : Int) = 1 := of_decide_eq_false z.2
        omega
      obtain ⟨x, hx, ns2, s2, e2⟩ := pick_int ns1 s1 [0, 100, -1] (by simp) (by simp)
      have hx2 : ¬ (1 ≤ x ∧ x ≤ 99) := by
        simp only [List.mem_cons, List.not_mem_nil, or_false] at hx
        omega
      have pk : ev cf__law_broken (.call (PySem.Str.ofString "_law_pick") (.io 0 (.fr (.lst (.cons (.k (.int 0)) (.cons (.k (.int 100)) (.cons (.neg (.k (.int 1))) .nil)))) .nil))) [some (stA ns1 s1), some (terD hs tks), some (.tuple (hs.map .int)), some (.tuple (tks.map tkD)), some (.int (n : Int)), some (.int k), none, none, some (.int (at_ : Int)), none] = some (.int x, [some (stA ns2 s2), some (terD hs tks), some (.tuple (hs.map .int)), some (.tuple (tks.map tkD)), some (.int (n : Int)), some (.int k), none, none, some (.int (at_ : Int)), none]) :=
        r_callf (g := fn__law_pick) rfl e2 (a_i rfl (a_f (r_lst (r_cons rfl (r_cons rfl (r_cons rfl r_nil)))) a_n)) rfl rfl rfl
      have e3 := r_tcat (a := .slc (.e (.v 3)) .no (.so (.v 8))) (m := [tkD ⟨0, 1, x⟩]) (sl (ns := ns1) (s := s1) (x6 := none) (x7 := none) (x9 := none)) (r_tup (r_cons (r_tup (r_cons (a := .k (.int 0)) rfl (r_cons (a := .k (.int 1)) rfl (r_cons pk r_nil)))) r_nil)) (by rw [List.length_append, List.length_map, ltk]; show at_ + 1 ≤ _; omega)
      rw [app] at e3
      refine wp_cons (w_ret (r_tup (r_cons (r_tup (r_cons rfl (r_cons e3 r_nil))) (r_cons rfl (r_cons rfl r_nil)))) ⟨_, rfl, hs, tks.take at_ ++ [⟨0, 1, x⟩], PySem.Str.ofString "flat", (at_ : Int), ns2, s2, rfl, rfl, ?_, by omega, lapp _, .inr ⟨.inr (.inl rfl), rfl⟩⟩)
      rw [cka]
      have hp : tkP (n : Int) ⟨0, 1, x⟩ := ⟨⟨Int.le_refl 0, by show (0 : Int) < n; omega⟩, ⟨by show (0 : Int) ≤ 1; omega, by show (1 : Int) < n; omega⟩, by show (0 : Int) ≠ 1; omega⟩
      exact (if_pos hp).trans (if_neg hx2)
  obtain ⟨d, o, e, hs', l, r, i, ns', s', rfl, rfl, h⟩ := h
  exact ⟨hs', l, r, i, ns', s', e, h⟩
end Lw_k40
namespace Lw_k40
open PySem PySem.Spec L2 Vw
theorem eqv_str (x : Str) : PyData.eqv (.str x) (.str x) = true := by
  show (x == x) = true
  exact beq_self_eq_true x
theorem eqv_bad (r : Str) (i : Int) : (PyData.eqv (.tuple [.str r, .int i]) (.tuple [.str r, .int i]) != true) = false := by
  show (((r == r) && ((i == i) && true)) != true) = false
  rw [beq_self_eq_true, beq_self_eq_true]
  rfl
theorem strOk_rules {r : Str} (h : (r = PySem.Str.ofString "points" ∨ r = PySem.Str.ofString "height") ∨ (r = PySem.Str.ofString "track" ∨ r = PySem.Str.ofString "flat" ∨ r = PySem.Str.ofString "tracks")) (i : Int) : SeqAt.shaped (.tuple [.str r, .int i]) = true := by
  have t : ∀ {r : Str}, PyData.canLay0 (.str r) = true → SeqAt.shaped (.tuple [.str r, .int i]) = true := fun h => (sh_tup (k := 0) (sh_cons (sh_str h) (sh_cons (sh_int _) sh_nil))).ok
  rcases h with (rfl | rfl) | rfl | rfl | rfl <;> exact t (by decide +kernel)
theorem badN_ok : SeqAt.shaped (badD none) = true := (sh_tup (k := 0) (sh_cons (sh_str (by decide +kernel)) (sh_cons (sh_int _) sh_nil))).ok
theorem law_data (ns : List Int) (hl : ns.length ≤ 63) : ∃ o, fn_law [.list (ns.map .int)] = some (.bool true, o) := by
  have h : ∃ d o, fn_law [.list (ns.map .int)] = some (d, o) ∧ d = .bool true := by
    refine fn_rule (c := cf_law) (ps := sg_law.ps) (n := 10) (b := ir_law) (ds := [.list (ns.map .int)]) (Q := fun d o => d = .bool true) ?_
    obtain ⟨ns0, s0, e0⟩ := law_state_ok ns hl
    have c0 : ev cf_law (.call (PySem.Str.ofString "_law_state") (.fr (.v 0) .nil)) [some (.list (ns.map .int)), none, none, none, none, none, none, none, none, none] = some (stA ns0 s0, [some (.list (ns.map .int)), none, none, none, none, none, none, none, none, none]) :=
      r_callf (g := fn__law_state) rfl e0 rfl rfl rfl rfl
    refine wp_cons (w_set c0 ?_)
    obtain ⟨p, hp, ns1, s1, e1⟩ := pick_int ns0 s0 [1, 2, 5, 24] (by simp) (by simp)
    have c1 : ev cf_law (.call (PySem.Str.ofString "_law_pick") (.io 1 (.fr (.lst (.cons (.k (.int 1)) (.cons (.k (.int 2)) (.cons (.k (.int 5)) (.cons (.k (.int 24)) .nil))))) .nil))) [some (.list (ns.map .int)), some (stA ns0 s0), none, none, none, none, none, none, none, none] = some (.int p, [some (.list (ns.map .int)), some (stA ns1 s1), none, none, none, none, none, none, none, none]) :=
      r_callf (g := fn__law_pick) rfl e1 (a_i rfl (a_f (r_lst (r_cons rfl (r_cons rfl (r_cons rfl (r_cons rfl r_nil))))) a_n)) rfl rfl rfl
    have hp2 : 1 ≤ p ∧ p ≤ 24 := by
      simp only [List.mem_cons, List.not_mem_nil, or_false] at hp
      omega
    obtain ⟨n, rfl⟩ := Int.eq_ofNat_of_zero_le (show 0 ≤ p by omega)
    have n0 : 1 ≤ n := by omega
    have n1 : n ≤ 24 := by omega
    refine wp_cons (w_set c1 ?_)
    obtain ⟨m, hm, ns2, s2, e2⟩ := pick_int ns1 s1 [0, 4, 20, 60] (by simp) (by simp)
    have hm2 : 0 ≤ m ∧ m ≤ 60 := by
      simp only [List.mem_cons, List.not_mem_nil, or_false] at hm
      omega
    obtain ⟨m', rfl⟩ := Int.eq_ofNat_of_zero_le hm2.1
    have c2 : ev cf_law (.call (PySem.Str.ofString "_law_pick") (.io 1 (.fr (.lst (.cons (.k (.int 0)) (.cons (.k (.int 4)) (.cons (.k (.int 20)) (.cons (.k (.int 60)) .nil))))) .nil))) [some (.list (ns.map .int)), some (stA ns1 s1), some (.int (n : Int)), none, none, none, none, none, none, none] = some (.int (m' : Int), [some (.list (ns.map .int)), some (stA ns2 s2), some (.int (n : Int)), none, none, none, none, none, none, none]) :=
      r_callf (g := fn__law_pick) rfl e2 (a_i rfl (a_f (r_lst (r_cons rfl (r_cons rfl (r_cons rfl (r_cons rfl r_nil))))) a_n)) rfl rfl rfl
    obtain ⟨hs, tks, ns3, s3, e3, hn, gh, gt, tl⟩ := terrain_ok ns2 s2 (n := n) (m := m') (by omega) n1 (by omega)
    have tl60 : tks.length ≤ 60 := by omega
    have c3 : ev cf_law (.call (PySem.Str.ofString "_law_terrain") (.io 1 (.fr (.v 2) (.fr (.call (PySem.Str.ofString "_law_pick") (.io 1 (.fr (.lst (.cons (.k (.int 0)) (.cons (.k (.int 4)) (.cons (.k (.int 20)) (.cons (.k (.int 60)) .nil))))) .nil))) .nil)))) [some (.list (ns.map .int)), some (stA ns1 s1), some (.int (n : Int)), none, none, none, none, none, none, none] = some (terD hs tks, [some (.list (ns.map .int)), some (stA ns3 s3), some (.int (n : Int)), none, none, none, none, none, none, none]) :=
      r_callf (g := fn__law_terrain) rfl e3 (a_i rfl (a_f rfl (a_f c2 a_n))) rfl rfl rfl
    refine wp_cons (w_set c3 ?_)
    -- the right terrain
    have ck := chk_good n0 n1 hn gh gt tl60
    have r0 := raised_ok hs tks (by omega) (by omega)
    rw [ck] at r0
    have q0 := r_eq (c := cf_law) (ng := true) (ρ := [some (.list (ns.map .int)), some (stA ns3 s3), some (.int (n : Int)), some (terD hs tks), none, none, none, none, none, none]) (a := .call (PySem.Str.ofString "_law_raised") (.fr (.v 3) .nil)) (b := .tup (.cons (.k (.str (PySem.Str.ofString ""))) (.cons (.k (.int 0)) .nil))) (x := badD none) (y := badD none) (r_callf (g := fn__law_raised) rfl r0 rfl rfl rfl rfl) (r_tup (r_cons rfl (r_cons rfl r_nil))) badN_ok badN_ok
    rw [show (PyData.eqv (badD none) (badD none) != true) = false from eqv_bad _ _] at q0
    refine wp_cons (w_ife (z := false) (t_b q0) (fun z => nomatch z) fun _ => wp_nil ?_)
    -- a wrong one
    obtain ⟨hs', l, r, i, ns4, s4, e4, ck4, l1, l2, hr⟩ := broken_ok n0 n1 hn gh gt tl60 ns3 s3
    have c4 : ev cf_law (.call (PySem.Str.ofString "_law_broken") (.io 1 (.fr (.v 3) .nil))) [some (.list (ns.map .int)), some (stA ns3 s3), some (.int (n : Int)), some (terD hs tks), none, none, none, none, none, none] = some (brD hs' l r i, [some (.list (ns.map .int)), some (stA ns4 s4), some (.int (n : Int)), some (terD hs tks), none, none, none, none, none, none]) :=
      r_callf (g := fn__law_broken) rfl e4 (a_i rfl (a_f rfl a_n)) rfl rfl rfl
    refine wp_cons (w_unp c4 rfl ?_)
    have r1 := raised_ok hs' l (by omega) (by omega)
    rw [ck4] at r1
    have hr2 := strOk_rules (hr.imp id (·.1)) i
    have q1 := r_eq (c := cf_law) (ng := true) (ρ := [some (.list (ns.map .int)), some (stA ns4 s4), some (.int (n : Int)), some (terD hs tks), some (terD hs' l), some (.str r), some (.int i), none, none, none]) (a := .call (PySem.Str.ofString "_law_raised") (.fr (.v 4) .nil)) (b := .tup (.cons (.v 5) (.cons (.v 6) .nil))) (x := badD (some (r, i))) (y := .tuple [.str r, .int i]) (r_callf (g := fn__law_raised) rfl r1 rfl rfl rfl rfl) (r_tup (r_cons rfl (r_cons rfl r_nil))) hr2 hr2
    rw [show (PyData.eqv (badD (some (r, i))) (.tuple [.str r, .int i]) != true) = false from eqv_bad _ _] at q1
    refine wp_cons (w_ife (z := false) (t_b q1) (fun z => nomatch z) fun _ => wp_nil ?_)
    -- two faults
    have fin : ∀ x7 : Option D, Wp cf_law (.cons (.set 8 (.call (PySem.Str.ofString "_law_class") (.io 1 .nil))) (.cons (.set 9 (.call (PySem.Str.ofString "_law_shut") (.io 1 (.fr (.v 3) .nil)))) (.cons (.ret (.an (.call (PySem.Str.ofString "_law_walks_right") (.io 1 (.fr (.v 3) (.fr (.v 8) (.fr (.v 9) .nil))))) (.call (PySem.Str.ofString "_law_walks_right") (.io 1 (.fr (.v 3) (.fr (.v 8) (.fr (.tup .nil) .nil))))))) .nil)))
        [some (.list (ns.map .int)), some (stA ns4 s4), some (.int (n : Int)), some (terD hs tks), some (terD hs' l), some (.str r), some (.int i), x7, none, none] ⟨fun ρ => ∃ o, fout sg_law.ps [.list (ns.map .int)] ρ = some o ∧ PyData.none = .bool true, fun d ρ => ∃ o, fout sg_law.ps [.list (ns.map .int)] ρ = some o ∧ d = .bool true, fun _ => False, fun _ => False, fun _ _ _ => False⟩ := by
      intro x7
      obtain ⟨pa, st, ns5, s5, e5, hpa, hst⟩ := class_ok ns4 s4
      have c5 : ev cf_law (.call (PySem.Str.ofString "_law_class") (.io 1 .nil)) [some (.list (ns.map .int)), some (stA ns4 s4), some (.int (n : Int)), some (terD hs tks), some (terD hs' l), some (.str r), some (.int i), x7, none, none] = some (kindD pa st, [some (.list (ns.map .int)), some (stA ns5 s5), some (.int (n : Int)), some (terD hs tks), some (terD hs' l), some (.str r), some (.int i), x7, none, none]) :=
        r_callf (g := fn__law_class) rfl e5 (a_i rfl a_n) rfl rfl rfl
      refine wp_cons (w_set c5 ?_)
      obtain ⟨sh, ns6, s6, e6, hsh⟩ := shut_ok ns5 s5 (hs := hs) (tks := tks) (by omega)
      have c6 : ev cf_law (.call (PySem.Str.ofString "_law_shut") (.io 1 (.fr (.v 3) .nil))) [some (.list (ns.map .int)), some (stA ns5 s5), some (.int (n : Int)), some (terD hs tks), some (terD hs' l), some (.str r), some (.int i), x7, some (kindD pa st), none] = some (shutD sh, [some (.list (ns.map .int)), some (stA ns6 s6), some (.int (n : Int)), some (terD hs tks), some (terD hs' l), some (.str r), some (.int i), x7, some (kindD pa st), none]) :=
        r_callf (g := fn__law_shut) rfl e6 (a_i rfl (a_f rfl a_n)) rfl rfl rfl
      refine wp_cons (w_set c6 ?_)
      have g : Good n hs tks pa st := ⟨hn, gh, gt, hpa, hst⟩
      obtain ⟨ns7, s7, e7⟩ := walks_ok g (by omega) (by omega) (by omega) sh (by omega) ns6 s6
      obtain ⟨ns8, s8, e8⟩ := walks_ok g (by omega) (by omega) (by omega) [] (by simp) ns7 s7
      have c7 : ev cf_law (.call (PySem.Str.ofString "_law_walks_right") (.io 1 (.fr (.v 3) (.fr (.v 8) (.fr (.v 9) .nil))))) [some (.list (ns.map .int)), some (stA ns6 s6), some (.int (n : Int)), some (terD hs tks), some (terD hs' l), some (.str r), some (.int i), x7, some (kindD pa st), some (shutD sh)] = some (.bool true, [some (.list (ns.map .int)), some (stA ns7 s7), some (.int (n : Int)), some (terD hs tks), some (terD hs' l), some (.str r), some (.int i), x7, some (kindD pa st), some (shutD sh)]) :=
        r_callf (g := fn__law_walks_right) rfl e7 (a_i rfl (a_f rfl (a_f rfl (a_f rfl a_n)))) rfl rfl rfl
      have c8 : ev cf_law (.call (PySem.Str.ofString "_law_walks_right") (.io 1 (.fr (.v 3) (.fr (.v 8) (.fr (.tup .nil) .nil))))) [some (.list (ns.map .int)), some (stA ns7 s7), some (.int (n : Int)), some (terD hs tks), some (terD hs' l), some (.str r), some (.int i), x7, some (kindD pa st), some (shutD sh)] = some (.bool true, [some (.list (ns.map .int)), some (stA ns8 s8), some (.int (n : Int)), some (terD hs tks), some (terD hs' l), some (.str r), some (.int i), x7, some (kindD pa st), some (shutD sh)]) :=
        r_callf (g := fn__law_walks_right) rfl e8 (a_i rfl (a_f rfl (a_f rfl (a_f (r_tup r_nil) a_n)))) rfl rfl rfl
      exact wp_cons (w_ret (r_an c7 (fun z => nomatch z) fun _ => c8) ⟨_, rfl, rfl⟩)
    have inn := r_inn (c := cf_law) (ng := false) (a := .v 5) (o := .e (.lst (.cons (.k (.str (PySem.Str.ofString "track"))) (.cons (.k (.str (PySem.Str.ofString "flat"))) (.cons (.k (.str (PySem.Str.ofString "tracks"))) .nil))))) (l := [.str (PySem.Str.ofString "track"), .str (PySem.Str.ofString "flat"), .str (PySem.Str.ofString "tracks")]) (ρ := [some (.list (ns.map .int)), some (stA ns4 s4), some (.int (n : Int)), some (terD hs tks), some (terD hs' l), some (.str r), some (.int i), none, none, none]) rfl (r_lst (r_cons rfl (r_cons rfl (r_cons rfl r_nil)))) rfl rfl rfl
    refine wp_cons (w_ife (t_b inn) (fun z => ?_) fun z => wp_nil (fin none))
    rcases hr with hr | ⟨hr, eh⟩
    · rcases hr with rfl | rfl <;> cases z
    · subst eh
      have pt := put_ok (l := hs'.map .int) (k := n - 1) (x := .int 100) (by rw [List.length_map]; omega)
      rw [show ((n - 1 : Nat) : Int) = (n : Int) - 1 by omega] at pt
      have em : (hs'.map PyData.int).take (n - 1) ++ .int 100 :: (hs'.map PyData.int).drop (n - 1 + 1) = (hs'.take (n - 1) ++ 100 :: hs'.drop (n - 1 + 1)).map .int := by
        rw [List.map_append, List.map_cons, List.map_take, List.map_drop]
      rw [em] at pt
      have c5 : ev cf_law (.call (PySem.Str.ofString "_law_put") (.fr (.ix (.e (.v 4)) (.k (.int 0))) (.fr (.ar .sub (.v 2) (.k (.int 1))) (.fr (.k (.int 100)) .nil)))) [some (.list (ns.map .int)), some (stA ns4 s4), some (.int (n : Int)), some (terD hs' tks), some (terD hs' l), some (.str r), some (.int i), none, none, none] = some (.tuple ((hs'.take (n - 1) ++ 100 :: hs'.drop (n - 1 + 1)).map .int), [some (.list (ns.map .int)), some (stA ns4 s4), some (.int (n : Int)), some (terD hs' tks), some (terD hs' l), some (.str r), some (.int i), none, none, none]) :=
        r_callf (g := fn__law_put) rfl pt (a_f rfl (a_f rfl (a_f rfl a_n))) rfl rfl rfl
      refine wp_cons (w_set (d := terD (hs'.take (n - 1) ++ 100 :: hs'.drop (n - 1 + 1)) l) (r_tup (r_cons c5 (r_cons rfl r_nil))) ?_)
      have ck5 := chk_height n0 n1 hn gh (show n - 1 < n by omega) (v := 100) (by omega) (l := l)
      have r2 := raised_ok (hs'.take (n - 1) ++ 100 :: hs'.drop (n - 1 + 1)) l (by rw [put_len (by omega)]; omega) (by omega)
      rw [ck5, show ((n - 1 : Nat) : Int) = (n : Int) - 1 by omega] at r2
      have q2 := r_eq (c := cf_law) (ng := true) (ρ := [some (.list (ns.map .int)), some (stA ns4 s4), some (.int (n : Int)), some (terD hs' tks), some (terD hs' l), some (.str r), some (.int i), some (terD (hs'.take (n - 1) ++ 100 :: hs'.drop (n - 1 + 1)) l), none, none]) (a := .call (PySem.Str.ofString "_law_raised") (.fr (.v 7) .nil)) (b := .tup (.cons (.k (.str (PySem.Str.ofString "height"))) (.cons (.ar .sub (.v 2) (.k (.int 1))) .nil))) (x := badD (some (PySem.Str.ofString "height", (n : Int) - 1))) (y := badD (some (PySem.Str.ofString "height", (n : Int) - 1))) (r_callf (g := fn__law_raised) rfl r2 rfl rfl rfl rfl) (r_tup (r_cons rfl (r_cons rfl r_nil))) (strOk_rules (.inl (.inr rfl)) _) (strOk_rules (.inl (.inr rfl)) _)
      rw [show (PyData.eqv (badD (some (PySem.Str.ofString "height", (n : Int) - 1))) (badD (some (PySem.Str.ofString "height", (n : Int) - 1))) != true) = false from eqv_bad _ _] at q2
      exact wp_cons (w_ife (z := false) (t_b q2) (fun z => nomatch z) fun _ => wp_nil (wp_nil (fin _)))
  obtain ⟨d, o, e, rfl⟩ := h
  exact ⟨o, e⟩
end Lw_k40
namespace Lw_k40
open PySem PySem.Spec PyProof.Rows L2 Vw
/-! ### what the top has written; the law's own head -/
theorem all_mk {l : PySem.W.OpenLaw} {w : World} {K : PySem.W.Frag} {h : Heap} {mg : Str → Option Value} {fa : Addr} (X : K.In h) (G : h.Ns mainGlobals mg) (hfa : mg "law" = some (.ref fa))
    {f0 : Addr} {od0 an0 : Option Addr} {sl0 : Array (Option Value)} {oc0 kV0 dc0 pm0 cd0 ct0 : Value} {f1 : Addr} {od1 an1 : Option Addr} {sl1 : Array (Option Value)} {oc1 kV1 dc1 pm1 cd1 ct1 : Value} {f2 : Addr} {od2 an2 : Option Addr} {sl2 : Array (Option Value)} {oc2 kV2 dc2 pm2 cd2 ct2 : Value} {f3 : Addr} {od3 an3 : Option Addr} {sl3 : Array (Option Value)} {oc3 kV3 dc3 pm3 cd3 ct3 : Value} {f4 : Addr} {od4 an4 : Option Addr} {sl4 : Array (Option Value)} {oc4 kV4 dc4 pm4 cd4 ct4 : Value} {f5 : Addr} {od5 an5 : Option Addr} {sl5 : Array (Option Value)} {oc5 kV5 dc5 pm5 cd5 ct5 : Value} {f6 : Addr} {od6 an6 : Option Addr} {sl6 : Array (Option Value)} {oc6 kV6 dc6 pm6 cd6 ct6 : Value} {f7 : Addr} {od7 an7 : Option Addr} {sl7 : Array (Option Value)} {oc7 kV7 dc7 pm7 cd7 ct7 : Value} {f8 : Addr} {od8 an8 : Option Addr} {sl8 : Array (Option Value)} {oc8 kV8 dc8 pm8 cd8 ct8 : Value} {f9 : Addr} {od9 an9 : Option Addr} {sl9 : Array (Option Value)} {oc9 kV9 dc9 pm9 cd9 ct9 : Value} {f10 : Addr} {od10 an10 : Option Addr} {sl10 : Array (Option Value)} {oc10 kV10 dc10 pm10 cd10 ct10 : Value} {f11 : Addr} {od11 an11 : Option Addr} {sl11 : Array (Option Value)} {oc11 kV11 dc11 pm11 cd11 ct11 : Value} {f12 : Addr} {od12 an12 : Option Addr} {sl12 : Array (Option Value)} {oc12 kV12 dc12 pm12 cd12 ct12 : Value} {f13 : Addr} {od13 an13 : Option Addr} {sl13 : Array (Option Value)} {oc13 kV13 dc13 pm13 cd13 ct13 : Value} {f14 : Addr} {od14 an14 : Option Addr} {sl14 : Array (Option Value)} {oc14 kV14 dc14 pm14 cd14 ct14 : Value} {f15 : Addr} {od15 an15 : Option Addr} {sl15 : Array (Option Value)} {oc15 kV15 dc15 pm15 cd15 ct15 : Value} {f16 : Addr} {od16 an16 : Option Addr} {sl16 : Array (Option Value)} {oc16 kV16 dc16 pm16 cd16 ct16 : Value} {f17 : Addr} {od17 an17 : Option Addr} {sl17 : Array (Option Value)} {oc17 kV17 dc17 pm17 cd17 ct17 : Value} {f18 : Addr} {od18 an18 : Option Addr} {sl18 : Array (Option Value)} {oc18 kV18 dc18 pm18 cd18 ct18 : Value} {t_MOST_FLAT : Tok} {t_MOST_HEIGHT : Tok} {t_MOST_POINTS : Tok} {t_MOST_TRACKS : Tok} {nm_0 q_0 : Str} {C_0 N_0 W_0 fI_0 cda_0 cc_0 : Addr} {bs_0 : List Value} {sn_0 : List Str} {sub_0 : List Value} {ab_0 : Bool} {col_0 : Option Bool} {dd_0 od_0 an_0 cdd_0 cld_0 : Option Addr} {m0_0 m1_0 m2_0 m3_0 m5_0 : Option Value} {oc_0 doc_0 pm_0 kV_0 ct_0 ccl_0 cl_0 : Value} {osl_0 ccs_0 csl_0 : Array (Option Value)} {vs_0 : Array Value} {tf_0 : Tok}
    (a0 : PySem.W.nsIn K mainGlobals (PySem.Str.ofString "_law_state") = some (some (.ref f0))) (l0 : K.lookup f0 = some ⟨oc0, od0, .func (PySem.W.fnOf (PySem.Str.ofString "_law_state") (PySem.Str.ofString "_law_state") (defArgs (topS 15)) (defBody (topS 15)) (defScope (topS 15)) .none kV0 dc0 pm0 an0 cd0 ct0), sl0⟩) (c0 : PySem.W.codeIn K cd0 (PySem.Str.ofString "_law_state") = true) (k0 : PySem.W.keepIn K (.ref f0) = true)
    (a1 : PySem.W.nsIn K mainGlobals (PySem.Str.ofString "_law_draw") = some (some (.ref f1))) (l1 : K.lookup f1 = some ⟨oc1, od1, .func (PySem.W.fnOf (PySem.Str.ofString "_law_draw") (PySem.Str.ofString "_law_draw") (defArgs (topS 16)) (defBody (topS 16)) (defScope (topS 16)) .none kV1 dc1 pm1 an1 cd1 ct1), sl1⟩) (c1 : PySem.W.codeIn K cd1 (PySem.Str.ofString "_law_draw") = true) (k1 : PySem.W.keepIn K (.ref f1) = true)
    (a2 : PySem.W.nsIn K mainGlobals (PySem.Str.ofString "_law_pick") = some (some (.ref f2))) (l2 : K.lookup f2 = some ⟨oc2, od2, .func (PySem.W.fnOf (PySem.Str.ofString "_law_pick") (PySem.Str.ofString "_law_pick") (defArgs (topS 17)) (defBody (topS 17)) (defScope (topS 17)) .none kV2 dc2 pm2 an2 cd2 ct2), sl2⟩) (c2 : PySem.W.codeIn K cd2 (PySem.Str.ofString "_law_pick") = true) (k2 : PySem.W.keepIn K (.ref f2) = true)
    (a3 : PySem.W.nsIn K mainGlobals (PySem.Str.ofString "_law_terrain") = some (some (.ref f3))) (l3 : K.lookup f3 = some ⟨oc3, od3, .func (PySem.W.fnOf (PySem.Str.ofString "_law_terrain") (PySem.Str.ofString "_law_terrain") (defArgs (topS 18)) (defBody (topS 18)) (defScope (topS 18)) .none kV3 dc3 pm3 an3 cd3 ct3), sl3⟩) (c3 : PySem.W.codeIn K cd3 (PySem.Str.ofString "_law_terrain") = true) (k3 : PySem.W.keepIn K (.ref f3) = true)
    (a4 : PySem.W.nsIn K mainGlobals (PySem.Str.ofString "_law_put") = some (some (.ref f4))) (l4 : K.lookup f4 = some ⟨oc4, od4, .func (PySem.W.fnOf (PySem.Str.ofString "_law_put") (PySem.Str.ofString "_law_put") (defArgs (topS 24)) (defBody (topS 24)) (defScope (topS 24)) .none kV4 dc4 pm4 an4 cd4 ct4), sl4⟩) (c4 : PySem.W.codeIn K cd4 (PySem.Str.ofString "_law_put") = true) (k4 : PySem.W.keepIn K (.ref f4) = true)
    (a5 : PySem.W.nsIn K mainGlobals (PySem.Str.ofString "_law_broken") = some (some (.ref f5))) (l5 : K.lookup f5 = some ⟨oc5, od5, .func (PySem.W.fnOf (PySem.Str.ofString "_law_broken") (PySem.Str.ofString "_law_broken") (defArgs (topS 25)) (defBody (topS 25)) (defScope (topS 25)) .none kV5 dc5 pm5 an5 cd5 ct5), sl5⟩) (c5 : PySem.W.codeIn K cd5 (PySem.Str.ofString "_law_broken") = true) (k5 : PySem.W.keepIn K (.ref f5) = true)
    (a6 : PySem.W.nsIn K mainGlobals (PySem.Str.ofString "_law_class") = some (some (.ref f6))) (l6 : K.lookup f6 = some ⟨oc6, od6, .func (PySem.W.fnOf (PySem.Str.ofString "_law_class") (PySem.Str.ofString "_law_class") (defArgs (topS 19)) (defBody (topS 19)) (defScope (topS 19)) .none kV6 dc6 pm6 an6 cd6 ct6), sl6⟩) (c6 : PySem.W.codeIn K cd6 (PySem.Str.ofString "_law_class") = true) (k6 : PySem.W.keepIn K (.ref f6) = true)
    (a7 : PySem.W.nsIn K mainGlobals (PySem.Str.ofString "_law_shut") = some (some (.ref f7))) (l7 : K.lookup f7 = some ⟨oc7, od7, .func (PySem.W.fnOf (PySem.Str.ofString "_law_shut") (PySem.Str.ofString "_law_shut") (defArgs (topS 20)) (defBody (topS 20)) (defScope (topS 20)) .none kV7 dc7 pm7 an7 cd7 ct7), sl7⟩) (c7 : PySem.W.codeIn K cd7 (PySem.Str.ofString "_law_shut") = true) (k7 : PySem.W.keepIn K (.ref f7) = true)
    (a8 : PySem.W.nsIn K mainGlobals (PySem.Str.ofString "require") = some (some (.ref f8))) (l8 : K.lookup f8 = some ⟨oc8, od8, .func (PySem.W.fnOf (PySem.Str.ofString "require") (PySem.Str.ofString "require") (defArgs (topS 8)) (defBody (topS 8)) (defScope (topS 8)) .none kV8 dc8 pm8 an8 cd8 ct8), sl8⟩) (c8 : PySem.W.codeIn K cd8 (PySem.Str.ofString "require") = true) (k8 : PySem.W.keepIn K (.ref f8) = true)
    (a9 : PySem.W.nsIn K mainGlobals (PySem.Str.ofString "check_terrain") = some (some (.ref f9))) (l9 : K.lookup f9 = some ⟨oc9, od9, .func (PySem.W.fnOf (PySem.Str.ofString "check_terrain") (PySem.Str.ofString "check_terrain") (defArgs (topS 9)) (defBody (topS 9)) (defScope (topS 9)) .none kV9 dc9 pm9 an9 cd9 ct9), sl9⟩) (c9 : PySem.W.codeIn K cd9 (PySem.Str.ofString "check_terrain") = true) (k9 : PySem.W.keepIn K (.ref f9) = true)
    (a10 : PySem.W.nsIn K mainGlobals (PySem.Str.ofString "_law_raised") = some (some (.ref f10))) (l10 : K.lookup f10 = some ⟨oc10, od10, .func (PySem.W.fnOf (PySem.Str.ofString "_law_raised") (PySem.Str.ofString "_law_raised") (defArgs (topS 23)) (defBody (topS 23)) (defScope (topS 23)) .none kV10 dc10 pm10 an10 cd10 ct10), sl10⟩) (c10 : PySem.W.codeIn K cd10 (PySem.Str.ofString "_law_raised") = true) (k10 : PySem.W.keepIn K (.ref f10) = true)
    (a11 : PySem.W.nsIn K mainGlobals (PySem.Str.ofString "other_end") = some (some (.ref f11))) (l11 : K.lookup f11 = some ⟨oc11, od11, .func (PySem.W.fnOf (PySem.Str.ofString "other_end") (PySem.Str.ofString "other_end") (defArgs (topS 10)) (defBody (topS 10)) (defScope (topS 10)) .none kV11 dc11 pm11 an11 cd11 ct11), sl11⟩) (c11 : PySem.W.codeIn K cd11 (PySem.Str.ofString "other_end") = true) (k11 : PySem.W.keepIn K (.ref f11) = true)
    (a12 : PySem.W.nsIn K mainGlobals (PySem.Str.ofString "track_time") = some (some (.ref f12))) (l12 : K.lookup f12 = some ⟨oc12, od12, .func (PySem.W.fnOf (PySem.Str.ofString "track_time") (PySem.Str.ofString "track_time") (defArgs (topS 11)) (defBody (topS 11)) (defScope (topS 11)) .none kV12 dc12 pm12 an12 cd12 ct12), sl12⟩) (c12 : PySem.W.codeIn K cd12 (PySem.Str.ofString "track_time") = true) (k12 : PySem.W.keepIn K (.ref f12) = true)
    (a13 : PySem.W.nsIn K mainGlobals (PySem.Str.ofString "ways_from") = some (some (.ref f13))) (l13 : K.lookup f13 = some ⟨oc13, od13, .func (PySem.W.fnOf (PySem.Str.ofString "ways_from") (PySem.Str.ofString "ways_from") (defArgs (topS 12)) (defBody (topS 12)) (defScope (topS 12)) .none kV13 dc13 pm13 an13 cd13 ct13), sl13⟩) (c13 : PySem.W.codeIn K cd13 (PySem.Str.ofString "ways_from") = true) (k13 : PySem.W.keepIn K (.ref f13) = true)
    (a14 : PySem.W.nsIn K mainGlobals (PySem.Str.ofString "walked") = some (some (.ref f14))) (l14 : K.lookup f14 = some ⟨oc14, od14, .func (PySem.W.fnOf (PySem.Str.ofString "walked") (PySem.Str.ofString "walked") (defArgs (topS 13)) (defBody (topS 13)) (defScope (topS 13)) .none kV14 dc14 pm14 an14 cd14 ct14), sl14⟩) (c14 : PySem.W.codeIn K cd14 (PySem.Str.ofString "walked") = true) (k14 : PySem.W.keepIn K (.ref f14) = true)
    (a15 : PySem.W.nsIn K mainGlobals (PySem.Str.ofString "_law_ways") = some (some (.ref f15))) (l15 : K.lookup f15 = some ⟨oc15, od15, .func (PySem.W.fnOf (PySem.Str.ofString "_law_ways") (PySem.Str.ofString "_law_ways") (defArgs (topS 22)) (defBody (topS 22)) (defScope (topS 22)) .none kV15 dc15 pm15 an15 cd15 ct15), sl15⟩) (c15 : PySem.W.codeIn K cd15 (PySem.Str.ofString "_law_ways") = true) (k15 : PySem.W.keepIn K (.ref f15) = true)
    (a16 : PySem.W.nsIn K mainGlobals (PySem.Str.ofString "_law_time") = some (some (.ref f16))) (l16 : K.lookup f16 = some ⟨oc16, od16, .func (PySem.W.fnOf (PySem.Str.ofString "_law_time") (PySem.Str.ofString "_law_time") (defArgs (topS 21)) (defBody (topS 21)) (defScope (topS 21)) .none kV16 dc16 pm16 an16 cd16 ct16), sl16⟩) (c16 : PySem.W.codeIn K cd16 (PySem.Str.ofString "_law_time") = true) (k16 : PySem.W.keepIn K (.ref f16) = true)
    (a17 : PySem.W.nsIn K mainGlobals (PySem.Str.ofString "_law_walks_right") = some (some (.ref f17))) (l17 : K.lookup f17 = some ⟨oc17, od17, .func (PySem.W.fnOf (PySem.Str.ofString "_law_walks_right") (PySem.Str.ofString "_law_walks_right") (defArgs (topS 26)) (defBody (topS 26)) (defScope (topS 26)) .none kV17 dc17 pm17 an17 cd17 ct17), sl17⟩) (c17 : PySem.W.codeIn K cd17 (PySem.Str.ofString "_law_walks_right") = true) (k17 : PySem.W.keepIn K (.ref f17) = true)
    (a18 : PySem.W.nsIn K mainGlobals (PySem.Str.ofString "law") = some (some (.ref f18))) (l18 : K.lookup f18 = some ⟨oc18, od18, .func (PySem.W.fnOf (PySem.Str.ofString "law") (PySem.Str.ofString "law") (defArgs (topS 27)) (defBody (topS 27)) (defScope (topS 27)) .none kV18 dc18 pm18 an18 cd18 ct18), sl18⟩) (c18 : PySem.W.codeIn K cd18 (PySem.Str.ofString "law") = true) (k18 : PySem.W.keepIn K (.ref f18) = true)
    (w_MOST_FLAT : PySem.W.nsIn K mainGlobals (PySem.Str.ofString "MOST_FLAT") = some (some (.int 99 t_MOST_FLAT)))
    (w_MOST_HEIGHT : PySem.W.nsIn K mainGlobals (PySem.Str.ofString "MOST_HEIGHT") = some (some (.int 99 t_MOST_HEIGHT)))
    (w_MOST_POINTS : PySem.W.nsIn K mainGlobals (PySem.Str.ofString "MOST_POINTS") = some (some (.int 24 t_MOST_POINTS)))
    (w_MOST_TRACKS : PySem.W.nsIn K mainGlobals (PySem.Str.ofString "MOST_TRACKS") = some (some (.int 60 t_MOST_TRACKS)))
    (aC0 : PySem.W.nsIn K mainGlobals (PySem.Str.ofString "TerrainError") = some (some (.ref C_0))) (xL0 : K.lookup C_0 = some (excClassObj nm_0 q_0 C_0 N_0 bs_0 [.ref W_0, .type "ValueError", .type "Exception", .type "BaseException", .type "object"] true sn_0 sub_0 ab_0 col_0 dd_0 m0_0 m1_0 m2_0 m3_0 m5_0 "ValueError.__new__")) (sa0 : PySem.W.findIn K (.ref C_0) "__setattr__" = some (some (.builtin "object.__setattr__"))) (ga0 : PySem.W.findIn K (.ref C_0) "__getattribute__" = some (some (.builtin "BaseException.__getattribute__"))) (gg0 : PySem.W.findIn K (.ref C_0) "__getattr__" = some none) (na0 : PySem.W.findIn K (.ref C_0) "rule" = some none) (nb0 : PySem.W.findIn K (.ref C_0) "index" = some none) (kC0 : PySem.W.keepIn K (.ref C_0) = true) (eC0 : PySem.W.subIn K (.ref C_0) (.type "BaseException") = some true) (vC0 : PySem.W.subIn K (.ref C_0) (.type "ValueError") = some true) (yC0 : PySem.W.typeIn K (.ref C_0) = some (.type "type")) (su0 : PySem.W.ks_superIn K C_0 C_0 "__init__" = some (some (.builtin "ValueError.__init__"))) (op0 : PySem.W.nsIn K PySem.cStatics "thirdparty.any" = some none) (sl0 : PySem.W.mroIn K C_0 (.ref C_0) = some true) (hC0 : PySem.W.hasDictIn K C_0 = true) (iC0 : PySem.W.isClsIn K C_0 = true) (sC0 : PySem.W.subIn K (.ref C_0) (.ref C_0) = some true) (fI0 : PySem.W.findIn K (.ref C_0) "__init__" = some (some (.ref fI_0))) (tI0 : PySem.W.typeIn K (.ref fI_0) = some (.type "function")) (lI0 : K.lookup fI_0 = some ⟨oc_0, od_0, .func (PySem.W.ksFn "__init__" (PySem.Str.ofString "TerrainError.__init__") (defArgs (cin 2)) (defBody (cin 2)) (defScope (cin 2)) .none kV_0 doc_0 pm_0 an_0 (.ref cda_0) ct_0 cc_0), osl_0⟩) (kI0 : PySem.W.codeIn K (.ref cda_0) (PySem.Str.ofString "TerrainError.__init__") = true) (lc0 : K.lookup cda_0 = some ⟨ccl_0, cdd_0, .fields vs_0, ccs_0⟩) (vf0 : vs_0[2]? = some (.str l.prog.main.file tf_0)) (lx0 : K.lookup cc_0 = some ⟨cl_0, cld_0, .cell (some (.ref C_0)), csl_0⟩)
    (hsup : PySem.W.nsIn K mainGlobals "super" = some none) (htop : (l.prog.main.scope.names.lookup ("super" : Str)).isSome = false)
    (zb : (blAll.all fun x => isSN (PySem.W.nsIn K mainGlobals x)) = true) (nl : K.all noListB = true) :
    ∃ fd : FuncData, (∀ (s : Shared) (v : Value), BindsTo s fd ⟨[v], []⟩ [("script", v)]) ∧ ∀ base : Heap, K.In base → base.Ns mainGlobals mg → FnOk l.prog w K mg base CX0 6 fa fd ["script"] (spLaw K) := by
  have e := hfa.symm.trans (PySem.W.mg_of X G a18)
  cases e
  have hbl := bl_all X G zb
  have F0 := fun_mk (st := (topS 15)) l0 c0 k0
  have b0 := F0.binds (ps := [(PySem.Str.ofString "script")]) fun _ _ _ _ _ _ us hl => match us, hl with | [_], _ => rfl
  have F1 := fun_mk (st := (topS 16)) l1 c1 k1
  have b1 := F1.binds (ps := [(PySem.Str.ofString "state"), (PySem.Str.ofString "many")]) fun _ _ _ _ _ _ us hl => match us, hl with | [_, _], _ => rfl
  have F2 := fun_mk (st := (topS 17)) l2 c2 k2
  have b2 := F2.binds (ps := [(PySem.Str.ofString "state"), (PySem.Str.ofString "row")]) fun _ _ _ _ _ _ us hl => match us, hl with | [_, _], _ => rfl
  have F3 := fun_mk (st := (topS 18)) l3 c3 k3
  have b3 := F3.binds (ps := [(PySem.Str.ofString "state"), (PySem.Str.ofString "points"), (PySem.Str.ofString "tracks")]) fun _ _ _ _ _ _ us hl => match us, hl with | [_, _, _], _ => rfl
  have F4 := fun_mk (st := (topS 24)) l4 c4 k4
  have b4 := F4.binds (ps := [(PySem.Str.ofString "row"), (PySem.Str.ofString "at"), (PySem.Str.ofString "one")]) fun _ _ _ _ _ _ us hl => match us, hl with | [_, _, _], _ => rfl
  have F5 := fun_mk (st := (topS 25)) l5 c5 k5
  have b5 := F5.binds (ps := [(PySem.Str.ofString "state"), (PySem.Str.ofString "terrain")]) fun _ _ _ _ _ _ us hl => match us, hl with | [_, _], _ => rfl
  have F6 := fun_mk (st := (topS 19)) l6 c6 k6
  have b6 := F6.binds (ps := [(PySem.Str.ofString "state")]) fun _ _ _ _ _ _ us hl => match us, hl with | [_], _ => rfl
  have F7 := fun_mk (st := (topS 20)) l7 c7 k7
  have b7 := F7.binds (ps := [(PySem.Str.ofString "state"), (PySem.Str.ofString "terrain")]) fun _ _ _ _ _ _ us hl => match us, hl with | [_, _], _ => rfl
  have F8 := fun_mk (st := (topS 8)) l8 c8 k8
  have b8 := F8.binds (ps := [(PySem.Str.ofString "holds"), (PySem.Str.ofString "rule"), (PySem.Str.ofString "index")]) fun _ _ _ _ _ _ us hl => match us, hl with | [_, _, _], _ => rfl
  have F9 := fun_mk (st := (topS 9)) l9 c9 k9
  have b9 := F9.binds (ps := [(PySem.Str.ofString "terrain")]) fun _ _ _ _ _ _ us hl => match us, hl with | [_], _ => rfl
  have F10 := fun_mk (st := (topS 23)) l10 c10 k10
  have b10 := F10.binds (ps := [(PySem.Str.ofString "terrain")]) fun _ _ _ _ _ _ us hl => match us, hl with | [_], _ => rfl
  have F11 := fun_mk (st := (topS 10)) l11 c11 k11
  have b11 := F11.binds (ps := [(PySem.Str.ofString "terrain"), (PySem.Str.ofString "track"), (PySem.Str.ofString "start")]) fun _ _ _ _ _ _ us hl => match us, hl with | [_, _, _], _ => rfl
  have F12 := fun_mk (st := (topS 11)) l12 c12 k12
  have b12 := F12.binds (ps := [(PySem.Str.ofString "terrain"), (PySem.Str.ofString "kind"), (PySem.Str.ofString "track"), (PySem.Str.ofString "start")]) fun _ _ _ _ _ _ us hl => match us, hl with | [_, _, _, _], _ => rfl
  have F13 := fun_mk (st := (topS 12)) l13 c13 k13
  have b13 := F13.binds (ps := [(PySem.Str.ofString "terrain"), (PySem.Str.ofString "shut"), (PySem.Str.ofString "start")]) fun _ _ _ _ _ _ us hl => match us, hl with | [_, _, _], _ => rfl
  have F14 := fun_mk (st := (topS 13)) l14 c14 k14
  have b14 := F14.binds (ps := [(PySem.Str.ofString "terrain"), (PySem.Str.ofString "kind"), (PySem.Str.ofString "shut"), (PySem.Str.ofString "start"), (PySem.Str.ofString "route")]) fun _ _ _ _ _ _ us hl => match us, hl with | [_, _, _, _, _], _ => rfl
  have F15 := fun_mk (st := (topS 22)) l15 c15 k15
  have b15 := F15.binds (ps := [(PySem.Str.ofString "terrain"), (PySem.Str.ofString "shut"), (PySem.Str.ofString "start")]) fun _ _ _ _ _ _ us hl => match us, hl with | [_, _, _], _ => rfl
  have F16 := fun_mk (st := (topS 21)) l16 c16 k16
  have b16 := F16.binds (ps := [(PySem.Str.ofString "terrain"), (PySem.Str.ofString "kind"), (PySem.Str.ofString "track"), (PySem.Str.ofString "start")]) fun _ _ _ _ _ _ us hl => match us, hl with | [_, _, _, _], _ => rfl
  have F17 := fun_mk (st := (topS 26)) l17 c17 k17
  have b17 := F17.binds (ps := [(PySem.Str.ofString "state"), (PySem.Str.ofString "terrain"), (PySem.Str.ofString "kind"), (PySem.Str.ofString "shut")]) fun _ _ _ _ _ _ us hl => match us, hl with | [_, _, _, _], _ => rfl
  have F18 := fun_mk (st := (topS 27)) l18 c18 k18
  have b18 := F18.binds (ps := [(PySem.Str.ofString "script")]) fun _ _ _ _ _ _ us hl => match us, hl with | [_], _ => rfl
  refine ⟨PySem.W.fnOf (PySem.Str.ofString "law") (PySem.Str.ofString "law") (defArgs (topS 27)) (defBody (topS 27)) (defScope (topS 27)) .none kV18 dc18 pm18 an18 cd18 ct18, fun s v => .of_eq rfl, fun base _ _ => ?_⟩
  have T_0 : Ve.ErrT K C_0 := ⟨⟨_, _, _, _, _, _, _, _, _, _, _, _, _, _, _, xL0, rfl⟩, sa0, kC0, eC0, vC0, yC0, su0, op0, sl0⟩
  have Q_TerrainError : KlsAt l.prog K mg (PySem.Str.ofString "TerrainError") := ⟨C_0, ⟨T_0, na0, nb0, htop, ⟨fI_0, _, _, _, _, _, _, _, _, _, _, _, _, _, _, _, _, _, rfl, ⟨fI0, tI0, ⟨_, _, _, _, _, _, _, _, _, cda_0, cc_0, _, _, vs_0, _, tf_0, _, _, _, lI0, kI0, lc0, vf0, lx0⟩⟩⟩⟩, PySem.W.mg_of X G aC0, PySem.W.mg_none_of X G hsup, exm_own eC0 iC0 yC0 sC0, ⟨ga0, gg0, eC0, hC0⟩⟩
  have G0 : FnOk l.prog w K mg base CX0 1 _ _ _ (spI K sg__law_state fn__law_state) := ok__law_state (Φ := cf__law_state) (k := 0) F0 hbl
  have G1 := ok__law_draw (P := l.prog) (w := w) (base := base) (k := 0) F1 hbl
  have G2 : FnOk l.prog w K mg base CX0 2 _ _ _ (spI K sg__law_pick fn__law_pick) := ok__law_pick (Φ := cf__law_pick) (k := 1) F2 hbl (callee G1 rfl (by decide) (PySem.W.mg_of X G a1) k1 b1)
  have G3 : FnOk l.prog w K mg base CX0 3 _ _ _ (spI K sg__law_terrain fn__law_terrain) := ok__law_terrain (Φ := cf__law_terrain) (k := 2) F3 hbl (callee G1 rfl (by decide) (PySem.W.mg_of X G a1) k1 b1) (callee G2 rfl (by decide) (PySem.W.mg_of X G a2) k2 b2)
  have G4 : FnOk l.prog w K mg base CX0 1 _ _ _ (spI K sg__law_put fn__law_put) := ok__law_put (Φ := cf__law_put) (k := 0) F4 hbl
  have G5 : FnOk l.prog w K mg base CX0 3 _ _ _ (spI K sg__law_broken fn__law_broken) := ok__law_broken (Φ := cf__law_broken) (k := 2) F5 hbl (callee G1 rfl (by decide) (PySem.W.mg_of X G a1) k1 b1) (callee G2 rfl (by decide) (PySem.W.mg_of X G a2) k2 b2) (callee G4 rfl (by decide) (PySem.W.mg_of X G a4) k4 b4)
  have G6 : FnOk l.prog w K mg base CX0 3 _ _ _ (spI K sg__law_class fn__law_class) := ok__law_class (Φ := cf__law_class) (k := 2) F6 hbl (callee G1 rfl (by decide) (PySem.W.mg_of X G a1) k1 b1) (callee G2 rfl (by decide) (PySem.W.mg_of X G a2) k2 b2)
  have G7 : FnOk l.prog w K mg base CX0 2 _ _ _ (spI K sg__law_shut fn__law_shut) := ok__law_shut (Φ := cf__law_shut) (k := 1) F7 hbl (callee G1 rfl (by decide) (PySem.W.mg_of X G a1) k1 b1)
  have G8 : FnOk l.prog w K mg base (L2.CX l.prog w) 3 _ _ _ (spX mg K sg_require fn_require) := ok_require (Φ := cf_require) (k := 2) F8 hbl Q_TerrainError (by decide)
  have G9 : FnOk l.prog w K mg base (L2.CX l.prog w) 4 _ _ _ (spX mg K sg_check_terrain fn_check_terrain) := ok_check_terrain (Φ := cf_check_terrain) (k := 3) F9 hbl (fun p hp => by simp only [List.mem_cons, List.not_mem_nil, or_false] at hp; rcases hp with rfl | rfl | rfl | rfl; exact ⟨t_MOST_POINTS, PySem.W.mg_of X G w_MOST_POINTS⟩; exact ⟨t_MOST_HEIGHT, PySem.W.mg_of X G w_MOST_HEIGHT⟩; exact ⟨t_MOST_TRACKS, PySem.W.mg_of X G w_MOST_TRACKS⟩; exact ⟨t_MOST_FLAT, PySem.W.mg_of X G w_MOST_FLAT⟩) (calleeX G8 rfl (by decide) (PySem.W.mg_of X G a8) k8 b8)
  have G10 : FnOk l.prog w K mg base CX0 5 _ _ _ (spI K sg__law_raised fn__law_raised) := ok__law_raised (Φ := cf__law_raised) (k := 4) F10 hbl Q_TerrainError (by decide) (calleeX G9 rfl (by decide) (PySem.W.mg_of X G a9) k9 b9)
  have G11 : FnOk l.prog w K mg base CX0 1 _ _ _ (spI K sg_other_end fn_other_end) := ok_other_end (Φ := cf_other_end) (k := 0) F11 hbl
  have G12 : FnOk l.prog w K mg base CX0 2 _ _ _ (spI K sg_track_time fn_track_time) := ok_track_time (Φ := cf_track_time) (k := 1) F12 hbl (callee G11 rfl (by decide) (PySem.W.mg_of X G a11) k11 b11)
  have G13 : FnOk l.prog w K mg base CX0 2 _ _ _ (spI K sg_ways_from fn_ways_from) := ok_ways_from (Φ := cf_ways_from) (k := 1) F13 hbl (callee G11 rfl (by decide) (PySem.W.mg_of X G a11) k11 b11)
  have G14 : FnOk l.prog w K mg base CX0 3 _ _ _ (spI K sg_walked fn_walked) := ok_walked (Φ := cf_walked) (k := 2) F14 hbl (callee G13 rfl (by decide) (PySem.W.mg_of X G a13) k13 b13) (callee G12 rfl (by decide) (PySem.W.mg_of X G a12) k12 b12)
  have G15 : FnOk l.prog w K mg base CX0 1 _ _ _ (spI K sg__law_ways fn__law_ways) := ok__law_ways (Φ := cf__law_ways) (k := 0) F15 hbl
  have G16 : FnOk l.prog w K mg base CX0 1 _ _ _ (spI K sg__law_time fn__law_time) := ok__law_time (Φ := cf__law_time) (k := 0) F16 hbl
  have G17 : FnOk l.prog w K mg base CX0 4 _ _ _ (spI K sg__law_walks_right fn__law_walks_right) := ok__law_walks_right (Φ := cf__law_walks_right) (k := 3) F17 hbl (callee G1 rfl (by decide) (PySem.W.mg_of X G a1) k1 b1) (callee G15 rfl (by decide) (PySem.W.mg_of X G a15) k15 b15) (callee G2 rfl (by decide) (PySem.W.mg_of X G a2) k2 b2) (callee G12 rfl (by decide) (PySem.W.mg_of X G a12) k12 b12) (callee G16 rfl (by decide) (PySem.W.mg_of X G a16) k16 b16) (callee G14 rfl (by decide) (PySem.W.mg_of X G a14) k14 b14)
  have G18 : FnOk l.prog w K mg base CX0 6 _ _ _ (spI K sg_law fn_law) := ok_law (Φ := cf_law) (k := 5) F18 hbl (callee G0 rfl (by decide) (PySem.W.mg_of X G a0) k0 b0) (callee G2 rfl (by decide) (PySem.W.mg_of X G a2) k2 b2) (callee G3 rfl (by decide) (PySem.W.mg_of X G a3) k3 b3) (callee G10 rfl (by decide) (PySem.W.mg_of X G a10) k10 b10) (callee G5 rfl (by decide) (PySem.W.mg_of X G a5) k5 b5) (callee G4 rfl (by decide) (PySem.W.mg_of X G a4) k4 b4) (callee G6 rfl (by decide) (PySem.W.mg_of X G a6) k6 b6) (callee G7 rfl (by decide) (PySem.W.mg_of X G a7) k7 b7) (callee G17 rfl (by decide) (PySem.W.mg_of X G a17) k17 b17)
  exact FnOk.imp G18 (law_imp nl law_data)
end Lw_k40
open PySem PySem.W PyProof.Rows
set_option maxHeartbeats 0 in
theorem PySem.Challenge.cw_brackenway_k40_terrains_and_walks_holds : PySem.Challenge.rw_brackenway_k40_terrains_and_walks.Holds := by
  w_on; o_law; k_head; (case hw => w_witness2)
  k_fill
  refine L2.walk_ofB (l := PySem.Challenge.rw_brackenway_k40_terrains_and_walks) (n := 63) (k := 6) (x := "script") (CX := fun _ => L2.CX0) (sp := fun w => Vw.spLaw _) rfl (by decide) rfl ⟨rfl, by decide, by decide⟩ (fun w h Y => PySem.W.kIn_of Y) ?F (fun _ _ a ns hl _ _ hS => ⟨a, ns, rfl, hS, hl, fun _ => rfl⟩) (fun _ _ _ _ _ h => h)
  case F =>
    intro w mg fa h KX G hmg
    refine' Lw_k40.all_mk KX G hmg ?a0 ?l0 ?c0 ?k0 ?a1 ?l1 ?c1 ?k1 ?a2 ?l2 ?c2 ?k2 ?a3 ?l3 ?c3 ?k3 ?a4 ?l4 ?c4 ?k4 ?a5 ?l5 ?c5 ?k5 ?a6 ?l6 ?c6 ?k6 ?a7 ?l7 ?c7 ?k7 ?a8 ?l8 ?c8 ?k8 ?a9 ?l9 ?c9 ?k9 ?a10 ?l10 ?c10 ?k10 ?a11 ?l11 ?c11 ?k11 ?a12 ?l12 ?c12 ?k12 ?a13 ?l13 ?c13 ?k13 ?a14 ?l14 ?c14 ?k14 ?a15 ?l15 ?c15 ?k15 ?a16 ?l16 ?c16 ?k16 ?a17 ?l17 ?c17 ?k17 ?a18 ?l18 ?c18 ?k18 ?w_MOST_FLAT ?w_MOST_HEIGHT ?w_MOST_POINTS ?w_MOST_TRACKS ?aC0 ?xL0 ?sa0 ?ga0 ?gg0 ?na0 ?nb0 ?kC0 ?eC0 ?vC0 ?yC0 ?su0 ?op0 ?sl0 ?hC0 ?iC0 ?sC0 ?fI0 ?tI0 ?lI0 ?kI0 ?lc0 ?vf0 ?lx0 ?hsup ?htop ?zb ?nl
    (case a0 => k_is); (case l0 => k_is); (case c0 => k_is); (case k0 => k_is); (case a1 => k_is); (case l1 => k_is); (case c1 => k_is); (case k1 => k_is); (case a2 => k_is); (case l2 => k_is); (case c2 => k_is); (case k2 => k_is); (case a3 => k_is); (case l3 => k_is); (case c3 => k_is); (case k3 => k_is); (case a4 => k_is); (case l4 => k_is); (case c4 => k_is); (case k4 => k_is); (case a5 => k_is); (case l5 => k_is); (case c5 => k_is); (case k5 => k_is); (case a6 => k_is); (case l6 => k_is); (case c6 => k_is); (case k6 => k_is); (case a7 => k_is); (case l7 => k_is); (case c7 => k_is); (case k7 => k_is); (case a8 => k_is); (case l8 => k_is); (case c8 => k_is); (case k8 => k_is); (case a9 => k_is); (case l9 => k_is); (case c9 => k_is); (case k9 => k_is); (case a10 => k_is); (case l10 => k_is); (case c10 => k_is); (case k10 => k_is); (case a11 => k_is); (case l11 => k_is); (case c11 => k_is); (case k11 => k_is); (case a12 => k_is); (case l12 => k_is); (case c12 => k_is); (case k12 => k_is); (case a13 => k_is); (case l13 => k_is); (case c13 => k_is); (case k13 => k_is); (case a14 => k_is); (case l14 => k_is); (case c14 => k_is); (case k14 => k_is); (case a15 => k_is); (case l15 => k_is); (case c15 => k_is); (case k15 => k_is); (case a16 => k_is); (case l16 => k_is); (case c16 => k_is); (case k16 => k_is); (case a17 => k_is); (case l17 => k_is); (case c17 => k_is); (case k17 => k_is); (case a18 => k_is); (case l18 => k_is); (case c18 => k_is); (case k18 => k_is); (case w_MOST_FLAT => k_is); (case w_MOST_HEIGHT => k_is); (case w_MOST_POINTS => k_is); (case w_MOST_TRACKS => k_is); (case aC0 => first | k_is | rfl | kernel_rfl); (case xL0 => first | k_is | rfl | kernel_rfl); (case sa0 => first | k_is | rfl | kernel_rfl); (case ga0 => first | k_is | rfl | kernel_rfl); (case gg0 => first | k_is | rfl | kernel_rfl); (case na0 => first | k_is | rfl | kernel_rfl); (case nb0 => first | k_is | rfl | kernel_rfl); (case kC0 => first | k_is | rfl | kernel_rfl); (case eC0 => first | k_is | rfl | kernel_rfl); (case vC0 => first | k_is | rfl | kernel_rfl); (case yC0 => first | k_is | rfl | kernel_rfl); (case su0 => first | k_is | rfl | kernel_rfl); (case op0 => first | k_is | rfl | kernel_rfl); (case sl0 => first | k_is | rfl | kernel_rfl); (case hC0 => first | k_is | rfl | kernel_rfl); (case iC0 => first | k_is | rfl | kernel_rfl); (case sC0 => first | k_is | rfl | kernel_rfl); (case fI0 => first | k_is | rfl | kernel_rfl); (case tI0 => first | k_is | rfl | kernel_rfl); (case lI0 => first | k_is | rfl | kernel_rfl); (case kI0 => first | k_is | rfl | kernel_rfl); (case lc0 => first | k_is | rfl | kernel_rfl); (case vf0 => first | k_is | rfl | kernel_rfl); (case lx0 => first | k_is | rfl | kernel_rfl); (case hsup => first | k_is | rfl | kernel_rfl); (case htop => first | rfl | kernel_rfl); (case zb => kernel_rfl); (case nl => kernel_rfl)
