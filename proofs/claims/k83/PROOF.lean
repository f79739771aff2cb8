import PyProof.Rows.All
import Wide.All
import OpenK.AllK
import Wide.FinOn
import HandS.ForMost
import HandS.ForExc
import HandS.ExcField
import HandS.ExcIs
import HandS.ExcInit
import HandS.EndBits
import KE.KExcSuper
import HandS.AnyAll
import HandS.GenOver
import HandS.GenBody
import PyProof.GenQ
import HandS.EndTab
import HandS.TupSets
import KE.KExcIs
import HandS.Zip
import HandS.More
import KE.LtData
import KE.DataMinMax
import KE.SortData
import HandS.TupAny
import HandS.TupMul
import HandS.Flow
import HandS.TryOnly
import KE.GoesEnum
import HandS.IsInst
import HandS.Deep
import HandS.TupLe
import HandS.Style
import HandS.Dict
import HandS.SortKw
import PySem.Challenge.RW_brackenway_k83_rules_of_races
set_option Elab.async false
set_option linter.all false
set_option maxRecDepth 100000
set_option maxHeartbeats 4000000
/-! An own exception class whose __init__ says super().__init__(a), then stores its arguments. -/
namespace Ve
open PySem PySem.W PySem.Calls PyProof.Rows PySem.HandSPX
def eA (l : List (Str × Pos)) (p0 : Pos) : Arguments := { posonlyargs := [], args := { arg := "self", annotation := none, pos := p0 } :: l.map (fun p => { arg := p.1, annotation := none, pos := p.2 }), vararg := none, kwonlyargs := [], kw_defaults := [], kwarg := none, defaults := [] }
def eSup (a : Str) (q0 q1 q2 q3 q4 q5 : Pos) : Stmt := .Expr (.Call (.Attribute (.Call (.Name "super" q0) [] [] q1) "__init__" q2) [.Name a q3] [] q4) q5
def eSt (a : Str) (r0 r1 r2 r3 : Pos) : Stmt := .Assign [.Attribute (.Name "self" r0) a r1] (.Name a r2) r3
def eS (l : List Str) : Scope := { kind := .function, names := ((PySem.Str.ofString "self", NameKind.local) :: l.map (fun a => (a, NameKind.local))) ++ [(PySem.Str.ofString "__class__", NameKind.free), (PySem.Str.ofString "super", NameKind.globalImplicit)], isGenerator := false, isCoroutine := false, more := [] }
/-- what the written part says of the class at C, its __init__ at fI, the cell cc, the code cda -/
structure ErrT (K : Frag) (C : Addr) : Prop where
  cls : ∃ nm q N bs bm sn sub ab col dd k0 k1 k2 k3 k5, K.lookup C = some (excClassObj nm q C N bs bm true sn sub ab col dd k0 k1 k2 k3 k5 "ValueError.__new__") ∧ refsVE bm = true
  sa : findIn K (.ref C) "__setattr__" = some (some (.builtin "object.__setattr__"))
  kC : keepIn K (.ref C) = true
  exC : subIn K (.ref C) (.type "BaseException") = some true
  veC : subIn K (.ref C) (.type "ValueError") = some true
  tyC : typeIn K (.ref C) = some (.type "type")
  sup : ks_superIn K C C "__init__" = some (some (.builtin "ValueError.__init__"))
  opq : nsIn K cStatics "thirdparty.any" = some none
  slf : mroIn K C (.ref C) = some true
/-- its __init__ -/
structure ErrI (K : Frag) (file : Str) (C fI : Addr) (ps : Arguments) (body : List Stmt) (sc : Scope) : Prop where
  iC : findIn K (.ref C) "__init__" = some (some (.ref fI))
  tC : typeIn K (.ref fI) = some (.type "function")
  fn : ∃ (qual : Str) (oc : Value) (od : Option Addr) (doc pm kV : Value) (an : Option Addr) (ct : Value) (osl : Array (Option Value)) (cda cc : Addr) (ccl : Value) (cdd : Option Addr) (vs : Array Value) (ccs : Array (Option Value)) (tf : Tok) (cl : Value) (cld : Option Addr) (csl : Array (Option Value)),
    K.lookup fI = some ⟨oc, od, .func (ksFn "__init__" qual ps body sc .none kV doc pm an (.ref cda) ct cc), osl⟩ ∧ codeIn K (.ref cda) qual = true ∧
    K.lookup cda = some ⟨ccl, cdd, .fields vs, ccs⟩ ∧ vs[2]? = some (.str file tf) ∧ K.lookup cc = some ⟨cl, cld, .cell (some (.ref C)), csl⟩
/-- a module's globals and the built-ins, in a heap -/
structure GlOk (mg : Str → Option Value) (h : Heap) : Prop where
  g : h.Ns mainGlobals mg
  sup : mg "super" = none
  b : ∃ mb, h.Ns builtinsNs mb ∧ mb "super" = some (.type "super")
theorem GlOk.keeps {mg : Str → Option Value} {h h' : Heap} (x : GlOk mg h) (k : ∀ b o, h.get? b = some o → h'.get? b = some o) : GlOk mg h' := by
  obtain ⟨mb, b1, b2⟩ := x.b
  exact ⟨x.g.keeps k, x.sup, mb, b1.keeps k, b2⟩
structure InitEnd (h h' : Heap) (x C dx t1 : Addr) (m : Str → Option Value) : Prop where
  keep : ∀ b o, b ≠ x → h.get? b = some o → h'.get? b = some o
  obj : h'.get? x = some { cls := .ref C, dict := some dx, data := .fields #[.ref t1, .none, .none, .none, .bool false, .none] }
  dbig : h.objs.size ≤ dx
  dne : dx ≠ x
  ns : h'.Ns1 dx m
theorem kept_but {K : Frag} {h h' : Heap} {x : Addr} (X : K.In h) (hx : K.lookup x = none) (k : ∀ b o, b ≠ x → h.get? b = some o → h'.get? b = some o) : K.In h' := fun a o e =>
  k a o (fun z => by rw [z, hx] at e; cases e) (X a o e)
section
variable {prog : Program} {w : World} {A : Around} {E : Value → Shared → Prop} {R : Result → Shared → Prop} {K : Frag} {mg : Str → Option Value} {C fI : Addr}
/-- the wrapper is called -/
theorem wr_call {s : Shared} {u x t0 : Addr} {rest : List Value} {Q : Value → Shared → Prop} (T : ErrT K C) (X : K.In s.heap) (hx : s.heap.get? x = some (excO C t0)) (hu : s.heap.get? u = some (kxs_mw "ValueError.__init__" x)) (hz : rest.length ≤ sizeLine)
    (h : ∀ h' t1, (∀ b o, b ≠ x → s.heap.get? b = some o → h'.get? b = some o) → h'.get? x = some (excO C t1) → Q .none { s with heap := h' }) : wpAny (model prog w) A (call (.ref u) rest) Q E s := by
  obtain ⟨nm, q, N, bs, bm, sn, sub, ab, col, dd, k0, k1, k2, k3, k5, hC, hbm⟩ := T.cls
  obtain ⟨hh, g, d, tk, os⟩ := s
  refine wpAny_call (codeAny_of_tree ?_)
  show wpAny _ A.in1 (callAny (.ref u) ⟨rest, []⟩) _ _ _
  simp only [callAny]
  refine wpAny_bind (wpAny_load hu ?_)
  have e : (Value.type "method-wrapper" == Value.type "method" || Value.type "method-wrapper" == Value.type "builtin_function_or_method" || Value.type "method-wrapper" == Value.type "method-wrapper") = true := by decide
  simp only [kxs_mw, e, if_true]
  refine KFB.if_so (by decide) ?_
  refine wpAny_bind (check_bound_init F.excBase_ValueError.toExcCallFacts (X _ _ hC) hx rfl ?_)
  refine wpAny_bind (wpAny_pure (wpAny_pure ?_))
  refine ⟨plainId_quiet F.excBase_ValueError.init.plain _, codeAny_builtin F.excBase_ValueError.initEntry ?_⟩
  exact exc_init_tree (cls := .ref C) (t0 := t0) (dv := none) (c2 := .none) (c3 := .none) (b4 := .bool false) hx hz fun h' k e1 _ => h h' _ k e1
theorem ldF {s : Shared} {env : Env} {m : Str → Option Value} {x : Str} {pos : Pos} {v : Value} {Q : Value → Shared → Prop} (hn : s.heap.Ns env.locals m) (hv : m x = some v) (hk : env.scope.kind = .function) (hl : env.kindOf x = some .local) (hd : (x == ("__debug__" : Str)) = false) (h : Q v s) :
    wpAny (model prog w) A (eval (.Name x pos) env) Q E s := wpAny_Name (wpAny_loadName_local hk hl hn hv h) hd
theorem sup_call {env : Env} {p0 p1 apos pos : Pos} {e : Expr} (hline : (apos.endLine == pos.line) = true) (hs : (starEach [e] env) = [(false, eval e env)]) :
    eval (.Call (.Attribute (.Call (.Name "super" p0) [] [] p1) "__init__" apos) [e] [] pos) env = (do
      let ov ← attributeBase (.Call (.Name "super" p0) [] [] p1) "__init__" env (eval (.Call (.Name "super" p0) [] [] p1) env)
      standAt apos.atName
      let (f, first) ← holding [ov] (getMethod ov "__init__" (do return (← importBound (.Call (.Name "super" p0) [] [] p1) env).getD true))
      callWith pos f first (backTo pos (starEach [e] env)) []) := by
  have hpos : methodCallPos true (.Call (.Name "super" p0) [] [] p1) env apos pos = pure pos := by
    unfold methodCallPos
    simp [hline]
  have hf : methodCallForm ([e].length + ([] : List Keyword).length) (backTo pos (starEach [e] env)) (backToKw pos (keywordEach [] env)) = true := by
    rw [hs]
    rfl
  rw [eval]
  unfold methodCall calleeOf
  rw [hf]
  simp only [hpos, if_true, pure_bind]
  rfl
/-- rule, index -/
theorem init2 {s : Shared} {x t0 : Addr} {v1 v2 : Value} {p0 p1 p2 q0 q1 q2 q3 q4 q5 r0 r1 r2 r3 r4 r5 r6 r7 : Pos} (T : ErrT K C)
    (I : ErrI K prog.main.file C fI (eA [(PySem.Str.ofString "rule", p1), (PySem.Str.ofString "index", p2)] p0) [eSup "rule" q0 q1 q2 q3 q4 q5, eSt "rule" r0 r1 r2 r3, eSt "index" r4 r5 r6 r7] (eS [PySem.Str.ofString "rule", PySem.Str.ofString "index"]))
    (hl1 : (q2.endLine == q4.line) = true) (n1 : findIn K (.ref C) "rule" = some none) (n2 : findIn K (.ref C) "index" = some none)
    (X : K.In s.heap) (hlim : s.heap.NoLimit) (G : GlOk mg s.heap) (htop : (prog.main.scope.names.lookup ("super" : Str)).isSome = false) (hx : s.heap.get? x = some (excO C t0)) (hnx : K.lookup x = none) (hroom : A.depth < recursionLimit)
    (hq : ∀ h' tk dx t1, InitEnd s.heap h' x C dx t1 (fun y => if y = "index" then some v2 else if y = "rule" then some v1 else none) → R (.ok (.ret .none)) { s with heap := h', toks := tk }) :
    codeAny (model prog w) A (.call (.ref fI) ⟨[.ref x, v1, v2], []⟩) R s := by
  obtain ⟨qual, oc, od, doc, pm, kV, an, ct, osl, cda, cc, ccl, cdd, vs, ccs, tf, cl, cld, csl, ho, hcd, hco, hvs, hcl⟩ := I.fn
  obtain ⟨nm, q, N, bs, bm, sn, sub, ab, col, dd, k0, k1, k2, k3, k5, hC, hbm⟩ := T.cls
  have hcls : clsIn K C = some { name := nm, bases := bs, mro := .ref C :: bm, ns := N, qualname := q, hasDict := true, slotNames := sn, subclasses := sub, abstract := ab, collection := col, hasDel := false } := by unfold clsIn; rw [hC] <;> rfl
  refine ks_codeAny_call_defAt (binds := [(PySem.Str.ofString "self", .ref x), (PySem.Str.ofString "rule", v1), (PySem.Str.ofString "index", v2)]) hroom (X _ _ ho) rfl hlim (codeRec_of X hcd) rfl (BindsTo.of_eq (by first | rfl | with_unfolding_all rfl))
    (show ∀ x ∈ (eS [PySem.Str.ofString "rule", PySem.Str.ofString "index"]).names, x.2 ≠ NameKind.cell by decide)
    (fun y hy => ?_) (fun h₁ hns hk₁ => ?_)
  · simp only [List.mem_cons, List.not_mem_nil, or_false] at hy
    rcases hy with rfl | rfl | rfl <;> rfl
  have X₁ : K.In h₁ := X.keeps hk₁
  have G₁ := G.keeps hk₁
  have hx₁ := hk₁ _ _ hx
  have ls : ("super" : Str) = PySem.Str.ofString "super" := rfl
  obtain ⟨mb, b1, b2⟩ := G₁.b
  refine ks_wpAt_execs_cons (ks_wpAt_Expr_any (ks_wpAt_MethodCall (ks_wpAt_super_base (f := fI) (cc := cda) rfl rfl rfl rfl (X₁ _ _ ho) rfl rfl rfl (X₁ _ _ hco) rfl hvs (by simp) htop ?_) (sup_call hl1 rfl)))
  refine ks_loadName_global rfl rfl (loadGlobal_builtin G₁.g G₁.sup b1 b2 ⟨rfl, ?_⟩)
  refine wpAny_loadName_free rfl rfl rfl ⟨_, X₁ _ _ hcl, rfl⟩ ?_
  refine wpAny_loadName_local (v := .ref x) rfl rfl hns rfl ?_
  refine ks_wpAny_isType_cls (X₁ _ _ hC) rfl ⟨rfl, ?_⟩
  refine ks_wpAny_call_super (X₁ _ _ hC) rfl hx₁ rfl (fun c e => nomatch e) (looks_mroIn X₁ T.slf) (fun h₂ e2 k2 => ?_)
  have X₂ : K.In h₂ := X₁.keeps k2
  have hx₂ := k2 _ _ hx₁
  have xC : x ≠ C := fun z => by
    rw [z, hC] at hnx
    cases hnx
  have I₂ : InstAt h₂ x (excO C t0) C none := ⟨hx₂, rfl, rfl, trivial⟩
  refine kxs_getMethod kxs_ValueError e2 (looks_opaque X₂ T.opq) (l₀ := .ref C :: bm) (fun A Q E s k q => wpAny_bind ((looks_clsIn X₂ hcls) A _ E s k (wpAny_pure q))) rfl X₂ ?_ (I₂.type.andThen (looks_subIn X₂ T.veC)) xC rfl ?_
  · have := T.sup
    unfold ks_superIn at this
    rw [hcls] at this
    exact this
  have k3 : ∀ b o, h₂.get? b = some o → (h₂.push (kxs_mw "ValueError.__init__" x)).get? b = some o := fun b o e => Heap.get?_push_of_some _ e
  have hns₃ := (hns.keeps k2).keeps k3
  refine kxs_callWith (i := "ValueError.__init__") (x := x) rfl ?_
  refine evalArgs_plain (Calls.spliced_cons (ldF (v := v1) hns₃ rfl rfl rfl (by decide) (Calls.spliced_nil ⟨Heap.get?_push_at rfl rfl, ?_⟩)))
  have X₃ := X₂.keeps k3
  have hx₃ := k3 _ _ hx₂
  have one : [v1].length ≤ sizeLine := by rw [sizeLine_eq]; exact (by decide : 1 ≤ 16777216)
  refine wr_call T X₃ hx₃ (Heap.get?_push_at rfl rfl) one fun h₄ t1 k4 hx₄ => ?_
  have nL : s.heap.objs.size ≠ x := Nat.ne_of_gt (Heap.lt_size hx)
  have X₄ : K.In h₄ := kept_but X₃ hnx k4
  obtain ⟨oL, es, ep, hL, rL⟩ := hns₃
  have hns₄ : h₄.Ns s.heap.objs.size _ := ⟨oL, es, ep, k4 _ _ nL hL, rL⟩
  show PySem.wpAt _ _ _ _ _ _ _
  refine wpAt_of_wpAny (wpAny_execs_cons (plainObj_wpAny_Assign_Attribute ?_))
  refine ldF (v := v1) hns₄ rfl rfl rfl (by decide) (ldF (v := .ref x) hns₄ rfl rfl rfl (by decide) ?_)
  refine set_plain X₄ (ox := excO C t1) (od := none) ⟨hx₄, rfl, rfl, trivial⟩ T.sa ?_
  refine exc_osa X₄ hx₄ hcls (show refsVE (.ref C :: bm) = true from hbm) rfl n1 (fun h₅ tk₅ dx k5 dn dne hx₅ hn₅ => ?_)
  have X₅ : K.In h₅ := kept_but X₄ hnx k5
  have hns₅ : h₅.Ns s.heap.objs.size _ := ⟨oL, es, ep, k5 _ _ nL (k4 _ _ nL hL), rL⟩
  show wpAny _ _ _ _ _ _
  refine wpAny_execs_cons (plainObj_wpAny_Assign_Attribute ?_)
  refine ldF (v := v2) hns₅ rfl rfl rfl (by decide) (ldF (v := .ref x) hns₅ rfl rfl rfl (by decide) ?_)
  obtain ⟨oD, esD, epD, hoD, hdD, _⟩ := hn₅.count (ns := ["rule"]) (Within.cons _ _ Within.nil)
  refine set_plain X₅ (ox := { cls := .ref C, dict := some dx, data := .fields #[.ref t1, .none, .none, .none, .bool false, .none] }) (od := some oD) ⟨hx₅, rfl, rfl, hoD⟩ T.sa ?_
  refine OEX.osa_old X₅ hx₅ hn₅ (Within.cons _ _ Within.nil) (by decide) hcls (show refsVE (.ref C :: bm) = true from hbm) rfl n2 (fun h₆ tk₆ k6 hn₆ => ?_)
  have back : ∀ b o, b ≠ x → s.heap.get? b = some o → h₄.get? b = some o := fun b o hb e => k4 b o hb (k3 b o (k2 b o (hk₁ b o e)))
  have grow : s.heap.objs.size ≤ h₄.objs.size := by
    exact Nat.le_of_lt (Heap.lt_size (k4 _ _ nL hL))
  have dn' : s.heap.objs.size ≤ dx := Nat.le_trans grow dn
  refine wpAny_execs_nil (hq h₆ tk₆ dx t1 ⟨fun b o hb e => k6 b o (fun z => ?_) (k5 b o hb (back b o hb e)), k6 _ _ dne.symm hx₅, dn', dne, hn₆⟩)
  rw [z] at e
  exact absurd (Nat.lt_of_lt_of_le (Heap.lt_size e) dn') (Nat.lt_irrefl _)
end
end Ve
namespace Ve
open PySem PySem.W PySem.Calls PyProof.Rows PySem.HandSPX
def fld2 (v1 v2 : Value) : Str → Option Value := fun y => if y = "index" then some v2 else if y = "rule" then some v1 else none
/-- made -/
structure OwnMade (h h' : Heap) (e C d : Addr) (m : Str → Option Value) : Prop where
  keep : ∀ b o, h.get? b = some o → h'.get? b = some o
  new : h.objs.size ≤ e
  obj : ∃ oe vs, h'.get? e = some oe ∧ oe.cls = .ref C ∧ oe.dict = some d ∧ oe.data = .fields vs ∧ vs[1]? = some .none
  dbig : h.objs.size ≤ d
  dne : d ≠ e
  ns : h'.Ns1 d m
/-- the class C, whose __init__ stores rule and index -/
structure Err2 (K : Frag) (prog : Program) (C : Addr) : Prop where
  T : ErrT K C
  n1 : findIn K (.ref C) "rule" = some none
  n2 : findIn K (.ref C) "index" = some none
  top : (prog.main.scope.names.lookup ("super" : Str)).isSome = false
  I : ∃ fI p0 p1 p2 q0 q1 q2 q3 q4 q5 r0 r1 r2 r3 r4 r5 r6 r7, (q2.endLine == q4.line) = true ∧ ErrI K prog.main.file C fI (eA [(PySem.Str.ofString "rule", p1), (PySem.Str.ofString "index", p2)] p0) [eSup "rule" q0 q1 q2 q3 q4 q5, eSt "rule" r0 r1 r2 r3, eSt "index" r4 r5 r6 r7] (eS [PySem.Str.ofString "rule", PySem.Str.ofString "index"])
section
variable {prog : Program} {w : World} {A : Around} {R : Result → Shared → Prop} {s : Shared} {K : Frag} {mg : Str → Option Value} {C : Addr}
theorem made2 (T : Err2 K prog C) {v1 v2 : Value} (X : K.In s.heap) (hlim : s.heap.NoLimit) (G : GlOk mg s.heap) (hroom : A.depth + 1 < recursionLimit)
    (hq : ∀ h' tk e d, OwnMade s.heap h' e C d (fld2 v1 v2) → R (.ok (.ret (.ref e))) { s with heap := h', toks := tk }) :
    codeAny (model prog w) A (.call (.ref C) ⟨[v1, v2], []⟩) R s := by
  obtain ⟨nm, q, N, bs, bm, sn, sub, ab, col, dd, k0, k1, k2, k3, k5, hC, hbm⟩ := T.T.cls
  obtain ⟨fI, p0, p1, p2, q0, q1, q2, q3, q4, q5, r0, r1, r2, r3, r4, r5, r6, r7, hl, I⟩ := T.I
  obtain ⟨hp, g, dr, tk, os⟩ := s
  have k : ∀ b o, hp.get? b = some o → ((hp.push (kdv_tup [v1, v2])).push (excO C hp.objs.size)).get? b = some o := fun b o e => Heap.get?_push_of_some _ (Heap.get?_push_of_some _ e)
  have hget : ((hp.push (kdv_tup [v1, v2])).push (excO C hp.objs.size)).get? (hp.objs.size + 1) = some (excO C hp.objs.size) := by heap_get
  have hnx : K.lookup (hp.objs.size + 1) = none := by
    cases e : K.lookup (hp.objs.size + 1) with
    | none => rfl
    | some o =>
      have z : hp.get? (hp.objs.size + 1) = some o := X _ _ e
      exact absurd (Nat.lt_of_succ_lt (Heap.lt_size z)) (Nat.lt_irrefl _)
  refine HandSPX.call_own F.excBase_ValueError (fun X => refsVE_contains X bm hbm) (X _ _ hC) (looks_findIn X I.iC) (fun self => bind_fn X self I.tC) (by rw [sizeLine_eq]; exact (by decide : 2 ≤ 16777216)) ?_
  refine init2 (s := ⟨(hp.push (kdv_tup [v1, v2])).push (excO C hp.objs.size), g, dr, tk, os⟩) T.T I hl T.n1 T.n2 (X.keeps k) (hlim.keeps k) (G.keeps k) T.top hget hnx ?_ fun h' tk' dx t1 ⟨k', hx, dn, dne, hns⟩ => ?_
  · show A.depth + 1 < recursionLimit
    exact hroom
  · have old : ∀ b o, hp.get? b = some o → h'.get? b = some o := fun b o e => k' b o (Nat.ne_of_lt (Nat.lt_succ_of_lt (Heap.lt_size e))) (k b o e)
    have z : hp.objs.size + 1 + 1 ≤ dx := by
      have q := dn
      rw [Heap.size_push, Heap.size_push] at q
      exact q
    exact ⟨rfl, hq h' tk' (hp.objs.size + 1) dx ⟨old, Nat.le_succ _, ⟨_, _, hx, rfl, rfl, rfl, rfl⟩, Nat.le_trans (Nat.le_trans (Nat.le_succ _) (Nat.le_succ _)) z, dne, hns⟩⟩
end
end Ve
namespace L2
open PySem PySem.Spec PyProof.Rows
theorem relO_2 {v1 v2 : V} {u1 u2 : Value} (r1 : RelV v1 u1) (r2 : RelV v2 u2) (f : Str) : RelO (List.lookup f [(PySem.Str.ofString "rule", v1), (PySem.Str.ofString "index", v2)]) (Ve.fld2 u1 u2 f) := by
  unfold Ve.fld2
  by_cases hi : f = "index"
  · subst hi
    rw [if_pos rfl]
    exact r2
  · rw [if_neg hi]
    by_cases hr : f = "rule"
    · subst hr
      rw [if_pos rfl]
      exact r1
    · rw [if_neg hr]
      have e1 : (f == PySem.Str.ofString "rule") = false := by simpa using hr
      have e2 : (f == PySem.Str.ofString "index") = false := by simpa using hi
      have q : List.lookup f [(PySem.Str.ofString "rule", v1), (PySem.Str.ofString "index", v2)] = none := by simp [List.lookup, e1, e2]
      rw [q]
      trivial
section
variable {X : Cx} {C : Addr}
/-- c(a, b) -/
def tMk2 (C : Addr) (ta : TA) : St → Hp → XK → Prop := fun σ H Q => ta σ H fun vs H1 => ∃ v1 v2, vs = [v1, v2] ∧ ∀ d, H1 d = none → Q (.ref C) (some d) (upd H1 d (.xd [(PySem.Str.ofString "rule", v1), (PySem.Str.ofString "index", v2)]))
theorem pmk2 {x : Str} {a b : Expr} {ta : TA} {p pos : Pos} {k : Nat} (T : Ve.Err2 X.K X.prog C) (gC : X.mg x = some (.ref C)) (gs : X.mg "super" = none) (hr : Room k X.A) (hk : 2 ≤ k) (ha : PA X [a, b] ta) (hg : Gl X x) (hdb : (x == ("__debug__" : Str)) = false)
    (he : starEach [a, b] X.env = (false, eval a X.env) :: starEach [b] X.env) (hpl : (backTo pos (starEach [b] X.env)).any (·.1) = false) :
    PMk X (.Call (.Name x p) [a, b] [] pos) (tMk2 C ta) := by
  intro pins s σ H Q I h
  refine wpAny_Call_Name_kw (ld_glob I hg gC ?_ hdb)
  refine PySem.W.callWith_K (h₀ := X.base) I.ok.mod.kin T.T.kC (thn (ha.run pos pins s σ H _ I h) fun us s1 hh => ?_) he hpl
  obtain ⟨vs, H1, I1, r1, v1, v2, ev, q1⟩ := hh
  subst ev
  refine ⟨I1.kIn, ?_⟩
  cases r1 with
  | cons rv rn =>
    rename_i u1 us1
    cases rn with
    | cons rv2 rn =>
      rename_i u2 us2
      cases rn
      show wpAny _ _ (call (.ref C) [u1, u2]) _ _ _
      have hlim := I1.nolimit
      have G : Ve.GlOk X.mg s1.heap := by
        obtain ⟨mb, h1, h2⟩ := I1.mod.blt
        exact ⟨I1.mod.glob.keeps I1.bk, gs, mb, h1.keeps I1.bk, h2 "super" (by decide)⟩
      obtain ⟨hp, g, dr, tk, os⟩ := s1
      refine wpAny_call (Ve.made2 T I1.kIn hlim G (by have := hr.dp; omega) fun h' tk' e d M => ?_)
      show MkP X pins σ Q (.ref e) ⟨h', g, dr, tk', os⟩
      obtain ⟨oe, fv, hoe, hc, hd, hdat, h1⟩ := M.obj
      have hns := M.ns
      obtain ⟨G', g1, g2⟩ := restrict h' fun b => decide (b ≠ e)
      have gk : ∀ b, b ≠ e → G'.get? b = h'.get? b := fun b hb => g1 b (decide_eq_true hb)
      have ge : G'.get? e = none := g2 e (by simp)
      have old : ∀ b o, hp.get? b = some o → G'.get? b = some o := fun b o q => (gk b (Nat.ne_of_lt (Nat.lt_of_lt_of_le (Heap.lt_size q) M.new))).trans (M.keep b o q)
      have ob : ObjOk X.prog X.w (upd H1 d (.xd [(PySem.Str.ofString "rule", v1), (PySem.Str.ofString "index", v2)])) G' d (.xd [(PySem.Str.ofString "rule", v1), (PySem.Str.ofString "index", v2)]) :=
        ⟨_, hns.at (fun o q => (gk d M.dne).trans q), fun f => relO_2 rv rv2 f⟩
      have J : Inv X pins σ (upd H1 d (.xd [(PySem.Str.ofString "rule", v1), (PySem.Str.ofString "index", v2)])) ⟨G', g, dr, tk', os⟩ := I1.laid (t' := tk') old M.dbig ob
      refine ⟨e, oe, fv, ⟨G', g, dr, tk', os⟩, _, .ref C, some d, rfl, J, fun b o q => ?_, ge, hoe, ⟨hc, hd⟩, hdat, h1, ?_, rfl, I1.bare, raises_own T.T.exC T.T.tyC, q1 d (I1.hok.fresh M.dbig)⟩
      · by_cases hb : b = e
        · have q' : G'.get? b = some o := q
          rw [hb, ge] at q'
          cases q'
        · exact (gk b hb).symm.trans q
      · rw [upd_ne (Ne.symm M.dne)]
        exact I1.hok.fresh M.new
end
end L2
/-! all, any, sum of a generator expression of any element, over anything that PI serves. -/
namespace Vg
open PySem PySem.Spec PyProof.Rows L2 GxR GenW
theorem over_comp {A : Around} {elt t iter : Expr} {ifs : List Expr} {scope : Scope} {pos : Pos} {it acc : Value} {env : Env} : A.over (.compLoop (.GeneratorExp elt [⟨t, iter, ifs, 0⟩] scope pos) 0 it acc env) [] = A.deeper env := by
  first
    | rfl
    | (obtain ⟨hd, d, fr, gs, u⟩ := A; simp [Around.over, Around.deeper, marksOver, frameCount, unitsOf, envsOf, guardsOf, pushEnvs, pushGuards, Code.envs, Code.env?, Code.isFrame, Code.guards, Code.isGuard, Code.weight, Code.frames, Code.isCreation, Code.isCaller, Code.cUnits])
theorem over_start {A : Around} {elt t iter : Expr} {ifs : List Expr} {scope : Scope} {pos : Pos} {it acc : Value} {env : Env} : A.over (.compStart (.GeneratorExp elt [⟨t, iter, ifs, 0⟩] scope pos) 0 it acc env) [] = A.deeper env := by
  first
    | rfl
    | (obtain ⟨hd, d, fr, gs, u⟩ := A; simp [Around.over, Around.deeper, marksOver, frameCount, unitsOf, envsOf, guardsOf, pushEnvs, pushGuards, Code.envs, Code.env?, Code.isFrame, Code.guards, Code.isGuard, Code.weight, Code.frames, Code.isCreation, Code.isCaller, Code.cUnits])
/-- the context of the expression's own frame -/
abbrev gX (X : Cx) (s : Shared) (H : Hp) (scope : Scope) (cl : List (Str × Addr)) (C : Addr) (code : Value) (bi : Addr) (fp : List Addr) : Cx :=
  { X with A := (X.A.in1.in1).deeper (genEnv scope cl C code bi X.env), s_0 := s, H_0 := H, env := genEnv scope cl C code bi X.env, outer := X.stack, stack := genEnv scope cl C code bi X.env :: X.stack, ex := fp, fn := fun _ => false, calm := true, pn := [], xe := fun _ _ => False }
section
variable {Y : Cx} {κ : Type}
/-- between two turns, in the frame's context -/
structure Btw (Y : Cx) (KL fp : List Addr) (tn : Nat → Heap → Prop) (τ : L2.St) (i : Nat) (H : Hp) (s₀ s : Shared) : Prop where
  inv : Inv Y (pinsAt KL s₀.heap) τ H s
  tn : tn i s.heap
  fp : ∀ b ∈ fp, H b = none
  kl : ∀ b ∈ KL, ∃ o, s₀.heap.get? b = some o
theorem Btw.pin {KL fp : List Addr} {tn : Nat → Heap → Prop} {τ : L2.St} {i : Nat} {H : Hp} {s₀ s : Shared} (B : Btw Y KL fp tn τ i H s₀ s) {b : Addr} {o : Obj} (hb : b ∈ KL) (e : s₀.heap.get? b = some o) : s.heap.get? b = some o :=
  (B.inv.pin (b, o) (List.mem_append_right _ (mem_pinsAt hb e))).1
/-- from the state itself -/
theorem Btw.re {KL fp : List Addr} {tn : Nat → Heap → Prop} {τ : L2.St} {i : Nat} {H : Hp} {s₀ s : Shared} (B : Btw Y KL fp tn τ i H s₀ s) : Btw Y KL fp tn τ i H s s :=
  ⟨B.inv.pins_of fun p hp => by
    obtain ⟨h1, h2⟩ := of_pinsAt hp
    obtain ⟨o, e⟩ := B.kl p.1 h1
    have e2 := B.pin h1 e
    rw [h2] at e2
    cases e2
    exact B.inv.pin p (List.mem_append_right _ (mem_pinsAt h1 e)), B.tn, B.fp, fun b hb => let ⟨o, e⟩ := B.kl b hb; ⟨o, B.pin hb e⟩⟩
/-- what is known when an item is handed out -/
def YP (Y : Cx) (KL fp : List Addr) (tn : Nat → Heap → Prop) (τ : L2.St) (Tie : Heap → κ → Prop) (Yd : κ → V → Hp → (κ → Hp → Prop) → Prop) : Protocol := fun n s₀ v s kap =>
  ∃ i k y H Nx, RelV y v ∧ Tie s₀.heap k ∧ Btw Y KL fp tn τ i H s₀ s ∧ Yd k y H Nx ∧ ∀ k' H' s'', Nx k' H' → Tie s''.heap k' → Btw Y KL fp tn τ i H' s'' s'' → kap (.send .none) s''
/-- .. when it ends -/
def RP (Y : Cx) (KL fp : List Addr) (τ : L2.St) (Tie : Heap → κ → Prop) (Qf : κ → Hp → Prop) (n : Nat) (s₀ s : Shared) : Prop := ∃ k H, Tie s₀.heap k ∧ Inv Y (pinsAt KL s₀.heap) τ H s ∧ Qf k H
theorem seg_noted {A : Around} {R : GenEnd} {Z : Protocol} {n : Nat} {s₀ : Shared} {c : Code} {fs : List Frame} {s : Shared} {α β : Type} {M : Model} {m : Sem α} {K : α → Sem β} {K' : β → Sem PySem.Fin} {H' : Value → Sem PySem.Fin} {gd lv}
    (h : wpAny M (A.over c fs) m (fun a s' => Seg M A R Z n s₀ c ((K a).wrap K' H' gd lv) fs s') (fun _ _ => False) s) : Seg M A R Z n s₀ c ((m >>= K).wrap K' H' gd lv) fs s :=
  seg_bind_wrap (wpAny_mono h (fun _ _ x => x) fun _ _ x => False.elim x)
/-- the code of the expression, from turn to turn -/
theorem seg_turns {elt tg iter : Expr} {ifs : List Expr} {scope : Scope} {pos : Pos} {A : Around} {it : Addr} {fp KL : List Addr} {tn : Nat → Heap → Prop} {J : It} {g : TG} {tt : TT} {te : TE} {vs : List Nat} {σ : L2.St}
    {Tie : Heap → κ → Prop} {Yd : κ → V → Hp → (κ → Hp → Prop) → Prop} {Qf : κ → Hp → Prop} {W : Nat → Nat → κ → Hp → Prop}
    (hA : A.deeper Y.env = Y.A) (hc : Y.calm = true) (hpn : Y.pn = []) (hco : Y.env.scope.isCoroutine = false) (hxe : Y.xe = fun _ _ => False) (hex : Y.ex = fp) (hKL : ∀ b ∈ KL, b ∉ fp)
    (T : Turn Y.prog Y.w Y.K tg J fp it tn) (pg : PG Y tg g) (pt : PTs Y ifs tt) (pe : PE Y elt te)
    (turn : ∀ i m k H, W i m k H → (J.stop i H ∧ Qf k H) ∨ (J.go i H ∧ ∃ Nx : κ → Hp → Prop, (∀ k' H', Nx k' H' → ∃ m', m' < m ∧ W (i + 1) m' k' H') ∧ ∀ x H', J.yld i H x H' → g x (wipe σ vs) H' fun σ2 H2 => wipe σ2 vs = wipe σ vs ∧ tt σ2 H2 fun b H3 =>
      if b = true then te σ2 H3 fun y H4 => Yd k y H4 Nx else Nx k H3)) :
    ∀ (m n i : Nat) (k : κ) (H : Hp) (s₀ s : Shared), m < n → W i m k H → Tie s₀.heap k → Btw Y KL fp tn (wipe σ vs) i H s₀ s →
      Seg (model Y.prog Y.w) A (fun n s₀ r s₁ => r = .ok .next ∧ RP Y KL fp (wipe σ vs) Tie Qf n s₀ s₁) (YP Y KL fp tn (wipe σ vs) Tie Yd) n s₀
        (.compLoop (.GeneratorExp elt [⟨tg, iter, ifs, 0⟩] scope pos) 0 (.ref it) .none Y.env) ((model Y.prog Y.w).den (.compLoop (.GeneratorExp elt [⟨tg, iter, ifs, 0⟩] scope pos) 0 (.ref it) .none Y.env)) [] s := by
  have stat : ∀ {s0 : Shared} {σ' : L2.St} {H' : Hp} {s' : Shared}, Inv Y (pinsAt KL s0.heap) σ' H' s' → (∀ b ∈ fp, H' b = none) → ∀ b ∈ fp, FpOk Y (pinsAt KL s0.heap) H' b := fun {s0 σ' H' s'} I' hn b hb =>
    ⟨hn b hb, (I'.ok.exf b (by rw [hex]; exact hb)).1, I'.ok.exfs b (by rw [hex]; exact hb), .inl (by rw [hex]; exact hb), fun x c e => (I'.ok.exf b (by rw [hex]; exact hb)).2 x c e, fun p hp e => by
      rw [hpn, List.nil_append] at hp
      have := (of_pinsAt hp).1
      rw [e] at this
      exact hKL b this hb⟩
  intro m
  induction m using Nat.strongRecOn with
  | ind m ih =>
    intro n i k H s₀ s hmn w tie B
    show Seg _ A _ _ _ s₀ _ ((compTurn (.GeneratorExp elt [⟨tg, iter, ifs, 0⟩] scope pos) 0 (.ref it) .none Y.env).onRaise (leaving Y.env)) [] s
    rw [compTurn_gen, Sem.onRaise_eq_wrap]
    refine seg_noted (wpAny_standAt ?_)
    rcases turn i m k H w with ⟨stop, qf⟩ | ⟨go, Nx, hNx, step⟩
    · refine seg_noted ?_
      rw [over_comp, hA]
      refine thnF (T.done Y rfl rfl rfl hc i _ s _ H (fun _ _ => False) B.inv (stat B.inv B.fp) B.tn stop) fun r s1 ⟨hr, I1⟩ => ?_
      subst hr
      exact seg_end (.ok .next) ⟨rfl, k, H, tie, I1, qf⟩
    · refine seg_noted ?_
      rw [over_comp, hA]
      refine thnF (T.item Y rfl rfl rfl hc i _ s _ H (fun _ _ => False) B.inv (stat B.inv B.fp) B.tn go) fun r s1 ⟨u, hr, h1⟩ => ?_
      subst hr
      refine seg_noted ?_
      rw [over_comp, hA]
      refine thnF h1 fun _ s2 ⟨x, H2, I2, r2, y2, st2, n2⟩ => ?_
      refine seg_noted ?_
      rw [over_comp, hA]
      have I2' := I2.pinned (stat I2 n2) (T.obj _ _ st2)
      have pgr := pg.run _ s2 _ H2 x u _ I2' r2 (step x H2 y2)
      rw [hxe] at pgr
      refine thnF pgr fun _ s3 ⟨σ3, H3, I3, hw3, q3⟩ => ?_
      refine seg_noted ?_
      rw [over_comp, hA]
      have ptr := pt.run _ s3 σ3 H3 _ I3 q3
      rw [hxe] at ptr
      refine thnF ptr fun b s4 ⟨H4, I4, q4⟩ => ?_
      have fin : ∀ {s' : Shared} {H' : Hp}, Inv Y (pinsAt KL s₀.heap ++ pinsAt fp s2.heap) σ3 H' s' → Btw Y KL fp tn (wipe σ vs) (i + 1) H' s₀ s' := fun {s' H'} I' => by
        have pin' : ∀ b ∈ fp, ∀ o, s2.heap.get? b = some o → s'.heap.get? b = some o ∧ H' b = none := fun b hb o e =>
          let z := I'.pin (b, o) (List.mem_append_right _ (List.mem_append_right _ (mem_pinsAt hb e)))
          ⟨z.1, z.2.1⟩
        have hl : (wipe σ vs).length = σ3.length := by rw [← hw3, wipe_length]
        refine ⟨(I'.unpinned).weak hl (fun j v e => ?_), T.keep _ _ _ st2 fun b hb o e => (pin' b hb o e).1, fun b hb => ?_, fun b hb => ?_⟩
        · rw [← hw3] at e
          exact (wipe_some e).1
        · obtain ⟨o, e, _⟩ := T.obj _ _ st2 b hb
          exact (pin' b hb o e).2
        · exact B.kl b hb
      cases b with
      | false =>
        simp only [Bool.false_eq_true, if_false] at q4 ⊢
        obtain ⟨m', hm, w'⟩ := hNx k H4 q4
        exact seg_again rfl (ih m' hm n (i + 1) k H4 s₀ s4 (by omega) w' tie (fin I4))
      | true =>
        simp only [if_true] at q4 ⊢
        have hy : ∀ v, yieldOut Y.env v = yieldValue v := fun v => by simp only [yieldOut, hco, Bool.false_eq_true, if_false]
        simp only [hy]
        rw [Sem.bind_eq_wrap', Sem.bind_eq_wrap', Sem.wrap_wrap, Sem.wrap_wrap]
        obtain ⟨n', rfl⟩ : ∃ n', n = n' + 1 := ⟨n - 1, by omega⟩
        have per := pe.run _ s4 σ3 H4 _ I4 q4
        rw [hxe] at per
        refine seg_wrap ?_
        rw [over_comp, hA]
        refine wpAny_mono per (fun v s5 ⟨y, H5, I5, r5, q5⟩ => ?_) fun _ _ z => False.elim z
        refine seg_at (seg_yield rfl rfl rfl ⟨i + 1, k, y, H5, Nx, r5, tie, fin I5, q5, fun k' H' s'' nx tie' B' => ?_⟩)
        obtain ⟨m', hm, w'⟩ := hNx k' H' nx
        exact seg_again rfl (ih m' hm n' (i + 1) k' H' s'' s'' (by omega) w' tie' B')
end
end Vg
namespace Vg
open PySem PySem.Spec PyProof.Rows L2 GxR GenW
theorem inv_gens {X : Cx} {pins : List (Addr × Obj)} {σ : L2.St} {H : Hp} {s : Shared} {g' : Array GenState} (I : Inv X pins σ H s) (hb : AllBare g') : Inv X pins σ H { s with gens := g' } :=
  ⟨I.ok, I.os, hb, I.base, I.loc, I.cell, I.free, I.freeC, I.pin, I.hok, I.len⟩
theorem bare_setGen {s : Shared} {g : Nat} {x : GenState} (h : AllBare s.gens) (hx : x.bare = true) : AllBare (s.setGen g x).gens := fun y hy => by
  have hy : y ∈ s.gens.setIfInBounds g x := hy
  rcases Array.mem_or_eq_of_mem_setIfInBounds hy with h1 | h1
  · exact h y h1
  · rw [h1]; exact hx
theorem setGen_at {s : Shared} {g : Nat} {x : GenState} (h : g < s.gens.size) : (s.setGen g x).gens[g]? = some x := by
  simp [Shared.setGen, h]
theorem inv_pins {X : Cx} {pins pins' : List (Addr × Obj)} {σ : L2.St} {H : Hp} {s : Shared} (I : Inv X pins σ H s) (h : ∀ p ∈ pins', p ∈ pins) : Inv X pins' σ H s :=
  I.pins_of fun p hp => I.pin p (List.mem_append_right _ (h p hp))
section
variable {Y : Cx} {κ : Type} {KL fp : List Addr} {tn : Nat → Heap → Prop} {τ : L2.St} {Tie : Heap → κ → Prop} {Yd : κ → V → Hp → (κ → Hp → Prop) → Prop} {Qf : κ → Hp → Prop} {a : Addr} {g : Nat} {A : Around}
/-- the generator a sleeps -/
structure Rest (Y : Cx) (A : Around) (KL fp : List Addr) (tn : Nat → Heap → Prop) (τ : L2.St) (Tie : Heap → κ → Prop) (Yd : κ → V → Hp → (κ → Hp → Prop) → Prop) (Qf : κ → Hp → Prop) (a : Addr) (g n i : Nat) (k : κ) (H : Hp) (s : Shared) : Prop where
  tie : Tie s.heap k
  b : Btw Y KL fp tn τ i H s s
  ig : s.heap.IsGen a g
  gs : ∃ gs, s.gens[g]? = some gs ∧ gs.Goes (model Y.prog Y.w) A.in1 (fun n s₀ r s₁ => r = .ok .next ∧ RP Y KL fp τ Tie Qf n s₀ s₁) (YP Y KL fp tn τ Tie Yd) n (.send .none) (s.setGen g .running)
/-- an item has come; what may follow -/
structure Came (Y : Cx) (A : Around) (KL fp : List Addr) (tn : Nat → Heap → Prop) (τ : L2.St) (Tie : Heap → κ → Prop) (Yd : κ → V → Hp → (κ → Hp → Prop) → Prop) (Qf : κ → Hp → Prop) (a : Addr) (g n i : Nat) (Nx : κ → Hp → Prop) (H : Hp) (s₀ s : Shared) : Prop where
  b : Btw Y KL fp tn τ i H s₀ s
  ig : s.heap.IsGen a g
  gs : ∃ gs, s.gens[g]? = some gs ∧ gs.bare = true ∧ ∀ k' H' s'', Nx k' H' → Tie s''.heap k' → Btw Y KL fp tn τ i H' s'' s'' → gs.Goes (model Y.prog Y.w) A.in1 (fun n s₀ r s₁ => r = .ok .next ∧ RP Y KL fp τ Tie Qf n s₀ s₁) (YP Y KL fp tn τ Tie Yd) n (.send .none) s''
theorem Came.rest {n i : Nat} {Nx : κ → Hp → Prop} {H H' : Hp} {k : κ} {s₀ s s' : Shared} (c : Came Y A KL fp tn τ Tie Yd Qf a g n i Nx H s₀ s) (nx : Nx k H') (tie : Tie s'.heap k) (b : Btw Y KL fp tn τ i H' s' s') (ig : s'.heap.IsGen a g) (e : s'.gens = s.gens) : Rest Y A KL fp tn τ Tie Yd Qf a g n i k H' s' := by
  obtain ⟨gs, h1, h2, h3⟩ := c.gs
  refine ⟨tie, b, ig, gs, by rw [e]; exact h1, h3 k H' _ nx tie ⟨?_, b.tn, b.fp, b.kl⟩⟩
  exact inv_gens b.inv (bare_setGen b.inv.bare rfl)
theorem next_ge {n i : Nat} {k : κ} {H : Hp} {s : Shared} (hh : A.handled = none) (hd : A.depth < recursionLimit) (ha : a ∈ KL) (htie : ∀ h k k', Tie h k → Tie h k' → k = k') (R : Rest Y A KL fp tn τ Tie Yd Qf a g n i k H s) :
    wpAny (model Y.prog Y.w) A (pyNext (.ref a)) (fun r s' => (∃ v, r = some v ∧ ∃ n' i' y H' Nx, (n = n' + 1 ∨ ∀ k' H' s'', Nx k' H' → Tie s''.heap k' → Btw Y KL fp tn τ i' H' s'' s'' → False) ∧ RelV y v ∧ Yd k y H' Nx ∧ Came Y A KL fp tn τ Tie Yd Qf a g n' i' Nx H' s s') ∨ (r = none ∧ ∃ H', Inv Y (pinsAt KL s.heap) τ H' s' ∧ Qf k H')) (fun _ _ => False) s := by
  obtain ⟨gs, hgs, hgo⟩ := R.gs
  have hg : g < s.gens.size := by
    rcases Nat.lt_or_ge g s.gens.size with h | h
    · exact h
    · rw [Array.getElem?_eq_none h] at hgs; cases hgs
  have ig : ∀ {H' : Hp} {s1 : Shared}, Inv Y (pinsAt KL s.heap) τ H' s1 → s1.heap.IsGen a g := fun {H' s1} I => by
    obtain ⟨o, nm, qn, e, r⟩ := R.ig
    exact ⟨o, nm, qn, (I.pin (a, o) (List.mem_append_right _ (mem_pinsAt ha e))).1, r⟩
  refine wpAny_gsz (n := g + 1) hg ?_
  refine wpAny_pyNext_genexpQ (P := fun n s₀ s₁ => RP Y KL fp τ Tie Qf n s₀ s₁) hh R.b.inv.nolimit hd R.ig hgs hgo (fun v s₁ gs' hb hv => ?_) (fun s₁ hp h' hk => ?_)
  · intro hz
    have hz : g + 1 ≤ (s₁.gens.setIfInBounds g gs').size := hz
    rw [Array.size_setIfInBounds] at hz
    obtain ⟨i', k', y, H', Nx, ry, tie, B, yd, kap⟩ := hv
    obtain rfl := htie _ _ _ R.tie tie
    refine .inl ⟨v, rfl, ?_⟩
    cases n with
    | zero =>
      exact ⟨0, i', y, H', Nx, .inr fun k' H' s'' nx t b => kap k' H' s'' nx t b, ry, yd, ⟨inv_gens B.inv (bare_setGen B.inv.bare hb), B.tn, B.fp, B.kl⟩, ig (s1 := s₁.setGen g gs') (inv_gens B.inv (bare_setGen B.inv.bare hb)), gs', setGen_at hz, hb, fun k' H' s'' nx t b => (kap k' H' s'' nx t b).elim⟩
    | succ n' =>
      exact ⟨n', i', y, H', Nx, .inl rfl, ry, yd, ⟨inv_gens B.inv (bare_setGen B.inv.bare hb), B.tn, B.fp, B.kl⟩, ig (s1 := s₁.setGen g gs') (inv_gens B.inv (bare_setGen B.inv.bare hb)), gs', setGen_at hz, hb, fun k' H' s'' nx t b => kap k' H' s'' nx t b⟩
  · intro _
    obtain ⟨k', H', tie, I, q⟩ := hp
    obtain rfl := htie _ _ _ R.tie tie
    refine .inr ⟨rfl, H', ?_, q⟩
    exact (inv_gens I (bare_setGen I.bare (x := .finished) rfl)).kept (t' := s₁.toks) hk

/-! ### those who walk it -/
variable {E : Value → Shared → Prop}
def Fin1 (Y : Cx) (KL : List Addr) (τ : L2.St) (Qv : V → Hp → Prop) (v : V) (s' : Shared) : Prop := ∃ pins H', Inv Y pins τ H' s' ∧ Qv v H'
theorem all_ge {Qv : V → Hp → Prop} {R : Result → Shared → Prop} (hh : A.handled = none) (hd : A.depth < recursionLimit) (ha : a ∈ KL)
    (hR : ∀ b s', Fin1 Y KL τ Qv (.bl b) s' → R (.ok (.ret (.bool b))) s') :
    ∀ (n i : Nat) (H : Hp) (s : Shared), Rest Y A.in1 KL fp tn τ (fun _ (_ : Unit) => True) (fun _ y H Nx => ∃ b, y = .bl b ∧ if b = true then Nx () H else Qv (.bl false) H) (fun _ H => Qv (.bl true) H) a g n i () H s →
      codeAny (model Y.prog Y.w) A (.builtin "all.loop" ⟨[.ref a], []⟩) R s := by
  intro n
  induction n with
  | zero =>
    intro i H s r
    refine codeAny_builtin F.entry_all_loop ?_
    rw [Around.under_plainId F.plain_all_loop _]
    show wpAny _ A.in1 (pyNext (.ref a) >>= _) _ _ s
    refine wpAny_bind (thnF (next_ge hh hd ha (fun _ _ _ _ _ => rfl) r) fun u s' h => ?_)
    rcases h with ⟨v, rfl, n', i', y, H', Nx, hn, ry, ⟨b, rfl, yd⟩, c⟩ | ⟨rfl, H', I, q⟩
    · cases b with
      | true =>
        rw [if_pos rfl] at yd
        rcases hn with hn | hn
        · omega
        · exact (hn () H' s' yd trivial c.b.re).elim
      | false =>
        rw [if_neg (by decide)] at yd
        cases ry
        refine wpAny_bind (wpAny_holding (wpAny_truthy_bool ?_))
        refine wpAny_bind (wpAny_letGo ?_)
        simp only [Bool.false_eq_true, if_false]
        exact wpAny_bind (wpAny_rule (wpAny_pure (hR false s' ⟨_, H', c.b.inv, yd⟩)))
    · exact wpAny_bind (wpAny_rule (wpAny_pure (hR true s' ⟨_, H', I, q⟩)))
  | succ n ih =>
    intro i H s r
    refine codeAny_builtin F.entry_all_loop ?_
    rw [Around.under_plainId F.plain_all_loop _]
    show wpAny _ A.in1 (pyNext (.ref a) >>= _) _ _ s
    refine wpAny_bind (thnF (next_ge hh hd ha (fun _ _ _ _ _ => rfl) r) fun u s' h => ?_)
    rcases h with ⟨v, rfl, n', i', y, H', Nx, hn, ry, ⟨b, rfl, yd⟩, c⟩ | ⟨rfl, H', I, q⟩
    · cases ry
      refine wpAny_bind (wpAny_holding (wpAny_truthy_bool ?_))
      refine wpAny_bind (wpAny_letGo ?_)
      cases b with
      | true =>
        rw [if_pos rfl] at yd
        simp only [if_true]
        rcases hn with hn | hn
        · obtain rfl : n' = n := by omega
          exact wpAny_pure ⟨plainId_quiet F.plain_all_loop _, ih i' H' s' (c.rest yd trivial c.b.re c.ig rfl)⟩
        · exact (hn () H' s' yd trivial c.b.re).elim
      | false =>
        rw [if_neg (by decide)] at yd
        simp only [Bool.false_eq_true, if_false]
        exact wpAny_bind (wpAny_rule (wpAny_pure (hR false s' ⟨_, H', c.b.inv, yd⟩)))
    · exact wpAny_bind (wpAny_rule (wpAny_pure (hR true s' ⟨_, H', I, q⟩)))
theorem any_ge {Qv : V → Hp → Prop} {R : Result → Shared → Prop} (hh : A.handled = none) (hd : A.depth < recursionLimit) (ha : a ∈ KL)
    (hR : ∀ b s', Fin1 Y KL τ Qv (.bl b) s' → R (.ok (.ret (.bool b))) s') :
    ∀ (n i : Nat) (H : Hp) (s : Shared), Rest Y A.in1 KL fp tn τ (fun _ (_ : Unit) => True) (fun _ y H Nx => ∃ b, y = .bl b ∧ if b = true then Qv (.bl true) H else Nx () H) (fun _ H => Qv (.bl false) H) a g n i () H s →
      codeAny (model Y.prog Y.w) A (.builtin "any.loop" ⟨[.ref a], []⟩) R s := by
  intro n
  induction n with
  | zero =>
    intro i H s r
    refine codeAny_builtin F.entry_any_loop ?_
    rw [Around.under_plainId F.plain_any_loop _]
    show wpAny _ A.in1 (pyNext (.ref a) >>= _) _ _ s
    refine wpAny_bind (thnF (next_ge hh hd ha (fun _ _ _ _ _ => rfl) r) fun u s' h => ?_)
    rcases h with ⟨v, rfl, n', i', y, H', Nx, hn, ry, ⟨b, rfl, yd⟩, c⟩ | ⟨rfl, H', I, q⟩
    · cases b with
      | false =>
        rw [if_neg (by decide)] at yd
        rcases hn with hn | hn
        · omega
        · exact (hn () H' s' yd trivial c.b.re).elim
      | true =>
        rw [if_pos rfl] at yd
        cases ry
        refine wpAny_bind (wpAny_holding (wpAny_truthy_bool ?_))
        refine wpAny_bind (wpAny_letGo ?_)
        simp only [if_true]
        exact wpAny_bind (wpAny_rule (wpAny_pure (hR true s' ⟨_, H', c.b.inv, yd⟩)))
    · exact wpAny_bind (wpAny_rule (wpAny_pure (hR false s' ⟨_, H', I, q⟩)))
  | succ n ih =>
    intro i H s r
    refine codeAny_builtin F.entry_any_loop ?_
    rw [Around.under_plainId F.plain_any_loop _]
    show wpAny _ A.in1 (pyNext (.ref a) >>= _) _ _ s
    refine wpAny_bind (thnF (next_ge hh hd ha (fun _ _ _ _ _ => rfl) r) fun u s' h => ?_)
    rcases h with ⟨v, rfl, n', i', y, H', Nx, hn, ry, ⟨b, rfl, yd⟩, c⟩ | ⟨rfl, H', I, q⟩
    · cases ry
      refine wpAny_bind (wpAny_holding (wpAny_truthy_bool ?_))
      refine wpAny_bind (wpAny_letGo ?_)
      cases b with
      | false =>
        rw [if_neg (by decide)] at yd
        simp only [Bool.false_eq_true, if_false]
        rcases hn with hn | hn
        · obtain rfl : n' = n := by omega
          exact wpAny_pure ⟨plainId_quiet F.plain_any_loop _, ih i' H' s' (c.rest yd trivial c.b.re c.ig rfl)⟩
        · exact (hn () H' s' yd trivial c.b.re).elim
      | true =>
        rw [if_pos rfl] at yd
        simp only [if_true]
        exact wpAny_bind (wpAny_rule (wpAny_pure (hR true s' ⟨_, H', c.b.inv, yd⟩)))
    · exact wpAny_bind (wpAny_rule (wpAny_pure (hR false s' ⟨_, H', I, q⟩)))
/-- the sum so far -/
def SumAt (S : Addr) (h : Heap) (k : Int) : Prop := ∃ t c, h.get? S = some { cls := .type "list", dict := none, data := .seq #[.int k t] c, slots := #[] }
theorem SumAt.eq {S : Addr} {h : Heap} {k k' : Int} (x : SumAt S h k) (y : SumAt S h k') : k = k' := by
  obtain ⟨t, c, e⟩ := x
  obtain ⟨t', c', e'⟩ := y
  rw [e] at e'
  cases e'
  rfl
theorem sum_ge {S : Addr} {Qv : V → Hp → Prop} {R : Result → Shared → Prop} (hh : A.handled = none) (hd : A.depth < recursionLimit) (hKL : KL = [a, S]) (hpn : Y.pn = []) (hfp : S ∉ fp) (haS : a ≠ S) (hS0 : Y.s_0.heap.objs.size ≤ S) (T : ∀ i h h', tn i h → (∀ b ∈ fp, ∀ o, h.get? b = some o → h'.get? b = some o) → tn i h')
    (hSc : ∀ x c, Y.env.cells.lookup x = some c → c ≠ S)
    (hR : ∀ k t s', Fin1 Y KL τ Qv (.int k) s' → R (.ok (.ret (.int k t))) s') :
    ∀ (n i : Nat) (k : Int) (H : Hp) (s : Shared), Rest Y A.in1 KL fp tn τ (SumAt S) (fun k y H Nx => ∃ j, y = .int j ∧ InLong j ∧ InLong (k + j) ∧ Nx (k + j) H) (fun k H => Qv (.int k) H) a g n i k H s →
      codeAny (model Y.prog Y.w) A (.builtin "sum.loop" ⟨[.ref a, .ref S, rawInt 0, rawInt 0], []⟩) R s := by
  subst hKL
  have ha : a ∈ [a, S] := List.mem_cons_self
  have hS : S ∈ [a, S] := List.mem_cons_of_mem _ List.mem_cons_self
  -- the sum is written
  have wr : ∀ {n i : Nat} {k j : Int} {t tk : Nat} {H : Hp} {Nx : Int → Hp → Prop} {s s' : Shared} {o : Obj}, SumAt S s.heap k → Came Y A.in1 [a, S] fp tn τ (SumAt S) (fun k y H Nx => ∃ j, y = .int j ∧ InLong j ∧ InLong (k + j) ∧ Nx (k + j) H) (fun k H => Qv (.int k) H) a g n i Nx H s s' → Nx (k + j) H → s'.heap.get? S = some o → o.data = .seq #[.int k t] 0 ∨ True →
      ∀ h', (∀ b u, b ≠ S → s'.heap.get? b = some u → h'.get? b = some u) → SumAt S h' (k + j) → Rest Y A.in1 [a, S] fp tn τ (SumAt S) (fun k y H Nx => ∃ j, y = .int j ∧ InLong j ∧ InLong (k + j) ∧ Nx (k + j) H) (fun k H => Qv (.int k) H) a g n i (k + j) H { s' with heap := h', toks := tk } := by
    intro n i k j t tk H Nx s s' o tie c nx eS _ h' kp sa
    have pS := c.b.inv.pin (S, o) (List.mem_append_right _ (mem_pinsAt hS (by
      obtain ⟨o', e⟩ := c.b.kl S hS
      have := c.b.pin hS e
      rw [eS] at this
      cases this
      exact e)))
    obtain ⟨oa, ea⟩ := c.b.kl a ha
    have J : Inv Y [(a, oa)] τ H { s' with heap := h', toks := tk } := by
      refine (inv_pins c.b.inv (pins' := [(a, oa)]) fun p hp => ?_).turned (it := S) kp pS.2.1 pS.2.2.1 (.inr hS0) hSc fun p hp => ?_
      · rw [List.mem_singleton.mp hp]; exact mem_pinsAt ha ea
      · rw [hpn, List.nil_append] at hp
        rw [List.mem_singleton.mp hp]; exact haS
    have ea' : h'.get? a = some oa := kp a oa haS (c.b.pin ha ea)
    have J2 : Inv Y (pinsAt [a, S] h') τ H { s' with heap := h', toks := tk } := J.pins_of fun p hp => by
      obtain ⟨h1, h2⟩ := of_pinsAt hp
      rcases List.mem_cons.mp h1 with e | h1
      · have := J.pin (a, oa) (List.mem_append_right _ List.mem_cons_self)
        have h3 : p = (a, oa) := by
          rw [e] at h2
          rw [ea'] at h2
          cases h2
          cases p
          cases e
          rfl
        rw [h3]
        exact this
      · have e := List.mem_singleton.mp h1
        obtain ⟨t1, c1, e1⟩ := sa
        rw [e, e1] at h2
        cases p with
        | mk p1 p2 =>
          cases e
          cases h2
          exact ⟨e1, pS.2.1, pS.2.2.1, pS.2.2.2.1, fun v z => by cases z⟩
    refine c.rest nx sa ⟨J2, T _ _ _ c.b.tn fun b hb o e => kp b o (fun z => hfp (z ▸ hb)) e, c.b.fp, fun b hb => ?_⟩ ?_ rfl
    · rcases List.mem_cons.mp hb with e | hb
      · rw [e]; exact ⟨_, ea'⟩
      · rw [List.mem_singleton.mp hb]; obtain ⟨t1, c1, e1⟩ := sa; exact ⟨_, e1⟩
    · obtain ⟨o, nm, qn, e, r⟩ := c.ig
      exact ⟨o, nm, qn, kp a o haS e, r⟩
  intro n
  induction n with
  | zero =>
    intro i k H s r
    obtain ⟨tA, cA, eS⟩ := r.tie
    refine codeAny_builtin F.entry_sum_loop ?_
    rw [Around.under_plainId F.plain_sum_loop _]
    show wpAny _ A.in1 (seqItems? (.ref S) >>= _) _ _ s
    refine wpAny_bind (wpAny_seqItems eS rfl ?_)
    show wpAny _ A.in1 (tryCatch (pyNext (.ref a)) _ >>= _) _ _ s
    refine wpAny_bind (wpAny_tryCatch (wpAny_mono (next_ge (Tie := SumAt S) hh hd ha (fun _ _ _ => SumAt.eq) r) (fun u s' h => ?_) fun _ _ z => False.elim z))
    rcases h with ⟨v, rfl, n', i', y, H', Nx, hn, ry, ⟨j, rfl, l1, l2, yd⟩, c⟩ | ⟨rfl, H', I, q⟩
    · rcases hn with hn | hn
      · omega
      · exfalso
        have eS' := c.b.pin hS eS
        have W := wr (tk := s'.toks) (t := tA) r.tie c yd eS' (.inr trivial) (s'.heap.update S (Obj.mapSeq (fun _ => #[.int (k + j) 0]))) (fun b u hb e => (Heap.get?_update_other _ _ (Ne.symm hb)).trans e) ⟨0, _, Heap.get?_update_self _ eS' rfl⟩
        exact hn _ _ _ yd W.tie W.b
    · exact wpAny_pure (hR k tA s' ⟨_, H', I, q⟩)
  | succ n ih =>
    intro i k H s r
    obtain ⟨tA, cA, eS⟩ := r.tie
    refine codeAny_builtin F.entry_sum_loop ?_
    rw [Around.under_plainId F.plain_sum_loop _]
    show wpAny _ A.in1 (seqItems? (.ref S) >>= _) _ _ s
    refine wpAny_bind (wpAny_seqItems eS rfl ?_)
    show wpAny _ A.in1 (tryCatch (pyNext (.ref a)) _ >>= _) _ _ s
    refine wpAny_bind (wpAny_tryCatch (wpAny_mono (next_ge (Tie := SumAt S) hh hd ha (fun _ _ _ => SumAt.eq) r) (fun u s' h => ?_) fun _ _ z => False.elim z))
    rcases h with ⟨v, rfl, n', i', y, H', Nx, hn, ry, ⟨j, rfl, ⟨f1, f2⟩, ⟨f3, f4⟩, yd⟩, c⟩ | ⟨rfl, H', I, q⟩
    · obtain ⟨t, rfl⟩ := ry
      have eS' := c.b.pin hS eS
      have hc : ((decide (-(2 ^ 63) ≤ j) && decide (j < 2 ^ 63)) && (decide (-(2 ^ 63) ≤ k + j) && decide (k + j < 2 ^ 63))) = true := by
        simp only [Bool.and_eq_true, decide_eq_true_eq]
        exact ⟨⟨f1, f2⟩, f3, f4⟩
      show wpAny _ A.in1 (if (_ : Bool) = true then (mkInt (k + j) >>= _) else _) _ _ _
      split
      · refine wpAny_bind (wpAny_mkInt ?_)
        show wpAny _ A.in1 (updateSeq S (fun _ => #[.int (k + j) s'.toks]) >>= _) _ _ _
        refine wpAny_bind ?_
        rcases hn with hn | hn
        · obtain rfl : n' = n := by omega
          exact wpAny_updateSeq eS' rfl (wpAny_pure ⟨plainId_quiet F.plain_sum_loop _, ih i' (k + j) H' _ (wr (t := tA) r.tie c yd eS' (.inr trivial) _ (fun b u hb e => (Heap.get?_update_other _ _ (Ne.symm hb)).trans e) ⟨s'.toks, _, Heap.get?_update_self _ eS' rfl⟩)⟩)
        · exfalso
          have W := wr (tk := s'.toks) (t := tA) r.tie c yd eS' (.inr trivial) (s'.heap.update S (Obj.mapSeq (fun _ => #[.int (k + j) 0]))) (fun b u hb e => (Heap.get?_update_other _ _ (Ne.symm hb)).trans e) ⟨0, _, Heap.get?_update_self _ eS' rfl⟩
          exact hn _ _ _ yd W.tie W.b
      · rename_i hneg
        exact absurd hc hneg
    · exact wpAny_pure (hR k tA s' ⟨_, H', I, q⟩)
end
end Vg
namespace Vg
open PySem PySem.Spec PyProof.Rows L2 GxR GenW
section
variable {X : Cx} {pins : List (Addr × Obj)} {σ : L2.St} {H : Hp} {s : Shared}
theorem gen_start {scope : Scope} {own : List (Str × Nat)} {fp : List Addr} {code : Value} {h5 : Heap} {g5 : Array GenState} {tk : Nat} {m : Str → Option Value} (I : Inv X pins σ H s) (hc : X.calm = true) (ok : BlkOk X.N X.env.scope scope own) (hcell : ∀ y ∈ scope.names, y.2 ≠ .cell) (hN : X.N.Nodup) (hfp : ∀ b ∈ fp, FpOk X pins H b ∧ b < s.heap.objs.size)
    (hns : h5.Ns s.heap.objs.size m) (kp : ∀ b o, s.heap.get? b = some o → h5.get? b = some o) (hg : AllBare g5) :
    Inv (gX X s H scope (cloFrom X.env.cells scope.names []) s.heap.objs.size code builtinsNs fp) [] (wipe σ (own.map (·.2))) H { s with heap := h5, gens := g5, toks := tk } := by
  have hfree : ∀ y ∈ scope.names, y.2 = .free → ∃ c, X.env.cells.lookup y.1 = some c := fun y hy e => by
    rcases ok.free y hy e with k | k
    · exact I.ok.has _ (.inl k)
    · exact I.ok.has _ (.inr k)
  have cm : ∀ {y c}, (y, c) ∈ cloFrom X.env.cells scope.names [] → X.env.cells.lookup y = some c ∧ c < s.heap.objs.size := fun {y c} hm => by
    rcases cloFrom_mem hm with hm | ⟨h1, rfl⟩
    · cases hm
    · obtain ⟨c, hc⟩ := hfree _ h1 rfl
      rw [hc]
      obtain ⟨w, z⟩ := I.cell _ _ hc
      exact ⟨rfl, z.lt⟩
  have mem : ∀ {y c}, (cloFrom X.env.cells scope.names []).lookup y = some c → X.env.cells.lookup y = some c ∧ c < s.heap.objs.size := fun {y c} e => cm (PySem.mem_of_lookup e)
  have look : ∀ {y}, scope.names.lookup y = some .free → ∃ c, (cloFrom X.env.cells scope.names []).lookup y = some c ∧ X.env.cells.lookup y = some c := fun {y} hl => by
    have hy : (y, NameKind.free) ∈ scope.names := PySem.mem_of_lookup hl
    obtain ⟨c', e'⟩ := mem_lookup (cloFrom_has (cells := X.env.cells) (acc := []) hy)
    exact ⟨c', e', (mem e').1⟩
  have okB : (gX X s H scope (cloFrom X.env.cells scope.names []) s.heap.objs.size code builtinsNs fp).Ok := by
    refine ⟨I.ok.mod, ok.kind, I.ok.glob, rfl, Nat.le_refl _, fun y z c e1 e2 => I.ok.inj y z c (mem e1).1 (mem e2).1, fun y hy => ?_, fun y c z e => (by cases z), fun _ => I.ok.hd hc, ?_, .inr ⟨rfl, rfl⟩, fun b hb => ⟨Nat.ne_of_lt (hfp b hb).2, fun y c e z => (hfp b hb).1.2.2.2.2.1 y c (mem e).1 z⟩, I.bs, Nat.le_trans I.ok.bsz I.sz, fun b o e hb => ?_, fun b hb z => ?_, I.stack, I.stkFree⟩
    · rcases hy with hy | hy
      · exact absurd rfl (hcell _ (PySem.mem_of_lookup (show scope.names.lookup y = some .cell from hy)))
      · obtain ⟨c, h1, _⟩ := look (show scope.names.lookup y = some .free from hy)
        exact ⟨c, h1⟩
    · show X.A.frames.map _ = _
      rw [I.ok.frames]
      rfl
    · rcases (hfp b hb).1.2.2.2.1 with z | z
      · exact I.ok.noex b o e z
      · exact absurd (Nat.lt_of_lt_of_le (Heap.lt_size e) (Nat.le_trans I.ok.bsz z)) (Nat.lt_irrefl _)
    · rcases List.mem_cons.mp (I.stkSub b z) with z | z
      · exact (hfp b hb).1.2.1 z
      · exact (hfp b hb).1.2.2.1 z
  refine ⟨okB, rfl, hg, Un.kept kp, ⟨m, hns, fun i y av e1 e2 e3 => ?_⟩, fun y c e => ?_, I.hok.fresh (Nat.le_refl _), fun y c e => I.freeC y c (mem e).1, fun p hp => absurd (show p ∈ ([] : List (Addr × Obj)) ++ [] from hp) (by simp), I.hok.kept kp, by rw [wipe_length]; exact I.len⟩
  · obtain ⟨e2, hne⟩ := wipe_some e2
    have hfr : scope.names.lookup y = some .free := by
      have e3 : Vis scope y := e3
      rcases e3 with e3 | e3 | e3
      · rcases ok.own _ (PySem.mem_of_lookup e3) (.inl rfl) with e' | e'
        · obtain ⟨p, hp, hpy⟩ := List.mem_map.mp e'
          have e4 := ok.ix p hp
          have : p.1 = y := hpy
          rw [this] at e4
          exact (hne (List.mem_map.mpr ⟨p, hp, nodup_ix hN e4 e1⟩)).elim
        · exact (e' (List.mem_of_getElem? e1)).elim
      · exact absurd rfl (hcell _ (PySem.mem_of_lookup e3))
      · exact e3
    obtain ⟨m', hn, hl⟩ := I.loc
    have hvis : Vis X.env.scope y := (ok.free _ (PySem.mem_of_lookup hfr) rfl).elim (fun k => .inr (.inl k)) (fun k => .inr (.inr k))
    obtain ⟨w, r, q⟩ := hl i y av e1 e2 hvis
    refine ⟨w, r, .inr ⟨.inr hfr, ?_⟩⟩
    obtain ⟨c, h1, h2⟩ := look hfr
    rcases q with ⟨k, _⟩ | ⟨_, c', e', z⟩
    · have k : X.env.scope.names.lookup y = some .local := k
      rcases ok.free _ (PySem.mem_of_lookup hfr) rfl with k' | k' <;> rw [show X.env.scope.names.lookup y = _ from k'] at k <;> cases k
    · rw [h2] at e'; cases e'
      exact ⟨c, h1, z.keeps kp⟩
  · obtain ⟨w, z⟩ := I.cell y c (mem e).1
    exact ⟨w, z.keeps kp⟩
end
end Vg
namespace Vg
open PySem PySem.Spec PyProof.Rows L2 GxR GenW
section
variable {Y : Cx}
theorem seg_begin {elt tg iter : Expr} {ifs : List Expr} {scope : Scope} {pos : Pos} {A : Around} {it : Addr} {fp : List Addr} {tn : Nat → Heap → Prop} {J : It} {R : GenEnd} {Z : Protocol} {n : Nat} {s₀ s : Shared} {cenv : Env}
    (T : Turn Y.prog Y.w Y.K tg J fp it tn) (st : tn 0 s.heap)
    (loop : Seg (model Y.prog Y.w) A R Z n s₀ (.compLoop (.GeneratorExp elt [⟨tg, iter, ifs, 0⟩] scope pos) 0 (.ref it) .none cenv) ((model Y.prog Y.w).den (.compLoop (.GeneratorExp elt [⟨tg, iter, ifs, 0⟩] scope pos) 0 (.ref it) .none cenv)) [] s) :
    Seg (model Y.prog Y.w) A R Z n s₀ (.compStart (.GeneratorExp elt [⟨tg, iter, ifs, 0⟩] scope pos) 0 (.ref it) .none cenv) ((model Y.prog Y.w).den (.compStart (.GeneratorExp elt [⟨tg, iter, ifs, 0⟩] scope pos) 0 (.ref it) .none cenv)) [] s := by
  show Seg _ A _ _ _ s₀ _ ((compStart (.GeneratorExp elt [⟨tg, iter, ifs, 0⟩] scope pos) 0 (.ref it) .none cenv).onRaise (leaving cenv)) [] s
  unfold compStart
  rw [Sem.onRaise_eq_wrap]
  show Seg _ A _ _ _ s₀ _ ((ask >>= _).wrap _ _ _ _) [] s
  refine seg_bind_wrap (wpAny_askSetting ?_)
  split
  · exact seg_again rfl loop
  · first
      | exact seg_bind_wrap (wpAny_rule (seg_bind_wrap (wpAny_standAt (seg_bind_wrap (T.self _ 0 s _ _ st (seg_again rfl loop))))))
      | (refine seg_bind_wrap (wpAny_rule ?_); show Seg _ A _ _ _ s₀ _ ((standAt iter.pos >>= _).wrap _ _ _ _) [] s; exact seg_bind_wrap (wpAny_standAt (seg_bind_wrap (T.self _ 0 s _ _ st (seg_again rfl loop)))))
end
section
variable {X : Cx} {pins : List (Addr × Obj)} {σ : L2.St} {H : Hp} {s : Shared} {κ : Type}
/-- a turn of the expression -/
def Turns (g : TG) (tt : TT) (te : TE) (vs : List Nat) (σ : L2.St) (J : It) (Yd : κ → V → Hp → (κ → Hp → Prop) → Prop) (Qf : κ → Hp → Prop) (W : Nat → Nat → κ → Hp → Prop) : Prop :=
  ∀ i m k H, W i m k H → (J.stop i H ∧ Qf k H) ∨ (J.go i H ∧ ∃ Nx : κ → Hp → Prop, (∀ k' H', Nx k' H' → ∃ m', m' < m ∧ W (i + 1) m' k' H') ∧ ∀ x H', J.yld i H x H' → g x (wipe σ vs) H' fun σ2 H2 => wipe σ2 vs = wipe σ vs ∧ tt σ2 H2 fun b H3 =>
      if b = true then te σ2 H3 fun y H4 => Yd k y H4 Nx else Nx k H3)
/-- the generator that was made -/
structure Made (X : Cx) (pins : List (Addr × Obj)) (σ : L2.St) (elt tg iter : Expr) (ifs : List Expr) (scope : Scope) (pos : Pos) (vs : List Nat) (J : It) (H1 H2 : Hp) (Y : Cx) (fp : List Addr) (it : Addr) (tn : Nat → Heap → Prop) (a : Addr) (g : Nat) (s5 : Shared) : Prop where
  isY : ∃ s0 cl C code, Y = gX X s0 H2 scope cl C code builtinsNs fp
  T : Turn X.prog X.w X.K tg J fp it tn
  inv : Inv Y [] (wipe σ vs) H2 s5
  st : tn 0 s5.heap
  fpn : ∀ b ∈ fp, H2 b = none
  fpl : ∀ b ∈ fp, b < Y.s_0.heap.objs.size
  ig : s5.heap.IsGen a g
  al : Y.s_0.heap.objs.size < a
  an : ∀ b, a ≤ b → H2 b = none
  aL : Y.env.locals = Y.s_0.heap.objs.size
  cel : ∀ x c, Y.env.cells.lookup x = some c → c < Y.s_0.heap.objs.size
  gs : s5.gens[g]? = some (.fresh (.compStart (.GeneratorExp elt [⟨tg, iter, ifs, 0⟩] scope pos) 0 (.ref it) .none Y.env))
  back : ∀ pl H' s', Inv Y pl (wipe σ vs) H' s' → Inv X pins σ H' s'
theorem gen_make {elt tg iter : Expr} {ifs : List Expr} {scope : Scope} {own : List (Str × Nat)} {pos : Pos} {c P : Addr} {wi : TI} {k : Nat} {Q' : Value → Shared → Prop} {R : It → Hp → Prop}
    (hr : Room k X.A) (hc : X.calm = true) (hN : X.N.Nodup) (hi : PI X tg iter wi) (ok : BlkOk X.N X.env.scope scope own) (hcell : ∀ y ∈ scope.names, y.2 ≠ .cell) (hco : scope.isCoroutine = false) (h0 : scope.names.lookup (".0" : Str) = some NameKind.local)
    (TB : TabB X.base X.mg c P) (hcode : X.env.code = .ref c) (hs : ∀ v, genFold iter X.env v = pure v) (I : Inv X pins σ H s)
    (h : wi σ H fun J H1 => TabG H1 P ∧ R J H1)
    (hQ : ∀ J H1 H2 Y fp it tn a g s5, R J H1 → Tabbed P H1 H2 → Made X pins σ elt tg iter ifs scope pos (own.map (·.2)) J H1 H2 Y fp it tn a g s5 → Q' (.ref a) s5) :
    wpAny (model X.prog X.w) X.A (eval (.GeneratorExp elt [⟨tg, iter, ifs, 0⟩] scope pos) X.env) Q' X.xe s := by
  have hfree : ∀ y ∈ scope.names, y.2 = .free → ∃ c, X.env.cells.lookup y.1 = some c := fun y hy e => by
    rcases ok.free y hy e with k | k
    · exact I.ok.has _ (.inl k)
    · exact I.ok.has _ (.inr k)
  refine wpAny_GeneratorExp_make hco (closure_ok hfree) hcell h0 ok.kind hr.depth ?_ hs
  refine thn (hi.run pins s σ H _ I h) fun xv s1 hx => thn hx fun itv s2 h2 => ?_
  obtain ⟨it, fp, tn, J, H1, rfl, I1, T, st2, f2, ⟨ps, hP, ht⟩, q⟩ := h2
  have hPs : s2.heap.get? P = some { cls := .none, data := .fields ps } := I1.hok P _ hP
  have hPlt : P < s2.heap.objs.size := Heap.lt_size hPs
  have cd : PySem.W.CodeHd s2.heap c P := TB.code.keeps I1.bk
  have hfP : ∀ b ∈ fp, b ≠ P := fun b hb e => by
    have := (f2 b hb).1
    rw [e, hP] at this
    cases this
  have cont : ∀ (code : Value) (h3 : Heap) (tk : Nat) (ps' : Array Value), Heap.ExtBut P s2.heap h3 → s2.heap.objs.size ≤ h3.objs.size → h3.get? P = some { cls := .none, data := .fields ps' } → (∃ more, ps' = ps ++ more) → TriplesOk ps'.toList →
      wpAny (model X.prog X.w) X.A (builtinsFor X.env.globals X.env.builtins) (fun bi s₄ =>
        ∀ h', h'.Ns s₄.heap.objs.size (fun y => if y = ".0" then some (.ref it) else none) → Heap.SameBut s₄.heap.objs.size (s₄.heap.push { cls := .type "frame", data := .dict #[] }) h' →
          Q' (.ref h'.objs.size) { s₄ with
            gens := s₄.gens.push (.fresh (.compStart (.GeneratorExp elt [⟨tg, iter, ifs, 0⟩] scope pos) 0 (.ref it) .none (genEnv scope (cloFrom X.env.cells scope.names []) s₄.heap.objs.size code bi X.env))),
            toks := s₄.toks + 1 + 1 + 1,
            heap := h'.push { cls := .type "generator", data := .fields #[.int s₄.gens.size 0, .str "<genexpr>" (s₄.toks + 1), .str (X.env.qual ++ "<genexpr>") (s₄.toks + 1 + 1)] } }) X.xe { s2 with heap := h3, toks := tk } := by
    intro code h3 tk ps' hx hsz hP3 hmore ht3
    obtain ⟨bm, ob, e1, e2, e3, e4, e5, e6, e7, e8⟩ := TB.bm
    obtain ⟨more, em⟩ := hmore
    have J3 := inv_tab (more := more) (h' := h3) (g' := s2.gens) (d' := s2.drawn) (t' := tk) I1 hP (fun b u hb e => hx b u hb e) (by rw [← em]; exact hP3) I1.bare
    refine wpAny_builtinsFor (m := X.mg) (by rw [I1.ok.glob]; exact (I1.mod.glob.keeps I1.bk).extBut hx TB.gP) e1 e2 (hx _ _ e4 (I1.bk _ _ e5)) e6 e7 e8 ?_
    intro h' hn' hs'
    generalize hH2 : upd H1 P (.tbl (ps ++ more)) = H2 at J3
    have f3 : ∀ b ∈ fp, FpOk X pins H2 b ∧ b < h3.objs.size := fun b hb => by
      obtain ⟨o, e, _⟩ := T.obj _ _ st2 b hb
      refine ⟨⟨?_, (f2 b hb).2⟩, Nat.lt_of_lt_of_le (Heap.lt_size e) hsz⟩
      rw [← hH2, upd_ne (hfP b hb)]
      exact (f2 b hb).1
    have hsz' : h'.objs.size = h3.objs.size + 1 := by rw [hs'.1, Heap.size_push]
    have keep' : ∀ b o, h3.get? b = some o → (h'.push { cls := .type "generator", data := .fields #[.int s2.gens.size 0, .str "<genexpr>" (tk + 1), .str (X.env.qual ++ "<genexpr>") (tk + 1 + 1)] }).get? b = some o := fun b o e =>
      Heap.get?_push_of_some _ (hs'.extBut b o (Nat.ne_of_lt (Heap.lt_size e)) (Heap.get?_push_of_some _ e))
    have I5 := gen_start (code := code) (g5 := s2.gens.push (.fresh (.compStart (.GeneratorExp elt [⟨tg, iter, ifs, 0⟩] scope pos) 0 (.ref it) .none (genEnv scope (cloFrom X.env.cells scope.names []) h3.objs.size code builtinsNs X.env)))) (tk := tk + 1 + 1 + 1) J3 hc ok hcell hN f3 (hn'.push _) keep' (I1.bare.push rfl)
    refine hQ J H1 H2 _ fp it tn _ s2.gens.size _ q ⟨⟨ps ++ more, by rw [← hH2]; exact upd_same, by rw [← em]; exact ht3⟩, fun b hb => by rw [← hH2]; exact upd_ne hb⟩ ⟨⟨_, _, _, _, rfl⟩, T, I5, ?_, fun b hb => (f3 b hb).1.1, fun b hb => (f3 b hb).2, ⟨_, _, _, Heap.get?_push_size _ rfl, rfl, rfl, rfl⟩, ?_, fun b hb => ?_, rfl, fun x c e => ?_, Array.getElem?_push_size .., fun pl H' s' I' => ?_⟩
    · exact T.keep _ _ _ st2 fun b hb o e => keep' b o (hx b o (hfP b hb) e)
    · show h3.objs.size < h'.objs.size
      omega
    · have hb : h'.objs.size ≤ b := hb
      exact J3.hok.fresh (show h3.objs.size ≤ b from by omega)
    · have e : (cloFrom X.env.cells scope.names []).lookup x = some c := e
      rcases cloFrom_mem (PySem.mem_of_lookup e) with hm | ⟨h1, rfl⟩
      · cases hm
      · obtain ⟨c, hc⟩ := hfree _ h1 rfl
        rw [hc]
        obtain ⟨w, z⟩ := I1.cell _ _ hc
        exact Nat.lt_of_lt_of_le z.lt hsz
    · exact J3.call' (ch := fp) I'.os I'.base I'.hok I'.bare fun b hb => ⟨(f3 b hb).1.2.2.2.1, (f3 b hb).1.2.1, (f3 b hb).1.2.2.2.2.1, (f3 b hb).1.2.2.2.2.2⟩
  refine ⟨I1.nolimit, ?_⟩
  cases hf : codeAmong pos ps.toList with
  | none =>
    refine wpAny_genexprCodeX hcode (cd.code hPs ht) (cd.tab hPs) hf fun c' h' tk hx hge hlt hco' _ htab' _ => ?_
    obtain ⟨o1, vs, f1, tf, fl, tg, inF, tx, tt, op, _, _, _, _, _, _, _, _, _, htr, _⟩ := hco'
    exact cont _ h' tk _ hx (Nat.le_trans hge (Nat.le_of_lt hlt)) htab'.2 ⟨_, rfl⟩ htr
  | some cv =>
    refine wpAny_genexprCode_hit hcode (cd.code hPs ht) hf ?_
    exact cont cv s2.heap s2.toks ps (Heap.ExtBut.refl _ _) (Nat.le_refl _) hPs ⟨#[], by simp⟩ ht
end
end Vg
namespace Vg
open PySem PySem.Spec PyProof.Rows L2 GxR GenW
section
variable {X : Cx}
theorem boot_all' : bootBuiltins "all" = some (.builtin "all") := by decide +kernel
theorem boot_sum' : bootBuiltins "sum" = some (.builtin "sum") := by decide +kernel
def YdAll (Qv : V → Hp → Prop) : Unit → V → Hp → (Unit → Hp → Prop) → Prop := fun _ y H Nx => ∃ b, y = .bl b ∧ if b = true then Nx () H else Qv (.bl false) H
def YdAny (Qv : V → Hp → Prop) : Unit → V → Hp → (Unit → Hp → Prop) → Prop := fun _ y H Nx => ∃ b, y = .bl b ∧ if b = true then Qv (.bl true) H else Nx () H
def YdSum : Int → V → Hp → (Int → Hp → Prop) → Prop := fun k y H Nx => ∃ j, y = .int j ∧ InLong j ∧ InLong (k + j) ∧ Nx (k + j) H
/-- all(..), any(..), sum(..) of a generator expression -/
def tGe {κ : Type} (P : Addr) (wi : TI) (g : TG) (tt : TT) (te : TE) (vs : List Nat) (k0 : κ) (Yd : VK → κ → V → Hp → (κ → Hp → Prop) → Prop) (Qf : VK → κ → Hp → Prop) : TE := fun σ H Q => wi σ H fun J H1 => TabG H1 P ∧ ∀ H2, Tabbed P H1 H2 → ∃ W : Nat → Nat → κ → Hp → Prop, (∃ m, W 0 m k0 H2) ∧ Turns g tt te vs σ J (Yd Q) (Qf Q) W
/-- what a use of a generator expression asks of the text -/
structure GeOk (X : Cx) (k : Nat) (c P : Addr) (scope : Scope) (own : List (Str × Nat)) : Prop where
  room : Room k X.A
  calm : X.calm = true
  nd : X.N.Nodup
  blk : BlkOk X.N X.env.scope scope own
  cell : ∀ y ∈ scope.names, y.2 ≠ .cell
  co : scope.isCoroutine = false
  dot : scope.names.lookup (".0" : Str) = some NameKind.local
  tab : TabB X.base X.mg c P
  code : X.env.code = .ref c
variable {elt tg iter : Expr} {ifs : List Expr} {scope : Scope} {own : List (Str × Nat)} {p pos gpos : Pos} {c P : Addr} {wi : TI} {g : TG} {tt : TT} {te : TE} {k : Nat}
theorem Made.btw {pins : List (Addr × Obj)} {σ : L2.St} {vs : List Nat} {J : It} {H1 H2 : Hp} {Y : Cx} {fp KL : List Addr} {it : Addr} {tn : Nat → Heap → Prop} {a : Addr} {gn : Nat} {s5 s' : Shared} (M : Made X pins σ elt tg iter ifs scope gpos vs J H1 H2 Y fp it tn a gn s5)
    (I' : Inv Y [] (wipe σ vs) H2 s') (kp : ∀ b o, s5.heap.get? b = some o → s'.heap.get? b = some o) (kl : ∀ b ∈ KL, a ≤ b ∧ ∃ o, s'.heap.get? b = some o ∧ ∀ v, o.data ≠ .cell v) : Btw Y KL fp tn (wipe σ vs) 0 H2 s' s' := by
  refine ⟨I'.pins_of fun q hq => ?_, M.T.keep _ _ _ M.st fun b hb o e => kp b o e, M.fpn, fun b hb => let ⟨_, o, e, _⟩ := kl b hb; ⟨o, e⟩⟩
  obtain ⟨h1, h2⟩ := of_pinsAt hq
  obtain ⟨l, o, e, d⟩ := kl _ h1
  have hal := M.al
  rw [h2] at e
  cases e
  refine ⟨h2, M.an _ l, ?_, fun hb => ?_, d⟩
  · rw [M.aL]
    exact Nat.ne_of_gt (Nat.lt_of_lt_of_le hal l)
  · obtain ⟨_, o, ho, _⟩ := I'.ok.funs.mem hb
    exact absurd (Nat.lt_trans (Nat.lt_of_lt_of_le hal l) (Heap.lt_size ho)) (Nat.lt_irrefl _)
theorem Made.nfp {pins : List (Addr × Obj)} {σ : L2.St} {vs : List Nat} {J : It} {H1 H2 : Hp} {Y : Cx} {fp : List Addr} {it : Addr} {tn : Nat → Heap → Prop} {a : Addr} {gn : Nat} {s5 : Shared} (M : Made X pins σ elt tg iter ifs scope gpos vs J H1 H2 Y fp it tn a gn s5) {b : Addr} (h : a ≤ b) : b ∉ fp := fun z =>
  absurd (Nat.lt_of_lt_of_le (Nat.lt_trans (M.fpl b z) M.al) h) (Nat.lt_irrefl _)
theorem gen_data {h : Heap} {a : Addr} {g : Nat} (x : h.IsGen a g) : ∃ o, h.get? a = some o ∧ ∀ v, o.data ≠ .cell v := by
  obtain ⟨oa, nm, qn, ea, ra1, ra2, ra3⟩ := x
  exact ⟨oa, ea, fun v z => by rw [ra2] at z; cases z⟩
theorem pe_geAll (G : GeOk X k c P scope own) (hgl : Gl X "all") (hm : X.mg "all" = none) (hi : PI X tg iter wi) (hs : ∀ v, genFold iter X.env v = pure v)
    (hg : ∀ s H cl C code fp, PG (gX X s H scope cl C code builtinsNs fp) tg g) (ht : ∀ s H cl C code fp, PTs (gX X s H scope cl C code builtinsNs fp) ifs tt) (he : ∀ s H cl C code fp, PE (gX X s H scope cl C code builtinsNs fp) elt te)
    (hx : starEach [.GeneratorExp elt [⟨tg, iter, ifs, 0⟩] scope gpos] X.env = (false, eval (.GeneratorExp elt [⟨tg, iter, ifs, 0⟩] scope gpos) X.env) :: starEach [] X.env := by rfl) :
    PE X (.Call (.Name "all" p) [.GeneratorExp elt [⟨tg, iter, ifs, 0⟩] scope gpos] [] pos) (tGe P wi g tt te (own.map (·.2)) () YdAll (fun Q _ H => Q (.bl true) H)) := by
  refine ⟨fun pins s σ H Q I h => ?_⟩
  refine wpAny_Call_Name_kw (ld_blt I hgl hm boot_all' ?_)
  refine PyProof.Rows.callWith_builtin1 ?_ hx (by rfl)
  rw [hx]
  show wpAny _ _ (spliced ((false, eval (.GeneratorExp elt [⟨tg, iter, ifs, 0⟩] scope gpos) X.env) :: backTo pos (starEach [] X.env))) _ _ s
  refine Calls.spliced_cons (gen_make G.room G.calm G.nd hi G.blk G.cell G.co G.dot G.tab G.code hs I h fun J H1 H2 Y fp it tn a gn s5 hR hT M => ?_)
  refine Calls.spliced_nil ?_
  refine call_function_tree F.kind_all F.plain_all F.entry_all (F.args_all1 _) ?_
  unfold Builtin.«all»
  refine wpAny_bind (m := oneArg "all" _) (wpAny_pure ?_)
  refine wpAny_bind (wpAny_pyIter_gen M.ig ?_)
  obtain ⟨W, ⟨m, w⟩, tu⟩ := hR H2 hT
  obtain ⟨s0, cl, C, code, rfl⟩ := M.isY
  refine wpAny_pure ⟨plainId_quiet F.plain_all_loop _, ?_⟩
  have one : ∀ {s' : Shared}, s'.heap = s5.heap → ∀ b ∈ [a], a ≤ b ∧ ∃ o, s'.heap.get? b = some o ∧ ∀ v, o.data ≠ .cell v := fun e b hb => by
    rw [List.mem_singleton.mp hb, e]
    exact ⟨Nat.le_refl _, gen_data M.ig⟩
  refine all_ge (A := X.A) (Y := gX X s0 H2 scope cl C code builtinsNs fp) (KL := [a]) (fp := fp) (tn := tn) (τ := wipe σ (List.map (fun x : Str × Nat => x.2) own)) (a := a) (g := gn) (Qv := Q) (by exact G.room.hd) G.room.depth List.mem_cons_self (fun b s' hf => ?_) (m + 1) 0 H2 s5 ⟨trivial, M.btw M.inv (fun _ _ e => e) (one rfl), M.ig, _, M.gs, rfl, ?_⟩
  · obtain ⟨pl, H', I', q⟩ := hf
    exact ⟨.bl b, H', M.back pl H' s' I', rfl, q⟩
  · exact seg_begin M.T M.st (seg_turns (κ := Unit) (Tie := fun _ _ => True) (Y := gX X s0 H2 scope cl C code builtinsNs fp) (KL := [a]) (σ := σ) (vs := List.map (fun x : Str × Nat => x.2) own) (W := W) rfl rfl rfl G.co rfl rfl (fun b hb => M.nfp (one (s' := s5) rfl b hb).1) M.T (hg _ _ _ _ _ _) (ht _ _ _ _ _ _) (he _ _ _ _ _ _) tu m (m + 1) 0 () H2 _ _ (Nat.lt_succ_self _) w trivial (M.btw (inv_gens M.inv (bare_setGen M.inv.bare rfl)) (fun _ _ e => e) (one rfl)))
theorem pe_geAny (G : GeOk X k c P scope own) (hgl : Gl X "any") (hm : X.mg "any" = none) (hi : PI X tg iter wi) (hs : ∀ v, genFold iter X.env v = pure v)
    (hg : ∀ s H cl C code fp, PG (gX X s H scope cl C code builtinsNs fp) tg g) (ht : ∀ s H cl C code fp, PTs (gX X s H scope cl C code builtinsNs fp) ifs tt) (he : ∀ s H cl C code fp, PE (gX X s H scope cl C code builtinsNs fp) elt te)
    (hx : starEach [.GeneratorExp elt [⟨tg, iter, ifs, 0⟩] scope gpos] X.env = (false, eval (.GeneratorExp elt [⟨tg, iter, ifs, 0⟩] scope gpos) X.env) :: starEach [] X.env := by rfl) :
    PE X (.Call (.Name "any" p) [.GeneratorExp elt [⟨tg, iter, ifs, 0⟩] scope gpos] [] pos) (tGe P wi g tt te (own.map (·.2)) () YdAny (fun Q _ H => Q (.bl false) H)) := by
  refine ⟨fun pins s σ H Q I h => ?_⟩
  refine wpAny_Call_Name_kw (ld_blt I hgl hm boot_any ?_)
  refine PyProof.Rows.callWith_builtin1 ?_ hx (by rfl)
  rw [hx]
  show wpAny _ _ (spliced ((false, eval (.GeneratorExp elt [⟨tg, iter, ifs, 0⟩] scope gpos) X.env) :: backTo pos (starEach [] X.env))) _ _ s
  refine Calls.spliced_cons (gen_make G.room G.calm G.nd hi G.blk G.cell G.co G.dot G.tab G.code hs I h fun J H1 H2 Y fp it tn a gn s5 hR hT M => ?_)
  refine Calls.spliced_nil ?_
  refine call_function_tree F.kind_any F.plain_any F.entry_any (F.args_any1 _) ?_
  unfold Builtin.«any»
  refine wpAny_bind (m := oneArg "any" _) (wpAny_pure ?_)
  refine wpAny_bind (wpAny_pyIter_gen M.ig ?_)
  obtain ⟨W, ⟨m, w⟩, tu⟩ := hR H2 hT
  obtain ⟨s0, cl, C, code, rfl⟩ := M.isY
  refine wpAny_pure ⟨plainId_quiet F.plain_any_loop _, ?_⟩
  have one : ∀ {s' : Shared}, s'.heap = s5.heap → ∀ b ∈ [a], a ≤ b ∧ ∃ o, s'.heap.get? b = some o ∧ ∀ v, o.data ≠ .cell v := fun e b hb => by
    rw [List.mem_singleton.mp hb, e]
    exact ⟨Nat.le_refl _, gen_data M.ig⟩
  refine any_ge (A := X.A) (Y := gX X s0 H2 scope cl C code builtinsNs fp) (KL := [a]) (fp := fp) (tn := tn) (τ := wipe σ (List.map (fun x : Str × Nat => x.2) own)) (a := a) (g := gn) (Qv := Q) (by exact G.room.hd) G.room.depth List.mem_cons_self (fun b s' hf => ?_) (m + 1) 0 H2 s5 ⟨trivial, M.btw M.inv (fun _ _ e => e) (one rfl), M.ig, _, M.gs, rfl, ?_⟩
  · obtain ⟨pl, H', I', q⟩ := hf
    exact ⟨.bl b, H', M.back pl H' s' I', rfl, q⟩
  · exact seg_begin M.T M.st (seg_turns (κ := Unit) (Tie := fun _ _ => True) (Y := gX X s0 H2 scope cl C code builtinsNs fp) (KL := [a]) (σ := σ) (vs := List.map (fun x : Str × Nat => x.2) own) (W := W) rfl rfl rfl G.co rfl rfl (fun b hb => M.nfp (one (s' := s5) rfl b hb).1) M.T (hg _ _ _ _ _ _) (ht _ _ _ _ _ _) (he _ _ _ _ _ _) tu m (m + 1) 0 () H2 _ _ (Nat.lt_succ_self _) w trivial (M.btw (inv_gens M.inv (bare_setGen M.inv.bare rfl)) (fun _ _ e => e) (one rfl)))
theorem pe_geSum (G : GeOk X k c P scope own) (hgl : Gl X "sum") (hm : X.mg "sum" = none) (hi : PI X tg iter wi) (hs : ∀ v, genFold iter X.env v = pure v)
    (hg : ∀ s H cl C code fp, PG (gX X s H scope cl C code builtinsNs fp) tg g) (ht : ∀ s H cl C code fp, PTs (gX X s H scope cl C code builtinsNs fp) ifs tt) (he : ∀ s H cl C code fp, PE (gX X s H scope cl C code builtinsNs fp) elt te)
    (hx : starEach [.GeneratorExp elt [⟨tg, iter, ifs, 0⟩] scope gpos] X.env = (false, eval (.GeneratorExp elt [⟨tg, iter, ifs, 0⟩] scope gpos) X.env) :: starEach [] X.env := by rfl) :
    PE X (.Call (.Name "sum" p) [.GeneratorExp elt [⟨tg, iter, ifs, 0⟩] scope gpos] [] pos) (tGe P wi g tt te (own.map (·.2)) 0 (fun _ => YdSum) (fun Q k H => Q (.int k) H)) := by
  refine ⟨fun pins s σ H Q I h => ?_⟩
  refine wpAny_Call_Name_kw (ld_blt I hgl hm boot_sum' ?_)
  refine PyProof.Rows.callWith_builtin1 ?_ hx (by rfl)
  rw [hx]
  show wpAny _ _ (spliced ((false, eval (.GeneratorExp elt [⟨tg, iter, ifs, 0⟩] scope gpos) X.env) :: backTo pos (starEach [] X.env))) _ _ s
  refine Calls.spliced_cons (gen_make G.room G.calm G.nd hi G.blk G.cell G.co G.dot G.tab G.code hs I h fun J H1 H2 Y fp it tn a gn s5 hR hT M => ?_)
  refine Calls.spliced_nil ?_
  refine call_function_tree F.kind_sum F.plain_sum F.entry_sum (F.args_sum1 _) ?_
  unfold Builtin.«sum»
  simp only [List.length_cons, List.length_nil]
  rw [if_neg (by decide)]
  refine wpAny_bind (wpAny_of_eq (show Builtin.Builtins.bindParams "sum" ["start"] 0 { } = pure [none] from rfl) ?_)
  refine wpAny_bind (wpAny_pyIter_gen M.ig ?_)
  obtain ⟨W, ⟨m, w⟩, tu⟩ := hR H2 hT
  obtain ⟨s0, cl, C, code, rfl⟩ := M.isY
  refine wpAny_bind (wpAny_mkInt ?_)
  refine wpAny_bind (wpAny_pure ?_)
  simp only [List.forIn_cons, List.forIn_nil]
  refine wpAny_bind (wpAny_bind (wpAny_bind (wpAny_isInstance (T := "int") (b := false) (typeIs_int _ _ _) PySem.sub_int_str ?_)))
  simp only [Bool.false_eq_true, if_false]
  refine wpAny_pure (wpAny_bind (wpAny_bind (wpAny_isInstance (T := "int") (b := false) (typeIs_int _ _ _) PySem.sub_int_bytes ?_)))
  simp only [Bool.false_eq_true, if_false]
  refine wpAny_pure (wpAny_bind (wpAny_bind (wpAny_isInstance (T := "int") (b := false) (typeIs_int _ _ _) PySem.sub_int_bytearray ?_)))
  simp only [Bool.false_eq_true, if_false]
  refine wpAny_pure (wpAny_pure ?_)
  refine wpAny_bind (wpAny_newObj_type ?_)
  have igS : ∀ o : Obj, (s5.heap.push o).IsGen a gn := fun o => M.ig.push o
  have aS : a < s5.heap.objs.size := let ⟨_, _, _, e, _⟩ := M.ig; Heap.lt_size e
  refine wpAny_pure ⟨plainId_quiet F.plain_sum_loop _, ?_⟩
  generalize hob : ({ cls := .type "list", data := .seq (#[Value.int 0 s5.toks] : Array Value) } : Obj) = ob
  have I6 : ∀ tk, Inv (gX X s0 H2 scope cl C code builtinsNs fp) [] (wipe σ (List.map (fun x : Str × Nat => x.2) own)) H2 { s5 with heap := s5.heap.push ob, toks := tk } := fun tk => M.inv.kept fun b u e => Heap.get?_push_of_some _ e
  have two : ∀ b ∈ [a, s5.heap.objs.size], a ≤ b ∧ ∃ o, (s5.heap.push ob).get? b = some o ∧ ∀ v, o.data ≠ .cell v := fun b hb => by
    rcases List.mem_cons.mp hb with e | hb
    · rw [e]
      exact ⟨Nat.le_refl _, gen_data (igS _)⟩
    · rw [List.mem_singleton.mp hb]
      exact ⟨Nat.le_of_lt aS, ob, Heap.get?_push_size _ (by rw [← hob]; rfl), fun v z => by rw [← hob] at z; cases z⟩
  have tie : SumAt s5.heap.objs.size (s5.heap.push ob) 0 := ⟨s5.toks, 0, by rw [Heap.get?_push_size _ (by rw [← hob]; rfl), ← hob]⟩
  have hal : s0.heap.objs.size < a := M.al
  refine sum_ge (A := X.A) (Y := gX X s0 H2 scope cl C code builtinsNs fp) (KL := [a, s5.heap.objs.size]) (fp := fp) (tn := tn) (τ := wipe σ (List.map (fun x : Str × Nat => x.2) own)) (a := a) (g := gn) (S := s5.heap.objs.size) (Qv := Q) (by exact G.room.hd) G.room.depth rfl rfl (M.nfp (Nat.le_of_lt aS)) (Nat.ne_of_lt aS) (Nat.le_of_lt (Nat.lt_trans hal aS)) (fun i h h' => M.T.keep i h h') (fun x c e z => ?_) (fun kk t s' hf => ?_) (m + 1) 0 0 H2 _ ⟨tie, M.btw (I6 _) (fun _ _ e => Heap.get?_push_of_some _ e) two, igS _, _, M.gs, rfl, ?_⟩
  · have := M.cel x c e
    have this : c < s0.heap.objs.size := this
    rw [z] at this
    exact absurd (Nat.lt_trans this (Nat.lt_trans hal aS)) (Nat.lt_irrefl _)
  · obtain ⟨pl, H', I', q⟩ := hf
    exact ⟨.int kk, H', M.back pl H' s' I', ⟨t, rfl⟩, q⟩
  · exact seg_begin M.T (M.T.keep _ _ _ M.st fun b hb o e => Heap.get?_push_of_some _ e) (seg_turns (κ := Int) (Tie := SumAt s5.heap.objs.size) (Y := gX X s0 H2 scope cl C code builtinsNs fp) (KL := [a, s5.heap.objs.size]) (σ := σ) (vs := List.map (fun x : Str × Nat => x.2) own) (W := W) rfl rfl rfl G.co rfl rfl (fun b hb => M.nfp (two b hb).1) M.T (hg _ _ _ _ _ _) (ht _ _ _ _ _ _) (he _ _ _ _ _ _) tu m (m + 1) 0 0 H2 _ _ (Nat.lt_succ_self _) w tie (M.btw (inv_gens (I6 _) (bare_setGen (I6 0).bare rfl)) (fun _ _ e => Heap.get?_push_of_some _ e) two))
end
end Vg
/-! the tables of the defs' code objects -/
namespace Vw
open PySem PySem.Spec PyProof.Rows L2 GxR
/-- a def of the text's top: its code object, its table -/
def tabOf (K : PySem.W.Frag) (f : Addr) : Option (Addr × Addr) := match K.lookup f with
  | some ⟨_, _, .func fd, _⟩ => if (fd.name == fd.qualname) = true then (match fd.code with
    | .ref c => (match K.lookup c with
      | some ⟨_, _, .fields vs, _⟩ => (match (show Option Value from (vs : Array Value)[11]?) with
        | some (Value.ref P) => (match PySem.W.nsIn K mainGlobals fd.name with
          | some (some (.ref g)) => if g = f then some (c, P) else none
          | _ => none)
        | _ => none)
      | _ => none)
    | _ => none) else none
  | _ => none
def tabsK (K : PySem.W.Frag) : List (Addr × Addr) := K.filterMap fun p => tabOf K p.1
def Tabs (K : PySem.W.Frag) (G H : Hp) : Prop := ∀ p ∈ tabsK K, TabG H p.2 ∧ G p.2 = none
/-- what becomes of a tracked thing that is nobody's to change: it stays; a table stays a table -/
def Kp (o : HO) (u : Option HO) : Prop := u = some o ∨ ∃ ps qs, o = .tbl ps ∧ u = some (.tbl qs)
/-- what may be a holder's own -/
def mine : HO → Bool
  | .lst _ => true
  | .dK _ => true
  | _ => false
def Mine (H : Hp) (a : Addr) : Prop := ∃ o, H a = some o ∧ mine o = true
theorem Kp.mine {o : HO} {u : Option HO} (h : Kp o u) (m : Vw.mine o = true) : u = some o := by
  rcases h with h | ⟨_, _, h, _⟩
  · exact h
  · rw [h] at m
    cases m
theorem Kp.lst {vs : List V} {u : Option HO} (h : Kp (.lst vs) u) : u = some (.lst vs) := by
  rcases h with h | ⟨_, _, h, _⟩
  · exact h
  · cases h
theorem Kp.trans {o : HO} {H H' : Hp} {a : Addr} (h : Kp o (H a)) (k : ∀ u, H a = some u → Kp u (H' a)) : Kp o (H' a) := by
  rcases h with h | ⟨ps, qs, e, h⟩
  · exact k _ h
  · rcases k _ h with h2 | ⟨ps2, qs2, e2, h2⟩
    · exact .inr ⟨ps, qs, e, h2⟩
    · exact .inr ⟨ps, qs2, e, h2⟩
theorem Kp.upd {o u : HO} {H : Hp} {a p : Addr} (h : Kp o (H a)) (hp : a ≠ p) : Kp o (upd H p u a) := by
  rw [upd_ne hp]; exact h
theorem Kp.ne {o : HO} {H : Hp} {a p : Addr} (h : Kp o (H a)) (hp : H p = none) : a ≠ p := fun e => by
  subst e
  rw [hp] at h
  rcases h with h | ⟨_, _, _, h⟩ <;> cases h
theorem Tabs.upd {K : PySem.W.Frag} {G H : Hp} {a : Addr} {u : HO} (h : Tabs K G H) (ha : H a = none ∨ Mine H a) : Tabs K G (upd H a u) := fun p hp => by
  obtain ⟨⟨ps, e, t⟩, g⟩ := h p hp
  refine ⟨⟨ps, ?_, t⟩, g⟩
  rw [upd_ne]
  · exact e
  · intro z
    rw [z] at e
    rcases ha with ha | ⟨vs, ha, hm⟩
    · rw [ha] at e; cases e
    · rw [ha] at e
      cases e
      cases hm
theorem Tabs.grow {K : PySem.W.Frag} {G H : Hp} {a : Addr} {u u2 : HO} (h : Tabs K G H) (ha : H a = none) : Tabs K (L2.upd G a u2) (L2.upd H a u) := fun p hp => by
  refine ⟨(h.upd (.inl ha) p hp).1, ?_⟩
  rw [upd_ne]
  · exact (h p hp).2
  · intro z
    obtain ⟨⟨ps, e, t⟩, _⟩ := h p hp
    rw [z, ha] at e
    cases e
theorem Tabs.kept {K : PySem.W.Frag} {G H H' : Hp} (h : Tabs K G H) (k : ∀ a o, H a = some o → H' a = some o) : Tabs K G H' := fun p hp => by
  obtain ⟨⟨ps, e, t⟩, g⟩ := h p hp
  exact ⟨⟨ps, k _ _ e, t⟩, g⟩
theorem Tabs.tabbed {K : PySem.W.Frag} {G H H' : Hp} {P : Addr} (h : Tabs K G H) (k : Tabbed P H H') : Tabs K G H' := fun p hp => by
  refine ⟨?_, (h p hp).2⟩
  by_cases e : p.2 = P
  · rw [e]; exact k.1
  · obtain ⟨⟨ps, e1, t⟩, g⟩ := h p hp
    exact ⟨ps, by rw [k.2 _ e]; exact e1, t⟩
theorem Tabs.give {K : PySem.W.Frag} {G G' H : Hp} (h : Tabs K G H) (k : ∀ a, G a = none → ¬ Mine H a → G' a = none) : Tabs K G' H := fun p hp => by
  obtain ⟨⟨ps, e, t⟩, g⟩ := h p hp
  exact ⟨⟨ps, e, t⟩, k _ g fun ⟨vs, z, hm⟩ => by rw [e] at z; cases z; cases hm⟩
/-! ### the law's end -/
def okTabs (K : PySem.W.Frag) (q : Program) : Bool := (K.all fun p => match K.lookup p.1 with
  | some ⟨_, _, .func fd, _⟩ => (match tabOf K p.1 with
    | some t => ((recsOf q).any fun d => d.name == fd.name) && (K.lookup t.2).isNone
    | none => true)
  | _ => true)
theorem tabOf_inv {K : PySem.W.Frag} {f : Addr} {t : Addr × Addr} (h : tabOf K f = some t) : ∃ o fd oc vs sl dd e dc, K.lookup f = some o ∧ o.data = .func fd ∧ fd.code = .ref t.1 ∧ K.lookup t.1 = some oc ∧ oc.data = .fields vs ∧ vs[11]? = some (.ref t.2) ∧ PySem.W.nsIn K mainGlobals fd.name = some (some (.ref f)) ∧ sl = oc.slots ∧ dd = oc.dict ∧ e = oc.cls ∧ dc = o.dict := by
  unfold tabOf at h
  split at h
  · rename_i o1 o2 fd o3 e1
    split at h
    · split at h
      · rename_i c ec
        split at h
        · rename_i c1 c2 vs c3 e2
          split at h
          · rename_i P eP
            split at h
            · rename_i g eg
              split at h
              · rename_i hg
                subst hg
                cases h
                exact ⟨_, fd, _, vs, _, _, _, _, e1, rfl, ec, e2, rfl, eP, eg, rfl, rfl, rfl, rfl⟩
              · cases h
            · cases h
          · cases h
        · cases h
      · cases h
    · cases h
  · cases h
theorem walk_ofV {l : PySem.W.OpenLaw} {n k : Nat} {q : Program} {loose : List Str} {XP : (Str → Option Value) → Heap → Prop} {YP : World → Heap → Prop} {d : DefRec} {K : Params → PySem.W.Frag} {CX : World → CXT} {x : Str} {sp : World → Sp}
    (hn : l.most = some n) (hn2 : n ≤ sizeLine) (hdf : d.params.defaults = []) (hr : Room k callerA) (hY : ∀ (w : World) (h : Heap), YP w h → (K w.params).In h)
    (hok : ∀ w : World, okTabs (K w.params) q = true)
    (F : ∀ (w : World) (mg : Str → Option Value) (fa : Addr) (h : Heap), (K w.params).In h → h.Ns mainGlobals mg → mg d.name = some (.ref fa) →
      ∃ fd : FuncData, (∀ (s : Shared) (u : Value), BindsTo s fd ⟨[u], []⟩ [(x, u)]) ∧
        ∀ base : Heap, (K w.params).In base → base.Ns mainGlobals mg → (∀ p ∈ tabsK (K w.params), TabB base mg p.1 p.2) → FnOk l.prog w (K w.params) mg base (CX w) k fa fd [x] (sp w))
    (hsp : ∀ (w : World) (H : Hp) (a : Addr) (ns : List Int), ns.length ≤ n → (∀ z ∈ ns, Builtin.Int.intBits z ≤ 1048576) → (∀ p ∈ tabsK (K w.params), TabG H p.2) → SqL (K w.params) H a (ns.map V.int) → sp w [.ref a] H (fun v _ => v = .bl true) fun _ _ _ => False)
    (hCX : ∀ (w : World) (H : Hp) (s : Shared) (e : Value) (s' : Shared), CX w [] H s (fun _ _ _ => False) e s' → False) :
    PySem.W.WalkO q loose XP YP l.row.toRowW d [] (fun f vs => PySem.call f vs) := by
  refine Att.attach_callB hn hdf fun w s₀ s₁ mg mb fa o pm cd doc a vs ns G Y ho hd hcd hmg hobj hints hlen hbits hg => ?_
  have KX := hY w _ Y
  have own : ∀ p ∈ tabsK (K w.params), s₁.heap.get? p.2 = some { cls := .none, data := .fields #[] } ∧ (K w.params).lookup p.2 = none ∧ PySem.W.CodeHd s₁.heap p.1 p.2 := fun p hp => by
    obtain ⟨⟨f, o0⟩, hf, ht⟩ := List.mem_filterMap.mp hp
    have ht : tabOf (K w.params) f = some p := ht
    obtain ⟨o, fd, oc, us, _, _, _, _, k1, k2, k3, k4, k5, k6, k7, _⟩ := tabOf_inv ht
    have hk := List.all_eq_true.mp (hok w) _ hf
    dsimp only at hk
    rw [k1] at hk
    have hk2 : (((recsOf q).any fun d => d.name == fd.name) && ((K w.params).lookup p.2).isNone) = true := by
      obtain ⟨cl, dc, dt, sl⟩ := o
      cases k2
      dsimp only at hk
      rw [ht] at hk
      exact hk
    obtain ⟨hk3, hk4⟩ := Bool.and_eq_true_iff.mp hk2
    obtain ⟨dL, hm, hn1⟩ := List.any_eq_true.mp hk3
    have hn2 : dL.name = fd.name := beq_iff_eq.mp hn1
    have hmgf : mg fd.name = some (.ref f) := PySem.W.mg_of KX G.T.g k7
    obtain ⟨a', o', fd', c', P', h1, h2, h3, h4, h5, h6⟩ := G.T.tab dL hm
    rw [hn2, hmgf] at h1
    cases h1
    rw [KX _ _ k1] at h2
    cases h2
    rw [k2] at h3
    cases h3
    rw [k3] at h4
    cases h4
    have hd := PySem.W.CodeHd.of h5 h6
    obtain ⟨⟨oc', vc, e1, _, e3, e4⟩, hP⟩ := h6
    rw [KX _ _ k4] at e1
    cases e1
    rw [k5] at e3
    cases e3
    rw [k6] at e4
    cases e4
    exact ⟨hP, by simpa using hk4, hd⟩
  obtain ⟨fd, hb, hF⟩ := F w mg fa _ KX G.T.g hmg
  exact LamX.law_callTs (cs := tabsK (K w.params)) KX G.T.g G.T.b G.T.builtins G.T.nolimit hg (fun p hp => (own p hp).1) (fun p hp => (own p hp).2.1) (fun p hp => (own p hp).2.2) G.T.bmain hobj hints (Nat.le_trans hlen hn2) hr (fun base h1 h2 h3 => hF base h1 h2 fun p hp => let t := h3 p hp; ⟨t.code, t.bm, t.gP⟩) hb (fun H hH hS => hsp w H a ns hlen hbits (fun p hp => ⟨#[], hH p hp, trivial⟩) hS) fun H e s' => hCX w H s₁ e s'
end Vw
namespace Vw
open PySem PySem.Spec PyProof.Rows L2 GxR
theorem lookup_mem' {a : Addr} {o : Obj} : ∀ {K : PySem.W.Frag}, K.lookup a = some o → (a, o) ∈ K
  | [], h => by simp at h
  | (b, u) :: r, h => by
    rw [List.lookup_cons] at h
    split at h
    · rename_i e
      cases h
      have : a = b := by simpa using e
      rw [this]
      exact List.mem_cons_self
    · exact List.mem_cons_of_mem _ (lookup_mem' (K := r) h)
theorem tab_of {K : PySem.W.Frag} {base : Heap} {mg : Str → Option Value} {f : Addr} {oc : Value} {od : Option Addr} {fd : FuncData} {sl : Array (Option Value)} (l : K.lookup f = some ⟨oc, od, .func fd, sl⟩) (y : (tabOf K f).isSome = true) (hT : ∀ p ∈ tabsK K, TabB base mg p.1 p.2) :
    ∃ p ∈ tabsK K, fd.code = .ref p.1 ∧ TabB base mg p.1 p.2 := by
  obtain ⟨p, hp⟩ := Option.isSome_iff_exists.mp y
  have hm : p ∈ tabsK K := List.mem_filterMap.mpr ⟨_, lookup_mem' l, hp⟩
  obtain ⟨o, fd', _, _, _, _, _, _, k1, k2, k3, _⟩ := tabOf_inv hp
  rw [l] at k1
  cases k1
  cases k2
  exact ⟨p, hm, k3, hT p hm⟩
end Vw
/-! Values without the heap: data stand for what a name holds; who owns which list is told by a type. -/
namespace Vw
open PySem PySem.Spec PyProof.Rows L2

abbrev D := PyData
abbrev Sg := L2.St
inductive Ty where
  | fro | lst (t : Ty) | dct
  deriving DecidableEq
def Ty.plain : Ty → Bool
  | .fro => true
  | .lst t => t.plain
  | .dct => false

/-! ### data in a heap -/
theorem SqL_same {K : PySem.W.Frag} {H H' : Hp} {a : Addr} {xs : List V} (s : Same H H') (h : SqL K H a xs) : SqL K H' a xs := by
  rcases h with (h | ⟨o, h⟩) | h
  · exact .inl (.inl (s _ _ h))
  · exact .inl (.inr ⟨o, s _ _ h⟩)
  · exact .inr h
theorem SqT_same {K : PySem.W.Frag} {H H' : Hp} {a : Addr} {xs : List V} (s : Same H H') (h : SqT K H a xs) : SqT K H' a xs := by
  rcases h with (h | ⟨o, h⟩) | h
  · exact .inl (.inl (s _ _ h))
  · exact .inl (.inr ⟨o, s _ _ h⟩)
  · exact .inr h
mutual
/-- v stands for the data d in H -/
inductive Rp (K : PySem.W.Frag) (H : Hp) : V → PyData → Prop
  | non : Rp K H .non .none
  | bl (b : Bool) : Rp K H (.bl b) (.bool b)
  | int (i : Int) : Rp K H (.int i) (.int i)
  | str (x : Str) : Rp K H (.str x) (.str x)
  | lst {a : Addr} {xs : List V} {ds : List PyData} : Rd H a (.lst xs) → RpAll K H xs ds → Rp K H (.ref a) (.list ds)
  | tup {a : Addr} {xs : List V} {ds : List PyData} : SqT K H a xs → RpAll K H xs ds → Rp K H (.ref a) (.tuple ds)
inductive RpAll (K : PySem.W.Frag) (H : Hp) : List V → List PyData → Prop
  | nil : RpAll K H [] []
  | cons {v : V} {vs : List V} {d : PyData} {ds : List PyData} : Rp K H v d → RpAll K H vs ds → RpAll K H (v :: vs) (d :: ds)
end
mutual
theorem Rp.dp {K : PySem.W.Frag} {H : Hp} : ∀ (d : PyData) (v : V), Rp K H v d → Dp K H v d
  | .none, _, h => by cases h; exact .non
  | .bool _, _, h => by cases h; exact .bl _
  | .int _, _, h => by cases h; exact .int _
  | .str _, _, h => by cases h; exact .str _
  | .list ds, _, h => by
    cases h with
    | lst hs ha => exact .lst (.inl hs) (RpAll.dp ds _ ha)
  | .tuple ds, _, h => by
    cases h with
    | tup hs ha => exact .tup hs (RpAll.dp ds _ ha)
  | .dict _, _, h => by cases h
theorem RpAll.dp {K : PySem.W.Frag} {H : Hp} : ∀ (ds : List PyData) (vs : List V), RpAll K H vs ds → DpAll K H vs ds
  | [], _, h => by cases h; exact .nil
  | d :: ds, _, h => by
    cases h with
    | cons h1 h2 => exact .cons (Rp.dp d _ h1) (RpAll.dp ds _ h2)
end
theorem Rd_same {H H' : Hp} {a : Addr} {u : HO} (s : Same H H') (h : Rd H a u) : Rd H' a u := by
  rcases h with h | ⟨o, h⟩
  · exact .inl (s _ _ h)
  · exact .inr ⟨o, s _ _ h⟩
mutual
theorem Rp_same {K : PySem.W.Frag} {H H' : Hp} (s : Same H H') : ∀ (d : D) (v : V), Rp K H v d → Rp K H' v d
  | .none, _, h => by cases h; exact .non
  | .bool _, _, h => by cases h; exact .bl _
  | .int _, _, h => by cases h; exact .int _
  | .str _, _, h => by cases h; exact .str _
  | .list ds, _, h => by
    cases h with
    | lst hs ha => exact .lst (Rd_same s hs) (RpAll_same s ds _ ha)
  | .tuple ds, _, h => by
    cases h with
    | tup hs ha => exact .tup (SqT_same s hs) (RpAll_same s ds _ ha)
  | .dict _, _, h => by cases h
theorem RpAll_same {K : PySem.W.Frag} {H H' : Hp} (s : Same H H') : ∀ (ds : List D) (vs : List V), RpAll K H vs ds → RpAll K H' vs ds
  | [], _, h => by cases h; exact .nil
  | d :: ds, _, h => by
    cases h with
    | cons h1 h2 => exact .cons (Rp_same s d _ h1) (RpAll_same s ds _ h2)
end
theorem RpAll.len {K : PySem.W.Frag} {H : Hp} : ∀ {vs : List V} {ds : List D}, RpAll K H vs ds → vs.length = ds.length
  | _, _, .nil => rfl
  | _, _, .cons _ h => by
    show _ + 1 = _ + 1
    rw [h.len]
theorem RpAll.get {K : PySem.W.Frag} {H : Hp} : ∀ {vs : List V} {ds : List D} {i : Nat} {d : D}, RpAll K H vs ds → ds[i]? = some d → ∃ v, vs[i]? = some v ∧ Rp K H v d
  | _, _, _, _, .nil, e => by simp at e
  | _, _, 0, _, .cons h _, e => by simp at e; subst e; exact ⟨_, rfl, h⟩
  | _, _, i + 1, d, .cons _ t, e => by
    obtain ⟨v, h1, h2⟩ := RpAll.get (i := i) (d := d) t (by simpa using e)
    exact ⟨v, by simpa using h1, h2⟩
theorem RpAll.get' {K : PySem.W.Frag} {H : Hp} : ∀ {vs : List V} {ds : List D} {i : Nat} {v : V}, RpAll K H vs ds → vs[i]? = some v → ∃ d, ds[i]? = some d ∧ Rp K H v d
  | _, _, _, _, .nil, e => by simp at e
  | _, _, 0, _, .cons h _, e => by simp at e; subst e; exact ⟨_, rfl, h⟩
  | _, _, i + 1, d, .cons _ t, e => by
    obtain ⟨v, h1, h2⟩ := RpAll.get' (i := i) (v := d) t (by simpa using e)
    exact ⟨v, by simpa using h1, h2⟩
theorem RpAll.app {K : PySem.W.Frag} {H : Hp} : ∀ {vs ws : List V} {ds es : List D}, RpAll K H vs ds → RpAll K H ws es → RpAll K H (vs ++ ws) (ds ++ es)
  | _, _, _, _, .nil, h => h
  | _, _, _, _, .cons h t, h' => .cons h (t.app h')
theorem RpAll.take {K : PySem.W.Frag} {H : Hp} : ∀ {vs : List V} {ds : List D} (n : Nat), RpAll K H vs ds → RpAll K H (vs.take n) (ds.take n)
  | _, _, 0, _ => .nil
  | _, _, _ + 1, .nil => .nil
  | _, _, n + 1, .cons h t => .cons h (t.take n)
theorem RpAll.drop {K : PySem.W.Frag} {H : Hp} : ∀ {vs : List V} {ds : List D} (n : Nat), RpAll K H vs ds → RpAll K H (vs.drop n) (ds.drop n)
  | _, _, 0, h => h
  | _, _, _ + 1, .nil => .nil
  | _, _, n + 1, .cons _ t => t.drop n
theorem RpAll.set {K : PySem.W.Frag} {H : Hp} {v : V} {d : D} (hd : Rp K H v d) : ∀ {vs : List V} {ds : List D} (i : Nat), RpAll K H vs ds → RpAll K H (vs.set i v) (ds.set i d)
  | _, _, _, .nil => .nil
  | _, _, 0, .cons _ t => .cons hd t
  | _, _, i + 1, .cons h t => .cons h (RpAll.set hd i t)
theorem RpAll.ints {K : PySem.W.Frag} {H : Hp} : ∀ {vs : List V} {ns : List Int}, RpAll K H vs (ns.map PyData.int) → vs = ns.map V.int
  | _, [], h => by cases h; rfl
  | _, n :: ns, h => by
    cases h with
    | cons h1 h2 =>
      cases h1
      rw [h2.ints]
      rfl
theorem RpAll.of_ints {K : PySem.W.Frag} {H : Hp} : ∀ (ns : List Int), RpAll K H (ns.map V.int) (ns.map PyData.int)
  | [] => .nil
  | n :: ns => .cons (.int n) (RpAll.of_ints ns)
theorem RpAll.bls {K : PySem.W.Frag} {H : Hp} : ∀ {vs : List V} {ns : List Bool}, RpAll K H vs (ns.map PyData.bool) → vs = ns.map V.bl
  | _, [], h => by cases h; rfl
  | _, n :: ns, h => by
    cases h with
    | cons h1 h2 =>
      cases h1
      rw [h2.bls]
      rfl

/-! ### owned lists -/
def scalar : D → Bool
  | .list _ => false
  | .tuple _ => false
  | .dict _ => false
  | _ => true
theorem Rp_scalar {K : PySem.W.Frag} {H H' : Hp} : ∀ {d : D} {v : V}, scalar d = true → Rp K H v d → Rp K H' v d
  | .none, _, _, h => by cases h; exact .non
  | .bool _, _, _, h => by cases h; exact .bl _
  | .int _, _, _, h => by cases h; exact .int _
  | .str _, _, _, h => by cases h; exact .str _
  | .list _, _, e, _ => by cases e
  | .tuple _, _, e, _ => by cases e
  | .dict _, _, e, _ => by cases e
/-- item by item, each with its own addresses -/
def AllF (P : D → V → List Addr → Prop) : List D → List V → List Addr → Prop
  | [], [], F => F = []
  | d :: ds, v :: vs, F => ∃ F1 F2, F = F1 ++ F2 ∧ P d v F1 ∧ AllF P ds vs F2
  | _, _, _ => False
/-- a key's data: a number or a text -/
def kD : Key → D
  | .inl i => .int i
  | .inr x => .str x
/-- a dict's data -/
def dctD (ks : List Key) (ds : List D) : D := .dict ((ks.map kD).zip ds)
def dctK (ks : List Key) (vs : List V) : List (Key × V) := ks.zip vs
/-- v is d by the type t: what it owns stands at F, in H; all else in G -/
def Own (K : PySem.W.Frag) (G H : Hp) : Ty → D → V → List Addr → Prop
  | .fro => fun d v F => F = [] ∧ Rp K G v d
  | .lst t => fun d v F => (scalar d = true ∧ F = [] ∧ Rp K G v d) ∨ ∃ ds a vs F', d = .list ds ∧ v = .ref a ∧ F = a :: F' ∧ H a = some (.lst vs) ∧ AllF (Own K G H t) ds vs F'
  | .dct => fun d v F => (scalar d = true ∧ F = [] ∧ Rp K G v d) ∨ ∃ ks ds a vs, d = dctD ks ds ∧ v = .ref a ∧ F = [a] ∧ H a = some (.dK (dctK ks vs)) ∧ ks.length = ds.length ∧ RpAll K G vs ds
theorem AllF.mono {P P' : D → V → List Addr → Prop} : ∀ {ds : List D} {vs : List V} {F : List Addr}, (∀ d v F', (∀ a ∈ F', a ∈ F) → P d v F' → P' d v F') → AllF P ds vs F → AllF P' ds vs F
  | [], [], _, _, h => h
  | [], _ :: _, _, _, h => h.elim
  | _ :: _, [], _, _, h => h.elim
  | d :: ds, v :: vs, F, i, ⟨F1, F2, e, p, q⟩ => ⟨F1, F2, e, i _ _ _ (fun a ha => by rw [e]; exact List.mem_append_left _ ha) p, AllF.mono (fun d v F' hF => i d v F' fun a ha => by rw [e]; exact List.mem_append_right _ (hF a ha)) q⟩
theorem AllF.len {P : D → V → List Addr → Prop} : ∀ {ds : List D} {vs : List V} {F : List Addr}, AllF P ds vs F → vs.length = ds.length
  | [], [], _, _ => rfl
  | [], _ :: _, _, h => h.elim
  | _ :: _, [], _, h => h.elim
  | d :: ds, v :: vs, F, ⟨F1, F2, e, p, q⟩ => by
    show _ + 1 = _ + 1
    rw [q.len]
section
variable {K : PySem.W.Frag} {G G' H H' : Hp}
theorem Own.stay (sG : Same G G') : ∀ {t : Ty} {d : D} {v : V} {F : List Addr}, (∀ a ∈ F, H' a = H a) → Own K G H t d v F → Own K G' H' t d v F
  | .fro, d, v, F, _, ⟨e, h⟩ => ⟨e, Rp_same sG d v h⟩
  | .lst t, d, v, F, k, .inl ⟨s, e, h⟩ => .inl ⟨s, e, Rp_same sG d v h⟩
  | .lst t, d, v, F, k, .inr ⟨ds, a, vs, F', e1, e2, e3, e4, q⟩ => by
    refine .inr ⟨ds, a, vs, F', e1, e2, e3, ?_, ?_⟩
    · rw [k a (by rw [e3]; exact List.mem_cons_self)]
      exact e4
    · exact q.mono fun d v F'' hF h => Own.stay sG (fun b hb => k b (by rw [e3]; exact List.mem_cons_of_mem _ (hF b hb))) h
  | .dct, d, v, F, k, .inl ⟨s, e, h⟩ => .inl ⟨s, e, Rp_same sG d v h⟩
  | .dct, d, v, F, k, .inr ⟨ks, ds, a, vs, e1, e2, e3, e4, e5, r⟩ => .inr ⟨ks, ds, a, vs, e1, e2, e3, by rw [k a (by rw [e3]; exact List.mem_cons_self)]; exact e4, e5, RpAll_same sG ds vs r⟩
theorem AllF.mem {P : D → V → List Addr → Prop} {R : Addr → Prop} (i : ∀ d v F, P d v F → ∀ a ∈ F, R a) : ∀ {ds : List D} {vs : List V} {F : List Addr}, AllF P ds vs F → ∀ a ∈ F, R a
  | [], [], F, h, a, ha => by
    have h : F = [] := h
    rw [h] at ha
    cases ha
  | [], _ :: _, _, h, _, _ => h.elim
  | _ :: _, [], _, h, _, _ => h.elim
  | d :: ds, v :: vs, F, ⟨F1, F2, e, p, q⟩, a, ha => by
    rw [e] at ha
    rcases List.mem_append.mp ha with ha | ha
    · exact i _ _ _ p a ha
    · exact AllF.mem i q a ha
theorem Own.there : ∀ {t : Ty} {d : D} {v : V} {F : List Addr}, Own K G H t d v F → ∀ a ∈ F, Mine H a
  | .fro, d, v, F, ⟨e, _⟩, a, ha => by rw [e] at ha; cases ha
  | .lst t, d, v, F, .inl ⟨_, e, _⟩, a, ha => by rw [e] at ha; cases ha
  | .lst t, d, v, F, .inr ⟨ds, b, vs, F', e1, e2, e3, e4, q⟩, a, ha => by
    rw [e3] at ha
    rcases List.mem_cons.mp ha with rfl | ha
    · exact ⟨_, e4, rfl⟩
    · exact q.mem (fun d v F h => Own.there h) a ha
  | .dct, d, v, F, .inl ⟨_, e, _⟩, a, ha => by rw [e] at ha; cases ha
  | .dct, d, v, F, .inr ⟨ks, ds, b, vs, e1, e2, e3, e4, e5, r⟩, a, ha => by
    rw [e3] at ha
    rw [List.mem_singleton.mp ha]
    exact ⟨_, e4, rfl⟩
theorem RpAll_of {P : D → V → List Addr → Prop} : ∀ {ds : List D} {vs : List V} {F : List Addr}, (∀ d v F', (∀ a ∈ F', a ∈ F) → P d v F' → Rp K G v d) → AllF P ds vs F → RpAll K G vs ds
  | [], [], _, _, _ => .nil
  | [], _ :: _, _, _, h => h.elim
  | _ :: _, [], _, _, h => h.elim
  | d :: ds, v :: vs, F, i, ⟨F1, F2, e, p, q⟩ => .cons (i _ _ _ (fun a ha => by rw [e]; exact List.mem_append_left _ ha) p) (RpAll_of (fun d v F' hF => i d v F' fun a ha => by rw [e]; exact List.mem_append_right _ (hF a ha)) q)
/-- what was owned is given away -/
theorem Own.rp (sG : Same G G') : ∀ {t : Ty} {d : D} {v : V} {F : List Addr}, t.plain = true → (∀ a ∈ F, G' a = H a) → Own K G H t d v F → Rp K G' v d
  | .fro, d, v, F, _, _, ⟨e, h⟩ => Rp_same sG d v h
  | .lst t, d, v, F, pl, k, .inl ⟨s, e, h⟩ => Rp_same sG d v h
  | .lst t, d, v, F, pl, k, .inr ⟨ds, a, vs, F', e1, e2, e3, e4, q⟩ => by
    subst e1 e2
    refine .lst (xs := vs) (.inl ?_) ?_
    · rw [k a (by rw [e3]; exact List.mem_cons_self)]
      exact e4
    · exact RpAll_of (fun d v F'' hF h => Own.rp sG (show t.plain = true from pl) (fun b hb => k b (by rw [e3]; exact List.mem_cons_of_mem _ (hF b hb))) h) q
theorem AllF.fro : ∀ {ds : List D} {vs : List V} {F : List Addr}, AllF (Own K G H .fro) ds vs F → F = [] ∧ RpAll K G vs ds
  | [], [], _, h => ⟨h, .nil⟩
  | [], _ :: _, _, h => h.elim
  | _ :: _, [], _, h => h.elim
  | d :: ds, v :: vs, F, ⟨F1, F2, e, ⟨e1, p⟩, q⟩ => by
    obtain ⟨e2, r⟩ := q.fro
    subst e1 e2
    exact ⟨e, .cons p r⟩
theorem AllF.of_fro : ∀ {ds : List D} {vs : List V}, RpAll K G vs ds → AllF (Own K G H .fro) ds vs []
  | _, _, .nil => rfl
  | _, _, .cons h t => ⟨[], [], rfl, ⟨rfl, h⟩, AllF.of_fro t⟩
end
/-- H on F, G elsewhere -/
def join (G H : Hp) (F : List Addr) : Hp := fun a => if a ∈ F then H a else G a
theorem join_same {G H : Hp} {F : List Addr} (h : ∀ a ∈ F, G a = none) : Same G (join G H F) := fun a o e => by
  unfold join
  by_cases ha : a ∈ F
  · rw [h a ha] at e
    cases e
  · rw [if_neg ha]
    exact e
theorem join_sub {G H : Hp} {F : List Addr} (h : Same G H) : Same (join G H F) H := fun a o e => by
  unfold join at e
  by_cases ha : a ∈ F
  · rw [if_pos ha] at e
    exact e
  · rw [if_neg ha] at e
    exact h _ _ e
theorem join_in {G H : Hp} {F : List Addr} {a : Addr} (h : a ∈ F) : join G H F a = H a := by
  unfold join
  rw [if_pos h]
theorem join_out {G H : Hp} {F : List Addr} {a : Addr} (h : a ∉ F) : join G H F a = G a := by
  unfold join
  rw [if_neg h]

/-! ### slots and things held meanwhile -/
abbrev Rho := List (Option D)
structure Tm where
  t : Ty
  d : D
  v : V
def SlF (K : PySem.W.Frag) (G H : Hp) : List Ty → Rho → Sg → List Addr → Prop
  | t :: Γ, o :: ρ, s :: σ, F => ∃ F1 F2, F = F1 ++ F2 ∧ (match o with
    | none => F1 = []
    | some d => ∃ v, s = some v ∧ Own K G H t d v F1) ∧ SlF K G H Γ ρ σ F2
  | [], [], [], F => F = []
  | _, _, _, _ => False
def TmF (K : PySem.W.Frag) (G H : Hp) : List Tm → List Addr → Prop
  | [], F => F = []
  | x :: ts, F => ∃ F1 F2, F = F1 ++ F2 ∧ Own K G H x.t x.d x.v F1 ∧ TmF K G H ts F2
section
variable {K : PySem.W.Frag} {G G' H H' : Hp}
theorem SlF.stay (sG : Same G G') : ∀ {Γ : List Ty} {ρ : Rho} {σ : Sg} {F : List Addr}, (∀ a ∈ F, H' a = H a) → SlF K G H Γ ρ σ F → SlF K G' H' Γ ρ σ F
  | [], [], [], _, _, h => h
  | t :: Γ, o :: ρ, s :: σ, F, k, ⟨F1, F2, e, p, q⟩ => by
    refine ⟨F1, F2, e, ?_, SlF.stay sG (fun a ha => k a (by rw [e]; exact List.mem_append_right _ ha)) q⟩
    cases o with
    | none => exact p
    | some d =>
      obtain ⟨v, e1, p⟩ := p
      exact ⟨v, e1, p.stay sG fun a ha => k a (by rw [e]; exact List.mem_append_left _ ha)⟩
  | [], [], _ :: _, _, _, h => h.elim
  | [], _ :: _, _, _, _, h => by cases ‹Sg› <;> exact h.elim
  | _ :: _, [], _, _, _, h => by cases ‹Sg› <;> exact h.elim
  | _ :: _, _ :: _, [], _, _, h => h.elim
theorem TmF.stay (sG : Same G G') : ∀ {ts : List Tm} {F : List Addr}, (∀ a ∈ F, H' a = H a) → TmF K G H ts F → TmF K G' H' ts F
  | [], _, _, h => h
  | x :: ts, F, k, ⟨F1, F2, e, p, q⟩ => ⟨F1, F2, e, p.stay sG (fun a ha => k a (by rw [e]; exact List.mem_append_left _ ha)), TmF.stay sG (fun a ha => k a (by rw [e]; exact List.mem_append_right _ ha)) q⟩
theorem SlF.there : ∀ {Γ : List Ty} {ρ : Rho} {σ : Sg} {F : List Addr}, SlF K G H Γ ρ σ F → ∀ a ∈ F, Mine H a
  | [], [], [], F, h, a, ha => by
    have h : F = [] := h
    rw [h] at ha
    cases ha
  | t :: Γ, o :: ρ, s :: σ, F, ⟨F1, F2, e, p, q⟩, a, ha => by
    rw [e] at ha
    rcases List.mem_append.mp ha with ha | ha
    · cases o with
      | none =>
        have p : F1 = [] := p
        rw [p] at ha
        cases ha
      | some d =>
        obtain ⟨v, e1, p⟩ := p
        exact p.there a ha
    · exact SlF.there q a ha
  | [], [], _ :: _, _, h, _, _ => h.elim
  | [], _ :: _, _, _, h, _, _ => by cases ‹Sg› <;> exact h.elim
  | _ :: _, [], _, _, h, _, _ => by cases ‹Sg› <;> exact h.elim
  | _ :: _, _ :: _, [], _, h, _, _ => h.elim
theorem TmF.there : ∀ {ts : List Tm} {F : List Addr}, TmF K G H ts F → ∀ a ∈ F, Mine H a
  | [], F, h, a, ha => by
    have h : F = [] := h
    rw [h] at ha
    cases ha
  | x :: ts, F, ⟨F1, F2, e, p, q⟩, a, ha => by
    rw [e] at ha
    rcases List.mem_append.mp ha with ha | ha
    · exact p.there a ha
    · exact TmF.there q a ha
/-- a slot's part taken out -/
theorem SlF.take : ∀ {Γ : List Ty} {ρ : Rho} {σ : Sg} {F : List Addr} {i : Nat} {d : D}, SlF K G H Γ ρ σ F → ρ[i]? = some (some d) →
    ∃ t v F1 F2, Γ[i]? = some t ∧ σ[i]? = some (some v) ∧ (F1 ++ F2).Perm F ∧ Own K G H t d v F1 ∧ SlF K G H Γ (ρ.set i none) σ F2
  | [], [], [], _, _, _, _, e => by simp at e
  | t :: Γ, o :: ρ, s :: σ, F, 0, d, ⟨F1, F2, e, p, q⟩, e0 => by
    have e0 : o = some d := by simpa using e0
    subst e0
    obtain ⟨v, e1, p⟩ := p
    subst e1
    exact ⟨t, v, F1, F2, rfl, rfl, by rw [e], p, [], F2, rfl, rfl, q⟩
  | t :: Γ, o :: ρ, s :: σ, F, i + 1, d, ⟨F1, F2, e, p, q⟩, e0 => by
    obtain ⟨t', v, F3, F4, e1, e2, e3, e4, e5⟩ := SlF.take (i := i) (d := d) q (by simpa using e0)
    refine ⟨t', v, F3, F1 ++ F4, by simpa using e1, by simpa using e2, ?_, e4, F1, F4, rfl, p, e5⟩
    rw [e]
    refine List.Perm.trans ?_ (List.Perm.append_left F1 e3)
    rw [← List.append_assoc, ← List.append_assoc]
    exact List.Perm.append_right _ List.perm_append_comm
  | [], [], _ :: _, _, _, _, h, _ => h.elim
  | [], _ :: _, _, _, _, _, h, _ => by cases ‹Sg› <;> exact h.elim
  | _ :: _, [], _, _, _, _, h, _ => by cases ‹Sg› <;> exact h.elim
  | _ :: _, _ :: _, [], _, _, _, h, _ => h.elim
/-- what a slot held is let go -/
theorem SlF.drop : ∀ {Γ : List Ty} {ρ : Rho} {σ : Sg} {F : List Addr} (i : Nat) (x : Option V), SlF K G H Γ ρ σ F → ∃ F1 F2, (F1 ++ F2).Perm F ∧ SlF K G H Γ (ρ.set i none) (σ.set i x) F2
  | [], [], [], _, _, _, h => by
    have h := h
    exact ⟨[], _, List.Perm.refl _, by simpa using h⟩
  | t :: Γ, o :: ρ, s :: σ, F, 0, x, ⟨F1, F2, e, p, q⟩ => ⟨F1, F2, by rw [e], [], F2, rfl, rfl, q⟩
  | t :: Γ, o :: ρ, s :: σ, F, i + 1, x, ⟨F1, F2, e, p, q⟩ => by
    obtain ⟨F3, F4, e3, e5⟩ := SlF.drop i x q
    refine ⟨F3, F1 ++ F4, ?_, F1, F4, rfl, p, e5⟩
    rw [e]
    refine List.Perm.trans ?_ (List.Perm.append_left F1 e3)
    rw [← List.append_assoc, ← List.append_assoc]
    exact List.Perm.append_right _ List.perm_append_comm
  | [], [], _ :: _, _, _, _, h => h.elim
  | [], _ :: _, _, _, _, _, h => by cases ‹Sg› <;> exact h.elim
  | _ :: _, [], _, _, _, _, h => by cases ‹Sg› <;> exact h.elim
  | _ :: _, _ :: _, [], _, _, _, h => h.elim
/-- .. the name's value kept -/
theorem SlF.forget : ∀ {Γ : List Ty} {ρ : Rho} {σ : Sg} {F : List Addr} (i : Nat), SlF K G H Γ ρ σ F → ∃ F1 F2, (F1 ++ F2).Perm F ∧ SlF K G H Γ (ρ.set i none) σ F2
  | [], [], [], _, _, h => by
    have h := h
    exact ⟨[], _, List.Perm.refl _, by simpa using h⟩
  | t :: Γ, o :: ρ, s :: σ, F, 0, ⟨F1, F2, e, p, q⟩ => ⟨F1, F2, by rw [e], [], F2, rfl, rfl, q⟩
  | t :: Γ, o :: ρ, s :: σ, F, i + 1, ⟨F1, F2, e, p, q⟩ => by
    obtain ⟨F3, F4, e3, e5⟩ := SlF.forget i q
    refine ⟨F3, F1 ++ F4, ?_, F1, F4, rfl, p, e5⟩
    rw [e]
    refine List.Perm.trans ?_ (List.Perm.append_left F1 e3)
    rw [← List.append_assoc, ← List.append_assoc]
    exact List.Perm.append_right _ List.perm_append_comm
  | [], [], _ :: _, _, _, h => h.elim
  | [], _ :: _, _, _, _, h => by cases ‹Sg› <;> exact h.elim
  | _ :: _, [], _, _, _, h => by cases ‹Sg› <;> exact h.elim
  | _ :: _, _ :: _, [], _, _, h => h.elim
/-- a slot is filled -/
theorem SlF.put : ∀ {Γ : List Ty} {ρ : Rho} {σ : Sg} {F F1 : List Addr} {i : Nat} {t : Ty} {d : D} {v : V}, SlF K G H Γ ρ σ F → ρ[i]? = some none → Γ[i]? = some t → σ[i]? = some (some v) → Own K G H t d v F1 →
    ∃ F2, (F1 ++ F).Perm F2 ∧ SlF K G H Γ (ρ.set i (some d)) σ F2
  | [], [], [], _, _, _, _, _, _, _, e, _, _, _ => by simp at e
  | t :: Γ, o :: ρ, s :: σ, F, F1, 0, t', d, v, ⟨F3, F4, e, p, q⟩, e0, e1, e2, ow => by
    have e0 : o = none := by simpa using e0
    have e1 : t = t' := by simpa using e1
    have e2 : s = some v := by simpa using e2
    subst e0 e1 e2
    have p : F3 = [] := p
    subst p
    exact ⟨F1 ++ F4, by rw [e]; exact List.Perm.refl _, F1, F4, rfl, ⟨v, rfl, ow⟩, q⟩
  | t :: Γ, o :: ρ, s :: σ, F, F1, i + 1, t', d, v, ⟨F3, F4, e, p, q⟩, e0, e1, e2, ow => by
    obtain ⟨F5, e5, q5⟩ := SlF.put (i := i) (d := d) q (by simpa using e0) (by simpa using e1) (by simpa using e2) ow
    refine ⟨F3 ++ F5, ?_, F3, F5, rfl, p, q5⟩
    rw [e]
    refine List.Perm.trans ?_ (List.Perm.append_left F3 e5)
    rw [← List.append_assoc, ← List.append_assoc]
    exact List.Perm.append_right _ List.perm_append_comm
  | [], [], _ :: _, _, _, _, _, _, _, h, _, _, _, _ => h.elim
  | [], _ :: _, _, _, _, _, _, _, _, h, _, _, _, _ => by cases ‹Sg› <;> exact h.elim
  | _ :: _, [], _, _, _, _, _, _, _, h, _, _, _, _ => by cases ‹Sg› <;> exact h.elim
  | _ :: _, _ :: _, [], _, _, _, _, _, _, h, _, _, _, _ => h.elim
theorem SlF.lens : ∀ {Γ : List Ty} {ρ : Rho} {σ : Sg} {F : List Addr}, SlF K G H Γ ρ σ F → Γ.length = σ.length ∧ ρ.length = σ.length
  | [], [], [], _, _ => ⟨rfl, rfl⟩
  | t :: Γ, o :: ρ, s :: σ, F, ⟨F1, F2, e, p, q⟩ => by
    obtain ⟨a, b⟩ := q.lens
    exact ⟨by simp [a], by simp [b]⟩
  | [], [], _ :: _, _, h => h.elim
  | [], _ :: _, _, _, h => by cases ‹Sg› <;> exact h.elim
  | _ :: _, [], _, _, h => by cases ‹Sg› <;> exact h.elim
  | _ :: _, _ :: _, [], _, h => h.elim
end
end Vw
namespace Vw
open PySem PySem.Spec PyProof.Rows L2
/-! ### the terms -/
inductive Ar where
  | add | sub | mul | fdiv | mod | pow | shl | shr | band | bor | bxor
  deriving DecidableEq
inductive Cm where
  | lt | le | gt | ge | eq | ne
  deriving DecidableEq
inductive B1 where
  | len | tup | lst | sum | mn | mx | srt | all | any | abs | int
  deriving DecidableEq
inductive B2 where
  | mn | mx
  deriving DecidableEq
inductive Ik where
  | l | t | b | i | s | lt | tl
  deriving DecidableEq
mutual
inductive Tg where
  | n (i : Nat) | t (l : Tgs)
inductive Tgs where
  | nil | cons (a : Tg) (l : Tgs)
end
inductive Gk where
  | all | any | sum
  deriving DecidableEq
mutual
inductive E where
  | v (i : Nat) | mv (i : Nat) | k (d : D) | gl (x : Str) (d : D)
  | neg (a : E) | ar (o : Ar) (a b : E) | cm (o : Cm) (a b : E) | ch (o o2 : Cm) (a b c : E)
  | eq (ng : Bool) (a b : E) | isn (ng : Bool) (a : E)
  | no (t : T) | an (a b : E) | orr (a b : E) | ife (t : T) (a b : E)
  | tup (es : Es) | lst (es : Es)
  | tcat (a b : E) | trep (a b : E) | lcat (a b : O) | lrep (a : O) (b : E)
  | ix (o : O) (e : E) | ix2 (i : Nat) (a b : E) | slc (o : O) (lo hi : Oe)
  | b1 (f : B1) (o : O) | b2 (f : B2) (a b : E)
  | inn (ng : Bool) (a : E) (o : O)
  | ind (ng : Bool) (a b : E) | ch3 (o o2 o3 : Cm) (a b c d : E) | isi (k : Ik) (o : O) | rep (a : E) | isb (ng v : Bool) (a : E)
  | ins (ng : Bool) (a : E) (i : Nat) | ln (i : Nat) | cxe (f : Str) (es : Es)
  | call (f : Str) (as : As)
  | comp (elt : E) (tg : Tg) (it : Iv) (cd : Ot) (ws : List Nat)
  | slcl (o : O) (lo hi : Oe) | lnr (i : Nat) (a : E) | lst0 (a : E) | ltd (a b : E) | rvl (o : O) | dnw | dgt (i : Nat) (a : E) | dgd (i : Nat) (a b : E) | mmx (g : Bool) (o : O) | srr (rev : Bool) (o : O) | din (ng : Bool) (a : E) (i : Nat)
  | ge (k : Gk) (elt : E) (tg : Tg) (it : Iv) (cd : Ot) (ws : List Nat)
  | pop (i : Nat) | popat (i : Nat) (e : E)
inductive T where
  | e (a : E) | sl (i : Nat) | an (a b : T) | orr (a b : T) | no (a : T)
inductive Ot where
  | no | so (t : T)
inductive Es where
  | nil | cons (e : E) (es : Es)
inductive O where
  | e (a : E) | s (i : Nat)
inductive Oe where
  | no | so (e : E)
inductive As where
  | nil | fr (e : E) (as : As) | io (i : Nat) (as : As) | bo (i : Nat) (as : As)
inductive Iv where
  | o (o : O) | r1 (a : E) | r2 (a b : E) | r3 (a b c : E) | en (o : O) | zp (a b : E)
end
mutual
inductive Hx where
  | v (i : Nat) | k (d : D) | xf (f : Str) | tup (l : Hxs) | ise (c : Str) (b : Bool) | isf (k : Ik) (f : Str) | eq (a b : Hx) | no (a : Hx) | an (a b : Hx) | orr (a b : Hx) | ife (t a b : Hx)
inductive Hxs where
  | nil | cons (a : Hx) (l : Hxs)
end
/-- an except suite: returns -/
inductive Hs where
  | ret (a : Hx) | ifr (t a : Hx) (r : Hs)
mutual
inductive S where
  | set (i : Nat) (e : E) | unp (tg : Tg) (e : E) | par (i j : Nat) (a b : E) | aug (i : Nat) (o : Ar) (e : E)
  | ins2 (i : Nat) (a e : E) | sw2 (i : Nat) (a b e f : E) | rca (i : Nat) (a e : E) | pops (i : Nat) | apc (i : Nat) (a : E) | dpt (i : Nat) (a e : E)
  | app (i : Nat) (e : E) | sti (i : Nat) (a e : E) | sti2 (i : Nat) (a b e : E) | sti3 (i : Nat) (a b e : E)
  | ex (e : E) | ife (t : T) (a b : Ss) | for (tg : Tg) (it : Iv) (b : Ss) | wh (t : T) (b : Ss)
  | ret (e : E) | retn | brk | cnt | pas | kill (l : List Nat)
  | rse (c : Str) (ns : List Str) (es : Es) | cx (f : Str) (es : Es) | rtx (f : Str) (es : Es) | sx (i : Nat) (f : Str) (es : Es) | ifx (ng : Bool) (f : Str) (es : Es) (a b : Ss) | tr (b : Ss) (c : Str) (i : Nat) (h : Hs)
inductive Ss where
  | nil | cons (s : S) (ss : Ss) | fz (i : Nat) (ss : Ss) | reb (i : Nat) (t : Ty) (e : E) (ss : Ss) | jn (i : Nat) (z : Z) (ss : Ss) | jn2 (i j : Nat) (z : Z) (ss : Ss) | nr (i n a w : Nat) (x : E) (s : S) (c1 c2 : Nat) (ss : Ss)
/-- branches behind which slot i is frozen -/
inductive Z where
  | own (a : Ss) | fro (a : Ss) | frj (a : Ss) | frb (a : Ss) | ife (t : T) (a b : Z)
end

/-! ### what they give -/
abbrev Fs := List (Str × D)
/-- what a def that may raise gives -/
inductive Xr where
  | ret (d : D) (o : List D) | exn (c : Str) (fs : Fs)
structure Cf where
  fn : Str → List D → Option (D × List D)
  W : Nat
  fx : Str → List D → Option Xr := fun _ _ => none
inductive Rs where
  | nx (ρ : Rho) | ret (d : D) (ρ : Rho) | brk (ρ : Rho) | cnt (ρ : Rho) | exn (c : Str) (fs : Fs) (ρ : Rho)
def arD : Ar → D → D → Option D
  | .add, .int i, .int j => some (.int (i + j))
  | .sub, .int i, .int j => some (.int (i - j))
  | .mul, .int i, .int j => if (-(2 ^ 64) < i ∧ i < 2 ^ 64) ∨ (-(2 ^ 64) < j ∧ j < 2 ^ 64) then some (.int (i * j)) else none
  | .fdiv, .int i, .int j => if 0 < j ∧ j < 1073741824 then some (.int (i / j)) else none
  | .mod, .int i, .int j => if 0 < j then some (.int (i % j)) else none
  | .pow, .int i, .int j => if 0 ≤ j ∧ j ≤ 1000000 ∧ i.natAbs < 2 ^ 64 then some (.int (i ^ j.toNat)) else none
  | .shl, .int i, .int j => if 0 ≤ j ∧ j ≤ 1000000 ∧ i.natAbs < 2 ^ 64 then some (.int (i * 2 ^ j.toNat)) else none
  | .shr, .int i, .int j => if 0 ≤ j then some (.int (i / 2 ^ j.toNat)) else none
  | .band, .int i, .int j => some (.int (PySem.Builtin.bitAnd i j))
  | .bor, .int i, .int j => some (.int (PySem.Builtin.bitOr i j))
  | .bxor, .int i, .int j => some (.int (PySem.Builtin.bitXor i j))
  | _, _, _ => none
def cmI : Cm → Int → Int → Bool
  | .lt, i, j => decide (i < j)
  | .le, i, j => decide (i ≤ j)
  | .gt, i, j => decide (j < i)
  | .ge, i, j => decide (j ≤ i)
  | .eq, i, j => decide (i = j)
  | .ne, i, j => !decide (i = j)
def cmD : Cm → D → D → Option Bool
  | o, .int i, .int j => some (cmI o i j)
  | _, _, _ => none
def eqD (ng : Bool) (x y : D) : Option D := if SeqAt.shaped x = true ∧ SeqAt.shaped y = true then some (.bool (PyData.eqv x y != ng)) else none
def isNone : D → Bool
  | .none => true
  | _ => false
def truD : D → Option Bool
  | .none => some false
  | .bool b => some b
  | .int i => some (i != 0)
  | .list l => some (!l.isEmpty)
  | .tuple l => some (!l.isEmpty)
  | _ => none
def seqD : D → Option (List D)
  | .list l => some l
  | .tuple l => some l
  | _ => none
def ixL (l : List D) (d : D) : Option D := match d with
  | .int i => atI l i
  | _ => none
def ixD (x d : D) : Option D := match x with
  | .list l => ixL l d
  | .tuple l => ixL l d
  | _ => none
def intsD : List D → Option (List Int)
  | [] => some []
  | .int i :: r => (intsD r).map (i :: ·)
  | _ => none
def boolsD : List D → Option (List Bool)
  | [] => some []
  | .bool i :: r => (boolsD r).map (i :: ·)
  | _ => none
def minL : List Int → Option Int
  | [] => none
  | [x] => some x
  | x :: r => (minL r).map fun y => if y < x then y else x
def maxL : List Int → Option Int
  | [] => none
  | [x] => some x
  | x :: r => (maxL r).map fun y => if x < y then y else x
def insI (x : Int) : List Int → List Int
  | [] => [x]
  | y :: r => if x ≤ y then x :: y :: r else y :: insI x r
def sortI : List Int → List Int
  | [] => []
  | x :: r => insI x (sortI r)
def BT : Int := 4294967296
def tupD : D → Option (List Int)
  | .tuple l => intsD l
  | _ => none
def tupsD : List D → Option (List (List Int))
  | [] => some []
  | d :: r => (tupD d).bind fun t => (tupsD r).map (t :: ·)
def insT (x : List Int) : List (List Int) → List (List Int)
  | [] => [x]
  | y :: r => if TS.code BT x ≤ TS.code BT y then x :: y :: r else y :: insT x r
def sortT : List (List Int) → List (List Int)
  | [] => []
  | x :: r => insT x (sortT r)
def tOkB (d : Nat) (t : List Int) : Bool := decide (t.length = d) && t.all fun m => decide (0 ≤ m ∧ m < BT)
def tupL (t : List Int) : D := .tuple (t.map .int)
def srtD (l : List D) : Option D := match intsD l with
  | some ns => if ns.length < 64 then some (.list ((sortI ns).map .int)) else none
  | none => (tupsD l).bind fun ts => if ts.length < 64 ∧ 1 ≤ (ts.headD []).length ∧ ts.all (tOkB (ts.headD []).length) = true then some (.list ((sortT ts).map tupL)) else none
/-- alike data, few deep: they can be compared -/
def alikeB (l : List D) : Bool := l.all fun x => l.all fun y => PySem.W.alike x y
def shallow (l : List D) : Bool := l.all fun d => decide (d.depth ≤ 50)
def noNone (l : List D) : Bool := l.all fun d => match d with
  | .none => false
  | _ => true
/-- the first of the least, of the greatest (g) -/
def bestG (g : Bool) : List D → Option D
  | [] => none
  | x :: xs => if alikeB (x :: xs) = true ∧ noNone (x :: xs) = true ∧ decide (PyData.depthAll (x :: xs) ≤ 50) = true then some (if g = true then PySem.W.maxD x xs else PySem.W.minD x xs) else none
/-- what sorted can sort -/
def sortOkB (l : List D) : Bool := (l.all fun d => match d with
  | .tuple (_ :: _) => true
  | _ => false) || l.all fun d => match d with
  | .none => false
  | .tuple _ => false
  | _ => true
def sortG (rev : Bool) (l : List D) : Option D := if alikeB l = true ∧ sortOkB l = true ∧ shallow l = true then some (.list (l.mergeSort (PySem.W.dataLe rev id))) else none
def cutD (l : List D) (lo hi : Option Int) : List D := (l.drop (HT.sIx l.length 0 lo)).take (HT.sIx l.length l.length hi - HT.sIx l.length 0 lo)
/-- data as a key -/
def keyOf : D → Option Key
  | .int i => some (.inl i)
  | .str x => some (.inr x)
  | _ => none
def keysD : List D → Option (List Key)
  | [] => some []
  | d :: r => (keyOf d).bind fun k => (keysD r).map (k :: ·)
/-- what stands at a key -/
def dGet : List Key → List D → Key → Option D
  | k :: ks, d :: ds, j => if k = j then some d else dGet ks ds j
  | _, _, _ => none
/-- a key is set in its place -/
def dPutV : List Key → List D → Key → D → List D
  | k :: ks, e :: ds, j, d => if k = j then d :: dPutV ks ds j d else e :: dPutV ks ds j d
  | _, _, _, _ => []
/-- a dict's keys and values -/
def dKs : D → Option (List Key × List D)
  | .dict kvs => (keysD (kvs.map (·.1))).map fun ks => (ks, kvs.map (·.2))
  | _ => none
/-- a key is set, in its place or at the end -/
def dPut (ks : List Key) (ds : List D) (j : Key) (d : D) : D := if (dGet ks ds j).isSome = true then dctD ks (dPutV ks ds j d) else dctD (ks ++ [j]) (ds ++ [d])
def flatD : D → Bool
  | .none => true
  | .bool _ => true
  | .int _ => true
  | .str _ => true
  | _ => false
def b1D : B1 → D → Option D
  | .len, .list l => some (.int l.length)
  | .len, .tuple l => some (.int l.length)
  | .tup, .list l => some (.tuple l)
  | .tup, .tuple l => some (.tuple l)
  | .lst, .list l => some (.list l)
  | .lst, .tuple l => some (.list l)
  | .sum, .list l => (intsD l).map fun ns => .int ns.sum
  | .mn, .list l => (intsD l).bind fun ns => (minL ns).map .int
  | .mx, .list l => (intsD l).bind fun ns => (maxL ns).map .int
  | .srt, .list l => srtD l
  | .all, .list l => (boolsD l).map fun bs => .bool (bs.all id)
  | .any, .list l => (boolsD l).map fun bs => .bool (bs.any id)
  | .abs, .int i => some (.int (if i < 0 then -i else i))
  | .int, .int i => some (.int i)
  | .int, .bool b => some (.int (if b then 1 else 0))
  | _, _ => none
def b2D : B2 → D → D → Option D
  | .mn, .int i, .int j => some (.int (if j < i then j else i))
  | .mx, .int i, .int j => some (.int (if j > i then j else i))
  | _, _, _ => none
def lenOk (n : Nat) : Bool := decide (n ≤ sizeLine)
def lcatD : D → D → Option D
  | .list a, .list b => if lenOk (a.length + b.length) = true then some (.list (a ++ b)) else none
  | _, _ => none
def tcatD : D → D → Option D
  | .tuple a, .tuple b => if lenOk (a.length + b.length) = true then some (.tuple (a ++ b)) else none
  | _, _ => none
def repN (k : Nat) (l : List D) : List D := (List.replicate k l).flatten
def lrepD : D → D → Option D
  | .list a, .int k => if -(2 ^ 63) ≤ k ∧ k < 2 ^ 63 ∧ lenOk (a.length * k.toNat) = true then some (.list (repN k.toNat a)) else none
  | _, _ => none
def trepD : D → D → Option D
  | .tuple a, .int k => if a.length ≤ 1000 ∧ 0 ≤ k ∧ k ≤ 1000 then some (.tuple (repN k.toNat a)) else none
  | _, _ => none
def slcD : D → Option Int → Option Int → Option D
  | .list l, lo, hi => some (.list (cutD l lo hi))
  | .tuple l, lo, hi => some (.tuple (cutD l lo hi))
  | _, _, _ => none
def innD (ng : Bool) (a : D) (s : D) : Option D := (seqD s).bind fun l => if flatD a = true ∧ l.all flatD = true then some (.bool (l.any (fun x => PyData.eqv x a) != ng)) else none
def indD (ng : Bool) (a : D) : D → Option D
  | .list l => if SeqAt.shaped a = true ∧ SeqAt.shaped (.list l) = true then some (.bool (l.any (fun x => PyData.eqv x a) != ng)) else none
  | _ => none
def isiD : Ik → D → Option Bool
  | _, .dict _ => none
  | .l, .list _ => some true
  | .t, .tuple _ => some true
  | .b, .bool _ => some true
  | .i, .int _ => some true
  | .i, .bool _ => some true
  | .s, .str _ => some true
  | .lt, .list _ => some true
  | .lt, .tuple _ => some true
  | .tl, .list _ => some true
  | .tl, .tuple _ => some true
  | _, _ => some false
def repD : D → Option D
  | .bool true => some (.str "True")
  | .bool false => some (.str "False")
  | _ => none
def get (ρ : Rho) (i : Nat) : Option D := (ρ[i]?).bind id
def put (ρ : Rho) (i : Nat) (d : D) : Rho := ρ.set i (some d)
def wipeD (ρ : Rho) : List Nat → Rho
  | [] => ρ
  | i :: r => (wipeD ρ r).set i none
def litD : List D → Option D → Option (List D)
  | l, none => some l
  | l, some d => some (l ++ [d])
mutual
def tgD : Tg → D → Rho → Option Rho
  | .n i, d, ρ => some (put ρ i d)
  | .t l, .tuple ds, ρ => tgsD l ds ρ
  | .t l, .list ds, ρ => tgsD l ds ρ
  | .t _, _, _ => none
def tgsD : Tgs → List D → Rho → Option Rho
  | .nil, [], ρ => some ρ
  | .cons a l, d :: ds, ρ => (tgD a d ρ).bind fun ρ' => tgsD l ds ρ'
  | _, _, _ => none
end
inductive Ag where
  | d (d : D) | io (i : Nat) | bo (i : Nat)
def agD (ρ : Rho) : Ag → Option D
  | .d d => some d
  | .io i => get ρ i
  | .bo i => get ρ i
def agsD (ρ : Rho) : List Ag → Option (List D)
  | [] => some []
  | a :: r => (agD ρ a).bind fun d => (agsD ρ r).map (d :: ·)
def backD : List Ag → List D → Rho → Option Rho
  | [], [], ρ => some ρ
  | .io i :: r, d :: ds, ρ => backD r ds (put ρ i d)
  | .d _ :: r, _ :: ds, ρ => backD r ds ρ
  | .bo _ :: r, _ :: ds, ρ => backD r ds ρ
  | _, _, _ => none
def isBo : Ag → Bool
  | .bo _ => true
  | _ => false
def callD (c : Cf) (f : Str) (as : List Ag) (ρ : Rho) : Option (D × Rho) :=
  (agsD ρ as).bind fun ds => (c.fn f ds).bind fun r => if as.any isBo = true then (if scalar r.1 = true then some (r.1, ρ) else none) else (backD as r.2 ρ).map fun ρ' => (r.1, ρ')
def rngD (lo : Int) (n : Nat) : List D := (List.range n).map fun (i : Nat) => .int (lo + i)
def inR (i : Int) : Bool := decide (-(2 ^ 62) ≤ i ∧ i < 2 ^ 62)
def rngC (lo c : Int) (n : Nat) : List D := (List.range n).map fun (i : Nat) => .int (lo + i * c)
def enumD (l : List D) : List D := (List.range l.length).map fun (i : Nat) => .tuple [.int (i : Nat), l.getD i .none]
def zipD (a b : List D) : List D := (List.range (min a.length b.length)).map fun i => .tuple [a.getD i .none, b.getD i .none]
/-- what is walked, held meanwhile -/
def oeD : O → Option Nat
  | .s i => some i
  | .e _ => none
def restD : List (Nat × D) → Rho → Option Rho
  | [], ρ => some ρ
  | (i, d) :: r, ρ => (restD r ρ).bind fun ρ' => match ρ'[i]? with
    | some none => some (put ρ' i d)
    | _ => none
def forL (f : D → Rho → Option Rs) : List D → Rho → Option Rs
  | [], ρ => some (.nx ρ)
  | d :: ds, ρ => (f d ρ).bind fun r => match r with
    | .nx ρ' => forL f ds ρ'
    | .cnt ρ' => forL f ds ρ'
    | .brk ρ' => some (.nx ρ')
    | .ret d ρ' => some (.ret d ρ')
    | .exn x fs ρ' => some (.exn x fs ρ')
def whL (t : Rho → Option (Bool × Rho)) (f : Rho → Option Rs) : Nat → Rho → Option Rs
  | 0, _ => none
  | n + 1, ρ => (t ρ).bind fun b => if b.1 = true then (f b.2).bind fun r => match r with
      | .nx ρ' => whL t f n ρ'
      | .cnt ρ' => whL t f n ρ'
      | .brk ρ' => some (.nx ρ')
      | .ret d ρ' => some (.ret d ρ')
      | .exn x fs ρ' => some (.exn x fs ρ')
    else some (.nx b.2)
def compL (f : D → Rho → Option (Option D × Rho)) : List D → Rho → Option (List D × Rho)
  | [], ρ => some ([], ρ)
  | d :: ds, ρ => (f d ρ).bind fun r => (compL f ds r.2).map fun q => (match r.1 with
    | none => q.1
    | some x => x :: q.1, q.2)
def inL (k : Int) : Bool := decide (-(2 ^ 63) ≤ k) && decide (k < 2 ^ 63)
/-- all, any, sum of what a generator expression hands out -/
def geL (k : Gk) (f : D → Rho → Option (Option D × Rho)) : List D → Rho → Int → Option (D × Rho)
  | [], ρ, n => some (match k with
    | .all => .bool true
    | .any => .bool false
    | .sum => .int n, ρ)
  | d :: ds, ρ, n => (f d ρ).bind fun r => match r.1 with
    | none => geL k f ds r.2 n
    | some y => match k, y with
      | .all, .bool b => if b = true then geL k f ds r.2 n else some (.bool false, r.2)
      | .any, .bool b => if b = true then some (.bool true, r.2) else geL k f ds r.2 n
      | .sum, .int j => if inL j = true ∧ inL (n + j) = true then geL k f ds r.2 (n + j) else none
      | _, _ => none
def rsWipe (i : Nat) : Rs → Rs
  | .nx ρ => .nx (ρ.set i none)
  | .ret d ρ => .ret d (ρ.set i none)
  | .brk ρ => .brk (ρ.set i none)
  | .cnt ρ => .cnt (ρ.set i none)
  | .exn x fs ρ => .exn x fs (ρ.set i none)
/-- a list of lists: the item k -/
def llD (m : List D) (k : Nat) : Option (List D) := (m[k]?).bind fun y => match y with
  | .list l => some l
  | _ => none
def intD : Option D → Option Int
  | some (.int i) => some i
  | _ => none
/-- m[k][c] = v -/
def stD (m : List D) (k c : Nat) (v : Int) : Option (List D) := (llD m k).bind fun l => if c < l.length then some (m.set k (.list (l.set c (.int v)))) else none
/-- near = m[j]; (what ran meanwhile gave q); m[a][c1] = near[c1] + w; m[a][c2] = near[c2] -/
def nrD (i a w c1 c2 : Nat) (m j : D) (q : Rs) : Option Rho := match m, j, q with
  | .list m, .int j, .nx ρ2 => (restD [(i, .list m)] ρ2).bind fun ρ3 => (intD (get ρ3 a)).bind fun ja => (intD (get ρ3 w)).bind fun y => (ixN m.length j).bind fun k => (ixN m.length ja).bind fun ka =>
      (llD m k).bind fun l => (intD l[c1]?).bind fun p => (stD m ka c1 (p + y)).bind fun m1 => (llD m1 k).bind fun l1 => (intD l1[c2]?).bind fun u => (stD m1 ka c2 u).map fun m2 => put ρ3 i (.list m2)
  | _, _, _ => none
def rsBack (sv : List (Nat × D)) : Rs → Option Rs
  | .nx ρ => (restD sv ρ).map .nx
  | r => some r
section
variable (c : Cf)
mutual
def ev : E → Rho → Option (D × Rho)
  | .v i, ρ => (get ρ i).map fun d => (d, ρ)
  | .mv i, ρ => (get ρ i).map fun d => (d, ρ.set i none)
  | .k d, ρ => some (d, ρ)
  | .gl _ d, ρ => some (d, ρ)
  | .neg a, ρ => (ev a ρ).bind fun r => match r.1 with
    | .int i => some (.int (-i), r.2)
    | _ => none
  | .ar o a b, ρ => (ev a ρ).bind fun r => (ev b r.2).bind fun q => (arD o r.1 q.1).map fun d => (d, q.2)
  | .cm o a b, ρ => (ev a ρ).bind fun r => (ev b r.2).bind fun q => (cmD o r.1 q.1).map fun d => (.bool d, q.2)
  | .ch o o2 a b e, ρ => (ev a ρ).bind fun r => (ev b r.2).bind fun q => (cmD o r.1 q.1).bind fun t =>
      if t = true then (ev e q.2).bind fun p => (cmD o2 q.1 p.1).map fun d => (.bool d, p.2) else some (.bool false, q.2)
  | .eq ng a b, ρ => (ev a ρ).bind fun r => (ev b r.2).bind fun q => (eqD ng r.1 q.1).map fun d => (d, q.2)
  | .isn ng a, ρ => (ev a ρ).map fun r => (.bool (isNone r.1 != ng), r.2)
  | .no a, ρ => (evT a ρ).map fun r => (.bool (!r.1), r.2)
  | .an a b, ρ => (ev a ρ).bind fun r => match r.1 with
    | .bool t => if t = true then ev b r.2 else some (.bool false, r.2)
    | _ => none
  | .orr a b, ρ => (ev a ρ).bind fun r => match r.1 with
    | .bool t => if t = true then some (.bool true, r.2) else ev b r.2
    | _ => none
  | .ife t a b, ρ => (evT t ρ).bind fun r => if r.1 = true then ev a r.2 else ev b r.2
  | .tup es, ρ => (evs es ρ).bind fun r => if lenOk r.1.length = true then some (.tuple r.1, r.2) else none
  | .lst es, ρ => (evs es ρ).bind fun r => if lenOk r.1.length = true then some (.list r.1, r.2) else none
  | .tcat a b, ρ => (ev a ρ).bind fun r => (ev b r.2).bind fun q => (tcatD r.1 q.1).map fun d => (d, q.2)
  | .trep a b, ρ => (ev a ρ).bind fun r => (ev b r.2).bind fun q => (trepD r.1 q.1).map fun d => (d, q.2)
  | .lcat a b, ρ => (evO a ρ).bind fun r => (evO b r.2).bind fun q => (lateD a r.1 q.2).bind fun x => (lcatD x q.1).map fun d => (d, q.2)
  | .lrep a b, ρ => (evO a ρ).bind fun r => (ev b r.2).bind fun q => (lateD a r.1 q.2).bind fun x => (lrepD x q.1).map fun d => (d, q.2)
  | .ix a b, ρ => (evO a ρ).bind fun r => (ev b r.2).bind fun q => (lateD a r.1 q.2).bind fun x => (ixD x q.1).map fun d => (d, q.2)
  | .ix2 i a b, ρ => (get ρ i).bind fun _ => (ev a ρ).bind fun r => (ev b r.2).bind fun q => (get q.2 i).bind fun x => (ixD x r.1).bind fun y => (ixD y q.1).map fun d => (d, q.2)
  | .slc a lo hi, ρ => (evO a ρ).bind fun r => (evOe lo r.2).bind fun q => (evOe hi q.2).bind fun p => (lateD a r.1 p.2).bind fun x => (slcD x q.1 p.1).map fun d => (d, p.2)
  | .slcl a lo hi, ρ => (evO a ρ).bind fun r => (evOe lo r.2).bind fun q => (evOe hi q.2).bind fun p => (lateD a r.1 p.2).bind fun x => (match x with
    | .list l => slcD (.list l) q.1 p.1
    | _ => none).map fun d => (d, p.2)
  | .b1 f a, ρ => (evO a ρ).bind fun r => (b1D f r.1).map fun d => (d, r.2)
  | .b2 f a b, ρ => (ev a ρ).bind fun r => (ev b r.2).bind fun q => (b2D f r.1 q.1).map fun d => (d, q.2)
  | .inn ng a b, ρ => (ev a ρ).bind fun r => (evO b r.2).bind fun q => (innD ng r.1 q.1).map fun d => (d, q.2)
  | .ind ng a b, ρ => (ev a ρ).bind fun r => (ev b r.2).bind fun q => (indD ng r.1 q.1).map fun d => (d, q.2)
  | .ch3 o o2 o3 a b e f, ρ => (ev a ρ).bind fun r => (ev b r.2).bind fun q => (cmD o r.1 q.1).bind fun t =>
      if t = true then (ev e q.2).bind fun p => (cmD o2 q.1 p.1).bind fun t2 =>
        if t2 = true then (ev f p.2).bind fun p2 => (cmD o3 p.1 p2.1).map fun d => (.bool d, p2.2) else some (.bool false, p.2)
      else some (.bool false, q.2)
  | .isi k a, ρ => (evO a ρ).bind fun r => (isiD k r.1).map fun b => (.bool b, r.2)
  | .ins ng a i, ρ => (ev a ρ).bind fun r => (get r.2 i).bind fun x => (indD ng r.1 x).map fun d => (d, r.2)
  | .cxe f es, ρ => (evs es ρ).bind fun r => (c.fx f r.1).bind fun x => match x with
    | .ret d _ => some (d, r.2)
    | .exn _ _ => none
  | .ln i, ρ => (get ρ i).bind fun x => (match x with
    | .list l => some (.int l.length)
    | _ => none : Option D).map fun d => (d, ρ)
  | .isb ng v a, ρ => (ev a ρ).bind fun r => match r.1 with
    | .bool b => some (.bool (decide (b = v) != ng), r.2)
    | _ => none
  | .rep a, ρ => (ev a ρ).bind fun r => (repD r.1).map fun d => (d, r.2)
  | .call f as, ρ => (evA as ρ).bind fun r => callD c f r.1 r.2
  | .comp elt tg it cd ws, ρ => (evI it ρ).bind fun r => (compL (fun d ρ => (tgD tg d ρ).bind fun ρ1 => (evC cd ρ1).bind fun b =>
      if b.1 = true then (ev elt b.2).map fun q => (some q.1, wipeD q.2 ws) else some (none, wipeD b.2 ws)) r.1 (wipeD r.2.1 ws)).bind fun q =>
        if lenOk q.1.length = true then (restD r.2.2 q.2).map fun ρ' => (.list q.1, ρ') else none
  | .ge k elt tg it cd ws, ρ => (evI it ρ).bind fun r => (geL k (fun d ρ => (tgD tg d ρ).bind fun ρ1 => (evC cd ρ1).bind fun b =>
      if b.1 = true then (ev elt b.2).map fun q => (some q.1, wipeD q.2 ws) else some (none, wipeD b.2 ws)) r.1 (wipeD r.2.1 ws) 0).bind fun q =>
        (restD r.2.2 q.2).map fun ρ' => (q.1, ρ')
  | .lnr i a, ρ => (get ρ i).bind fun x => (ev a ρ).bind fun q => match x, q.1 with
    | .list m, .int j => (ixN m.length j).bind fun k => (m[k]?).bind fun y => match y with
      | .list l => some (.int l.length, ρ)
      | _ => none
    | _, _ => none
  | .dnw, ρ => some (dctD [] [], ρ)
  | .dgt i a, ρ => (get ρ i).bind fun _ => (ev a ρ).bind fun q => (get q.2 i).bind fun x => (dKs x).bind fun k => (keyOf q.1).bind fun j => (dGet k.1 k.2 j).map fun d => (d, q.2)
  | .dgd i a b, ρ => (get ρ i).bind fun x0 => (dKs x0).bind fun _ => (ev a ρ).bind fun q => (ev b q.2).bind fun p => (get p.2 i).bind fun x => (dKs x).bind fun k => (keyOf q.1).map fun j => ((dGet k.1 k.2 j).getD p.1, p.2)
  | .din ng a i, ρ => (ev a ρ).bind fun q => (get q.2 i).bind fun x => (dKs x).bind fun k => (keyOf q.1).map fun j => (.bool ((dGet k.1 k.2 j).isSome != ng), q.2)
  | .mmx g a, ρ => (evO a ρ).bind fun r => (seqD r.1).bind fun l => (bestG g l).map fun d => (d, r.2)
  | .srr rev a, ρ => (evO a ρ).bind fun r => match r.1 with
    | .list l => (sortG rev l).map fun d => (d, r.2)
    | _ => none
  | .rvl a, ρ => (evO a ρ).bind fun r => match r.1 with
    | .list l => some (.list l.reverse, r.2)
    | _ => none
  | .ltd a b, ρ => (ev a ρ).bind fun r => (ev b r.2).bind fun q => if PySem.W.alike r.1 q.1 = true ∧ isNone r.1 = false ∧ r.1.depth ≤ 64 then some (.bool (PySem.W.dataLt r.1 q.1), q.2) else none
  | .lst0 a, ρ => (ev a ρ).bind fun r => match r.1 with
    | .list l => (intsD l).bind fun ns => if ns.length ≤ 4000 then some (.int (PyProof.Rows.firstMet (fun i => ns.getD i 0) ns.length).length, r.2) else none
    | _ => none
  | .pop i, ρ => (get ρ i).bind fun x => match x with
    | .list l => (l[l.length - 1]?).map fun d => (d, put ρ i (.list l.dropLast))
    | _ => none
  | .popat i e, ρ => (get ρ i).bind fun x0 => match x0 with
    | .list _ => (ev e ρ).bind fun r => (get r.2 i).bind fun x => match x, r.1 with
      | .list l, .int j => if -(2 ^ 63) ≤ j ∧ j < 2 ^ 63 then (seqIndex? j l.length).bind fun k => (l[k]?).map fun d => (d, put r.2 i (.list (l.eraseIdx k))) else none
      | _, _ => none
    | _ => none
def evT : T → Rho → Option (Bool × Rho)
  | .an a b, ρ => (evT a ρ).bind fun r => if r.1 = true then evT b r.2 else some (false, r.2)
  | .orr a b, ρ => (evT a ρ).bind fun r => if r.1 = true then some (true, r.2) else evT b r.2
  | .no a, ρ => (evT a ρ).map fun r => (!r.1, r.2)
  | .sl i, ρ => (get ρ i).bind fun d => (truD d).map fun b => (b, ρ)
  | .e e, ρ => (ev e ρ).bind fun r => (truD r.1).map fun b => (b, r.2)
def evs : Es → Rho → Option (List D × Rho)
  | .nil, ρ => some ([], ρ)
  | .cons e es, ρ => (ev e ρ).bind fun r => (evs es r.2).map fun q => (r.1 :: q.1, q.2)
def evO : O → Rho → Option (D × Rho)
  | .e a, ρ => ev a ρ
  | .s i, ρ => (get ρ i).map fun d => (d, ρ)
def lateD : O → D → Rho → Option D
  | .e _, d, _ => some d
  | .s i, _, ρ => get ρ i
def evOe : Oe → Rho → Option (Option Int × Rho)
  | .no, ρ => some (none, ρ)
  | .so e, ρ => (ev e ρ).bind fun r => match r.1 with
    | .int i => some (some i, r.2)
    | _ => none
def evC : Ot → Rho → Option (Bool × Rho)
  | .no, ρ => some (true, ρ)
  | .so e, ρ => evT e ρ
def evA : As → Rho → Option (List Ag × Rho)
  | .nil, ρ => some ([], ρ)
  | .fr e as, ρ => (ev e ρ).bind fun r => (evA as r.2).map fun q => (.d r.1 :: q.1, q.2)
  | .io i as, ρ => (get ρ i).bind fun _ => (evA as ρ).map fun q => (.io i :: q.1, q.2)
  | .bo i as, ρ => (get ρ i).bind fun _ => (evA as ρ).map fun q => (.bo i :: q.1, q.2)
def evI : Iv → Rho → Option (List D × Rho × List (Nat × D))
  | .o a, ρ => (evW a ρ).bind fun r => (seqD r.1).map fun l => (l, r.2)
  | .r1 a, ρ => (ev a ρ).bind fun r => match r.1 with
    | .int j => if inR j = true then some (rngD 0 j.toNat, r.2, []) else none
    | _ => none
  | .r2 a b, ρ => (ev a ρ).bind fun r => (ev b r.2).bind fun q => match r.1, q.1 with
    | .int i, .int j => if inR i = true ∧ inR j = true then some (rngD i (j - i).toNat, q.2, []) else none
    | _, _ => none
  | .r3 a b e, ρ => (ev a ρ).bind fun r => (ev b r.2).bind fun q => (ev e q.2).bind fun p => match r.1, q.1, p.1 with
    | .int i, .int j, .int c => if inR i = true ∧ inR j = true ∧ c = -1 then some (rngC i c (i - j).toNat, p.2, []) else none
    | _, _, _ => none
  | .en a, ρ => (evW a ρ).bind fun r => (seqD r.1).map fun l => (enumD l, r.2)
  | .zp a b, ρ => (ev a ρ).bind fun r => (ev b r.2).bind fun q => match r.1, q.1 with
    | .list x, .list y => some (zipD x y, q.2, [])
    | .tuple x, .tuple y => some (zipD x y, q.2, [])
    | _, _ => none
def evW : O → Rho → Option (D × Rho × List (Nat × D))
  | .e a, ρ => (ev a ρ).map fun r => (r.1, r.2, [])
  | .s i, ρ => (get ρ i).map fun d => (d, ρ.set i none, [(i, d)])
end
/-- of an exception of the class x with the fields fs -/
def isfD (k : Ik) (d : D) : Option Bool := match k, d with
  | .i, .int _ => some true
  | .s, .str _ => some true
  | _, _ => none
mutual
def hxD (x : Str) (fs : Fs) (ρ : Rho) : Hx → Option D
  | .v i => get ρ i
  | .k d => if scalar d = true then some d else none
  | .xf f => fs.lookup f
  | .tup l => (hxsD x fs ρ l).bind fun ds => if lenOk ds.length = true then some (.tuple ds) else none
  | .ise c b => if c = x then some (.bool b) else none
  | .isf k f => (fs.lookup f).bind fun d => (isfD k d).map .bool
  | .eq a b => (hxD x fs ρ a).bind fun d => (hxD x fs ρ b).bind fun e => eqD false d e
  | .no a => (hxD x fs ρ a).bind fun d => match d with
    | .bool t => some (.bool (!t))
    | _ => none
  | .an a b => (hxD x fs ρ a).bind fun d => match d with
    | .bool t => if t = true then hxD x fs ρ b else some (.bool false)
    | _ => none
  | .orr a b => (hxD x fs ρ a).bind fun d => match d with
    | .bool t => if t = true then some (.bool true) else hxD x fs ρ b
    | _ => none
  | .ife t a b => (hxD x fs ρ t).bind fun d => match d with
    | .bool z => if z = true then hxD x fs ρ a else hxD x fs ρ b
    | _ => none
def hxsD (x : Str) (fs : Fs) (ρ : Rho) : Hxs → Option (List D)
  | .nil => some []
  | .cons a l => (hxD x fs ρ a).bind fun d => (hxsD x fs ρ l).map (d :: ·)
end
def hsD (x : Str) (fs : Fs) (ρ : Rho) : Hs → Option D
  | .ret a => hxD x fs ρ a
  | .ifr t a r => (hxD x fs ρ t).bind fun d => match d with
    | .bool z => if z = true then hxD x fs ρ a else hsD x fs ρ r
    | _ => none
/-- behind a call that may raise -/
def xcD (ρ : Rho) (k : D → Option Rs) : Xr → Option Rs
  | .ret d _ => k d
  | .exn x fs => some (.exn x fs ρ)
mutual
def exS : S → Rho → Option Rs
  | .set i e, ρ => (ev c e ρ).map fun r => .nx (put r.2 i r.1)
  | .unp tg e, ρ => (ev c e ρ).bind fun r => (tgD tg r.1 r.2).map .nx
  | .par i j a b, ρ => (ev c a ρ).bind fun r => (ev c b r.2).map fun q => .nx (put (put q.2 i r.1) j q.1)
  | .aug i o e, ρ => (get ρ i).bind fun x => (ev c e ρ).bind fun r => (arD o x r.1).map fun d => .nx (put r.2 i d)
  | .app i e, ρ => (get ρ i).bind fun x0 => match x0 with
    | .list _ => (ev c e ρ).bind fun r => (get r.2 i).bind fun x => match x with
      | .list l => if l.length < sizeLine then some (.nx (put r.2 i (.list (l ++ [r.1])))) else none
      | _ => none
    | _ => none
  | .ins2 i a e, ρ => (get ρ i).bind fun x0 => match x0 with
    | .list _ => (ev c a ρ).bind fun r => (ev c e r.2).bind fun q => (get q.2 i).bind fun x => match x, r.1 with
      | .list l, .int j => if l.length < sizeLine ∧ 0 ≤ j ∧ j < 2 ^ 63 then some (.nx (put q.2 i (.list (l.take j.toNat ++ [q.1] ++ l.drop j.toNat)))) else none
      | _, _ => none
    | _ => none
  | .sw2 i a b e f, ρ => (ev c e ρ).bind fun r1 => (ev c f r1.2).bind fun r2 => (get r2.2 i).bind fun _ => (ev c a r2.2).bind fun qa => (get qa.2 i).bind fun x => match x, qa.1 with
    | .list l, .int j => (ixN l.length j).bind fun k => (get (put qa.2 i (.list (l.set k r1.1))) i).bind fun _ => (ev c b (put qa.2 i (.list (l.set k r1.1)))).bind fun qb => (get qb.2 i).bind fun x2 => match x2, qb.1 with
      | .list l2, .int j2 => (ixN l2.length j2).map fun k2 => .nx (put qb.2 i (.list (l2.set k2 r2.1)))
      | _, _ => none
    | _, _ => none
  | .dpt i a e, ρ => (ev c e ρ).bind fun r => (get r.2 i).bind fun _ => (ev c a r.2).bind fun q => (get q.2 i).bind fun x => (dKs x).bind fun k => (keyOf q.1).bind fun j => if k.1.length < sizeLine then some (.nx (put q.2 i (dPut k.1 k.2 j r.1))) else none
  | .apc i a, ρ => (get ρ i).bind fun x => (ev c a ρ).bind fun q => match x, q.1 with
    | .list m, .int j => (ixN m.length j).bind fun k => (m[k]?).bind fun y => match y with
      | .list l => if lenOk (m.length + 1) = true then some (.nx (put ρ i (.list (m ++ [.list l])))) else none
      | _ => none
    | _, _ => none
  | .pops i, ρ => (get ρ i).bind fun x => match x with
    | .list l => if l.isEmpty = false then some (.nx (put ρ i (.list l.dropLast))) else none
    | _ => none
  | .rca i a e, ρ => (get ρ i).bind fun x => (ev c a ρ).bind fun q => (ev c e ρ).bind fun r => match x, q.1, r.1 with
    | .list m, .int j, .int n => (ixN m.length j).bind fun k => (m[k]?).bind fun y => match y with
      | .list l => if lenOk (l.length + 1) = true then some (.nx (put ρ i (.list (m.set k (.list (l ++ [.int n])))))) else none
      | _ => none
    | _, _, _ => none
  | .sti i a e, ρ => (ev c e ρ).bind fun r => (get r.2 i).bind fun _ => (ev c a r.2).bind fun q => (get q.2 i).bind fun x => match x, q.1 with
    | .list l, .int j => (ixN l.length j).map fun k => .nx (put q.2 i (.list (l.set k r.1)))
    | _, _ => none
  | .sti2 i a b e, ρ => (ev c e ρ).bind fun r => (get r.2 i).bind fun _ => (ev c a r.2).bind fun q => (ev c b q.2).bind fun p => (get p.2 i).bind fun x => match x, q.1, p.1 with
    | .list m, .int j, .int j2 => (ixN m.length j).bind fun k => (m[k]?).bind fun y => match y with
      | .list l => (ixN l.length j2).map fun k2 => .nx (put p.2 i (.list (m.set k (.list (l.set k2 r.1)))))
      | _ => none
    | _, _, _ => none
  | .sti3 i a b e, ρ => (ev c e ρ).bind fun r => (get r.2 i).bind fun _ => (ev c a r.2).bind fun q => (get q.2 i).bind fun x => (ev c b (q.2.set i none)).bind fun p => (restD [(i, x)] p.2).bind fun ρ' => match x, q.1, p.1 with
    | .list m, .int j, .int j2 => (ixN m.length j).bind fun k => (m[k]?).bind fun y => match y with
      | .list l => (ixN l.length j2).map fun k2 => .nx (put ρ' i (.list (m.set k (.list (l.set k2 r.1)))))
      | _ => none
    | _, _, _ => none
  | .ex e, ρ => (ev c e ρ).map fun r => .nx r.2
  | .ife t a b, ρ => (evT c t ρ).bind fun r => if r.1 = true then exSs a r.2 else exSs b r.2
  | .for tg it b, ρ => (evI c it ρ).bind fun r => (forL (fun d ρ => (tgD tg d ρ).bind fun ρ1 => exSs b ρ1) r.1 r.2.1).bind fun q => rsBack r.2.2 q
  | .wh t b, ρ => whL (fun ρ => evT c t ρ) (fun ρ => exSs b ρ) c.W ρ
  | .ret e, ρ => (ev c e ρ).map fun r => .ret r.1 r.2
  | .retn, ρ => some (.ret .none ρ)
  | .brk, ρ => some (.brk ρ)
  | .cnt, ρ => some (.cnt ρ)
  | .pas, ρ => some (.nx ρ)
  | .kill l, ρ => some (.nx (wipeD ρ l))
  | .rse x ns es, ρ => (evs c es ρ).bind fun r => if ns.length = r.1.length then some (.exn x (ns.zip r.1) r.2) else none
  | .cx f es, ρ => (evs c es ρ).bind fun r => (c.fx f r.1).bind (xcD r.2 fun _ => some (.nx r.2))
  | .rtx f es, ρ => (evs c es ρ).bind fun r => (c.fx f r.1).bind (xcD r.2 fun d => some (.ret d r.2))
  | .sx i f es, ρ => (evs c es ρ).bind fun r => (c.fx f r.1).bind (xcD r.2 fun d => some (.nx (put r.2 i d)))
  | .ifx ng f es a b, ρ => (evs c es ρ).bind fun r => (c.fx f r.1).bind (xcD r.2 fun d => if (isNone d != ng) = true then exSs a r.2 else exSs b r.2)
  | .tr b x i h, ρ => (exSs b ρ).bind fun r => match r with
    | .exn y fs ρ' => if y = x ∧ i < ρ'.length then (hsD y fs (ρ'.set i none) h).map fun d => .ret d (ρ'.set i none) else none
    | r => some r
def exSs : Ss → Rho → Option Rs
  | .nil, ρ => some (.nx ρ)
  | .cons s ss, ρ => (exS s ρ).bind fun r => match r with
    | .nx ρ' => exSs ss ρ'
    | r => some r
  | .fz i ss, ρ => (exSs ss ρ).map (rsWipe i)
  | .reb i _ e ss, ρ => (ev c e ρ).bind fun r => (exSs ss (put r.2 i r.1)).map (rsWipe i)
  | .jn2 i j z ss, ρ => (exZ z ρ).bind fun r => match r with
    | .nx ρ' => (exSs ss ρ').map fun q => rsWipe i (rsWipe j q)
    | r => some (rsWipe i (rsWipe j r))
  | .jn i z ss, ρ => (exZ z ρ).bind fun r => match r with
    | .nx ρ' => (exSs ss ρ').map (rsWipe i)
    | r => some (rsWipe i r)
  | .nr i n a w x s c1 c2 ss, ρ => (get ρ i).bind fun _ => (ev c x ρ).bind fun r => (get r.2 i).bind fun m => (exS s ((r.2.set i none).set n none)).bind fun q => (nrD i a w c1 c2 m r.1 q).bind fun ρ' => exSs ss ρ'
def exZ : Z → Rho → Option Rs
  | .own a, ρ => exSs a ρ
  | .fro a, ρ => exSs a ρ
  | .frj a, ρ => exSs a ρ
  | .frb a, ρ => exSs a ρ
  | .ife t a b, ρ => (evT c t ρ).bind fun r => if r.1 = true then exZ a r.2 else exZ b r.2
end
/-- a def at data: its value, its parameters' lists behind it -/
def fout : List Ty → List D → Rho → Option (List D)
  | [], [], _ => some []
  | .fro :: ts, d :: ds, _ :: ρ => (fout ts ds ρ).map (d :: ·)
  | .lst _ :: ts, _ :: ds, some d :: ρ => (fout ts ds ρ).map (d :: ·)
  | _, _, _ => none
def evF (ps : List Ty) (n : Nat) (b : Ss) (ds : List D) : Option (D × List D) :=
  (exSs c b (ds.map some ++ List.replicate (n - ds.length) none)).bind fun r => match r with
    | .nx ρ => (fout ps ds ρ).map fun o => (.none, o)
    | .ret d ρ => (fout ps ds ρ).map fun o => (d, o)
    | _ => none
/-- .. one that may raise -/
def evX (ps : List Ty) (n : Nat) (b : Ss) (ds : List D) : Option Xr :=
  (exSs c b (ds.map some ++ List.replicate (n - ds.length) none)).bind fun r => match r with
    | .nx ρ => (fout ps ds ρ).map fun o => .ret .none o
    | .ret d ρ => (fout ps ds ρ).map fun o => .ret d o
    | .exn x fs _ => some (.exn x fs)
    | _ => none
end
end Vw
namespace Vw
open PySem PySem.Spec PyProof.Rows L2
/-! ### the state of a def's body against its data -/
structure Fr where
  H0 : Hp
  G0 : Hp
  FP : List Addr
  pins : List (Nat × V)
structure FrOk (fr : Fr) (K : PySem.W.Frag) (G H : Hp) (σ : Sg) : Prop where
  keep : ∀ a o, fr.H0 a = some o → a ∉ fr.FP → Kp o (H a)
  mono : ∀ a, H a = none → fr.H0 a = none
  sG : Same fr.G0 G
  nG : ∀ a, G a ≠ none → fr.G0 a ≠ none ∨ a ∈ fr.FP ∨ fr.H0 a = none
  pin : ∀ p ∈ fr.pins, σ[p.1]? = some (some p.2)
  tab : Tabs K G H
structure SRd (fr : Fr) (K : PySem.W.Frag) (G : Hp) (F1 F2 : List Addr) (Γ : List Ty) (ρ : Rho) (σ : Sg) (ts : List Tm) (H : Hp) : Prop where
  sub : Same G H
  sl : SlF K G H Γ ρ σ F1
  tm : TmF K G H ts F2
  nd : (F1 ++ F2).Nodup
  out : ∀ a ∈ F1 ++ F2, G a = none ∧ (a ∈ fr.FP ∨ fr.H0 a = none)
  ok : FrOk fr K G H σ
def SR (fr : Fr) (K : PySem.W.Frag) (Γ : List Ty) (ρ : Rho) (σ : Sg) (ts : List Tm) (H : Hp) : Prop := ∃ G F1 F2, SRd fr K G F1 F2 Γ ρ σ ts H

theorem TmF.app {K : PySem.W.Frag} {G H : Hp} : ∀ {ts us : List Tm} {F : List Addr}, TmF K G H (ts ++ us) F → ∃ F1 F2, F = F1 ++ F2 ∧ TmF K G H ts F1 ∧ TmF K G H us F2
  | [], us, F, h => ⟨[], F, rfl, rfl, h⟩
  | x :: ts, us, F, ⟨F1, F2, e, p, q⟩ => by
    obtain ⟨F3, F4, e2, q1, q2⟩ := TmF.app (ts := ts) q
    exact ⟨F1 ++ F3, F4, by rw [e, e2, List.append_assoc], ⟨F1, F3, rfl, p, q1⟩, q2⟩
theorem TmF.of_app {K : PySem.W.Frag} {G H : Hp} : ∀ {ts us : List Tm} {F1 F2 : List Addr}, TmF K G H ts F1 → TmF K G H us F2 → TmF K G H (ts ++ us) (F1 ++ F2)
  | [], us, F1, F2, h, h2 => by
    have h : F1 = [] := h
    rw [h]
    exact h2
  | x :: ts, us, F1, F2, ⟨F3, F4, e, p, q⟩, h2 => ⟨F3, F4 ++ F2, by rw [e, List.append_assoc], p, TmF.of_app q h2⟩
theorem TmF.one {K : PySem.W.Frag} {G H : Hp} {x : Tm} {F : List Addr} (h : TmF K G H [x] F) : Own K G H x.t x.d x.v F := by
  obtain ⟨F1, F2, e, p, q⟩ := h
  have q : F2 = [] := q
  subst q
  rw [List.append_nil] at e
  subst e
  exact p
theorem TmF.of_one {K : PySem.W.Frag} {G H : Hp} {x : Tm} {F : List Addr} (h : Own K G H x.t x.d x.v F) : TmF K G H [x] F := ⟨F, [], by rw [List.append_nil], h, rfl⟩
theorem FrOk.sig {fr : Fr} {K : PySem.W.Frag} {G H : Hp} {σ σ' : Sg} (x : FrOk fr K G H σ) (h : ∀ p ∈ fr.pins, σ'[p.1]? = σ[p.1]?) : FrOk fr K G H σ' :=
  ⟨x.keep, x.mono, x.sG, x.nG, fun p hp => by rw [h p hp]; exact x.pin p hp, x.tab⟩
theorem none_of_some {H : Hp} {a : Addr} (h : H a = none) (h2 : Mine H a) : False := by
  obtain ⟨vs, e, _⟩ := h2
  rw [h] at e
  cases e
section
variable {fr : Fr} {K : PySem.W.Frag} {G H : Hp} {F1 F2 : List Addr} {Γ : List Ty} {ρ : Rho} {σ : Sg} {ts us : List Tm}
theorem SRd.there (x : SRd fr K G F1 F2 Γ ρ σ ts H) : ∀ a ∈ F1 ++ F2, Mine H a := fun a ha => by
  rcases List.mem_append.mp ha with ha | ha
  · exact x.sl.there a ha
  · exact x.tm.there a ha
/-- what is held meanwhile is let go -/
theorem SRd.drop (x : SRd fr K G F1 F2 Γ ρ σ (ts ++ us) H) : ∃ F3, SRd fr K G F1 F3 Γ ρ σ ts H := by
  obtain ⟨F3, F4, e, p, q⟩ := x.tm.app
  have sub : ∀ a ∈ F1 ++ F3, a ∈ F1 ++ F2 := fun a ha => by
    rw [e]
    rcases List.mem_append.mp ha with ha | ha
    · exact List.mem_append_left _ ha
    · exact List.mem_append_right _ (List.mem_append_left _ ha)
  refine ⟨F3, x.sub, x.sl, p, ?_, fun a ha => x.out a (sub a ha), x.ok⟩
  have nd := x.nd
  rw [e, ← List.append_assoc] at nd
  exact nd.sublist (List.sublist_append_left _ _)
theorem SR.drop (x : SR fr K Γ ρ σ (ts ++ us) H) : SR fr K Γ ρ σ ts H := by
  obtain ⟨G, F1, F2, x⟩ := x
  obtain ⟨F3, y⟩ := x.drop
  exact ⟨G, F1, F3, y⟩
/-- a thing that is known is held -/
theorem SRd.push (x : SRd fr K G F1 F2 Γ ρ σ ts H) {d : D} {v : V} (h : Rp K G v d) : SRd fr K G F1 F2 Γ ρ σ (ts ++ [⟨.fro, d, v⟩]) H := by
  refine ⟨x.sub, x.sl, ?_, x.nd, x.out, x.ok⟩
  have := x.tm.of_app (us := [⟨.fro, d, v⟩]) (F2 := []) (TmF.of_one ⟨rfl, h⟩)
  rwa [List.append_nil] at this
theorem SRd.pushS (x : SRd fr K G F1 F2 Γ ρ σ ts H) {w : Ty} {d : D} {v : V} (s : scalar d = true) (h : Rp K G v d) : SRd fr K G F1 F2 Γ ρ σ (ts ++ [⟨w, d, v⟩]) H := by
  refine ⟨x.sub, x.sl, ?_, x.nd, x.out, x.ok⟩
  have ow : Own K G H w d v [] := by
    cases w with
    | fro => exact ⟨rfl, h⟩
    | lst t => exact .inl ⟨s, rfl, h⟩
    | dct => exact .inl ⟨s, rfl, h⟩
  have := x.tm.of_app (us := [⟨w, d, v⟩]) (F2 := []) (TmF.of_one ow)
  rwa [List.append_nil] at this
/-- the last ones held, as data -/
theorem SRd.last1 {x1 : Tm} (x : SRd fr K G F1 F2 Γ ρ σ (ts ++ [x1]) H) (h1 : x1.t = .fro) : Rp K G x1.v x1.d := by
  obtain ⟨F3, F4, e, p, q⟩ := x.tm.app
  have o := q.one
  rw [h1] at o
  exact o.2
theorem SRd.last2 {x1 x2 : Tm} (x : SRd fr K G F1 F2 Γ ρ σ (ts ++ [x1] ++ [x2]) H) (h1 : x1.t = .fro) (h2 : x2.t = .fro) : Rp K G x1.v x1.d ∧ Rp K G x2.v x2.d := by
  have a := x.last1 h2
  obtain ⟨F3, y⟩ := x.drop
  exact ⟨y.last1 h1, a⟩
theorem SRd.last3 {x1 x2 x3 : Tm} (x : SRd fr K G F1 F2 Γ ρ σ (ts ++ [x1] ++ [x2] ++ [x3]) H) (h1 : x1.t = .fro) (h2 : x2.t = .fro) (h3 : x3.t = .fro) : Rp K G x1.v x1.d ∧ Rp K G x2.v x2.d ∧ Rp K G x3.v x3.d := by
  have a := x.last1 h3
  obtain ⟨F3, y⟩ := x.drop
  have b := y.last2 h1 h2
  exact ⟨b.1, b.2, a⟩
/-- H has grown by a new object at p, and G -/
theorem SRd.grow (x : SRd fr K G F1 F2 Γ ρ σ ts H) {p : Addr} {o : HO} (hp : H p = none) : SRd fr K (upd G p o) F1 F2 Γ ρ σ ts (upd H p o) ∧ Same G (upd G p o) := by
  have gp : G p = none := by
    cases e : G p with
    | none => rfl
    | some q =>
      rw [x.sub _ _ e] at hp
      cases hp
  have nm : ∀ a ∈ F1 ++ F2, a ≠ p := fun a ha e => none_of_some (e ▸ hp) (x.there a ha)
  have sG : Same G (upd G p o) := fun a q e => by
    rw [upd_ne (ne_of_none e gp)]
    exact e
  have hH : ∀ a ∈ F1 ++ F2, upd H p o a = H a := fun a ha => upd_ne (nm a ha)
  refine ⟨⟨fun a q e => ?_, x.sl.stay sG (fun a ha => hH a (List.mem_append_left _ ha)), x.tm.stay sG (fun a ha => hH a (List.mem_append_right _ ha)), x.nd, fun a ha => ?_, ?_⟩, sG⟩
  · by_cases h : a = p
    · subst h
      rw [upd_same] at e ⊢
      exact e
    · rw [upd_ne h] at e ⊢
      exact x.sub _ _ e
  · rw [upd_ne (nm a ha)]
    exact x.out a ha
  · refine ⟨fun a q e hF => ?_, fun a e => ?_, fun a q e => sG _ _ (x.ok.sG _ _ e), fun a e => ?_, x.ok.pin, x.ok.tab.grow hp⟩
    · have h := x.ok.keep a q e hF
      exact h.upd (h.ne hp)
    · by_cases h : a = p
      · subst h
        rw [upd_same] at e
        cases e
      · rw [upd_ne h] at e
        exact x.ok.mono a e
    · by_cases h : a = p
      · subst h
        exact .inr (.inr (x.ok.mono a hp))
      · rw [upd_ne h] at e
        exact x.ok.nG a e
/-- .. H alone: the new list is owned by who holds it -/
theorem SRd.fresh (x : SRd fr K G F1 F2 Γ ρ σ ts H) {p : Addr} {o : HO} (hp : H p = none) : SRd fr K G F1 F2 Γ ρ σ ts (upd H p o) ∧ G p = none ∧ p ∉ F1 ++ F2 ∧ fr.H0 p = none := by
  have gp : G p = none := by
    cases e : G p with
    | none => rfl
    | some q =>
      rw [x.sub _ _ e] at hp
      cases hp
  have nm : ∀ a ∈ F1 ++ F2, a ≠ p := fun a ha e => none_of_some (e ▸ hp) (x.there a ha)
  have hH : ∀ a ∈ F1 ++ F2, upd H p o a = H a := fun a ha => upd_ne (nm a ha)
  refine ⟨⟨fun a q e => ?_, x.sl.stay (Same.refl G) (fun a ha => hH a (List.mem_append_left _ ha)), x.tm.stay (Same.refl G) (fun a ha => hH a (List.mem_append_right _ ha)), x.nd, x.out, ?_⟩, gp, fun h => nm p h rfl, x.ok.mono p hp⟩
  · rw [upd_ne (ne_of_none e gp)]
    exact x.sub _ _ e
  · refine ⟨fun a q e hF => ?_, fun a e => ?_, x.ok.sG, x.ok.nG, x.ok.pin, x.ok.tab.upd (.inl hp)⟩
    · have h := x.ok.keep a q e hF
      exact h.upd (h.ne hp)
    · by_cases h : a = p
      · subst h
        rw [upd_same] at e
        cases e
      · rw [upd_ne h] at e
        exact x.ok.mono a e
/-- the last ones held become the items of a new list of their holder's -/
theorem TmF.all {w : Ty} : ∀ {us : List Tm} {F : List Addr}, (∀ x ∈ us, x.t = w) → TmF K G H us F → AllF (Own K G H w) (us.map Tm.d) (us.map Tm.v) F
  | [], _, _, h => h
  | x :: us, F, hw, ⟨F1, F2, e, p, q⟩ => ⟨F1, F2, e, by rw [← hw x List.mem_cons_self]; exact p, TmF.all (fun y hy => hw y (List.mem_cons_of_mem _ hy)) q⟩
theorem SRd.mkList {w : Ty} (x : SRd fr K G F1 F2 Γ ρ σ (ts ++ us) H) (hw : ∀ y ∈ us, y.t = w) {p : Addr} (hp : H p = none) :
    ∃ F3, SRd fr K G F1 F3 Γ ρ σ (ts ++ [⟨.lst w, .list (us.map Tm.d), .ref p⟩]) (upd H p (.lst (us.map Tm.v))) := by
  obtain ⟨y, gp, pF, p0⟩ := x.fresh (o := .lst (us.map Tm.v)) hp
  obtain ⟨F3, F4, e, q1, q2⟩ := y.tm.app
  refine ⟨F3 ++ (p :: F4), y.sub, y.sl, q1.of_app (TmF.of_one (.inr ⟨_, p, _, F4, rfl, rfl, rfl, upd_same, q2.all hw⟩)), ?_, fun a ha => ?_, y.ok⟩
  · have nd := y.nd
    rw [e, ← List.append_assoc] at nd
    rw [← List.append_assoc]
    refine (List.perm_middle.nodup_iff).mpr (List.nodup_cons.mpr ⟨?_, nd⟩)
    intro hm
    apply pF
    rw [e, ← List.append_assoc]
    exact hm
  · rcases List.mem_append.mp ha with ha | ha
    · exact y.out a (List.mem_append_left _ ha)
    · rcases List.mem_append.mp ha with ha | ha
      · exact y.out a (by rw [e]; exact List.mem_append_right _ (List.mem_append_left _ ha))
      · rcases List.mem_cons.mp ha with rfl | ha
        · exact ⟨gp, .inr p0⟩
        · exact y.out a (by rw [e]; exact List.mem_append_right _ (List.mem_append_right _ ha))
/-- an owned thing is given away -/
theorem SRd.give {x1 : Tm} (pl : x1.t.plain = true) (x : SRd fr K G F1 F2 Γ ρ σ (ts ++ [x1]) H) : ∃ G' F3, SRd fr K G' F1 F3 Γ ρ σ (ts ++ [⟨.fro, x1.d, x1.v⟩]) H := by
  obtain ⟨F3, F4, e, p, q⟩ := x.tm.app
  have o := q.one
  have hF4 : ∀ a ∈ F4, a ∈ F1 ++ F2 := fun a ha => by
    rw [e]
    exact List.mem_append_right _ (List.mem_append_right _ ha)
  have sG : Same G (join G H F4) := join_same fun a ha => (x.out a (hF4 a ha)).1
  have nd := x.nd
  rw [e, ← List.append_assoc] at nd
  have dj : ∀ a ∈ F1 ++ F3, a ∉ F4 := fun a ha hb => (List.nodup_append.mp nd).2.2 a ha a hb rfl
  refine ⟨join G H F4, F3, join_sub x.sub, x.sl.stay sG (fun _ _ => rfl), ?_, nd.sublist (List.sublist_append_left _ _), fun a ha => ?_, ?_⟩
  · have h := (p.stay sG (fun _ _ => rfl)).of_app (us := [⟨.fro, x1.d, x1.v⟩]) (F2 := []) (TmF.of_one (x := ⟨.fro, x1.d, x1.v⟩) ⟨rfl, o.rp sG pl fun a ha => join_in ha⟩)
    rwa [List.append_nil] at h
  · rw [join_out (dj a ha)]
    refine x.out a ?_
    rw [e, ← List.append_assoc]
    exact List.mem_append_left _ ha
  · refine ⟨x.ok.keep, x.ok.mono, fun a o h => sG _ _ (x.ok.sG _ _ h), fun a h => ?_, x.ok.pin, x.ok.tab.give fun a hg hn => ?_⟩
    by_cases ha : a ∈ F4
    · exact .inr (x.out a (hF4 a ha)).2
    · rw [join_out ha] at h
      exact x.ok.nG a h
    by_cases ha : a ∈ F4
    · exact (hn (x.there a (hF4 a ha))).elim
    · rw [join_out ha]
      exact hg
theorem SR.give {x1 : Tm} (pl : x1.t.plain = true) (x : SR fr K Γ ρ σ (ts ++ [x1]) H) : SR fr K Γ ρ σ (ts ++ [⟨.fro, x1.d, x1.v⟩]) H := by
  obtain ⟨G, F1, F2, x⟩ := x
  obtain ⟨G', F3, y⟩ := x.give pl
  exact ⟨G', F1, F3, y⟩
theorem get_some {ρ : Rho} {i : Nat} {d : D} (h : get ρ i = some d) : ρ[i]? = some (some d) := by
  unfold get at h
  cases e : ρ[i]? with
  | none => rw [e] at h; cases h
  | some o =>
    rw [e] at h
    have h : o = some d := h
    rw [h]
/-- a slot's thing that is nobody's -/
theorem SRd.slot (x : SRd fr K G F1 F2 Γ ρ σ ts H) {i : Nat} {d : D} (h : get ρ i = some d) (hw : Γ[i]? = some .fro) : ∃ v, σ[i]? = some (some v) ∧ Rp K G v d := by
  obtain ⟨t, v, F3, F4, e1, e2, _, o, _⟩ := x.sl.take (get_some h)
  rw [hw] at e1
  cases e1
  exact ⟨v, e2, o.2⟩
/-- a slot's own list, read -/
theorem SRd.slotL (x : SRd fr K G F1 F2 Γ ρ σ ts H) {i : Nat} {l : List D} (h : get ρ i = some (.list l)) (hw : Γ[i]? = some (.lst .fro)) : ∃ a vs, σ[i]? = some (some (.ref a)) ∧ H a = some (.lst vs) ∧ RpAll K G vs l := by
  obtain ⟨t, v, F3, F4, e1, e2, _, o, _⟩ := x.sl.take (get_some h)
  rw [hw] at e1
  cases e1
  rcases o with ⟨s, _, _⟩ | ⟨ds, a, vs, F', q1, q2, q3, q4, q5⟩
  · cases s
  · cases q1
    subst q2
    exact ⟨a, vs, e2, q4, q5.fro.2⟩
theorem perm_sub {F F' : List Addr} (h : F.Perm F') {a : Addr} (ha : a ∈ F) : a ∈ F' := h.mem_iff.mp ha
/-- a slot's thing goes to who holds it; the name keeps its value -/
theorem SRd.takeOut (x : SRd fr K G F1 F2 Γ ρ σ ts H) {i : Nat} {d : D} (h : get ρ i = some d) : ∃ t v F3 F4, Γ[i]? = some t ∧ σ[i]? = some (some v) ∧ SRd fr K G F3 F4 Γ (ρ.set i none) σ (ts ++ [⟨t, d, v⟩]) H := by
  obtain ⟨t, v, F3, F4, e1, e2, pm, o, q⟩ := x.sl.take (get_some h)
  have pm2 : (F4 ++ (F2 ++ F3)).Perm (F1 ++ F2) := by
    have h := List.perm_append_comm (l₁ := F4 ++ F2) (l₂ := F3)
    rw [List.append_assoc, ← List.append_assoc F3] at h
    exact h.trans (pm.append_right F2)
  refine ⟨t, v, F4, F2 ++ F3, e1, e2, x.sub, q, x.tm.of_app (TmF.of_one o), pm2.nodup_iff.mpr x.nd, fun a ha => x.out a (perm_sub pm2 ha), x.ok⟩
/-- .. and back -/
theorem SRd.putBack {i : Nat} {t : Ty} {d : D} {v : V} (x : SRd fr K G F1 F2 Γ ρ σ (ts ++ [⟨t, d, v⟩]) H) (h : ρ[i]? = some none) (ht : Γ[i]? = some t) (hv : σ[i]? = some (some v)) :
    ∃ F3 F4, SRd fr K G F3 F4 Γ (put ρ i d) σ ts H := by
  obtain ⟨F3, F4, e, p, q⟩ := x.tm.app
  obtain ⟨F5, pm, s⟩ := x.sl.put h ht hv q.one
  have pm2 : (F5 ++ F3).Perm (F1 ++ F2) := by
    rw [e]
    have h := List.perm_append_comm (l₁ := F4) (l₂ := F1 ++ F3)
    rw [List.append_assoc, ← List.append_assoc F4] at h
    exact (List.Perm.append_right F3 pm.symm).trans h
  exact ⟨F5, F3, x.sub, s, p, pm2.nodup_iff.mpr x.nd, fun a ha => x.out a (perm_sub pm2 ha), x.ok⟩
/-- a name takes what is held -/
theorem SRd.setSlot {i : Nat} {t : Ty} {d : D} {v : V} (x : SRd fr K G F1 F2 Γ ρ σ (ts ++ [⟨t, d, v⟩]) H) (ht : Γ[i]? = some t) (hi : i < σ.length) (hp : ∀ p ∈ fr.pins, p.1 ≠ i) :
    ∃ F3 F4, SRd fr K G F3 F4 Γ (put ρ i d) (σ.set i (some v)) ts H := by
  obtain ⟨F3, F4, pm, s⟩ := x.sl.drop i (some v)
  have y : SRd fr K G F4 F2 Γ (ρ.set i none) (σ.set i (some v)) (ts ++ [⟨t, d, v⟩]) H := by
    have mem : ∀ a ∈ F4 ++ F2, a ∈ F1 ++ F2 := fun a ha => by
      rcases List.mem_append.mp ha with ha | ha
      · exact List.mem_append_left _ (perm_sub pm (List.mem_append_right _ ha))
      · exact List.mem_append_right _ ha
    refine ⟨x.sub, s, x.tm, ?_, fun a ha => x.out a (mem a ha), x.ok.sig fun p hp' => by rw [List.getElem?_set_ne (Ne.symm (hp p hp'))]⟩
    have nd := ((List.Perm.append_right F2 pm).nodup_iff).mpr x.nd
    rw [List.append_assoc] at nd
    exact nd.sublist (List.sublist_append_right _ _)
  have len := x.sl.lens
  have e1 : (ρ.set i none)[i]? = some none := by rw [List.getElem?_set_self (by omega)]
  have e2 : (σ.set i (some v))[i]? = some (some v) := by rw [List.getElem?_set_self hi]
  obtain ⟨F5, F6, z⟩ := y.putBack e1 ht e2
  refine ⟨F5, F6, ?_⟩
  have e3 : put (ρ.set i none) i d = put ρ i d := by
    unfold put
    rw [List.set_set]
  rwa [e3] at z
/-- a slot's data are forgotten -/
theorem SRd.forget (x : SRd fr K G F1 F2 Γ ρ σ ts H) (i : Nat) : ∃ F3, SRd fr K G F3 F2 Γ (ρ.set i none) σ ts H := by
  obtain ⟨F3, F4, pm, s⟩ := x.sl.forget i
  have mem : ∀ a ∈ F4 ++ F2, a ∈ F1 ++ F2 := fun a ha => by
    rcases List.mem_append.mp ha with ha | ha
    · exact List.mem_append_left _ (perm_sub pm (List.mem_append_right _ ha))
    · exact List.mem_append_right _ ha
  refine ⟨F4, x.sub, s, x.tm, ?_, fun a ha => x.out a (mem a ha), x.ok⟩
  have nd := ((List.Perm.append_right F2 pm).nodup_iff).mpr x.nd
  rw [List.append_assoc] at nd
  exact nd.sublist (List.sublist_append_right _ _)
theorem SRd.wipes (x : SRd fr K G F1 F2 Γ ρ σ ts H) : ∀ ws : List Nat, ∃ F3, SRd fr K G F3 F2 Γ (wipeD ρ ws) σ ts H
  | [] => ⟨F1, x⟩
  | i :: ws => by
    obtain ⟨F3, y⟩ := x.wipes ws
    exact y.forget i
theorem wipeD_len (ρ : Rho) : ∀ ws : List Nat, (wipeD ρ ws).length = ρ.length
  | [] => rfl
  | i :: ws => by
    show ((wipeD ρ ws).set i none).length = _
    rw [List.length_set, wipeD_len ρ ws]
theorem SlF.sig : ∀ {Γ : List Ty} {ρ : Rho} {σ σ' : Sg} {F : List Addr}, σ'.length = σ.length → (∀ (i : Nat) (d : D), ρ[i]? = some (some d) → σ'[i]? = σ[i]?) → SlF K G H Γ ρ σ F → SlF K G H Γ ρ σ' F
  | [], [], [], [], _, _, _, h => h
  | t :: Γ, o :: ρ, s :: σ, s' :: σ', F, hl, hk, ⟨F1, F2, e, p, q⟩ => by
    refine ⟨F1, F2, e, ?_, SlF.sig (by simpa using hl) (fun i d e => by have := hk (i + 1) d (by simpa using e); simpa using this) q⟩
    cases o with
    | none => exact p
    | some d =>
      have := hk 0 d rfl
      have : s' = s := by simpa using this
      subst this
      exact p
  | [], [], [], _ :: _, _, hl, _, _ => by simp at hl
  | [], [], _ :: _, _, _, _, _, h => h.elim
  | [], _ :: _, _, _, _, _, _, h => by cases ‹Sg› <;> exact h.elim
  | _ :: _, [], _, _, _, _, _, h => by cases ‹Sg› <;> exact h.elim
  | _ :: _, _ :: _, [], _, _, _, _, h => h.elim
  | _ :: _, _ :: _, _ :: _, [], _, hl, _, _ => by simp at hl
/-- names whose data are forgotten may hold anything -/
theorem SRd.sig {σ' : Sg} (x : SRd fr K G F1 F2 Γ ρ σ ts H) (hl : σ'.length = σ.length) (hk : ∀ (i : Nat) (d : D), ρ[i]? = some (some d) → σ'[i]? = σ[i]?) (hp : ∀ p ∈ fr.pins, σ'[p.1]? = σ[p.1]?) : SRd fr K G F1 F2 Γ ρ σ' ts H :=
  ⟨x.sub, x.sl.sig hl hk, x.tm, x.nd, x.out, x.ok.sig hp⟩
theorem wipeD_none {ρ : Rho} {i : Nat} : ∀ {ws : List Nat}, i ∈ ws → ∀ d, (wipeD ρ ws)[i]? ≠ some (some d)
  | [], h, _, _ => nomatch h
  | j :: ws, h, d, e => by
    have e : ((wipeD ρ ws).set j none)[i]? = some (some d) := e
    by_cases hj : j = i
    · subst hj
      by_cases hl : j < (wipeD ρ ws).length
      · rw [List.getElem?_set_self hl] at e
        cases e
      · rw [List.getElem?_eq_none (by simpa using hl)] at e
        cases e
    · rw [List.getElem?_set_ne hj] at e
      rcases List.mem_cons.mp h with h | h
      · exact hj h.symm
      · exact wipeD_none h d e
theorem wipe_out' {σ : Sg} {i : Nat} : ∀ {ws : List Nat}, i ∉ ws → (wipe σ ws)[i]? = σ[i]? := wipe_out
/-- ahead of a comprehension's turn: its own names hold nothing -/
theorem SRd.wiped (x : SRd fr K G F1 F2 Γ ρ σ ts H) (ws : List Nat) (hp : ∀ p ∈ fr.pins, p.1 ∉ ws) : ∃ F3, SRd fr K G F3 F2 Γ (wipeD ρ ws) (wipe σ ws) ts H := by
  obtain ⟨F3, y⟩ := x.wipes ws
  refine ⟨F3, y.sig (wipe_length _ _) (fun i d e => ?_) fun p h => wipe_out (hp p h)⟩
  by_cases hi : i ∈ ws
  · exact absurd e (wipeD_none hi d)
  · exact wipe_out hi
/-- behind it: they are what they were, and nothing is known of them -/
theorem SRd.unwiped {σ2 : Sg} (ws : List Nat) (x : SRd fr K G F1 F2 Γ ρ σ2 ts H) (hw : wipe σ2 ws = wipe σ ws) (hl : σ2.length = σ.length) (hp : ∀ p ∈ fr.pins, p.1 ∉ ws) : ∃ F3, SRd fr K G F3 F2 Γ (wipeD ρ ws) σ ts H := by
  obtain ⟨F3, y⟩ := x.wipes ws
  have out : ∀ i, i ∉ ws → σ[i]? = σ2[i]? := fun i hi => by rw [← wipe_out (σ := σ) hi, ← hw, wipe_out hi]
  refine ⟨F3, y.sig hl.symm (fun i d e => ?_) fun p h => out _ (hp p h)⟩
  by_cases hi : i ∈ ws
  · exact absurd e (wipeD_none hi d)
  · exact out i hi
end
end Vw
namespace Vw
open PySem PySem.Spec PyProof.Rows L2
theorem PE_mono {X : Cx} {e : Expr} {t t' : TE} (h : PE X e t) (i : ∀ σ H Q, t' σ H Q → t σ H Q) : PE X e t' := ⟨fun pins s σ H Q I hw => h.run pins s σ H Q I (i σ H Q hw)⟩
theorem PT_mono {X : Cx} {e : Expr} {t t' : TT} (h : PT X e t) (i : ∀ σ H Q, t' σ H Q → t σ H Q) : PT X e t' := ⟨fun pins s σ H Q I hw => h.run pins s σ H Q I (i σ H Q hw)⟩
theorem PA_mono {X : Cx} {e : List Expr} {t t' : TA} (h : PA X e t) (i : ∀ σ H Q, t' σ H Q → t σ H Q) : PA X e t' := ⟨fun pos pins s σ H Q I hw => h.run pos pins s σ H Q I (i σ H Q hw)⟩
theorem PS_mono {X : Cx} {e : Stmt} {t t' : TS} (h : PS X e t) (i : ∀ D σ H, t' D σ H → t D σ H) : PS X e t' := ⟨fun pins s σ H D I hw => h.run pins s σ H D I (i D σ H hw)⟩
theorem PSs_mono {X : Cx} {e : List Stmt} {t t' : TS} (h : PSs X e t) (i : ∀ D σ H, t' D σ H → t D σ H) : PSs X e t' := ⟨fun pins s σ H D I hw => h.run pins s σ H D I (i D σ H hw)⟩
theorem bind_inv {α β : Type} {o : Option α} {f : α → Option β} {b : β} (h : o.bind f = some b) : ∃ a, o = some a ∧ f a = some b := by
  cases o with
  | none => cases h
  | some a => exact ⟨a, rfl, h⟩
theorem map_inv {α β : Type} {o : Option α} {f : α → β} {b : β} (h : o.map f = some b) : ∃ a, o = some a ∧ f a = b := by
  cases o with
  | none => cases h
  | some a => exact ⟨a, rfl, Option.some.inj h⟩

/-! ### readings -/
section
variable (Φ : Cf) (fr : Fr) (K : PySem.W.Frag) (Γ : List Ty)
def tE (w : Ty) (e : E) : TE := fun σ H Q => ∃ ρ ts r, SR fr K Γ ρ σ ts H ∧ ev Φ e ρ = some r ∧ ∀ v H', SR fr K Γ r.2 σ (ts ++ [⟨w, r.1, v⟩]) H' → Q v H'
def tT (e : T) : TT := fun σ H Q => ∃ ρ ts r, SR fr K Γ ρ σ ts H ∧ evT Φ e ρ = some r ∧ ∀ H', SR fr K Γ r.2 σ ts H' → Q r.1 H'
def tms (w : Ty) (ds : List D) (vs : List V) : List Tm := (ds.zip vs).map fun p => ⟨w, p.1, p.2⟩
def tEs (w : Ty) (es : Es) : TA := fun σ H Q => ∃ ρ ts r, SR fr K Γ ρ σ ts H ∧ evs Φ es ρ = some r ∧ ∀ vs H', vs.length = r.1.length → SR fr K Γ r.2 σ (ts ++ tms w r.1 vs) H' → Q vs H'
/-- how what an operand names is held -/
def Hold (σ : Sg) : O → V → D → List Tm → List Tm → Prop
  | .e _, v, d, ts, ts' => ts' = ts ++ [⟨.fro, d, v⟩]
  | .s i, v, _, ts, ts' => ts' = ts ∧ σ[i]? = some (some v) ∧ Γ[i]? = some (.lst .fro)
def tO (o : O) : TE := fun σ H Q => ∃ ρ ts r, SR fr K Γ ρ σ ts H ∧ evO Φ o ρ = some r ∧ ∀ v H' ts', SR fr K Γ r.2 σ ts' H' → Hold Γ σ o v r.1 ts ts' → Q v H'
def tOe (o : Oe) : TO := fun σ H Q => ∃ ρ ts r, SR fr K Γ ρ σ ts H ∧ evOe Φ o ρ = some r ∧ ∀ H', SR fr K Γ r.2 σ ts H' → Q r.1 H'
end
/-- what stands at v reads as x -/
def Sn (K : PySem.W.Frag) (G H : Hp) (x : D) (v : V) : Prop := Rp K G v x ∨ ∃ l a vs, x = .list l ∧ v = .ref a ∧ H a = some (.lst vs) ∧ RpAll K G vs l
theorem Sn.list {K : PySem.W.Frag} {G H : Hp} {l : List D} {v : V} (s : Same G H) (h : Sn K G H (.list l) v) : ∃ a vs, v = .ref a ∧ Rd H a (.lst vs) ∧ RpAll K G vs l := by
  rcases h with h | ⟨l', a, vs, e, e2, h1, h2⟩
  · cases h with
    | lst h1 h2 => exact ⟨_, _, rfl, Rd_same s h1, h2⟩
  · cases e
    exact ⟨a, vs, e2, .inl h1, h2⟩
theorem Sn.tuple {K : PySem.W.Frag} {G H : Hp} {l : List D} {v : V} (s : Same G H) (h : Sn K G H (.tuple l) v) : ∃ a vs, v = .ref a ∧ SqT K H a vs ∧ RpAll K G vs l := by
  rcases h with h | ⟨l', a, vs, e, e2, h1, h2⟩
  · cases h with
    | tup h1 h2 => exact ⟨_, _, rfl, SqT_same s h1, h2⟩
  · cases e
theorem Sn.seq {K : PySem.W.Frag} {G H : Hp} {x : D} {l : List D} {v : V} (s : Same G H) (e : seqD x = some l) (h : Sn K G H x v) : ∃ a vs, v = .ref a ∧ (SqL K H a vs ∨ SqT K H a vs) ∧ RpAll K G vs l := by
  cases x with
  | list m =>
    cases e
    obtain ⟨a, vs, e, h1, h2⟩ := h.list s
    exact ⟨a, vs, e, .inl (.inl h1), h2⟩
  | tuple m =>
    cases e
    obtain ⟨a, vs, e, h1, h2⟩ := h.tuple s
    exact ⟨a, vs, e, .inr h1, h2⟩
  | _ => cases e
section
variable {fr : Fr} {K : PySem.W.Frag} {G H : Hp} {F1 F2 : List Addr} {Γ : List Ty} {ρ : Rho} {σ : Sg} {ts ts' us : List Tm}
theorem SRd.sn {Φ : Cf} {o : O} {v : V} {d x : D} (h : SRd fr K G F1 F2 Γ ρ σ (ts' ++ us) H) (hd : Hold Γ σ o v d ts ts') (e : lateD Φ o d ρ = some x) : Sn K G H x v := by
  cases o with
  | e a =>
    have hd : ts' = ts ++ [⟨.fro, d, v⟩] := hd
    subst hd
    have e : some d = some x := e
    cases e
    obtain ⟨F3, y⟩ := h.drop
    exact .inl (y.last1 rfl)
  | s i =>
    obtain ⟨rfl, h1, h2⟩ := hd
    have e : get ρ i = some x := e
    obtain ⟨t, v', F3, F4, e1, e2, _, ow, _⟩ := h.sl.take (get_some e)
    rw [h2] at e1
    cases e1
    rw [h1] at e2
    cases e2
    rcases ow with ⟨s, _, q⟩ | ⟨ds, a, vs, F', q1, q2, q3, q4, q5⟩
    · exact .inl q
    · exact .inr ⟨ds, a, vs, q1, q2, q4, q5.fro.2⟩
theorem Hold.pre {o : O} {v : V} {d : D} (hd : Hold Γ σ o v d ts ts') : ∃ m, ts' = ts ++ m := by
  cases o with
  | e a => exact ⟨_, hd⟩
  | s i => exact ⟨[], by rw [List.append_nil]; exact hd.1⟩
theorem SR.dropH {o : O} {v : V} {d : D} (h : SR fr K Γ ρ σ (ts' ++ us) H) (hd : Hold Γ σ o v d ts ts') : SR fr K Γ ρ σ ts H := by
  obtain ⟨m, rfl⟩ := hd.pre
  rw [List.append_assoc] at h
  exact h.drop
/-- a plain result -/
theorem SR.res (h : SR fr K Γ ρ σ ts H) {w : Ty} {d : D} {v : V} (s : scalar d = true) (r : ∀ G, Rp K G v d) : SR fr K Γ ρ σ (ts ++ [⟨w, d, v⟩]) H := by
  obtain ⟨G, F1, F2, x⟩ := h
  exact ⟨G, F1, F2, x.pushS s (r G)⟩
theorem SRd.pushes : ∀ {vs : List V} {ds : List D} {ts : List Tm} {F2 : List Addr}, SRd fr K G F1 F2 Γ ρ σ ts H → RpAll K G vs ds → SRd fr K G F1 F2 Γ ρ σ (ts ++ tms .fro ds vs) H
  | _, _, ts, _, h, .nil => by
    show SRd fr K G F1 _ Γ ρ σ (ts ++ []) H
    rw [List.append_nil]
    exact h
  | _, _, ts, _, h, .cons (v := v) (d := d) (vs := vs) (ds := ds) r rs => by
    have q := SRd.pushes (h.push r) rs
    rw [List.append_assoc] at q
    exact q
theorem tms_d {w : Ty} : ∀ {ds : List D} {vs : List V}, vs.length = ds.length → (tms w ds vs).map Tm.d = ds
  | [], [], _ => rfl
  | d :: ds, v :: vs, h => by
    show d :: (tms w ds vs).map Tm.d = _
    rw [tms_d (by simpa using h)]
  | [], _ :: _, h => by simp at h
  | _ :: _, [], h => by simp at h
theorem tms_v {w : Ty} : ∀ {ds : List D} {vs : List V}, vs.length = ds.length → (tms w ds vs).map Tm.v = vs
  | [], [], _ => rfl
  | d :: ds, v :: vs, h => by
    show v :: (tms w ds vs).map Tm.v = _
    rw [tms_v (by simpa using h)]
  | [], _ :: _, h => by simp at h
  | _ :: _, [], h => by simp at h
theorem tms_t {w : Ty} {ds : List D} {vs : List V} : ∀ y ∈ tms w ds vs, y.t = w := fun y hy => by
  obtain ⟨p, _, rfl⟩ := List.mem_map.mp hy
  rfl
/-- whom a new list belongs to -/
def Made (t w : Ty) : Prop := w = .lst t ∨ (w = .fro ∧ t = .fro)
theorem SRd.list {t w : Ty} (x : SRd fr K G F1 F2 Γ ρ σ (ts ++ us) H) (hw : ∀ y ∈ us, y.t = t) (m : Made t w) {p : Addr} (hp : H p = none) :
    SR fr K Γ ρ σ (ts ++ [⟨w, .list (us.map Tm.d), .ref p⟩]) (upd H p (.lst (us.map Tm.v))) := by
  obtain ⟨F3, y⟩ := x.mkList hw hp
  rcases m with rfl | ⟨rfl, rfl⟩
  · exact ⟨_, _, _, y⟩
  · exact SR.give (x1 := ⟨.lst .fro, _, _⟩) rfl ⟨_, _, _, y⟩
theorem SRd.newList {w : Ty} (x : SRd fr K G F1 F2 Γ ρ σ ts H) {vs : List V} {ds : List D} (r : RpAll K G vs ds) (m : Made .fro w) {p : Addr} (hp : H p = none) :
    SR fr K Γ ρ σ (ts ++ [⟨w, .list ds, .ref p⟩]) (upd H p (.lst vs)) := by
  have q := (x.pushes r).list tms_t m hp
  rw [tms_d r.len, tms_v r.len] at q
  exact q
theorem SRd.newTup (x : SRd fr K G F1 F2 Γ ρ σ ts H) {vs : List V} {ds : List D} (r : RpAll K G vs ds) {p : Addr} (hp : H p = none) :
    SR fr K Γ ρ σ (ts ++ [⟨.fro, .tuple ds, .ref p⟩]) (upd H p (.tup vs)) := by
  obtain ⟨y, sG⟩ := x.grow (o := .tup vs) hp
  exact ⟨_, _, _, y.push (.tup (SqT.of upd_same) (RpAll_same sG _ _ r))⟩
end
section
variable {X : Cx} {Φ : Cf} {fr : Fr} {Γ : List Ty} {w : Ty} {pos : Pos}
/-! ### names, constants -/
theorem e_v {i : Nat} {x : Str} (hN : X.N[i]? = some x) (hv : Vis X.env.scope x) (hw : Γ[i]? = some .fro) (hd : (x == ("__debug__" : Str)) = false) (hcd : (x == ("__classdict__" : Str)) = false) :
    PE X (.Name x pos) (tE Φ fr X.K Γ .fro (.v i)) := by
  refine PE_mono (pe_var hN hv hd hcd) fun σ H Q h => ?_
  obtain ⟨ρ, ts, r, ⟨G, F1, F2, sr⟩, he, q⟩ := h
  obtain ⟨d, e1, rfl⟩ := map_inv he
  obtain ⟨v, e2, rp⟩ := sr.slot e1 hw
  exact ⟨v, e2, q v H ⟨G, F1, F2, sr.push rp⟩⟩
theorem e_mv {i : Nat} {x : Str} {t : Ty} (hN : X.N[i]? = some x) (hv : Vis X.env.scope x) (hw : Γ[i]? = some t) (h2 : w = t ∨ (w = .fro ∧ t.plain = true)) (hd : (x == ("__debug__" : Str)) = false) (hcd : (x == ("__classdict__" : Str)) = false) :
    PE X (.Name x pos) (tE Φ fr X.K Γ w (.mv i)) := by
  refine PE_mono (pe_var hN hv hd hcd) fun σ H Q h => ?_
  obtain ⟨ρ, ts, r, ⟨G, F1, F2, sr⟩, he, q⟩ := h
  obtain ⟨d, e1, rfl⟩ := map_inv he
  obtain ⟨t', v, F3, F4, e2, e3, y⟩ := sr.takeOut e1
  rw [hw] at e2
  cases e2
  refine ⟨v, e3, q v H ?_⟩
  rcases h2 with rfl | ⟨rfl, pl⟩
  · exact ⟨_, _, _, y⟩
  · exact SR.give pl ⟨_, _, _, y⟩
/-- an operand that is a slot's own list -/
theorem o_s {i : Nat} {x : Str} (hN : X.N[i]? = some x) (hv : Vis X.env.scope x) (hw : Γ[i]? = some (.lst .fro)) (hd : (x == ("__debug__" : Str)) = false) (hcd : (x == ("__classdict__" : Str)) = false) :
    PE X (.Name x pos) (tO Φ fr X.K Γ (.s i)) := by
  refine PE_mono (pe_var hN hv hd hcd) fun σ H Q h => ?_
  obtain ⟨ρ, ts, r, ⟨G, F1, F2, sr⟩, he, q⟩ := h
  obtain ⟨d, e1, rfl⟩ := map_inv he
  obtain ⟨t', v, F3, F4, e2, e3, y⟩ := sr.takeOut e1
  exact ⟨v, e3, q v H ts ⟨G, F1, F2, sr⟩ ⟨rfl, e3, hw⟩⟩
theorem o_e {e : Expr} {a : E} (h : PE X e (tE Φ fr X.K Γ .fro a)) : PE X e (tO Φ fr X.K Γ (.e a)) := by
  refine PE_mono h fun σ H Q h => ?_
  obtain ⟨ρ, ts, r, sr, he, q⟩ := h
  exact ⟨ρ, ts, r, sr, he, fun v H' s' => q v H' _ s' rfl⟩
theorem e_k {e : Expr} {d : D} {v : V} (h : PE X e (tC v)) (s : scalar d = true) (r : ∀ G, Rp X.K G v d) : PE X e (tE Φ fr X.K Γ w (.k d)) := by
  refine PE_mono h fun σ H Q h => ?_
  obtain ⟨ρ, ts, q, sr, he, k⟩ := h
  have he : some (d, ρ) = some q := he
  cases he
  exact k v H (sr.res s r)
theorem e_gl {e : Expr} {x : Str} {d : D} {v : V} (h : PE X e (tC v)) (r : ∀ G, Rp X.K G v d) : PE X e (tE Φ fr X.K Γ .fro (.gl x d)) := by
  refine PE_mono h fun σ H Q h => ?_
  obtain ⟨ρ, ts, q, ⟨G, F1, F2, sr⟩, he, k⟩ := h
  have he : some (d, ρ) = some q := he
  cases he
  exact k v H ⟨G, F1, F2, sr.push (r G)⟩
/-! ### numbers -/
theorem e_neg {a : Expr} {ea : E} (ha : PE X a (tE Φ fr X.K Γ .fro ea)) : PE X (.UnaryOp .USub a pos) (tE Φ fr X.K Γ w (.neg ea)) := by
  refine PE_mono (pe_un un_neg ha) fun σ H Q h => ?_
  obtain ⟨ρ, ts, r, sr, he, q⟩ := h
  obtain ⟨ra, e1, e2⟩ := bind_inv he
  refine ⟨ρ, ts, ra, sr, e1, fun v H1 s1 => ?_⟩
  obtain ⟨G, F1, F2, y⟩ := id s1
  have rp := y.last1 rfl
  obtain ⟨d, ρ1⟩ := ra
  cases d with
  | int i =>
    cases rp
    cases e2
    exact ⟨i, rfl, q _ _ (s1.drop.res rfl fun G => .int _)⟩
  | _ => cases e2
def opA : Ar → Operator
  | .add => .Add
  | .sub => .Sub
  | .mul => .Mult
  | .fdiv => .FloorDiv
  | .mod => .Mod
  | .pow => .Pow
  | .shl => .LShift
  | .shr => .RShift
  | .band => .BitAnd
  | .bor => .BitOr
  | .bxor => .BitXor
def rAr (o : Ar) : R2 := fun x y H Q => ∃ i j k, x = .int i ∧ y = .int j ∧ arD o (.int i) (.int j) = some (.int k) ∧ Q (.int k) H
theorem op_ar : ∀ o : Ar, OpR X (binaryOp (opA o)) (rAr o)
  | .add => fun pins s σ H x y v u Q I rx ry h => by
    obtain ⟨i, j, k, e1, e2, e, q⟩ := h
    cases e
    exact op_add pins s σ H x y v u Q I rx ry ⟨i, j, e1, e2, q⟩
  | .sub => fun pins s σ H x y v u Q I rx ry h => by
    obtain ⟨i, j, k, e1, e2, e, q⟩ := h
    cases e
    exact op_sub pins s σ H x y v u Q I rx ry ⟨i, j, e1, e2, q⟩
  | .mul => fun pins s σ H x y v u Q I rx ry h => by
    obtain ⟨i, j, k, e1, e2, e, q⟩ := h
    simp only [arD] at e
    split at e
    · rename_i c
      cases e
      exact op_mul pins s σ H x y v u Q I rx ry ⟨i, j, e1, e2, c, q⟩
    · cases e
  | .fdiv => fun pins s σ H x y v u Q I rx ry h => by
    obtain ⟨i, j, k, e1, e2, e, q⟩ := h
    simp only [arD] at e
    split at e
    · rename_i c
      cases e
      exact op_fdiv pins s σ H x y v u Q I rx ry ⟨i, j, e1, e2, c, q⟩
    · cases e
  | .mod => fun pins s σ H x y v u Q I rx ry h => by
    obtain ⟨i, j, k, e1, e2, e, q⟩ := h
    simp only [arD] at e
    split at e
    · rename_i c
      cases e
      exact op_mod pins s σ H x y v u Q I rx ry ⟨i, j, e1, e2, c, q⟩
    · cases e
  | .pow => fun pins s σ H x y v u Q I rx ry h => by
    obtain ⟨i, j, k, e1, e2, e, q⟩ := h
    simp only [arD] at e
    split at e
    · rename_i c
      cases e
      exact op_pow pins s σ H x y v u Q I rx ry ⟨i, j, e1, e2, c, q⟩
    · cases e
  | .shl => fun pins s σ H x y v u Q I rx ry h => by
    obtain ⟨i, j, k, e1, e2, e, q⟩ := h
    simp only [arD] at e
    split at e
    · rename_i c
      cases e
      exact op_shl pins s σ H x y v u Q I rx ry ⟨i, j, e1, e2, c, q⟩
    · cases e
  | .shr => fun pins s σ H x y v u Q I rx ry h => by
    obtain ⟨i, j, k, e1, e2, e, q⟩ := h
    simp only [arD] at e
    split at e
    · rename_i c
      cases e
      exact op_shr pins s σ H x y v u Q I rx ry ⟨i, j, e1, e2, c, q⟩
    · cases e
  | .band => fun pins s σ H x y v u Q I rx ry h => by
    obtain ⟨i, j, k, e1, e2, e, q⟩ := h
    cases e
    exact op_and pins s σ H x y v u Q I rx ry ⟨i, j, e1, e2, q⟩
  | .bor => fun pins s σ H x y v u Q I rx ry h => by
    obtain ⟨i, j, k, e1, e2, e, q⟩ := h
    cases e
    exact op_or pins s σ H x y v u Q I rx ry ⟨i, j, e1, e2, q⟩
  | .bxor => fun pins s σ H x y v u Q I rx ry h => by
    obtain ⟨i, j, k, e1, e2, e, q⟩ := h
    cases e
    exact op_xor pins s σ H x y v u Q I rx ry ⟨i, j, e1, e2, q⟩
theorem arD_inv {o : Ar} {x y z : D} (h : arD o x y = some z) : ∃ i j k, x = .int i ∧ y = .int j ∧ z = .int k := by
  cases x <;> cases y <;> cases o <;> first
    | (cases h; done)
    | (cases h; exact ⟨_, _, _, rfl, rfl, rfl⟩)
    | (simp only [arD] at h; split at h <;> first | (cases h; exact ⟨_, _, _, rfl, rfl, rfl⟩) | cases h)
theorem e_ar (o : Ar) {a b : Expr} {ea eb : E} (ha : PE X a (tE Φ fr X.K Γ .fro ea)) (hb : PE X b (tE Φ fr X.K Γ .fro eb)) : PE X (.BinOp a (opA o) b pos) (tE Φ fr X.K Γ w (.ar o ea eb)) := by
  refine PE_mono (pe_op (op_ar o) ha hb) fun σ H Q h => ?_
  obtain ⟨ρ, ts, r, sr, he, q⟩ := h
  obtain ⟨ra, e1, he⟩ := bind_inv he
  obtain ⟨rb, e2, he⟩ := bind_inv he
  obtain ⟨d, e3, rfl⟩ := map_inv he
  refine ⟨ρ, ts, ra, sr, e1, fun v H1 s1 => ⟨ra.2, _, rb, s1, e2, fun u H2 s2 => ?_⟩⟩
  obtain ⟨G, F1, F2, y⟩ := id s2
  have rp := y.last2 rfl rfl
  obtain ⟨i, j, k, q1, q2, q3⟩ := arD_inv e3
  obtain ⟨d1, ρ1⟩ := ra
  obtain ⟨d2, ρ2⟩ := rb
  have q1 : d1 = .int i := q1
  have q2 : d2 = .int j := q2
  subst q1 q2 q3
  obtain ⟨r1, r2⟩ := rp
  cases r1
  cases r2
  exact ⟨i, j, k, rfl, rfl, e3, q _ _ (s2.drop.drop.res rfl fun G => .int _)⟩
def opC : Cm → CmpOp
  | .lt => .Lt
  | .le => .LtE
  | .gt => .Gt
  | .ge => .GtE
  | .eq => .Eq
  | .ne => .NotEq
def rCm (o : Cm) : R2 := rI0 fun i j => .bl (cmI o i j)
theorem op_cm : ∀ o : Cm, OpR X (compareOp (opC o)) (rCm o)
  | .lt => op_lt
  | .le => op_le
  | .gt => op_gt
  | .ge => op_ge
  | .eq => fun pins s σ H x y v u Q I rx ry h => by
    obtain ⟨i, j, rfl, rfl, q⟩ := h
    refine op_eq pins s σ H _ _ v u Q I rx ry ⟨rfl, ?_⟩
    have e : decide (V.int i = V.int j) = cmI .eq i j := by simp [cmI]
    rw [e]
    exact q
  | .ne => fun pins s σ H x y v u Q I rx ry h => by
    obtain ⟨i, j, rfl, rfl, q⟩ := h
    refine op_ne pins s σ H _ _ v u Q I rx ry ⟨rfl, ?_⟩
    have e : (!decide (V.int i = V.int j)) = cmI .ne i j := by simp [cmI]
    rw [e]
    exact q
theorem opC_in : ∀ o : Cm, opC o ≠ .In ∧ opC o ≠ .NotIn
  | .lt => ⟨by decide, by decide⟩
  | .le => ⟨by decide, by decide⟩
  | .gt => ⟨by decide, by decide⟩
  | .ge => ⟨by decide, by decide⟩
  | .eq => ⟨by decide, by decide⟩
  | .ne => ⟨by decide, by decide⟩
theorem cmD_inv {o : Cm} {x y : D} {z : Bool} (h : cmD o x y = some z) : ∃ i j, x = .int i ∧ y = .int j ∧ z = cmI o i j := by
  cases x <;> cases y <;> first
    | (cases h; done)
    | (cases h; exact ⟨_, _, rfl, rfl, rfl⟩)
theorem m_cm {K : PySem.W.Frag} (o : Cm) {ea eb : E} {σ : Sg} {H : Hp} {Q : VK} (h : tE Φ fr K Γ w (.cm o ea eb) σ H Q) : tOp (rCm o) (tE Φ fr K Γ .fro ea) (tE Φ fr K Γ .fro eb) σ H Q := by
  obtain ⟨ρ, ts, r, sr, he, q⟩ := h
  obtain ⟨ra, e1, he⟩ := bind_inv he
  obtain ⟨rb, e2, he⟩ := bind_inv he
  obtain ⟨d, e3, rfl⟩ := map_inv he
  refine ⟨ρ, ts, ra, sr, e1, fun v H1 s1 => ⟨ra.2, _, rb, s1, e2, fun u H2 s2 => ?_⟩⟩
  obtain ⟨G, F1, F2, y⟩ := id s2
  have rp := y.last2 rfl rfl
  obtain ⟨i, j, q1, q2, q3⟩ := cmD_inv e3
  obtain ⟨d1, ρ1⟩ := ra
  obtain ⟨d2, ρ2⟩ := rb
  have q1 : d1 = .int i := q1
  have q2 : d2 = .int j := q2
  subst q1 q2 q3
  obtain ⟨r1, r2⟩ := rp
  cases r1
  cases r2
  exact ⟨i, j, rfl, rfl, q _ _ (s2.drop.drop.res rfl fun G => .bl _)⟩
theorem m_ch {K : PySem.W.Frag} (o o2 : Cm) {ea eb ee : E} {σ : Sg} {H : Hp} {Q : VK} (h : tE Φ fr K Γ w (.ch o o2 ea eb ee) σ H Q) : tChain (rCm o) (rCm o2) (tE Φ fr K Γ .fro ea) (tE Φ fr K Γ .fro eb) (tE Φ fr K Γ .fro ee) σ H Q := by
  obtain ⟨ρ, ts, r, sr, he, q⟩ := h
  obtain ⟨ra, e1, he⟩ := bind_inv he
  obtain ⟨rb, e2, he2⟩ := bind_inv he
  obtain ⟨t, e3, he3⟩ := bind_inv he2
  clear he he2
  refine ⟨ρ, ts, ra, sr, e1, fun v H1 s1 => ⟨ra.2, _, rb, s1, e2, fun u H2 s2 => ?_⟩⟩
  obtain ⟨G, F1, F2, y⟩ := id s2
  have rp := y.last2 rfl rfl
  obtain ⟨i, j, q1, q2, q3⟩ := cmD_inv e3
  obtain ⟨d1, ρ1⟩ := ra
  obtain ⟨d2, ρ2⟩ := rb
  have q1 : d1 = .int i := q1
  have q2 : d2 = .int j := q2
  subst q1 q2
  obtain ⟨r1, r2⟩ := rp
  cases r1
  cases r2
  refine ⟨i, j, rfl, rfl, t, by rw [q3], ?_⟩
  by_cases ht : t = true
  · rw [if_pos ht] at he3 ⊢
    obtain ⟨rc, e4, he4⟩ := bind_inv he3
    obtain ⟨d, e5, rfl⟩ := map_inv he4
    refine ⟨ρ2, _, rc, s2, e4, fun v3 H3 s3 => ?_⟩
    obtain ⟨G3, F3, F4, y3⟩ := id s3
    have rp3 := y3.last3 rfl rfl rfl
    obtain ⟨j', k, p1, p2, p3⟩ := cmD_inv e5
    obtain ⟨d3, ρ3⟩ := rc
    have p2 : d3 = .int k := p2
    have p1 : PyData.int j = PyData.int j' := p1
    cases p1
    subst p2 p3
    obtain ⟨_, r2', r3'⟩ := rp3
    cases r3'
    exact ⟨j, k, rfl, rfl, q _ _ (s3.drop.drop.drop.res rfl fun G => .bl _)⟩
  · rw [if_neg ht] at he3 ⊢
    cases he3
    exact q _ _ (s2.drop.drop.res rfl fun G => .bl _)
end
end Vw
namespace Vw
open PySem PySem.Spec PyProof.Rows L2
section
variable {X : Cx} {Φ : Cf} {fr : Fr} {Γ : List Ty} {w : Ty} {pos : Pos}
/-! ### comparisons of data -/
theorem rp_bl {K : PySem.W.Frag} (b : Bool) (G : Hp) : Rp K G (.bl b) (.bool b) := .bl b
theorem op_eqG (hu : X.A.units + 64 < cLine) (ng : Bool) : OpR X (compareOp (if ng then .NotEq else .Eq)) (fun x y H Q => ∃ d e, Dp X.K H x d ∧ Dp X.K H y e ∧ SeqAt.shaped d = true ∧ SeqAt.shaped e = true ∧ Q (.bl (PyData.eqv d e != ng)) H) := by
  cases ng with
  | true =>
    intro pins s σ H x y v u Q I rx ry h
    obtain ⟨d, e, h1, h2, h3, h4, q⟩ := h
    exact op_neD hu pins s σ H x y v u Q I rx ry ⟨d, e, h1, h2, h3, h4, by rw [Bool.bne_true] at q; exact q⟩
  | false =>
    intro pins s σ H x y v u Q I rx ry h
    obtain ⟨d, e, h1, h2, h3, h4, q⟩ := h
    exact op_eqD hu pins s σ H x y v u Q I rx ry ⟨d, e, h1, h2, h3, h4, by rw [Bool.bne_false] at q; exact q⟩
theorem eqD_inv {ng : Bool} {x y z : D} (h : eqD ng x y = some z) : SeqAt.shaped x = true ∧ SeqAt.shaped y = true ∧ z = .bool (PyData.eqv x y != ng) := by
  unfold eqD at h
  split at h
  · rename_i c
    cases h
    exact ⟨c.1, c.2, rfl⟩
  · cases h
theorem eqop_in (ng : Bool) : (if ng then CmpOp.NotEq else .Eq) ≠ .In ∧ (if ng then CmpOp.NotEq else .Eq) ≠ .NotIn := by
  cases ng <;> exact ⟨by decide, by decide⟩
def rEqG (K : PySem.W.Frag) (ng : Bool) : R2 := fun x y H Q => ∃ d e, Dp K H x d ∧ Dp K H y e ∧ SeqAt.shaped d = true ∧ SeqAt.shaped e = true ∧ Q (.bl (PyData.eqv d e != ng)) H
theorem m_eq {K : PySem.W.Frag} (ng : Bool) {ea eb : E} {σ : Sg} {H : Hp} {Q : VK} (h : tE Φ fr K Γ w (.eq ng ea eb) σ H Q) : tOp (rEqG K ng) (tE Φ fr K Γ .fro ea) (tE Φ fr K Γ .fro eb) σ H Q := by
  obtain ⟨ρ, ts, r, sr, he, q⟩ := h
  obtain ⟨ra, e1, he⟩ := bind_inv he
  obtain ⟨rb, e2, he⟩ := bind_inv he
  obtain ⟨d, e3, rfl⟩ := map_inv he
  refine ⟨ρ, ts, ra, sr, e1, fun v H1 s1 => ⟨ra.2, _, rb, s1, e2, fun u H2 s2 => ?_⟩⟩
  obtain ⟨G, F1, F2, y⟩ := id s2
  have rp := y.last2 rfl rfl
  obtain ⟨q1, q2, rfl⟩ := eqD_inv e3
  exact ⟨_, _, (Rp_same y.sub _ _ rp.1).dp, (Rp_same y.sub _ _ rp.2).dp, q1, q2, q _ _ (s2.drop.drop.res rfl (rp_bl _))⟩
theorem op_isG (ng : Bool) : OpR X (compareOp (if ng then .IsNot else .Is)) (fun x y H Q => y = .non ∧ Q (.bl (decide (x = .non) != ng)) H) := by
  cases ng with
  | true =>
    intro pins s σ H x y v u Q I rx ry h
    exact op_notN pins s σ H x y v u Q I rx ry ⟨h.1, by have := h.2; rw [Bool.bne_true] at this; exact this⟩
  | false =>
    intro pins s σ H x y v u Q I rx ry h
    exact op_isN pins s σ H x y v u Q I rx ry ⟨h.1, by have := h.2; rw [Bool.bne_false] at this; exact this⟩
theorem rp_none {K : PySem.W.Frag} {G : Hp} {x : D} {v : V} (h : Rp K G v x) : decide (v = .non) = isNone x := by
  cases h <;> rfl
theorem isop_in (ng : Bool) : (if ng then CmpOp.IsNot else .Is) ≠ .In ∧ (if ng then CmpOp.IsNot else .Is) ≠ .NotIn := by
  cases ng <;> exact ⟨by decide, by decide⟩
def rIsG (ng : Bool) : R2 := fun x y H Q => y = .non ∧ Q (.bl (decide (x = .non) != ng)) H
theorem m_isn {K : PySem.W.Frag} (ng : Bool) {ea : E} {σ : Sg} {H : Hp} {Q : VK} (h : tE Φ fr K Γ w (.isn ng ea) σ H Q) : tOp (rIsG ng) (tE Φ fr K Γ .fro ea) (tC .non) σ H Q := by
  obtain ⟨ρ, ts, r, sr, he, q⟩ := h
  obtain ⟨ra, e1, rfl⟩ := map_inv he
  refine ⟨ρ, ts, ra, sr, e1, fun v H1 s1 => ⟨rfl, ?_⟩⟩
  obtain ⟨G, F1, F2, y⟩ := id s1
  rw [rp_none (y.last1 rfl)]
  exact q _ _ (s1.drop.res rfl (rp_bl _))
/-! ### tests -/
theorem truV {G H : Hp} {x : D} {v : V} {b : Bool} (s : Same G H) (h : Sn X.K G H x v) (e : truD x = some b) : TruV X.K v H b := by
  cases x with
  | none =>
    cases e
    rcases h with h | ⟨l', a, vs, e, _⟩
    · cases h; rfl
    · cases e
  | bool c =>
    cases e
    rcases h with h | ⟨l', a, vs, e, _⟩
    · cases h; rfl
    · cases e
  | int c =>
    cases e
    rcases h with h | ⟨l', a, vs, e, _⟩
    · cases h; rfl
    · cases e
  | list l =>
    cases e
    obtain ⟨a, vs, rfl, h1, h2⟩ := h.list s
    refine .inl ⟨vs, .inl h1, ?_⟩
    have e := h2.len
    cases vs <;> cases l <;> first | rfl | simp at e
  | tuple l =>
    cases e
    obtain ⟨a, vs, rfl, h1, h2⟩ := h.tuple s
    refine .inr (.inl ⟨vs, h1, ?_⟩)
    have e := h2.len
    cases vs <;> cases l <;> first | rfl | simp at e
  | str _ => cases e
  | dict _ => cases e
/-- an expression of no form of its own as a test -/
def plainT : Expr → Bool
  | .UnaryOp .Not _ _ => false
  | .BoolOp _ _ _ => false
  | .IfExp _ _ _ _ => false
  | .Compare _ _ _ _ => false
  | _ => true
theorem isTrue_plainT {a : Expr} {env : Env} (h : plainT a = true) (whole : Sem Value) : isTrue a env whole = (do let v ← whole; standAt a.pos; holding [v] (truthy v)) := by
  cases a with
  | UnaryOp op _ _ => cases op <;> first | rfl | cases h
  | BoolOp _ _ _ => cases h
  | IfExp _ _ _ _ => cases h
  | Compare _ _ _ _ => cases h
  | _ => rfl
theorem t_e {a : Expr} {ea : E} (ha : PE X a (tE Φ fr X.K Γ .fro ea)) (hp : plainT a = true) : PT X a (tT Φ fr X.K Γ (.e ea)) := by
  refine PT_mono (pt_truth ha (isTrue_plainT hp)) fun σ H Q h => ?_
  obtain ⟨ρ, ts, r, sr, he, q⟩ := h
  obtain ⟨ra, e1, he⟩ := bind_inv he
  obtain ⟨b, e2, rfl⟩ := map_inv he
  refine ⟨ρ, ts, ra, sr, e1, fun v H1 s1 => ?_⟩
  obtain ⟨G, F1, F2, y⟩ := id s1
  exact ⟨b, truV y.sub (.inl (y.last1 rfl)) e2, q _ s1.drop⟩
theorem t_sl {i : Nat} {x : Str} (hN : X.N[i]? = some x) (hv : Vis X.env.scope x) (hw : Γ[i]? = some (.lst .fro)) (hd : (x == ("__debug__" : Str)) = false) (hcd : (x == ("__classdict__" : Str)) = false) :
    PT X (.Name x pos) (tT Φ fr X.K Γ (.sl i)) := by
  refine PT_mono (pt_truth (o_s (Φ := Φ) (fr := fr) hN hv hw hd hcd) (isTrue_plainT rfl)) fun σ H Q h => ?_
  obtain ⟨ρ, ts, r, sr, he, q⟩ := h
  obtain ⟨d, e1, he⟩ := bind_inv he
  obtain ⟨b, e2, rfl⟩ := map_inv he
  refine ⟨ρ, ts, (d, ρ), sr, by show Option.map _ _ = _; rw [e1]; rfl, fun v H1 ts' s1 hd => ?_⟩
  obtain ⟨G, F1, F2, y⟩ := id s1
  have y' : SRd fr X.K G F1 F2 Γ ρ σ (ts' ++ []) H1 := by rw [List.append_nil]; exact y
  refine ⟨b, truV y.sub (y'.sn (Φ := Φ) hd e1) e2, q _ ?_⟩
  obtain ⟨rfl, _⟩ := hd
  exact s1
/-- whose value is a bool -/
def boolE : E → Bool
  | .cm _ _ _ => true
  | .ch _ _ _ _ _ => true
  | .eq _ _ _ => true
  | .isn _ _ => true
  | .inn _ _ _ => true
  | .ind _ _ _ => true
  | .ch3 _ _ _ _ _ _ _ => true
  | .isi _ _ => true
  | .isb _ _ _ => true
  | .ins _ _ _ => true
  | .ltd _ _ => true
  | _ => false
theorem innD_inv {ng : Bool} {x y z : D} (h : innD ng x y = some z) : ∃ l, seqD y = some l ∧ flatD x = true ∧ l.all flatD = true ∧ z = .bool (l.any (fun e => PyData.eqv e x) != ng) := by
  unfold innD at h
  obtain ⟨l, e, h⟩ := bind_inv h
  split at h
  · rename_i c
    cases h
    exact ⟨l, e, c.1, c.2, rfl⟩
  · cases h
theorem indD_inv {ng : Bool} {x y z : D} (h : indD ng x y = some z) : ∃ l, y = .list l ∧ SeqAt.shaped x = true ∧ SeqAt.shaped (.list l) = true ∧ z = .bool (l.any (fun e => PyData.eqv e x) != ng) := by
  cases y with
  | list l =>
    have h : (if SeqAt.shaped x = true ∧ SeqAt.shaped (.list l) = true then some (.bool (l.any (fun e => PyData.eqv e x) != ng)) else none) = some z := h
    split at h
    · rename_i c
      cases h
      exact ⟨l, rfl, c.1, c.2, rfl⟩
    · cases h
  | _ => exact absurd (show (none : Option D) = some z from h) (by simp)
theorem boolE_ok {e : E} (h : boolE e = true) {ρ : Rho} {r : D × Rho} (he : ev Φ e ρ = some r) : ∃ b, r.1 = .bool b := by
  cases e with
  | cm o a b =>
    obtain ⟨ra, e1, he⟩ := bind_inv he
    obtain ⟨rb, e2, he⟩ := bind_inv he
    obtain ⟨d, e3, rfl⟩ := map_inv he
    exact ⟨_, rfl⟩
  | ch o o2 a b e =>
    obtain ⟨ra, e1, he⟩ := bind_inv he
    obtain ⟨rb, e2, he⟩ := bind_inv he
    obtain ⟨d, e3, he⟩ := bind_inv he
    split at he
    · obtain ⟨rc, e4, he⟩ := bind_inv he
      obtain ⟨d, e5, rfl⟩ := map_inv he
      exact ⟨_, rfl⟩
    · cases he
      exact ⟨_, rfl⟩
  | eq ng a b =>
    obtain ⟨ra, e1, he⟩ := bind_inv he
    obtain ⟨rb, e2, he⟩ := bind_inv he
    obtain ⟨d, e3, rfl⟩ := map_inv he
    obtain ⟨q1, q2, rfl⟩ := eqD_inv e3
    exact ⟨_, rfl⟩
  | ltd a b =>
    obtain ⟨ra, e1, he⟩ := bind_inv he
    obtain ⟨rb, e2, he⟩ := bind_inv he
    split at he
    · cases he
      exact ⟨_, rfl⟩
    · cases he
  | isn ng a =>
    obtain ⟨ra, e1, rfl⟩ := map_inv he
    exact ⟨_, rfl⟩
  | inn ng a b =>
    obtain ⟨ra, e1, he⟩ := bind_inv he
    obtain ⟨rb, e2, he⟩ := bind_inv he
    obtain ⟨d, e3, rfl⟩ := map_inv he
    obtain ⟨l, _, _, _, rfl⟩ := innD_inv e3
    exact ⟨_, rfl⟩
  | ind ng a b =>
    obtain ⟨ra, e1, he⟩ := bind_inv he
    obtain ⟨rb, e2, he⟩ := bind_inv he
    obtain ⟨d, e3, rfl⟩ := map_inv he
    obtain ⟨l, _, _, _, rfl⟩ := indD_inv e3
    exact ⟨_, rfl⟩
  | ins ng a i =>
    obtain ⟨ra, e1, he⟩ := bind_inv he
    obtain ⟨rb, e2, he⟩ := bind_inv he
    obtain ⟨d, e3, rfl⟩ := map_inv he
    obtain ⟨l, _, _, _, rfl⟩ := indD_inv e3
    exact ⟨_, rfl⟩
  | isb ng v a =>
    obtain ⟨ra, e1, he⟩ := bind_inv he
    split at he
    · cases he
      exact ⟨_, rfl⟩
    · cases he
  | isi k a =>
    obtain ⟨ra, e1, he⟩ := bind_inv he
    obtain ⟨d, e3, rfl⟩ := map_inv he
    exact ⟨_, rfl⟩
  | ch3 o o2 o3 a b e f =>
    obtain ⟨ra, e1, he⟩ := bind_inv he
    obtain ⟨rb, e2, he⟩ := bind_inv he
    obtain ⟨d, e3, he⟩ := bind_inv he
    split at he
    · obtain ⟨rc, e4, he⟩ := bind_inv he
      obtain ⟨d, e5, he⟩ := bind_inv he
      split at he
      · obtain ⟨rd, e6, he⟩ := bind_inv he
        obtain ⟨d, e7, rfl⟩ := map_inv he
        exact ⟨_, rfl⟩
      · cases he
        exact ⟨_, rfl⟩
    · cases he
      exact ⟨_, rfl⟩
  | _ => cases h
/-- a comparison as a test -/
theorem t_cmp {a : Expr} {ops : List CmpOp} {cs : List Expr} {ea : E} {t : TE} (h : PT X (.Compare a ops cs pos) (tTest t)) (hb : boolE ea = true) (i : ∀ σ H Q, tE Φ fr X.K Γ .fro ea σ H Q → t σ H Q) : PT X (.Compare a ops cs pos) (tT Φ fr X.K Γ (.e ea)) := by
  refine PT_mono h fun σ H Q h => ?_
  obtain ⟨ρ, ts, r, sr, he, q⟩ := h
  obtain ⟨ra, e1, he⟩ := bind_inv he
  obtain ⟨b, e2, rfl⟩ := map_inv he
  refine i σ H _ ⟨ρ, ts, ra, sr, e1, fun v H1 s1 => ?_⟩
  obtain ⟨G, F1, F2, y⟩ := id s1
  have rp := y.last1 rfl
  obtain ⟨c, e3⟩ := boolE_ok hb e1
  obtain ⟨d, ρ1⟩ := ra
  have e3 : d = .bool c := e3
  subst e3
  cases rp
  have e2 : some c = some b := e2
  cases e2
  exact ⟨_, rfl, q _ s1.drop⟩
theorem t_no {a : Expr} {ta : T} (ha : PT X a (tT Φ fr X.K Γ ta)) : PT X (.UnaryOp .Not a pos) (tT Φ fr X.K Γ (.no ta)) := by
  refine PT_mono (pt_not ha) fun σ H Q h => ?_
  obtain ⟨ρ, ts, r, sr, he, q⟩ := h
  obtain ⟨ra, e1, rfl⟩ := map_inv he
  exact ⟨ρ, ts, ra, sr, e1, fun H1 s1 => q _ s1⟩
theorem w_an {a b : Expr} {rest : List Expr} {ta tb : T} (ha : PT X a (tT Φ fr X.K Γ ta)) (hb : PW X (.BoolOp .And (b :: rest) pos) (tT Φ fr X.K Γ tb)) : PW X (.BoolOp .And (a :: b :: rest) pos) (tT Φ fr X.K Γ (.an ta tb)) := by
  refine ⟨fun whole pins s σ H Q I h => (pw_and ha hb).run whole pins s σ H Q I ?_⟩
  obtain ⟨ρ, ts, r, sr, he, q⟩ := h
  obtain ⟨ra, e1, he⟩ := bind_inv he
  refine ⟨ρ, ts, ra, sr, e1, fun H1 s1 => ?_⟩
  by_cases hc : ra.1 = true
  · rw [if_pos hc] at he ⊢
    exact ⟨_, ts, r, s1, he, q⟩
  · rw [if_neg hc] at he ⊢
    cases he
    exact q _ s1
theorem w_orr {a b : Expr} {rest : List Expr} {ta tb : T} (ha : PT X a (tT Φ fr X.K Γ ta)) (hb : PW X (.BoolOp .Or (b :: rest) pos) (tT Φ fr X.K Γ tb)) : PW X (.BoolOp .Or (a :: b :: rest) pos) (tT Φ fr X.K Γ (.orr ta tb)) := by
  refine ⟨fun whole pins s σ H Q I h => (pw_or ha hb).run whole pins s σ H Q I ?_⟩
  obtain ⟨ρ, ts, r, sr, he, q⟩ := h
  obtain ⟨ra, e1, he⟩ := bind_inv he
  refine ⟨ρ, ts, ra, sr, e1, fun H1 s1 => ?_⟩
  by_cases hc : ra.1 = true
  · rw [if_pos hc] at he ⊢
    cases he
    exact q _ s1
  · rw [if_neg hc] at he ⊢
    exact ⟨_, ts, r, s1, he, q⟩
/-! ### not, and, or, if as values -/
theorem e_no {a : Expr} {ea : E} (ha : PE X a (tE Φ fr X.K Γ .fro ea)) : PE X (.UnaryOp .Not a pos) (tE Φ fr X.K Γ w (.no (.e ea))) := by
  refine PE_mono (pe_notT ha) fun σ H Q h => ?_
  obtain ⟨ρ, ts, r, sr, he, q⟩ := h
  obtain ⟨rb, e0, rfl⟩ := map_inv he
  obtain ⟨ra, e1, he⟩ := bind_inv e0
  obtain ⟨b, e2, rfl⟩ := map_inv he
  refine ⟨ρ, ts, ra, sr, e1, fun v H1 s1 => ?_⟩
  obtain ⟨G, F1, F2, y⟩ := id s1
  exact ⟨b, truV y.sub (.inl (y.last1 rfl)) e2, q _ _ (s1.drop.res rfl (rp_bl _))⟩
theorem e_an {a b : Expr} {rest : List Expr} {ea eb : E} (ha : PE X a (tE Φ fr X.K Γ .fro ea)) (hb : PE X (.BoolOp .And (b :: rest) pos) (tE Φ fr X.K Γ .fro eb)) : PE X (.BoolOp .And (a :: b :: rest) pos) (tE Φ fr X.K Γ .fro (.an ea eb)) := by
  refine PE_mono (pe_and ha hb) fun σ H Q h => ?_
  obtain ⟨ρ, ts, r, sr, he, q⟩ := h
  obtain ⟨ra, e1, he⟩ := bind_inv he
  refine ⟨ρ, ts, ra, sr, e1, fun v H1 s1 => ?_⟩
  obtain ⟨G, F1, F2, y⟩ := id s1
  have rp := y.last1 rfl
  obtain ⟨d, ρ1⟩ := ra
  cases d with
  | bool c =>
    cases rp
    refine ⟨c, rfl, ?_⟩
    have he : (if c = true then ev Φ eb ρ1 else some (.bool false, ρ1)) = some r := he
    by_cases hc : c = true
    · rw [if_pos hc] at he ⊢
      exact ⟨_, ts, r, s1.drop, he, q⟩
    · rw [if_neg hc] at he ⊢
      cases he
      exact q _ _ (s1.drop.res rfl (rp_bl _))
  | _ => cases he
theorem e_orr {a b : Expr} {rest : List Expr} {ea eb : E} (ha : PE X a (tE Φ fr X.K Γ .fro ea)) (hb : PE X (.BoolOp .Or (b :: rest) pos) (tE Φ fr X.K Γ .fro eb)) : PE X (.BoolOp .Or (a :: b :: rest) pos) (tE Φ fr X.K Γ .fro (.orr ea eb)) := by
  refine PE_mono (pe_or ha hb) fun σ H Q h => ?_
  obtain ⟨ρ, ts, r, sr, he, q⟩ := h
  obtain ⟨ra, e1, he⟩ := bind_inv he
  refine ⟨ρ, ts, ra, sr, e1, fun v H1 s1 => ?_⟩
  obtain ⟨G, F1, F2, y⟩ := id s1
  have rp := y.last1 rfl
  obtain ⟨d, ρ1⟩ := ra
  cases d with
  | bool c =>
    cases rp
    refine ⟨c, rfl, ?_⟩
    have he : (if c = true then some (.bool true, ρ1) else ev Φ eb ρ1) = some r := he
    by_cases hc : c = true
    · rw [if_pos hc] at he ⊢
      cases he
      exact q _ _ (s1.drop.res rfl (rp_bl _))
    · rw [if_neg hc] at he ⊢
      exact ⟨_, ts, r, s1.drop, he, q⟩
  | _ => cases he
theorem e_ife {c a b : Expr} {tc : T} {ea eb : E} (hc : PT X c (tT Φ fr X.K Γ tc)) (ha : PE X a (tE Φ fr X.K Γ w ea)) (hb : PE X b (tE Φ fr X.K Γ w eb)) : PE X (.IfExp c a b pos) (tE Φ fr X.K Γ w (.ife tc ea eb)) := by
  refine PE_mono (pe_ifExp hc ha hb) fun σ H Q h => ?_
  obtain ⟨ρ, ts, r, sr, he, q⟩ := h
  obtain ⟨ra, e1, he⟩ := bind_inv he
  refine ⟨ρ, ts, ra, sr, e1, fun H1 s1 => ?_⟩
  by_cases hd : ra.1 = true
  · rw [if_pos hd] at he ⊢
    exact ⟨_, ts, r, s1, he, q⟩
  · rw [if_neg hd] at he ⊢
    exact ⟨_, ts, r, s1, he, q⟩
/-! ### displays -/
def noStar : Expr → Bool
  | .Starred _ _ => false
  | _ => true
theorem star_cons {e : Expr} {es : List Expr} {env : Env} (h : noStar e = true) : starEach (e :: es) env = (false, eval e env) :: starEach es env := by
  cases e <;> first | rfl | cases h
theorem as_nil : PA X [] (tEs Φ fr X.K Γ w .nil) := by
  refine PA_mono pa_nil fun σ H Q h => ?_
  obtain ⟨ρ, ts, r, sr, he, q⟩ := h
  have he : some ([], ρ) = some r := he
  cases he
  refine q [] H rfl ?_
  show SR fr X.K Γ ρ σ (ts ++ []) H
  rw [List.append_nil]
  exact sr
theorem as_cons {e : Expr} {es : List Expr} {ea : E} {eas : Es} (ha : PE X e (tE Φ fr X.K Γ w ea)) (hb : PA X es (tEs Φ fr X.K Γ w eas)) (hs : noStar e = true) : PA X (e :: es) (tEs Φ fr X.K Γ w (.cons ea eas)) := by
  refine PA_mono (pa_cons ha hb (star_cons hs)) fun σ H Q h => ?_
  obtain ⟨ρ, ts, r, sr, he, q⟩ := h
  obtain ⟨ra, e1, he⟩ := bind_inv he
  obtain ⟨rb, e2, rfl⟩ := map_inv he
  refine ⟨ρ, ts, ra, sr, e1, fun v H1 s1 => ⟨ra.2, _, rb, s1, e2, fun vs H2 hl s2 => ?_⟩⟩
  rw [List.append_assoc] at s2
  exact q (v :: vs) H2 (by simp [hl]) s2
theorem lenOk_of {n : Nat} (h : lenOk n = true) : n ≤ sizeLine := of_decide_eq_true h
theorem e_lst {t : Ty} {es : List Expr} {eas : Es} (m : Made t w) (ha : PA X es (tEs Φ fr X.K Γ t eas)) : PE X (.List es pos) (tE Φ fr X.K Γ w (.lst eas)) := by
  refine PE_mono (pe_lst ha) fun σ H Q h => ?_
  obtain ⟨ρ, ts, r, sr, he, q⟩ := h
  obtain ⟨ra, e1, he⟩ := bind_inv he
  split at he
  · rename_i c
    cases he
    refine ⟨ρ, ts, ra, sr, e1, fun vs H1 hl s1 => ⟨by rw [hl]; exact lenOk_of c, fun p hp => ?_⟩⟩
    obtain ⟨G, F1, F2, y⟩ := id s1
    have z := y.list tms_t m hp
    rw [tms_d hl, tms_v hl] at z
    exact q _ _ z
  · cases he
theorem TmF.alls {K : PySem.W.Frag} {G H : Hp} {us : List Tm} {F : List Addr} (h : TmF K G H us F) (hw : ∀ x ∈ us, x.t = .fro) : RpAll K G (us.map Tm.v) (us.map Tm.d) := (TmF.all hw h).fro.2
theorem e_tup {es : List Expr} {eas : Es} {k : Nat} (ha : PA X es (tEs Φ fr X.K Γ .fro eas)) : PE X (.Tuple es k pos) (tE Φ fr X.K Γ .fro (.tup eas)) := by
  refine PE_mono (pe_tup ha) fun σ H Q h => ?_
  obtain ⟨ρ, ts, r, sr, he, q⟩ := h
  obtain ⟨ra, e1, he⟩ := bind_inv he
  split at he
  · rename_i c
    cases he
    refine ⟨ρ, ts, ra, sr, e1, fun vs H1 hl s1 => ⟨by rw [hl]; exact lenOk_of c, fun p hp => ?_⟩⟩
    obtain ⟨G, F1, F2, y⟩ := id s1
    obtain ⟨F3, F4, _, _, t2⟩ := y.tm.app
    have rs := t2.alls tms_t
    rw [tms_d hl, tms_v hl] at rs
    obtain ⟨F5, y2⟩ := y.drop
    exact q _ _ (y2.newTup rs hp)
  · cases he
end
end Vw
namespace Vw
open PySem PySem.Spec PyProof.Rows L2
/-! tuples of ints, sorted -/
theorem intsD_tup : ∀ {l : List D} {ns : List Int}, intsD l = some ns → l = ns.map .int
  | [], ns, h => by
    cases h
    rfl
  | .int i :: r, ns, h => by
    obtain ⟨us, e2, rfl⟩ := map_inv (show (intsD r).map (i :: ·) = some ns from h)
    rw [intsD_tup e2]
    rfl
  | .none :: _, _, h => by cases h
  | .bool _ :: _, _, h => by cases h
  | .str _ :: _, _, h => by cases h
  | .list _ :: _, _, h => by cases h
  | .tuple _ :: _, _, h => by cases h
  | .dict _ :: _, _, h => by cases h
theorem srtD_list {l : List D} {d : D} (e : srtD l = some d) : ∃ m, d = .list m := by
  unfold srtD at e
  split at e
  · split at e
    · cases e
      exact ⟨_, rfl⟩
    · cases e
  · obtain ⟨ts, _, e⟩ := bind_inv e
    split at e
    · cases e
      exact ⟨_, rfl⟩
    · cases e
theorem tupsD_inv : ∀ {l : List D} {ts : List (List Int)}, tupsD l = some ts → l = ts.map tupL
  | [], ts, h => by
    cases h
    rfl
  | d :: r, ts, h => by
    obtain ⟨t, e1, h⟩ := bind_inv h
    obtain ⟨us, e2, rfl⟩ := map_inv h
    rw [tupsD_inv e2]
    cases d with
    | tuple m =>
      rw [intsD_tup (show intsD m = some t from e1)]
      rfl
    | _ => cases e1
theorem tOkB_of {d : Nat} {t : List Int} (h : tOkB d t = true) : t.length = d ∧ TS.Bd BT t := by
  obtain ⟨h1, h2⟩ := Bool.and_eq_true_iff.mp h
  exact ⟨of_decide_eq_true h1, fun m hm => of_decide_eq_true (List.all_eq_true.mp h2 m hm)⟩
theorem tupI_of {K : PySem.W.Frag} {G H : Hp} {x : V} {t : List Int} (s : Same G H) (h : Rp K G x (tupL t)) : TupI K H x t := by
  unfold tupL at h
  cases h with
  | tup h1 h2 => exact ⟨_, rfl, by rw [← h2.ints]; exact SqT_same s h1⟩
theorem RpAll.perm {K : PySem.W.Frag} {G : Hp} : ∀ {ys vs : List V}, ys.Perm vs → ∀ {l : List D}, RpAll K G vs l → ∃ l', l'.Perm l ∧ RpAll K G ys l' := by
  intro ys vs p
  induction p with
  | nil => exact fun h => ⟨_, List.Perm.refl _, h⟩
  | cons x _ ih =>
    intro l h
    cases h with
    | cons h1 h2 =>
      obtain ⟨l', p', r'⟩ := ih h2
      exact ⟨_ :: l', p'.cons _, .cons h1 r'⟩
  | swap x y z =>
    intro l h
    cases h with
    | cons h1 h2 =>
      cases h2 with
      | cons h3 h4 => exact ⟨_, List.Perm.swap _ _ _, .cons h3 (.cons h1 h4)⟩
  | trans _ _ ih1 ih2 =>
    intro l h
    obtain ⟨l1, p1, r1⟩ := ih2 h
    obtain ⟨l2, p2, r2⟩ := ih1 r1
    exact ⟨l2, p2.trans p1, r2⟩
theorem perm_map_inv {α β : Type} {f : α → β} {l' : List β} {k : List β} (h : l'.Perm k) : ∀ {l : List α}, l.map f = k → ∃ m : List α, l' = m.map f ∧ m.Perm l := by
  induction h with
  | nil => exact fun {l} e => ⟨[], rfl, by rw [List.map_eq_nil_iff.mp e]⟩
  | cons x _ ih =>
    intro l e
    cases l with
    | nil => cases e
    | cons a l =>
      cases e
      obtain ⟨m, rfl, pm⟩ := ih rfl
      exact ⟨a :: m, rfl, pm.cons a⟩
  | swap x y z =>
    intro l e
    cases l with
    | nil => cases e
    | cons a l =>
      cases l with
      | nil => cases e
      | cons b l =>
        cases e
        exact ⟨b :: a :: l, rfl, List.Perm.swap _ _ _⟩
  | trans _ _ ih1 ih2 =>
    intro l e
    obtain ⟨m, e1, pm⟩ := ih2 e
    obtain ⟨m2, e2, pm2⟩ := ih1 e1.symm
    exact ⟨m2, e2, pm2.trans pm⟩
theorem RpAll.pair {K : PySem.W.Frag} {G : Hp} {R : V → V → Prop} {S : D → D → Prop} (f : ∀ x y d e, Rp K G x d → Rp K G y e → R x y → S d e) : ∀ {ys : List V} {l : List D}, RpAll K G ys l → ys.Pairwise R → l.Pairwise S
  | _, _, .nil, _ => List.Pairwise.nil
  | x :: ys, d :: l, .cons h t, p => by
    obtain ⟨p1, p2⟩ := List.pairwise_cons.mp p
    refine List.pairwise_cons.mpr ⟨fun e he => ?_, RpAll.pair f t p2⟩
    obtain ⟨i, hi, ei⟩ := List.getElem_of_mem he
    obtain ⟨v, g1, g2⟩ := t.get (i := i) (d := e) (by rw [List.getElem?_eq_getElem hi, ei])
    exact f _ _ _ _ h g2 (p1 v (List.mem_of_getElem? g1))
theorem insT_perm (x : List Int) : ∀ l, (insT x l).Perm (x :: l)
  | [] => List.Perm.refl _
  | y :: r => by
    unfold insT
    split
    · exact List.Perm.refl _
    · exact ((insT_perm x r).cons y).trans (List.Perm.swap x y r)
theorem sortT_perm : ∀ l, (sortT l).Perm l
  | [] => List.Perm.refl _
  | x :: r => (insT_perm x _).trans ((sortT_perm r).cons x)
theorem insT_sorted (x : List Int) : ∀ {l : List (List Int)}, l.Pairwise (fun a b => TS.code BT a ≤ TS.code BT b) → (insT x l).Pairwise (fun a b => TS.code BT a ≤ TS.code BT b)
  | [], _ => by simp [insT]
  | y :: r, h => by
    unfold insT
    obtain ⟨h1, h2⟩ := List.pairwise_cons.mp h
    split
    · rename_i c
      refine List.pairwise_cons.mpr ⟨fun z hz => ?_, h⟩
      rcases List.mem_cons.mp hz with rfl | hz
      · exact c
      · exact Int.le_trans c (h1 z hz)
    · rename_i c
      refine List.pairwise_cons.mpr ⟨fun z hz => ?_, insT_sorted x h2⟩
      rcases List.mem_cons.mp ((insT_perm x r).mem_iff.mp hz) with rfl | hz
      · omega
      · exact h1 z hz
theorem sortT_sorted : ∀ l, (sortT l).Pairwise (fun a b => TS.code BT a ≤ TS.code BT b)
  | [] => List.Pairwise.nil
  | x :: r => insT_sorted x (sortT_sorted r)
theorem code_inj {B : Int} : ∀ {a b : List Int}, a.length = b.length → TS.Bd B a → TS.Bd B b → TS.code B a = TS.code B b → a = b
  | [], [], _, _, _, _ => rfl
  | [], _ :: _, h, _, _, _ => by simp at h
  | _ :: _, [], h, _, _, _ => by simp at h
  | d :: r, e :: q, h, h1, h2, hc => by
    have hl : r.length = q.length := by simpa using h
    rcases Int.lt_trichotomy d e with hd | hd | hd
    · have := TS.code_lt hl h1.tail h2.tail hd
      omega
    · subst hd
      have e2 : TS.code B r = TS.code B q := by
        have hc : d * B ^ r.length + TS.code B r = d * B ^ q.length + TS.code B q := hc
        rw [hl] at hc
        omega
      rw [code_inj hl h1.tail h2.tail e2]
    · have := TS.code_lt hl.symm h2.tail h1.tail hd
      omega
theorem sortT_one {a b : List (List Int)} {d : Nat} (h : a.Perm b) (h1 : a.Pairwise (fun a b => TS.code BT a ≤ TS.code BT b)) (h2 : b.Pairwise (fun a b => TS.code BT a ≤ TS.code BT b)) (ha : ∀ t ∈ a, t.length = d ∧ TS.Bd BT t) (hb : ∀ t ∈ b, t.length = d ∧ TS.Bd BT t) : a = b :=
  h.eq_of_pairwise (fun x y hx hy p q => code_inj ((ha x hx).1.trans (hb y hy).1.symm) (ha x hx).2 (hb y hy).2 (Int.le_antisymm p q)) h1 h2
end Vw
namespace Vw
open PySem PySem.Spec PyProof.Rows L2
/-! ### operations on lists and tuples, by the library's rules -/
theorem tuple_mul1 (l : Addr) (items : Array Value) (n : Nat) (sl : Array (Option Value)) (dd : Option Addr) (u : Tok) :
    Meets (Builtin.«tuple.__mul__» ⟨[.ref l, .int 1 u], []⟩) (fun _ R s => s.heap.get? l = some { cls := .type "tuple", dict := dd, data := .seq items n, slots := sl } ∧ R (.ok (.ret (Value.ref l))) s) :=
  .of_wp fun prog w A R s h => by
    obtain ⟨hp, g, d, tk, os⟩ := s
    obtain ⟨hl, h⟩ := h
    have f1 := AutoSeq1.idx_int
    have c0 : (decide ((1 : Int) < -(2 ^ 63)) || decide ((1 : Int) ≥ 2 ^ 63)) = false := by decide
    have c1 : (items.isEmpty || (1 : Int) == 1) = true := by simp
    wp_walk using wpAny_loadPart' hl
    repeat (first
      | (refine wpAny_ite_false (decide_eq_false (by rw [c0]; exact Bool.false_ne_true)) ?_; wp_walk using wpAny_loadPart' hl)
      | (rw [if_pos c1]; wp_walk using wpAny_loadPart' hl))
    exact ⟨_, rfl, h⟩
section
variable {X : Cx}
def rRep1 (K : PySem.W.Frag) : R2 := fun x y H Q => ∃ l xs, x = .ref l ∧ y = .int 1 ∧ SqT K H l xs ∧ Q (.ref l) H
theorem op_rep1 : OpR X (binaryOp .Mult) (rRep1 X.K) := by
  intro pins s σ H x y v u Q I rx ry h
  obtain ⟨l, xs, rfl, rfl, hT, q⟩ := h
  cases rx
  obtain ⟨t, rfl⟩ := ry
  obtain ⟨its, r, ⟨⟨cls, dd, data, sl⟩, ho, hc, n, hd⟩, hs⟩ := I.tuple hT
  simp only at hc hd
  subst hc hd
  refine wpAny_binaryOp_repeat_ref (T := "tuple") (U := "int") (by decide) ⟨_, ho, rfl⟩ (fun s' => typeIs_int s' 1 t) noFill_tuple_mul F.fills_int_mul F.slot_int_rmul repeat_tuple F.slot_int_index.lookup
    (call_meets F.slot_int_rmul (typeIs_int s 1 t) F.entry_int_rmul (F.args_int_rmul_2 _ _) (int_rmul_tuple 1 t l its.toArray n dd sl)
      ⟨ho, rfl, ⟨_, ho, rfl⟩, call_meets F.slot_tuple_mul ⟨_, ho, rfl⟩ F.entry_tuple_mul (F.args_tuple_mul_2 _ _) (tuple_mul1 l its.toArray n sl dd t) ⟨ho, ?_⟩⟩)
  exact ⟨.ref l, H, I, rfl, q⟩
theorem rd_lst {pins : List (Addr × Obj)} {σ : Sg} {H : Hp} {s : Shared} {l : Addr} {xs : List V} (I : Inv X pins σ H s) (h : Rd H l (.lst xs)) : xs.length ≤ sizeLine ∧ ∃ (its : List Value) (n : Nat), Vals xs its ∧ xs.length = its.length ∧ s.heap.get? l = some { cls := .type "list", data := .seq its.toArray n } := by
  obtain ⟨z, its, n, r, e⟩ := h.ok I.hok
  exact ⟨z, its, n, r, r.length, e⟩
def rCatS : R2 := fun x y H Q => ∃ l b xs zs, x = .ref l ∧ y = .ref b ∧ Rd H l (.lst xs) ∧ Rd H b (.lst zs) ∧ xs.length + zs.length ≤ sizeLine ∧ ∀ p, H p = none → Q (.ref p) (upd H p (.lst (xs ++ zs)))
theorem op_catS : OpR X (binaryOp .Add) rCatS := by
  intro pins s σ H x y v u Q I rx ry h
  obtain ⟨l, b, xs, zs, rfl, rfl, hH, hB, hz, q⟩ := h
  cases rx
  cases ry
  obtain ⟨z, its, n, r, hl, e⟩ := rd_lst I hH
  obtain ⟨z2, its2, n2, r2, hl2, e2⟩ := rd_lst I hB
  refine PySem.P.add_list e e2 ?_ (by rw [List.size_toArray, List.size_toArray]; omega)
  have ea : its.toArray ++ its2.toArray = (its ++ its2).toArray := by simp
  rw [ea]
  exact ⟨.ref _, _, I.lnew (t' := s.toks) (r.append r2) (by rw [List.length_append]; omega), rfl, q _ I.fresh⟩
def rRepS : R2 := fun x y H Q => ∃ l k xs, x = .ref l ∧ y = .int k ∧ Rd H l (.lst xs) ∧ -(2 ^ 63) ≤ k ∧ k < 2 ^ 63 ∧ xs.length * k.toNat ≤ sizeLine ∧
  ∀ p, H p = none → Q (.ref p) (upd H p (.lst (List.replicate k.toNat xs).flatten))
theorem op_repS : OpR X (binaryOp .Mult) rRepS := by
  intro pins s σ H x y v u Q I rx ry h
  obtain ⟨l, k, xs, rfl, rfl, hH, h1, h2, hz, q⟩ := h
  cases rx
  obtain ⟨t, rfl⟩ := ry
  obtain ⟨z, its, n, r, hl, e⟩ := rd_lst I hH
  have hlen : its.toArray.size * k.toNat ≤ sizeLine := by rw [List.size_toArray, ← hl]; exact hz
  have hcap : ¬ its.toArray.size * k.toNat > (2 ^ 63 - 1) / 8 := by
    have : (sizeLine : Nat) ≤ (2 ^ 63 - 1) / 8 := by decide
    omega
  have hfit : ¬ (!Builtin.List.listFitsIndex k) = true := by
    rw [fitsIndex_both h1 h2]
    exact Bool.false_ne_true
  have hlong : ¬ Builtin.List.listTooLong (its.toArray.size * k.toNat) = true := by
    rw [notLongL hlen]
    exact Bool.false_ne_true
  have hnew : List.foldl (fun x1 x2 => x1 ++ x2) #[] (List.replicate (if its.toArray.isEmpty = true then 0 else k.toNat) its.toArray) = (List.replicate k.toNat its).flatten.toArray := by
    have f0 : ∀ m : Nat, List.foldl (fun x1 x2 => x1 ++ x2) #[] (List.replicate m its.toArray) = (List.replicate m its).flatten.toArray := fun m => by
      have := foldl_rep its m []
      rw [List.nil_append] at this
      exact this
    rw [f0]
    cases its with
    | nil => simp
    | cons a r' => rw [if_neg (by simp)]
  refine wpAny_binaryOp_repeat_ref (T := "list") (U := "int") (by decide) ⟨_, e, rfl⟩ (fun s' => typeIs_int s' k t) noFill_list_mul F.fills_int_mul F.slot_int_rmul repeat_list F.slot_int_index.lookup
    (call_meets F.slot_int_rmul (typeIs_int s k t) F.entry_int_rmul (F.args_int_rmul_2 _ _) (int___rmul___int_list k t l its.toArray n)
      ⟨e, rfl, ⟨_, e, rfl⟩, call_meets F.slot_list_mul ⟨_, e, rfl⟩ F.entry_list_mul (F.args_list_mul_2 _ _) (AutoListH.list___mul___list_int_3 l its.toArray n k t hfit hcap hlong) ⟨e, ?_⟩⟩)
  rw [hnew]
  exact ⟨.ref _, _, I.lnew (t' := s.toks) (r.rep k.toNat) (by rw [PyProof.Rows.lm_len_rep_flat, Nat.mul_comm]; exact hz), rfl, q _ I.fresh⟩
end
theorem RpAll.flat {K : PySem.W.Frag} {G : Hp} {vs : List V} {ds : List D} (h : RpAll K G vs ds) : ∀ k : Nat, RpAll K G (List.replicate k vs).flatten (repN k ds)
  | 0 => .nil
  | k + 1 => by
    show RpAll K G (List.replicate (k + 1) vs).flatten (List.replicate (k + 1) ds).flatten
    rw [List.replicate_succ, List.replicate_succ, List.flatten_cons, List.flatten_cons]
    exact h.app (h.flat k)
theorem RpAll.cut {K : PySem.W.Frag} {G : Hp} {vs : List V} {ds : List D} (h : RpAll K G vs ds) (lo hi : Option Int) : RpAll K G (cutV vs lo hi) (cutD ds lo hi) := by
  unfold cutV cutD
  rw [h.len]
  exact (h.drop _).take _
theorem cutD_all {ds : List D} {lo hi : Option Int} (h : HT.sIx ds.length 0 lo = 0 ∧ HT.sIx ds.length ds.length hi = ds.length) : cutD ds lo hi = ds := by
  unfold cutD
  rw [h.1, h.2, List.drop_zero, Nat.sub_zero, List.take_length]
theorem intsD_inv : ∀ {l : List D} {ns : List Int}, intsD l = some ns → l = ns.map .int
  | [], ns, h => by cases h; rfl
  | .int i :: r, ns, h => by
    obtain ⟨m, e, rfl⟩ := map_inv h
    rw [intsD_inv e]
    rfl
  | .none :: _, _, h => nomatch h
  | .bool _ :: _, _, h => nomatch h
  | .str _ :: _, _, h => nomatch h
  | .list _ :: _, _, h => nomatch h
  | .tuple _ :: _, _, h => nomatch h
  | .dict _ :: _, _, h => nomatch h
theorem boolsD_inv : ∀ {l : List D} {ns : List Bool}, boolsD l = some ns → l = ns.map .bool
  | [], ns, h => by cases h; rfl
  | .bool i :: r, ns, h => by
    obtain ⟨m, e, rfl⟩ := map_inv h
    rw [boolsD_inv e]
    rfl
  | .none :: _, _, h => nomatch h
  | .int _ :: _, _, h => nomatch h
  | .str _ :: _, _, h => nomatch h
  | .list _ :: _, _, h => nomatch h
  | .tuple _ :: _, _, h => nomatch h
  | .dict _ :: _, _, h => nomatch h
theorem maxL_is : ∀ {l : List Int} {m k : Int}, maxL l = some m → k ∈ l → (∀ y, y ∈ l → y ≤ k) → k = m
  | [], _, _, h, _, _ => nomatch h
  | [x], m, k, h, hk, _ => by
    cases h
    simpa using hk
  | x :: y :: r, m, k, h, hk, hm => by
    obtain ⟨q, e, h⟩ := map_inv h
    have mem : ∀ {l : List Int} {q : Int}, maxL l = some q → q ∈ l ∧ ∀ z, z ∈ l → z ≤ q := by
      intro l
      induction l with
      | nil => intro q h; cases h
      | cons a l ih =>
        intro q h
        cases l with
        | nil =>
          cases h
          exact ⟨by simp, fun z hz => by simp at hz; omega⟩
        | cons b l =>
          obtain ⟨q', e', h'⟩ := map_inv h
          obtain ⟨i1, i2⟩ := ih e'
          have h' : (if a < q' then q' else a) = q := h'
          by_cases c : a < q'
          · rw [if_pos c] at h'
            subst h'
            refine ⟨List.mem_cons_of_mem _ i1, fun z hz => ?_⟩
            rcases List.mem_cons.mp hz with rfl | hz
            · omega
            · exact i2 z hz
          · rw [if_neg c] at h'
            subst h'
            refine ⟨List.mem_cons_self, fun z hz => ?_⟩
            rcases List.mem_cons.mp hz with rfl | hz
            · omega
            · have := i2 z hz
              omega
    obtain ⟨i1, i2⟩ := mem (l := x :: y :: r) (q := m) (by show Option.map _ _ = _; rw [e]; exact congrArg some h)
    have a1 := i2 k hk
    have a2 := hm m i1
    omega
theorem minL_is : ∀ {l : List Int} {m k : Int}, minL l = some m → k ∈ l → (∀ y, y ∈ l → k ≤ y) → k = m
  | [], _, _, h, _, _ => nomatch h
  | [x], m, k, h, hk, _ => by
    cases h
    simpa using hk
  | x :: y :: r, m, k, h, hk, hm => by
    obtain ⟨q, e, h⟩ := map_inv h
    have mem : ∀ {l : List Int} {q : Int}, minL l = some q → q ∈ l ∧ ∀ z, z ∈ l → q ≤ z := by
      intro l
      induction l with
      | nil => intro q h; cases h
      | cons a l ih =>
        intro q h
        cases l with
        | nil =>
          cases h
          exact ⟨by simp, fun z hz => by simp at hz; omega⟩
        | cons b l =>
          obtain ⟨q', e', h'⟩ := map_inv h
          obtain ⟨i1, i2⟩ := ih e'
          have h' : (if q' < a then q' else a) = q := h'
          by_cases c : q' < a
          · rw [if_pos c] at h'
            subst h'
            refine ⟨List.mem_cons_of_mem _ i1, fun z hz => ?_⟩
            rcases List.mem_cons.mp hz with rfl | hz
            · omega
            · exact i2 z hz
          · rw [if_neg c] at h'
            subst h'
            refine ⟨List.mem_cons_self, fun z hz => ?_⟩
            rcases List.mem_cons.mp hz with rfl | hz
            · omega
            · have := i2 z hz
              omega
    obtain ⟨i1, i2⟩ := mem (l := x :: y :: r) (q := m) (by show Option.map _ _ = _; rw [e]; exact congrArg some h)
    have a1 := i2 k hk
    have a2 := hm m i1
    omega
theorem insI_perm (x : Int) : ∀ l : List Int, (insI x l).Perm (x :: l)
  | [] => List.Perm.refl _
  | y :: r => by
    unfold insI
    split
    · exact List.Perm.refl _
    · exact ((insI_perm x r).cons y).trans (List.Perm.swap x y r)
theorem sortI_perm : ∀ l : List Int, (sortI l).Perm l
  | [] => List.Perm.refl _
  | x :: r => (insI_perm x _).trans ((sortI_perm r).cons x)
theorem insI_sorted (x : Int) : ∀ {l : List Int}, l.Pairwise (· ≤ ·) → (insI x l).Pairwise (· ≤ ·)
  | [], _ => by simp [insI]
  | y :: r, h => by
    unfold insI
    obtain ⟨h1, h2⟩ := List.pairwise_cons.mp h
    split
    · rename_i c
      refine List.pairwise_cons.mpr ⟨fun z hz => ?_, h⟩
      rcases List.mem_cons.mp hz with rfl | hz
      · exact c
      · exact Int.le_trans c (h1 z hz)
    · rename_i c
      refine List.pairwise_cons.mpr ⟨fun z hz => ?_, insI_sorted x h2⟩
      rcases List.mem_cons.mp ((insI_perm x r).mem_iff.mp hz) with rfl | hz
      · omega
      · exact h1 z hz
theorem sortI_sorted : ∀ l : List Int, (sortI l).Pairwise (· ≤ ·)
  | [] => List.Pairwise.nil
  | x :: r => insI_sorted x (sortI_sorted r)
theorem sorted_one {a b : List Int} (h : a.Perm b) (h1 : a.Pairwise (· ≤ ·)) (h2 : b.Pairwise (· ≤ ·)) : a = b :=
  h.eq_of_pairwise (fun x y _ _ p q => Int.le_antisymm p q) h1 h2
section
variable {X : Cx} {Φ : Cf} {fr : Fr} {Γ : List Ty} {w : Ty} {pos : Pos}
/-! ### a[i] -/
theorem plainIx_of {b : Expr} (h : (match b with | .Slice _ _ _ _ => false | _ => true) = true) : PlainIx b := by
  intro o i
  cases b <;> first | rfl | cases h
def notSlice : Expr → Bool
  | .Slice _ _ _ _ => false
  | _ => true
theorem plainIx_ns {b : Expr} (h : notSlice b = true) : PlainIx b := by
  intro o i
  cases b <;> first | rfl | cases h
theorem atI_rp {K : PySem.W.Frag} {G : Hp} {vs : List V} {l : List D} (h : RpAll K G vs l) {i : Int} {d : D} (e : atI l i = some d) : ∃ v, atI vs i = some v ∧ Rp K G v d := by
  unfold atI at e ⊢
  obtain ⟨j, e1, e2⟩ := bind_inv e
  obtain ⟨v, e3, r⟩ := h.get e2
  exact ⟨v, by rw [h.len, e1]; exact e3, r⟩
theorem ixL_inv {l : List D} {x d : D} (h : ixL l x = some d) : ∃ i, x = .int i ∧ atI l i = some d := by
  cases x with
  | int i => exact ⟨i, rfl, h⟩
  | _ => cases h
def rIxB (K : PySem.W.Frag) : R2 := fun x y H Q => rIxL K x y H Q ∨ rIxT K x y H Q
theorem ix_both : IxR X (rIxB X.K) := ix_list.or ix_tup
theorem ixD_sn {K : PySem.W.Frag} {G H : Hp} {x i d : D} {v u : V} {Q : VK} (s : Same G H) (h : Sn K G H x v) (hi : Rp K G u i) (e : ixD x i = some d) (q : ∀ z, Rp K G z d → Q z H) : rIxB K v u H Q := by
  cases x with
  | list l =>
    obtain ⟨k, rfl, e⟩ := ixL_inv e
    obtain ⟨a, vs, rfl, h1, h2⟩ := h.list s
    obtain ⟨z, e1, r⟩ := atI_rp h2 e
    cases hi
    exact .inl ⟨a, vs, k, z, rfl, rfl, .inl h1, e1, q z r⟩
  | tuple l =>
    obtain ⟨k, rfl, e⟩ := ixL_inv e
    obtain ⟨a, vs, rfl, h1, h2⟩ := h.tuple s
    obtain ⟨z, e1, r⟩ := atI_rp h2 e
    cases hi
    exact .inr ⟨a, vs, k, z, rfl, rfl, h1, e1, q z r⟩
  | _ => cases e
theorem e_ix {a b : Expr} {oa : O} {eb : E} (ha : PE X a (tO Φ fr X.K Γ oa)) (hb : PE X b (tE Φ fr X.K Γ .fro eb)) (hs : notSlice b = true) : PE X (.Subscript a b pos) (tE Φ fr X.K Γ .fro (.ix oa eb)) := by
  refine PE_mono (pe_ix ix_both ha hb (plainIx_ns hs)) fun σ H Q h => ?_
  obtain ⟨ρ, ts, r, sr, he, q⟩ := h
  obtain ⟨ra, e1, he⟩ := bind_inv he
  obtain ⟨rb, e2, he⟩ := bind_inv he
  obtain ⟨x, e3, he⟩ := bind_inv he
  obtain ⟨d, e4, rfl⟩ := map_inv he
  refine ⟨ρ, ts, ra, sr, e1, fun v H1 ts' s1 hd => ⟨ra.2, _, rb, s1, e2, fun u H2 s2 => ?_⟩⟩
  obtain ⟨G, F1, F2, y⟩ := id s2
  have ri := y.last1 rfl
  refine ixD_sn y.sub (y.sn hd e3) ri e4 fun z rz => q z H2 ?_
  obtain ⟨m, rfl⟩ := hd.pre
  rw [List.append_assoc] at y
  obtain ⟨F3, y2⟩ := y.drop
  exact ⟨_, _, _, y2.push rz⟩
/-! ### built-ins of one thing -/
theorem fin_list {G H : Hp} {F1 F2 : List Addr} {ρ : Rho} {σ : Sg} {ts ts' us : List Tm} {o : O} {v : V} {d : D} {vs : List V} {ds : List D} (y : SRd fr X.K G F1 F2 Γ ρ σ ts' H) (hd : Hold Γ σ o v d ts ts') (r : RpAll X.K G vs ds) (m : Made .fro w) {p : Addr} (hp : H p = none) :
    SR fr X.K Γ ρ σ (ts ++ [⟨w, .list ds, .ref p⟩]) (upd H p (.lst vs)) := by
  obtain ⟨k, rfl⟩ := hd.pre
  obtain ⟨F3, y2⟩ := y.drop
  exact y2.newList r m hp
def b1S : B1 → String
  | .len => "len"
  | .sum => "sum"
  | .mn => "min"
  | .mx => "max"
  | .srt => "sorted"
  | .all => "all"
  | .any => "any"
  | .abs => "abs"
  | .tup => "tuple"
  | .lst => "list"
  | .int => "int"
/-- is it a built-in class -/
def b1T : B1 → Bool
  | .tup => true
  | .lst => true
  | .int => true
  | _ => false
def b1V (f : B1) : Value := if b1T f then .type (b1S f) else .builtin (b1S f)
/-- what its reading asks: one thing v that reads as x, and b1D f x -/
def rB1 (K : PySem.W.Frag) (f : B1) : List V → Hp → VK → Prop := fun vs H Q => ∃ v x d G, vs = [v] ∧ Same G H ∧ Sn K G H x v ∧ b1D f x = some d ∧
  match d with
  | .list ds => ∀ p zs, H p = none → RpAll K G zs ds → Q (.ref p) (upd H p (.lst zs))
  | .tuple ds => (∀ z, Rp K G z d → Q z H) ∧ ∀ p zs, H p = none → RpAll K G zs ds → Q (.ref p) (upd H p (.tup zs))
  | _ => ∀ z, Rp K G z d → Q z H
theorem cr_b1 (hc : X.calm = true) : ∀ f : B1, CallR X (b1V f) (rB1 X.K f)
  | .len => by
    intro pins s σ H vs us Q I r h
    obtain ⟨v, x, d, G, rfl, sG, sn, e, q⟩ := h
    have go : ∀ l, seqD x = some l → d = .int l.length → wpAny (model X.prog X.w) X.A (call (b1V .len) us) (EP X pins σ Q) X.xe s := fun l e2 e3 => by
      subst e3
      obtain ⟨a, ws, rfl, h1, h2⟩ := sn.seq sG e2
      exact call_len_seq pins s σ H _ us Q I r ⟨a, ws, rfl, h1, by rw [h2.len]; exact q _ (.int _)⟩
    cases x <;> first
      | (cases e; done)
      | (cases e; exact go _ rfl rfl)
  | .tup => by
    intro pins s σ H vs us Q I r h
    obtain ⟨v, x, d, G, rfl, sG, sn, e, q⟩ := h
    cases x with
    | list l =>
      cases e
      obtain ⟨a, ws, rfl, h1, h2⟩ := sn.list sG
      exact call_tuple_of pins s σ H _ us Q I r ⟨a, ws, rfl, .inl ⟨.inl h1, fun p hp => q.2 p ws hp h2⟩⟩
    | tuple l =>
      cases e
      obtain ⟨a, ws, rfl, h1, h2⟩ := sn.tuple sG
      refine call_tuple_of pins s σ H _ us Q I r ⟨a, ws, rfl, .inr ⟨h1, q.1 _ ?_⟩⟩
      rcases sn with sn | ⟨_, _, _, e, _⟩
      · exact sn
      · cases e
    | _ => cases e
  | .lst => by
    intro pins s σ H vs us Q I r h
    obtain ⟨v, x, d, G, rfl, sG, sn, e, q⟩ := h
    cases x with
    | list l =>
      cases e
      obtain ⟨a, ws, rfl, h1, h2⟩ := sn.list sG
      exact call_list_of pins s σ H _ us Q I r ⟨a, ws, rfl, .inl (.inl h1), fun p hp => q p ws hp h2⟩
    | tuple l =>
      cases e
      obtain ⟨a, ws, rfl, h1, h2⟩ := sn.tuple sG
      exact call_list_of pins s σ H _ us Q I r ⟨a, ws, rfl, .inr h1, fun p hp => q p ws hp h2⟩
    | _ => cases e
  | .sum => by
    intro pins s σ H vs us Q I r h
    obtain ⟨v, x, d, G, rfl, sG, sn, e, q⟩ := h
    cases x with
    | list l =>
      obtain ⟨ns, e1, rfl⟩ := map_inv e
      obtain ⟨a, ws, rfl, h1, h2⟩ := sn.list sG
      rw [intsD_inv e1] at h2
      rw [h2.ints] at h1
      exact cr_sum hc pins s σ H _ us Q I r ⟨a, ns, rfl, .inl h1, q _ (.int _)⟩
    | _ => cases e
  | .mn => by
    intro pins s σ H vs us Q I r h
    obtain ⟨v, x, d, G, rfl, sG, sn, e, q⟩ := h
    cases x with
    | list l =>
      obtain ⟨ns, e1, e⟩ := bind_inv e
      obtain ⟨m, e2, rfl⟩ := map_inv e
      obtain ⟨a, ws, rfl, h1, h2⟩ := sn.list sG
      rw [intsD_inv e1] at h2
      rw [h2.ints] at h1
      refine cr_min hc pins s σ H _ us Q I r ⟨a, ns, rfl, .inl h1, ?_, fun k hk hm => ?_⟩
      · cases ns with
        | nil => cases e2
        | cons _ _ => simp
      · rw [minL_is e2 hk hm]
        exact q _ (.int _)
    | _ => cases e
  | .mx => by
    intro pins s σ H vs us Q I r h
    obtain ⟨v, x, d, G, rfl, sG, sn, e, q⟩ := h
    cases x with
    | list l =>
      obtain ⟨ns, e1, e⟩ := bind_inv e
      obtain ⟨m, e2, rfl⟩ := map_inv e
      obtain ⟨a, ws, rfl, h1, h2⟩ := sn.list sG
      rw [intsD_inv e1] at h2
      rw [h2.ints] at h1
      refine cr_max hc pins s σ H _ us Q I r ⟨a, ns, rfl, .inl h1, ?_, fun k hk hm => ?_⟩
      · cases ns with
        | nil => cases e2
        | cons _ _ => simp
      · rw [maxL_is e2 hk hm]
        exact q _ (.int _)
    | _ => cases e
  | .srt => by
    intro pins s σ H vs us Q I r h
    obtain ⟨v, x, d, G, rfl, sG, sn, e, q⟩ := h
    cases x with
    | list l =>
      have e : srtD l = some d := e
      obtain ⟨a, ws, rfl, h1, h2⟩ := sn.list sG
      unfold srtD at e
      cases e1 : intsD l with
      | some ns =>
        rw [e1] at e
        have e : (if ns.length < 64 then some (PyData.list ((sortI ns).map .int)) else none) = some d := e
        split at e
        · rename_i c
          cases e
          rw [intsD_inv e1] at h2
          rw [h2.ints] at h1
          refine cr_sorted pins s σ H _ us Q I r ⟨a, ns, rfl, .inl h1, c, fun ns' p pm srt hp => ?_⟩
          rw [sorted_one (pm.trans (sortI_perm ns).symm) srt (sortI_sorted ns)]
          exact q p _ hp (RpAll.of_ints _)
        · cases e
      | none =>
        rw [e1] at e
        obtain ⟨ts, e2, e⟩ := bind_inv (show (tupsD l).bind _ = some d from e)
        split at e
        · rename_i c
          cases e
          obtain ⟨c1, c2, c3⟩ := c
          have el := tupsD_inv e2
          subst el
          have hb : ∀ t ∈ ts, t.length = (ts.headD []).length ∧ TS.Bd BT t := fun t ht => tOkB_of (List.all_eq_true.mp c3 t ht)
          refine cr_sortT (B := BT) c2 pins s σ H _ us Q I r ⟨a, ws, rfl, .inl h1, by rw [h2.len, List.length_map]; exact c1, fun x hx => ?_, fun ys p pm srt hp => ?_⟩
          · obtain ⟨i, hi, ex⟩ := List.getElem_of_mem hx
            obtain ⟨dd, g1, g2⟩ := h2.get' (i := i) (v := x) (by rw [List.getElem?_eq_getElem hi, ex])
            obtain ⟨t, ht, rfl⟩ := List.mem_map.mp (List.mem_of_getElem? g1)
            obtain ⟨k1, k2⟩ := hb t ht
            exact ⟨t, tupI_of sG g2, k1, k2⟩
          · obtain ⟨l', pl, rl⟩ := h2.perm pm
            obtain ⟨ts', rfl, pt⟩ := perm_map_inv pl rfl
            have hts : ts' = sortT ts := by
              refine sortT_one (pt.trans (sortT_perm ts).symm) ?_ (sortT_sorted ts) (fun t ht => hb t (pt.mem_iff.mp ht)) (fun t ht => hb t ((sortT_perm ts).mem_iff.mp ht))
              have := RpAll.pair (S := fun d e => ∀ t u, d = tupL t → e = tupL u → TS.code BT t ≤ TS.code BT u) (fun x y d1 d2 r1 r2 hxy t u e1 e2 => by
                subst e1 e2
                exact hxy t u (tupI_of sG r1) (tupI_of sG r2)) rl srt
              rw [List.pairwise_map] at this
              exact this.imp fun h => h _ _ rfl rfl
            rw [hts] at rl
            exact q p _ hp rl
        · cases e
    | _ => cases e
  | .all => by
    intro pins s σ H vs us Q I r h
    obtain ⟨v, x, d, G, rfl, sG, sn, e, q⟩ := h
    cases x with
    | list l =>
      obtain ⟨ns, e1, rfl⟩ := map_inv e
      obtain ⟨a, ws, rfl, h1, h2⟩ := sn.list sG
      rw [boolsD_inv e1] at h2
      rw [h2.bls] at h1
      exact cr_all hc pins s σ H _ us Q I r ⟨a, ns, rfl, .inl h1, q _ (.bl _)⟩
    | _ => cases e
  | .any => by
    intro pins s σ H vs us Q I r h
    obtain ⟨v, x, d, G, rfl, sG, sn, e, q⟩ := h
    cases x with
    | list l =>
      obtain ⟨ns, e1, rfl⟩ := map_inv e
      obtain ⟨a, ws, rfl, h1, h2⟩ := sn.list sG
      rw [boolsD_inv e1] at h2
      rw [h2.bls] at h1
      exact cr_any hc pins s σ H _ us Q I r ⟨a, ns, rfl, .inl h1, q _ (.bl _)⟩
    | _ => cases e
  | .abs => by
    intro pins s σ H vs us Q I r h
    obtain ⟨v, x, d, G, rfl, sG, sn, e, q⟩ := h
    cases x with
    | int i =>
      cases e
      rcases sn with sn | ⟨_, _, _, e, _⟩
      · cases sn
        exact call_abs pins s σ H _ us Q I r ⟨i, rfl, q _ (.int _)⟩
      · cases e
    | _ => cases e
  | .int => by
    intro pins s σ H vs us Q I r h
    obtain ⟨v, x, d, G, rfl, sG, sn, e, q⟩ := h
    cases x with
    | int i =>
      cases e
      rcases sn with sn | ⟨_, _, _, e, _⟩
      · cases sn
        exact call_int1 pins s σ H _ us Q I r (.inl ⟨i, rfl, q _ (.int _)⟩)
      · cases e
    | bool i =>
      cases e
      rcases sn with sn | ⟨_, _, _, e, _⟩
      · cases sn
        exact call_int1 pins s σ H _ us Q I r (.inr ⟨i, rfl, q _ (.int _)⟩)
      · cases e
    | _ => cases e
end
end Vw
namespace Vw
open PySem PySem.Spec PyProof.Rows L2
section
variable {fr : Fr} {K : PySem.W.Frag} {G H : Hp} {F1 F2 : List Addr} {Γ : List Ty} {ρ : Rho} {σ : Sg} {ts us : List Tm}
/-- what is written at an owned address leaves the rest -/
theorem SRd.write {x1 x2 : Tm} {a : Addr} {o : HO} (x : SRd fr K G F1 F2 Γ ρ σ (ts ++ [x1]) H) (ha : ∀ F, Own K G H x1.t x1.d x1.v F → F.Nodup → a ∈ F ∧ Own K G (upd H a o) x2.t x2.d x2.v F) :
    SRd fr K G F1 F2 Γ ρ σ (ts ++ [x2]) (upd H a o) := by
  obtain ⟨F3, F4, e, p, q⟩ := x.tm.app
  have nd := x.nd
  rw [e, ← List.append_assoc] at nd
  obtain ⟨nd1, nd2, dj⟩ := List.nodup_append.mp nd
  obtain ⟨a4, ow⟩ := ha F4 q.one nd2
  have ain : a ∈ F1 ++ F2 := by
    rw [e]
    exact List.mem_append_right _ (List.mem_append_right _ a4)
  have out : ∀ b ∈ F1 ++ F3, upd H a o b = H b := fun b hb => upd_ne (dj b hb a a4)
  refine ⟨fun b u eb => ?_, x.sl.stay (Same.refl G) (fun b hb => out b (List.mem_append_left _ hb)), ?_, x.nd, x.out, ?_⟩
  · rw [upd_ne (ne_of_none eb (x.out a ain).1)]
    exact x.sub _ _ eb
  · rw [e]
    exact (p.stay (Same.refl G) (fun b hb => out b (List.mem_append_right _ hb))).of_app (TmF.of_one ow)
  · refine ⟨fun b u eb hF => ?_, fun b eb => ?_, x.ok.sG, x.ok.nG, x.ok.pin, x.ok.tab.upd (.inr (x.there a ain))⟩
    · have hb : b ≠ a := fun z => by
        subst z
        rcases (x.out b ain).2 with h | h
        · exact hF h
        · rw [h] at eb
          cases eb
      exact (x.ok.keep b u eb hF).upd hb
    · by_cases hb : b = a
      · subst hb
        rw [upd_same] at eb
        cases eb
      · rw [upd_ne hb] at eb
        exact x.ok.mono b eb
/-- a slot's own list: it may be changed in its place -/
theorem SRd.slotMut (x : SRd fr K G F1 F2 Γ ρ σ ts H) {i : Nat} {l : List D} (h : get ρ i = some (.list l)) (hw : Γ[i]? = some (.lst .fro)) :
    ∃ a vs, σ[i]? = some (some (.ref a)) ∧ H a = some (.lst vs) ∧ RpAll K G vs l ∧ ∀ vs' l', RpAll K G vs' l' → SR fr K Γ (put ρ i (.list l')) σ ts (upd H a (.lst vs')) := by
  obtain ⟨t, v, F3, F4, e1, e2, y⟩ := x.takeOut h
  rw [hw] at e1
  cases e1
  obtain ⟨F5, F6, e, p, q⟩ := y.tm.app
  rcases q.one with ⟨s, _, _⟩ | ⟨ds, a, vs, F', q1, q2, q3, q4, q5⟩
  · cases s
  · cases q1
    have q2 : v = .ref a := q2
    subst q2
    refine ⟨a, vs, e2, q4, q5.fro.2, fun vs' l' r => ?_⟩
    have z := y.write (a := a) (o := .lst vs') (x2 := ⟨.lst .fro, .list l', .ref a⟩) fun F ow nd => by
      rcases ow with ⟨s, _, _⟩ | ⟨ds2, a2, vs2, F2', p1, p2, p3, p4, p5⟩
      · cases s
      · cases p2
        obtain ⟨e0, _⟩ := p5.fro
        subst e0
        subst p3
        exact ⟨List.mem_cons_self, .inr ⟨_, a, vs', [], rfl, rfl, rfl, upd_same, AllF.of_fro r⟩⟩
    have hl : i < ρ.length := (List.getElem?_eq_some_iff.mp (get_some h)).1
    obtain ⟨F7, F8, z2⟩ := z.putBack (by rw [List.getElem?_set_self hl]) hw e2
    have e3 : put (ρ.set i none) i (.list l') = put ρ i (.list l') := by
      unfold put
      rw [List.set_set]
    rw [e3] at z2
    exact ⟨_, _, _, z2⟩
theorem AllF.at {P : D → V → List Addr → Prop} : ∀ {ds : List D} {vs : List V} {F : List Addr} {k : Nat} {d : D}, AllF P ds vs F → ds[k]? = some d →
    ∃ v Fk, vs[k]? = some v ∧ P d v Fk ∧ (∀ a ∈ Fk, a ∈ F) ∧ (F.Nodup → ∀ P' d', (∀ e u F', (∀ a ∈ F', a ∉ Fk) → P e u F' → P' e u F') → P' d' v Fk → AllF P' (ds.set k d') vs F)
  | d :: ds, v :: vs, F, 0, d', ⟨F1, F2, e, p, q⟩, ed => by
    have ed : d = d' := by simpa using ed
    subst ed
    refine ⟨v, F1, rfl, p, fun a ha => by rw [e]; exact List.mem_append_left _ ha, fun nd P' d2 hP p2 => ⟨F1, F2, e, p2, ?_⟩⟩
    rw [e] at nd
    refine q.mono fun e u F' hF h => hP e u F' (fun a ha hb => (List.nodup_append.mp nd).2.2 a hb a (hF a ha) rfl) h
  | d :: ds, v :: vs, F, k + 1, d', ⟨F1, F2, e, p, q⟩, ed => by
    obtain ⟨v2, Fk, e1, p1, i1, r⟩ := AllF.at (k := k) (d := d') q (by simpa using ed)
    refine ⟨v2, Fk, by simpa using e1, p1, fun a ha => by rw [e]; exact List.mem_append_right _ (i1 a ha), fun nd P' d2 hP p2 => ?_⟩
    rw [e] at nd
    refine ⟨F1, F2, e, hP _ _ _ (fun a ha hb => (List.nodup_append.mp nd).2.2 a ha a (i1 a hb) rfl) p, r (List.nodup_append.mp nd).2.1 P' d2 hP p2⟩
  | [], _, _, _, _, h, ed => by simp at ed
  | _ :: _, [], _, _, _, h, _ => h.elim
/-- a slot's own list of own lists: an inner one may be changed in its place -/
theorem SRd.slotMut2 (x : SRd fr K G F1 F2 Γ ρ σ ts H) {i k : Nat} {m l : List D} (h : get ρ i = some (.list m)) (hk : m[k]? = some (.list l)) (hw : Γ[i]? = some (.lst (.lst .fro))) :
    ∃ a b vs ws, σ[i]? = some (some (.ref a)) ∧ H a = some (.lst vs) ∧ vs.length = m.length ∧ vs[k]? = some (.ref b) ∧ H b = some (.lst ws) ∧ RpAll K G ws l ∧
      ∀ ws' l', RpAll K G ws' l' → SR fr K Γ (put ρ i (.list (m.set k (.list l')))) σ ts (upd H b (.lst ws')) := by
  obtain ⟨t, v, F3, F4, e1, e2, y⟩ := x.takeOut h
  rw [hw] at e1
  cases e1
  obtain ⟨F5, F6, e, p, q⟩ := y.tm.app
  rcases q.one with ⟨s, _, _⟩ | ⟨ds, a, vs, F', q1, q2, q3, q4, q5⟩
  · cases s
  · cases q1
    have q2 : v = .ref a := q2
    subst q2
    obtain ⟨u, Fk, e3, o1, i1, _⟩ := q5.at hk
    rcases o1 with ⟨s, _, _⟩ | ⟨ds1, b, ws, Fb, r1, r2, r3, r4, r5⟩
    · cases s
    · cases r1
      subst r2
      refine ⟨a, b, vs, ws, e2, q4, q5.len, e3, r4, r5.fro.2, fun ws' l' r => ?_⟩
      have z := y.write (a := b) (o := .lst ws') (x2 := ⟨.lst (.lst .fro), .list (m.set k (.list l')), .ref a⟩) fun F ow nd => by
        rcases ow with ⟨s, _, _⟩ | ⟨ds2, a2, vs2, F2', p1, p2, p3, p4, p5⟩
        · cases s
        · cases p1
          cases p2
          have ev : vs2 = vs := by
            rw [q4] at p4
            cases p4
            rfl
          subst ev
          obtain ⟨u', Fk', e3', o1', i1', st⟩ := p5.at hk
          rw [e3] at e3'
          cases e3'
          rcases o1' with ⟨s, _, _⟩ | ⟨ds1', b', ws1, Fb', r1', r2', r3', r4', r5'⟩
          · cases s
          · cases r1'
            cases r2'
            obtain ⟨e0, _⟩ := r5'.fro
            subst e0
            subst p3
            obtain ⟨na, nd2⟩ := List.nodup_cons.mp nd
            have bF : b ∈ F2' := i1' b (by rw [r3']; exact List.mem_cons_self)
            have ab : a ≠ b := fun z => na (z ▸ bF)
            refine ⟨List.mem_cons_of_mem _ bF, .inr ⟨_, a, vs2, F2', rfl, rfl, rfl, by rw [upd_ne ab]; exact p4, ?_⟩⟩
            refine st nd2 _ _ (fun e u F' hF ho => ho.stay (Same.refl G) fun c hc => upd_ne fun z => hF c hc ?_) ?_
            · rw [r3', z]
              exact List.mem_cons_self
            · exact .inr ⟨_, b, ws', [], rfl, rfl, r3', upd_same, AllF.of_fro r⟩
      have hl : i < ρ.length := (List.getElem?_eq_some_iff.mp (get_some h)).1
      obtain ⟨F7, F8, z2⟩ := z.putBack (by rw [List.getElem?_set_self hl]) hw e2
      have e4 : put (ρ.set i none) i (.list (m.set k (.list l'))) = put ρ i (.list (m.set k (.list l'))) := by
        unfold put
        rw [List.set_set]
      rw [e4] at z2
      exact ⟨_, _, _, z2⟩
end
section
variable {X : Cx} {Φ : Cf} {fr : Fr} {Γ : List Ty} {w : Ty} {pos : Pos}
/-! ### calls of built-ins -/
theorem b1_boot : ∀ f : B1, bootBuiltins (PySem.Str.ofString (b1S f)) = some (b1V f)
  | .len => by decide +kernel
  | .tup => by decide +kernel
  | .lst => by decide +kernel
  | .sum => by decide +kernel
  | .mn => by decide +kernel
  | .mx => by decide +kernel
  | .srt => by decide +kernel
  | .all => by decide +kernel
  | .any => by decide +kernel
  | .abs => by decide +kernel
  | .int => by decide +kernel
theorem star_any1 {e : Expr} {env : Env} {p : Pos} : (backTo p (starEach [] env)).any (·.1) = false := rfl
theorem pe_b1 (hc : X.calm = true) (f : B1) {a : Expr} {ta : TE} {p : Pos} (ha : PE X a ta) (hs : noStar a = true) (hg : Gl X (PySem.Str.ofString (b1S f))) (hm : X.mg (PySem.Str.ofString (b1S f)) = none) :
    PE X (.Call (.Name (PySem.Str.ofString (b1S f)) p) [a] [] pos) (tCB (rB1 X.K f) (tCons ta tNil)) := by
  have hA := pa_cons ha pa_nil (star_cons (env := X.env) hs)
  cases f with
  | len => exact pe_callB (id := "len") (cr_b1 hc .len) hg hm (b1_boot .len) hA (by decide) (by decide) (star_cons hs) rfl
  | tup => exact pe_callTy (T := "tuple") (cr_b1 hc .tup) hg hm (b1_boot .tup) hA (by decide) (by decide) (star_cons hs) rfl
  | lst => exact pe_callTy (T := "list") (cr_b1 hc .lst) hg hm (b1_boot .lst) hA (by decide) (by decide) (star_cons hs) rfl
  | sum => exact pe_callB (id := "sum") (cr_b1 hc .sum) hg hm (b1_boot .sum) hA (by decide) (by decide) (star_cons hs) rfl
  | mn => exact pe_callB (id := "min") (cr_b1 hc .mn) hg hm (b1_boot .mn) hA (by decide) (by decide) (star_cons hs) rfl
  | mx => exact pe_callB (id := "max") (cr_b1 hc .mx) hg hm (b1_boot .mx) hA (by decide) (by decide) (star_cons hs) rfl
  | srt => exact pe_callB (id := "sorted") (cr_b1 hc .srt) hg hm (b1_boot .srt) hA (by decide) (by decide) (star_cons hs) rfl
  | all => exact pe_callB (id := "all") (cr_b1 hc .all) hg hm (b1_boot .all) hA (by decide) (by decide) (star_cons hs) rfl
  | any => exact pe_callB (id := "any") (cr_b1 hc .any) hg hm (b1_boot .any) hA (by decide) (by decide) (star_cons hs) rfl
  | abs => exact pe_callB (id := "abs") (cr_b1 hc .abs) hg hm (b1_boot .abs) hA (by decide) (by decide) (star_cons hs) rfl
  | int => exact pe_callTy (T := "int") (cr_b1 hc .int) hg hm (b1_boot .int) hA (by decide) (by decide) (star_cons hs) rfl
/-- whom its result may belong to -/
def okB1 (f : B1) (w : Ty) : Bool := match f with
  | .tup => decide (w = .fro)
  | .lst => decide (w = .fro ∨ w = .lst .fro)
  | .srt => decide (w = .fro ∨ w = .lst .fro)
  | _ => true
theorem made_of {w : Ty} (h : w = .fro ∨ w = .lst .fro) : Made .fro w := by
  rcases h with h | h
  · exact .inr ⟨h, rfl⟩
  · exact .inl h
theorem b1D_ok {f : B1} {w : Ty} (h : okB1 f w = true) {x d : D} (e : b1D f x = some d) : match d with
    | .list _ => Made .fro w
    | .tuple _ => w = .fro
    | _ => scalar d = true := by
  cases f <;> cases x <;> first
    | (cases e; done)
    | (cases e; exact of_decide_eq_true h)
    | (cases e; exact made_of (of_decide_eq_true h))
    | (cases e; rfl)
    | (obtain ⟨ns, _, rfl⟩ := map_inv e; rfl)
    | (obtain ⟨ns, _, e2⟩ := bind_inv e; obtain ⟨m, _, rfl⟩ := map_inv e2; rfl)
    | (obtain ⟨ns, rfl⟩ := srtD_list e; exact made_of (of_decide_eq_true h))
theorem e_b1 (hc : X.calm = true) (f : B1) {a : Expr} {oa : O} {p : Pos} (ha : PE X a (tO Φ fr X.K Γ oa)) (hs : noStar a = true) (hg : Gl X (PySem.Str.ofString (b1S f))) (hm : X.mg (PySem.Str.ofString (b1S f)) = none) (hw : okB1 f w = true) :
    PE X (.Call (.Name (PySem.Str.ofString (b1S f)) p) [a] [] pos) (tE Φ fr X.K Γ w (.b1 f oa)) := by
  refine PE_mono (pe_b1 hc f ha hs hg hm) fun σ H Q h => ?_
  obtain ⟨ρ, ts, r, sr, he, q⟩ := h
  obtain ⟨ra, e1, he⟩ := bind_inv he
  obtain ⟨d, e2, rfl⟩ := map_inv he
  refine ⟨ρ, ts, ra, sr, e1, fun v H1 ts' s1 hd => ?_⟩
  obtain ⟨G, F1, F2, y⟩ := id s1
  have y' : SRd fr X.K G F1 F2 Γ ra.2 σ (ts' ++ []) H1 := by rw [List.append_nil]; exact y
  have lt : lateD Φ oa ra.1 ra.2 = some ra.1 := by
    cases oa with
    | e a => rfl
    | s i =>
      obtain ⟨d', e3, rfl⟩ := map_inv (show (get ρ i).map (fun d => (d, ρ)) = some ra from e1)
      exact e3
  have sn := y'.sn hd lt
  have k := b1D_ok hw e2
  obtain ⟨k2, rfl⟩ := hd.pre
  obtain ⟨F3, y2⟩ := y.drop
  refine ⟨v, ra.1, d, G, rfl, y.sub, sn, e2, ?_⟩
  cases d with
  | list ds => exact fun p zs hp rs => q _ _ (y2.newList rs k hp)
  | tuple ds =>
    have k : w = .fro := k
    subst k
    exact ⟨fun z rz => q _ _ ⟨_, _, _, y2.push rz⟩, fun p zs hp rs => q _ _ (y2.newTup rs hp)⟩
  | none => exact fun z rz => q _ _ ⟨_, _, _, y2.pushS rfl rz⟩
  | bool _ => exact fun z rz => q _ _ ⟨_, _, _, y2.pushS rfl rz⟩
  | int _ => exact fun z rz => q _ _ ⟨_, _, _, y2.pushS rfl rz⟩
  | str _ => exact fun z rz => q _ _ ⟨_, _, _, y2.pushS rfl rz⟩
  | dict _ => cases k
def b2S : B2 → String
  | .mn => "min"
  | .mx => "max"
def rB2 (f : B2) : List V → Hp → VK → Prop := fun vs H Q => ∃ i j k, vs = [.int i, .int j] ∧ b2D f (.int i) (.int j) = some (.int k) ∧ Q (.int k) H
theorem cr_b2 (hc : X.calm = true) : ∀ f : B2, CallR X (.builtin (b2S f)) (rB2 f)
  | .mn => by
    intro pins s σ H vs us Q I r h
    obtain ⟨i, j, k, rfl, e, q⟩ := h
    cases e
    exact call_min2 hc pins s σ H _ us Q I r ⟨i, j, rfl, q⟩
  | .mx => by
    intro pins s σ H vs us Q I r h
    obtain ⟨i, j, k, rfl, e, q⟩ := h
    cases e
    exact call_max2 hc pins s σ H _ us Q I r ⟨i, j, rfl, q⟩
theorem b2_boot : ∀ f : B2, bootBuiltins (PySem.Str.ofString (b2S f)) = some (.builtin (b2S f))
  | .mn => by decide +kernel
  | .mx => by decide +kernel
theorem b2D_inv {f : B2} {x y z : D} (h : b2D f x y = some z) : ∃ i j k, x = .int i ∧ y = .int j ∧ z = .int k := by
  cases f <;> cases x <;> cases y <;> first
    | (cases h; done)
    | (cases h; exact ⟨_, _, _, rfl, rfl, rfl⟩)
theorem plain_cons {e : Expr} {es : List Expr} {env : Env} {p : Pos} (h : noStar e = true) (h2 : (backTo p (starEach es env)).any (·.1) = false) : (backTo p (starEach (e :: es) env)).any (·.1) = false := by
  rw [star_cons h]
  show (false || (backTo p (starEach es env)).any (·.1)) = false
  rw [h2]
  rfl
theorem e_b2 (hc : X.calm = true) (f : B2) {a b : Expr} {ea eb : E} {p : Pos} (ha : PE X a (tE Φ fr X.K Γ .fro ea)) (hb : PE X b (tE Φ fr X.K Γ .fro eb)) (hs : noStar a = true) (hs2 : noStar b = true) (hg : Gl X (PySem.Str.ofString (b2S f))) (hm : X.mg (PySem.Str.ofString (b2S f)) = none) :
    PE X (.Call (.Name (PySem.Str.ofString (b2S f)) p) [a, b] [] pos) (tE Φ fr X.K Γ w (.b2 f ea eb)) := by
  have hA : PA X [a, b] _ := pa_cons ha (pa_cons hb pa_nil (star_cons (env := X.env) hs2)) (star_cons (env := X.env) hs)
  have hn : PySem.Str.ofString (b2S f) ≠ "__name__" := by cases f <;> decide
  have hd : (PySem.Str.ofString (b2S f) == ("__debug__" : Str)) = false := by cases f <;> decide
  refine PE_mono (pe_callB (cr_b2 hc f) hg hm (b2_boot f) hA hn hd (star_cons hs) (plain_cons hs2 rfl)) fun σ H Q h => ?_
  obtain ⟨ρ, ts, r, sr, he, q⟩ := h
  obtain ⟨ra, e1, he⟩ := bind_inv he
  obtain ⟨rb, e2, he⟩ := bind_inv he
  obtain ⟨d, e3, rfl⟩ := map_inv he
  refine ⟨ρ, ts, ra, sr, e1, fun v H1 s1 => ⟨ra.2, _, rb, s1, e2, fun u H2 s2 => ?_⟩⟩
  obtain ⟨G, F1, F2, y⟩ := id s2
  have rp := y.last2 rfl rfl
  obtain ⟨i, j, k, q1, q2, q3⟩ := b2D_inv e3
  obtain ⟨d1, ρ1⟩ := ra
  obtain ⟨d2, ρ2⟩ := rb
  have q1 : d1 = .int i := q1
  have q2 : d2 = .int j := q2
  subst q1 q2 q3
  obtain ⟨r1, r2⟩ := rp
  cases r1
  cases r2
  exact ⟨i, j, k, rfl, e3, q _ _ (s2.drop.drop.res rfl fun G => .int _)⟩
/-! ### in -/
theorem rp_flat {K : PySem.W.Frag} {G : Hp} {x : D} {v : V} (h : Rp K G v x) (f : flatD x = true) : flatV v = true := by
  cases h <;> first | rfl | cases f
theorem rp_eqV {K : PySem.W.Frag} {G : Hp} {x y : D} {v u : V} (h : Rp K G v x) (h2 : Rp K G u y) (f : flatD x = true) (f2 : flatD y = true) : eqV v u = PyData.eqv x y := by
  cases h <;> cases h2 <;> first
    | rfl
    | (cases f; done)
    | (cases f2; done)
    | (simp [eqV, PyData.eqv])
theorem rp_flats {K : PySem.W.Frag} {G : Hp} : ∀ {vs : List V} {l : List D}, RpAll K G vs l → l.all flatD = true → vs.all flatV = true
  | _, _, .nil, _ => rfl
  | _, _, .cons h t, f => by
    simp only [List.all_cons, Bool.and_eq_true] at f ⊢
    exact ⟨rp_flat h f.1, rp_flats t f.2⟩
theorem rp_any {K : PySem.W.Frag} {G : Hp} {x : D} {v : V} (h : Rp K G v x) (f : flatD x = true) : ∀ {vs : List V} {l : List D}, RpAll K G vs l → l.all flatD = true → inV v vs = l.any fun e => PyData.eqv e x
  | _, _, .nil, _ => rfl
  | _, _, .cons h2 t, f2 => by
    simp only [List.all_cons, Bool.and_eq_true] at f2
    show (eqV _ v || inV v _) = (PyData.eqv _ x || _)
    rw [rp_eqV h2 h f2.1 f, rp_any h f t f2.2]
theorem op_inG (ng : Bool) : OpR X (compareOp (if ng then .NotIn else .In)) (rIn X.K ng) := by
  cases ng with
  | true => exact op_notIn_seq
  | false => exact op_in_seq
theorem m_inn {K : PySem.W.Frag} (ng : Bool) {ea : E} {ob : O} {σ : Sg} {H : Hp} {Q : VK} (h : tE Φ fr K Γ w (.inn ng ea ob) σ H Q) : tOp (rIn K ng) (tE Φ fr K Γ .fro ea) (tO Φ fr K Γ ob) σ H Q := by
  obtain ⟨ρ, ts, r, sr, he, q⟩ := h
  obtain ⟨ra, e1, he⟩ := bind_inv he
  obtain ⟨rb, e2, he⟩ := bind_inv he
  obtain ⟨d, e3, rfl⟩ := map_inv he
  refine ⟨ρ, ts, ra, sr, e1, fun v H1 s1 => ⟨ra.2, _, rb, s1, e2, fun u H2 ts' s2 hd => ?_⟩⟩
  obtain ⟨G, F1, F2, y⟩ := id s2
  have y' : SRd fr K G F1 F2 Γ rb.2 σ (ts' ++ []) H2 := by rw [List.append_nil]; exact y
  have lt : lateD Φ ob rb.1 rb.2 = some rb.1 := by
    cases ob with
    | e a => rfl
    | s i =>
      obtain ⟨d', e7, rfl⟩ := map_inv (show (get ra.2 i).map (fun d => (d, ra.2)) = some rb from e2)
      exact e7
  have sn := y'.sn hd lt
  obtain ⟨l, e4, f1, f2, rfl⟩ := innD_inv e3
  obtain ⟨a, vs, rfl, h1, h2⟩ := sn.seq y.sub e4
  obtain ⟨k2, rfl⟩ := hd.pre
  obtain ⟨F3, y2⟩ := y.drop
  have rp := y2.last1 rfl
  refine ⟨a, vs, rfl, h1, rp_flat rp f1, rp_flats h2 f2, ?_⟩
  have e5 : (if ng then !inV v vs else inV v vs) = (l.any (fun e => PyData.eqv e ra.1) != ng) := by
    rw [rp_any rp f1 h2 f2]
    cases ng <;> simp
  rw [e5]
  obtain ⟨F5, y3⟩ := y2.drop
  exact q _ _ ⟨_, _, _, y3.pushS rfl (rp_bl _ G)⟩
end
end Vw
namespace Vw
open PySem PySem.Spec PyProof.Rows L2
theorem tuple_mul0 (l : Addr) (items : Array Value) (n : Nat) (dd : Option Addr) (sl : Array (Option Value)) (u : Tok) (hi : items.isEmpty = false) :
    Meets (Builtin.«tuple.__mul__» ⟨[.ref l, .int 0 u], []⟩) (fun _ R s => s.heap.get? l = some { cls := .type "tuple", dict := dd, data := .seq items n, slots := sl } ∧
      R (.ok (.ret (Value.ref s.heap.objs.size))) { s with heap := s.heap.push { cls := Value.type "tuple", data := Data.seq #[] }, toks := s.toks }) :=
  .of_wp fun prog w A R s h => by
    obtain ⟨hp, g, d, tk, os⟩ := s
    obtain ⟨hl, h⟩ := h
    have f1 := AutoSeq1.idx_int
    have z0 : (decide ((0 : Int) < -(2 ^ 63)) || decide ((0 : Int) ≥ 2 ^ 63)) = false := by decide
    have z1 : (items.isEmpty || (0 : Int) == 1) = false := by rw [hi]; rfl
    have z2 : (decide ((0 : Int) ≤ 0) || items.isEmpty) = true := rfl
    wp_walk using wpAny_loadPart' hl
    repeat (first
      | (refine wpAny_ite_false (decide_eq_false (by rw [z0]; exact Bool.false_ne_true)) ?_; wp_walk using wpAny_loadPart' hl)
      | (refine wpAny_ite_false (decide_eq_false (by rw [z1]; exact Bool.false_ne_true)) ?_; wp_walk using wpAny_loadPart' hl)
      | (rw [if_pos z2]; wp_walk using wpAny_loadPart' hl))
    exact ⟨_, rfl, h⟩
theorem tuple_mulE (l : Addr) (n : Nat) (dd : Option Addr) (sl : Array (Option Value)) (x : Int) (u : Tok) (c0 : (decide (x < -(2 ^ 63)) || decide (x ≥ 2 ^ 63)) = false) :
    Meets (Builtin.«tuple.__mul__» ⟨[.ref l, .int x u], []⟩) (fun _ R s => s.heap.get? l = some { cls := .type "tuple", dict := dd, data := .seq #[] n, slots := sl } ∧ R (.ok (.ret (Value.ref l))) s) :=
  .of_wp fun prog w A R s h => by
    obtain ⟨hp, g, d, tk, os⟩ := s
    obtain ⟨hl, h⟩ := h
    have f1 := AutoSeq1.idx_int
    have c1 : ((#[] : Array Value).isEmpty || x == 1) = true := rfl
    wp_walk using wpAny_loadPart' hl
    repeat (first
      | (refine wpAny_ite_false (decide_eq_false (by rw [c0]; exact Bool.false_ne_true)) ?_; wp_walk using wpAny_loadPart' hl)
      | (rw [if_pos c1]; wp_walk using wpAny_loadPart' hl))
    exact ⟨_, rfl, h⟩
section
variable {X : Cx}
def rRepE (K : PySem.W.Frag) : R2 := fun x y H Q => ∃ l k, x = .ref l ∧ y = .int k ∧ 0 ≤ k ∧ k ≤ 1000 ∧ SqT K H l [] ∧ Q (.ref l) H
theorem op_repE : OpR X (binaryOp .Mult) (rRepE X.K) := by
  intro pins s σ H x y v u Q I rx ry h
  obtain ⟨l, k, rfl, rfl, k0, k1, hT, q⟩ := h
  cases rx
  obtain ⟨t, rfl⟩ := ry
  obtain ⟨its, r, ⟨⟨cls, dd, data, sl⟩, ho, hc, n, hd⟩, hs⟩ := I.tuple hT
  simp only at hc hd
  subst hc hd
  cases r
  have c0 : (decide (k < -(2 ^ 63)) || decide (k ≥ 2 ^ 63)) = false := by
    rw [decide_eq_false (by omega), decide_eq_false (by omega)]
    rfl
  refine wpAny_binaryOp_repeat_ref (T := "tuple") (U := "int") (by decide) ⟨_, ho, rfl⟩ (fun s' => typeIs_int s' k t) noFill_tuple_mul F.fills_int_mul F.slot_int_rmul repeat_tuple F.slot_int_index.lookup
    (call_meets F.slot_int_rmul (typeIs_int s k t) F.entry_int_rmul (F.args_int_rmul_2 _ _) (int_rmul_tuple k t l #[] n dd sl)
      ⟨ho, rfl, ⟨_, ho, rfl⟩, call_meets F.slot_tuple_mul ⟨_, ho, rfl⟩ F.entry_tuple_mul (F.args_tuple_mul_2 _ _) (tuple_mulE l n dd sl k t c0) ⟨ho, ?_⟩⟩)
  exact ⟨.ref l, H, I, rfl, q⟩
def rRep0 (K : PySem.W.Frag) : R2 := fun x y H Q => ∃ l xs, x = .ref l ∧ y = .int 0 ∧ SqT K H l xs ∧ xs ≠ [] ∧ ∀ p, H p = none → Q (.ref p) (upd H p (.tup []))
theorem op_rep0 : OpR X (binaryOp .Mult) (rRep0 X.K) := by
  intro pins s σ H x y v u Q I rx ry h
  obtain ⟨l, xs, rfl, rfl, hT, hne, q⟩ := h
  cases rx
  obtain ⟨t, rfl⟩ := ry
  obtain ⟨its, r, ⟨⟨cls, dd, data, sl⟩, ho, hc, n, hd⟩, hs⟩ := I.tuple hT
  simp only at hc hd
  subst hc hd
  have hi : its.toArray.isEmpty = false := by
    cases its with
    | nil =>
      have := r.length
      exact absurd (List.eq_nil_of_length_eq_zero this) hne
    | cons a b => rfl
  refine wpAny_binaryOp_repeat_ref (T := "tuple") (U := "int") (by decide) ⟨_, ho, rfl⟩ (fun s' => typeIs_int s' 0 t) noFill_tuple_mul F.fills_int_mul F.slot_int_rmul repeat_tuple F.slot_int_index.lookup
    (call_meets F.slot_int_rmul (typeIs_int s 0 t) F.entry_int_rmul (F.args_int_rmul_2 _ _) (int_rmul_tuple 0 t l its.toArray n dd sl)
      ⟨ho, rfl, ⟨_, ho, rfl⟩, call_meets F.slot_tuple_mul ⟨_, ho, rfl⟩ F.entry_tuple_mul (F.args_tuple_mul_2 _ _) (tuple_mul0 l its.toArray n dd sl t hi) ⟨ho, ?_⟩⟩)
  exact ⟨.ref _, upd H s.heap.objs.size (.tup []), I.laid (t' := s.toks) (fun _ _ => Heap.get?_push_of_some _) (Nat.le_refl _) ⟨by rw [sizeLine_eq]; exact Nat.zero_le _, [], .nil, _, Heap.get?_push_size s.heap rfl, rfl, _, rfl⟩, rfl, q _ (I.hok.fresh (Nat.le_refl _))⟩
end
end Vw
namespace Vw
open PySem PySem.Spec PyProof.Rows L2
section
variable {X : Cx} {Φ : Cf} {fr : Fr} {Γ : List Ty} {w : Ty} {pos : Pos}
/-! ### + and * of lists and tuples -/
theorem e_lcat {a b : Expr} {oa ob : O} (m : Made .fro w) (ha : PE X a (tO Φ fr X.K Γ oa)) (hb : PE X b (tO Φ fr X.K Γ ob)) : PE X (.BinOp a .Add b pos) (tE Φ fr X.K Γ w (.lcat oa ob)) := by
  refine PE_mono (pe_op op_catS ha hb) fun σ H Q h => ?_
  obtain ⟨ρ, ts, r, sr, he, q⟩ := h
  obtain ⟨ra, e1, he⟩ := bind_inv he
  obtain ⟨rb, e2, he⟩ := bind_inv he
  obtain ⟨x, e3, he⟩ := bind_inv he
  obtain ⟨d, e4, rfl⟩ := map_inv he
  refine ⟨ρ, ts, ra, sr, e1, fun v H1 ts' s1 hd => ⟨ra.2, _, rb, s1, e2, fun u H2 ts'' s2 hd2 => ?_⟩⟩
  obtain ⟨G, F1, F2, y⟩ := id s2
  have y' : SRd fr X.K G F1 F2 Γ rb.2 σ (ts'' ++ []) H2 := by rw [List.append_nil]; exact y
  have lt : lateD Φ ob rb.1 rb.2 = some rb.1 := by
    cases ob with
    | e a => rfl
    | s i =>
      obtain ⟨d', e7, rfl⟩ := map_inv (show (get ra.2 i).map (fun d => (d, ra.2)) = some rb from e2)
      exact e7
  have sn2 := y'.sn hd2 lt
  obtain ⟨k2, rfl⟩ := hd2.pre
  have sn1 := y.sn hd e3
  obtain ⟨d2, ρ2⟩ := rb
  cases x with
  | list l =>
    cases d2 with
    | list l2 =>
      have e4 : (if lenOk (l.length + l2.length) = true then some (PyData.list (l ++ l2)) else none) = some d := e4
      split at e4
      · rename_i c
        cases e4
        obtain ⟨a, vs, rfl, h1, h2⟩ := sn1.list y.sub
        obtain ⟨b, ws, rfl, g1, g2⟩ := sn2.list y.sub
        refine ⟨a, b, vs, ws, rfl, rfl, h1, g1, by rw [h2.len, g2.len]; exact lenOk_of c, fun p hp => q _ _ ?_⟩
        obtain ⟨k1, rfl⟩ := hd.pre
        rw [List.append_assoc] at y
        obtain ⟨F3, y2⟩ := y.drop
        exact y2.newList (h2.app g2) m hp
      · cases e4
    | _ => cases e4
  | _ => cases e4
theorem e_lrep {a b : Expr} {oa : O} {eb : E} (m : Made .fro w) (ha : PE X a (tO Φ fr X.K Γ oa)) (hb : PE X b (tE Φ fr X.K Γ .fro eb)) : PE X (.BinOp a .Mult b pos) (tE Φ fr X.K Γ w (.lrep oa eb)) := by
  refine PE_mono (pe_op op_repS ha hb) fun σ H Q h => ?_
  obtain ⟨ρ, ts, r, sr, he, q⟩ := h
  obtain ⟨ra, e1, he⟩ := bind_inv he
  obtain ⟨rb, e2, he⟩ := bind_inv he
  obtain ⟨x, e3, he⟩ := bind_inv he
  obtain ⟨d, e4, rfl⟩ := map_inv he
  refine ⟨ρ, ts, ra, sr, e1, fun v H1 ts' s1 hd => ⟨ra.2, _, rb, s1, e2, fun u H2 s2 => ?_⟩⟩
  obtain ⟨G, F1, F2, y⟩ := id s2
  have ri := y.last1 rfl
  have sn1 := y.sn hd e3
  obtain ⟨d2, ρ2⟩ := rb
  cases x with
  | list l =>
    cases d2 with
    | int k =>
      cases ri
      have e4 : (if -(2 ^ 63) ≤ k ∧ k < 2 ^ 63 ∧ lenOk (l.length * k.toNat) = true then some (PyData.list (repN k.toNat l)) else none) = some d := e4
      split at e4
      · rename_i c
        cases e4
        obtain ⟨a, vs, rfl, h1, h2⟩ := sn1.list y.sub
        refine ⟨a, k, vs, rfl, rfl, h1, c.1, c.2.1, by rw [h2.len]; exact lenOk_of c.2.2, fun p hp => q _ _ ?_⟩
        obtain ⟨k1, rfl⟩ := hd.pre
        rw [List.append_assoc] at y
        obtain ⟨F3, y2⟩ := y.drop
        exact y2.newList (h2.flat k.toNat) m hp
      · cases e4
    | _ => cases e4
  | _ => cases e4
theorem e_tcat {a b : Expr} {ea eb : E} (ha : PE X a (tE Φ fr X.K Γ .fro ea)) (hb : PE X b (tE Φ fr X.K Γ .fro eb)) : PE X (.BinOp a .Add b pos) (tE Φ fr X.K Γ .fro (.tcat ea eb)) := by
  refine PE_mono (pe_op op_catA ha hb) fun σ H Q h => ?_
  obtain ⟨ρ, ts, r, sr, he, q⟩ := h
  obtain ⟨ra, e1, he⟩ := bind_inv he
  obtain ⟨rb, e2, he⟩ := bind_inv he
  obtain ⟨d, e3, rfl⟩ := map_inv he
  refine ⟨ρ, ts, ra, sr, e1, fun v H1 s1 => ⟨ra.2, _, rb, s1, e2, fun u H2 s2 => ?_⟩⟩
  obtain ⟨G, F1, F2, y⟩ := id s2
  have rp := y.last2 rfl rfl
  clear he
  obtain ⟨d1, ρ1⟩ := ra
  obtain ⟨d2, ρ2⟩ := rb
  obtain ⟨r1, r2⟩ := rp
  cases d1 with
  | tuple l =>
    cases d2 with
    | tuple l2 =>
      have e3 : (if lenOk (l.length + l2.length) = true then some (PyData.tuple (l ++ l2)) else none) = some d := e3
      split at e3
      · rename_i c
        cases e3
        obtain ⟨a, vs, rfl, h1, h2⟩ := Sn.tuple y.sub (.inl r1)
        obtain ⟨b, ws, rfl, g1, g2⟩ := Sn.tuple y.sub (.inl r2)
        obtain ⟨F3, y2⟩ := y.drop
        obtain ⟨F4, y3⟩ := y2.drop
        refine ⟨a, b, vs, ws, rfl, rfl, h1, g1, by rw [h2.len, g2.len]; exact lenOk_of c, fun hx => ?_, fun hx hy => ?_, fun hx hy p hp => ?_⟩
        · subst hx
          cases h2
          exact q _ _ ⟨_, _, _, y3.push r2⟩
        · subst hy
          cases g2
          rw [List.append_nil] at q
          exact q _ _ ⟨_, _, _, y3.push r1⟩
        · exact q _ _ (y3.newTup (h2.app g2) hp)
      · cases e3
    | _ => cases e3
  | _ => cases e3
def rRepA (K : PySem.W.Frag) : R2 := fun x y H Q => ((rRep0 K x y H Q ∨ rRep1 K x y H Q) ∨ rRepT K x y H Q) ∨ rRepE K x y H Q
theorem op_repA : OpR X (binaryOp .Mult) (rRepA X.K) := ((op_rep0.or op_rep1).or op_repT).or op_repE
theorem trepD_inv {x y z : D} (h : trepD x y = some z) : ∃ l k, x = .tuple l ∧ y = .int k ∧ l.length ≤ 1000 ∧ 0 ≤ k ∧ k ≤ 1000 ∧ z = .tuple (repN k.toNat l) := by
  unfold trepD at h
  split at h
  · rename_i l k
    split at h
    · rename_i c
      cases h
      exact ⟨l, k, rfl, rfl, c.1, c.2.1, c.2.2, rfl⟩
    · cases h
  · cases h
theorem e_trep {a b : Expr} {ea eb : E} (ha : PE X a (tE Φ fr X.K Γ .fro ea)) (hb : PE X b (tE Φ fr X.K Γ .fro eb)) : PE X (.BinOp a .Mult b pos) (tE Φ fr X.K Γ .fro (.trep ea eb)) := by
  refine PE_mono (pe_op op_repA ha hb) fun σ H Q h => ?_
  obtain ⟨ρ, ts, r, sr, he, q⟩ := h
  obtain ⟨ra, e1, he⟩ := bind_inv he
  obtain ⟨rb, e2, he⟩ := bind_inv he
  obtain ⟨d, e3, rfl⟩ := map_inv he
  refine ⟨ρ, ts, ra, sr, e1, fun v H1 s1 => ⟨ra.2, _, rb, s1, e2, fun u H2 s2 => ?_⟩⟩
  obtain ⟨G, F1, F2, y⟩ := id s2
  have rp := y.last2 rfl rfl
  obtain ⟨l, k, q1, q2, c2, c3, c4, rfl⟩ := trepD_inv e3
  obtain ⟨d1, ρ1⟩ := ra
  obtain ⟨d2, ρ2⟩ := rb
  have q1 : d1 = .tuple l := q1
  have q2 : d2 = .int k := q2
  subst q1 q2
  obtain ⟨r1, r2⟩ := rp
  cases r2
  obtain ⟨a, vs, rfl, h1, h2⟩ := Sn.tuple y.sub (.inl r1)
  obtain ⟨F3, y2⟩ := y.drop
  obtain ⟨F4, y3⟩ := y2.drop
  by_cases hne : vs = []
  · subst hne
    cases h2
    refine .inr ⟨a, k, rfl, rfl, c3, c4, h1, q _ _ ⟨_, _, _, y3.push ?_⟩⟩
    have e : repN k.toNat ([] : List D) = [] := by simp [repN]
    rw [e]
    exact r1
  refine .inl ?_
  by_cases hk0 : k = 0
  · subst hk0
    exact .inl (.inl ⟨a, vs, rfl, rfl, h1, hne, fun p hp => q _ _ (y3.newTup (vs := []) (ds := []) .nil hp)⟩)
  by_cases hk : k = 1
  · subst hk
    refine .inl (.inr ⟨a, vs, rfl, rfl, h1, q _ _ ⟨_, _, _, y3.push ?_⟩⟩)
    have e : repN (1 : Int).toNat l = l := by simp [repN]
    rw [e]
    exact r1
  · refine .inr ⟨a, k, vs, rfl, rfl, h1, hne, by omega, by omega, by rw [h2.len]; exact c2, fun p hp => q _ _ (y3.newTup (h2.flat _) hp)⟩
/-! ### slices -/
theorem oe_no : PO X none (tOe Φ fr X.K Γ .no) := by
  refine ⟨fun pins s σ H Q I h => po_none.run pins s σ H Q I ?_⟩
  obtain ⟨ρ, ts, r, sr, he, q⟩ := h
  have he : some (none, ρ) = some r := he
  cases he
  exact q H sr
theorem oe_so {e : Expr} {ea : E} (h : PE X e (tE Φ fr X.K Γ .fro ea)) : PO X (some e) (tOe Φ fr X.K Γ (.so ea)) := by
  refine ⟨fun pins s σ H Q I hw => (po_some h).run pins s σ H Q I ?_⟩
  obtain ⟨ρ, ts, r, sr, he, q⟩ := hw
  obtain ⟨ra, e1, e2⟩ := bind_inv he
  refine ⟨ρ, ts, ra, sr, e1, fun v H1 s1 => ?_⟩
  obtain ⟨G, F1, F2, y⟩ := id s1
  have rp := y.last1 rfl
  obtain ⟨d, ρ1⟩ := ra
  cases d with
  | int i =>
    cases rp
    cases e2
    exact ⟨i, rfl, q _ s1.drop⟩
  | _ => cases e2
def rSlG (K : PySem.W.Frag) : V → Option Int → Option Int → Hp → VK → Prop := fun x lo hi H Q => rSlA K x lo hi H Q ∨ rSlL K x lo hi H Q
theorem sl_both : SlR X (rSlG X.K) := sl_tupA.or sl_list
/-- whom a cut may belong to: a list's to anybody, a tuple's to nobody -/
theorem e_slc {a : Expr} {oa : O} {lo hi : Option Expr} {ol oh : Oe} {p2 : Pos} (m : Made .fro w) (ha : PE X a (tO Φ fr X.K Γ oa)) (hl : PO X lo (tOe Φ fr X.K Γ ol)) (hh : PO X hi (tOe Φ fr X.K Γ oh)) (hw : w = .fro ∨ (∀ ρ r, evO Φ oa ρ = some r → ∃ l, r.1 = .list l)) :
    PE X (.Subscript a (.Slice lo hi none p2) pos) (tE Φ fr X.K Γ .fro (.slc oa ol oh)) := by
  refine PE_mono (pe_slice sl_both ha hl hh) fun σ H Q h => ?_
  obtain ⟨ρ, ts, r, sr, he, q⟩ := h
  obtain ⟨ra, e1, he⟩ := bind_inv he
  obtain ⟨rb, e2, he⟩ := bind_inv he
  obtain ⟨rc, e3, he⟩ := bind_inv he
  obtain ⟨x, e4, he⟩ := bind_inv he
  obtain ⟨d, e5, rfl⟩ := map_inv he
  refine ⟨ρ, ts, ra, sr, e1, fun v H1 ts' s1 hd => ⟨ra.2, _, rb, s1, e2, fun H2 s2 => ⟨rb.2, _, rc, s2, e3, fun H3 s3 => ?_⟩⟩⟩
  obtain ⟨G, F1, F2, y⟩ := id s3
  have y' : SRd fr X.K G F1 F2 Γ rc.2 σ (ts' ++ []) H3 := by rw [List.append_nil]; exact y
  have sn := y'.sn hd e4
  obtain ⟨k1, rfl⟩ := hd.pre
  obtain ⟨F3, y2⟩ := y.drop
  cases x with
  | list l =>
    cases e5
    obtain ⟨a, vs, rfl, h1, h2⟩ := sn.list y.sub
    exact .inr ⟨a, vs, rfl, .inl h1, fun p hp => q _ _ (y2.newList (h2.cut _ _) (.inr ⟨rfl, rfl⟩) hp)⟩
  | tuple l =>
    cases e5
    obtain ⟨a, vs, rfl, h1, h2⟩ := sn.tuple y.sub
    refine .inl ⟨a, vs, rfl, h1, fun hw => q _ _ ?_, fun hw p hp => q _ _ (y2.newTup (h2.cut _ _) hp)⟩
    rw [h2.len] at hw
    rw [cutD_all hw]
    rcases sn with sn | ⟨_, _, _, e, _⟩
    · exact ⟨_, _, _, y2.push sn⟩
    · cases e
  | _ => cases e5
/-- .. a slot's own list: it is a list -/
theorem e_slcL {x : Str} {i : Nat} {a : Expr} {lo hi : Option Expr} {ol oh : Oe} {p2 : Pos} (m : Made .fro w) (ha : PE X a (tO Φ fr X.K Γ (.s i))) (hl : PO X lo (tOe Φ fr X.K Γ ol)) (hh : PO X hi (tOe Φ fr X.K Γ oh)) :
    PE X (.Subscript a (.Slice lo hi none p2) pos) (tE Φ fr X.K Γ .fro (.slc (.s i) ol oh)) := e_slc (w := .fro) (.inr ⟨rfl, rfl⟩) ha hl hh (.inl rfl)
/-! ### numbers that are reckoned without a new object -/
variable (Φ fr Γ) in
def tI (K : PySem.W.Frag) (e : E) : TE := fun σ H Q => ∃ ρ ts i, SR fr K Γ ρ σ ts H ∧ ev Φ e ρ = some (.int i, ρ) ∧ Q (.int i) H
/-- .. whose reckoning changes nothing -/
def stE : E → Bool
  | .v _ => true
  | .k _ => true
  | .gl _ _ => true
  | .neg a => stE a
  | .ar _ a b => stE a && stE b
  | _ => false
theorem stE_pure : ∀ {e : E}, stE e = true → ∀ {ρ : Rho} {r : D × Rho}, ev Φ e ρ = some r → r.2 = ρ
  | .v i, _, ρ, r, h => by
    obtain ⟨d, _, rfl⟩ := map_inv h
    rfl
  | .k _, _, ρ, r, h => by
    cases h
    rfl
  | .gl _ _, _, ρ, r, h => by
    cases h
    rfl
  | .neg a, c, ρ, r, h => by
    obtain ⟨ra, e1, h⟩ := bind_inv h
    have e2 := stE_pure (e := a) c e1
    obtain ⟨d, ρ1⟩ := ra
    cases d with
    | int i =>
      cases h
      exact e2
    | _ => cases h
  | .ar o a b, c, ρ, r, h => by
    obtain ⟨ra, e1, h⟩ := bind_inv h
    obtain ⟨rb, e2, h⟩ := bind_inv h
    obtain ⟨d, _, rfl⟩ := map_inv h
    obtain ⟨c1, c2⟩ := Bool.and_eq_true_iff.mp (show (stE a && stE b) = true from c)
    rw [stE_pure c1 e1] at e2
    exact (show rb.2 = ρ from stE_pure c2 e2)
theorem i_v {i : Nat} {x : Str} (hN : X.N[i]? = some x) (hv : Vis X.env.scope x) (hw : Γ[i]? = some .fro) (hd : (x == ("__debug__" : Str)) = false) (hcd : (x == ("__classdict__" : Str)) = false) : PE X (.Name x pos) (tI Φ fr Γ X.K (.v i)) := by
  refine PE_mono (pe_var hN hv hd hcd) fun σ H Q h => ?_
  obtain ⟨ρ, ts, j, ⟨G, F1, F2, sr⟩, he, q⟩ := h
  obtain ⟨d, e1, e2⟩ := map_inv he
  cases e2
  obtain ⟨v, e2, rp⟩ := sr.slot e1 hw
  cases rp
  exact ⟨_, e2, q⟩
theorem i_k {e : Expr} {d : D} {v : V} (h : PE X e (tC v)) (r : ∀ G, Rp X.K G v d) : PE X e (tI Φ fr Γ X.K (.k d)) := by
  refine PE_mono h fun σ H Q h => ?_
  obtain ⟨ρ, ts, j, sr, he, k⟩ := h
  have he : some (d, ρ) = some (.int j, ρ) := he
  cases he
  have := r H
  cases this
  exact k
theorem i_gl {e : Expr} {x : Str} {d : D} {v : V} (h : PE X e (tC v)) (r : ∀ G, Rp X.K G v d) : PE X e (tI Φ fr Γ X.K (.gl x d)) := by
  refine PE_mono h fun σ H Q h => ?_
  obtain ⟨ρ, ts, j, sr, he, k⟩ := h
  have he : some (d, ρ) = some (.int j, ρ) := he
  cases he
  have := r H
  cases this
  exact k
theorem i_neg {a : Expr} {ea : E} (c : stE ea = true) (ha : PE X a (tI Φ fr Γ X.K ea)) : PE X (.UnaryOp .USub a pos) (tI Φ fr Γ X.K (.neg ea)) := by
  refine PE_mono (pe_un un_neg ha) fun σ H Q h => ?_
  obtain ⟨ρ, ts, j, sr, he, q⟩ := h
  obtain ⟨ra, e1, e2⟩ := bind_inv he
  have e3 := stE_pure c e1
  obtain ⟨d, ρ1⟩ := ra
  have e3 : ρ1 = ρ := e3
  subst e3
  cases d with
  | int i =>
    cases e2
    exact ⟨ρ1, ts, i, sr, e1, i, rfl, q⟩
  | _ => cases e2
theorem i_ar (o : Ar) {a b : Expr} {ea eb : E} (c : stE ea = true) (c2 : stE eb = true) (ha : PE X a (tI Φ fr Γ X.K ea)) (hb : PE X b (tI Φ fr Γ X.K eb)) : PE X (.BinOp a (opA o) b pos) (tI Φ fr Γ X.K (.ar o ea eb)) := by
  refine PE_mono (pe_op (op_ar o) ha hb) fun σ H Q h => ?_
  obtain ⟨ρ, ts, k, sr, he, q⟩ := h
  obtain ⟨ra, e1, he⟩ := bind_inv he
  obtain ⟨rb, e2, he2⟩ := bind_inv he
  obtain ⟨d, e3, he3⟩ := map_inv he2
  clear he he2
  have p1 := stE_pure c e1
  have p2 := stE_pure c2 e2
  obtain ⟨d1, ρ1⟩ := ra
  obtain ⟨d2, ρ2⟩ := rb
  have p1 : ρ1 = ρ := p1
  subst p1
  have p2 : ρ2 = ρ1 := p2
  subst p2
  cases he3
  obtain ⟨i, j, k', q1, q2, q3⟩ := arD_inv e3
  have q1 : d1 = .int i := q1
  have q2 : d2 = .int j := q2
  subst q1 q2
  exact ⟨ρ2, ts, i, sr, e1, ρ2, ts, j, sr, e2, i, j, k, rfl, rfl, e3, q⟩
/-! ### places in an own list of own lists -/
theorem SRd.slot2 {K : PySem.W.Frag} {G H : Hp} {F1 F2 : List Addr} {ρ : Rho} {σ : Sg} {ts : List Tm} (x : SRd fr K G F1 F2 Γ ρ σ ts H) {i : Nat} {m : List D} (h : get ρ i = some (.list m)) (hw : Γ[i]? = some (.lst (.lst .fro))) :
    ∃ a vs, σ[i]? = some (some (.ref a)) ∧ H a = some (.lst vs) ∧ vs.length = m.length := by
  obtain ⟨t, v, F3, F4, e1, e2, _, o, _⟩ := x.sl.take (get_some h)
  rw [hw] at e1
  cases e1
  rcases o with ⟨s, _, _⟩ | ⟨ds, a, vs, F', q1, q2, q3, q4, q5⟩
  · cases s
  · cases q1
    subst q2
    exact ⟨a, vs, e2, q4, q5.len⟩
theorem atI_ix {α : Type} {l : List α} {i : Int} {d : α} (h : atI l i = some d) : ∃ k, ixN l.length i = some k ∧ l[k]? = some d := bind_inv h
theorem ixD_inv {x i y : D} (h : ixD x i = some y) : ∃ l j, (x = .list l ∨ x = .tuple l) ∧ i = .int j ∧ atI l j = some y := by
  cases x with
  | list l =>
    obtain ⟨j, rfl, e⟩ := ixL_inv h
    exact ⟨l, j, .inl rfl, rfl, e⟩
  | tuple l =>
    obtain ⟨j, rfl, e⟩ := ixL_inv h
    exact ⟨l, j, .inr rfl, rfl, e⟩
  | _ => cases h
theorem e_ix2 {i : Nat} {x : Str} {a b : Expr} {ea eb : E} {px p2 : Pos} (hN : X.N[i]? = some x) (hv : Vis X.env.scope x) (hw : Γ[i]? = some (.lst (.lst .fro))) (hd : (x == ("__debug__" : Str)) = false) (hcd : (x == ("__classdict__" : Str)) = false)
    (ha : PE X a (tE Φ fr X.K Γ .fro ea)) (hb : PE X b (tI Φ fr Γ X.K eb)) (hs : notSlice a = true) (hs2 : notSlice b = true) (st : stE eb = true) :
    PE X (.Subscript (.Subscript (.Name x px) a p2) b pos) (tE Φ fr X.K Γ .fro (.ix2 i ea eb)) := by
  refine PE_mono (pe_ix ix_list (pe_ix ix_list (pe_var hN hv hd hcd) ha (plainIx_ns hs)) hb (plainIx_ns hs2)) fun σ H Q h => ?_
  obtain ⟨ρ, ts, r, ⟨G0, F01, F02, sr⟩, he, q⟩ := h
  obtain ⟨x0, e0, he⟩ := bind_inv he
  obtain ⟨ra, e1, he⟩ := bind_inv he
  obtain ⟨rb, e2, he⟩ := bind_inv he
  obtain ⟨x, e3, he⟩ := bind_inv he
  obtain ⟨y, e4, he⟩ := bind_inv he
  obtain ⟨d, e5, rfl⟩ := map_inv he
  have p2 := stE_pure st e2
  clear he
  obtain ⟨d1, ρ1⟩ := ra
  obtain ⟨d2, ρ2⟩ := rb
  have p2 : ρ2 = ρ1 := p2
  subst p2
  obtain ⟨m, j, q1, q2, e6⟩ := ixD_inv e4
  have q2 : d1 = .int j := q2
  subst q2
  obtain ⟨l, j2, q3, q4, e7⟩ := ixD_inv e5
  have q4 : d2 = .int j2 := q4
  subst q4
  obtain ⟨t0, v0, _, _, g1, g2, _⟩ := sr.takeOut e0
  refine ⟨v0, g2, ρ, ts, _, ⟨_, _, _, sr⟩, e1, fun u H1 s1 => ?_⟩
  obtain ⟨G, F1, F2, z⟩ := id s1
  have ru := z.last1 rfl
  cases ru
  obtain ⟨k, k1, k2⟩ := atI_ix e6
  obtain ⟨t', v', F3, F4, g3, g4, _, ow, _⟩ := z.sl.take (get_some e3)
  rw [hw] at g3
  cases g3
  rw [g2] at g4
  cases g4
  rcases q1 with rfl | rfl
  · rcases ow with ⟨s, _, _⟩ | ⟨ds, a0, vs, F', w1, w2, w3, w4, w5⟩
    · cases s
    · cases w1
      subst w2
      obtain ⟨u2, Fk, g5, o1, i1, _⟩ := w5.at k2
      rcases o1 with ⟨s, _, _⟩ | ⟨ds1, b0, ws, Fb, r1, r2, r3, r4, r5⟩
      · rcases q3 with rfl | rfl <;> cases s
      · rcases q3 with rfl | rfl
        · cases r1
          subst r2
          have rw5 := r5.fro.2
          obtain ⟨zz, at2, rz⟩ := atI_rp rw5 e7
          refine ⟨a0, vs, j, _, rfl, rfl, SqL.of w4, ?_, ρ2, _, j2, s1, e2, b0, ws, j2, zz, rfl, rfl, SqL.of r4, at2, q _ _ ?_⟩
          · unfold atI
            rw [w5.len, k1]
            exact g5
          · obtain ⟨F6, z2⟩ := z.drop
            exact ⟨_, _, _, z2.push rz⟩
        · cases r1
  · rcases ow with ⟨s, _, _⟩ | ⟨ds, a0, vs, F', w1, w2, w3, w4, w5⟩
    · cases s
    · cases w1
end
end Vw
namespace Vw
open PySem PySem.Spec PyProof.Rows L2
/-! ### what a def promises -/
structure Sig where
  ps : List Ty
  ret : Ty
def CallEnd (K : PySem.W.Frag) (G H : Hp) (F : List Addr) (ret : Ty) (ts : List Tm) (ds' : List D) (r : D) (v : V) (H' : Hp) : Prop :=
  ∃ G' ts' FA FR, Same G G' ∧ Same G' H' ∧ ts'.map Tm.t = ts.map Tm.t ∧ ts'.map Tm.v = ts.map Tm.v ∧ ts'.map Tm.d = ds' ∧ TmF K G' H' ts' FA ∧ Own K G' H' ret r v FR ∧ (FA ++ FR).Nodup ∧
    (∀ a ∈ FA ++ FR, G' a = none ∧ (a ∈ F ∨ H a = none)) ∧ (∀ a o, H a = some o → a ∉ F → Kp o (H' a)) ∧ (∀ a, H' a = none → H a = none) ∧ (∀ a, G' a ≠ none → G a ≠ none ∨ a ∈ F ∨ H a = none) ∧ Tabs K G' H'
def spI (K : PySem.W.Frag) (g : Sig) (f : List D → Option (D × List D)) : Sp := fun vs H Q _ => ∃ G F ts r, ts.map Tm.v = vs ∧ ts.map Tm.t = g.ps ∧ Same G H ∧ TmF K G H ts F ∧ F.Nodup ∧ (∀ a ∈ F, G a = none) ∧ Tabs K G H ∧
  f (ts.map Tm.d) = some r ∧ ∀ v H', CallEnd K G H F g.ret ts r.2 r.1 v H' → Q v H'
theorem spI_len {K : PySem.W.Frag} {g : Sig} {f : List D → Option (D × List D)} {vs : List V} {H : Hp} {Q : VK} {E : XK} (h : spI K g f vs H Q E) : vs.length = g.ps.length := by
  obtain ⟨G, F, ts, r, rfl, e, _⟩ := h
  rw [← e, List.length_map, List.length_map]
theorem TmF.perm {K : PySem.W.Frag} {G H : Hp} : ∀ {l1 l2 : List Tm}, l1.Perm l2 → ∀ {F : List Addr}, TmF K G H l1 F → ∃ F', F'.Perm F ∧ TmF K G H l2 F' := by
  intro l1 l2 p
  induction p with
  | nil => exact fun h => ⟨_, List.Perm.refl _, h⟩
  | cons x _ ih =>
    rintro F ⟨F1, F2, e, a, b⟩
    obtain ⟨F3, p3, t3⟩ := ih b
    exact ⟨F1 ++ F3, by rw [e]; exact p3.append_left F1, F1, F3, rfl, a, t3⟩
  | swap x y l =>
    rintro F ⟨F1, F2, e, a, F3, F4, e2, b, c⟩
    refine ⟨F3 ++ (F1 ++ F4), ?_, F3, F1 ++ F4, rfl, b, F1, F4, rfl, a, c⟩
    rw [e, e2, ← List.append_assoc, ← List.append_assoc]
    exact List.perm_append_comm.append_right F4
  | trans _ _ ih1 ih2 =>
    intro F h
    obtain ⟨F1, p1, t1⟩ := ih1 h
    obtain ⟨F2, p2, t2⟩ := ih2 t1
    exact ⟨F2, p2.trans p1, t2⟩
section
variable {fr : Fr} {K : PySem.W.Frag} {G H : Hp} {F1 F2 : List Addr} {Γ : List Ty} {ρ : Rho} {σ : Sg} {ts us : List Tm}
theorem SRd.perm {ts' : List Tm} (x : SRd fr K G F1 F2 Γ ρ σ ts H) (p : ts.Perm ts') : ∃ F3, SRd fr K G F1 F3 Γ ρ σ ts' H := by
  obtain ⟨F3, p3, t⟩ := x.tm.perm p
  have pp := p3.append_left F1
  exact ⟨F3, x.sub, x.sl, t, pp.nodup_iff.mpr x.nd, fun a ha => x.out a (pp.mem_iff.mp ha), x.ok⟩
/-! ### the arguments -/
def HoldA (Γ : List Ty) (σ : Sg) : List Ty → List Ag → List V → List Tm → List Tm → Prop
  | [], [], [], ts, ts' => ts' = ts
  | t :: ps, .d d :: as, v :: vs, ts, ts' => t = .fro ∧ HoldA Γ σ ps as vs (ts ++ [⟨.fro, d, v⟩]) ts'
  | t :: ps, .io i :: as, v :: vs, ts, ts' => Γ[i]? = some t ∧ σ[i]? = some (some v) ∧ HoldA Γ σ ps as vs ts ts'
  | t :: ps, .bo i :: as, v :: vs, ts, ts' => t = .fro ∧ (σ[i]? = some (some v) ∧ ∀ u, Γ[i]? = some u → u.plain = true) ∧ HoldA Γ σ ps as vs ts ts'
  | _, _, _, _, _ => False
def ios : List Ag → List Nat
  | [] => []
  | .io i :: r => i :: ios r
  | _ :: r => ios r
def noIo : List Ag → Rho → Rho
  | [], ρ => ρ
  | .io i :: r, ρ => (noIo r ρ).set i none
  | _ :: r, ρ => noIo r ρ
theorem noIo_get {i : Nat} : ∀ {as : List Ag} {ρ : Rho}, i ∉ ios as → get (noIo as ρ) i = get ρ i
  | [], ρ, _ => rfl
  | .io j :: r, ρ, h => by
    have h1 : i ≠ j := fun e => h (by rw [e]; exact List.mem_cons_self)
    have h2 : i ∉ ios r := fun e => h (List.mem_cons_of_mem _ e)
    show get ((noIo r ρ).set j none) i = _
    unfold get
    rw [List.getElem?_set_ne (Ne.symm h1)]
    exact noIo_get h2
  | .d _ :: r, ρ, h => noIo_get (as := r) h
  | .bo _ :: r, ρ, h => noIo_get (as := r) h
theorem noIo_len : ∀ {as : List Ag} {ρ : Rho}, (noIo as ρ).length = ρ.length
  | [], _ => rfl
  | .io j :: r, ρ => by
    show ((noIo r ρ).set j none).length = _
    rw [List.length_set, noIo_len]
  | .d _ :: r, ρ => noIo_len (as := r)
  | .bo _ :: r, ρ => noIo_len (as := r)
theorem noIo_put {i : Nat} {d : D} : ∀ {as : List Ag} {ρ : Rho}, i ∉ ios as → noIo as (put ρ i d) = put (noIo as ρ) i d
  | [], _, _ => rfl
  | .io j :: r, ρ, h => by
    have h1 : i ≠ j := fun e => h (by rw [e]; exact List.mem_cons_self)
    have h2 : i ∉ ios r := fun e => h (List.mem_cons_of_mem _ e)
    show (noIo r (put ρ i d)).set j none = put ((noIo r ρ).set j none) i d
    rw [noIo_put h2]
    unfold put
    rw [List.set_comm _ _ h1]
  | .d _ :: r, ρ, h => noIo_put (as := r) h
  | .bo _ :: r, ρ, h => noIo_put (as := r) h
/-- they are all held -/
theorem SRd.args (nb : List Ag → Prop) : ∀ {as : List Ag} {ps : List Ty} {vs : List V} {ts ts' : List Tm} {ds : List D} {F1 F2 : List Addr}, (∀ a ∈ as, isBo a = false) → (ios as).Nodup → SRd fr K G F1 F2 Γ ρ σ ts' H → HoldA Γ σ ps as vs ts ts' → agsD ρ as = some ds →
    ∃ F3 F4 us xs, SRd fr K G F3 F4 Γ (noIo as ρ) σ (ts ++ us) H ∧ us.Perm xs ∧ xs.map Tm.t = ps ∧ xs.map Tm.v = vs ∧ xs.map Tm.d = ds
  | [], [], [], ts, ts', ds, F1, F2, _, _, x, h, e => by
    have h : ts' = ts := h
    subst h
    cases e
    exact ⟨F1, F2, [], [], by rw [List.append_nil]; exact x, List.Perm.refl _, rfl, rfl, rfl⟩
  | .d d :: as, t :: ps, v :: vs, ts, ts', ds, F1, F2, b, nd, x, h, e => by
    obtain ⟨rfl, h⟩ := h
    obtain ⟨d', e1, e⟩ := bind_inv e
    cases e1
    obtain ⟨ds', e2, rfl⟩ := map_inv e
    obtain ⟨F3, F4, us, xs, y, p, q1, q2, q3⟩ := SRd.args nb (fun a ha => b a (List.mem_cons_of_mem _ ha)) nd x h e2
    refine ⟨F3, F4, ⟨.fro, d, v⟩ :: us, ⟨.fro, d, v⟩ :: xs, ?_, p.cons _, by simp [q1], by simp [q2], by simp [q3]⟩
    rw [List.append_assoc] at y
    exact y
  | .io i :: as, t :: ps, v :: vs, ts, ts', ds, F1, F2, b, nd, x, h, e => by
    obtain ⟨g1, g2, h⟩ := h
    obtain ⟨d, e1, e⟩ := bind_inv e
    obtain ⟨ds', e2, rfl⟩ := map_inv e
    obtain ⟨n1, n2⟩ := List.nodup_cons.mp (show (i :: ios as).Nodup from nd)
    obtain ⟨F3, F4, us, xs, y, p, q1, q2, q3⟩ := SRd.args nb (fun a ha => b a (List.mem_cons_of_mem _ ha)) n2 x h e2
    have e3 : get (noIo as ρ) i = some d := by rw [noIo_get n1]; exact e1
    obtain ⟨t', v', F5, F6, g3, g4, z⟩ := y.takeOut e3
    rw [g1] at g3
    cases g3
    rw [g2] at g4
    cases g4
    refine ⟨F5, F6, us ++ [⟨t, d, v⟩], ⟨t, d, v⟩ :: xs, ?_, ?_, by simp [q1], by simp [q2], by simp [q3]⟩
    · rw [List.append_assoc] at z
      exact z
    · exact (List.perm_append_comm (l₁ := us) (l₂ := [⟨t, d, v⟩])).trans (p.cons _)
  | .bo i :: as, _, _, _, _, _, _, _, b, _, _, _, _ => by
    have := b _ List.mem_cons_self
    cases this
  | [], [], _ :: _, _, _, _, _, _, _, _, _, h, _ => h.elim
  | [], _ :: _, _, _, _, _, _, _, _, _, _, h, _ => by cases ‹List V› <;> exact h.elim
  | .d _ :: _, [], _, _, _, _, _, _, _, _, _, h, _ => by cases ‹List V› <;> exact h.elim
  | .io _ :: _, [], _, _, _, _, _, _, _, _, _, h, _ => by cases ‹List V› <;> exact h.elim
  | .d _ :: _, _ :: _, [], _, _, _, _, _, _, _, _, h, _ => h.elim
  | .io _ :: _, _ :: _, [], _, _, _, _, _, _, _, _, h, _ => h.elim
/-- behind the call they go back -/
theorem SRd.back : ∀ {as : List Ag} {ps : List Ty} {vs : List V} {ts ts' us xs : List Tm} {ds : List D} {ρ ρ' : Rho} {F1 F2 : List Addr}, (ios as).Nodup → HoldA Γ σ ps as vs ts ts' → xs.map Tm.t = ps → xs.map Tm.v = vs → xs.map Tm.d = ds → (∀ i ∈ ios as, i < ρ.length) →
    SRd fr K G F1 F2 Γ (noIo as ρ) σ (us ++ xs) H → backD as ds ρ = some ρ' → SR fr K Γ ρ' σ us H
  | [], [], [], _, _, us, [], _, ρ, ρ', F1, F2, _, _, _, _, q3, _, x, e => by
    subst q3
    cases e
    rw [List.append_nil] at x
    exact ⟨_, _, _, x⟩
  | [], [], [], _, _, us, _ :: _, _, ρ, ρ', F1, F2, _, _, q1, _, q3, _, x, e => by simp at q1
  | .d d :: as, t :: ps, v :: vs, ts, ts', us, y :: xs, _, ρ, ρ', F1, F2, nd, h, q1, q2, q3, lt, x, e => by
    subst q3
    obtain ⟨rfl, h⟩ := h
    simp only [List.map_cons, List.cons.injEq] at q1 q2
    have pp : (us ++ y :: xs).Perm (us ++ xs ++ [y]) := by
      rw [List.append_assoc]
      exact (List.perm_append_comm (l₁ := [y]) (l₂ := xs)).append_left us
    obtain ⟨F3, z⟩ := x.perm pp
    obtain ⟨F4, z2⟩ := z.drop
    exact SRd.back (as := as) (show (ios as).Nodup from nd) h q1.2 q2.2 rfl lt z2 (show backD as (xs.map Tm.d) ρ = some ρ' from e)
  | .io i :: as, t :: ps, v :: vs, ts, ts', us, y :: xs, _, ρ, ρ', F1, F2, nd, h, q1, q2, q3, lt, x, e => by
    subst q3
    obtain ⟨g1, g2, h⟩ := h
    simp only [List.map_cons, List.cons.injEq] at q1 q2
    obtain ⟨n1, n2⟩ := List.nodup_cons.mp (show (i :: ios as).Nodup from nd)
    have pp : (us ++ y :: xs).Perm (us ++ xs ++ [y]) := by
      rw [List.append_assoc]
      exact (List.perm_append_comm (l₁ := [y]) (l₂ := xs)).append_left us
    obtain ⟨F3, z⟩ := x.perm pp
    obtain ⟨yt, yd, yv⟩ := y
    obtain ⟨rfl, q1⟩ := q1
    obtain ⟨rfl, q2⟩ := q2
    have li : i < (noIo as ρ).length := by
      rw [noIo_len]
      exact lt i (show i ∈ i :: ios as from List.mem_cons_self)
    have z : SRd fr K G F1 F3 Γ ((noIo as ρ).set i none) σ (us ++ xs ++ [⟨yt, yd, yv⟩]) H := z
    obtain ⟨F5, F6, z2⟩ := z.putBack (by rw [List.getElem?_set_self li]) g1 g2
    have e3 : put ((noIo as ρ).set i none) i yd = noIo as (put ρ i yd) := by
      rw [noIo_put n1]
      unfold put
      rw [List.set_set]
    rw [e3] at z2
    exact SRd.back n2 h q1 q2 rfl (fun j hj => by unfold put; rw [List.length_set]; exact lt j (show j ∈ i :: ios as from List.mem_cons_of_mem _ hj)) z2 e
  | .bo i :: as, t :: ps, v :: vs, ts, ts', us, y :: xs, _, ρ, ρ', F1, F2, nd, h, q1, q2, q3, lt, x, e => by
    subst q3
    obtain ⟨rfl, _, h⟩ := h
    simp only [List.map_cons, List.cons.injEq] at q1 q2
    have pp : (us ++ y :: xs).Perm (us ++ xs ++ [y]) := by
      rw [List.append_assoc]
      exact (List.perm_append_comm (l₁ := [y]) (l₂ := xs)).append_left us
    obtain ⟨F3, z⟩ := x.perm pp
    obtain ⟨F4, z2⟩ := z.drop
    exact SRd.back (as := as) (show (ios as).Nodup from nd) h q1.2 q2.2 rfl lt z2 (show backD as (xs.map Tm.d) ρ = some ρ' from e)
  | _ :: _, _ :: _, _ :: _, _, _, _, [], _, _, _, _, _, _, _, q1, _, _, _, _, _ => by simp at q1
  | [], [], _ :: _, _, _, _, _, _, _, _, _, _, _, h, _, _, _, _, _, _ => h.elim
  | [], _ :: _, _, _, _, _, _, _, _, _, _, _, _, h, _, _, _, _, _, _ => by cases ‹List V› <;> exact h.elim
  | .d _ :: _, [], _, _, _, _, _, _, _, _, _, _, _, h, _, _, _, _, _, _ => by cases ‹List V› <;> exact h.elim
  | .io _ :: _, [], _, _, _, _, _, _, _, _, _, _, _, h, _, _, _, _, _, _ => by cases ‹List V› <;> exact h.elim
  | .bo _ :: _, [], _, _, _, _, _, _, _, _, _, _, _, h, _, _, _, _, _, _ => by cases ‹List V› <;> exact h.elim
  | .d _ :: _, _ :: _, [], _, _, _, _, _, _, _, _, _, _, h, _, _, _, _, _, _ => h.elim
  | .io _ :: _, _ :: _, [], _, _, _, _, _, _, _, _, _, _, h, _, _, _, _, _, _ => h.elim
  | .bo _ :: _, _ :: _, [], _, _, _, _, _, _, _, _, _, _, h, _, _, _, _, _, _ => h.elim
end
end Vw
namespace Vw
open PySem PySem.Spec PyProof.Rows L2
section
variable {X : Cx} {Φ : Cf} {fr : Fr} {Γ : List Ty} {w : Ty} {pos : Pos}
variable (Φ fr Γ) in
def tA (K : PySem.W.Frag) (ps : List Ty) (as : As) : TA := fun σ H Q => ∃ ρ ts r, SR fr K Γ ρ σ ts H ∧ evA Φ as ρ = some r ∧ ∀ vs H' ts', SR fr K Γ r.2 σ ts' H' → HoldA Γ σ ps r.1 vs ts ts' → Q vs H'
theorem a_nil : PA X [] (tA Φ fr Γ X.K [] .nil) := by
  refine PA_mono pa_nil fun σ H Q h => ?_
  obtain ⟨ρ, ts, r, sr, he, q⟩ := h
  have he : some ([], ρ) = some r := he
  cases he
  exact q [] H ts sr rfl
theorem a_fr {e : Expr} {es : List Expr} {ea : E} {as : As} {ps : List Ty} (ha : PE X e (tE Φ fr X.K Γ .fro ea)) (hb : PA X es (tA Φ fr Γ X.K ps as)) (hs : noStar e = true) : PA X (e :: es) (tA Φ fr Γ X.K (.fro :: ps) (.fr ea as)) := by
  refine PA_mono (pa_cons ha hb (star_cons hs)) fun σ H Q h => ?_
  obtain ⟨ρ, ts, r, sr, he, q⟩ := h
  obtain ⟨ra, e1, he⟩ := bind_inv he
  obtain ⟨rb, e2, rfl⟩ := map_inv he
  refine ⟨ρ, ts, ra, sr, e1, fun v H1 s1 => ⟨ra.2, _, rb, s1, e2, fun vs H2 ts' s2 hd => ?_⟩⟩
  exact q (v :: vs) H2 ts' s2 ⟨rfl, hd⟩
theorem a_io {i : Nat} {x : Str} {t : Ty} {es : List Expr} {as : As} {ps : List Ty} (hN : X.N[i]? = some x) (hv : Vis X.env.scope x) (hw : Γ[i]? = some t) (hd : (x == ("__debug__" : Str)) = false) (hcd : (x == ("__classdict__" : Str)) = false) (hb : PA X es (tA Φ fr Γ X.K ps as)) : PA X (.Name x pos :: es) (tA Φ fr Γ X.K (t :: ps) (.io i as)) := by
  refine PA_mono (pa_cons (pe_var hN hv hd hcd) hb (star_cons rfl)) fun σ H Q h => ?_
  obtain ⟨ρ, ts, r, ⟨G, F1, F2, sr⟩, he, q⟩ := h
  obtain ⟨d, e1, he⟩ := bind_inv he
  obtain ⟨rb, e2, rfl⟩ := map_inv he
  obtain ⟨t', v, _, _, g1, g2, _⟩ := sr.takeOut e1
  rw [hw] at g1
  cases g1
  refine ⟨v, g2, ρ, ts, rb, ⟨G, F1, F2, sr⟩, e2, fun vs H2 ts' s2 hd => ?_⟩
  exact q (v :: vs) H2 ts' s2 ⟨hw, g2, hd⟩
theorem a_bo {i : Nat} {x : Str} {es : List Expr} {as : As} {ps : List Ty} (pl : ∀ u, Γ[i]? = some u → u.plain = true) (hN : X.N[i]? = some x) (hv : Vis X.env.scope x) (hd : (x == ("__debug__" : Str)) = false) (hcd : (x == ("__classdict__" : Str)) = false) (hb : PA X es (tA Φ fr Γ X.K ps as)) : PA X (.Name x pos :: es) (tA Φ fr Γ X.K (.fro :: ps) (.bo i as)) := by
  refine PA_mono (pa_cons (pe_var hN hv hd hcd) hb (star_cons rfl)) fun σ H Q h => ?_
  obtain ⟨ρ, ts, r, ⟨G, F1, F2, sr⟩, he, q⟩ := h
  obtain ⟨d, e1, he⟩ := bind_inv he
  obtain ⟨rb, e2, rfl⟩ := map_inv he
  obtain ⟨t', v, _, _, g1, g2, _⟩ := sr.takeOut e1
  refine ⟨v, g2, ρ, ts, rb, ⟨G, F1, F2, sr⟩, e2, fun vs H2 ts' s2 hd => ?_⟩
  exact q (v :: vs) H2 ts' s2 ⟨rfl, ⟨g2, pl⟩, hd⟩
def iosA : As → List Nat
  | .nil => []
  | .fr _ r => iosA r
  | .io i r => i :: iosA r
  | .bo _ r => iosA r
def hasBo : As → Bool
  | .nil => false
  | .fr _ r => hasBo r
  | .io _ r => hasBo r
  | .bo _ r => true
theorem evA_ag : ∀ {as : As} {ρ : Rho} {r : List Ag × Rho}, evA Φ as ρ = some r → ios r.1 = iosA as ∧ r.1.any isBo = hasBo as
  | .nil, ρ, r, h => by
    have h : some ([], ρ) = some r := h
    cases h
    exact ⟨rfl, rfl⟩
  | .fr e as, ρ, r, h => by
    obtain ⟨ra, e1, h⟩ := bind_inv h
    obtain ⟨rb, e2, rfl⟩ := map_inv h
    obtain ⟨a, b⟩ := evA_ag e2
    exact ⟨a, by simpa [isBo, hasBo] using b⟩
  | .io i as, ρ, r, h => by
    obtain ⟨ra, e1, h⟩ := bind_inv h
    obtain ⟨rb, e2, rfl⟩ := map_inv h
    obtain ⟨a, b⟩ := evA_ag e2
    exact ⟨by show i :: ios rb.1 = _; rw [a]; rfl, by simpa [isBo, hasBo] using b⟩
  | .bo i as, ρ, r, h => by
    obtain ⟨ra, e1, h⟩ := bind_inv h
    obtain ⟨rb, e2, rfl⟩ := map_inv h
    obtain ⟨a, b⟩ := evA_ag e2
    exact ⟨a, by simp [isBo, hasBo]⟩
theorem agsD_lt : ∀ {as : List Ag} {ρ : Rho} {ds : List D}, agsD ρ as = some ds → ∀ i ∈ ios as, i < ρ.length
  | [], _, _, _, i, h => nomatch h
  | .d d :: r, ρ, ds, e, i, h => by
    obtain ⟨_, _, e⟩ := bind_inv e
    obtain ⟨_, e, _⟩ := map_inv e
    exact agsD_lt e i h
  | .bo d :: r, ρ, ds, e, i, h => by
    obtain ⟨_, _, e⟩ := bind_inv e
    obtain ⟨_, e, _⟩ := map_inv e
    exact agsD_lt e i h
  | .io j :: r, ρ, ds, e, i, h => by
    obtain ⟨d, e1, e⟩ := bind_inv e
    obtain ⟨_, e, _⟩ := map_inv e
    rcases List.mem_cons.mp (show i ∈ j :: ios r from h) with rfl | h
    · exact (List.getElem?_eq_some_iff.mp (get_some e1)).1
    · exact agsD_lt e i h
theorem isBo_all {as : List Ag} (h : as.any isBo = false) : ∀ a ∈ as, isBo a = false := fun a ha => by
  cases e : isBo a with
  | false => rfl
  | true =>
    rw [List.any_eq_true.mpr ⟨a, ha, e⟩] at h
    cases h
/-- behind a call whose things were all handed over -/
theorem SRd.called {K : PySem.W.Frag} {G H H' : Hp} {F1 F2 F5 F6 Fx : List Addr} {ρ : Rho} {σ : Sg} {ts us xs : List Tm} {ret : Ty} {ds' : List D} {r : D} {v : V}
    (x : SRd fr K G F1 F2 Γ ρ σ (ts ++ us) H) (e : F2 = F5 ++ F6) (tm1 : TmF K G H ts F5) (px : Fx.Perm F6) (ce : CallEnd K G H Fx ret xs ds' r v H') :
    ∃ G' F3 F4 xs', SRd fr K G' F3 F4 Γ ρ σ (ts ++ [⟨ret, r, v⟩] ++ xs') H' ∧ xs'.map Tm.t = xs.map Tm.t ∧ xs'.map Tm.v = xs.map Tm.v ∧ xs'.map Tm.d = ds' := by
  have nd := x.nd
  rw [e, ← List.append_assoc] at nd
  obtain ⟨nd1, nd2, dj⟩ := List.nodup_append.mp nd
  have inF : ∀ a ∈ Fx, a ∈ F1 ++ F2 := fun a ha => by
    rw [e, ← List.append_assoc]
    exact List.mem_append_right _ (px.mem_iff.mp ha)
  have in1 : ∀ a ∈ F1 ++ F5, a ∈ F1 ++ F2 := fun a ha => by
    rw [e, ← List.append_assoc]
    exact List.mem_append_left _ ha
  have nx : ∀ a ∈ F1 ++ F5, a ∉ Fx := fun a ha hb => dj a ha a (px.mem_iff.mp hb) rfl
  obtain ⟨G', ts', FA, FR, sG, sub', c1, c2, c3, tA, tR, nd', out', keep', mono', nG', tab'⟩ := ce
  have stay : ∀ a ∈ F1 ++ F5, H' a = H a := fun a ha => by
    obtain ⟨vs, eh, hm⟩ := x.there a (in1 a ha)
    rw [eh]
    exact (keep' a _ eh (nx a ha)).mine hm
  have tm' : TmF K G' H' (ts ++ [⟨ret, r, v⟩] ++ ts') (F5 ++ FR ++ FA) :=
    ((tm1.stay sG fun a ha => stay a (List.mem_append_right _ ha)).of_app (TmF.of_one tR)).of_app tA
  have oldH : ∀ a ∈ F1 ++ F5, H a ≠ none := fun a ha z => none_of_some z (x.there a (in1 a ha))
  have dj' : ∀ a ∈ F1 ++ F5, a ∉ FA ++ FR := fun a ha hb => by
    rcases (out' a hb).2 with h | h
    · exact nx a ha h
    · exact oldH a ha h
  refine ⟨G', F1, F5 ++ FR ++ FA, ts', ⟨sub', x.sl.stay sG (fun a ha => stay a (List.mem_append_left _ ha)), tm', ?_, fun a ha => ?_, ?_⟩, c1, c2, c3⟩
  · have e2 : F1 ++ (F5 ++ FR ++ FA) = (F1 ++ F5) ++ (FR ++ FA) := by simp [List.append_assoc]
    rw [e2]
    refine List.nodup_append.mpr ⟨nd1, (List.perm_append_comm.nodup_iff).mpr nd', fun a ha b hb z => ?_⟩
    subst z
    exact dj' a ha (List.perm_append_comm.mem_iff.mp hb)
  · have e2 : F1 ++ (F5 ++ FR ++ FA) = (F1 ++ F5) ++ (FR ++ FA) := by simp [List.append_assoc]
    rw [e2] at ha
    rcases List.mem_append.mp ha with ha | ha
    · refine ⟨?_, (x.out a (in1 a ha)).2⟩
      cases eg : G' a with
      | none => rfl
      | some o =>
        rcases nG' a (by rw [eg]; simp) with h | h | h
        · exact absurd (x.out a (in1 a ha)).1 h
        · exact absurd h (nx a ha)
        · exact absurd h (oldH a ha)
    · have ha : a ∈ FA ++ FR := List.perm_append_comm.mem_iff.mp ha
      refine ⟨(out' a ha).1, ?_⟩
      rcases (out' a ha).2 with h | h
      · exact (x.out a (inF a h)).2
      · exact .inr (x.ok.mono a h)
  · refine ⟨fun a o e1 h1 => ?_, fun a h => x.ok.mono a (mono' a h), fun a o h => sG _ _ (x.ok.sG _ _ h), fun a h => ?_, x.ok.pin, tab'⟩
    · refine (x.ok.keep a o e1 h1).trans fun u hu => keep' a u hu fun hb => ?_
      rcases (x.out a (inF a hb)).2 with h | h
      · exact h1 h
      · rw [h] at e1
        cases e1
    · rcases nG' a h with h | h | h
      · exact x.ok.nG a h
      · exact .inr (x.out a (inF a h)).2
      · exact .inr (.inr (x.ok.mono a h))
/-- an argument of a borrowing call reads as data while all slots are given -/
theorem HoldA.data {K : PySem.W.Frag} {G H : Hp} {σ : Sg} {ρ : Rho} : ∀ {as : List Ag} {ps : List Ty} {vs : List V} {ts ts' : List Tm} {ds : List D} {F1 F2 : List Addr}, SRd fr K G F1 F2 Γ ρ σ ts' H → HoldA Γ σ ps as vs ts ts' → agsD ρ as = some ds → ios as = [] →
    (∃ us, ts' = ts ++ us) ∧ RpAll K (join G H F1) vs ds ∧ ps = ps.map (fun _ => .fro) ∧ vs.length = ps.length
  | [], [], [], ts, ts', ds, F1, F2, x, h, e, _ => by
    have h : ts' = ts := h
    subst h
    cases e
    exact ⟨⟨[], by rw [List.append_nil]⟩, .nil, rfl, rfl⟩
  | .d d :: as, t :: ps, v :: vs, ts, ts', ds, F1, F2, x, h, e, n => by
    obtain ⟨rfl, h⟩ := h
    obtain ⟨d', e1, e⟩ := bind_inv e
    cases e1
    obtain ⟨ds', e2, rfl⟩ := map_inv e
    obtain ⟨⟨us, hu⟩, r, p, l⟩ := HoldA.data x h e2 n
    refine ⟨⟨⟨.fro, d, v⟩ :: us, by rw [hu, List.append_assoc]; rfl⟩, .cons ?_ r, by rw [List.map_cons, ← p], by simp [l]⟩
    rw [hu] at x
    obtain ⟨F3, y⟩ := x.drop
    exact Rp_same (join_same fun a ha => (x.out a (List.mem_append_left _ ha)).1) _ _ (y.last1 rfl)
  | .bo i :: as, t :: ps, v :: vs, ts, ts', ds, F1, F2, x, h, e, n => by
    obtain ⟨rfl, g2, h⟩ := h
    obtain ⟨d, e1, e⟩ := bind_inv e
    obtain ⟨ds', e2, rfl⟩ := map_inv e
    obtain ⟨hu, r, p, l⟩ := HoldA.data x h e2 n
    refine ⟨hu, .cons ?_ r, by rw [List.map_cons, ← p], by simp [l]⟩
    obtain ⟨t', v', F3, F4, g3, g4, pm, ow, _⟩ := x.sl.take (get_some e1)
    rw [g2.1] at g4
    cases g4
    exact ow.rp (join_same fun a ha => (x.out a (List.mem_append_left _ ha)).1) (g2.2 _ g3) fun a ha => join_in (perm_sub pm (List.mem_append_left _ ha))
  | .io i :: as, _, _, _, _, _, _, _, _, _, _, n => by
    have n : i :: ios as = [] := n
    cases n
  | [], [], _ :: _, _, _, _, _, _, _, h, _, _ => h.elim
  | [], _ :: _, _, _, _, _, _, _, _, h, _, _ => by cases ‹List V› <;> exact h.elim
  | .d _ :: _, [], _, _, _, _, _, _, _, h, _, _ => by cases ‹List V› <;> exact h.elim
  | .bo _ :: _, [], _, _, _, _, _, _, _, h, _, _ => by cases ‹List V› <;> exact h.elim
  | .d _ :: _, _ :: _, [], _, _, _, _, _, _, h, _, _ => h.elim
  | .bo _ :: _, _ :: _, [], _, _, _, _, _, _, h, _, _ => h.elim
theorem HoldA.pre {σ : Sg} : ∀ {as : List Ag} {ps : List Ty} {vs : List V} {ts ts' : List Tm}, HoldA Γ σ ps as vs ts ts' → ∃ us, ts' = ts ++ us
  | [], [], [], ts, ts', h => ⟨[], by rw [List.append_nil]; exact h⟩
  | .d d :: as, t :: ps, v :: vs, ts, ts', h => by
    obtain ⟨us, hu⟩ := HoldA.pre h.2
    exact ⟨⟨.fro, d, v⟩ :: us, by rw [hu, List.append_assoc]; rfl⟩
  | .io i :: as, t :: ps, v :: vs, ts, ts', h => HoldA.pre h.2.2
  | .bo i :: as, t :: ps, v :: vs, ts, ts', h => HoldA.pre h.2.2
  | [], [], _ :: _, _, _, h => h.elim
  | [], _ :: _, _, _, _, h => by cases ‹List V› <;> exact h.elim
  | .d _ :: _, [], _, _, _, h => by cases ‹List V› <;> exact h.elim
  | .io _ :: _, [], _, _, _, h => by cases ‹List V› <;> exact h.elim
  | .bo _ :: _, [], _, _, _, h => by cases ‹List V› <;> exact h.elim
  | .d _ :: _, _ :: _, [], _, _, h => h.elim
  | .io _ :: _, _ :: _, [], _, _, h => h.elim
  | .bo _ :: _, _ :: _, [], _, _, h => h.elim
theorem tms_of {w : Ty} {K : PySem.W.Frag} {G H : Hp} : ∀ {vs : List V} {ds : List D}, RpAll K G vs ds → TmF K G H (tms .fro ds vs) []
  | _, _, .nil => rfl
  | _, _, .cons r rs => ⟨[], [], rfl, ⟨rfl, r⟩, tms_of (w := w) rs⟩
/-- a call's reading -/
theorem m_call {K : PySem.W.Frag} {g : Sig} {as : As} {f : Str} {σ : Sg} {H : Hp} {Q : VK} {E : XK} (nd : (iosA as).Nodup) (hw : w = g.ret ∨ (w = .fro ∧ g.ret.plain = true)) (hb : hasBo as = true → iosA as = [] ∧ g.ret = .fro)
    (h : tE Φ fr K Γ w (.call f as) σ H Q) : tCall (spI K g (Φ.fn f)) [] E (tA Φ fr Γ K g.ps as) σ H Q := by
  obtain ⟨ρ, ts, r, sr, he, q⟩ := h
  obtain ⟨ra, e1, he⟩ := bind_inv he
  refine ⟨ρ, ts, ra, sr, e1, fun vs H1 ts' s1 hd => ?_⟩
  show spI K g (Φ.fn f) (vs ++ []) H1 Q E
  rw [List.append_nil]
  obtain ⟨ds, e2, he⟩ := bind_inv he
  obtain ⟨z, e3, he⟩ := bind_inv he
  obtain ⟨a1, a2⟩ := evA_ag e1
  obtain ⟨G, F1, F2, y⟩ := id s1
  rw [a2] at he
  by_cases hbo : hasBo as = true
  · rw [if_pos hbo] at he
    obtain ⟨b1, b2⟩ := hb hbo
    split at he
    · rename_i c
      cases he
      obtain ⟨⟨us, hu⟩, rs, p, l⟩ := HoldA.data y hd e2 (by rw [a1]; exact b1)
      have sJ : Same G (join G H1 F1) := join_same fun a ha => (y.out a (List.mem_append_left _ ha)).1
      have hty : (tms .fro ds vs).map Tm.t = g.ps := by
        rw [p]
        have : (tms .fro ds vs).map Tm.t = (tms .fro ds vs).map (fun _ => Ty.fro) := List.map_congr_left fun x hx => tms_t x hx
        rw [this, List.map_const', List.map_const']
        have e9 := congrArg List.length (tms_d (w := .fro) rs.len)
        rw [List.length_map] at e9
        rw [e9, ← rs.len, l]
      have hfn : Φ.fn f ((tms .fro ds vs).map Tm.d) = some z := by
        rw [tms_d rs.len]
        exact e3
      refine ⟨join G H1 F1, [], tms .fro ds vs, z, tms_v rs.len, hty, join_sub y.sub, tms_of (w := w) rs, List.nodup_nil, by simp, y.ok.tab.give (fun a hg hn => by
        by_cases ha : a ∈ F1
        · exact (hn (y.there a (List.mem_append_left _ ha))).elim
        · rw [join_out ha]; exact hg), hfn, fun v H' ce => ?_⟩
      obtain ⟨G', xs', FA, FR, sG, sub', c1, c2, c3, tmA, tR, nd', out', keep', mono', nG', tab'⟩ := ce
      have keep : ∀ a o, H1 a = some o → Kp o (H' a) := fun a o e => keep' a o e (by simp)
      rw [hu] at y
      obtain ⟨F3, y2⟩ := y.drop
      have st : ∀ a ∈ F1 ++ F3, H' a = H1 a := fun a ha => by
        obtain ⟨ws, eh, hm⟩ := y2.there a ha
        rw [eh]
        exact (keep _ _ eh).mine hm
      have y3 : SRd fr K G F1 F3 Γ ra.2 σ ts H' := ⟨fun a o e => sub' _ _ (sG _ _ (sJ _ _ e)), y2.sl.stay (Same.refl G) (fun a ha => st a (List.mem_append_left _ ha)), y2.tm.stay (Same.refl G) (fun a ha => st a (List.mem_append_right _ ha)), y2.nd, y2.out,
        fun a o e hF => (y2.ok.keep a o e hF).trans fun u hu => keep _ _ hu, fun a e => y2.ok.mono a (mono' a e), y2.ok.sG, y2.ok.nG, y2.ok.pin, tab'.give fun a hg _ => (by cases e : G a with | none => rfl | some o => rw [sG _ _ (sJ _ _ e)] at hg; cases hg)⟩
      rw [b2] at tR
      exact q _ _ ⟨_, _, _, y3.pushS c (Rp_scalar c tR.2)⟩
    · cases he
  · rw [if_neg hbo] at he
    obtain ⟨ρ', e4, rfl⟩ := map_inv he
    have nb : ∀ a ∈ ra.1, isBo a = false := isBo_all (by rw [a2]; simpa using hbo)
    rw [← a1] at nd
    obtain ⟨F3, F4, us, xs, y2, p, q1, q2, q3⟩ := SRd.args (fun _ => True) nb nd y hd e2
    obtain ⟨F5, F6, e5, tm1, tm2⟩ := y2.tm.app
    obtain ⟨Fx, px, tmx⟩ := tm2.perm p
    have ndx := y2.nd
    rw [e5, ← List.append_assoc] at ndx
    have inF : ∀ a ∈ Fx, a ∈ F3 ++ F4 := fun a ha => by
      rw [e5, ← List.append_assoc]
      exact List.mem_append_right _ (px.mem_iff.mp ha)
    refine ⟨G, Fx, xs, z, q2, q1, y2.sub, tmx, px.nodup_iff.mpr (List.nodup_append.mp ndx).2.1, fun a ha => (y2.out a (inF a ha)).1, y2.ok.tab, by rw [q3]; exact e3, fun v H' ce => ?_⟩
    obtain ⟨G', F7, F8, xs', z2, c1, c2, c3⟩ := y2.called e5 tm1 px ce
    have fin : SR fr K Γ ρ' σ (ts ++ [⟨g.ret, z.1, v⟩]) H' := SRd.back nd hd (c1.trans q1) (c2.trans q2) c3 (agsD_lt e2) z2 e4
    rcases hw with hw | ⟨hw, pl⟩
    · rw [hw] at q
      exact q _ _ fin
    · rw [hw] at q
      exact q _ _ (SR.give (x1 := ⟨g.ret, z.1, v⟩) pl fin)
def noStars : List Expr → Bool
  | [] => true
  | e :: es => noStar e && noStars es
theorem stars_plain {env : Env} {p : Pos} : ∀ {es : List Expr}, noStars es = true → (backTo p (starEach es env)).any (·.1) = false
  | [], _ => rfl
  | e :: es, h => by
    obtain ⟨h1, h2⟩ := Bool.and_eq_true_iff.mp (show (noStar e && noStars es) = true from h)
    exact plain_cons h1 (stars_plain h2)
theorem e_call {g : Sig} {as : As} {x : Str} {k : Nat} {f : Addr} {fd : FuncData} {ps : List Str} {args : List Expr} {p : Pos} (F : FnOk X.prog X.w X.K X.mg X.base CX0 k f fd ps (spI X.K g (Φ.fn x))) (hr : Room k X.A) (hg : Gl X x) (hm : X.mg x = some (.ref f)) (hk : PySem.W.keepIn X.K (.ref f) = true) (hbd : Binds X.K fd ps [])
    (ha : PA X args (tA Φ fr Γ X.K g.ps as)) (hs : noStars args = true) (hne : args.isEmpty = false) (hdb : (x == ("__debug__" : Str)) = false) (nd : (iosA as).Nodup) (hw : w = g.ret ∨ (w = .fro ∧ g.ret.plain = true)) (hb : hasBo as = true → iosA as = [] ∧ g.ret = .fro) :
    PE X (.Call (.Name x p) args [] pos) (tE Φ fr X.K Γ w (.call x as)) := by
  cases args with
  | nil => cases hne
  | cons e es =>
    obtain ⟨h1, h2⟩ := Bool.and_eq_true_iff.mp (show (noStar e && noStars es) = true from hs)
    exact PE_mono (pe_call F hr hg hm hk hbd .nil pass0 ha hdb (star_cons h1) (stars_plain h2)) fun σ H Q h => m_call nd hw hb h
end
end Vw
namespace Vw
open PySem PySem.Spec PyProof.Rows L2
section
variable {X : Cx} {Φ : Cf} {fr : Fr} {Γ : List Ty} {w : Ty} {pos : Pos}
/-! ### pop -/
theorem RpAll_dropLast {K : PySem.W.Frag} {G : Hp} : ∀ {vs : List V} {l : List D}, RpAll K G vs l → RpAll K G vs.dropLast l.dropLast
  | _, _, .nil => .nil
  | _, _, .cons _ .nil => .nil
  | _, _, .cons h (.cons h2 t) => .cons h (RpAll_dropLast (.cons h2 t))
theorem RpAll_erase {K : PySem.W.Frag} {G : Hp} : ∀ {vs : List V} {l : List D} (k : Nat), RpAll K G vs l → RpAll K G (vs.eraseIdx k) (l.eraseIdx k)
  | _, _, _, .nil => .nil
  | _, _, 0, .cons _ t => t
  | _, _, k + 1, .cons h t => .cons h (RpAll_erase k t)
theorem tyV_l {K : PySem.W.Frag} {a : Addr} {vs : List V} {H : Hp} (h : H a = some (.lst vs)) : tyV K "list" (.ref a) H := Or.inl ⟨rfl, _, .inl (.inl h)⟩
theorem e_pop {i : Nat} {x : Str} {px ap : Pos} (hN : X.N[i]? = some x) (hv : Vis X.env.scope x) (hw : Γ[i]? = some (.lst .fro)) (hd : (x == ("__debug__" : Str)) = false) (hcd : (x == ("__classdict__" : Str)) = false) (hl : (ap.endLine == pos.line) = true) :
    PE X (.Call (.Attribute (.Name x px) "pop" ap) [] [] pos) (tE Φ fr X.K Γ .fro (.pop i)) := by
  refine PE_mono (pe_bm0 PySem.F.plainAttrs_list PySem.F.slot_list_pop PySem.F.type_list_pop mt_pop (pe_var hN hv hd hcd) rfl hl) fun σ H Q h => ?_
  obtain ⟨ρ, ts, r, ⟨G, F1, F2, sr⟩, he, q⟩ := h
  obtain ⟨x, e1, he⟩ := bind_inv he
  cases x with
  | list l =>
    obtain ⟨d, e2, rfl⟩ := map_inv (show (l[l.length - 1]?).map (fun d => (d, put ρ i (.list l.dropLast))) = some r from he)
    obtain ⟨a, vs, g1, g2, g3, _⟩ := sr.slotMut e1 hw
    obtain ⟨y, e3, ry⟩ := g3.get e2
    obtain ⟨a', vs', g1', g2', g3', m⟩ := (sr.push ry).slotMut e1 hw
    rw [g1] at g1'
    cases g1'
    rw [g2] at g2'
    cases g2'
    refine ⟨_, g1, tyV_l g2, a, vs, y, rfl, rfl, g2, by rw [g3.len]; exact e3, q _ _ ?_⟩
    exact m _ _ (RpAll_dropLast g3)
  | _ => cases he
theorem few_of {e : Expr} {env : Env} {p : Pos} (h : noStar e = true) : ((backTo p (starEach [e] env)).all (fun x => !x.1) && (backToKw p (keywordEach [] env)).all (fun x => x.1.isSome)
      && decide ([e].length + ([] : List Keyword).length + (if ([] : List Keyword).isEmpty then 0 else 1) < 30)) = true := by
  rw [star_cons h]
  rfl
theorem e_popat {i : Nat} {x : Str} {px ap : Pos} {e : Expr} {ea : E} (hN : X.N[i]? = some x) (hv : Vis X.env.scope x) (hw : Γ[i]? = some (.lst .fro)) (hd : (x == ("__debug__" : Str)) = false) (hcd : (x == ("__classdict__" : Str)) = false) (hl : (ap.endLine == pos.line) = true)
    (ha : PE X e (tE Φ fr X.K Γ .fro ea)) (hs : noStar e = true) : PE X (.Call (.Attribute (.Name x px) "pop" ap) [e] [] pos) (tE Φ fr X.K Γ .fro (.popat i ea)) := by
  refine PE_mono (pe_bm PySem.F.plainAttrs_list PySem.F.slot_list_pop PySem.F.type_list_pop mt_popAt (pe_var hN hv hd hcd) (pa_cons ha pa_nil (star_cons (env := X.env) hs)) rfl (few_of hs) hl (star_cons hs) rfl) fun σ H Q h => ?_
  obtain ⟨ρ, ts, r, ⟨G0, F01, F02, sr⟩, he, q⟩ := h
  obtain ⟨x0, e0, he⟩ := bind_inv he
  cases x0 with
  | list l0 =>
    obtain ⟨ra, e1, he⟩ := bind_inv he
    obtain ⟨x, e2, he⟩ := bind_inv he
    obtain ⟨a0, vs0, k1, k2, _⟩ := sr.slotL e0 hw
    refine ⟨_, k1, tyV_l k2, ρ, ts, ra, ⟨_, _, _, sr⟩, e1, fun u H1 s1 => ?_⟩
    obtain ⟨G, F1, F2, y⟩ := id s1
    have ru := y.last1 rfl
    clear e1
    obtain ⟨d1, ρ1⟩ := ra
    cases x with
    | list l =>
      cases d1 with
      | int j =>
        cases ru
        have he : (if -(2 ^ 63) ≤ j ∧ j < 2 ^ 63 then (seqIndex? j l.length).bind fun k => (l[k]?).map fun d => (d, put ρ1 i (.list (l.eraseIdx k))) else none) = some r := he
        split at he
        · rename_i c
          obtain ⟨k, e3, he⟩ := bind_inv he
          obtain ⟨d, e4, rfl⟩ := map_inv he
          obtain ⟨F3, y2⟩ := y.drop
          obtain ⟨a, vs, g1, g2, g3, _⟩ := y2.slotMut e2 hw
          obtain ⟨z, e5, rz⟩ := g3.get e4
          obtain ⟨a', vs', g1', g2', g3', m⟩ := (y2.push rz).slotMut e2 hw
          rw [k1] at g1 g1'
          cases g1
          cases g1'
          rw [g2] at g2'
          cases g2'
          exact ⟨_, vs, j, k, z, rfl, rfl, g2, c.1, c.2, by rw [g3.len]; exact e3, e5, q _ _ (m _ _ (RpAll_erase k g3))⟩
        · cases he
      | _ => cases he
    | _ => cases he
  | _ => cases he
/-! ### targets -/
mutual
def tgSl : Tg → List Nat
  | .n i => [i]
  | .t l => tgsSl l
def tgsSl : Tgs → List Nat
  | .nil => []
  | .cons a l => tgSl a ++ tgsSl l
end
/-- but for these places the names are as they were -/
def But (l : List Nat) (σ σ' : Sg) : Prop := σ'.length = σ.length ∧ ∀ j, j ∉ l → σ'[j]? = σ[j]?
theorem But.trans {l m : List Nat} {σ σ1 σ2 : Sg} (a : But l σ σ1) (b : But m σ1 σ2) : But (l ++ m) σ σ2 :=
  ⟨b.1.trans a.1, fun j h => (b.2 j fun z => h (List.mem_append_right _ z)).trans (a.2 j fun z => h (List.mem_append_left _ z))⟩
variable (fr Γ) in
def tG (K : PySem.W.Frag) (tg : Tg) : TG := fun v σ H Q => ∃ ρ ts d ρ', SR fr K Γ ρ σ (ts ++ [⟨.fro, d, v⟩]) H ∧ tgD tg d ρ = some ρ' ∧ ∀ σ' H', But (tgSl tg) σ σ' → SR fr K Γ ρ' σ' ts H' → Q σ' H'
variable (fr Γ) in
def tGs (K : PySem.W.Frag) (tg : Tgs) : TGs := fun vs σ H Q => ∃ ρ ts ds ρ', vs.length = ds.length ∧ SR fr K Γ ρ σ (ts ++ tms .fro ds vs) H ∧ tgsD tg ds ρ = some ρ' ∧ ∀ σ' H', But (tgsSl tg) σ σ' → SR fr K Γ ρ' σ' ts H' → Q σ' H'
theorem PG_mono {e : Expr} {t t' : TG} (h : PG X e t) (i : ∀ v σ H Q, t' v σ H Q → t v σ H Q) : PG X e t' := ⟨fun pins s σ H v u Q I r hw => h.run pins s σ H v u Q I r (i v σ H Q hw)⟩
theorem PGs_mono {e : List Expr} {t t' : TGs} (h : PGs X e t) (i : ∀ v σ H Q, t' v σ H Q → t v σ H Q) : PGs X e t' := ⟨fun pins s σ H v u Q I r hw => h.run pins s σ H v u Q I r (i v σ H Q hw)⟩
theorem PG_or {e : Expr} {t t' : TG} (h : PG X e t) (h' : PG X e t') : PG X e (fun v σ H Q => t v σ H Q ∨ t' v σ H Q) := ⟨fun pins s σ H v u Q I r hw => by
  rcases hw with hw | hw
  · exact h.run pins s σ H v u Q I r hw
  · exact h'.run pins s σ H v u Q I r hw⟩
theorem SR.setSlot {K : PySem.W.Frag} {ρ : Rho} {σ : Sg} {ts : List Tm} {H : Hp} {i : Nat} {t : Ty} {d : D} {v : V} (x : SR fr K Γ ρ σ (ts ++ [⟨t, d, v⟩]) H) (ht : Γ[i]? = some t) (hp : ∀ p ∈ fr.pins, p.1 ≠ i) : SR fr K Γ (put ρ i d) (σ.set i (some v)) ts H := by
  obtain ⟨G, F1, F2, x⟩ := x
  have l := x.sl.lens.1
  obtain ⟨F3, F4, y⟩ := x.setSlot ht (by rw [← l]; exact (List.getElem?_eq_some_iff.mp ht).1) hp
  exact ⟨_, _, _, y⟩
theorem g_n {i : Nat} {x : Str} (nd : X.N.Nodup) (hi : X.N[i]? = some x) (hx : Loc X.env.scope x) (hf : X.fn x = true ∨ X.env.scope.names.lookup x = some .local) (hw : Γ[i]? = some .fro) (hp : ∀ p ∈ fr.pins, p.1 ≠ i) : PG X (.Name x pos) (tG fr Γ X.K (.n i)) := by
  refine PG_mono (pg_name nd hi hx hf) fun v σ H Q h => ?_
  obtain ⟨ρ, ts, d, ρ', sr, he, q⟩ := h
  cases he
  refine q _ _ ⟨List.length_set, fun j hj => ?_⟩ (sr.setSlot hw hp)
  have hj : i ≠ j := fun e => hj (by rw [e]; exact List.mem_cons_self)
  rw [List.getElem?_set_ne hj]
theorem asg_cons {e : Expr} {es : List Expr} {env : Env} (h : noStar e = true) : assignEach (e :: es) env = (false, assign e env) :: assignEach es env := by
  cases e <;> first | rfl | cases h
theorem asg_len {env : Env} : ∀ {es : List Expr}, (assignEach es env).length = es.length
  | [] => rfl
  | e :: es => by
    have : (assignEach (e :: es) env).length = (assignEach es env).length + 1 := by cases e <;> rfl
    rw [this, asg_len]
    rfl
theorem asg_star {env : Env} : ∀ {es : List Expr}, noStars es = true → (assignEach es env).findIdx? (·.1) = none
  | [], _ => rfl
  | e :: es, h => by
    obtain ⟨h1, h2⟩ := Bool.and_eq_true_iff.mp (show (noStar e && noStars es) = true from h)
    rw [asg_cons h1, List.findIdx?_cons, asg_star h2]
    rfl
theorem gs_nil : PGs X [] (tGs fr Γ X.K .nil) := by
  refine PGs_mono pgs_nil fun vs σ H Q h => ?_
  obtain ⟨ρ, ts, ds, ρ', hl, sr, he, q⟩ := h
  cases ds with
  | nil =>
    cases vs with
    | nil =>
      cases he
      refine ⟨rfl, q _ _ ⟨rfl, fun _ _ => rfl⟩ ?_⟩
      have e : ts ++ tms .fro [] [] = ts := List.append_nil ts
      rw [e] at sr
      exact sr
    | cons _ _ => simp at hl
  | cons _ _ => cases he
theorem gs_cons {e : Expr} {es : List Expr} {a : Tg} {l : Tgs} (h1 : PG X e (tG fr Γ X.K a)) (h2 : PGs X es (tGs fr Γ X.K l)) (hs : noStar e = true) : PGs X (e :: es) (tGs fr Γ X.K (.cons a l)) := by
  refine PGs_mono (pgs_cons h1 h2 (by rw [asg_cons hs]; rfl)) fun vs σ H Q h => ?_
  obtain ⟨ρ, ts, ds, ρ', hl, sr, he, q⟩ := h
  cases ds with
  | nil => cases he
  | cons d ds =>
    cases vs with
    | nil => simp at hl
    | cons v vs =>
      obtain ⟨ρ1, e1, e2⟩ := bind_inv he
      have pp : (ts ++ tms .fro (d :: ds) (v :: vs)).Perm (ts ++ tms .fro ds vs ++ [⟨.fro, d, v⟩]) := by
        rw [List.append_assoc]
        exact (List.perm_append_comm (l₁ := [⟨.fro, d, v⟩]) (l₂ := tms .fro ds vs)).append_left ts
      obtain ⟨G, F1, F2, y⟩ := sr
      obtain ⟨F3, z⟩ := y.perm pp
      refine ⟨v, vs, rfl, ρ, _, d, ρ1, ⟨_, _, _, z⟩, e1, fun σ1 H1 b1 s1 => ⟨ρ1, ts, ds, ρ', by simpa using hl, s1, e2, fun σ2 H2 b2 s2 => q _ _ (b1.trans b2) s2⟩⟩
def tgsLen : Tgs → Nat
  | .nil => 0
  | .cons _ l => tgsLen l + 1
theorem tgsD_len : ∀ {l : Tgs} {ds : List D} {ρ ρ' : Rho}, tgsD l ds ρ = some ρ' → ds.length = tgsLen l
  | .nil, [], _, _, _ => rfl
  | .nil, _ :: _, _, _, h => nomatch h
  | .cons _ _, [], _, _, h => nomatch h
  | .cons a l, d :: ds, ρ, ρ', h => by
    obtain ⟨ρ1, _, e2⟩ := bind_inv h
    show _ + 1 = _ + 1
    rw [tgsD_len e2]
theorem g_t {es : List Expr} {l : Tgs} {k : Nat} (hc : X.calm = true) (h : PGs X es (tGs fr Γ X.K l)) (hs : noStars es = true) (hl : tgsLen l = es.length) : PG X (.Tuple es k pos) (tG fr Γ X.K (.t l)) := by
  refine PG_mono (PG_or (pg_tup hc h asg_len (asg_star hs)) (pg_lst hc h asg_len (asg_star hs))) fun v σ H Q hh => ?_
  obtain ⟨ρ, ts, d, ρ', ⟨G, F1, F2, sr⟩, he, q⟩ := hh
  have rp := sr.last1 rfl
  obtain ⟨F3, y⟩ := sr.drop
  cases d with
  | tuple ds =>
    have he : tgsD l ds ρ = some ρ' := he
    obtain ⟨a, vs, rfl, h1, h2⟩ := Sn.tuple sr.sub (.inl rp)
    exact .inl ⟨a, vs, rfl, h1, by rw [h2.len, tgsD_len he, hl], ρ, ts, ds, ρ', h2.len, ⟨_, _, _, y.pushes h2⟩, he, q⟩
  | list ds =>
    have he : tgsD l ds ρ = some ρ' := he
    obtain ⟨a, vs, rfl, h1, h2⟩ := Sn.list sr.sub (.inl rp)
    exact .inr ⟨a, vs, rfl, .inl h1, by rw [h2.len, tgsD_len he, hl], ρ, ts, ds, ρ', h2.len, ⟨_, _, _, y.pushes h2⟩, he, q⟩
  | _ => cases he
/-! ### what is walked -/
variable (fr Γ) in
structure Wk (K : PySem.W.Frag) (fr' : Fr) (J : It) (ts us : List Tm) (ds : List D) (sv : List (Nat × D)) : Prop where
  go : ∀ i ρ σ ts' H (h : i < ds.length), SR fr' K Γ ρ σ (ts ++ us ++ ts') H → J.go i H ∧ ∀ x H', J.yld i H x H' → SR fr' K Γ ρ σ (ts ++ us ++ ts' ++ [⟨.fro, ds[i], x⟩]) H'
  stop : ∀ ρ σ ts' H, SR fr' K Γ ρ σ (ts ++ us ++ ts') H → J.stop ds.length H
  rest : ∀ ρ ρ' σ ts0 H, SR fr' K Γ ρ σ (ts0 ++ us) H → restD sv ρ = some ρ' → SR fr K Γ ρ' σ ts0 H
  weak : ∀ ρ σ ts0 H, SR fr' K Γ ρ σ ts0 H → SR fr K Γ ρ σ ts0 H
  pins : ∀ p ∈ fr'.pins, p ∈ fr.pins ∨ p.1 ∈ sv.map (·.1)
variable (Φ fr Γ) in
def tIt (K : PySem.W.Frag) (it : Iv) : TI := fun σ H R => ∃ ρ ts r, SR fr K Γ ρ σ ts H ∧ evI Φ it ρ = some r ∧ ∀ J H' us fr', SR fr' K Γ r.2.1 σ (ts ++ us) H' → Wk fr Γ K fr' J ts us r.1 r.2.2 → R J H'
theorem PI_mono {tg e : Expr} {t t' : TI} (h : PI X tg e t) (i : ∀ σ H R, t' σ H R → t σ H R) : PI X tg e t' := ⟨fun pins s σ H R I hw => h.run pins s σ H R I (i σ H R hw)⟩
theorem PI_or {tg e : Expr} {t t' : TI} (h : PI X tg e t) (h' : PI X tg e t') : PI X tg e (fun σ H R => t σ H R ∨ t' σ H R) := ⟨fun pins s σ H R I hw => by
  rcases hw with hw | hw
  · exact h.run pins s σ H R I hw
  · exact h'.run pins s σ H R I hw⟩
/-! ### ranges -/
theorem Wk.plain {K : PySem.W.Frag} {J : It} {ts : List Tm} {ds : List D} (go : ∀ i H (h : i < ds.length), J.go i H ∧ ∀ x H', J.yld i H x H' → H' = H ∧ ∃ j, ds[i] = .int j ∧ x = .int j) (stop : ∀ H, J.stop ds.length H) : Wk fr Γ K fr J ts [] ds [] where
  go := fun i ρ σ ts' H h s => by
    obtain ⟨g1, g2⟩ := go i H h
    refine ⟨g1, fun x H' y => ?_⟩
    obtain ⟨rfl, j, e1, rfl⟩ := g2 x H' y
    rw [e1]
    exact s.res rfl fun G => .int j
  stop := fun ρ σ ts' H s => stop H
  rest := fun ρ ρ' σ ts0 H s e => by
    cases e
    rw [List.append_nil] at s
    exact s
  weak := fun ρ σ ts0 H s => s
  pins := fun p h => .inl h
theorem Wk.rng {K : PySem.W.Frag} {ts : List Tm} {lo : Int} {n : Nat} : Wk fr Γ K fr (Itr lo n) ts [] (rngD lo n) [] := by
  have len : (rngD lo n).length = n := by simp [rngD]
  refine Wk.plain (fun i H h => ?_) fun H => ?_
  · rw [len] at h
    refine ⟨h, fun x H' y => ⟨y.1, lo + i, ?_, y.2⟩⟩
    simp [rngD]
  · show n ≤ _
    rw [len]
    exact Nat.le_refl _
theorem Wk.rngC {K : PySem.W.Frag} {ts : List Tm} {lo c : Int} {n : Nat} : Wk fr Γ K fr (Itc lo c n) ts [] (rngC lo c n) [] := by
  have len : (Vw.rngC lo c n).length = n := by simp [Vw.rngC]
  refine Wk.plain (fun i H h => ?_) fun H => ?_
  · rw [len] at h
    refine ⟨h, fun x H' y => ⟨y.1, lo + (i : Nat) * c, ?_, y.2⟩⟩
    simp [Vw.rngC]
  · show n ≤ _
    rw [len]
    exact Nat.le_refl _
theorem star1 {a : Expr} {env : Env} (h : noStar a = true) : starEach [a] env = [(false, eval a env)] := by
  rw [star_cons h]
  rfl
theorem star2 {a b : Expr} {env : Env} (h : noStar a = true) (h2 : noStar b = true) : starEach [a, b] env = [(false, eval a env), (false, eval b env)] := by
  rw [star_cons h, star1 h2]
theorem inR_of {i : Int} (h : inR i = true) : -(2 ^ 62) ≤ i ∧ i < 2 ^ 62 := of_decide_eq_true h
theorem it_r1 {tg a : Expr} {ea : E} {p : Pos} (hg : Gl X "range") (hm : X.mg "range" = none) (ha : PE X a (tE Φ fr X.K Γ .fro ea)) (hs : noStar a = true) : PI X tg (.Call (.Name "range" p) [a] [] pos) (tIt Φ fr Γ X.K (.r1 ea)) := by
  refine PI_mono (pi_range1 hg hm (pa_cons ha pa_nil (star_cons hs)) (star1 hs)) fun σ H R h => ?_
  obtain ⟨ρ, ts, r, sr, he, q⟩ := h
  obtain ⟨ra, e1, he⟩ := bind_inv he
  refine ⟨ρ, ts, ra, sr, e1, fun v H1 s1 => ?_⟩
  obtain ⟨G, F1, F2, y⟩ := id s1
  have rp := y.last1 rfl
  clear e1
  obtain ⟨d, ρ1⟩ := ra
  cases d with
  | int j =>
    cases rp
    have he : (if inR j = true then some (rngD 0 j.toNat, ρ1, []) else none) = some r := he
    split at he
    · rename_i c
      cases he
      refine ⟨j, rfl, (inR_of c).1, (inR_of c).2, q _ _ [] fr ?_ Wk.rng⟩
      rw [List.append_nil]
      exact s1.drop
    · cases he
  | _ => cases he
theorem it_r2 {tg a b : Expr} {ea eb : E} {p : Pos} (hg : Gl X "range") (hm : X.mg "range" = none) (ha : PE X a (tE Φ fr X.K Γ .fro ea)) (hb : PE X b (tE Φ fr X.K Γ .fro eb)) (hs : noStar a = true) (hs2 : noStar b = true) : PI X tg (.Call (.Name "range" p) [a, b] [] pos) (tIt Φ fr Γ X.K (.r2 ea eb)) := by
  refine PI_mono (pi_range2 hg hm (pa_cons ha (pa_cons hb pa_nil (star_cons hs2)) (star_cons hs)) (star2 hs hs2) (star1 hs2)) fun σ H R h => ?_
  obtain ⟨ρ, ts, r, sr, he, q⟩ := h
  obtain ⟨ra, e1, he⟩ := bind_inv he
  obtain ⟨rb, e2, he⟩ := bind_inv he
  refine ⟨ρ, ts, ra, sr, e1, fun v H1 s1 => ⟨ra.2, _, rb, s1, e2, fun u H2 s2 => ?_⟩⟩
  obtain ⟨G, F1, F2, y⟩ := id s2
  have rp := y.last2 rfl rfl
  clear e1 e2
  obtain ⟨d1, ρ1⟩ := ra
  obtain ⟨d2, ρ2⟩ := rb
  cases d1 with
  | int i =>
    cases d2 with
    | int j =>
      obtain ⟨r1, r2⟩ := rp
      cases r1
      cases r2
      have he : (if inR i = true ∧ inR j = true then some (rngD i (j - i).toNat, ρ2, []) else none) = some r := he
      split at he
      · rename_i c
        cases he
        refine ⟨i, j, rfl, ⟨(inR_of c.1).1, (inR_of c.1).2, (inR_of c.2).1, (inR_of c.2).2⟩, q _ _ [] fr ?_ Wk.rng⟩
        rw [List.append_nil]
        exact s2.drop.drop
      · cases he
    | _ => cases he
  | _ => cases he
theorem it_r3 {tg a b e : Expr} {ea eb ee : E} {p : Pos} (hg : Gl X "range") (hm : X.mg "range" = none) (ha : PE X a (tE Φ fr X.K Γ .fro ea)) (hb : PE X b (tE Φ fr X.K Γ .fro eb)) (hc : PE X e (tE Φ fr X.K Γ .fro ee)) (hs : noStar a = true) (hs2 : noStar b = true) (hs3 : noStar e = true) : PI X tg (.Call (.Name "range" p) [a, b, e] [] pos) (tIt Φ fr Γ X.K (.r3 ea eb ee)) := by
  refine PI_mono (pi_range3 hg hm (pa_cons ha (pa_cons hb (pa_cons hc pa_nil (star_cons hs3)) (star_cons hs2)) (star_cons hs)) (star_cons hs) (plain_cons hs2 (plain_cons hs3 rfl))) fun σ H R h => ?_
  obtain ⟨ρ, ts, r, sr, he, q⟩ := h
  obtain ⟨ra, e1, he⟩ := bind_inv he
  obtain ⟨rb, e2, he⟩ := bind_inv he
  obtain ⟨rc, e3, he⟩ := bind_inv he
  refine ⟨ρ, ts, ra, sr, e1, fun v H1 s1 => ⟨ra.2, _, rb, s1, e2, fun u H2 s2 => ⟨rb.2, _, rc, s2, e3, fun u3 H3 s3 => ?_⟩⟩⟩
  obtain ⟨G, F1, F2, y⟩ := id s3
  have rp := y.last3 rfl rfl rfl
  clear e1 e2 e3
  obtain ⟨d1, ρ1⟩ := ra
  obtain ⟨d2, ρ2⟩ := rb
  obtain ⟨d3, ρ3⟩ := rc
  cases d1 with
  | int i =>
    cases d2 with
    | int j =>
      cases d3 with
      | int c =>
        obtain ⟨r1, r2, r3⟩ := rp
        cases r1
        cases r2
        cases r3
        have he : (if inR i = true ∧ inR j = true ∧ c = -1 then some (rngC i c (i - j).toNat, ρ3, []) else none) = some r := he
        split at he
        · rename_i cc
          cases he
          obtain ⟨c1, c2, rfl⟩ := cc
          refine ⟨i, j, -1, (i - j).toNat, rfl, RgC.neg (inR_of c1).1 (inR_of c1).2 (inR_of c2).1 (inR_of c2).2, q _ _ [] fr ?_ Wk.rngC⟩
          rw [List.append_nil]
          exact s3.drop.drop.drop
        · cases he
      | _ => cases he
    | _ => cases he
  | _ => cases he
end
end Vw
/-! enumerate of a tuple, as a walk. -/
namespace Vw
open PySem PySem.Spec PyProof.Rows L2
theorem meets_en_newB {v : Value} {o : Obj} {H : Heap → Prop} (B : Begins v o H) :
    Meets (Builtin.«enumerate.__new__» ⟨[.type "enumerate", v], []⟩) (fun _ R s => H s.heap ∧
      R (.ok (.ret (.ref (s.heap.push o).objs.size))) { s with heap := (s.heap.push o).push { cls := .type "enumerate", data := .fields #[.none, .bool false, .ref s.heap.objs.size, rawInt 0, .none, .none] } }) :=
  .of_wp fun prog w A R s h => by
    obtain ⟨hp, g, d, tk, os⟩ := s; obtain ⟨h1, h⟩ := h
    have hsub := sub_enumerate
    have q1 : ∀ {A' : Around} {E : Value → Shared → Prop} {Q : Value → Shared → Prop}, Q (.ref hp.objs.size) ⟨hp.push o, g, d, tk, os⟩ → wpAny (model prog w) A' (pyIter v) Q E ⟨hp, g, d, tk, os⟩ :=
      fun q => B.iter prog w _ _ ⟨hp, g, d, tk, os⟩ _ h1 q
    wp_walk using q1
    refine wpAny_stack_any fun st => wpAny_pure ?_
    split
    · rename_i c _ _ _ _ _
      cases (c == Value.type "enumerate")
      · wp_walk using q1
        exact ⟨_, rfl, h⟩
      · wp_walk using q1
        exact ⟨_, rfl, h⟩
    · wp_walk using q1
      exact ⟨_, rfl, h⟩
section
variable {prog : Program} {w : World} {A : Around} {E : Value → Shared → Prop} {s : Shared}
theorem en_begins {v : Value} {o : Obj} {H : Heap → Prop} {Q : Value → Shared → Prop} (B : Begins v o H) (h1 : H s.heap)
    (h : ∀ h', IsEnum h' (s.heap.objs.size + 1) s.heap.objs.size 0 .none → h'.get? s.heap.objs.size = some o → h'.objs.size = s.heap.objs.size + 2 →
      (∀ b o, s.heap.get? b = some o → h'.get? b = some o) → Q (.ref (s.heap.objs.size + 1)) { s with heap := h' }) :
    wpAny (model prog w) A (call (.type "enumerate") [v]) Q E s := by
  refine callType_new F.called_enumerate (by decide) (F.typeCall_enumerate_1 _) (F.newCall_enumerate_1 _) (fun obj => F.args_object_init_2 obj _) F.entry_enumerate_new
    (meets_en_newB B) ⟨h1, ?_⟩
  have hz : (s.heap.push o).objs.size = s.heap.objs.size + 1 := Heap.size_push ..
  show _ ∧ _
  rw [hz]
  have he : IsEnum ((s.heap.push o).push { cls := .type "enumerate", data := .fields #[.none, .bool false, .ref s.heap.objs.size, rawInt 0, .none, .none] }) (s.heap.objs.size + 1) s.heap.objs.size 0 .none := by
    have := Heap.get?_push_size (s.heap.push o) (o := { cls := .type "enumerate", data := .fields #[.none, .bool false, .ref s.heap.objs.size, rawInt 0, .none, .none] }) rfl
    rw [hz] at this; exact this
  refine ⟨⟨_, he, rfl⟩, h _ he (Heap.get?_push_of_some _ (Heap.get?_push_size _ B.free)) (by rw [Heap.size_push, hz]) fun b o x => Heap.get?_push_of_some _ (Heap.get?_push_of_some _ x)⟩
end
/-- the tuple at a as it stands at each turn, each item in a new pair -/
def IteT (K : PySem.W.Frag) (a : Addr) : L2.It :=
  ⟨fun i H => ∃ (xs : List V) (x : V), SqT K H a xs ∧ xs[i]? = some x, fun i H v H' => ∃ T x, v = .ref T ∧ H T = none ∧ H' = upd H T (.tup [.int (i : Nat), x]) ∧ ∀ xs, SqT K H a xs → xs[i]? = some x, fun i H => ∃ xs : List V, SqT K H a xs ∧ xs.length = i⟩
theorem turn_enT {P : Program} {w : World} {K : PySem.W.Frag} {elts : List Expr} {kk : Nat} {tpos : Pos} (a e it : Addr) (hne : e ≠ it) (hai : a ≠ it) (hae : e ≠ a) :
    Turn P w K (.Tuple elts kk tpos) (IteT K a) [e, it] e (fun i h => (∃ old, IsEnum h e it ((i : Nat) : Int) old) ∧ h.IsTupleIter it a i) where
  mem := by simp
  obj := fun i h st b hb => by
    obtain ⟨⟨old, he⟩, ⟨o, ho, hc, hd⟩⟩ := st
    have e' : b = e ∨ b = it := by simpa using hb
    rcases e' with z | z
    · rw [z]; exact ⟨_, he, fun v q => nomatch q⟩
    · rw [z]; exact ⟨o, ho, fun v q => by rw [hd] at q; cases q⟩
  keep := fun i h h' st k => let ⟨⟨old, he⟩, hi⟩ := st; ⟨⟨old, k e (by simp) _ he⟩, hi.at fun o q => k it (by simp) o q⟩
  item := by
    intro X hP hw hK hc i pins s σ H E I hf st hg
    subst hP hw hK
    obtain ⟨⟨old, he⟩, hit⟩ := st
    obtain ⟨xs, x, hq, hx⟩ := hg
    obtain ⟨its, rv, p, hz⟩ := I.tuple hq
    obtain ⟨u, hu, ru⟩ := rv.get hx
    have hel : e < s.heap.objs.size := Heap.lt_size he
    have hil : it < s.heap.objs.size := by obtain ⟨_, q, _⟩ := hit; exact Heap.lt_size q
    have hlt : i < its.toArray.size := by
      have := (List.getElem?_eq_some_iff.mp hu).1
      simpa using this
    refine wpAny_pyNext_enum_itemD (Draws.tuple (prog := X.prog) (w := X.w) (A := X.A.in1) (show X.A.in1.handled = none from I.ok.hd hc) it a hai its.toArray) he ⟨hit, p⟩ hlt hne (by simp [hne, hae]) fun x2 h' tk hx2 ho hit' hT hsz hk => ?_
    have ex : x2 = u := by
      have q : its.toArray[i]? = some u := by simpa using hu
      rw [q] at hx2
      exact (Option.some.inj hx2).symm
    subst ex
    refine ⟨_, rfl, wpAny_letOwnedTupleGo_enum (s := { s with heap := h', toks := tk + 1 }) ho fun h'' he' sb => ?_⟩
    have hT2 : h''.get? s.heap.objs.size = some { cls := .type "tuple", data := .seq #[.int i tk, x2] } := (sb.2 _ (Nat.ne_of_gt hel)).trans hT
    have new : ObjOk X.prog X.w (upd H s.heap.objs.size (.tup [.int (i : Nat), x])) h'' s.heap.objs.size (.tup [.int (i : Nat), x]) :=
      ⟨by show 2 ≤ sizeLine; decide, [.int i tk, x2], .cons ⟨_, rfl⟩ (.cons ru .nil), ⟨_, hT2, rfl, _, rfl⟩⟩
    have I1 : Inv X pins σ (upd H s.heap.objs.size (.tup [.int (i : Nat), x])) { s with heap := h'', toks := tk + 1 } :=
      I.turnedNew (ch := [e, it]) (fun b ob hb q => (sb.2 b (fun z => hb (by simp [z]))).trans (hk b ob (fun z => hb (by simp [z])) (fun z => hb (by simp [z])) q)) hf (Nat.le_refl _) new
    refine ⟨.ref s.heap.objs.size, _, I1, rfl, ⟨_, x, rfl, I.hok.fresh (Nat.le_refl _), rfl, fun ys hy => by rw [I.tuple_inj hy hq]; exact hx⟩, ⟨⟨x2, ?_⟩, hit'.1.at fun o q => (sb.2 it (Ne.symm hne)).trans q⟩, fun b hb => ?_⟩
    · have e1 : ((i + 1 : Nat) : Int) = (i : Int) + 1 := by omega
      rw [e1]; exact he'
    · have hb' : b < s.heap.objs.size := by
        have e' : b = e ∨ b = it := by simpa using hb
        rcases e' with z | z
        · rw [z]; exact hel
        · rw [z]; exact hil
      rw [upd_ne (Nat.ne_of_lt hb')]
      exact (hf b hb).1
  done := by
    intro X hP hw hK hc i pins s σ H E I hf st hg
    subst hP hw hK
    obtain ⟨⟨old, he⟩, hit⟩ := st
    obtain ⟨xs, hq, hx⟩ := hg
    obtain ⟨its, rv, p, hz⟩ := I.tuple hq
    obtain ⟨f0, f1, f2, f3, f4, f5⟩ := hf it (by simp)
    have hl : i = its.toArray.size := by
      have := rv.length
      simp
      omega
    subst hl
    exact wpAny_pyNext_enum_endD (Draws.tuple (prog := X.prog) (w := X.w) (A := X.A.in1) (show X.A.in1.handled = none from I.ok.hd hc) it a hai its.toArray) he ⟨hit, p⟩ fun h' eb => ⟨rfl, I.turned (t' := s.toks) (fun b o hb q => eb b o hb q) f0 f1 f3 f4 f5⟩
  self := fun A i s Q E st h => let ⟨⟨_, he⟩, _⟩ := st; wpAny_pyIter_enum he h
def iEnumT (K : PySem.W.Frag) (ta : TA) : TI := fun σ H R => ta σ H fun vs H1 => ∃ a xs, vs = [.ref a] ∧ SqT K H1 a xs ∧ R (IteT K a) H1
theorem pi_enumT {X : Cx} {e : Expr} {ta : TA} {p pos tpos : Pos} {elts : List Expr} {kk : Nat} (hg : Gl X "enumerate") (hm : X.mg "enumerate" = none) (ha : PA X [e] ta) (hs : starEach [e] X.env = [(false, eval e X.env)]) :
    PI X (.Tuple elts kk tpos) (.Call (.Name "enumerate" p) [e] [] pos) (iEnumT X.K ta) := by
  refine ⟨fun pins s σ H R I h => ?_⟩
  refine Call_ (ld_blt I hg hm boot_enumerate (PyProof.Rows.callWith_type1 (thn (ha.run pos pins s σ H _ I h) fun us s1 ⟨vs, H1, I1, r1, q1⟩ => ?_) hs rfl))
  obtain ⟨a, xs, ex, hq, q⟩ := q1
  subst ex
  cases r1 with
  | cons r rr =>
    cases rr
    cases r
    obtain ⟨its, rv, p', hz⟩ := I1.tuple hq
    have hal : a < s1.heap.objs.size := by obtain ⟨o, q, _⟩ := p'; exact Heap.lt_size q
    refine en_begins (begins_tuple a its.toArray) p' fun h' he hit hsz hk => wpAny_pyIter_enum he ?_
    have I2 : Inv X pins σ H1 { s1 with heap := h' } := I1.kept (t' := s1.toks) hk
    refine ⟨s1.heap.objs.size + 1, [s1.heap.objs.size + 1, s1.heap.objs.size], _, _, H1, rfl, I2, turn_enT a (s1.heap.objs.size + 1) s1.heap.objs.size (Nat.succ_ne_self _) (Nat.ne_of_lt hal) (Nat.ne_of_gt (Nat.lt_succ_of_lt hal)), ⟨⟨.none, he⟩, ⟨_, hit, rfl, rfl⟩⟩, fun b hb => ?_, q⟩
    have e' : b = s1.heap.objs.size + 1 ∨ b = s1.heap.objs.size := by simpa using hb
    have hle : s1.heap.objs.size ≤ b := by
      rcases e' with z | z
      · rw [z]; exact Nat.le_add_right _ _
      · rw [z]; exact Nat.le_refl _
    exact I1.fpOk hle (I1.hok.fresh hle)
end Vw
namespace Vw
open PySem PySem.Spec PyProof.Rows L2
abbrev Fr.pin (fr : Fr) (i : Nat) (v : V) : Fr := { fr with pins := (i, v) :: fr.pins }
section
variable {K : PySem.W.Frag} {G H : Hp} {F1 F2 : List Addr} {Γ : List Ty} {ρ : Rho} {σ : Sg} {ts us : List Tm}
theorem SRd.pinned {fr : Fr} (x : SRd fr K G F1 F2 Γ ρ σ ts H) {i : Nat} {v : V} (h : σ[i]? = some (some v)) : SRd (fr.pin i v) K G F1 F2 Γ ρ σ ts H :=
  ⟨x.sub, x.sl, x.tm, x.nd, x.out, x.ok.keep, x.ok.mono, x.ok.sG, x.ok.nG, fun p hp => by
    rcases List.mem_cons.mp hp with rfl | hp
    · exact h
    · exact x.ok.pin p hp, x.ok.tab⟩
theorem SRd.unpin {fr : Fr} {i : Nat} {v : V} (x : SRd (fr.pin i v) K G F1 F2 Γ ρ σ ts H) : SRd fr K G F1 F2 Γ ρ σ ts H :=
  ⟨x.sub, x.sl, x.tm, x.nd, x.out, x.ok.keep, x.ok.mono, x.ok.sG, x.ok.nG, fun p hp => x.ok.pin p (List.mem_cons_of_mem _ hp), x.ok.tab⟩
theorem SRd.midOwn {fr : Fr} {ts' : List Tm} {y : Tm} (x : SRd fr K G F1 F2 Γ ρ σ (ts ++ [y] ++ ts') H) : ∃ F, Own K G H y.t y.d y.v F := by
  obtain ⟨_, _, _, a, _⟩ := x.tm.app
  obtain ⟨_, F4, _, _, b⟩ := a.app
  exact ⟨F4, b.one⟩
theorem Own.sn {t : Ty} {d : D} {v : V} {F : List Addr} (h : Own K G H t d v F) (c : t = .fro ∨ t = .lst .fro) : Sn K G H d v := by
  rcases c with rfl | rfl
  · exact .inl h.2
  · rcases h with ⟨_, _, q⟩ | ⟨ds, a, vs, F', q1, q2, q3, q4, q5⟩
    · exact .inl q
    · exact .inr ⟨ds, a, vs, q1, q2, q4, q5.fro.2⟩
end
section
variable {X : Cx} {Φ : Cf} {fr : Fr} {Γ : List Ty} {w : Ty} {pos : Pos}
/-- what is walked stands among what is held -/
theorem Wk.one {K : PySem.W.Frag} {fr' : Fr} {J : It} {ts : List Tm} {t : Ty} {d : D} {v : V} {ds : List D} {sv : List (Nat × D)} (ht : t = .fro ∨ t = .lst .fro)
    (go : ∀ G F1 F2 ρ σ ts' H i (h : i < ds.length), SRd fr' K G F1 F2 Γ ρ σ ts' H → Sn K G H d v → J.go i H ∧ ∀ x H', J.yld i H x H' → SR fr' K Γ ρ σ (ts' ++ [⟨.fro, ds[i], x⟩]) H')
    (stop : ∀ G H, Same G H → Sn K G H d v → J.stop ds.length H)
    (h : (t = .fro ∧ sv = [] ∧ fr' = fr) ∨ ∃ i, t = .lst .fro ∧ Γ[i]? = some (.lst .fro) ∧ sv = [(i, d)] ∧ fr' = fr.pin i v) : Wk fr Γ K fr' J ts [⟨t, d, v⟩] ds sv where
  go := fun i ρ σ ts' H h s => by
    obtain ⟨G, F1, F2, y⟩ := s
    obtain ⟨F, ow⟩ := y.midOwn
    exact go G F1 F2 ρ σ _ H i h y (ow.sn ht)
  stop := fun ρ σ ts' H s => by
    obtain ⟨G, F1, F2, y⟩ := s
    obtain ⟨F, ow⟩ := y.midOwn
    exact stop G H y.sub (ow.sn ht)
  rest := fun ρ ρ' σ ts0 H s e => by
    rcases h with ⟨rfl, rfl, rfl⟩ | ⟨i, rfl, hg, rfl, rfl⟩
    · cases e
      exact s.drop
    · obtain ⟨ρ1, e1, e⟩ := bind_inv e
      cases e1
      obtain ⟨G, F1, F2, y⟩ := s
      have hv := y.ok.pin (i, v) List.mem_cons_self
      split at e
      · rename_i e0
        cases e
        obtain ⟨F3, F4, z⟩ := y.putBack e0 hg hv
        exact ⟨_, _, _, z.unpin⟩
      · cases e
  weak := fun ρ σ ts0 H s => by
    rcases h with ⟨rfl, rfl, rfl⟩ | ⟨i, rfl, hg, rfl, rfl⟩
    · exact s
    · obtain ⟨G, F1, F2, y⟩ := s
      exact ⟨_, _, _, y.unpin⟩
  pins := fun p hp => by
    rcases h with ⟨rfl, rfl, rfl⟩ | ⟨i, rfl, hg, rfl, rfl⟩
    · exact .inl hp
    · rcases List.mem_cons.mp hp with rfl | hp
      · exact .inr (by simp)
      · exact .inl hp
/-- how a walked operand is held -/
def HoldW (Γ : List Ty) (fr : Fr) : O → V → D → List Tm → Fr → List (Nat × D) → Prop
  | .e _, v, d, us, fr', sv => us = [⟨.fro, d, v⟩] ∧ fr' = fr ∧ sv = []
  | .s i, v, d, us, fr', sv => us = [⟨.lst .fro, d, v⟩] ∧ fr' = fr.pin i v ∧ sv = [(i, d)] ∧ Γ[i]? = some (.lst .fro)
variable (Φ fr Γ) in
def tW (K : PySem.W.Frag) (o : O) : TE := fun σ H Q => ∃ ρ ts r, SR fr K Γ ρ σ ts H ∧ evW Φ o ρ = some r ∧ ∀ v H' us fr', SR fr' K Γ r.2.1 σ (ts ++ us) H' → HoldW Γ fr o v r.1 us fr' r.2.2 → Q v H'
theorem w_e {e : Expr} {a : E} (h : PE X e (tE Φ fr X.K Γ .fro a)) : PE X e (tW Φ fr Γ X.K (.e a)) := by
  refine PE_mono h fun σ H Q h => ?_
  obtain ⟨ρ, ts, r, sr, he, q⟩ := h
  obtain ⟨ra, e1, rfl⟩ := map_inv he
  exact ⟨ρ, ts, ra, sr, e1, fun v H' s' => q v H' _ fr s' ⟨rfl, rfl, rfl⟩⟩
theorem w_s {i : Nat} {x : Str} (hN : X.N[i]? = some x) (hv : Vis X.env.scope x) (hw : Γ[i]? = some (.lst .fro)) (hd : (x == ("__debug__" : Str)) = false) (hcd : (x == ("__classdict__" : Str)) = false) :
    PE X (.Name x pos) (tW Φ fr Γ X.K (.s i)) := by
  refine PE_mono (pe_var hN hv hd hcd) fun σ H Q h => ?_
  obtain ⟨ρ, ts, r, ⟨G, F1, F2, sr⟩, he, q⟩ := h
  obtain ⟨d, e1, rfl⟩ := map_inv he
  obtain ⟨t', v, F3, F4, e2, e3, y⟩ := sr.takeOut e1
  rw [hw] at e2
  cases e2
  exact ⟨v, e3, q v H _ (fr.pin i v) ⟨_, _, _, y.pinned e3⟩ ⟨rfl, rfl, rfl, hw⟩⟩
theorem HoldW.or {o : O} {v : V} {d : D} {us : List Tm} {fr' : Fr} {sv : List (Nat × D)} (h : HoldW Γ fr o v d us fr' sv) : ∃ t, us = [⟨t, d, v⟩] ∧ (t = .fro ∨ t = .lst .fro) ∧ ((t = .fro ∧ sv = [] ∧ fr' = fr) ∨ ∃ i, t = .lst .fro ∧ Γ[i]? = some (.lst .fro) ∧ sv = [(i, d)] ∧ fr' = fr.pin i v) := by
  cases o with
  | e a => exact ⟨.fro, h.1, .inl rfl, .inl ⟨rfl, h.2.2, h.2.1⟩⟩
  | s i => exact ⟨.lst .fro, h.1, .inr rfl, .inr ⟨i, rfl, h.2.2.2, h.2.2.1, h.2.1⟩⟩
theorem it_o {tg a : Expr} {oa : O} (ha : PE X a (tW Φ fr Γ X.K oa)) : PI X tg a (tIt Φ fr Γ X.K (.o oa)) := by
  refine PI_mono (PI_or (pi_list ha) (pi_tup ha)) fun σ H R h => ?_
  obtain ⟨ρ, ts, r, sr, he, q⟩ := h
  obtain ⟨ra, e1, he⟩ := bind_inv he
  obtain ⟨l, e2, rfl⟩ := map_inv he
  obtain ⟨d, ρ1, sv⟩ := ra
  cases d with
  | list l' =>
    cases e2
    refine .inl ⟨ρ, ts, _, sr, e1, fun v H1 us fr' s1 hd => ?_⟩
    obtain ⟨t, rfl, c1, c2⟩ := hd.or
    obtain ⟨G, F1, F2, y⟩ := id s1
    have y0 : SRd fr' X.K G F1 F2 Γ ρ1 σ (ts ++ [⟨t, .list l, v⟩] ++ []) H1 := by rw [List.append_nil]; exact y
    obtain ⟨F, ow⟩ := y0.midOwn
    obtain ⟨a, vs, e3, h1, h2⟩ := (ow.sn c1).list y.sub
    have e3 : v = .ref a := e3
    subst e3
    refine ⟨a, rfl, ⟨vs, .inl h1⟩, q _ _ _ fr' s1 (Wk.one c1 (fun G F1 F2 ρ σ ts' H i hi s sn => ?_) (fun G H sG sn => ?_) c2)⟩
    · obtain ⟨b, ws, e4, g1, g2⟩ := sn.list s.sub
      cases e4
      obtain ⟨x, e5, rx⟩ := g2.get (List.getElem?_eq_getElem hi)
      refine ⟨⟨ws, x, .inl g1, e5⟩, fun x' H' yl => ?_⟩
      obtain ⟨rfl, yl⟩ := yl
      have := yl ws (.inl g1)
      rw [e5] at this
      cases this
      exact ⟨_, _, _, s.push rx⟩
    · obtain ⟨b, ws, e4, g1, g2⟩ := sn.list sG
      cases e4
      exact ⟨ws, .inl g1, by rw [g2.len]; exact Nat.le_refl _⟩
  | tuple l' =>
    cases e2
    refine .inr ⟨ρ, ts, _, sr, e1, fun v H1 us fr' s1 hd => ?_⟩
    obtain ⟨t, rfl, c1, c2⟩ := hd.or
    obtain ⟨G, F1, F2, y⟩ := id s1
    have y0 : SRd fr' X.K G F1 F2 Γ ρ1 σ (ts ++ [⟨t, .tuple l, v⟩] ++ []) H1 := by rw [List.append_nil]; exact y
    obtain ⟨F, ow⟩ := y0.midOwn
    obtain ⟨a, vs, e3, h1, h2⟩ := (ow.sn c1).tuple y.sub
    have e3 : v = .ref a := e3
    subst e3
    refine ⟨a, rfl, ⟨vs, h1⟩, q _ _ _ fr' s1 (Wk.one c1 (fun G F1 F2 ρ σ ts' H i hi s sn => ?_) (fun G H sG sn => ?_) c2)⟩
    · obtain ⟨b, ws, e4, g1, g2⟩ := sn.tuple s.sub
      cases e4
      obtain ⟨x, e5, rx⟩ := g2.get (List.getElem?_eq_getElem hi)
      refine ⟨⟨ws, x, g1, e5⟩, fun x' H' yl => ?_⟩
      obtain ⟨rfl, yl⟩ := yl
      have := yl ws g1
      rw [e5] at this
      cases this
      exact ⟨_, _, _, s.push rx⟩
    · obtain ⟨b, ws, e4, g1, g2⟩ := sn.tuple sG
      cases e4
      exact ⟨ws, g1, by rw [g2.len]; exact Nat.le_refl _⟩
  | _ => cases e2
theorem enumD_len (l : List D) : (enumD l).length = l.length := by simp [enumD]
theorem enumD_at {l : List D} {i : Nat} (h : i < l.length) : (enumD l)[i]'(by rw [enumD_len]; exact h) = .tuple [.int (i : Nat), l[i]] := by
  simp [enumD, List.getD, List.getElem?_eq_getElem h]
theorem it_en {a : Expr} {oa : O} {p tpos : Pos} {elts : List Expr} {kk : Nat} (hg : Gl X "enumerate") (hm : X.mg "enumerate" = none) (ha : PE X a (tW Φ fr Γ X.K oa)) (hs : noStar a = true) : PI X (.Tuple elts kk tpos) (.Call (.Name "enumerate" p) [a] [] pos) (tIt Φ fr Γ X.K (.en oa)) := by
  have hA := pa_cons ha pa_nil (star_cons (env := X.env) hs)
  refine PI_mono (PI_or (pi_enum hg hm hA (star1 hs)) (pi_enumT hg hm hA (star1 hs))) fun σ H R h => ?_
  obtain ⟨ρ, ts, r, sr, he, q⟩ := h
  obtain ⟨ra, e1, he⟩ := bind_inv he
  obtain ⟨l, e2, rfl⟩ := map_inv he
  obtain ⟨d, ρ1, sv⟩ := ra
  cases d with
  | list l' =>
    cases e2
    refine .inl ⟨ρ, ts, _, sr, e1, fun v H1 us fr' s1 hd => ?_⟩
    obtain ⟨t, rfl, c1, c2⟩ := hd.or
    obtain ⟨G, F1, F2, y⟩ := id s1
    have y0 : SRd fr' X.K G F1 F2 Γ ρ1 σ (ts ++ [⟨t, .list l, v⟩] ++ []) H1 := by rw [List.append_nil]; exact y
    obtain ⟨F, ow⟩ := y0.midOwn
    obtain ⟨a, vs, e3, h1, h2⟩ := (ow.sn c1).list y.sub
    have e3 : v = .ref a := e3
    subst e3
    refine ⟨a, vs, rfl, .inl h1, q _ _ _ fr' s1 (Wk.one c1 (fun G F1 F2 ρ σ ts' H i hi s sn => ?_) (fun G H sG sn => ?_) c2)⟩
    · obtain ⟨b, ws, e4, g1, g2⟩ := sn.list s.sub
      cases e4
      have hi2 : i < l.length := by rw [← enumD_len]; exact hi
      obtain ⟨x, e5, rx⟩ := g2.get (List.getElem?_eq_getElem hi2)
      refine ⟨⟨ws, x, .inl g1, e5⟩, fun x' H' yl => ?_⟩
      obtain ⟨T, x2, rfl, hT, rfl, yl⟩ := yl
      have := yl ws (.inl g1)
      rw [e5] at this
      cases this
      rw [enumD_at hi2]
      exact s.newTup (.cons (.int _) (.cons rx .nil)) hT
    · obtain ⟨b, ws, e4, g1, g2⟩ := sn.list sG
      cases e4
      exact ⟨ws, .inl g1, by rw [g2.len, enumD_len]; exact Nat.le_refl _⟩
  | tuple l' =>
    cases e2
    refine .inr ⟨ρ, ts, _, sr, e1, fun v H1 us fr' s1 hd => ?_⟩
    obtain ⟨t, rfl, c1, c2⟩ := hd.or
    obtain ⟨G, F1, F2, y⟩ := id s1
    have y0 : SRd fr' X.K G F1 F2 Γ ρ1 σ (ts ++ [⟨t, .tuple l, v⟩] ++ []) H1 := by rw [List.append_nil]; exact y
    obtain ⟨F, ow⟩ := y0.midOwn
    obtain ⟨a, vs, e3, h1, h2⟩ := (ow.sn c1).tuple y.sub
    have e3 : v = .ref a := e3
    subst e3
    refine ⟨a, vs, rfl, h1, q _ _ _ fr' s1 (Wk.one c1 (fun G F1 F2 ρ σ ts' H i hi s sn => ?_) (fun G H sG sn => ?_) c2)⟩
    · obtain ⟨b, ws, e4, g1, g2⟩ := sn.tuple s.sub
      cases e4
      have hi2 : i < l.length := by rw [← enumD_len]; exact hi
      obtain ⟨x, e5, rx⟩ := g2.get (List.getElem?_eq_getElem hi2)
      refine ⟨⟨ws, x, g1, e5⟩, fun x' H' yl => ?_⟩
      obtain ⟨T, x2, rfl, hT, rfl, yl⟩ := yl
      have := yl ws g1
      rw [e5] at this
      cases this
      rw [enumD_at hi2]
      exact s.newTup (.cons (.int _) (.cons rx .nil)) hT
    · obtain ⟨b, ws, e4, g1, g2⟩ := sn.tuple sG
      cases e4
      exact ⟨ws, g1, by rw [g2.len, enumD_len]⟩
  | _ => cases e2
theorem zipD_len (l m : List D) : (zipD l m).length = min l.length m.length := by simp [zipD]
theorem zipD_at {l m : List D} {i : Nat} (h : i < l.length) (h2 : i < m.length) : (zipD l m)[i]'(by rw [zipD_len]; omega) = .tuple [l[i], m[i]] := by
  simp [zipD, List.getD, List.getElem?_eq_getElem h, List.getElem?_eq_getElem h2]
theorem SRd.mid2 {K : PySem.W.Frag} {G H : Hp} {F1 F2 : List Addr} {ρ : Rho} {σ : Sg} {ts ts' : List Tm} {y z : Tm} (x : SRd fr K G F1 F2 Γ ρ σ (ts ++ [y, z] ++ ts') H) (h1 : y.t = .fro) (h2 : z.t = .fro) : Rp K G y.v y.d ∧ Rp K G z.v z.d := by
  obtain ⟨_, _, _, a, _⟩ := x.tm.app
  obtain ⟨_, F4, _, _, b⟩ := a.app
  obtain ⟨_, _, _, p, q⟩ := b
  have q := q.one
  rw [h1] at p
  rw [h2] at q
  exact ⟨p.2, q.2⟩
theorem it_zp {a b : Expr} {ea eb : E} {p tpos : Pos} {elts : List Expr} {kk : Nat} (hg : Gl X "zip") (hm : X.mg "zip" = none) (ha : PE X a (tE Φ fr X.K Γ .fro ea)) (hb : PE X b (tE Φ fr X.K Γ .fro eb)) (hs : noStar a = true) (hs2 : noStar b = true) : PI X (.Tuple elts kk tpos) (.Call (.Name "zip" p) [a, b] [] pos) (tIt Φ fr Γ X.K (.zp ea eb)) := by
  refine PI_mono (RZ.pi_zipA hg hm (pa_cons ha (pa_cons hb pa_nil (star_cons hs2)) (star_cons hs)) (star_cons hs) (plain_cons hs2 rfl)) fun σ H R h => ?_
  obtain ⟨ρ, ts, r, sr, he, q⟩ := h
  obtain ⟨ra, e1, he⟩ := bind_inv he
  obtain ⟨rb, e2, he⟩ := bind_inv he
  refine ⟨ρ, ts, ra, sr, e1, fun v H1 s1 => ⟨ra.2, _, rb, s1, e2, fun u H2 s2 => ?_⟩⟩
  obtain ⟨G, F1, F2, y⟩ := id s2
  have rp := y.last2 rfl rfl
  clear e1 e2
  obtain ⟨d1, ρ1⟩ := ra
  obtain ⟨d2, ρ2⟩ := rb
  have s3 : SR fr X.K Γ ρ2 σ (ts ++ [⟨.fro, d1, v⟩, ⟨.fro, d2, u⟩]) H2 := by
    have := s2
    rw [List.append_assoc] at this
    exact this
  cases d1 with
  | list l =>
    cases d2 with
    | list m =>
      cases he
      obtain ⟨a, vs, e3, h1, h2⟩ := Sn.list y.sub (.inl rp.1)
      obtain ⟨b, ws, e4, g1, g2⟩ := Sn.list y.sub (.inl rp.2)
      have e3 : v = .ref a := e3
      have e4 : u = .ref b := e4
      subst e3 e4
      refine ⟨a, b, vs, ws, rfl, .inl ⟨.inl h1, .inl g1, q _ _ [⟨.fro, .list l, .ref a⟩, ⟨.fro, .list m, .ref b⟩] fr s3 ?_⟩⟩
      refine ⟨fun i ρ σ ts' H hi s => ?_, fun ρ σ ts' H s => ?_, fun ρ ρ' σ ts0 H s e => by cases e; exact s.drop, fun _ _ _ _ s => s, fun p hp => .inl hp⟩
      · obtain ⟨G, F1, F2, s⟩ := s
        obtain ⟨r1, r2⟩ := s.mid2 rfl rfl
        have hi2 : i < l.length ∧ i < m.length := by
          have := hi
          rw [zipD_len] at this
          omega
        obtain ⟨a', xs, e5, k1, k2⟩ := Sn.list s.sub (.inl r1)
        obtain ⟨b', ys, e6, k3, k4⟩ := Sn.list s.sub (.inl r2)
        cases e5
        cases e6
        obtain ⟨x, e7, rx⟩ := k2.get (List.getElem?_eq_getElem hi2.1)
        obtain ⟨z, e8, rz⟩ := k4.get (List.getElem?_eq_getElem hi2.2)
        refine ⟨⟨xs, ys, x, z, .inl k1, .inl k3, e7, e8⟩, fun x' H' yl => ?_⟩
        obtain ⟨T, x2, z2, rfl, hT, rfl, y1, y2⟩ := yl
        have q1 := y1 xs (.inl k1)
        have q2 := y2 ys (.inl k3)
        rw [e7] at q1
        rw [e8] at q2
        cases q1
        cases q2
        rw [zipD_at hi2.1 hi2.2]
        exact s.newTup (.cons rx (.cons rz .nil)) hT
      · obtain ⟨G, F1, F2, s⟩ := s
        obtain ⟨r1, r2⟩ := s.mid2 rfl rfl
        obtain ⟨a', xs, e5, k1, k2⟩ := Sn.list s.sub (.inl r1)
        obtain ⟨b', ys, e6, k3, k4⟩ := Sn.list s.sub (.inl r2)
        cases e5
        cases e6
        refine ⟨xs, ys, .inl k1, .inl k3, ?_⟩
        rw [zipD_len, k2.len, k4.len]
        omega
    | _ => cases he
  | tuple l =>
    cases d2 with
    | tuple m =>
      cases he
      obtain ⟨a, vs, e3, h1, h2⟩ := Sn.tuple y.sub (.inl rp.1)
      obtain ⟨b, ws, e4, g1, g2⟩ := Sn.tuple y.sub (.inl rp.2)
      have e3 : v = .ref a := e3
      have e4 : u = .ref b := e4
      subst e3 e4
      refine ⟨a, b, vs, ws, rfl, .inr ⟨h1, g1, q _ _ [⟨.fro, .tuple l, .ref a⟩, ⟨.fro, .tuple m, .ref b⟩] fr s3 ?_⟩⟩
      refine ⟨fun i ρ σ ts' H hi s => ?_, fun ρ σ ts' H s => ?_, fun ρ ρ' σ ts0 H s e => by cases e; exact s.drop, fun _ _ _ _ s => s, fun p hp => .inl hp⟩
      · obtain ⟨G, F1, F2, s⟩ := s
        obtain ⟨r1, r2⟩ := s.mid2 rfl rfl
        have hi2 : i < l.length ∧ i < m.length := by
          have := hi
          rw [zipD_len] at this
          omega
        obtain ⟨a', xs, e5, k1, k2⟩ := Sn.tuple s.sub (.inl r1)
        obtain ⟨b', ys, e6, k3, k4⟩ := Sn.tuple s.sub (.inl r2)
        cases e5
        cases e6
        obtain ⟨x, e7, rx⟩ := k2.get (List.getElem?_eq_getElem hi2.1)
        obtain ⟨z, e8, rz⟩ := k4.get (List.getElem?_eq_getElem hi2.2)
        refine ⟨⟨xs, ys, x, z, k1, k3, e7, e8⟩, fun x' H' yl => ?_⟩
        obtain ⟨T, x2, z2, rfl, hT, rfl, y1, y2⟩ := yl
        have q1 := y1 xs k1
        have q2 := y2 ys k3
        rw [e7] at q1
        rw [e8] at q2
        cases q1
        cases q2
        rw [zipD_at hi2.1 hi2.2]
        exact s.newTup (.cons rx (.cons rz .nil)) hT
      · obtain ⟨G, F1, F2, s⟩ := s
        obtain ⟨r1, r2⟩ := s.mid2 rfl rfl
        obtain ⟨a', xs, e5, k1, k2⟩ := Sn.tuple s.sub (.inl r1)
        obtain ⟨b', ys, e6, k3, k4⟩ := Sn.tuple s.sub (.inl r2)
        cases e5
        cases e6
        refine ⟨xs, ys, k1, k3, ?_⟩
        rw [zipD_len, k2.len, k4.len]
        omega
    | _ => cases he
  | _ => cases he
end
end Vw
namespace Vw
open PySem PySem.Spec PyProof.Rows L2
theorem AllF.snoc {P : D → V → List Addr → Prop} {d : D} {v : V} {F2 : List Addr} (p : P d v F2) : ∀ {ds : List D} {vs : List V} {F1 : List Addr}, AllF P ds vs F1 → AllF P (ds ++ [d]) (vs ++ [v]) (F1 ++ F2)
  | [], [], F1, h => by
    have h : F1 = [] := h
    subst h
    exact ⟨F2, [], by simp, p, rfl⟩
  | e :: ds, u :: vs, F1, ⟨F3, F4, ee, q, r⟩ => ⟨F3, F4 ++ F2, by rw [ee, List.append_assoc], q, AllF.snoc p r⟩
  | [], _ :: _, _, h => h.elim
  | _ :: _, [], _, h => h.elim
theorem SRd.accum {fr : Fr} {K : PySem.W.Frag} {G H : Hp} {F1 F2 : List Addr} {Γ : List Ty} {ρ : Rho} {σ : Sg} {ts : List Tm} {t : Ty} {acc : List D} {D0 : Addr} {y : D} {yv : V}
    (x : SRd fr K G F1 F2 Γ ρ σ (ts ++ [⟨.lst t, .list acc, .ref D0⟩] ++ [⟨t, y, yv⟩]) H) : ∃ av, H D0 = some (.lst av) ∧ av.length = acc.length ∧ SR fr K Γ ρ σ (ts ++ [⟨.lst t, .list (acc ++ [y]), .ref D0⟩]) (upd H D0 (.lst (av ++ [yv]))) := by
  obtain ⟨F34, F5, e, p34, q5⟩ := x.tm.app
  obtain ⟨F3, F4, e2, p3, q4⟩ := p34.app
  have o5 := q5.one
  rcases q4.one with ⟨s, _, _⟩ | ⟨ds, a, av, F', r1, r2, r3, r4, r5⟩
  · cases s
  · cases r1
    cases r2
    have e3 : F4 = D0 :: F' := r3
    refine ⟨av, r4, r5.len, G, F1, F3 ++ (D0 :: (F' ++ F5)), ?_⟩
    have nd := x.nd
    rw [e, e2, e3] at nd
    have pp : (F1 ++ (F3 ++ (D0 :: (F' ++ F5)))) = (F1 ++ (F3 ++ D0 :: F' ++ F5)) := by simp [List.append_assoc]
    have ndD : ∀ b ∈ F1 ++ F3, b ≠ D0 := fun b hb z => by
      subst z
      have nd2 : ((F1 ++ F3) ++ (b :: (F' ++ F5))).Nodup := by
        rw [← pp] at nd
        rw [List.append_assoc]
        exact nd
      exact (List.nodup_append.mp nd2).2.2 b hb b List.mem_cons_self rfl
    have nd3 : (D0 :: (F' ++ F5)).Nodup := by
      rw [← pp, ← List.append_assoc] at nd
      exact (List.nodup_append.mp nd).2.1
    have nD : ∀ b ∈ F' ++ F5, b ≠ D0 := fun b hb z => (List.nodup_cons.mp nd3).1 (z ▸ hb)
    have inF : ∀ b, b ∈ F1 ++ (F3 ++ (D0 :: (F' ++ F5))) → b ∈ F1 ++ F2 := fun b hb => by
      rw [e, e2, e3, ← pp]
      exact hb
    have Din : D0 ∈ F1 ++ F2 := inF D0 (by simp)
    have st : ∀ b ∈ F1 ++ F3, upd H D0 (.lst (av ++ [yv])) b = H b := fun b hb => upd_ne (ndD b hb)
    have st2 : ∀ b ∈ F' ++ F5, upd H D0 (.lst (av ++ [yv])) b = H b := fun b hb => upd_ne (nD b hb)
    refine ⟨fun b u eb => ?_, x.sl.stay (Same.refl G) (fun b hb => st b (List.mem_append_left _ hb)), ?_, by rw [pp]; exact nd, fun b hb => x.out b (inF b hb), ?_⟩
    · rw [upd_ne (ne_of_none eb (x.out D0 Din).1)]
      exact x.sub _ _ eb
    · refine (p3.stay (Same.refl G) (fun b hb => st b (List.mem_append_right _ hb))).of_app (TmF.of_one (.inr ⟨_, D0, _, F' ++ F5, rfl, rfl, rfl, upd_same, ?_⟩))
      refine AllF.snoc (o5.stay (Same.refl G) fun b hb => st2 b (List.mem_append_right _ hb)) (r5.mono fun d v F'' hF h => h.stay (Same.refl G) fun b hb => st2 b (List.mem_append_left _ (hF b hb)))
    · refine ⟨fun b u eb hF => ?_, fun b eb => ?_, x.ok.sG, x.ok.nG, x.ok.pin, x.ok.tab.upd (.inr ⟨_, r4, rfl⟩)⟩
      · have hb : b ≠ D0 := fun z => by
          subst z
          rcases (x.out b Din).2 with h | h
          · exact hF h
          · rw [h] at eb
            cases eb
        exact (x.ok.keep b u eb hF).upd hb
      · by_cases hb : b = D0
        · subst hb
          rw [upd_same] at eb
          cases eb
        · rw [upd_ne hb] at eb
          exact x.ok.mono b eb
def Pin (P : List Nat) (fr : Fr) : Prop := ∀ p ∈ fr.pins, p.1 ∈ P
def oB : O → List Nat
  | .e _ => []
  | .s i => [i]
def itB : Iv → List Nat
  | .o a => oB a
  | .en a => oB a
  | _ => []
section
variable {Φ : Cf}
theorem evW_b {o : O} {ρ : Rho} {r : D × Rho × List (Nat × D)} (h : evW Φ o ρ = some r) : r.2.2.map (·.1) = oB o := by
  cases o with
  | e a =>
    obtain ⟨x, _, rfl⟩ := map_inv h
    rfl
  | s i =>
    obtain ⟨x, _, rfl⟩ := map_inv h
    rfl
theorem evI_b {it : Iv} {ρ : Rho} {r : List D × Rho × List (Nat × D)} (h : evI Φ it ρ = some r) : r.2.2.map (·.1) = itB it := by
  cases it with
  | o a =>
    obtain ⟨x, e, h⟩ := bind_inv h
    obtain ⟨y, _, rfl⟩ := map_inv h
    exact evW_b e
  | en a =>
    obtain ⟨x, e, h⟩ := bind_inv h
    obtain ⟨y, _, rfl⟩ := map_inv h
    exact evW_b e
  | r1 a =>
    obtain ⟨x, e, h⟩ := bind_inv h
    split at h
    · split at h
      · cases h; rfl
      · cases h
    · cases h
  | r2 a b =>
    obtain ⟨x, e, h⟩ := bind_inv h
    obtain ⟨x2, e, h⟩ := bind_inv h
    split at h
    · split at h
      · cases h; rfl
      · cases h
    · cases h
  | r3 a b c =>
    obtain ⟨x, e, h⟩ := bind_inv h
    obtain ⟨x2, e, h⟩ := bind_inv h
    obtain ⟨x3, e, h⟩ := bind_inv h
    split at h
    · split at h
      · cases h; rfl
      · cases h
    · cases h
  | zp a b =>
    obtain ⟨x, e, h⟩ := bind_inv h
    obtain ⟨x2, e, h⟩ := bind_inv h
    split at h
    · cases h; rfl
    · cases h; rfl
    · cases h
theorem Wk.pin {fr fr' : Fr} {Γ : List Ty} {K : PySem.W.Frag} {J : L2.It} {ts us : List Tm} {ds : List D} {sv : List (Nat × D)} {P P' : List Nat} {l : List Nat} (h : Wk fr Γ K fr' J ts us ds sv) (hp : Pin P fr) (e : sv.map (·.1) = l) (h1 : ∀ i ∈ P, i ∈ P') (h2 : ∀ i ∈ l, i ∈ P') : Pin P' fr' := fun p hp' => by
  rcases h.pins p hp' with q | q
  · exact h1 _ (hp p q)
  · rw [e] at q
    exact h2 _ q
end
section
variable {X : Cx} {Φ : Cf} {fr : Fr} {Γ : List Ty} {w : Ty} {pos : Pos} {P P' : List Nat}
variable (Φ Γ P) in
def xE (K : PySem.W.Frag) (w : Ty) (e : E) : TE := fun σ H Q => ∃ fr, Pin P fr ∧ tE Φ fr K Γ w e σ H Q
variable (Γ P) in
def xG (K : PySem.W.Frag) (tg : Tg) : TG := fun v σ H Q => ∃ fr, Pin P fr ∧ tG fr Γ K tg v σ H Q
variable (Φ Γ P) in
def xC (K : PySem.W.Frag) (cd : Ot) : TT := fun σ H Q => ∃ fr, Pin P fr ∧ ∃ ρ ts r, SR fr K Γ ρ σ ts H ∧ evC Φ cd ρ = some r ∧ ∀ H', SR fr K Γ r.2 σ ts H' → Q r.1 H'
theorem pe_x {e : Expr} {ea : E} (h : ∀ fr, Pin P fr → PE X e (tE Φ fr X.K Γ w ea)) : PE X e (xE Φ Γ P X.K w ea) := ⟨fun pins s σ H Q I ⟨fr, hp, hw⟩ => (h fr hp).run pins s σ H Q I hw⟩
theorem pg_x {e : Expr} {tg : Tg} (h : ∀ fr, Pin P fr → PG X e (tG fr Γ X.K tg)) : PG X e (xG Γ P X.K tg) := ⟨fun pins s σ H v u Q I r ⟨fr, hp, hw⟩ => (h fr hp).run pins s σ H v u Q I r hw⟩
theorem pc_no : PTs X [] (xC Φ Γ P X.K .no) := ⟨fun pins s σ H Q I ⟨fr, hp, ρ, ts, r, sr, he, q⟩ => pts_nil.run pins s σ H Q I (by
  have he : some (true, ρ) = some r := he
  cases he
  exact q H sr)⟩
theorem pc_so {e : Expr} {t : T} (h : ∀ fr, Pin P fr → PT X e (tT Φ fr X.K Γ t)) : PTs X [e] (xC Φ Γ P X.K (.so t)) := ⟨fun pins s σ H Q I ⟨fr, hp, hw⟩ => (pts_one (h fr hp)).run pins s σ H Q I hw⟩
theorem wipe_at {σ : Sg} {j : Nat} : ∀ {ws : List Nat}, (wipe σ ws)[j]? = if j ∈ ws then (if j < σ.length then some none else none) else σ[j]?
  | [] => by simp [wipe]
  | v :: ws => by
    show ((wipe σ ws).set v none)[j]? = _
    by_cases h : v = j
    · subst h
      rw [if_pos List.mem_cons_self]
      by_cases hl : v < σ.length
      · rw [List.getElem?_set_self (by rw [wipe_length]; exact hl), if_pos hl]
      · rw [List.getElem?_eq_none (by rw [List.length_set, wipe_length]; omega), if_neg hl]
    · rw [List.getElem?_set_ne h, wipe_at]
      by_cases h2 : j ∈ ws
      · rw [if_pos h2, if_pos (List.mem_cons_of_mem _ h2)]
      · rw [if_neg h2, if_neg (fun z => (List.mem_cons.mp z).elim (fun e => h e.symm) h2)]
theorem wipe_but {σ σ' : Sg} {l ws : List Nat} (b : But l σ σ') (h : ∀ i ∈ l, i ∈ ws) : wipe σ' ws = wipe σ ws := by
  refine List.ext_getElem? fun j => ?_
  rw [wipe_at, wipe_at, b.1]
  by_cases hj : j ∈ ws
  · rw [if_pos hj, if_pos hj]
  · rw [if_neg hj, if_neg hj]
    exact b.2 j fun z => hj (h j z)
theorem wipe_wipe {σ : Sg} {ws : List Nat} : wipe (wipe σ ws) ws = wipe σ ws := by
  refine List.ext_getElem? fun j => ?_
  rw [wipe_at, wipe_at, wipe_length]
  by_cases hj : j ∈ ws
  · rw [if_pos hj, if_pos hj]
  · rw [if_neg hj, if_neg hj]
theorem m_lc {K : PySem.W.Frag} {t : Ty} {elt : E} {tg : Tg} {it : Iv} {cd : Ot} {ws : List Nat} {σ : Sg} {H : Hp} {Q : VK} (m : Made t w) (hpin : Pin P fr) (h1 : ∀ i ∈ P, i ∈ P') (h2 : ∀ i ∈ itB it, i ∈ P') (hd : ∀ i ∈ P', i ∉ ws) (hsl : ∀ i ∈ tgSl tg, i ∈ ws)
    (h : tE Φ fr K Γ w (.comp elt tg it cd ws) σ H Q) : tLc (tIt Φ fr Γ K it) (xG Γ P' K tg) (xC Φ Γ P' K cd) (xE Φ Γ P' K t elt) ws σ H Q := by
  obtain ⟨ρ, ts, r, sr, he, q⟩ := h
  obtain ⟨ra, e1, he⟩ := bind_inv he
  obtain ⟨rc, e2, he⟩ := bind_inv he
  split at he
  · rename_i lok
    obtain ⟨ρF, e3, rfl⟩ := map_inv he
    clear he
    refine ⟨ρ, ts, ra, sr, e1, fun J H1 us fr' s1 wk D0 hD => ?_⟩
    have pin' : Pin P' fr' := wk.pin hpin (evI_b e1) h1 h2
    have dis : ∀ p ∈ fr'.pins, p.1 ∉ ws := fun p hp => hd _ (pin' p hp)
    refine ⟨fun i n H => ∃ ρ acc rest ρE, n = ra.1.length - i ∧ i ≤ ra.1.length ∧ (∃ ρ0, ρ = wipeD ρ0 ws) ∧ SR fr' K Γ ρ (wipe σ ws) (ts ++ us ++ [⟨.lst t, .list acc, .ref D0⟩]) H ∧ compL _ (ra.1.drop i) ρ = some (rest, ρE) ∧ acc ++ rest = rc.1 ∧ ρE = rc.2, ⟨_, wipeD ra.2.1 ws, [], rc.1, rc.2, rfl, Nat.zero_le _, ⟨_, rfl⟩, ?_, e2, rfl, rfl⟩, ?_⟩
    · obtain ⟨G, F1, F2, y⟩ := s1
      obtain ⟨F3, y2⟩ := y.wiped ws dis
      have y3 : SRd fr' K G F3 F2 Γ (wipeD ra.2.1 ws) (wipe σ ws) (ts ++ us ++ []) H1 := by rw [List.append_nil]; exact y2
      obtain ⟨F4, z⟩ := y3.mkList (w := t) (fun y hy => nomatch hy) hD
      exact ⟨_, _, _, z⟩
    · rintro i n H ⟨ρ1, acc, rest, ρE, rfl, hi, ⟨ρ0, rfl⟩, s, ec, ea, rfl⟩
      by_cases hlt : i < ra.1.length
      · rw [List.drop_eq_getElem_cons hlt] at ec
        obtain ⟨rs, c1, c2⟩ := bind_inv ec
        obtain ⟨q2, c3, c4⟩ := map_inv c2
        clear ec c2
        obtain ⟨g1, g2⟩ := wk.go i _ _ [⟨.lst t, .list acc, .ref D0⟩] H hlt s
        refine .inr ⟨g1, fun H' => ∃ ρ acc rest ρE, (∃ ρ0, ρ = wipeD ρ0 ws) ∧ SR fr' K Γ ρ (wipe σ ws) (ts ++ us ++ [⟨.lst t, .list acc, .ref D0⟩]) H' ∧ compL _ (ra.1.drop (i + 1)) ρ = some (rest, ρE) ∧ acc ++ rest = rc.1 ∧ ρE = rc.2, fun H' ⟨ρ', acc', rest', ρE', a1, a2, a3, a4, a5⟩ => ⟨ra.1.length - (i + 1), by omega, ρ', acc', rest', ρE', rfl, hlt, a1, a2, a3, a4, a5⟩, fun x H' yl => ?_⟩
        have s2 := g2 x H' yl
        obtain ⟨ρ2, d1, d2⟩ := bind_inv c1
        obtain ⟨b, d3, d4⟩ := bind_inv d2
        clear c1 d2
        refine ⟨fr', pin', _, _, _, ρ2, s2, d1, fun σ2 H2 bt s3 => ?_⟩
        have wp : wipe σ2 ws = wipe σ ws := by
          rw [wipe_but bt hsl, wipe_wipe]
        have ln : σ2.length = (wipe σ ws).length := bt.1
        refine ⟨wp, fr', pin', ρ2, _, b, s3, d3, fun H3 s4 => ?_⟩
        by_cases hb : b.1 = true
        · rw [if_pos hb] at d4 ⊢
          obtain ⟨qe, d5, rfl⟩ := map_inv d4
          refine ⟨fr', pin', b.2, _, qe, s4, d5, fun yv H4 s5 => ?_⟩
          obtain ⟨G, F1, F2, z⟩ := s5
          obtain ⟨av, k1, k2, s6⟩ := z.accum
          have e9 : acc ++ qe.1 :: q2.1 = rc.1 := by
            have c5 := congrArg Prod.fst c4
            have c5 : qe.1 :: q2.1 = rest := c5
            rw [c5]
            exact ea
          refine ⟨av, k1, ?_, ?_⟩
          · have := lenOk_of lok
            rw [← e9, List.length_append, List.length_cons] at this
            rw [k2]
            omega
          · obtain ⟨G6, F7, F8, z6⟩ := s6
            obtain ⟨F9, z7⟩ := z6.wiped ws dis
            rw [wp] at z7
            refine ⟨wipeD qe.2 ws, acc ++ [qe.1], q2.1, q2.2, ⟨_, rfl⟩, ⟨_, _, _, z7⟩, c3, by rw [List.append_assoc]; exact e9, ?_⟩
            have c7 := congrArg Prod.snd c4
            exact c7
        · rw [if_neg hb] at d4 ⊢
          cases d4
          obtain ⟨G6, F7, F8, z6⟩ := s4
          obtain ⟨F9, z7⟩ := z6.wiped ws dis
          rw [wp] at z7
          have c5 := congrArg Prod.fst c4
          have c5 : q2.1 = rest := c5
          have c6 := congrArg Prod.snd c4
          exact ⟨wipeD b.2 ws, acc, q2.1, q2.2, ⟨_, rfl⟩, ⟨_, _, _, z7⟩, c3, by rw [c5]; exact ea, c6⟩
      · have ei : i = ra.1.length := by omega
        subst ei
        rw [List.drop_length] at ec
        have ec : some (([] : List D), wipeD ρ0 ws) = some (rest, rc.2) := ec
        have ec := Option.some.inj ec
        have c5 : [] = rest := congrArg Prod.fst ec
        have c6 : wipeD ρ0 ws = rc.2 := congrArg Prod.snd ec
        rw [← c5, List.append_nil] at ea
        rw [← c6] at e3
        rw [← ea] at q lok
        refine .inl ⟨wk.stop _ _ [⟨.lst t, .list acc, .ref D0⟩] H s, ?_⟩
        obtain ⟨G, F1, F2, z⟩ := s
        have z2 : SRd fr' K G F1 F2 Γ (wipeD ρ0 ws) σ (ts ++ us ++ [⟨.lst t, .list acc, .ref D0⟩]) H :=
          z.sig (wipe_length _ _).symm (fun i d e => by
            by_cases hi : i ∈ ws
            · exact absurd e (wipeD_none hi d)
            · rw [wipe_at, if_neg hi]) fun p hp => by rw [wipe_at, if_neg (dis p hp)]
        have pp : (ts ++ us ++ [(⟨.lst t, .list acc, .ref D0⟩ : Tm)]).Perm (ts ++ [(⟨.lst t, .list acc, .ref D0⟩ : Tm)] ++ us) := by
          rw [List.append_assoc, List.append_assoc]
          exact List.perm_append_comm.append_left ts
        obtain ⟨F5, z3⟩ := z2.perm pp
        have z4 : SR fr' K Γ (wipeD ρ0 ws) σ (ts ++ [⟨.lst t, .list acc, .ref D0⟩] ++ us) _ := ⟨_, _, _, z3⟩
        have fin := wk.rest _ _ _ _ _ z4 e3
        rcases m with rfl | ⟨rfl, rfl⟩
        · exact q _ _ fin
        · exact q _ _ (SR.give (x1 := ⟨.lst .fro, .list acc, .ref D0⟩) rfl fin)
  · cases he
def noSet : Expr → Bool
  | .Set _ _ _ => false
  | _ => true
theorem folded_of {e : Expr} {env : Env} (h : noSet e = true) (x : Value) : foldedSetIterable e env x = pure x := by
  cases e <;> first | rfl | cases h
theorem e_comp {t : Ty} {elt tgt iter : Expr} {ifs : List Expr} {scope : Scope} {own : List (Str × Nat)} {eelt : E} {tg : Tg} {it : Iv} {cd : Ot} (m : Made t w) (hc : X.calm = true) (hN : X.N.Nodup) (hpin : Pin P fr) (h1 : ∀ i ∈ P, i ∈ P') (h2 : ∀ i ∈ itB it, i ∈ P') (hd : ∀ i ∈ P', i ∉ own.map (·.2)) (hsl : ∀ i ∈ tgSl tg, i ∈ own.map (·.2))
    (hi : PI X tgt iter (tIt Φ fr Γ X.K it)) (ok : BlkOk X.N X.env.scope scope own) (hs : noSet iter = true)
    (hg : ∀ (s : Shared) (H : Hp) (C : Addr) (cl : List (Str × Addr)) (fp : List Addr) (fr : Fr), Pin P' fr → PG (X.blk s H scope (compEnvC scope cl C X.env) fp) tgt (tG fr Γ X.K tg))
    (ht : ∀ (s : Shared) (H : Hp) (C : Addr) (cl : List (Str × Addr)) (fp : List Addr), PTs (X.blk s H scope (compEnvC scope cl C X.env) fp) ifs (xC Φ Γ P' X.K cd))
    (he : ∀ (s : Shared) (H : Hp) (C : Addr) (cl : List (Str × Addr)) (fp : List Addr) (fr : Fr), Pin P' fr → PE (X.blk s H scope (compEnvC scope cl C X.env) fp) elt (tE Φ fr X.K Γ t eelt)) :
    PE X (.ListComp elt [⟨tgt, iter, ifs, 0⟩] scope pos) (tE Φ fr X.K Γ w (.comp eelt tg it cd (own.map (·.2)))) :=
  PE_mono (pe_lc hc hN hi ok (fun s H C cl fp => pg_x (hg s H C cl fp)) ht (fun s H C cl fp => pe_x (he s H C cl fp)) (folded_of hs)) fun σ H Q h => m_lc m hpin h1 h2 hd hsl h
end
end Vw
namespace Vw
open PySem PySem.Spec PyProof.Rows L2
def noComp : Expr → Bool
  | .ListComp _ _ _ _ => false
  | .SetComp _ _ _ _ => false
  | .DictComp _ _ _ _ _ => false
  | _ => true
theorem swaps_no {e : Expr} {t : Option Expr} {l : Nat} {env : Env} (h : noComp e = true) : swapsWith e t l env = pure false := by
  cases e <;> first | rfl | cases h
/-- where the classes stand; what is wished of an exception -/
structure Xw where
  mg : Str → Option Value
  W : WX
/-- the dict of an exception -/
def xdOf (fs : Fs) (vs : List V) : HO := .xd ((fs.map (·.1)).zip vs)
section
variable {X : Cx} {Φ : Cf} {fr : Fr} {Γ : List Ty} {ret : Ty} {wx : Xw} {pos : Pos} {P : List Nat}
variable (fr Γ ret wx) in
def Out (K : PySem.W.Frag) (ts : List Tm) (D : Ends) : Rs → Prop
  | .nx ρ => ∀ σ H, SR fr K Γ ρ σ ts H → D.nx σ H
  | .brk ρ => ∀ σ H, SR fr K Γ ρ σ ts H → D.bk σ H
  | .cnt ρ => ∀ σ H, SR fr K Γ ρ σ ts H → D.ct σ H
  | .ret d ρ => ∀ v σ H us, SR fr K Γ ρ σ (ts ++ us ++ [⟨ret, d, v⟩]) H → D.rt v H
  | .exn x fs ρ => ∀ σ H us vs C dd, SR fr K Γ ρ σ (ts ++ us ++ tms .fro (fs.map (·.2)) vs) H → vs.length = fs.length → wx.mg x = some (.ref C) → H dd = some (xdOf fs vs) → wx.W (.ref C) (some dd) σ H
variable (Φ fr Γ ret wx) in
def tS (K : PySem.W.Frag) (s : S) : TS := fun D σ H => ∃ ρ ts r, SR fr K Γ ρ σ ts H ∧ exS Φ s ρ = some r ∧ Out fr Γ ret wx K ts D r
variable (Φ fr Γ ret wx) in
def tSs (K : PySem.W.Frag) (s : Ss) : TS := fun D σ H => ∃ ρ ts r, SR fr K Γ ρ σ ts H ∧ exSs Φ s ρ = some r ∧ Out fr Γ ret wx K ts D r
theorem ss_nil : PSs X [] (tSs Φ fr Γ ret wx X.K .nil) := by
  refine PSs_mono pss_nil fun D σ H h => ?_
  obtain ⟨ρ, ts, r, sr, he, q⟩ := h
  have he : some (Rs.nx ρ) = some r := he
  cases he
  exact q σ H sr
theorem ss_cons {st : Stmt} {rest : List Stmt} {s : S} {ss : Ss} (h1 : PS X st (tS Φ fr Γ ret wx X.K s)) (h2 : PSs X rest (tSs Φ fr Γ ret wx X.K ss)) : PSs X (st :: rest) (tSs Φ fr Γ ret wx X.K (.cons s ss)) := by
  refine PSs_mono (pss_cons h1 h2) fun D σ H h => ?_
  obtain ⟨ρ, ts, r, sr, he, q⟩ := h
  obtain ⟨ra, e1, e2⟩ := bind_inv he
  refine ⟨ρ, ts, ra, sr, e1, ?_⟩
  cases ra with
  | nx ρ1 => exact fun σ1 H1 s1 => ⟨ρ1, ts, r, s1, e2, q⟩
  | ret d ρ1 =>
    cases e2
    exact q
  | brk ρ1 =>
    cases e2
    exact q
  | cnt ρ1 =>
    cases e2
    exact q
  | exn x fs ρ1 =>
    cases e2
    exact q
theorem ss_kill {rest : List Stmt} {ss : Ss} {l : List Nat} (h2 : PSs X rest (tSs Φ fr Γ ret wx X.K ss)) : PSs X rest (tSs Φ fr Γ ret wx X.K (.cons (.kill l) ss)) := by
  refine PSs_mono h2 fun D σ H h => ?_
  obtain ⟨ρ, ts, r, ⟨G, F1, F2, sr⟩, he, q⟩ := h
  obtain ⟨F3, y⟩ := sr.wipes l
  exact ⟨wipeD ρ l, ts, r, ⟨_, _, _, y⟩, he, q⟩
theorem s_doc {x : Str} {j : Nat} {p : Pos} {rest : List Stmt} {ss : Ss} (h2 : PSs X rest (tSs Φ fr Γ ret wx X.K ss)) : PSs X (.Expr (.Constant (.str x) j p) pos :: rest) (tSs Φ fr Γ ret wx X.K ss) :=
  PSs_mono (pss_cons ps_doc h2) fun D σ H h => h
theorem s_pas : PS X (.Pass pos) (tS Φ fr Γ ret wx X.K .pas) := by
  refine PS_mono ps_pass fun D σ H h => ?_
  obtain ⟨ρ, ts, r, sr, he, q⟩ := h
  have he : some (Rs.nx ρ) = some r := he
  cases he
  exact q σ H sr
theorem s_brk : PS X (.Break pos) (tS Φ fr Γ ret wx X.K .brk) := by
  refine PS_mono ps_break fun D σ H h => ?_
  obtain ⟨ρ, ts, r, sr, he, q⟩ := h
  have he : some (Rs.brk ρ) = some r := he
  cases he
  exact q σ H sr
theorem s_cnt : PS X (.Continue pos) (tS Φ fr Γ ret wx X.K .cnt) := by
  refine PS_mono ps_continue fun D σ H h => ?_
  obtain ⟨ρ, ts, r, sr, he, q⟩ := h
  have he : some (Rs.cnt ρ) = some r := he
  cases he
  exact q σ H sr
theorem s_ret {e : Expr} {ee : E} (he : PE X e (tE Φ fr X.K Γ ret ee)) : PS X (.Return (some e) pos) (tS Φ fr Γ ret wx X.K (.ret ee)) := by
  refine PS_mono (ps_ret he) fun D σ H h => ?_
  obtain ⟨ρ, ts, r, sr, he, q⟩ := h
  obtain ⟨ra, e1, rfl⟩ := map_inv he
  refine ⟨ρ, ts, ra, sr, e1, fun v H1 s1 => q v σ H1 [] ?_⟩
  rw [List.append_nil]
  exact s1
theorem s_retn : PS X (.Return none pos) (tS Φ fr Γ ret wx X.K .retn) := by
  refine PS_mono ps_retN fun D σ H h => ?_
  obtain ⟨ρ, ts, r, sr, he, q⟩ := h
  have he : some (Rs.ret .none ρ) = some r := he
  cases he
  refine q .non σ H [] ?_
  rw [List.append_nil]
  exact sr.res rfl fun G => .non
theorem s_ex {e : Expr} {ee : E} (hn : noComp e = true) (he : PE X e (tE Φ fr X.K Γ .fro ee)) : PS X (.Expr e pos) (tS Φ fr Γ ret wx X.K (.ex ee)) := by
  refine PS_mono (ps_expr he (swaps_no hn)) fun D σ H h => ?_
  obtain ⟨ρ, ts, r, sr, he, q⟩ := h
  obtain ⟨ra, e1, rfl⟩ := map_inv he
  exact ⟨ρ, ts, ra, sr, e1, fun v H1 s1 => q σ H1 s1.drop⟩
theorem s_ife {c : Expr} {a b : List Stmt} {tc : T} {sa sb : Ss} (hc : PT X c (tT Φ fr X.K Γ tc)) (ha : PSs X a (tSs Φ fr Γ ret wx X.K sa)) (hb : PSs X b (tSs Φ fr Γ ret wx X.K sb)) : PS X (.If c a b pos) (tS Φ fr Γ ret wx X.K (.ife tc sa sb)) := by
  refine PS_mono (ps_if hc ha hb) fun D σ H h => ?_
  obtain ⟨ρ, ts, r, sr, he, q⟩ := h
  obtain ⟨ra, e1, he⟩ := bind_inv he
  refine ⟨ρ, ts, ra, sr, e1, fun H1 s1 => ?_⟩
  by_cases hd : ra.1 = true
  · rw [if_pos hd] at he ⊢
    exact ⟨_, ts, r, s1, he, q⟩
  · rw [if_neg hd] at he ⊢
    exact ⟨_, ts, r, s1, he, q⟩
theorem pin_ne {i : Nat} (hp : Pin P fr) (h : i ∉ P) : ∀ p ∈ fr.pins, p.1 ≠ i := fun p hm e => h (e ▸ hp p hm)
theorem s_set {i : Nat} {x : Str} {t : Ty} {e : Expr} {ee : E} {px : Pos} (nd : X.N.Nodup) (hi : X.N[i]? = some x) (hx : Loc X.env.scope x) (hf : X.fn x = true ∨ X.env.scope.names.lookup x = some .local) (hw : Γ[i]? = some t) (hp : ∀ p ∈ fr.pins, p.1 ≠ i)
    (hn : swapsWith e (some (.Name x px)) pos.line X.env = pure false) (he : PE X e (tE Φ fr X.K Γ t ee)) : PS X (.Assign [.Name x px] e pos) (tS Φ fr Γ ret wx X.K (.set i ee)) := by
  refine PS_mono (ps_set nd hi hx he hn hf) fun D σ H h => ?_
  obtain ⟨ρ, ts, r, sr, he, q⟩ := h
  obtain ⟨ra, e1, rfl⟩ := map_inv he
  exact ⟨ρ, ts, ra, sr, e1, fun v H1 s1 => q _ _ (s1.setSlot hw hp)⟩
/-- name = [..] on one line -/
theorem s_setC {i : Nat} {x : Str} {t w : Ty} {px : Pos} {P' : List Nat} {elt tgt iter : Expr} {ifs : List Expr} {scope : Scope} {own : List (Str × Nat)} {cpos : Pos} {eelt : E} {tg : Tg} {it : Iv} {cd : Ot} (m : Made t w) (hc : X.calm = true) (hN : X.N.Nodup) (hi : X.N[i]? = some x) (hx : X.env.scope.names.lookup x = some .local) (hw : Γ[i]? = some w) (hpi : i ∉ P)
    (hsw : swapsWith (.ListComp elt [⟨tgt, iter, ifs, 0⟩] scope cpos) (some (.Name x px)) pos.line X.env = pure true) (hpin : Pin P fr) (h1 : ∀ i ∈ P, i ∈ P') (h2 : ∀ i ∈ itB it, i ∈ P') (hd : ∀ i ∈ P', i ∉ own.map (·.2)) (hsl : ∀ i ∈ tgSl tg, i ∈ own.map (·.2))
    (hit : PI X tgt iter (tIt Φ fr Γ X.K it)) (ok : BlkOk X.N X.env.scope scope own) (hs : noSet iter = true)
    (hg : ∀ (s : Shared) (H : Hp) (C : Addr) (cl : List (Str × Addr)) (fp : List Addr) (fr : Fr), Pin P' fr → PG (X.blk s H scope (compEnvC scope cl C X.env) fp) tgt (tG fr Γ X.K tg))
    (ht : ∀ (s : Shared) (H : Hp) (C : Addr) (cl : List (Str × Addr)) (fp : List Addr), PTs (X.blk s H scope (compEnvC scope cl C X.env) fp) ifs (xC Φ Γ P' X.K cd))
    (he : ∀ (s : Shared) (H : Hp) (C : Addr) (cl : List (Str × Addr)) (fp : List Addr) (fr : Fr), Pin P' fr → PE (X.blk s H scope (compEnvC scope cl C X.env) fp) elt (tE Φ fr X.K Γ t eelt)) :
    PS X (.Assign [.Name x px] (.ListComp elt [⟨tgt, iter, ifs, 0⟩] scope cpos) pos) (tS Φ fr Γ ret wx X.K (.set i (.comp eelt tg it cd (own.map (·.2))))) := by
  refine PS_mono (ps_setLc (g := xG Γ P' X.K tg) (tt := xC Φ Γ P' X.K cd) (te := xE Φ Γ P' X.K t eelt) hc hN hi hx hsw hit ok (fun s H C cl fp => pg_x (hg s H C cl fp)) ht (fun s H C cl fp => pe_x (he s H C cl fp)) (folded_of hs)) fun D σ H h => ?_
  obtain ⟨ρ, ts, r, sr, e0, q⟩ := h
  obtain ⟨ra, e1, rfl⟩ := map_inv (show (ev Φ _ ρ).map _ = _ from e0)
  exact m_lc (fr := fr) (P := P) (P' := P') m hpin h1 h2 hd hsl ⟨ρ, ts, ra, sr, e1, fun v H1 s1 => q _ _ (s1.setSlot hw (pin_ne hpin hpi))⟩
/-- is it a tuple that is written -/
def noTup : Expr → Bool
  | .Tuple _ _ _ => false
  | .List _ _ => false
  | _ => true
theorem swst_no {es : List Expr} {k : Nat} {p : Pos} {e : Expr} {env : Env} (h : noTup e = true) : swappedStores [.Tuple es k p] e env = pure none := by
  cases e <;> first | rfl | cases h
theorem swss_no {es : List Expr} {k : Nat} {p : Pos} {e : Expr} {l : Nat} {env : Env} (h : noComp e = true) : swapsWithSole [.Tuple es k p] e l env = pure false := by
  rw [swapsWithSole]
  exact swaps_no h
theorem s_unp {es : List Expr} {k : Nat} {p : Pos} {e : Expr} {tg : Tg} {ee : E} (hn : noComp e = true) (ht : noTup e = true) (hg : PG X (.Tuple es k p) (tG fr Γ X.K tg)) (he : PE X e (tE Φ fr X.K Γ .fro ee)) : PS X (.Assign [.Tuple es k p] e pos) (tS Φ fr Γ ret wx X.K (.unp tg ee)) := by
  refine PS_mono (ps_asg he hg (swss_no hn) (swst_no ht) rfl) fun D σ H h => ?_
  obtain ⟨ρ, ts, r, sr, he, q⟩ := h
  obtain ⟨ra, e1, he⟩ := bind_inv he
  obtain ⟨ρ1, e2, rfl⟩ := map_inv he
  exact ⟨ρ, ts, ra, sr, e1, fun v H1 s1 => ⟨_, ts, _, ρ1, s1, e2, fun σ' H' _ s2 => q _ _ s2⟩⟩
/-- a, b = x, y -/
theorem s_par {i j : Nat} {x y : Str} {a b : Expr} {ea eb : E} {px py pt : Pos} {kt k2 : Nat} {pt2 : Pos} {t u : Ty} (hc : X.calm = true) (hN : X.N.Nodup) (hi : X.N[i]? = some x) (hj : X.N[j]? = some y) (hij : i ≠ j)
    (hx : X.env.scope.names.lookup x = some .local) (hy : X.env.scope.names.lookup y = some .local) (hw : Γ[i]? = some t) (hw2 : Γ[j]? = some u) (hp : ∀ p ∈ fr.pins, p.1 ≠ i) (hp2 : ∀ p ∈ fr.pins, p.1 ≠ j) (ha : PE X a (tE Φ fr X.K Γ t ea)) (hb : PE X b (tE Φ fr X.K Γ u eb)) (hs : noStar a = true) (hs2 : noStar b = true)
    (hsw : swappedStores [.Tuple [.Name x px, .Name y py] kt pt] (.Tuple [a, b] k2 pt2) X.env = pure (some [x, y])) :
    PS X (.Assign [.Tuple [.Name x px, .Name y py] kt pt] (.Tuple [a, b] k2 pt2) pos) (tS Φ fr Γ ret wx X.K (.par i j ea eb)) := by
  refine PS_mono (ps_par hc hN hi hj hij hx hy (pa_cons ha (pa_cons hb pa_nil (star_cons hs2)) (star_cons hs)) hsw rfl) fun D σ H h => ?_
  obtain ⟨ρ, ts, r, sr, he, q⟩ := h
  obtain ⟨ra, e1, he⟩ := bind_inv he
  obtain ⟨rb, e2, rfl⟩ := map_inv he
  refine ⟨ρ, ts, ra, sr, e1, fun v H1 s1 => ⟨ra.2, _, rb, s1, e2, fun z H2 s2 => ⟨v, z, rfl, q _ _ ?_⟩⟩⟩
  obtain ⟨G, F1, F2, s3⟩ := s2
  have pp : (ts ++ [(⟨t, ra.1, v⟩ : Tm)] ++ [(⟨u, rb.1, z⟩ : Tm)]).Perm (ts ++ [(⟨u, rb.1, z⟩ : Tm)] ++ [(⟨t, ra.1, v⟩ : Tm)]) := by
    rw [List.append_assoc, List.append_assoc]
    exact List.perm_append_comm.append_left ts
  obtain ⟨F3, s4⟩ := s3.perm pp
  have s5 : SR fr X.K Γ (put rb.2 i ra.1) (σ.set i (some v)) (ts ++ [⟨u, rb.1, z⟩]) H2 := SR.setSlot ⟨_, _, _, s4⟩ hw hp
  exact s5.setSlot hw2 hp2
theorem iop_ar : ∀ o : Ar, o ≠ .pow → OpR X (inplaceOp (opA o)) (rAr o)
  | .add, _ => fun pins s σ H x y v u Q I rx ry h => by
    obtain ⟨i, j, k, e1, e2, e, q⟩ := h
    cases e
    exact iop_add pins s σ H x y v u Q I rx ry ⟨i, j, e1, e2, q⟩
  | .sub, _ => fun pins s σ H x y v u Q I rx ry h => by
    obtain ⟨i, j, k, e1, e2, e, q⟩ := h
    cases e
    exact iop_sub pins s σ H x y v u Q I rx ry ⟨i, j, e1, e2, q⟩
  | .mul, _ => fun pins s σ H x y v u Q I rx ry h => by
    obtain ⟨i, j, k, e1, e2, e, q⟩ := h
    simp only [arD] at e
    split at e
    · rename_i c
      cases e
      exact iop_mul pins s σ H x y v u Q I rx ry ⟨i, j, e1, e2, c, q⟩
    · cases e
  | .fdiv, _ => fun pins s σ H x y v u Q I rx ry h => by
    obtain ⟨i, j, k, e1, e2, e, q⟩ := h
    simp only [arD] at e
    split at e
    · rename_i c
      cases e
      exact iop_fdiv pins s σ H x y v u Q I rx ry ⟨i, j, e1, e2, c, q⟩
    · cases e
  | .mod, _ => fun pins s σ H x y v u Q I rx ry h => by
    obtain ⟨i, j, k, e1, e2, e, q⟩ := h
    simp only [arD] at e
    split at e
    · rename_i c
      cases e
      exact iop_mod pins s σ H x y v u Q I rx ry ⟨i, j, e1, e2, c, q⟩
    · cases e
  | .shl, _ => fun pins s σ H x y v u Q I rx ry h => by
    obtain ⟨i, j, k, e1, e2, e, q⟩ := h
    simp only [arD] at e
    split at e
    · rename_i c
      cases e
      exact iop_shl pins s σ H x y v u Q I rx ry ⟨i, j, e1, e2, c, q⟩
    · cases e
  | .shr, _ => fun pins s σ H x y v u Q I rx ry h => by
    obtain ⟨i, j, k, e1, e2, e, q⟩ := h
    simp only [arD] at e
    split at e
    · rename_i c
      cases e
      exact iop_shr pins s σ H x y v u Q I rx ry ⟨i, j, e1, e2, c, q⟩
    · cases e
  | .band, _ => fun pins s σ H x y v u Q I rx ry h => by
    obtain ⟨i, j, k, e1, e2, e, q⟩ := h
    cases e
    exact iop_and pins s σ H x y v u Q I rx ry ⟨i, j, e1, e2, q⟩
  | .bor, _ => fun pins s σ H x y v u Q I rx ry h => by
    obtain ⟨i, j, k, e1, e2, e, q⟩ := h
    cases e
    exact iop_or pins s σ H x y v u Q I rx ry ⟨i, j, e1, e2, q⟩
  | .bxor, _ => fun pins s σ H x y v u Q I rx ry h => by
    obtain ⟨i, j, k, e1, e2, e, q⟩ := h
    cases e
    exact iop_xor pins s σ H x y v u Q I rx ry ⟨i, j, e1, e2, q⟩
  | .pow, h => absurd rfl h
theorem s_aug {i : Nat} {x : Str} {o : Ar} {e : Expr} {ee : E} {px : Pos} (ho : o ≠ .pow) (nd : X.N.Nodup) (hi : X.N[i]? = some x) (hx : Loc X.env.scope x) (hf : X.fn x = true ∨ X.env.scope.names.lookup x = some .local) (hw : Γ[i]? = some .fro) (hp : ∀ p ∈ fr.pins, p.1 ≠ i)
    (he : PE X e (tE Φ fr X.K Γ .fro ee)) : PS X (.AugAssign (.Name x px) (opA o) e pos) (tS Φ fr Γ ret wx X.K (.aug i o ee)) := by
  refine PS_mono (ps_aug nd hi hx he (iop_ar o ho) hf) fun D σ H h => ?_
  obtain ⟨ρ, ts, r, ⟨G, F1, F2, sr⟩, he, q⟩ := h
  obtain ⟨x0, e0, he⟩ := bind_inv he
  obtain ⟨ra, e1, he⟩ := bind_inv he
  obtain ⟨d, e2, rfl⟩ := map_inv he
  obtain ⟨v, g1, g2⟩ := sr.slot e0 hw
  refine ⟨v, g1, ρ, ts, ra, ⟨_, _, _, sr⟩, e1, fun u H1 s1 => ?_⟩
  obtain ⟨G1, F3, F4, y⟩ := id s1
  have ru := y.last1 rfl
  obtain ⟨a, b, k, q1, q2, q3⟩ := arD_inv e2
  clear e1
  obtain ⟨d1, ρ1⟩ := ra
  have q2 : d1 = .int b := q2
  subst q1 q2 q3
  cases g2
  cases ru
  exact ⟨a, b, k, rfl, rfl, e2, q _ _ ((s1.drop.res (w := .fro) (d := .int k) (v := .int k) rfl fun G => .int _).setSlot hw hp)⟩
theorem s_app {i : Nat} {x : Str} {e : Expr} {ee : E} {px ap cp : Pos} (hN : X.N[i]? = some x) (hv : Vis X.env.scope x) (hw : Γ[i]? = some (.lst .fro)) (hd : (x == ("__debug__" : Str)) = false) (hcd : (x == ("__classdict__" : Str)) = false) (hl : (ap.endLine == cp.line) = true)
    (ha : PE X e (tE Φ fr X.K Γ .fro ee)) (hs : noStar e = true) : PS X (.Expr (.Call (.Attribute (.Name x px) "append" ap) [e] [] cp) pos) (tS Φ fr Γ ret wx X.K (.app i ee)) := by
  refine PS_mono (ps_expr (pe_bm PySem.F.plainAttrs_list PySem.F.slot_list_append PySem.F.type_list_append mt_append (pe_var hN hv hd hcd) (pa_cons ha pa_nil (star_cons (env := X.env) hs)) rfl (few_of hs) hl (star_cons hs) rfl) rfl) fun D σ H h => ?_
  obtain ⟨ρ, ts, r, ⟨G0, F01, F02, sr⟩, he, q⟩ := h
  obtain ⟨x0, e0, he⟩ := bind_inv he
  cases x0 with
  | list l0 =>
    obtain ⟨ra, e1, he⟩ := bind_inv he
    obtain ⟨x, e2, he⟩ := bind_inv he
    obtain ⟨a0, vs0, k1, k2, _⟩ := sr.slotL e0 hw
    refine ⟨_, k1, tyV_l k2, ρ, ts, ra, ⟨_, _, _, sr⟩, e1, fun u H1 s1 => ?_⟩
    obtain ⟨G, F1, F2, y⟩ := id s1
    have ru := y.last1 rfl
    cases x with
    | list l =>
      have he : (if l.length < sizeLine then some (Rs.nx (put ra.2 i (.list (l ++ [ra.1])))) else none) = some r := he
      split at he
      · rename_i c
        cases he
        obtain ⟨F3, y2⟩ := y.drop
        obtain ⟨a, vs, g1, g2, g3, m⟩ := y2.slotMut e2 hw
        rw [k1] at g1
        cases g1
        exact ⟨_, vs, u, rfl, rfl, g2, by rw [g3.len]; exact c, q _ _ (m _ _ (g3.app (.cons ru .nil)))⟩
      · cases he
    | _ => cases he
  | _ => cases he
theorem asg_sub {o i : Expr} {p : Pos} {env : Env} (h : notSlice i = true) (v : Value) : assign (.Subscript o i p) env v = (do
      let ov ← holding [v] (eval o env)
      let iv ← holding [v, ov] (eval i env)
      standAt p
      holding [v, ov, iv] (setItem ov iv v)
      release [v, ov, iv] []) := by
  cases i <;> first | rfl | cases h
theorem s_sti {i : Nat} {x : Str} {a e : Expr} {ea ee : E} {px sp : Pos} (hN : X.N[i]? = some x) (hv : Vis X.env.scope x) (hw : Γ[i]? = some (.lst .fro)) (hd : (x == ("__debug__" : Str)) = false) (hcd : (x == ("__classdict__" : Str)) = false)
    (ha : PE X a (tE Φ fr X.K Γ .fro ea)) (he : PE X e (tE Φ fr X.K Γ .fro ee)) (hs : notSlice a = true) (hn : noComp e = true) : PS X (.Assign [.Subscript (.Name x px) a sp] e pos) (tS Φ fr Γ ret wx X.K (.sti i ea ee)) := by
  refine PS_mono (ps_asg he (pg_sub (pe_var hN hv hd hcd) ha set_list (asg_sub hs)) (by rw [swapsWithSole]; exact swaps_no hn) (by cases e <;> rfl) rfl) fun D σ H h => ?_
  obtain ⟨ρ, ts, r, sr, he, q⟩ := h
  obtain ⟨ra, e1, he⟩ := bind_inv he
  obtain ⟨x0, e0, he⟩ := bind_inv he
  obtain ⟨rb, e2, he⟩ := bind_inv he
  obtain ⟨x, e3, he⟩ := bind_inv he
  refine ⟨ρ, ts, ra, sr, e1, fun u H1 s1 => ?_⟩
  obtain ⟨G1, F11, F12, y1⟩ := id s1
  obtain ⟨t0, v0, _, _, g1, g2, _⟩ := y1.takeOut e0
  refine ⟨v0, g2, ra.2, _, rb, s1, e2, fun z H2 s2 => ?_⟩
  obtain ⟨G, F1, F2, y⟩ := id s2
  have rz := y.last2 rfl rfl
  clear e2
  obtain ⟨d2, ρ2⟩ := rb
  cases x with
  | list l =>
    cases d2 with
    | int j =>
      obtain ⟨k, e4, rfl⟩ := map_inv he
      obtain ⟨r1, r2⟩ := rz
      cases r2
      obtain ⟨F3, y2⟩ := y.drop
      obtain ⟨F4, y3⟩ := y2.drop
      obtain ⟨a, vs, k1, k2, k3, m⟩ := y3.slotMut e3 hw
      rw [g2] at k1
      cases k1
      exact ⟨a, vs, j, k, rfl, rfl, k2, by rw [k3.len]; exact e4, q _ _ (m _ _ (k3.set r1 k))⟩
    | _ => cases he
  | _ => cases he
end
end Vw
namespace Vw
open PySem PySem.Spec PyProof.Rows L2
section
variable {X : Cx} {Φ : Cf} {fr : Fr} {Γ : List Ty} {ret : Ty} {wx : Xw} {pos : Pos} {P P' : List Nat}
theorem s_sti2 {i : Nat} {x : Str} {a b e : Expr} {ea eb ee : E} {px sp sp2 : Pos} (hN : X.N[i]? = some x) (hv : Vis X.env.scope x) (hw : Γ[i]? = some (.lst (.lst .fro))) (hd : (x == ("__debug__" : Str)) = false) (hcd : (x == ("__classdict__" : Str)) = false)
    (ha : PE X a (tE Φ fr X.K Γ .fro ea)) (hb : PE X b (tI Φ fr Γ X.K eb)) (st : stE eb = true) (he : PE X e (tE Φ fr X.K Γ .fro ee)) (hs : notSlice a = true) (hs2 : notSlice b = true) (hn : noComp e = true) : PS X (.Assign [.Subscript (.Subscript (.Name x px) a sp2) b sp] e pos) (tS Φ fr Γ ret wx X.K (.sti2 i ea eb ee)) := by
  refine PS_mono (ps_asg he (pg_sub (pe_ix ix_list (pe_var hN hv hd hcd) ha (plainIx_ns hs)) hb set_list (asg_sub hs2)) (by rw [swapsWithSole]; exact swaps_no hn) (by cases e <;> rfl) rfl) fun D σ H h => ?_
  obtain ⟨ρ, ts, r, sr, he, q⟩ := h
  obtain ⟨ra, e1, he⟩ := bind_inv he
  obtain ⟨x0, e0, he⟩ := bind_inv he
  obtain ⟨rb, e2, he⟩ := bind_inv he
  obtain ⟨rc, e3, he⟩ := bind_inv he
  obtain ⟨x, e4, he⟩ := bind_inv he
  have p3 := stE_pure st e3
  refine ⟨ρ, ts, ra, sr, e1, fun u H1 s1 => ?_⟩
  obtain ⟨G1, F11, F12, y1⟩ := id s1
  obtain ⟨t0, v0, _, _, g1, g2, _⟩ := y1.takeOut e0
  refine ⟨v0, g2, ra.2, _, rb, s1, e2, fun z H2 s2 => ?_⟩
  obtain ⟨G, F1, F2, y⟩ := id s2
  have rz := y.last2 rfl rfl
  clear e2
  obtain ⟨d2, ρ2⟩ := rb
  obtain ⟨d3, ρ3⟩ := rc
  have p3 : ρ3 = ρ2 := p3
  subst p3
  cases x with
  | list m =>
    cases d2 with
    | int j =>
      cases d3 with
      | int j2 =>
        obtain ⟨k, e5, he⟩ := bind_inv (show (ixN m.length j).bind _ = _ from he)
        obtain ⟨yy, e6, he⟩ := bind_inv he
        cases yy with
        | list l =>
          obtain ⟨k2, e7, rfl⟩ := map_inv he
          obtain ⟨r1, r2⟩ := rz
          cases r2
          obtain ⟨F3, y2⟩ := y.drop
          obtain ⟨F4, y3⟩ := y2.drop
          obtain ⟨a0, b0, vs, ws, k1, k3, k4, k5, k6, k7, mm⟩ := y3.slotMut2 e4 e6 hw
          rw [g2] at k1
          cases k1
          refine ⟨a0, vs, j, .ref b0, rfl, rfl, SqL.of k3, ?_, ρ3, _, j2, s2, e3, b0, ws, j2, k2, rfl, rfl, k6, by rw [k7.len]; exact e7, q _ _ (mm _ _ (k7.set r1 k2))⟩
          unfold atI
          rw [k4, e5]
          exact k5
        | _ => cases he
      | _ => cases he
    | _ => cases he
  | _ => cases he
end
section
variable {X : Cx} {Φ : Cf} {fr : Fr} {Γ : List Ty} {ret : Ty} {wx : Xw} {pos : Pos} {P P' : List Nat}
variable (Φ Γ P ret wx) in
def xS (K : PySem.W.Frag) (s : Ss) : TS := fun D σ H => ∃ fr, Pin P fr ∧ tSs Φ fr Γ ret wx K s D σ H
theorem ps_x {l : List Stmt} {s : Ss} (h : ∀ fr, Pin P fr → PSs X l (tSs Φ fr Γ ret wx X.K s)) : PSs X l (xS Φ Γ ret wx P X.K s) := ⟨fun pins s σ H D I ⟨fr, hp, hw⟩ => (h fr hp).run pins s σ H D I hw⟩
theorem s_for {tgt iter : Expr} {body : List Stmt} {tg : Tg} {it : Iv} {b : Ss} (hp : PassesOwn (model X.prog X.w) X.A X.env X.xe) (hc : X.calm = true) (hpin : Pin P fr) (h1 : ∀ i ∈ P, i ∈ P') (h2 : ∀ i ∈ itB it, i ∈ P') (hi : PI X tgt iter (tIt Φ fr Γ X.K it))
    (hg : ∀ fr, Pin P' fr → PG X tgt (tG fr Γ X.K tg)) (hb : ∀ fr, Pin P' fr → PSs X body (tSs Φ fr Γ ret wx X.K b)) (hs : noSet iter = true) : PS X (.For tgt iter body [] pos) (tS Φ fr Γ ret wx X.K (.for tg it b)) := by
  refine PS_mono (ps_for hp hc hi (pg_x hg) (ps_x hb) (folded_of hs)) fun D σ H h => ?_
  obtain ⟨ρ, ts, r, sr, he, q⟩ := h
  obtain ⟨ra, e1, he⟩ := bind_inv he
  obtain ⟨rq, e2, e3⟩ := bind_inv he
  clear he
  refine ⟨ρ, ts, ra, sr, e1, fun J H1 us fr' s1 wk => ?_⟩
  have pin' : Pin P' fr' := wk.pin hpin (evI_b e1) h1 h2
  have go1 : ∀ (i : Nat) (ρ : Rho) (σ : Sg) (H : Hp) (h : i < ra.1.length), SR fr' X.K Γ ρ σ (ts ++ us) H → J.go i H ∧ ∀ x H', J.yld i H x H' → SR fr' X.K Γ ρ σ (ts ++ us ++ [⟨.fro, ra.1[i], x⟩]) H' := fun i ρ σ H h s => by
    have g := wk.go i ρ σ [] H h (by rw [List.append_nil]; exact s)
    rw [List.append_nil] at g
    exact g
  refine ⟨fun i m σ H => m = ra.1.length - i ∧ i ≤ ra.1.length ∧ ∃ ρ, SR fr' X.K Γ ρ σ (ts ++ us) H ∧ forL (fun d ρ => (tgD tg d ρ).bind fun ρ1 => exSs Φ b ρ1) (ra.1.drop i) ρ = some rq, ⟨_, rfl, Nat.zero_le _, _, s1, e2⟩, ?_⟩
  rintro i m σ1 H2 ⟨rfl, hi, ρ1, s, ef⟩
  by_cases hlt : i < ra.1.length
  · rw [List.drop_eq_getElem_cons hlt] at ef
    obtain ⟨rs, c1, c2⟩ := bind_inv ef
    clear ef
    obtain ⟨g1, g2⟩ := go1 i _ _ H2 hlt s
    refine .inr ⟨g1, fun σ' H' => ∃ ρ, SR fr' X.K Γ ρ σ' (ts ++ us) H' ∧ forL (fun d ρ => (tgD tg d ρ).bind fun ρ1 => exSs Φ b ρ1) (ra.1.drop (i + 1)) ρ = some rq, fun σ' H' ⟨ρ', a1, a2⟩ => ⟨ra.1.length - (i + 1), by omega, rfl, hlt, ρ', a1, a2⟩, fun x H' yl => ?_⟩
    have s2 := g2 x H' yl
    obtain ⟨ρ2, d1, d2⟩ := bind_inv c1
    clear c1
    refine ⟨fr', pin', _, _, _, ρ2, s2, d1, fun σ2 H3 bt s3 => ⟨fr', pin', ρ2, _, rs, s3, d2, ?_⟩⟩
    cases rs with
    | nx ρ3 => exact fun σ3 H4 s4 => ⟨ρ3, s4, c2⟩
    | cnt ρ3 => exact fun σ3 H4 s4 => ⟨ρ3, s4, c2⟩
    | brk ρ3 =>
      have c2 : some (Rs.nx ρ3) = some rq := c2
      cases c2
      obtain ⟨ρ4, e4, rfl⟩ := map_inv e3
      exact fun σ3 H4 s4 => q σ3 H4 (wk.rest _ _ _ _ _ s4 e4)
    | ret d ρ3 =>
      have c2 : some (Rs.ret d ρ3) = some rq := c2
      cases c2
      have e3 : some (Rs.ret d ρ3) = some r := e3
      cases e3
      refine fun v σ3 H4 us2 s4 => q v σ3 H4 (us ++ us2) ?_
      rw [← List.append_assoc]
      exact wk.weak _ _ _ _ s4
    | exn x fs ρ3 =>
      have c2 : some (Rs.exn x fs ρ3) = some rq := c2
      cases c2
      have e3 : some (Rs.exn x fs ρ3) = some r := e3
      cases e3
      refine fun σ3 H4 us2 vs C dd s4 => q σ3 H4 (us ++ us2) vs C dd ?_
      rw [← List.append_assoc]
      exact wk.weak _ _ _ _ s4
  · have ei : i = ra.1.length := by omega
    subst ei
    rw [List.drop_length] at ef
    have ef : some (Rs.nx ρ1) = some rq := ef
    cases ef
    obtain ⟨ρ4, e4, rfl⟩ := map_inv e3
    refine .inl ⟨wk.stop _ _ [] H2 (by rw [List.append_nil]; exact s), q _ _ (wk.rest _ _ _ _ _ s e4)⟩
theorem s_wh {c : Expr} {body : List Stmt} {t : T} {b : Ss} (hp : PassesOwn (model X.prog X.w) X.A X.env X.xe) (hc : PT X c (tT Φ fr X.K Γ t)) (hb : PSs X body (tSs Φ fr Γ ret wx X.K b)) : PS X (.While c body [] pos) (tS Φ fr Γ ret wx X.K (.wh t b)) := by
  refine PS_mono (ps_while hp hc hb) fun D σ H h => ?_
  obtain ⟨ρ, ts, r, sr, he, q⟩ := h
  have he : whL (fun ρ => evT Φ t ρ) (fun ρ => exSs Φ b ρ) Φ.W ρ = some r := he
  refine ⟨fun n σ H => ∃ ρ, SR fr X.K Γ ρ σ ts H ∧ whL (fun ρ => evT Φ t ρ) (fun ρ => exSs Φ b ρ) n ρ = some r, ⟨_, _, sr, he⟩, ?_⟩
  rintro n σ1 H1 ⟨ρ1, s, e⟩
  cases n with
  | zero => cases e
  | succ n =>
    obtain ⟨rb, e1, e2⟩ := bind_inv e
    clear e
    refine ⟨ρ1, ts, rb, s, e1, fun H2 s2 => ?_⟩
    by_cases hb : rb.1 = true
    · rw [if_pos hb] at e2 ⊢
      obtain ⟨rs, e3, e4⟩ := bind_inv e2
      clear e2
      refine ⟨fun σ' H' => ∃ ρ, SR fr X.K Γ ρ σ' ts H' ∧ whL (fun ρ => evT Φ t ρ) (fun ρ => exSs Φ b ρ) n ρ = some r, fun σ' H' h => ⟨n, Nat.lt_succ_self _, h⟩, rb.2, ts, rs, s2, e3, ?_⟩
      cases rs with
      | nx ρ3 => exact fun σ3 H4 s4 => ⟨ρ3, s4, e4⟩
      | cnt ρ3 => exact fun σ3 H4 s4 => ⟨ρ3, s4, e4⟩
      | brk ρ3 =>
        have e4 : some (Rs.nx ρ3) = some r := e4
        cases e4
        exact q
      | ret d ρ3 =>
        have e4 : some (Rs.ret d ρ3) = some r := e4
        cases e4
        exact q
      | exn x fs ρ3 =>
        have e4 : some (Rs.exn x fs ρ3) = some r := e4
        cases e4
        exact q
    · rw [if_neg hb] at e2 ⊢
      cases e2
      exact q _ _ s2
end
end Vw
namespace Vw
open PySem PySem.Spec PyProof.Rows L2
/-! ### a def's names, looked at -/
structure Ct where
  N : List Str
  sc : Scope
  cl : Str → Bool
  gl : List (Str × Int)
  gt : Bool
def blAll : List Str := ["len", "tuple", "list", "sum", "min", "max", "sorted", "all", "any", "abs", "int", "range", "enumerate", "zip", "set", "isinstance", "bool", "str", "repr"]
structure Gd (X : Cx) (c : Ct) : Prop where
  N : X.N = c.N
  nd : c.N.Nodup
  sc : X.env.scope = c.sc
  kd : c.sc.kind = .function
  calm : X.calm = true
  pas : PassesOwn (model X.prog X.w) X.A X.env X.xe
  cl : ∀ x, c.cl x = true → X.fn x = true
  un : X.A.units + 100 < cLine
  bl : ∀ x, x ∈ blAll → X.mg x = none
  gl : ∀ p ∈ c.gl, ∃ t, X.mg p.1 = some (.int p.2 t)
  ge : c.gt = true → Room 3 X.A ∧ ∃ p ∈ tabsK X.K, X.env.code = .ref p.1 ∧ GxR.TabB X.base X.mg p.1 p.2
def visK : Option NameKind → Bool
  | some .local => true
  | some .cell => true
  | some .free => true
  | _ => false
def vC (c : Ct) (Γ : List Ty) (i : Nat) (x : Str) (t : Ty) : Bool := decide (c.N[i]? = some x) && visK (c.sc.names.lookup x) && decide (Γ[i]? = some t) && !(x == ("__debug__" : Str)) && !(x == ("__classdict__" : Str))
def glC (c : Ct) (x : Str) : Bool := decide (c.sc.names.lookup x = some .globalImplicit)
def blC (c : Ct) (x : Str) : Bool := glC c x && decide (x ∈ blAll)
def lcC (c : Ct) (x : Str) : Bool := match c.sc.names.lookup x with
  | some .local => true
  | some .cell => c.cl x
  | _ => false
def sC (c : Ct) (Γ : List Ty) (P : List Nat) (i : Nat) (x : Str) (t : Ty) : Bool := decide (c.N[i]? = some x) && lcC c x && decide (Γ[i]? = some t) && decide (i ∉ P)
def Ct.blk (c : Ct) (scope : Scope) : Ct := ⟨c.N, relS scope c.sc, fun x => scope.names.lookup x == some .cell, c.gl, c.gt⟩
/-- a callee -/
structure Cal (X : Cx) (Φ : Cf) (j : Nat) (x : Str) (g : Sig) : Prop where
  ex : ∃ (k : Nat) (f : Addr) (fd : FuncData) (ps : List Str), FnOk X.prog X.w X.K X.mg X.base CX0 k f fd ps (spI X.K g (Φ.fn x)) ∧ Room (k + 3 * j) X.A ∧ X.mg x = some (.ref f) ∧ PySem.W.keepIn X.K (.ref f) = true ∧ Binds X.K fd ps []
section
variable {X : Cx} {c : Ct} {Φ : Cf} {fr : Fr} {Γ : List Ty} {w : Ty} {ret : Ty} {wx : Xw} {pos : Pos} {P P' : List Nat}
theorem vC_of {i : Nat} {x : Str} {t : Ty} (gd : Gd X c) (h : vC c Γ i x t = true) : X.N[i]? = some x ∧ Vis X.env.scope x ∧ Γ[i]? = some t ∧ (x == ("__debug__" : Str)) = false ∧ (x == ("__classdict__" : Str)) = false := by
  unfold vC at h
  simp only [Bool.and_eq_true, decide_eq_true_eq, Bool.not_eq_true'] at h
  obtain ⟨⟨⟨⟨h1, h2⟩, h3⟩, h4⟩, h5⟩ := h
  refine ⟨by rw [gd.N]; exact h1, ?_, h3, h4, h5⟩
  unfold Vis
  rw [gd.sc]
  cases e : c.sc.names.lookup x with
  | none => rw [e] at h2; cases h2
  | some k =>
    rw [e] at h2
    cases k <;> first | exact .inl rfl | exact .inr (.inl rfl) | exact .inr (.inr rfl) | cases h2
theorem glC_of {x : Str} (gd : Gd X c) (h : glC c x = true) : Gl X x := by
  have h : c.sc.names.lookup x = some .globalImplicit := of_decide_eq_true h
  show X.env.scope.names.lookup x = _
  rw [gd.sc]
  exact h
theorem blC_of {x : Str} (gd : Gd X c) (h : blC c x = true) : Gl X x ∧ X.mg x = none := by
  obtain ⟨h1, h2⟩ := Bool.and_eq_true_iff.mp h
  exact ⟨glC_of gd h1, gd.bl x (of_decide_eq_true h2)⟩
theorem lcC_of {x : Str} (gd : Gd X c) (h : lcC c x = true) : L2.Loc X.env.scope x ∧ (X.fn x = true ∨ X.env.scope.names.lookup x = some .local) := by
  unfold L2.Loc
  rw [gd.sc]
  unfold lcC at h
  cases e : c.sc.names.lookup x with
  | none => rw [e] at h; cases h
  | some k =>
    rw [e] at h
    cases k <;> first | exact ⟨.inl rfl, .inr rfl⟩ | exact ⟨.inr rfl, .inl (gd.cl x h)⟩ | cases h
theorem sC_of {i : Nat} {x : Str} {t : Ty} (gd : Gd X c) (hp : Pin P fr) (h : sC c Γ P i x t = true) : X.N.Nodup ∧ X.N[i]? = some x ∧ L2.Loc X.env.scope x ∧ (X.fn x = true ∨ X.env.scope.names.lookup x = some .local) ∧ Γ[i]? = some t ∧ (∀ p ∈ fr.pins, p.1 ≠ i) := by
  unfold sC at h
  simp only [Bool.and_eq_true, decide_eq_true_eq] at h
  obtain ⟨⟨⟨h1, h2⟩, h3⟩, h4⟩ := h
  obtain ⟨l1, l2⟩ := lcC_of gd h2
  exact ⟨by rw [gd.N]; exact gd.nd, by rw [gd.N]; exact h1, l1, l2, h3, pin_ne hp h4⟩
theorem Gd.u64 (gd : Gd X c) : X.A.units + 64 < cLine := by
  have := gd.un
  omega
theorem Gd.u65 (gd : Gd X c) : X.A.units + 65 < cLine := by
  have := gd.un
  omega
theorem Gd.blk (gd : Gd X c) {s : Shared} {H : Hp} {scope : Scope} {C : Addr} {cl : List (Str × Addr)} {fp : List Addr} (h : scope.kind = .function) : Gd (X.blk s H scope (compEnvC scope cl C X.env) fp) (c.blk scope) where
  N := gd.N
  nd := gd.nd
  sc := by
    show relS scope X.env.scope = relS scope c.sc
    rw [gd.sc]
  kd := h
  calm := gd.calm
  pas := PassesOwn.never
  cl := fun x hx => hx
  un := gd.un
  bl := gd.bl
  gl := gd.gl
  ge := gd.ge
theorem Cal.blk {j : Nat} {x : Str} {g : Sig} (h : Cal X Φ j x g) {s : Shared} {H : Hp} {scope : Scope} {C : Addr} {cl : List (Str × Addr)} {fp : List Addr} : Cal (X.blk s H scope (compEnvC scope cl C X.env) fp) Φ j x g := ⟨h.ex⟩
/-! expressions -/
theorem k_v (gd : Gd X c) (i : Nat) {x : Str} (h : vC c Γ i x .fro = true) : PE X (.Name x pos) (tE Φ fr X.K Γ .fro (.v i)) := by
  obtain ⟨h1, h2, h3, h4, h5⟩ := vC_of gd h
  exact e_v h1 h2 h3 h4 h5
theorem k_mv (gd : Gd X c) (i : Nat) {x : Str} (t : Ty) (h : (vC c Γ i x t && decide (w = t ∨ (w = .fro ∧ t.plain = true))) = true) : PE X (.Name x pos) (tE Φ fr X.K Γ w (.mv i)) := by
  obtain ⟨h, h6⟩ := Bool.and_eq_true_iff.mp h
  obtain ⟨h1, h2, h3, h4, h5⟩ := vC_of gd h
  exact e_mv h1 h2 h3 (of_decide_eq_true h6) h4 h5
theorem k_os (gd : Gd X c) (i : Nat) {x : Str} (h : vC c Γ i x (.lst .fro) = true) : PE X (.Name x pos) (tO Φ fr X.K Γ (.s i)) := by
  obtain ⟨h1, h2, h3, h4, h5⟩ := vC_of gd h
  exact o_s h1 h2 h3 h4 h5
theorem k_ts (gd : Gd X c) (i : Nat) {x : Str} (h : vC c Γ i x (.lst .fro) = true) : PT X (.Name x pos) (tT Φ fr X.K Γ (.sl i)) := by
  obtain ⟨h1, h2, h3, h4, h5⟩ := vC_of gd h
  exact t_sl h1 h2 h3 h4 h5
theorem k_ws (gd : Gd X c) (i : Nat) {x : Str} (h : vC c Γ i x (.lst .fro) = true) : PE X (.Name x pos) (tW Φ fr Γ X.K (.s i)) := by
  obtain ⟨h1, h2, h3, h4, h5⟩ := vC_of gd h
  exact w_s h1 h2 h3 h4 h5
theorem k_iv (gd : Gd X c) (i : Nat) {x : Str} (h : vC c Γ i x .fro = true) : PE X (.Name x pos) (tI Φ fr Γ X.K (.v i)) := by
  obtain ⟨h1, h2, h3, h4, h5⟩ := vC_of gd h
  exact i_v h1 h2 h3 h4 h5
theorem k_i {n : Int} {j : Nat} : PE X (.Constant (.int n) j pos) (tE Φ fr X.K Γ w (.k (.int n))) := e_k pe_int rfl fun G => .int n
theorem k_b {b : Bool} {j : Nat} : PE X (.Constant (.bool b) j pos) (tE Φ fr X.K Γ w (.k (.bool b))) := e_k pe_bl rfl fun G => .bl b
theorem k_n {j : Nat} : PE X (.Constant .none j pos) (tE Φ fr X.K Γ w (.k .none)) := e_k pe_non rfl fun G => .non
theorem k_s {x : Str} {j : Nat} : PE X (.Constant (.str x) j pos) (tE Φ fr X.K Γ w (.k (.str x))) := e_k pe_str rfl fun G => .str x
theorem k_ii {n : Int} {j : Nat} : PE X (.Constant (.int n) j pos) (tI Φ fr Γ X.K (.k (.int n))) := i_k pe_int fun G => .int n
theorem k_cm (o : Cm) {a b : Expr} {ea eb : E} (ha : PE X a (tE Φ fr X.K Γ .fro ea)) (hb : PE X b (tE Φ fr X.K Γ .fro eb)) : PE X (.Compare a [opC o] [b] pos) (tE Φ fr X.K Γ w (.cm o ea eb)) :=
  PE_mono (pe_cmpR (op_cm o) ha hb (nobehind b (opC_in o).1 (opC_in o).2)) fun σ H Q h => m_cm o h
theorem k_cmT (o : Cm) {a b : Expr} {ea eb : E} (ha : PE X a (tE Φ fr X.K Γ .fro ea)) (hb : PE X b (tE Φ fr X.K Γ .fro eb)) : PT X (.Compare a [opC o] [b] pos) (tT Φ fr X.K Γ (.e (.cm o ea eb))) :=
  t_cmp (pt_cmpR (op_cm o) ha hb (nobehind b (opC_in o).1 (opC_in o).2)) rfl fun σ H Q h => m_cm o h
theorem k_ch (o o2 : Cm) {a b e : Expr} {ea eb ee : E} (ha : PE X a (tE Φ fr X.K Γ .fro ea)) (hb : PE X b (tE Φ fr X.K Γ .fro eb)) (he : PE X e (tE Φ fr X.K Γ .fro ee)) : PE X (.Compare a [opC o, opC o2] [b, e] pos) (tE Φ fr X.K Γ w (.ch o o2 ea eb ee)) :=
  PE_mono (pe_chain (op_cm o) (op_cm o2) ha hb he (nobehind e (opC_in o2).1 (opC_in o2).2)) fun σ H Q h => m_ch o o2 h
theorem k_chT (o o2 : Cm) {a b e : Expr} {ea eb ee : E} (ha : PE X a (tE Φ fr X.K Γ .fro ea)) (hb : PE X b (tE Φ fr X.K Γ .fro eb)) (he : PE X e (tE Φ fr X.K Γ .fro ee)) : PT X (.Compare a [opC o, opC o2] [b, e] pos) (tT Φ fr X.K Γ (.e (.ch o o2 ea eb ee))) :=
  t_cmp (pt_chain (op_cm o) (op_cm o2) ha hb he (nobehind e (opC_in o2).1 (opC_in o2).2)) rfl fun σ H Q h => m_ch o o2 h
theorem k_eq (gd : Gd X c) (ng : Bool) {a b : Expr} {ea eb : E} (ha : PE X a (tE Φ fr X.K Γ .fro ea)) (hb : PE X b (tE Φ fr X.K Γ .fro eb)) : PE X (.Compare a [if ng then .NotEq else .Eq] [b] pos) (tE Φ fr X.K Γ w (.eq ng ea eb)) :=
  PE_mono (pe_cmpR (op_eqG gd.u64 ng) ha hb (nobehind b (eqop_in ng).1 (eqop_in ng).2)) fun σ H Q h => m_eq ng h
theorem k_eqT (gd : Gd X c) (ng : Bool) {a b : Expr} {ea eb : E} (ha : PE X a (tE Φ fr X.K Γ .fro ea)) (hb : PE X b (tE Φ fr X.K Γ .fro eb)) : PT X (.Compare a [if ng then .NotEq else .Eq] [b] pos) (tT Φ fr X.K Γ (.e (.eq ng ea eb))) :=
  t_cmp (pt_cmpR (op_eqG gd.u64 ng) ha hb (nobehind b (eqop_in ng).1 (eqop_in ng).2)) rfl fun σ H Q h => m_eq ng h
theorem k_is (ng : Bool) {a : Expr} {j : Nat} {p : Pos} {ea : E} (ha : PE X a (tE Φ fr X.K Γ .fro ea)) : PE X (.Compare a [if ng then .IsNot else .Is] [.Constant .none j p] pos) (tE Φ fr X.K Γ w (.isn ng ea)) :=
  PE_mono (pe_cmpR (op_isG ng) ha pe_non (nobehind _ (isop_in ng).1 (isop_in ng).2)) fun σ H Q h => m_isn ng h
theorem k_isT (ng : Bool) {a : Expr} {j : Nat} {p : Pos} {ea : E} (ha : PE X a (tE Φ fr X.K Γ .fro ea)) : PT X (.Compare a [if ng then .IsNot else .Is] [.Constant .none j p] pos) (tT Φ fr X.K Γ (.e (.isn ng ea))) :=
  t_cmp (pt_cmpR (op_isG ng) ha pe_non (nobehind _ (isop_in ng).1 (isop_in ng).2)) rfl fun σ H Q h => m_isn ng h
theorem k_in (ng : Bool) {a b : Expr} {ea : E} {ob : O} (ha : PE X a (tE Φ fr X.K Γ .fro ea)) (hb : PE X b (tO Φ fr X.K Γ ob)) (hn : noSet b = true) : PE X (.Compare a [if ng then .NotIn else .In] [b] pos) (tE Φ fr X.K Γ w (.inn ng ea ob)) :=
  PE_mono (pe_cmpR (op_inG ng) ha hb (by cases b <;> first | rfl | cases hn)) fun σ H Q h => m_inn ng h
theorem k_inT (ng : Bool) {a b : Expr} {ea : E} {ob : O} (ha : PE X a (tE Φ fr X.K Γ .fro ea)) (hb : PE X b (tO Φ fr X.K Γ ob)) (hn : noSet b = true) : PT X (.Compare a [if ng then .NotIn else .In] [b] pos) (tT Φ fr X.K Γ (.e (.inn ng ea ob))) :=
  t_cmp (pt_cmpR (op_inG ng) ha hb (by cases b <;> first | rfl | cases hn)) rfl fun σ H Q h => m_inn ng h
theorem k_b1 (gd : Gd X c) (f : B1) {a : Expr} {oa : O} {p : Pos} (ha : PE X a (tO Φ fr X.K Γ oa)) (h : (noStar a && blC c (PySem.Str.ofString (b1S f)) && okB1 f w) = true) :
    PE X (.Call (.Name (PySem.Str.ofString (b1S f)) p) [a] [] pos) (tE Φ fr X.K Γ w (.b1 f oa)) := by
  simp only [Bool.and_eq_true] at h
  exact e_b1 gd.calm f ha h.1.1 (blC_of gd h.1.2).1 (blC_of gd h.1.2).2 h.2
theorem k_b2 (gd : Gd X c) (f : B2) {a b : Expr} {ea eb : E} {p : Pos} (ha : PE X a (tE Φ fr X.K Γ .fro ea)) (hb : PE X b (tE Φ fr X.K Γ .fro eb)) (h : (noStar a && noStar b && blC c (PySem.Str.ofString (b2S f))) = true) :
    PE X (.Call (.Name (PySem.Str.ofString (b2S f)) p) [a, b] [] pos) (tE Φ fr X.K Γ w (.b2 f ea eb)) := by
  simp only [Bool.and_eq_true] at h
  exact e_b2 gd.calm f ha hb h.1.1 h.1.2 (blC_of gd h.2).1 (blC_of gd h.2).2
theorem k_ix2 (gd : Gd X c) (i : Nat) {x : Str} {a b : Expr} {ea eb : E} {px p2 : Pos} (ha : PE X a (tE Φ fr X.K Γ .fro ea)) (hb : PE X b (tI Φ fr Γ X.K eb)) (h : (vC c Γ i x (.lst (.lst .fro)) && notSlice a && notSlice b && stE eb) = true) :
    PE X (.Subscript (.Subscript (.Name x px) a p2) b pos) (tE Φ fr X.K Γ .fro (.ix2 i ea eb)) := by
  simp only [Bool.and_eq_true] at h
  obtain ⟨h1, h2, h3, h4, h5⟩ := vC_of gd h.1.1.1
  exact e_ix2 h1 h2 h3 h4 h5 ha hb h.1.1.2 h.1.2 h.2
theorem k_call (gd : Gd X c) {j : Nat} {x : Str} {g : Sig} (cal : Cal X Φ j x g) {as : As} {args : List Expr} {p : Pos} (ha : PA X args (tA Φ fr Γ X.K g.ps as))
    (h : (noStars args && !args.isEmpty && glC c x && !(x == ("__debug__" : Str)) && decide ((iosA as).Nodup) && decide (w = g.ret ∨ (w = .fro ∧ g.ret.plain = true)) && (!(hasBo as) || (decide (iosA as = []) && decide (g.ret = .fro)))) = true) :
    PE X (.Call (.Name x p) args [] pos) (tE Φ fr X.K Γ w (.call x as)) := by
  obtain ⟨k, f, fd, ps, F, hr, hm, hk, hb⟩ := cal.ex
  simp only [Bool.and_eq_true, Bool.or_eq_true, decide_eq_true_eq, Bool.not_eq_true'] at h
  obtain ⟨⟨⟨⟨⟨⟨h1, h2⟩, h3⟩, h4⟩, h5⟩, h6⟩, h7⟩ := h
  exact e_call F (hr.mono (Nat.le_add_right _ _)) (glC_of gd h3) hm hk hb ha h1 h2 h4 h5 h6 fun hh => h7.elim (fun z => by rw [hh] at z; cases z) fun z => z
theorem k_io (gd : Gd X c) (i : Nat) {x : Str} {t : Ty} {es : List Expr} {as : As} {ps : List Ty} (h : vC c Γ i x t = true) (hb : PA X es (tA Φ fr Γ X.K ps as)) : PA X (.Name x pos :: es) (tA Φ fr Γ X.K (t :: ps) (.io i as)) := by
  obtain ⟨h1, h2, h3, h4, h5⟩ := vC_of gd h
  exact a_io h1 h2 h3 h4 h5 hb
theorem k_bo (gd : Gd X c) (i : Nat) {x : Str} {t : Ty} {es : List Expr} {as : As} {ps : List Ty} (h : (vC c Γ i x t && t.plain) = true) (hb : PA X es (tA Φ fr Γ X.K ps as)) : PA X (.Name x pos :: es) (tA Φ fr Γ X.K (.fro :: ps) (.bo i as)) := by
  obtain ⟨h, hpl⟩ := Bool.and_eq_true_iff.mp h
  obtain ⟨h1, h2, h3, h4, h5⟩ := vC_of gd h
  exact a_bo (fun u hu => by rw [h3] at hu; cases hu; exact hpl) h1 h2 h4 h5 hb
theorem k_pop (gd : Gd X c) (i : Nat) {x : Str} {px ap : Pos} (h : (vC c Γ i x (.lst .fro) && (ap.endLine == pos.line)) = true) : PE X (.Call (.Attribute (.Name x px) "pop" ap) [] [] pos) (tE Φ fr X.K Γ .fro (.pop i)) := by
  obtain ⟨h, h6⟩ := Bool.and_eq_true_iff.mp h
  obtain ⟨h1, h2, h3, h4, h5⟩ := vC_of gd h
  exact e_pop h1 h2 h3 h4 h5 h6
theorem k_popat (gd : Gd X c) (i : Nat) {x : Str} {px ap : Pos} {e : Expr} {ea : E} (ha : PE X e (tE Φ fr X.K Γ .fro ea)) (h : (vC c Γ i x (.lst .fro) && (ap.endLine == pos.line) && noStar e) = true) : PE X (.Call (.Attribute (.Name x px) "pop" ap) [e] [] pos) (tE Φ fr X.K Γ .fro (.popat i ea)) := by
  obtain ⟨h, h7⟩ := Bool.and_eq_true_iff.mp h
  obtain ⟨h, h6⟩ := Bool.and_eq_true_iff.mp h
  obtain ⟨h1, h2, h3, h4, h5⟩ := vC_of gd h
  exact e_popat h1 h2 h3 h4 h5 h6 ha h7
/-! targets, walks -/
theorem k_gn (gd : Gd X c) (hp : Pin P fr) (i : Nat) {x : Str} (h : sC c Γ P i x .fro = true) : PG X (.Name x pos) (tG fr Γ X.K (.n i)) := by
  obtain ⟨h1, h2, h3, h4, h5, h6⟩ := sC_of gd hp h
  exact g_n h1 h2 h3 h4 h5 h6
theorem k_gt (gd : Gd X c) {es : List Expr} {l : Tgs} {k : Nat} (h : PGs X es (tGs fr Γ X.K l)) (hs : (noStars es && decide (tgsLen l = es.length)) = true) : PG X (.Tuple es k pos) (tG fr Γ X.K (.t l)) := by
  simp only [Bool.and_eq_true, decide_eq_true_eq] at hs
  exact g_t gd.calm h hs.1 hs.2
theorem k_r1 (gd : Gd X c) {tg a : Expr} {ea : E} {p : Pos} (ha : PE X a (tE Φ fr X.K Γ .fro ea)) (h : (blC c "range" && noStar a) = true) : PI X tg (.Call (.Name "range" p) [a] [] pos) (tIt Φ fr Γ X.K (.r1 ea)) := by
  simp only [Bool.and_eq_true] at h
  exact it_r1 (blC_of gd h.1).1 (blC_of gd h.1).2 ha h.2
theorem k_r2 (gd : Gd X c) {tg a b : Expr} {ea eb : E} {p : Pos} (ha : PE X a (tE Φ fr X.K Γ .fro ea)) (hb : PE X b (tE Φ fr X.K Γ .fro eb)) (h : (blC c "range" && noStar a && noStar b) = true) : PI X tg (.Call (.Name "range" p) [a, b] [] pos) (tIt Φ fr Γ X.K (.r2 ea eb)) := by
  simp only [Bool.and_eq_true] at h
  exact it_r2 (blC_of gd h.1.1).1 (blC_of gd h.1.1).2 ha hb h.1.2 h.2
theorem k_r3 (gd : Gd X c) {tg a b e : Expr} {ea eb ee : E} {p : Pos} (ha : PE X a (tE Φ fr X.K Γ .fro ea)) (hb : PE X b (tE Φ fr X.K Γ .fro eb)) (he : PE X e (tE Φ fr X.K Γ .fro ee)) (h : (blC c "range" && noStar a && noStar b && noStar e) = true) : PI X tg (.Call (.Name "range" p) [a, b, e] [] pos) (tIt Φ fr Γ X.K (.r3 ea eb ee)) := by
  simp only [Bool.and_eq_true] at h
  exact it_r3 (blC_of gd h.1.1.1).1 (blC_of gd h.1.1.1).2 ha hb he h.1.1.2 h.1.2 h.2
theorem k_en (gd : Gd X c) {a : Expr} {oa : O} {p tpos : Pos} {elts : List Expr} {kk : Nat} (ha : PE X a (tW Φ fr Γ X.K oa)) (h : (blC c "enumerate" && noStar a) = true) : PI X (.Tuple elts kk tpos) (.Call (.Name "enumerate" p) [a] [] pos) (tIt Φ fr Γ X.K (.en oa)) := by
  simp only [Bool.and_eq_true] at h
  exact it_en (blC_of gd h.1).1 (blC_of gd h.1).2 ha h.2
theorem k_zp (gd : Gd X c) {a b : Expr} {ea eb : E} {p tpos : Pos} {elts : List Expr} {kk : Nat} (ha : PE X a (tE Φ fr X.K Γ .fro ea)) (hb : PE X b (tE Φ fr X.K Γ .fro eb)) (h : (blC c "zip" && noStar a && noStar b) = true) : PI X (.Tuple elts kk tpos) (.Call (.Name "zip" p) [a, b] [] pos) (tIt Φ fr Γ X.K (.zp ea eb)) := by
  simp only [Bool.and_eq_true] at h
  exact it_zp (blC_of gd h.1.1).1 (blC_of gd h.1.1).2 ha hb h.1.2 h.2
/-! comprehensions -/
def inAll (l m : List Nat) : Bool := l.all fun i => decide (i ∈ m)
theorem inAll_of {l m : List Nat} (h : inAll l m = true) : ∀ i ∈ l, i ∈ m := fun i hi => of_decide_eq_true (List.all_eq_true.mp h i hi)
def cmpC (c : Ct) (P P' : List Nat) (it : Iv) (tg : Tg) (own : List (Str × Nat)) (scope : Scope) (iter : Expr) : Bool :=
  inAll P P' && inAll (itB it) P' && (P'.all fun i => decide (i ∉ own.map (·.2))) && inAll (tgSl tg) (own.map (·.2)) && blkC c.N c.sc scope own && noSet iter
theorem blk_kind {N : List Str} {sc scope : Scope} {own : List (Str × Nat)} (h : blkC N sc scope own = true) : scope.kind = .function := (blkOk_by h).kind
theorem k_comp (gd : Gd X c) (hpin : Pin P fr) (P' : List Nat) (own : List (Str × Nat)) {t : Ty} {elt tgt iter : Expr} {ifs : List Expr} {scope : Scope} {eelt : E} {tg : Tg} {it : Iv} {cd : Ot} (m : Made t w)
    (h : cmpC c P P' it tg own scope iter = true) (hi : PI X tgt iter (tIt Φ fr Γ X.K it))
    (hg : ∀ (X' : Cx), Gd X' (c.blk scope) → (∀ j x g, Cal X Φ j x g → Cal X' Φ j x g) → ∀ fr, Pin P' fr → PG X' tgt (tG fr Γ X'.K tg))
    (ht : ∀ (X' : Cx), Gd X' (c.blk scope) → (∀ j x g, Cal X Φ j x g → Cal X' Φ j x g) → PTs X' ifs (xC Φ Γ P' X'.K cd))
    (he : ∀ (X' : Cx), Gd X' (c.blk scope) → (∀ j x g, Cal X Φ j x g → Cal X' Φ j x g) → ∀ fr, Pin P' fr → PE X' elt (tE Φ fr X'.K Γ t eelt)) :
    PE X (.ListComp elt [⟨tgt, iter, ifs, 0⟩] scope pos) (tE Φ fr X.K Γ w (.comp eelt tg it cd (own.map (·.2)))) := by
  unfold cmpC at h
  simp only [Bool.and_eq_true] at h
  obtain ⟨⟨⟨⟨⟨h1, h2⟩, h3⟩, h4⟩, h5⟩, h6⟩ := h
  have hk := blk_kind h5
  refine e_comp m gd.calm (by rw [gd.N]; exact gd.nd) hpin (inAll_of h1) (inAll_of h2) (fun i hi => of_decide_eq_true (List.all_eq_true.mp h3 i hi)) (inAll_of h4) hi (by rw [gd.N, gd.sc]; exact blkOk_by h5) h6 ?_ ?_ ?_
  · exact fun s H C cl fp fr hp => hg _ (gd.blk hk) (fun j x g h => h.blk) fr hp
  · exact fun s H C cl fp => ht _ (gd.blk hk) (fun j x g h => h.blk)
  · exact fun s H C cl fp fr hp => he _ (gd.blk hk) (fun j x g h => h.blk) fr hp
/-! statements -/
theorem k_set (gd : Gd X c) (hp : Pin P fr) (i : Nat) (t : Ty) {x : Str} {e : Expr} {ee : E} {px : Pos} (he : PE X e (tE Φ fr X.K Γ t ee)) (h : (sC c Γ P i x t && noComp e) = true) : PS X (.Assign [.Name x px] e pos) (tS Φ fr Γ ret wx X.K (.set i ee)) := by
  obtain ⟨h, h7⟩ := Bool.and_eq_true_iff.mp h
  obtain ⟨h1, h2, h3, h4, h5, h6⟩ := sC_of gd hp h
  exact s_set h1 h2 h3 h4 h5 h6 (swaps_no h7) he
theorem swaps_cell {elt : Expr} {gs : List Comprehension} {scope : Scope} {cp py : Pos} {y : Str} {l : Nat} {env : Env} (h : env.scope.names.lookup y = some .cell) : swapsWith (.ListComp elt gs scope cp) (some (.Name y py)) l env = pure false := by
  have hk : env.kindOf y = some .cell := h
  unfold swapsWith
  simp only [hk]
  have e : ((some NameKind.cell : Option NameKind) == some .local) = false := by decide
  simp only [e, Bool.and_false, Bool.false_and]
theorem k_setK (gd : Gd X c) (hp : Pin P fr) (i : Nat) (t : Ty) {x : Str} {elt : Expr} {gs : List Comprehension} {scope : Scope} {cp : Pos} {ee : E} {px : Pos} (he : PE X (.ListComp elt gs scope cp) (tE Φ fr X.K Γ t ee)) (h : (sC c Γ P i x t && decide (c.sc.names.lookup x = some .cell)) = true) : PS X (.Assign [.Name x px] (.ListComp elt gs scope cp) pos) (tS Φ fr Γ ret wx X.K (.set i ee)) := by
  obtain ⟨h, h7⟩ := Bool.and_eq_true_iff.mp h
  obtain ⟨h1, h2, h3, h4, h5, h6⟩ := sC_of gd hp h
  exact s_set h1 h2 h3 h4 h5 h6 (swaps_cell (by rw [gd.sc]; exact of_decide_eq_true h7)) he
theorem k_setC (gd : Gd X c) (hpin : Pin P fr) (i : Nat) (w : Ty) (P' : List Nat) (own : List (Str × Nat)) {x : Str} {px cp : Pos} {t : Ty} {elt tgt iter : Expr} {ifs : List Expr} {scope : Scope} {eelt : E} {tg : Tg} {it : Iv} {cd : Ot} (m : Made t w)
    (h : (cmpC c P P' it tg own scope iter && sC c Γ P i x w && decide (c.sc.names.lookup x = some .local) && (px.line == cp.line) && !(scope.names.any fun (n, k) => n == x && (k == .local || k == .cell))) = true) (hi : PI X tgt iter (tIt Φ fr Γ X.K it))
    (hg : ∀ (X' : Cx), Gd X' (c.blk scope) → (∀ j x g, Cal X Φ j x g → Cal X' Φ j x g) → ∀ fr, Pin P' fr → PG X' tgt (tG fr Γ X'.K tg))
    (ht : ∀ (X' : Cx), Gd X' (c.blk scope) → (∀ j x g, Cal X Φ j x g → Cal X' Φ j x g) → PTs X' ifs (xC Φ Γ P' X'.K cd))
    (he : ∀ (X' : Cx), Gd X' (c.blk scope) → (∀ j x g, Cal X Φ j x g → Cal X' Φ j x g) → ∀ fr, Pin P' fr → PE X' elt (tE Φ fr X'.K Γ t eelt)) :
    PS X (.Assign [.Name x px] (.ListComp elt [⟨tgt, iter, ifs, 0⟩] scope cp) pos) (tS Φ fr Γ ret wx X.K (.set i (.comp eelt tg it cd (own.map (·.2))))) := by
  simp only [Bool.and_eq_true, Bool.not_eq_true', decide_eq_true_eq] at h
  obtain ⟨⟨⟨⟨h, g1⟩, g2⟩, g3⟩, g4⟩ := h
  unfold cmpC at h
  simp only [Bool.and_eq_true] at h
  obtain ⟨⟨⟨⟨⟨h1, h2⟩, h3⟩, h4⟩, h5⟩, h6⟩ := h
  have hk := blk_kind h5
  have g2' : X.env.scope.names.lookup x = some .local := by rw [gd.sc]; exact g2
  unfold sC at g1
  simp only [Bool.and_eq_true, decide_eq_true_eq] at g1
  refine s_setC m gd.calm (by rw [gd.N]; exact gd.nd) (by rw [gd.N]; exact g1.1.1.1) g2' g1.1.2 g1.2 (sw_true (by rw [gd.sc]; exact gd.kd) g2' g3 g4) hpin (inAll_of h1) (inAll_of h2) (fun i hi => of_decide_eq_true (List.all_eq_true.mp h3 i hi)) (inAll_of h4) hi (by rw [gd.N, gd.sc]; exact blkOk_by h5) h6 ?_ ?_ ?_
  · exact fun s H C cl fp fr hp => hg _ (gd.blk hk) (fun j x g h => h.blk) fr hp
  · exact fun s H C cl fp => ht _ (gd.blk hk) (fun j x g h => h.blk)
  · exact fun s H C cl fp fr hp => he _ (gd.blk hk) (fun j x g h => h.blk) fr hp
theorem k_unp {es : List Expr} {k : Nat} {p : Pos} {e : Expr} {tg : Tg} {ee : E} (hg : PG X (.Tuple es k p) (tG fr Γ X.K tg)) (he : PE X e (tE Φ fr X.K Γ .fro ee)) (h : (noComp e && noTup e) = true) : PS X (.Assign [.Tuple es k p] e pos) (tS Φ fr Γ ret wx X.K (.unp tg ee)) := by
  obtain ⟨h1, h2⟩ := Bool.and_eq_true_iff.mp h
  exact s_unp h1 h2 hg he
end
end Vw
namespace Vw
open PySem PySem.Spec PyProof.Rows L2 GxR
section
variable {K : PySem.W.Frag} {G H H2 : Hp} {F1 F2 : List Addr} {Γ : List Ty} {ρ : Rho} {σ : Sg} {ts us : List Tm} {fr : Fr} {P : Addr}
/-- a def's table has grown -/
theorem SRd.tabbed (x : SRd fr K G F1 F2 Γ ρ σ ts H) (hP : ∃ p ∈ tabsK K, p.2 = P) (k : Tabbed P H H2) : SRd fr K G F1 F2 Γ ρ σ ts H2 := by
  obtain ⟨p, hp, rfl⟩ := hP
  obtain ⟨⟨ps, e0, _⟩, g0⟩ := x.ok.tab p hp
  obtain ⟨⟨qs, e2, _⟩, kk⟩ := k
  have st : ∀ a ∈ F1 ++ F2, H2 a = H a := fun a ha => kk a fun z => by
    obtain ⟨vs, e, hm⟩ := x.there a ha
    rw [z, e0] at e
    cases e
    cases hm
  refine ⟨fun a o e => ?_, x.sl.stay (Same.refl G) fun a ha => st a (List.mem_append_left _ ha), x.tm.stay (Same.refl G) fun a ha => st a (List.mem_append_right _ ha), x.nd, x.out, fun a o e hF => ?_, fun a e => ?_, x.ok.sG, x.ok.nG, x.ok.pin, x.ok.tab.tabbed ⟨⟨qs, e2, by assumption⟩, kk⟩⟩
  · have : a ≠ p.2 := fun z => by rw [z, g0] at e; cases e
    rw [kk a this]
    exact x.sub _ _ e
  · have h := x.ok.keep a o e hF
    by_cases z : a = p.2
    · rw [z] at h ⊢
      rcases h with h | ⟨ps', qs', e', h⟩
      · rw [e0] at h
        cases h
        exact .inr ⟨_, _, rfl, e2⟩
      · exact .inr ⟨_, _, e', e2⟩
    · rw [kk a z]
      exact h
  · by_cases z : a = p.2
    · rw [z, e2] at e; cases e
    · rw [kk a z] at e
      exact x.ok.mono a e
end
section
variable {X : Cx} {c : Ct} {Φ : Cf} {fr : Fr} {Γ : List Ty} {w : Ty} {ret : Ty} {wx : Xw} {pos : Pos} {P P' : List Nat}
theorem inL_of {k : Int} (h : inL k = true) : InLong k := by
  unfold inL at h
  simp only [Bool.and_eq_true, decide_eq_true_eq] at h
  exact h
theorem m_geAll {K : PySem.W.Frag} {T : Addr} {elt : E} {tg : Tg} {it : Iv} {cd : Ot} {ws : List Nat} {σ : Sg} {H : Hp} {Q : VK} (hT : ∃ p ∈ tabsK K, p.2 = T) (hpin : Pin P fr) (h1 : ∀ i ∈ P, i ∈ P') (h2 : ∀ i ∈ itB it, i ∈ P') (hd : ∀ i ∈ P', i ∉ ws) (hsl : ∀ i ∈ tgSl tg, i ∈ ws)
    (h : tE Φ fr K Γ w (.ge .all elt tg it cd ws) σ H Q) : Vg.tGe T (tIt Φ fr Γ K it) (xG Γ P' K tg) (xC Φ Γ P' K cd) (xE Φ Γ P' K .fro elt) ws () Vg.YdAll (fun Q _ H => Q (.bl true) H) σ H Q := by
  obtain ⟨ρ, ts, r, sr, he, q⟩ := h
  obtain ⟨ra, e1, he⟩ := bind_inv he
  obtain ⟨rc, e2, he⟩ := bind_inv he
  obtain ⟨ρF, e3, rfl⟩ := map_inv he
  clear he
  refine ⟨ρ, ts, ra, sr, e1, fun J H1 us fr' s1 wk => ?_⟩
  have pin' : Pin P' fr' := wk.pin hpin (evI_b e1) h1 h2
  have dis : ∀ p ∈ fr'.pins, p.1 ∉ ws := fun p hp => hd _ (pin' p hp)
  refine ⟨?_, fun H2 tb => ?_⟩
  · obtain ⟨p, hp, rfl⟩ := hT
    obtain ⟨G, F1, F2, y⟩ := s1
    exact (y.ok.tab p hp).1
  -- a value comes out
  have out : ∀ (d : D) (v : V) (ρE : Rho) (H : Hp), scalar d = true → (∀ G, Rp K G v d) → rc = (d, ρE) → (∃ ρ0, ρE = wipeD ρ0 ws) → SR fr' K Γ ρE (wipe σ ws) (ts ++ us) H → Q v H := fun d v ρE H sc rp er ⟨ρ0, ew⟩ s => by
    subst er ew
    obtain ⟨G, F1, F2, z⟩ := s
    have z2 : SRd fr' K G F1 F2 Γ (wipeD ρ0 ws) σ (ts ++ us) H :=
      z.sig (wipe_length _ _).symm (fun i d e => by
        by_cases hi : i ∈ ws
        · exact absurd e (wipeD_none hi d)
        · rw [wipe_at, if_neg hi]) fun p hp => by rw [wipe_at, if_neg (dis p hp)]
    have z3 := (z2.pushS (w := w) sc (rp G))
    have pp : (ts ++ us ++ [(⟨w, d, v⟩ : Tm)]).Perm (ts ++ [(⟨w, d, v⟩ : Tm)] ++ us) := by
      rw [List.append_assoc, List.append_assoc]
      exact List.perm_append_comm.append_left ts
    obtain ⟨F5, z4⟩ := z3.perm pp
    exact q _ _ (wk.rest _ _ _ _ _ ⟨_, _, _, z4⟩ e3)
  refine ⟨fun i m k H => ∃ ρ, m = ra.1.length - i ∧ i ≤ ra.1.length ∧ (∃ ρ0, ρ = wipeD ρ0 ws) ∧ SR fr' K Γ ρ (wipe σ ws) (ts ++ us) H ∧ geL .all _ (ra.1.drop i) ρ 0 = some rc, ⟨_, wipeD ra.2.1 ws, rfl, Nat.zero_le _, ⟨_, rfl⟩, ?_, e2⟩, ?_⟩
  · obtain ⟨G, F1, F2, y⟩ := s1
    obtain ⟨F3, y2⟩ := (y.tabbed hT tb).wiped ws dis
    exact ⟨_, _, _, y2⟩
  · rintro i m k H ⟨ρ1, rfl, hi, ⟨ρ0, rfl⟩, s, ec⟩
    by_cases hlt : i < ra.1.length
    · rw [List.drop_eq_getElem_cons hlt] at ec
      obtain ⟨rs, c1, c2⟩ := bind_inv ec
      clear ec
      have s' : SR fr' K Γ (wipeD ρ0 ws) (wipe σ ws) (ts ++ us ++ []) H := by rw [List.append_nil]; exact s
      obtain ⟨g1, g2⟩ := wk.go i _ _ [] H hlt s'
      refine .inr ⟨g1, fun k' H' => ∃ ρ, (∃ ρ0, ρ = wipeD ρ0 ws) ∧ SR fr' K Γ ρ (wipe σ ws) (ts ++ us) H' ∧ geL .all _ (ra.1.drop (i + 1)) ρ 0 = some rc, fun k' H' ⟨ρ', a1, a2, a3⟩ => ⟨ra.1.length - (i + 1), by omega, ρ', rfl, hlt, a1, a2, a3⟩, fun x H' yl => ?_⟩
      have s2 := g2 x H' yl
      rw [List.append_nil] at s2
      obtain ⟨ρ2, d1, d2⟩ := bind_inv c1
      obtain ⟨b, d3, d4⟩ := bind_inv d2
      clear c1 d2
      refine ⟨fr', pin', _, _, _, ρ2, s2, d1, fun σ2 H3 bt s3 => ?_⟩
      have wp : wipe σ2 ws = wipe σ ws := by
        rw [wipe_but bt hsl, wipe_wipe]
      refine ⟨wp, fr', pin', ρ2, _, b, s3, d3, fun H4 s4 => ?_⟩
      by_cases hb : b.1 = true
      · rw [if_pos hb] at d4 ⊢
        obtain ⟨qe, d5, rfl⟩ := map_inv d4
        refine ⟨fr', pin', b.2, _, qe, s4, d5, fun yv H5 s5 => ?_⟩
        obtain ⟨d, ρ5⟩ := qe
        obtain ⟨G, F1, F2, z⟩ := s5
        have rp := z.last1 rfl
        obtain ⟨F6, z6⟩ := z.drop
        obtain ⟨F9, z7⟩ := z6.wiped ws dis
        rw [wp] at z7
        have s7 : SR fr' K Γ (wipeD ρ5 ws) (wipe σ ws) (ts ++ us) H5 := ⟨_, _, _, z7⟩
        cases d with
        | bool bb =>
          cases rp
          refine ⟨bb, rfl, ?_⟩
          cases bb with
          | true =>
            rw [if_pos rfl]
            exact ⟨_, ⟨_, rfl⟩, s7, c2⟩
          | false =>
            rw [if_neg (by decide)]
            have c2 : some (PyData.bool false, wipeD ρ5 ws) = some rc := c2
            exact out (.bool false) _ _ _ rfl (fun _ => .bl _) (Option.some.inj c2).symm ⟨_, rfl⟩ s7
        | _ => cases c2
      · rw [if_neg hb] at d4 ⊢
        cases d4
        obtain ⟨G6, F7, F8, z6⟩ := s4
        obtain ⟨F9, z7⟩ := z6.wiped ws dis
        rw [wp] at z7
        exact ⟨_, ⟨_, rfl⟩, ⟨_, _, _, z7⟩, c2⟩
    · have ei : i = ra.1.length := by omega
      subst ei
      rw [List.drop_length] at ec
      have ec := Option.some.inj ec
      have s' : SR fr' K Γ (wipeD ρ0 ws) (wipe σ ws) (ts ++ us ++ []) H := by rw [List.append_nil]; exact s
      exact .inl ⟨wk.stop _ _ [] H s', out (.bool true) (.bl true) _ _ rfl (fun _ => .bl _) ec.symm ⟨_, rfl⟩ s⟩
theorem m_geAny {K : PySem.W.Frag} {T : Addr} {elt : E} {tg : Tg} {it : Iv} {cd : Ot} {ws : List Nat} {σ : Sg} {H : Hp} {Q : VK} (hT : ∃ p ∈ tabsK K, p.2 = T) (hpin : Pin P fr) (h1 : ∀ i ∈ P, i ∈ P') (h2 : ∀ i ∈ itB it, i ∈ P') (hd : ∀ i ∈ P', i ∉ ws) (hsl : ∀ i ∈ tgSl tg, i ∈ ws)
    (h : tE Φ fr K Γ w (.ge .any elt tg it cd ws) σ H Q) : Vg.tGe T (tIt Φ fr Γ K it) (xG Γ P' K tg) (xC Φ Γ P' K cd) (xE Φ Γ P' K .fro elt) ws () Vg.YdAny (fun Q _ H => Q (.bl false) H) σ H Q := by
  obtain ⟨ρ, ts, r, sr, he, q⟩ := h
  obtain ⟨ra, e1, he⟩ := bind_inv he
  obtain ⟨rc, e2, he⟩ := bind_inv he
  obtain ⟨ρF, e3, rfl⟩ := map_inv he
  clear he
  refine ⟨ρ, ts, ra, sr, e1, fun J H1 us fr' s1 wk => ?_⟩
  have pin' : Pin P' fr' := wk.pin hpin (evI_b e1) h1 h2
  have dis : ∀ p ∈ fr'.pins, p.1 ∉ ws := fun p hp => hd _ (pin' p hp)
  refine ⟨?_, fun H2 tb => ?_⟩
  · obtain ⟨p, hp, rfl⟩ := hT
    obtain ⟨G, F1, F2, y⟩ := s1
    exact (y.ok.tab p hp).1
  -- a value comes out
  have out : ∀ (d : D) (v : V) (ρE : Rho) (H : Hp), scalar d = true → (∀ G, Rp K G v d) → rc = (d, ρE) → (∃ ρ0, ρE = wipeD ρ0 ws) → SR fr' K Γ ρE (wipe σ ws) (ts ++ us) H → Q v H := fun d v ρE H sc rp er ⟨ρ0, ew⟩ s => by
    subst er ew
    obtain ⟨G, F1, F2, z⟩ := s
    have z2 : SRd fr' K G F1 F2 Γ (wipeD ρ0 ws) σ (ts ++ us) H :=
      z.sig (wipe_length _ _).symm (fun i d e => by
        by_cases hi : i ∈ ws
        · exact absurd e (wipeD_none hi d)
        · rw [wipe_at, if_neg hi]) fun p hp => by rw [wipe_at, if_neg (dis p hp)]
    have z3 := (z2.pushS (w := w) sc (rp G))
    have pp : (ts ++ us ++ [(⟨w, d, v⟩ : Tm)]).Perm (ts ++ [(⟨w, d, v⟩ : Tm)] ++ us) := by
      rw [List.append_assoc, List.append_assoc]
      exact List.perm_append_comm.append_left ts
    obtain ⟨F5, z4⟩ := z3.perm pp
    exact q _ _ (wk.rest _ _ _ _ _ ⟨_, _, _, z4⟩ e3)
  refine ⟨fun i m k H => ∃ ρ, m = ra.1.length - i ∧ i ≤ ra.1.length ∧ (∃ ρ0, ρ = wipeD ρ0 ws) ∧ SR fr' K Γ ρ (wipe σ ws) (ts ++ us) H ∧ geL .any _ (ra.1.drop i) ρ 0 = some rc, ⟨_, wipeD ra.2.1 ws, rfl, Nat.zero_le _, ⟨_, rfl⟩, ?_, e2⟩, ?_⟩
  · obtain ⟨G, F1, F2, y⟩ := s1
    obtain ⟨F3, y2⟩ := (y.tabbed hT tb).wiped ws dis
    exact ⟨_, _, _, y2⟩
  · rintro i m k H ⟨ρ1, rfl, hi, ⟨ρ0, rfl⟩, s, ec⟩
    by_cases hlt : i < ra.1.length
    · rw [List.drop_eq_getElem_cons hlt] at ec
      obtain ⟨rs, c1, c2⟩ := bind_inv ec
      clear ec
      have s' : SR fr' K Γ (wipeD ρ0 ws) (wipe σ ws) (ts ++ us ++ []) H := by rw [List.append_nil]; exact s
      obtain ⟨g1, g2⟩ := wk.go i _ _ [] H hlt s'
      refine .inr ⟨g1, fun k' H' => ∃ ρ, (∃ ρ0, ρ = wipeD ρ0 ws) ∧ SR fr' K Γ ρ (wipe σ ws) (ts ++ us) H' ∧ geL .any _ (ra.1.drop (i + 1)) ρ 0 = some rc, fun k' H' ⟨ρ', a1, a2, a3⟩ => ⟨ra.1.length - (i + 1), by omega, ρ', rfl, hlt, a1, a2, a3⟩, fun x H' yl => ?_⟩
      have s2 := g2 x H' yl
      rw [List.append_nil] at s2
      obtain ⟨ρ2, d1, d2⟩ := bind_inv c1
      obtain ⟨b, d3, d4⟩ := bind_inv d2
      clear c1 d2
      refine ⟨fr', pin', _, _, _, ρ2, s2, d1, fun σ2 H3 bt s3 => ?_⟩
      have wp : wipe σ2 ws = wipe σ ws := by
        rw [wipe_but bt hsl, wipe_wipe]
      refine ⟨wp, fr', pin', ρ2, _, b, s3, d3, fun H4 s4 => ?_⟩
      by_cases hb : b.1 = true
      · rw [if_pos hb] at d4 ⊢
        obtain ⟨qe, d5, rfl⟩ := map_inv d4
        refine ⟨fr', pin', b.2, _, qe, s4, d5, fun yv H5 s5 => ?_⟩
        obtain ⟨d, ρ5⟩ := qe
        obtain ⟨G, F1, F2, z⟩ := s5
        have rp := z.last1 rfl
        obtain ⟨F6, z6⟩ := z.drop
        obtain ⟨F9, z7⟩ := z6.wiped ws dis
        rw [wp] at z7
        have s7 : SR fr' K Γ (wipeD ρ5 ws) (wipe σ ws) (ts ++ us) H5 := ⟨_, _, _, z7⟩
        cases d with
        | bool bb =>
          cases rp
          refine ⟨bb, rfl, ?_⟩
          cases bb with
          | false =>
            rw [if_neg (by decide)]
            exact ⟨_, ⟨_, rfl⟩, s7, c2⟩
          | true =>
            rw [if_pos rfl]
            have c2 : some (PyData.bool true, wipeD ρ5 ws) = some rc := c2
            exact out (.bool true) _ _ _ rfl (fun _ => .bl _) (Option.some.inj c2).symm ⟨_, rfl⟩ s7
        | _ => cases c2
      · rw [if_neg hb] at d4 ⊢
        cases d4
        obtain ⟨G6, F7, F8, z6⟩ := s4
        obtain ⟨F9, z7⟩ := z6.wiped ws dis
        rw [wp] at z7
        exact ⟨_, ⟨_, rfl⟩, ⟨_, _, _, z7⟩, c2⟩
    · have ei : i = ra.1.length := by omega
      subst ei
      rw [List.drop_length] at ec
      have ec := Option.some.inj ec
      have s' : SR fr' K Γ (wipeD ρ0 ws) (wipe σ ws) (ts ++ us ++ []) H := by rw [List.append_nil]; exact s
      exact .inl ⟨wk.stop _ _ [] H s', out (.bool false) (.bl false) _ _ rfl (fun _ => .bl _) ec.symm ⟨_, rfl⟩ s⟩
theorem m_geSum {K : PySem.W.Frag} {T : Addr} {elt : E} {tg : Tg} {it : Iv} {cd : Ot} {ws : List Nat} {σ : Sg} {H : Hp} {Q : VK} (hT : ∃ p ∈ tabsK K, p.2 = T) (hpin : Pin P fr) (h1 : ∀ i ∈ P, i ∈ P') (h2 : ∀ i ∈ itB it, i ∈ P') (hd : ∀ i ∈ P', i ∉ ws) (hsl : ∀ i ∈ tgSl tg, i ∈ ws)
    (h : tE Φ fr K Γ w (.ge .sum elt tg it cd ws) σ H Q) : Vg.tGe T (tIt Φ fr Γ K it) (xG Γ P' K tg) (xC Φ Γ P' K cd) (xE Φ Γ P' K .fro elt) ws (0 : Int) (fun _ => Vg.YdSum) (fun Q k H => Q (.int k) H) σ H Q := by
  obtain ⟨ρ, ts, r, sr, he, q⟩ := h
  obtain ⟨ra, e1, he⟩ := bind_inv he
  obtain ⟨rc, e2, he⟩ := bind_inv he
  obtain ⟨ρF, e3, rfl⟩ := map_inv he
  clear he
  refine ⟨ρ, ts, ra, sr, e1, fun J H1 us fr' s1 wk => ?_⟩
  have pin' : Pin P' fr' := wk.pin hpin (evI_b e1) h1 h2
  have dis : ∀ p ∈ fr'.pins, p.1 ∉ ws := fun p hp => hd _ (pin' p hp)
  refine ⟨?_, fun H2 tb => ?_⟩
  · obtain ⟨p, hp, rfl⟩ := hT
    obtain ⟨G, F1, F2, y⟩ := s1
    exact (y.ok.tab p hp).1
  -- a value comes out
  have out : ∀ (d : D) (v : V) (ρE : Rho) (H : Hp), scalar d = true → (∀ G, Rp K G v d) → rc = (d, ρE) → (∃ ρ0, ρE = wipeD ρ0 ws) → SR fr' K Γ ρE (wipe σ ws) (ts ++ us) H → Q v H := fun d v ρE H sc rp er ⟨ρ0, ew⟩ s => by
    subst er ew
    obtain ⟨G, F1, F2, z⟩ := s
    have z2 : SRd fr' K G F1 F2 Γ (wipeD ρ0 ws) σ (ts ++ us) H :=
      z.sig (wipe_length _ _).symm (fun i d e => by
        by_cases hi : i ∈ ws
        · exact absurd e (wipeD_none hi d)
        · rw [wipe_at, if_neg hi]) fun p hp => by rw [wipe_at, if_neg (dis p hp)]
    have z3 := (z2.pushS (w := w) sc (rp G))
    have pp : (ts ++ us ++ [(⟨w, d, v⟩ : Tm)]).Perm (ts ++ [(⟨w, d, v⟩ : Tm)] ++ us) := by
      rw [List.append_assoc, List.append_assoc]
      exact List.perm_append_comm.append_left ts
    obtain ⟨F5, z4⟩ := z3.perm pp
    exact q _ _ (wk.rest _ _ _ _ _ ⟨_, _, _, z4⟩ e3)
  refine ⟨fun i m k H => ∃ ρ, m = ra.1.length - i ∧ i ≤ ra.1.length ∧ (∃ ρ0, ρ = wipeD ρ0 ws) ∧ SR fr' K Γ ρ (wipe σ ws) (ts ++ us) H ∧ geL .sum _ (ra.1.drop i) ρ k = some rc, ⟨_, wipeD ra.2.1 ws, rfl, Nat.zero_le _, ⟨_, rfl⟩, ?_, e2⟩, ?_⟩
  · obtain ⟨G, F1, F2, y⟩ := s1
    obtain ⟨F3, y2⟩ := (y.tabbed hT tb).wiped ws dis
    exact ⟨_, _, _, y2⟩
  · rintro i m k H ⟨ρ1, rfl, hi, ⟨ρ0, rfl⟩, s, ec⟩
    by_cases hlt : i < ra.1.length
    · rw [List.drop_eq_getElem_cons hlt] at ec
      obtain ⟨rs, c1, c2⟩ := bind_inv ec
      clear ec
      have s' : SR fr' K Γ (wipeD ρ0 ws) (wipe σ ws) (ts ++ us ++ []) H := by rw [List.append_nil]; exact s
      obtain ⟨g1, g2⟩ := wk.go i _ _ [] H hlt s'
      refine .inr ⟨g1, fun k' H' => ∃ ρ, (∃ ρ0, ρ = wipeD ρ0 ws) ∧ SR fr' K Γ ρ (wipe σ ws) (ts ++ us) H' ∧ geL .sum _ (ra.1.drop (i + 1)) ρ k' = some rc, fun k' H' ⟨ρ', a1, a2, a3⟩ => ⟨ra.1.length - (i + 1), by omega, ρ', rfl, hlt, a1, a2, a3⟩, fun x H' yl => ?_⟩
      have s2 := g2 x H' yl
      rw [List.append_nil] at s2
      obtain ⟨ρ2, d1, d2⟩ := bind_inv c1
      obtain ⟨b, d3, d4⟩ := bind_inv d2
      clear c1 d2
      refine ⟨fr', pin', _, _, _, ρ2, s2, d1, fun σ2 H3 bt s3 => ?_⟩
      have wp : wipe σ2 ws = wipe σ ws := by
        rw [wipe_but bt hsl, wipe_wipe]
      refine ⟨wp, fr', pin', ρ2, _, b, s3, d3, fun H4 s4 => ?_⟩
      by_cases hb : b.1 = true
      · rw [if_pos hb] at d4 ⊢
        obtain ⟨qe, d5, rfl⟩ := map_inv d4
        refine ⟨fr', pin', b.2, _, qe, s4, d5, fun yv H5 s5 => ?_⟩
        obtain ⟨d, ρ5⟩ := qe
        obtain ⟨G, F1, F2, z⟩ := s5
        have rp := z.last1 rfl
        obtain ⟨F6, z6⟩ := z.drop
        obtain ⟨F9, z7⟩ := z6.wiped ws dis
        rw [wp] at z7
        have s7 : SR fr' K Γ (wipeD ρ5 ws) (wipe σ ws) (ts ++ us) H5 := ⟨_, _, _, z7⟩
        cases d with
        | int j =>
          cases rp
          have c2 : (if inL j = true ∧ inL (k + j) = true then geL .sum _ (ra.1.drop (i + 1)) (wipeD ρ5 ws) (k + j) else none) = some rc := c2
          split at c2
          · rename_i hl
            exact ⟨j, rfl, inL_of hl.1, inL_of hl.2, _, ⟨_, rfl⟩, s7, c2⟩
          · cases c2
        | _ => cases c2
      · rw [if_neg hb] at d4 ⊢
        cases d4
        obtain ⟨G6, F7, F8, z6⟩ := s4
        obtain ⟨F9, z7⟩ := z6.wiped ws dis
        rw [wp] at z7
        exact ⟨_, ⟨_, rfl⟩, ⟨_, _, _, z7⟩, c2⟩
    · have ei : i = ra.1.length := by omega
      subst ei
      rw [List.drop_length] at ec
      have ec := Option.some.inj ec
      have s' : SR fr' K Γ (wipeD ρ0 ws) (wipe σ ws) (ts ++ us ++ []) H := by rw [List.append_nil]; exact s
      exact .inl ⟨wk.stop _ _ [] H s', out (.int k) (.int k) _ _ rfl (fun _ => .int _) ec.symm ⟨_, rfl⟩ s⟩

def geN : Gk → Str
  | .all => "all"
  | .any => "any"
  | .sum => "sum"
def noSetL : Expr → Bool
  | .Set _ _ _ => false
  | .List _ _ => false
  | _ => true
theorem fold_of {e : Expr} {env : Env} (h : noSetL e = true) (x : Value) : genFold e env x = pure x := by
  cases e <;> first | rfl | cases h
def Ct.gen (c : Ct) (scope : Scope) : Ct := ⟨c.N, scope, fun _ => false, c.gl, false⟩
def geC (c : Ct) (P P' : List Nat) (it : Iv) (tg : Tg) (own : List (Str × Nat)) (scope : Scope) (iter : Expr) (k : Gk) : Bool :=
  (inAll P P' && inAll (itB it) P' && (P'.all fun i => decide (i ∉ own.map (·.2))) && inAll (tgSl tg) (own.map (·.2)) && blkC c.N c.sc scope own && noSetL iter) && (c.gt && (scope.names.all fun y => match y.2 with | .cell => false | _ => true) && !scope.isCoroutine && decide (scope.names.lookup (".0" : Str) = some NameKind.local) && blC c (geN k))
theorem Gd.gen (gd : Gd X c) {s : Shared} {H : Hp} {scope : Scope} {C : Addr} {cl : List (Str × Addr)} {code : Value} {fp : List Addr} (h : scope.kind = .function) (hr : Room 0 X.A) : Gd (Vg.gX X s H scope cl C code builtinsNs fp) (c.gen scope) where
  N := gd.N
  nd := gd.nd
  sc := rfl
  kd := h
  calm := rfl
  pas := PassesOwn.never
  cl := fun x hx => by cases hx
  un := by
    have := hr.un
    show X.A.units + 1 + 1 + 3 + 100 < cLine
    omega
  bl := gd.bl
  gl := gd.gl
  ge := fun e => by cases e
theorem Cal.gen {j : Nat} {x : Str} {g : Sig} (h : Cal X Φ (j + 1) x g) {s : Shared} {H : Hp} {scope : Scope} {C : Addr} {cl : List (Str × Addr)} {code : Value} {fp : List Addr} : Cal (Vg.gX X s H scope cl C code builtinsNs fp) Φ j x g := by
  obtain ⟨k, f, fd, ps, F, hr, hm, hk, hb⟩ := h.ex
  refine ⟨k, f, fd, ps, F, ?_, hm, hk, hb⟩
  have hr' : Room (k + 3 * j + 1 + 1 + 1) X.A := hr.mono (by omega)
  exact (hr'.in1.in1).deeper _
theorem k_ge (gd : Gd X c) (hpin : Pin P fr) (P' : List Nat) (own : List (Str × Nat)) (k : Gk) {elt tgt iter : Expr} {ifs : List Expr} {scope : Scope} {p gpos : Pos} {eelt : E} {tg : Tg} {it : Iv} {cd : Ot}
    (h : geC c P P' it tg own scope iter k = true) (hi : PI X tgt iter (tIt Φ fr Γ X.K it))
    (hg : ∀ (X' : Cx), Gd X' (c.gen scope) → (∀ j x g, Cal X Φ (j + 1) x g → Cal X' Φ j x g) → ∀ fr, Pin P' fr → PG X' tgt (tG fr Γ X'.K tg))
    (ht : ∀ (X' : Cx), Gd X' (c.gen scope) → (∀ j x g, Cal X Φ (j + 1) x g → Cal X' Φ j x g) → PTs X' ifs (xC Φ Γ P' X'.K cd))
    (he : ∀ (X' : Cx), Gd X' (c.gen scope) → (∀ j x g, Cal X Φ (j + 1) x g → Cal X' Φ j x g) → ∀ fr, Pin P' fr → PE X' elt (tE Φ fr X'.K Γ .fro eelt)) :
    PE X (.Call (.Name (geN k) p) [.GeneratorExp elt [⟨tgt, iter, ifs, 0⟩] scope gpos] [] pos) (tE Φ fr X.K Γ w (.ge k eelt tg it cd (own.map (·.2)))) := by
  unfold geC at h
  simp only [Bool.and_eq_true, Bool.not_eq_true', decide_eq_true_eq] at h
  obtain ⟨⟨⟨⟨⟨⟨h1, h2⟩, h3⟩, h4⟩, h5⟩, h6⟩, ⟨⟨⟨⟨g1, g2⟩, g3⟩, g4⟩, g5⟩⟩ := h
  obtain ⟨rm, ⟨cc, T⟩, hp, hcode, tabB⟩ := gd.ge g1
  have hk := blk_kind h5
  have hT : ∃ p ∈ tabsK X.K, p.2 = T := ⟨_, hp, rfl⟩
  have hd : ∀ i ∈ P', i ∉ own.map (·.2) := fun i hi => of_decide_eq_true (List.all_eq_true.mp h3 i hi)
  have G : Vg.GeOk X 3 cc T scope own := ⟨rm, gd.calm, by rw [gd.N]; exact gd.nd, by rw [gd.N, gd.sc]; exact blkOk_by h5, (fun y hy e => by
    have := List.all_eq_true.mp g2 y hy
    rw [e] at this
    cases this), g3, g4, tabB, hcode⟩
  obtain ⟨b1, b2⟩ := blC_of gd g5
  have r0 : Room 0 X.A := rm.mono (by omega)
  have hg' : ∀ s H cl C code fp, PG (Vg.gX X s H scope cl C code builtinsNs fp) tgt (xG Γ P' X.K tg) := fun s H cl C code fp => pg_x fun fr hp => hg _ (gd.gen hk r0) (fun _ _ _ h => h.gen) fr hp
  have ht' : ∀ s H cl C code fp, PTs (Vg.gX X s H scope cl C code builtinsNs fp) ifs (xC Φ Γ P' X.K cd) := fun s H cl C code fp => ht _ (gd.gen hk r0) (fun _ _ _ h => h.gen)
  have he' : ∀ s H cl C code fp, PE (Vg.gX X s H scope cl C code builtinsNs fp) elt (xE Φ Γ P' X.K .fro eelt) := fun s H cl C code fp => pe_x fun fr hp => he _ (gd.gen hk r0) (fun _ _ _ h => h.gen) fr hp
  cases k with
  | all => exact PE_mono (Vg.pe_geAll G b1 b2 hi (fold_of h6) hg' ht' he') fun σ H Q h => m_geAll hT hpin (inAll_of h1) (inAll_of h2) hd (inAll_of h4) h
  | any => exact PE_mono (Vg.pe_geAny G b1 b2 hi (fold_of h6) hg' ht' he') fun σ H Q h => m_geAny hT hpin (inAll_of h1) (inAll_of h2) hd (inAll_of h4) h
  | sum => exact PE_mono (Vg.pe_geSum G b1 b2 hi (fold_of h6) hg' ht' he') fun σ H Q h => m_geSum hT hpin (inAll_of h1) (inAll_of h2) hd (inAll_of h4) h
end
end Vw
namespace Vw
open PySem PySem.Spec PyProof.Rows L2
/-! ### a def's body keeps its promise -/
def pinsOf : Nat → List Ty → List V → List (Nat × V)
  | n, .lst _ :: ps, v :: vs => (n, v) :: pinsOf (n + 1) ps vs
  | n, .fro :: ps, _ :: vs => pinsOf (n + 1) ps vs
  | _, _, _ => []
def pinP : Nat → List Ty → List Nat
  | _, [] => []
  | n, .lst _ :: ps => n :: pinP (n + 1) ps
  | n, .fro :: ps => pinP (n + 1) ps
  | _, .dct :: _ => []
def PinL : List Ty → List V → Sg → Prop
  | .lst _ :: ps, v :: vs, s :: σ => s = some v ∧ PinL ps vs σ
  | .fro :: ps, _ :: vs, _ :: σ => PinL ps vs σ
  | .dct :: _, _ :: _, _ :: _ => True
  | [], [], _ => True
  | _, _, _ => False
theorem pin_in : ∀ {ps : List Ty} {vs : List V} {n : Nat}, ∀ p ∈ pinsOf n ps vs, p.1 ∈ pinP n ps
  | [], _, _, p, h => by simp [pinsOf] at h
  | .lst _ :: ps, [], _, p, h => by simp [pinsOf] at h
  | .fro :: ps, [], _, p, h => by simp [pinsOf] at h
  | .lst _ :: ps, v :: vs, n, p, h => by
    rcases List.mem_cons.mp (show p ∈ (n, v) :: pinsOf (n + 1) ps vs from h) with rfl | h
    · exact List.mem_cons_self
    · exact List.mem_cons_of_mem _ (pin_in p h)
  | .fro :: ps, v :: vs, n, p, h => pin_in (ps := ps) p h
  | .dct :: ps, _, _, p, h => by simp [pinsOf] at h
theorem pinL_of {σ0 : Sg} : ∀ {ps : List Ty} {vs : List V} {n : Nat}, vs.length = ps.length → n + ps.length ≤ σ0.length → (∀ p ∈ pinsOf n ps vs, σ0[p.1]? = some (some p.2)) → PinL ps vs (σ0.drop n)
  | [], [], n, _, _, _ => by
    cases σ0.drop n <;> exact trivial
  | [], _ :: _, _, h, _, _ => by simp at h
  | _ :: _, [], _, h, _, _ => by simp at h
  | .lst t :: ps, v :: vs, n, hl, hn, h => by
    have hlt : n < σ0.length := by simp at hn; omega
    rw [List.drop_eq_getElem_cons hlt]
    have e := h (n, v) List.mem_cons_self
    rw [List.getElem?_eq_getElem hlt] at e
    exact ⟨Option.some.inj e, pinL_of (by simpa using hl) (by simp at hn; omega) fun p hp => h p (List.mem_cons_of_mem _ hp)⟩
  | .fro :: ps, v :: vs, n, hl, hn, h => by
    have hlt : n < σ0.length := by simp at hn; omega
    rw [List.drop_eq_getElem_cons hlt]
    exact pinL_of (ps := ps) (by simpa using hl) (by simp at hn; omega) fun p hp => h p hp
  | .dct :: ps, v :: vs, n, hl, hn, h => by
    have hlt : n < σ0.length := by simp at hn; omega
    rw [List.drop_eq_getElem_cons hlt]
    exact trivial
theorem start_pins {m : Nat} : ∀ {ps : List Ty} {vs : List V} {n : Nat} {pre : Sg}, pre.length = n → ∀ p ∈ pinsOf n ps vs, (pre ++ (vs.map some ++ List.replicate m none))[p.1]? = some (some p.2)
  | [], _, _, _, _, p, h => by simp [pinsOf] at h
  | .lst _ :: ps, [], _, _, _, p, h => by simp [pinsOf] at h
  | .fro :: ps, [], _, _, _, p, h => by simp [pinsOf] at h
  | .lst _ :: ps, v :: vs, n, pre, hn, p, h => by
    rcases List.mem_cons.mp (show p ∈ (n, v) :: pinsOf (n + 1) ps vs from h) with rfl | h
    · show (pre ++ _)[n]? = _
      rw [List.getElem?_append_right (by omega), hn, Nat.sub_self]
      rfl
    · have g := start_pins (m := m) (ps := ps) (vs := vs) (n := n + 1) (pre := pre ++ [some v]) (by simp [hn]) p h
      rw [List.append_assoc] at g
      exact g
  | .fro :: ps, v :: vs, n, pre, hn, p, h => by
    have g := start_pins (m := m) (ps := ps) (vs := vs) (n := n + 1) (pre := pre ++ [some v]) (by simp [hn]) p h
    rw [List.append_assoc] at g
    exact g
  | .dct :: ps, _, _, _, _, p, h => by simp [pinsOf] at h
section
variable {K : PySem.W.Frag} {G G' H H' : Hp}
theorem SlF.blank : ∀ {Γ : List Ty}, SlF K G H Γ (List.replicate Γ.length none) (List.replicate Γ.length none) []
  | [] => rfl
  | t :: Γ => ⟨[], [], rfl, rfl, SlF.blank⟩
theorem SlF.start {Γr : List Ty} : ∀ {ts : List Tm} {F : List Addr}, TmF K G H ts F → SlF K G H (ts.map Tm.t ++ Γr) ((ts.map Tm.d).map some ++ List.replicate Γr.length none) ((ts.map Tm.v).map some ++ List.replicate Γr.length none) F
  | [], F, h => by
    have h : F = [] := h
    subst h
    exact SlF.blank
  | x :: ts, F, ⟨F1, F2, e, p, q⟩ => ⟨F1, F2, e, ⟨x.v, rfl, p⟩, SlF.start q⟩
theorem fout_tm (sG : Same G G') {Γr : List Ty} : ∀ {ps : List Ty} {ts : List Tm} {ρ : Rho} {σ : Sg} {F F1 : List Addr} {o : List D}, ts.map Tm.t = ps → TmF K G H ts F → SlF K G' H' (ps ++ Γr) ρ σ F1 → PinL ps (ts.map Tm.v) σ → fout ps (ts.map Tm.d) ρ = some o →
    ∃ ts' FA, ts'.map Tm.t = ps ∧ ts'.map Tm.v = ts.map Tm.v ∧ ts'.map Tm.d = o ∧ TmF K G' H' ts' FA ∧ FA.Sublist F1
  | [], [], ρ, σ, F, F1, o, _, _, _, _, ho => by
    have ho : some [] = some o := by
      cases ρ <;> exact ho
    cases ho
    exact ⟨[], [], rfl, rfl, rfl, rfl, List.nil_sublist _⟩
  | [], _ :: _, _, _, _, _, _, e, _, _, _, _ => by simp at e
  | _ :: _, [], _, _, _, _, _, e, _, _, _, _ => by simp at e
  | p :: ps, x :: ts, [], σ, F, F1, o, _, _, s, _, _ => by
    cases σ <;> exact s.elim
  | p :: ps, x :: ts, oo :: ρ, [], F, F1, o, _, _, s, _, _ => s.elim
  | p :: ps, x :: ts, oo :: ρ, sv :: σ, F, F1, o, e, ⟨Fa, Fb, ef, tx, tr⟩, ⟨Fc, Fd, ef2, sx, sr⟩, pl, ho => by
    have e1 : x.t = p := List.head_eq_of_cons_eq e
    have e2 : ts.map Tm.t = ps := List.tail_eq_of_cons_eq e
    cases p with
    | fro =>
      obtain ⟨o', h1, rfl⟩ := map_inv (show (fout ps (ts.map Tm.d) ρ).map (x.d :: ·) = some o by cases oo <;> exact ho)
      obtain ⟨ts', FA, a1, a2, a3, a4, a5⟩ := fout_tm sG e2 tr sr (show PinL ps (ts.map Tm.v) σ from pl) h1
      rw [e1] at tx
      exact ⟨⟨.fro, x.d, x.v⟩ :: ts', FA, by simp [a1], by simp [a2], by simp [a3], ⟨[], FA, rfl, ⟨rfl, Rp_same sG _ _ tx.2⟩, a4⟩, by rw [ef2]; exact a5.trans (List.sublist_append_right _ _)⟩
    | dct => cases oo <;> cases ho
    | lst t =>
      cases oo with
      | none => cases ho
      | some d =>
        obtain ⟨o', h1, rfl⟩ := map_inv (show (fout ps (ts.map Tm.d) ρ).map (d :: ·) = some o from ho)
        obtain ⟨pl1, pl2⟩ := (show sv = some x.v ∧ PinL ps (ts.map Tm.v) σ from pl)
        obtain ⟨ts', FA, a1, a2, a3, a4, a5⟩ := fout_tm sG e2 tr sr pl2 h1
        obtain ⟨v, s1, s2⟩ := sx
        rw [pl1] at s1
        cases s1
        exact ⟨⟨.lst t, d, x.v⟩ :: ts', Fc ++ FA, by simp [a1], by simp [a2], by simp [a3], ⟨Fc, FA, rfl, s2, a4⟩, by rw [ef2]; exact (List.Sublist.refl Fc).append a5⟩
end
structure Callee (P : Program) (w : World) (K : PySem.W.Frag) (mg : Str → Option Value) (base : Heap) (Φ : Cf) (k : Nat) (x : Str) (g : Sig) : Prop where
  ex : ∃ (k' : Nat) (f : Addr) (fd : FuncData) (ps : List Str), FnOk P w K mg base CX0 k' f fd ps (spI K g (Φ.fn x)) ∧ k' + 3 ≤ k ∧ mg x = some (.ref f) ∧ PySem.W.keepIn K (.ref f) = true ∧ Binds K fd ps []
theorem Callee.mono {P : Program} {w : World} {K : PySem.W.Frag} {mg : Str → Option Value} {base : Heap} {Φ : Cf} {k k2 : Nat} {x : Str} {g : Sig} (h : Callee P w K mg base Φ k x g) (l : k ≤ k2) : Callee P w K mg base Φ k2 x g := by
  obtain ⟨k', f, fd, ps, h1, h2, h3⟩ := h.ex
  exact ⟨k', f, fd, ps, h1, by omega, h3⟩
theorem res_end {fr : Fr} {K : PySem.W.Frag} {G H H' : Hp} {F : List Addr} {Γr : List Ty} {ps : List Ty} {ret : Ty} {ts us : List Tm} {ρ : Rho} {σ : Sg} {d : D} {v : V} {o : List D} (hfr : fr = ⟨H, G, F, pinsOf 0 ps (ts.map Tm.v)⟩) (e : ts.map Tm.t = ps) (tm : TmF K G H ts F)
    (s : SR fr K (ps ++ Γr) ρ σ (us ++ [⟨ret, d, v⟩]) H') (ho : fout ps (ts.map Tm.d) ρ = some o) : CallEnd K G H F ret ts o d v H' := by
  subst hfr
  obtain ⟨G', F1, F2, x⟩ := s
  obtain ⟨F3, F4, ef, t1, t2⟩ := x.tm.app
  have len := x.sl.lens.1
  have pl := pinL_of (σ0 := σ) (ps := ps) (vs := ts.map Tm.v) (n := 0) (by rw [← e]; simp) (by rw [← len]; simp) x.ok.pin
  obtain ⟨ts', FA, a1, a2, a3, a4, a5⟩ := fout_tm x.ok.sG e tm x.sl pl ho
  have sub : (FA ++ F4).Sublist (F1 ++ F2) := by
    rw [ef]
    exact a5.append (List.sublist_append_right _ _)
  exact ⟨G', ts', FA, F4, x.ok.sG, x.sub, by rw [a1, e], a2, a3, a4, t2.one, x.nd.sublist sub, fun a ha => x.out a (sub.subset ha), x.ok.keep, x.ok.mono, x.ok.nG, x.ok.tab⟩
/-! ### defs that may raise -/
def XEnd (K : PySem.W.Frag) (G H : Hp) (fs : Fs) (vs : List V) (H' : Hp) : Prop := ∃ G', Same G G' ∧ Same G' H' ∧ RpAll K G' vs (fs.map (·.2)) ∧ (∀ a o, H a = some o → Kp o (H' a)) ∧ (∀ a, H' a = none → H a = none) ∧ (∀ a, G' a ≠ none → G a ≠ none ∨ H a = none) ∧ Tabs K G' H'
def spX (mg : Str → Option Value) (K : PySem.W.Frag) (g : Sig) (f : List D → Option Xr) : Sp := fun vs H Q E => ∃ G ts r, ts.map Tm.v = vs ∧ ts.map Tm.t = g.ps ∧ Same G H ∧ TmF K G H ts [] ∧ Tabs K G H ∧ f (ts.map Tm.d) = some r ∧ match r with
  | .ret d o => ∀ v H', CallEnd K G H [] g.ret ts o d v H' → Q v H'
  | .exn x fs => ∀ C dd vs H', mg x = some (.ref C) → vs.length = fs.length → XEnd K G H fs vs H' → H' dd = some (xdOf fs vs) → E (.ref C) (some dd) H'
theorem spX_len {mg : Str → Option Value} {K : PySem.W.Frag} {g : Sig} {f : List D → Option Xr} {vs : List V} {H : Hp} {Q : VK} {E : XK} (h : spX mg K g f vs H Q E) : vs.length = g.ps.length := by
  obtain ⟨G, ts, r, rfl, e, _⟩ := h
  rw [← e, List.length_map, List.length_map]
structure CalleeX (P : Program) (w : World) (K : PySem.W.Frag) (mg : Str → Option Value) (base : Heap) (Φ : Cf) (k : Nat) (x : Str) (g : Sig) : Prop where
  ex : ∃ (k' : Nat) (f : Addr) (fd : FuncData) (ps : List Str), FnOk P w K mg base (L2.CX P w) k' f fd ps (spX mg K g (Φ.fx x)) ∧ k' ≤ k ∧ mg x = some (.ref f) ∧ PySem.W.keepIn K (.ref f) = true ∧ Binds K fd ps []
structure CalX (X : Cx) (Φ : Cf) (x : Str) (g : Sig) : Prop where
  ex : ∃ (k : Nat) (f : Addr) (fd : FuncData) (ps : List Str), FnOk X.prog X.w X.K X.mg X.base (L2.CX X.prog X.w) k f fd ps (spX X.mg X.K g (Φ.fx x)) ∧ Room k X.A ∧ X.mg x = some (.ref f) ∧ PySem.W.keepIn X.K (.ref f) = true ∧ Binds X.K fd ps []
/-- .. asked by isinstance -/
structure XcC (K : PySem.W.Frag) (C : Addr) : Prop where
  cl : (PySem.W.clsIn K C).isSome = true
  ha : PySem.W.findIn K (.ref C) "__class__" = some (some (.builtin "object.__class__"))
  hn : PySem.W.specialIn K (.builtin "object.__class__") "__get__" = some (some (.builtin "getset_descriptor.__get__"))
  ht : PySem.W.takesIn K (.builtin "object.__class__") = some true
  hm : PySem.W.mroIn K C (.type "object") = some true
/-- a class that is raised -/
structure KlsAt (P : Program) (K : PySem.W.Frag) (mg : Str → Option Value) (x : Str) : Prop where
  ex : ∃ C, Ve.Err2 K P C ∧ mg x = some (.ref C) ∧ mg "super" = none ∧ PySem.W.exmOne K (.ref C) (.ref C) = some true ∧ XfC K C ∧ XcC K C
structure Kls (X : Cx) (x : Str) : Prop where
  at_ : KlsAt X.prog X.K X.mg x
  rm : Room 2 X.A
structure Gx (X : Cx) (wx : Xw) : Prop where
  mg : X.mg = wx.mg
  tk : Takes X wx.W
  stk : X.stack = X.env :: X.outer
  frm : X.env.frame = some X.env.locals
section
variable {P : Program} {w : World} {K : PySem.W.Frag} {mg : Str → Option Value} {base : Heap}
theorem okC {x qual : Str} {st : Stmt} {f : Addr} {fd : FuncData} {N ps : List Str} {k : Nat} {sp : Sp} (F : Fun K x qual st f fd) (S : FnScope N ps (defScope st)) (len : ∀ vs H Q E, sp vs H Q E → vs.length = ps.length)
    (hbody : ∀ (cdv : Value) (A : Around) (outer : List Env) (s : Shared) (H : Hp) (vs : List V) (Q : VK) (E : XK), fd.code = cdv → Room k (A.deeper (envOfC qual (defScope st) s.heap.objs.size f cdv)) → sp vs H Q E →
      ∃ t, PSs (cxOf CX0 P w K mg base N qual (defScope st) f cdv A outer s H E).nox (defBody st) t ∧ t { nx := fun _ H' => Q .non H', rt := Q } (L2.start N vs) H) : FnOk P w K mg base CX0 (k + 1) f fd ps sp := by
  obtain ⟨oc, od, kV, doc, pm, an, cdv, ct, osl, rfl, lk, hcd⟩ := F.ex
  refine fn_of lk hcd S len fun A outer s H vs Q E hr hsp => ?_
  obtain ⟨t, h, q⟩ := hbody cdv A outer s H vs Q E rfl hr hsp
  exact ⟨t, h.nox, q⟩
theorem okXC {x qual : Str} {st : Stmt} {f : Addr} {fd : FuncData} {N ps : List Str} {k : Nat} {sp : Sp} (F : Fun K x qual st f fd) (S : FnScope N ps (defScope st)) (len : ∀ vs H Q E, sp vs H Q E → vs.length = ps.length)
    (hbody : ∀ (cdv : Value) (A : Around) (outer : List Env) (s : Shared) (H : Hp) (vs : List V) (Q : VK) (E : XK), fd.code = cdv → Room k (A.deeper (envOfC qual (defScope st) s.heap.objs.size f cdv)) → sp vs H Q E →
      ∃ t, PSs (cxOf (L2.CX P w) P w K mg base N qual (defScope st) f cdv A outer s H E) (defBody st) t ∧ t { nx := fun _ H' => Q .non H', rt := Q } (L2.start N vs) H) : FnOk P w K mg base (L2.CX P w) (k + 1) f fd ps sp := by
  obtain ⟨oc, od, kV, doc, pm, an, cdv, ct, osl, rfl, lk, hcd⟩ := F.ex
  exact fn_of lk hcd S len fun A outer s H vs Q E hr hsp => hbody cdv A outer s H vs Q E rfl hr hsp
end
theorem fn_sound {P : Program} {w : World} {K : PySem.W.Frag} {mg : Str → Option Value} {base : Heap} {Φ : Cf} {x qual : Str} {st : Stmt} {f : Addr} {fd : FuncData} {N ps : List Str} {k : Nat} (F : Fun K x qual st f fd) (S : FnScope N ps (defScope st)) (g : Sig) (Γr : List Ty) (b : Ss)
    (hl : (decide (g.ps.length = ps.length) && decide (g.ps.length + Γr.length = N.length)) = true) (hbl : ∀ x, x ∈ blAll → mg x = none) (gt : Bool) (hgt : gt = true → 3 ≤ k ∧ ∃ p ∈ tabsK K, fd.code = .ref p.1 ∧ GxR.TabB base mg p.1 p.2) (gl : List (Str × Int)) (hgl : ∀ p ∈ gl, ∃ t, mg p.1 = some (.int p.2 t))
    (hbody : ∀ (X : Cx), Gd X ⟨N, defScope st, fun _ => true, gl, gt⟩ → (∀ x g, Callee P w K mg base Φ k x g → Cal X Φ 1 x g) → (∀ x g, CalleeX P w K mg base Φ k x g → CalX X Φ x g) → (∀ x, KlsAt P K mg x → 2 ≤ k → Kls X x) → (∀ p : PySem.W.Frag → (Str → Option Value) → Prop, p K mg → p X.K X.mg) → ∀ (wx : Xw), Gx X wx → ∀ (fr : Fr), Pin (pinP 0 g.ps) fr → PSs X (defBody st) (tSs Φ fr (g.ps ++ Γr) g.ret wx X.K b)) :
    FnOk P w K mg base CX0 (k + 1) f fd ps (spI K g (evF Φ g.ps N.length b)) := by
  obtain ⟨hl1, hl2⟩ := Bool.and_eq_true_iff.mp hl
  have hl1 : g.ps.length = ps.length := of_decide_eq_true hl1
  have hl2 : g.ps.length + Γr.length = N.length := of_decide_eq_true hl2
  refine okC F S (fun vs H Q E h => by rw [spI_len h]; exact hl1) fun cdv A outer s H vs Q E hcdv hr h => ?_
  obtain ⟨G, Fo, ts, r, e1, e2, sG, tm, nd, gn, tb, hf, q⟩ := h
  have gd : Gd (cxOf CX0 P w K mg base N qual (defScope st) f cdv A outer s H E).nox ⟨N, defScope st, fun _ => true, gl, gt⟩ := {
    N := rfl
    nd := S.nd
    sc := rfl
    kd := S.kind
    calm := rfl
    pas := PassesOwn.never
    cl := fun x hx => rfl
    un := by
      have := hr.un
      show (A.deeper _).units + 100 < cLine
      omega
    bl := hbl
    gl := hgl
    ge := fun e => let ⟨h3, p, hp, h1, h2⟩ := hgt e; ⟨hr.mono h3, p, hp, by rw [← h1]; exact hcdv.symm, h2⟩ }
  have lts : ts.length = g.ps.length := by rw [← e2, List.length_map]
  let fr : Fr := ⟨H, G, Fo, pinsOf 0 g.ps (ts.map Tm.v)⟩
  refine ⟨_, hbody _ gd (fun y g' hc => ?_) (fun y g' hc => ?_) (fun y hk h2 => ⟨hk, hr.mono h2⟩) (fun _ h => h) ⟨mg, fun _ _ _ _ => False⟩ ⟨rfl, takes0, rfl, rfl⟩ fr (fun p hp => pin_in p hp), ?_⟩
  · obtain ⟨k', f', fd', ps', c1, c2, c3, c4, c5⟩ := hc.ex
    exact ⟨k', f', fd', ps', c1, hr.mono (show k' + 3 * 1 ≤ k by omega), c3, c4, c5⟩
  · obtain ⟨k', f', fd', ps', c1, c2, c3, c4, c5⟩ := hc.ex
    exact ⟨k', f', fd', ps', c1, hr.mono c2, c3, c4, c5⟩
  · obtain ⟨rr, h1, h2⟩ := bind_inv hf
    have sl : SlF K G H (g.ps ++ Γr) ((ts.map Tm.d).map some ++ List.replicate Γr.length none) ((ts.map Tm.v).map some ++ List.replicate Γr.length none) Fo := by
      rw [← e2]
      exact SlF.start tm
    have er : (ts.map Tm.d).map some ++ List.replicate (N.length - (ts.map Tm.d).length) none = (ts.map Tm.d).map some ++ List.replicate Γr.length none := by
      rw [List.length_map, lts, ← hl2, Nat.add_sub_cancel_left]
    have es : L2.start N vs = (ts.map Tm.v).map some ++ List.replicate Γr.length none := by
      rw [← e1]
      unfold L2.start
      rw [List.length_map, lts, ← hl2, Nat.add_sub_cancel_left]
    rw [er] at h1
    have sr : SR fr K (g.ps ++ Γr) ((ts.map Tm.d).map some ++ List.replicate Γr.length none) (L2.start N vs) [] H := by
      rw [es]
      refine ⟨G, Fo, [], sG, sl, rfl, by rw [List.append_nil]; exact nd, fun a ha => ?_, ?_⟩
      · rw [List.append_nil] at ha
        exact ⟨gn a ha, .inl ha⟩
      · refine ⟨fun a o e _ => .inl e, fun a e => e, Same.refl G, fun a h => .inl h, fun p hp => ?_, tb⟩
        have := start_pins (m := Γr.length) (ps := g.ps) (vs := ts.map Tm.v) (n := 0) (pre := []) rfl p hp
        rw [List.nil_append] at this
        exact this
    refine ⟨_, [], rr, sr, h1, ?_⟩
    cases rr with
    | nx ρ =>
      obtain ⟨o, h3, rfl⟩ := map_inv h2
      exact fun σ H' s' => q _ _ (res_end (us := []) rfl e2 tm (s'.res (w := g.ret) rfl fun G => .non) h3)
    | ret d ρ =>
      obtain ⟨o, h3, rfl⟩ := map_inv h2
      exact fun v σ H' us s' => q _ _ (res_end (us := us) (σ := σ) (Γr := Γr) rfl e2 tm (by rw [List.nil_append] at s'; exact s') h3)
    | brk ρ => cases h2
    | cnt ρ => cases h2
    | exn x fs ρ => cases h2
theorem fn_soundX {P : Program} {w : World} {K : PySem.W.Frag} {mg : Str → Option Value} {base : Heap} {Φ : Cf} {x qual : Str} {st : Stmt} {f : Addr} {fd : FuncData} {N ps : List Str} {k : Nat} (F : Fun K x qual st f fd) (S : FnScope N ps (defScope st)) (g : Sig) (Γr : List Ty) (b : Ss)
    (ha : (g.ps.all fun t => decide (t = .fro)) = true) (hl : (decide (g.ps.length = ps.length) && decide (g.ps.length + Γr.length = N.length)) = true) (hbl : ∀ x, x ∈ blAll → mg x = none) (gt : Bool) (hgt : gt = true → 3 ≤ k ∧ ∃ p ∈ tabsK K, fd.code = .ref p.1 ∧ GxR.TabB base mg p.1 p.2) (gl : List (Str × Int)) (hgl : ∀ p ∈ gl, ∃ t, mg p.1 = some (.int p.2 t))
    (hbody : ∀ (X : Cx), Gd X ⟨N, defScope st, fun _ => true, gl, gt⟩ → (∀ x g, Callee P w K mg base Φ k x g → Cal X Φ 1 x g) → (∀ x g, CalleeX P w K mg base Φ k x g → CalX X Φ x g) → (∀ x, KlsAt P K mg x → 2 ≤ k → Kls X x) → (∀ p : PySem.W.Frag → (Str → Option Value) → Prop, p K mg → p X.K X.mg) → ∀ (wx : Xw), Gx X wx → ∀ (fr : Fr), Pin (pinP 0 g.ps) fr → PSs X (defBody st) (tSs Φ fr (g.ps ++ Γr) g.ret wx X.K b)) :
    FnOk P w K mg base (L2.CX P w) (k + 1) f fd ps (spX mg K g (evX Φ g.ps N.length b)) := by
  obtain ⟨hl1, hl2⟩ := Bool.and_eq_true_iff.mp hl
  have hl1 : g.ps.length = ps.length := of_decide_eq_true hl1
  have hl2 : g.ps.length + Γr.length = N.length := of_decide_eq_true hl2
  refine okXC F S (fun vs H Q E h => by rw [spX_len h]; exact hl1) fun cdv A outer s H vs Q E hcdv hr h => ?_
  obtain ⟨G, ts, r, e1, e2, sG, tm, tb, hf, q⟩ := h
  have nd : ([] : List Addr).Nodup := List.nodup_nil
  have gd : Gd (cxOf (L2.CX P w) P w K mg base N qual (defScope st) f cdv A outer s H E) ⟨N, defScope st, fun _ => true, gl, gt⟩ := {
    N := rfl
    nd := S.nd
    sc := rfl
    kd := S.kind
    calm := rfl
    pas := passes_of rfl
    cl := fun x hx => rfl
    un := by
      have := hr.un
      show (A.deeper _).units + 100 < cLine
      omega
    bl := hbl
    gl := hgl
    ge := fun e => let ⟨h3, p, hp, h1, h2⟩ := hgt e; ⟨hr.mono h3, p, hp, by rw [← h1]; exact hcdv.symm, h2⟩ }
  have lts : ts.length = g.ps.length := by rw [← e2, List.length_map]
  let fr : Fr := ⟨H, G, [], pinsOf 0 g.ps (ts.map Tm.v)⟩
  refine ⟨_, hbody _ gd (fun y g' hc => ?_) (fun y g' hc => ?_) (fun y hk h2 => ⟨hk, hr.mono h2⟩) (fun _ h => h) ⟨mg, fun cls d _ H => E cls d H⟩ ⟨rfl, takes_of rfl rfl rfl rfl, rfl, rfl⟩ fr (fun p hp => pin_in p hp), ?_⟩
  · obtain ⟨k', f', fd', ps', c1, c2, c3, c4, c5⟩ := hc.ex
    exact ⟨k', f', fd', ps', c1, hr.mono (show k' + 3 * 1 ≤ k by omega), c3, c4, c5⟩
  · obtain ⟨k', f', fd', ps', c1, c2, c3, c4, c5⟩ := hc.ex
    exact ⟨k', f', fd', ps', c1, hr.mono c2, c3, c4, c5⟩
  · obtain ⟨rr, h1, h2⟩ := bind_inv hf
    have sl : SlF K G H (g.ps ++ Γr) ((ts.map Tm.d).map some ++ List.replicate Γr.length none) ((ts.map Tm.v).map some ++ List.replicate Γr.length none) [] := by
      rw [← e2]
      exact SlF.start tm
    have er : (ts.map Tm.d).map some ++ List.replicate (N.length - (ts.map Tm.d).length) none = (ts.map Tm.d).map some ++ List.replicate Γr.length none := by
      rw [List.length_map, lts, ← hl2, Nat.add_sub_cancel_left]
    have es : L2.start N vs = (ts.map Tm.v).map some ++ List.replicate Γr.length none := by
      rw [← e1]
      unfold L2.start
      rw [List.length_map, lts, ← hl2, Nat.add_sub_cancel_left]
    rw [er] at h1
    have sr : SR fr K (g.ps ++ Γr) ((ts.map Tm.d).map some ++ List.replicate Γr.length none) (L2.start N vs) [] H := by
      rw [es]
      refine ⟨G, [], [], sG, sl, rfl, nd, fun a ha => ?_, ?_⟩
      · cases ha
      · refine ⟨fun a o e _ => .inl e, fun a e => e, Same.refl G, fun a h => .inl h, fun p hp => ?_, tb⟩
        have := start_pins (m := Γr.length) (ps := g.ps) (vs := ts.map Tm.v) (n := 0) (pre := []) rfl p hp
        rw [List.nil_append] at this
        exact this
    refine ⟨_, [], rr, sr, h1, ?_⟩
    cases rr with
    | nx ρ =>
      obtain ⟨o, h3, rfl⟩ := map_inv h2
      exact fun σ H' s' => q _ _ (res_end (us := []) rfl e2 tm (s'.res (w := g.ret) rfl fun G => .non) h3)
    | ret d ρ =>
      obtain ⟨o, h3, rfl⟩ := map_inv h2
      exact fun v σ H' us s' => q _ _ (res_end (us := us) (σ := σ) (Γr := Γr) rfl e2 tm (by rw [List.nil_append] at s'; exact s') h3)
    | brk ρ => cases h2
    | cnt ρ => cases h2
    | exn x fs ρ =>
      cases h2
      refine fun σ H' us vs C dd s' hv hm hd => q C dd vs H' hm hv ?_ hd
      obtain ⟨G', F1, F2, y⟩ := s'
      obtain ⟨F3, F4, _, _, t2⟩ := y.tm.app
      have rs := t2.alls tms_t
      rw [tms_d (by rw [List.length_map]; exact hv), tms_v (by rw [List.length_map]; exact hv)] at rs
      exact ⟨G', y.ok.sG, y.sub, rs, fun a o e => y.ok.keep a o e (by intro h; cases h), y.ok.mono, fun a h => (y.ok.nG a h).elim .inl fun h => h.elim (fun h => absurd h (by intro h; cases h)) .inr, y.ok.tab⟩
end Vw
namespace Vw
open PySem PySem.Spec PyProof.Rows L2
section
variable {X : Cx} {c : Ct} {Φ : Cf} {fr : Fr} {Γ : List Ty} {w : Ty} {ret : Ty} {wx : Xw} {pos : Pos} {P P' : List Nat}
theorem k_app (gd : Gd X c) (i : Nat) {x : Str} {e : Expr} {ee : E} {px ap cp : Pos} (ha : PE X e (tE Φ fr X.K Γ .fro ee)) (h : (vC c Γ i x (.lst .fro) && (ap.endLine == cp.line) && noStar e) = true) : PS X (.Expr (.Call (.Attribute (.Name x px) "append" ap) [e] [] cp) pos) (tS Φ fr Γ ret wx X.K (.app i ee)) := by
  obtain ⟨h, h7⟩ := Bool.and_eq_true_iff.mp h
  obtain ⟨h, h6⟩ := Bool.and_eq_true_iff.mp h
  obtain ⟨h1, h2, h3, h4, h5⟩ := vC_of gd h
  exact s_app h1 h2 h3 h4 h5 h6 ha h7
theorem k_sti (gd : Gd X c) (i : Nat) {x : Str} {a e : Expr} {ea ee : E} {px sp : Pos} (ha : PE X a (tE Φ fr X.K Γ .fro ea)) (he : PE X e (tE Φ fr X.K Γ .fro ee)) (h : (vC c Γ i x (.lst .fro) && notSlice a && noComp e) = true) : PS X (.Assign [.Subscript (.Name x px) a sp] e pos) (tS Φ fr Γ ret wx X.K (.sti i ea ee)) := by
  obtain ⟨h, h7⟩ := Bool.and_eq_true_iff.mp h
  obtain ⟨h, h6⟩ := Bool.and_eq_true_iff.mp h
  obtain ⟨h1, h2, h3, h4, h5⟩ := vC_of gd h
  exact s_sti h1 h2 h3 h4 h5 ha he h6 h7
theorem k_sti2 (gd : Gd X c) (i : Nat) {x : Str} {a b e : Expr} {ea eb ee : E} {px sp sp2 : Pos} (ha : PE X a (tE Φ fr X.K Γ .fro ea)) (hb : PE X b (tI Φ fr Γ X.K eb)) (he : PE X e (tE Φ fr X.K Γ .fro ee)) (h : (vC c Γ i x (.lst (.lst .fro)) && stE eb && notSlice a && notSlice b && noComp e) = true) :
    PS X (.Assign [.Subscript (.Subscript (.Name x px) a sp2) b sp] e pos) (tS Φ fr Γ ret wx X.K (.sti2 i ea eb ee)) := by
  simp only [Bool.and_eq_true] at h
  obtain ⟨h1, h2, h3, h4, h5⟩ := vC_of gd h.1.1.1.1
  exact s_sti2 h1 h2 h3 h4 h5 ha hb h.1.1.1.2 he h.1.1.2 h.1.2 h.2
theorem k_aug (gd : Gd X c) (hp : Pin P fr) (i : Nat) {x : Str} (o : Ar) {e : Expr} {ee : E} {px : Pos} (he : PE X e (tE Φ fr X.K Γ .fro ee)) (h : (sC c Γ P i x .fro && decide (o ≠ .pow)) = true) : PS X (.AugAssign (.Name x px) (opA o) e pos) (tS Φ fr Γ ret wx X.K (.aug i o ee)) := by
  obtain ⟨h, h7⟩ := Bool.and_eq_true_iff.mp h
  obtain ⟨h1, h2, h3, h4, h5, h6⟩ := sC_of gd hp h
  exact s_aug (of_decide_eq_true h7) h1 h2 h3 h4 h5 h6 he
theorem k_for (gd : Gd X c) (hpin : Pin P fr) (P' : List Nat) {tgt iter : Expr} {body : List Stmt} {tg : Tg} {it : Iv} {b : Ss} (hi : PI X tgt iter (tIt Φ fr Γ X.K it)) (hg : ∀ fr, Pin P' fr → PG X tgt (tG fr Γ X.K tg)) (hb : ∀ fr, Pin P' fr → PSs X body (tSs Φ fr Γ ret wx X.K b))
    (h : (inAll P P' && inAll (itB it) P' && noSet iter) = true) : PS X (.For tgt iter body [] pos) (tS Φ fr Γ ret wx X.K (.for tg it b)) := by
  simp only [Bool.and_eq_true] at h
  exact s_for gd.pas gd.calm hpin (inAll_of h.1.1) (inAll_of h.1.2) hi hg hb h.2
theorem sw_par {x y : Str} {px py pt pt2 : Pos} {kt k2 : Nat} {a b : Expr} {env : Env} (hk : env.scope.kind = .function) (hx : env.scope.names.lookup x = some .local) (hy : env.scope.names.lookup y = some .local) (hl : (py.line == px.line) = true) (hne : (x == y) = false) (hs : noStar a = true) (hs2 : noStar b = true)
    (h1 : ([a, b].all (foldedForSure 8)) = false) (h2 : ([a, b].all (constantsAlone 8)) = false) :
    swappedStores [.Tuple [.Name x px, .Name y py] kt pt] (.Tuple [a, b] k2 pt2) env = pure (some [x, y]) := by
  have kx : env.kindOf x = some .local := hx
  have ky : env.kindOf y = some .local := hy
  have hb : env.blockKind = .function := by unfold Env.blockKind; rw [hk]; rfl
  have hst : ([a, b].any fun | .Starred .. => true | _ => false) = false := by
    have f : ∀ e : Expr, noStar e = true → (match e with | .Starred .. => true | _ => false) = false := fun e h => by
      cases e <;> first | rfl | exact absurd h Bool.false_ne_true
    rw [List.any_cons, List.any_cons, f a hs, f b hs2]
    rfl
  have e1 : ([x, y].eraseDups.length != 2) = false := by
    have : (y == x) = false := by
      rw [← hne]
      exact BEq.comm
    simp [List.eraseDups_cons, this]
  unfold swappedStores
  simp only [hb, kx, ky, hst, h1, h2, List.filterMap, List.head?, Option.map, Option.getD, hl, List.length]
  simp [Expr.pos, hl, kx, ky, e1]
  intro h
  rcases h with h | h
  · cases a <;> first | exact absurd hs Bool.false_ne_true | exact absurd h Bool.false_ne_true
  · cases b <;> first | exact absurd hs2 Bool.false_ne_true | exact absurd h Bool.false_ne_true
theorem k_par (gd : Gd X c) (hpin : Pin P fr) (i j : Nat) (t u : Ty) {x y : Str} {a b : Expr} {ea eb : E} {px py pt pt2 : Pos} {kt k2 : Nat} (ha : PE X a (tE Φ fr X.K Γ t ea)) (hb : PE X b (tE Φ fr X.K Γ u eb))
    (h : (sC c Γ P i x t && sC c Γ P j y u && decide (i ≠ j) && decide (c.sc.names.lookup x = some .local) && decide (c.sc.names.lookup y = some .local) && noStar a && noStar b && (py.line == px.line) && !(x == y) && !([a, b].all (foldedForSure 8)) && !([a, b].all (constantsAlone 8))) = true) :
    PS X (.Assign [.Tuple [.Name x px, .Name y py] kt pt] (.Tuple [a, b] k2 pt2) pos) (tS Φ fr Γ ret wx X.K (.par i j ea eb)) := by
  simp only [Bool.and_eq_true, Bool.not_eq_true', decide_eq_true_eq] at h
  obtain ⟨⟨⟨⟨⟨⟨⟨⟨⟨⟨g1, g2⟩, g3⟩, g4⟩, g5⟩, g6⟩, g7⟩, g8⟩, g9⟩, g10⟩, g11⟩ := h
  obtain ⟨h1, h2, h3, h4, h5, h6⟩ := sC_of gd hpin g1
  obtain ⟨k1, k2, k3, k4, k5, k6⟩ := sC_of gd hpin g2
  have e4 : X.env.scope.names.lookup x = some .local := by rw [gd.sc]; exact g4
  have e5 : X.env.scope.names.lookup y = some .local := by rw [gd.sc]; exact g5
  exact s_par gd.calm h1 h2 k2 g3 e4 e5 h5 k5 h6 k6 ha hb g6 g7 (sw_par (by rw [gd.sc]; exact gd.kd) e4 e5 g8 g9 g6 g7 g10 g11)
end
end Vw
namespace Vw
open PySem PySem.Spec PyProof.Rows L2
section
variable {X : Cx} {Φ : Cf} {fr : Fr} {Γ : List Ty} {w : Ty} {ret : Ty} {wx : Xw} {pos : Pos} {c : Ct} {P P' : List Nat}
/-! ### three comparisons in a chain -/
def tCh3 (r1 r2 r3 : R2) (ta tb tc td : TE) : TE := fun σ H Q => ta σ H fun x H1 => tb σ H1 fun y H2 => r1 x y H2 fun z H3 => ∃ k, z = .bl k ∧ (if k = true then tc σ H3 fun z' H4 => r2 y z' H4 fun z2 H5 => ∃ k2, z2 = .bl k2 ∧ (if k2 = true then td σ H5 fun z3 H6 => r3 z' z3 H6 Q else Q (.bl false) H5) else Q (.bl false) H3)
section
variable {a b e f : Expr} {ta tb tc td : TE}
theorem pe_ch3 {op op' op'' : CmpOp} {r r' r'' : R2} (ho : OpR X (compareOp op) r) (ho' : OpR X (compareOp op') r') (ho'' : OpR X (compareOp op'') r'') (ha : PE X a ta) (hb : PE X b tb) (hc : PE X e tc) (hd : PE X f td)
    (hm : lastMarks [op, op', op''] [b, e, f] = false) : PE X (.Compare a [op, op', op''] [b, e, f] pos) (tCh3 r r' r'' ta tb tc td) := by
  refine ⟨fun pins s σ H Q I h => ?_⟩
  refine Compare_chain (thn (ha.run pins s σ H _ I h) fun v s1 ⟨x, H1, I1, r1, q1⟩ => chain_link (thn (hb.run pins s1 σ H1 _ I1 q1) fun u s2 ⟨y, H2, I2, r2, q2⟩ =>
    thn (ho pins s2 σ H2 x y v u _ I2 r1 r2 q2) fun d s3 ⟨z, H3, I3, r3, k, e, q3⟩ => ?_)) hm
  subst e
  cases r3
  refine wpAny_truthy_bool ?_
  cases k with
  | false => exact ite_ff ⟨.bl false, H3, I3, rfl, q3⟩
  | true =>
    refine ite_tt (chain_link (thn (hc.run pins s3 σ H3 _ I3 q3) fun w' s4 ⟨z', H4, I4, r4, q4⟩ => thn (ho' pins s4 σ H4 y z' u w' _ I4 r2 r4 q4) fun d' s5 ⟨z2, H5, I5, r5, k2, e2, q5⟩ => ?_))
    subst e2
    cases r5
    refine wpAny_truthy_bool ?_
    cases k2 with
    | false => exact ite_ff ⟨.bl false, H5, I5, rfl, q5⟩
    | true => exact ite_tt (chain_last (thn (hd.run pins s5 σ H5 _ I5 q5) fun w2 s6 ⟨z3, H6, I6, r6, q6⟩ => ho'' pins s6 σ H6 z' z3 w' w2 Q I6 r4 r6 q6))
end
theorem m_ch3 {K : PySem.W.Frag} (o o2 o3 : Cm) {ea eb ee ef : E} {σ : Sg} {H : Hp} {Q : VK} (h : tE Φ fr K Γ w (.ch3 o o2 o3 ea eb ee ef) σ H Q) : tCh3 (rCm o) (rCm o2) (rCm o3) (tE Φ fr K Γ .fro ea) (tE Φ fr K Γ .fro eb) (tE Φ fr K Γ .fro ee) (tE Φ fr K Γ .fro ef) σ H Q := by
  obtain ⟨ρ, ts, r, sr, he, q⟩ := h
  obtain ⟨ra, e1, he⟩ := bind_inv he
  obtain ⟨rb, e2, he⟩ := bind_inv he
  obtain ⟨t, e3, he⟩ := bind_inv he
  refine ⟨ρ, ts, ra, sr, e1, fun v H1 s1 => ⟨ra.2, _, rb, s1, e2, fun u H2 s2 => ?_⟩⟩
  obtain ⟨G, F1, F2, y⟩ := id s2
  have rp := y.last2 rfl rfl
  clear e1 e2
  obtain ⟨d1, ρ1⟩ := ra
  obtain ⟨d2, ρ2⟩ := rb
  cases d1 with
  | int i =>
    cases d2 with
    | int j =>
      obtain ⟨r1, r2⟩ := rp
      cases r1
      cases r2
      have e3 : some (cmI o i j) = some t := e3
      cases e3
      refine ⟨i, j, rfl, rfl, _, rfl, ?_⟩
      have s2' := s2.drop.drop
      split at he
      · rename_i c1
        rw [if_pos c1]
        obtain ⟨rc, e4, he⟩ := bind_inv he
        obtain ⟨t2, e5, he⟩ := bind_inv he
        refine ⟨_, _, rc, s2', e4, fun u3 H3 s3 => ?_⟩
        obtain ⟨G3, F31, F32, y3⟩ := id s3
        have rp3 := y3.last1 rfl
        clear e4
        obtain ⟨d3, ρ3⟩ := rc
        cases d3 with
        | int l =>
          cases rp3
          have e5 : some (cmI o2 j l) = some t2 := e5
          cases e5
          refine ⟨j, l, rfl, rfl, _, rfl, ?_⟩
          have s3' := s3.drop
          split at he
          · rename_i c2
            rw [if_pos c2]
            obtain ⟨rd, e6, he⟩ := bind_inv he
            obtain ⟨t3, e7, rfl⟩ := map_inv he
            refine ⟨_, _, rd, s3', e6, fun u4 H4 s4 => ?_⟩
            obtain ⟨G4, F41, F42, y4⟩ := id s4
            have rp4 := y4.last1 rfl
            clear e6
            obtain ⟨d4, ρ4⟩ := rd
            cases d4 with
            | int n =>
              cases rp4
              have e7 : some (cmI o3 l n) = some t3 := e7
              cases e7
              exact ⟨l, n, rfl, rfl, q _ _ (s4.drop.res rfl (rp_bl _))⟩
            | _ => cases e7
          · rename_i c2
            rw [if_neg c2]
            cases he
            exact q _ _ (s3'.res rfl (rp_bl _))
        | _ => cases e5
      · rename_i c1
        rw [if_neg c1]
        cases he
        exact q _ _ (s2'.res rfl (rp_bl _))
    | _ => cases e3
  | _ => cases e3
theorem k_ch3 (o o2 o3 : Cm) {a b e f : Expr} {ea eb ee ef : E} (ha : PE X a (tE Φ fr X.K Γ .fro ea)) (hb : PE X b (tE Φ fr X.K Γ .fro eb)) (he : PE X e (tE Φ fr X.K Γ .fro ee)) (hf : PE X f (tE Φ fr X.K Γ .fro ef)) : PE X (.Compare a [opC o, opC o2, opC o3] [b, e, f] pos) (tE Φ fr X.K Γ w (.ch3 o o2 o3 ea eb ee ef)) :=
  PE_mono (pe_ch3 (op_cm o) (op_cm o2) (op_cm o3) ha hb he hf (nobehind f (opC_in o3).1 (opC_in o3).2)) fun σ H Q h => m_ch3 o o2 o3 h

theorem pt_ch3 {a b e f : Expr} {ta tb tc td : TE} {op op' op'' : CmpOp} {r r' r'' : R2} (ho : OpR X (compareOp op) r) (ho' : OpR X (compareOp op') r') (ho'' : OpR X (compareOp op'') r'') (ha : PE X a ta) (hb : PE X b tb) (hc : PE X e tc) (hd : PE X f td)
    (hm : lastMarks [op, op', op''] [b, e, f] = false) : PT X (.Compare a [op, op', op''] [b, e, f] pos) (tTest (tCh3 r r' r'' ta tb tc td)) := by
  refine ⟨fun pins s σ H Q I h => ?_⟩
  refine isTrue_chain (thn (ha.run pins s σ H _ I h) fun v s1 ⟨x, H1, I1, r1, q1⟩ => test_link (thn (hb.run pins s1 σ H1 _ I1 q1) fun u s2 ⟨y, H2, I2, r2, q2⟩ =>
    thn (ho pins s2 σ H2 x y v u _ I2 r1 r2 q2) fun d s3 ⟨z, H3, I3, r3, k, e, q3⟩ => ?_)) hm
  subst e
  cases r3
  refine wpAny_truthy_bool ?_
  cases k with
  | false =>
    obtain ⟨k', e, q⟩ := q3
    cases e
    exact ite_ff ⟨H3, I3, q⟩
  | true =>
    refine ite_tt (test_link (thn (hc.run pins s3 σ H3 _ I3 q3) fun w' s4 ⟨z', H4, I4, r4, q4⟩ => thn (ho' pins s4 σ H4 y z' u w' _ I4 r2 r4 q4) fun d' s5 ⟨z2, H5, I5, r5, k2, e2, q5⟩ => ?_))
    subst e2
    cases r5
    refine wpAny_truthy_bool ?_
    cases k2 with
    | false =>
      obtain ⟨k', e, q⟩ := q5
      cases e
      exact ite_ff ⟨H5, I5, q⟩
    | true =>
      refine ite_tt (test_last (thn (hd.run pins s5 σ H5 _ I5 q5) fun w2 s6 ⟨z3, H6, I6, r6, q6⟩ => thn (ho'' pins s6 σ H6 z' z3 w' w2 _ I6 r4 r6 q6) fun d'' s7 ⟨z4, H7, I7, r7, k3, e3, q7⟩ => ?_))
      subst e3
      cases r7
      exact wpAny_truthy_bool ⟨H7, I7, q7⟩
theorem k_ch3T (o o2 o3 : Cm) {a b e f : Expr} {ea eb ee ef : E} (ha : PE X a (tE Φ fr X.K Γ .fro ea)) (hb : PE X b (tE Φ fr X.K Γ .fro eb)) (he : PE X e (tE Φ fr X.K Γ .fro ee)) (hf : PE X f (tE Φ fr X.K Γ .fro ef)) : PT X (.Compare a [opC o, opC o2, opC o3] [b, e, f] pos) (tT Φ fr X.K Γ (.e (.ch3 o o2 o3 ea eb ee ef))) :=
  t_cmp (pt_ch3 (op_cm o) (op_cm o2) (op_cm o3) ha hb he hf (nobehind f (opC_in o3).1 (opC_in o3).2)) rfl fun σ H Q h => m_ch3 o o2 o3 h
/-! ### in, of data of any depth -/
def rInDG (K : PySem.W.Frag) (ng : Bool) : R2 := fun x y H Q => ∃ d ds, Dp K H x d ∧ Dp K H y (.list ds) ∧ SeqAt.shaped d = true ∧ SeqAt.shaped (.list ds) = true ∧ Q (.bl ((ds.any fun z => PyData.eqv z d) != ng)) H
theorem op_indG (hu : X.A.units + 65 < cLine) (ng : Bool) : OpR X (compareOp (if ng then .NotIn else .In)) (rInDG X.K ng) := by
  cases ng with
  | true =>
    intro pins s σ H x y v u Q I rx ry h
    obtain ⟨d, e, h1, h2, h3, h4, q⟩ := h
    exact op_notInD hu pins s σ H x y v u Q I rx ry ⟨d, e, h1, h2, h3, h4, by rw [Bool.bne_true] at q; exact q⟩
  | false =>
    intro pins s σ H x y v u Q I rx ry h
    obtain ⟨d, e, h1, h2, h3, h4, q⟩ := h
    exact op_inD hu pins s σ H x y v u Q I rx ry ⟨d, e, h1, h2, h3, h4, by rw [Bool.bne_false] at q; exact q⟩
theorem m_ind {K : PySem.W.Frag} (ng : Bool) {ea eb : E} {σ : Sg} {H : Hp} {Q : VK} (h : tE Φ fr K Γ w (.ind ng ea eb) σ H Q) : tOp (rInDG K ng) (tE Φ fr K Γ .fro ea) (tE Φ fr K Γ .fro eb) σ H Q := by
  obtain ⟨ρ, ts, r, sr, he, q⟩ := h
  obtain ⟨ra, e1, he⟩ := bind_inv he
  obtain ⟨rb, e2, he⟩ := bind_inv he
  obtain ⟨d, e3, rfl⟩ := map_inv he
  refine ⟨ρ, ts, ra, sr, e1, fun v H1 s1 => ⟨ra.2, _, rb, s1, e2, fun u H2 s2 => ?_⟩⟩
  obtain ⟨G, F1, F2, y⟩ := id s2
  have rp := y.last2 rfl rfl
  obtain ⟨l, q1, q2, q3, rfl⟩ := indD_inv e3
  refine ⟨_, l, (Rp_same y.sub _ _ rp.1).dp, ?_, q2, q3, q _ _ (s2.drop.drop.res rfl (rp_bl _))⟩
  have := (Rp_same y.sub _ _ rp.2).dp
  rw [show (⟨.fro, rb.1, u⟩ : Tm).d = .list l from q1] at this
  exact this
theorem k_ind (gd : Gd X c) (ng : Bool) {a b : Expr} {ea eb : E} (ha : PE X a (tE Φ fr X.K Γ .fro ea)) (hb : PE X b (tE Φ fr X.K Γ .fro eb)) (hn : noSet b = true) : PE X (.Compare a [if ng then .NotIn else .In] [b] pos) (tE Φ fr X.K Γ w (.ind ng ea eb)) :=
  PE_mono (pe_cmpR (op_indG gd.u65 ng) ha hb (by cases b <;> first | rfl | cases hn)) fun σ H Q h => m_ind ng h
theorem k_indT (gd : Gd X c) (ng : Bool) {a b : Expr} {ea eb : E} (ha : PE X a (tE Φ fr X.K Γ .fro ea)) (hb : PE X b (tE Φ fr X.K Γ .fro eb)) (hn : noSet b = true) : PT X (.Compare a [if ng then .NotIn else .In] [b] pos) (tT Φ fr X.K Γ (.e (.ind ng ea eb))) :=
  t_cmp (pt_cmpR (op_indG gd.u65 ng) ha hb (by cases b <;> first | rfl | cases hn)) rfl fun σ H Q h => m_ind ng h
/-- x in [..], the list its own -/
theorem m_ins {K : PySem.W.Frag} (ng : Bool) {ea : E} {i : Nat} {σ : Sg} {H : Hp} {Q : VK} (h : tE Φ fr K Γ w (.ins ng ea i) σ H Q) : tOp (rInDG K ng) (tE Φ fr K Γ .fro ea) (tO Φ fr K Γ (.s i)) σ H Q := by
  obtain ⟨ρ, ts, r, sr, he, q⟩ := h
  obtain ⟨ra, e1, he⟩ := bind_inv he
  obtain ⟨x, e2, he⟩ := bind_inv he
  obtain ⟨d, e3, rfl⟩ := map_inv he
  obtain ⟨l, q1, q2, q3, rfl⟩ := indD_inv e3
  subst q1
  have e4 : evO Φ (.s i) ra.2 = some (.list l, ra.2) := by
    show (get ra.2 i).map _ = _
    rw [e2]
    rfl
  refine ⟨ρ, ts, ra, sr, e1, fun v H1 s1 => ⟨ra.2, _, (.list l, ra.2), s1, e4, fun u H2 ts' s2 hd => ?_⟩⟩
  have hts : ts' = ts ++ [⟨.fro, ra.1, v⟩] := hd.1
  subst hts
  obtain ⟨G, F1, F2, y⟩ := id s2
  have rp := y.last1 rfl
  have y' : SRd fr K G F1 F2 Γ ra.2 σ (ts ++ [⟨.fro, ra.1, v⟩] ++ []) H2 := by rw [List.append_nil]; exact y
  have sn : Sn K G H2 (.list l) u := y'.sn (Φ := Φ) (o := .s i) hd e2
  obtain ⟨a, vs, rfl, g1, g2⟩ := sn.list y.sub
  exact ⟨_, l, (Rp_same y.sub _ _ rp).dp, .lst (.inl g1) (RpAll.dp _ _ (RpAll_same y.sub _ _ g2)), q2, q3, q _ _ (s2.drop.res rfl (rp_bl _))⟩
theorem k_ins (gd : Gd X c) (ng : Bool) (i : Nat) {x : Str} {a : Expr} {ea : E} {px : Pos} (ha : PE X a (tE Φ fr X.K Γ .fro ea)) (h : vC c Γ i x (.lst .fro) = true) : PE X (.Compare a [if ng then .NotIn else .In] [.Name x px] pos) (tE Φ fr X.K Γ w (.ins ng ea i)) :=
  PE_mono (pe_cmpR (op_indG gd.u65 ng) ha (k_os gd i h) rfl) fun σ H Q h => m_ins ng h
theorem k_insT (gd : Gd X c) (ng : Bool) (i : Nat) {x : Str} {a : Expr} {ea : E} {px : Pos} (ha : PE X a (tE Φ fr X.K Γ .fro ea)) (h : vC c Γ i x (.lst .fro) = true) : PT X (.Compare a [if ng then .NotIn else .In] [.Name x px] pos) (tT Φ fr X.K Γ (.e (.ins ng ea i))) :=
  t_cmp (pt_cmpR (op_indG gd.u65 ng) ha (k_os gd i h) rfl) rfl fun σ H Q h => m_ins ng h
/-! ### isinstance -/
def tyN : D → String
  | .none => "NoneType"
  | .bool _ => "bool"
  | .int _ => "int"
  | .str _ => "str"
  | .list _ => "list"
  | .tuple _ => "tuple"
  | .dict _ => "dict"
def ikN : Ik → String
  | .l => "list"
  | .t => "tuple"
  | .b => "bool"
  | .i => "int"
  | _ => "str"
def ik1 : Ik → Bool
  | .lt => false
  | .tl => false
  | _ => true
theorem kit1 {K : PySem.W.Frag} {k : Ik} (hk : ik1 k = true) {x : D} {b : Bool} (h : isiD k x = some b) : PySem.W.kitOne K (.type (tyN x)) (.type (ikN k)) = some b := by
  cases k <;> first | (cases hk; done) | (cases x <;> first | (cases h; done) | (cases h; kernel_rfl))
theorem tyX_of {K : PySem.W.Frag} {G H : Hp} {x : D} {v : V} (s : Same G H) (h : Sn K G H x v) : TyX K H v (.type (tyN x)) := by
  rcases h with h | ⟨l, a, vs, rfl, rfl, h1, _⟩
  · cases h with
    | non => exact .base .non
    | bl b => exact .base (.bl b)
    | int i => exact .base (.int i)
    | str x => exact .base (.str x)
    | lst h1 _ =>
      rcases Rd_same s h1 with h1 | ⟨o, h1⟩
      · exact .base (.lst h1)
      · exact .base (.frz h1)
    | tup h1 _ =>
      rcases SqT_same s h1 with (h1 | ⟨o, h1⟩) | ⟨o, its, n, h1, h2, _⟩
      · exact .base (.tup h1)
      · exact .fTuple h1
      · exact .kTuple h1 h2
  · exact .base (.lst h1)
theorem ik_boot : ∀ k : Ik, ik1 k = true → bootBuiltins (PySem.Str.ofString (ikN k)) = some (.type (ikN k))
  | .l, _ => by decide +kernel
  | .t, _ => by decide +kernel
  | .b, _ => by decide +kernel
  | .i, _ => by decide +kernel
  | .s, _ => by decide +kernel
theorem ik_nm : ∀ k : Ik, PySem.Str.ofString (ikN k) ≠ "__name__" ∧ (PySem.Str.ofString (ikN k) == ("__debug__" : Str)) = false
  | .l => ⟨by decide, by decide⟩
  | .t => ⟨by decide, by decide⟩
  | .b => ⟨by decide, by decide⟩
  | .i => ⟨by decide, by decide⟩
  | .s => ⟨by decide, by decide⟩
  | .lt => ⟨by decide, by decide⟩
  | .tl => ⟨by decide, by decide⟩
theorem late_same {o : O} {ρ : Rho} {ra : D × Rho} (e1 : evO Φ o ρ = some ra) : lateD Φ o ra.1 ra.2 = some ra.1 := by
  cases o with
  | e a => rfl
  | s i =>
    obtain ⟨d', e3, rfl⟩ := map_inv (show (get ρ i).map (fun d => (d, ρ)) = some ra from e1)
    exact e3
theorem SR.undo {K : PySem.W.Frag} {ρ : Rho} {σ : Sg} {ts ts' : List Tm} {H : Hp} {o : O} {v : V} {d : D} (s : SR fr K Γ ρ σ ts' H) (hd : Hold Γ σ o v d ts ts') : SR fr K Γ ρ σ ts H := by
  cases o with
  | e a =>
    have hd : ts' = ts ++ [⟨.fro, d, v⟩] := hd
    subst hd
    exact s.drop
  | s i =>
    obtain ⟨rfl, _⟩ := hd
    exact s
theorem k_isi (gd : Gd X c) (k : Ik) {a : Expr} {oa : O} {p p2 : Pos} (ha : PE X a (tO Φ fr X.K Γ oa)) (h : (ik1 k && noStar a && blC c "isinstance" && blC c (PySem.Str.ofString (ikN k))) = true) :
    PE X (.Call (.Name "isinstance" p) [a, .Name (PySem.Str.ofString (ikN k)) p2] [] pos) (tE Φ fr X.K Γ w (.isi k oa)) := by
  simp only [Bool.and_eq_true] at h
  obtain ⟨⟨⟨h0, h1⟩, h2⟩, h3⟩ := h
  have hT : PE X (.Name (PySem.Str.ofString (ikN k)) p2) (tC (.ty (ikN k))) := pe_bltn (blC_of gd h3).1 (blC_of gd h3).2 (ik_boot k h0) rfl (ik_nm k).1 (ik_nm k).2
  refine PE_mono (pe_callB call_isi (blC_of gd h2).1 (blC_of gd h2).2 (by decide +kernel) (pa_cons ha (pa_cons hT pa_nil rfl) (star_cons h1)) (by decide) (by decide) (star_cons h1) rfl) fun σ H Q h => ?_
  obtain ⟨ρ, ts, r, sr, he, q⟩ := h
  obtain ⟨ra, e1, he⟩ := bind_inv he
  obtain ⟨b, e2, rfl⟩ := map_inv he
  refine ⟨ρ, ts, ra, sr, e1, fun v H1 ts' s1 hd => ?_⟩
  obtain ⟨G, F1, F2, y⟩ := id s1
  have y' : SRd fr X.K G F1 F2 Γ ra.2 σ (ts' ++ []) H1 := by rw [List.append_nil]; exact y
  exact ⟨v, _, _, _, b, rfl, .ty _, tyX_of y.sub (y'.sn hd (late_same e1)), kit1 h0 e2, q _ _ ((s1.undo hd).res rfl (rp_bl _))⟩
end
end Vw
namespace Vw
open PySem PySem.Spec PyProof.Rows L2
/-! ### a slot's type changes for the rest of a block -/
theorem SlF.chg {K : PySem.W.Frag} {G H : Hp} {t' : Ty} : ∀ {Γ : List Ty} {ρ : Rho} {σ : Sg} {F : List Addr} (i : Nat), (ρ[i]? = some none ∨ ρ[i]? = none) → SlF K G H Γ ρ σ F → SlF K G H (Γ.set i t') ρ σ F
  | [], [], [], _, _, _, h => h
  | t :: Γ, o :: ρ, s :: σ, F, 0, hr, ⟨F1, F2, e, p, q⟩ => by
    have ho : o = none := by
      rcases hr with h | h
      · exact Option.some.inj h
      · cases h
    subst ho
    exact ⟨F1, F2, e, p, q⟩
  | t :: Γ, o :: ρ, s :: σ, F, i + 1, hr, ⟨F1, F2, e, p, q⟩ => ⟨F1, F2, e, p, SlF.chg (Γ := Γ) (ρ := ρ) i hr q⟩
  | [], [], _ :: _, _, _, _, h => h.elim
  | [], _ :: _, _, _, _, _, h => by cases ‹Sg› <;> exact h.elim
  | _ :: _, [], _, _, _, _, h => by cases ‹Sg› <;> exact h.elim
  | _ :: _, _ :: _, [], _, _, _, h => h.elim
section
variable {fr : Fr} {K : PySem.W.Frag} {G H : Hp} {F1 F2 : List Addr} {Γ : List Ty} {ρ : Rho} {σ : Sg} {ts us : List Tm}
theorem SRd.chg (x : SRd fr K G F1 F2 Γ ρ σ ts H) (i : Nat) (t' : Ty) (h : ρ[i]? = some none ∨ ρ[i]? = none) : SRd fr K G F1 F2 (Γ.set i t') ρ σ ts H := ⟨x.sub, x.sl.chg i h, x.tm, x.nd, x.out, x.ok⟩
theorem set_none_at (ρ : Rho) (i : Nat) : (ρ.set i none)[i]? = some none ∨ (ρ.set i none)[i]? = none := by
  by_cases h : i < ρ.length
  · exact .inl (by rw [List.getElem?_set_self h])
  · exact .inr (List.getElem?_eq_none (by rw [List.length_set]; omega))
/-- let go, with whatever type -/
theorem SR.blank (x : SR fr K Γ ρ σ ts H) (i : Nat) (t' : Ty) : SR fr K (Γ.set i t') (ρ.set i none) σ ts H := by
  obtain ⟨G, F1, F2, y⟩ := x
  obtain ⟨F3, z⟩ := y.forget i
  exact ⟨_, _, _, z.chg i t' (set_none_at ρ i)⟩
theorem SR.unblank {t' : Ty} {i : Nat} (x : SR fr K (Γ.set i t') ρ σ ts H) : SR fr K Γ (ρ.set i none) σ ts H := by
  cases e : Γ[i]? with
  | none =>
    have hn : Γ.length ≤ i := List.getElem?_eq_none_iff.mp e
    rw [List.set_eq_of_length_le hn] at x
    obtain ⟨G, F1, F2, y⟩ := x
    obtain ⟨F3, z⟩ := y.forget i
    exact ⟨_, _, _, z⟩
  | some t =>
    have y := x.blank i t
    rw [List.set_set] at y
    have e2 : Γ.set i t = Γ := by
      refine List.ext_getElem? fun j => ?_
      by_cases hj : i = j
      · subst hj
        rw [List.getElem?_set_self (List.getElem?_eq_some_iff.mp e).1, e]
      · rw [List.getElem?_set_ne hj]
    rwa [e2] at y
theorem put_same {i : Nat} {d : D} (h : get ρ i = some d) : put (ρ.set i none) i d = ρ := by
  unfold put
  rw [List.set_set]
  have h2 := get_some h
  refine List.ext_getElem? fun j => ?_
  by_cases hj : i = j
  · subst hj
    rw [List.getElem?_set_self (List.getElem?_eq_some_iff.mp h2).1, h2]
  · rw [List.getElem?_set_ne hj]
/-- an own thing becomes everybody's -/
theorem SR.freeze (x : SR fr K Γ ρ σ ts H) (i : Nat) (pl : ∀ t, Γ[i]? = some t → t.plain = true) : SR fr K (Γ.set i .fro) ρ σ ts H := by
  cases e : get ρ i with
  | none =>
    obtain ⟨G, F1, F2, y⟩ := x
    refine ⟨_, _, _, y.chg i .fro ?_⟩
    unfold get at e
    cases e2 : ρ[i]? with
    | none => exact .inr rfl
    | some o =>
      rw [e2] at e
      cases o with
      | none => exact .inl rfl
      | some d => cases e
  | some d =>
    obtain ⟨G, F1, F2, y⟩ := x
    obtain ⟨t, v, F3, F4, g1, g2, z⟩ := y.takeOut e
    obtain ⟨G', F5, z2⟩ := z.give (pl _ g1)
    have z3 := z2.chg i .fro (set_none_at ρ i)
    have hl := (List.getElem?_eq_some_iff.mp g1).1
    have hr := (List.getElem?_eq_some_iff.mp (get_some e)).1
    obtain ⟨F6, F7, z4⟩ := z3.putBack (by rw [List.getElem?_set_self hr]) (by rw [List.getElem?_set_self hl]) g2
    rw [put_same e] at z4
    exact ⟨_, _, _, z4⟩
end
section
variable {X : Cx} {Φ : Cf} {fr : Fr} {Γ : List Ty} {w : Ty} {ret : Ty} {wx : Xw} {pos : Pos} {c : Ct} {P P' : List Nat}
theorem Out.wipe {K : PySem.W.Frag} {ts : List Tm} {D : Ends} {i : Nat} {t' : Ty} {r : Rs} (h : Out fr Γ ret wx K ts D (rsWipe i r)) : Out fr (Γ.set i t') ret wx K ts D r := by
  cases r with
  | nx ρ => exact fun σ H s => h σ H s.unblank
  | brk ρ => exact fun σ H s => h σ H s.unblank
  | cnt ρ => exact fun σ H s => h σ H s.unblank
  | ret d ρ => exact fun v σ H us s => h v σ H us s.unblank
  | exn x fs ρ => exact fun σ H us vs C dd s => h σ H us vs C dd s.unblank
theorem ss_fz (i : Nat) {rest : List Stmt} {ss : Ss} (h2 : PSs X rest (tSs Φ fr (Γ.set i .fro) ret wx X.K ss)) (pl : ((Γ[i]?).getD .fro).plain = true := by rfl) : PSs X rest (tSs Φ fr Γ ret wx X.K (.fz i ss)) := by
  refine PSs_mono h2 fun D σ H h => ?_
  obtain ⟨ρ, ts, r, sr, he, q⟩ := h
  obtain ⟨r0, e1, rfl⟩ := map_inv (show (exSs Φ ss ρ).map (rsWipe i) = some r from he)
  exact ⟨ρ, ts, r0, sr.freeze i (fun t h => by rw [h] at pl; exact pl), e1, q.wipe⟩
theorem ss_reb (gd : Gd X c) (hp : Pin P fr) (i : Nat) (t : Ty) {x : Str} {e : Expr} {ee : E} {px : Pos} {rest : List Stmt} {ss : Ss} (he : PE X e (tE Φ fr X.K Γ t ee)) (h : (sC c (Γ.set i t) P i x t && noComp e) = true)
    (h2 : PSs X rest (tSs Φ fr (Γ.set i t) ret wx X.K ss)) : PSs X (.Assign [.Name x px] e pos :: rest) (tSs Φ fr Γ ret wx X.K (.reb i t ee ss)) := by
  obtain ⟨h, h7⟩ := Bool.and_eq_true_iff.mp h
  obtain ⟨g1, g2, g3, g4, g5, g6⟩ := sC_of gd hp h
  refine PSs_mono (pss_cons (ps_set g1 g2 g3 he (swaps_no h7) g4) h2) fun D σ H h => ?_
  obtain ⟨ρ, ts, r, sr, he, q⟩ := h
  obtain ⟨ra, e1, he⟩ := bind_inv (show (ev Φ ee ρ).bind _ = some r from he)
  obtain ⟨r0, e2, rfl⟩ := map_inv he
  refine ⟨ρ, ts, ra, sr, e1, fun v H1 s1 => ⟨_, ts, r0, ?_, e2, q.wipe⟩⟩
  have s2 := (s1.blank i t).setSlot g5 g6
  have e3 : put (ra.2.set i none) i ra.1 = put ra.2 i ra.1 := by
    unfold put
    rw [List.set_set]
  rwa [e3] at s2
/-! ### the module's constants -/
theorem k_gi (gd : Gd X c) {x : Str} (n : Int) (h : (glC c x && !(x == ("__debug__" : Str)) && decide ((x, n) ∈ c.gl)) = true) : PE X (.Name x pos) (tE Φ fr X.K Γ w (.gl x (.int n))) := by
  obtain ⟨h, h3⟩ := Bool.and_eq_true_iff.mp h
  obtain ⟨h1, h2⟩ := Bool.and_eq_true_iff.mp h
  obtain ⟨t, hm⟩ := gd.gl _ (of_decide_eq_true h3)
  have hp : PE X (.Name x pos) (tC (.int n)) := pe_glob (glC_of gd h1) hm ⟨t, rfl⟩ (by simpa using h2)
  refine PE_mono hp fun σ H Q h => ?_
  obtain ⟨ρ, ts, r, sr, he, q⟩ := h
  have he : some (.int n, ρ) = some r := he
  cases he
  exact q _ _ (sr.res rfl fun G => .int n)
end
end Vw
namespace Vw
open PySem PySem.Spec PyProof.Rows L2
section
variable {X : Cx} {Φ : Cf} {fr : Fr} {Γ : List Ty} {w : Ty} {pos : Pos} {c : Ct}
/-! ### is True, is not False .. of a bool; repr of a bool -/
def rIsb (ng : Bool) : R2 := fun x y H Q => ∃ a b, x = .bl a ∧ y = .bl b ∧ Q (.bl (decide (a = b) != ng)) H
theorem op_isbG (ng : Bool) : OpR X (compareOp (if ng then .IsNot else .Is)) (rIsb ng) := by
  cases ng with
  | true =>
    intro pins s σ H x y v u Q I rx ry h
    obtain ⟨a, b, h1, h2, q⟩ := h
    exact op_isnot_bl pins s σ H x y v u Q I rx ry ⟨a, b, h1, h2, by rw [Bool.bne_true] at q; exact q⟩
  | false =>
    intro pins s σ H x y v u Q I rx ry h
    obtain ⟨a, b, h1, h2, q⟩ := h
    exact op_is_bl pins s σ H x y v u Q I rx ry ⟨a, b, h1, h2, by rw [Bool.bne_false] at q; exact q⟩
theorem m_isb {K : PySem.W.Frag} (ng v : Bool) {ea : E} {σ : Sg} {H : Hp} {Q : VK} (h : tE Φ fr K Γ w (.isb ng v ea) σ H Q) : tOp (rIsb ng) (tE Φ fr K Γ .fro ea) (tC (.bl v)) σ H Q := by
  obtain ⟨ρ, ts, r, sr, he, q⟩ := h
  obtain ⟨ra, e1, he⟩ := bind_inv he
  refine ⟨ρ, ts, ra, sr, e1, fun u H1 s1 => ?_⟩
  obtain ⟨G, F1, F2, y⟩ := id s1
  have rp := y.last1 rfl
  clear e1
  obtain ⟨d, ρ1⟩ := ra
  cases d with
  | bool b =>
    cases rp
    cases he
    exact ⟨b, v, rfl, rfl, q _ _ (s1.drop.res rfl (rp_bl _))⟩
  | _ => cases he
theorem k_isb (ng v : Bool) {a : Expr} {j : Nat} {p : Pos} {ea : E} (ha : PE X a (tE Φ fr X.K Γ .fro ea)) : PE X (.Compare a [if ng then .IsNot else .Is] [.Constant (.bool v) j p] pos) (tE Φ fr X.K Γ w (.isb ng v ea)) :=
  PE_mono (pe_cmpR (op_isbG ng) ha pe_bl (nobehind _ (isop_in ng).1 (isop_in ng).2)) fun σ H Q h => m_isb ng v h
theorem k_isbT (ng v : Bool) {a : Expr} {j : Nat} {p : Pos} {ea : E} (ha : PE X a (tE Φ fr X.K Γ .fro ea)) : PT X (.Compare a [if ng then .IsNot else .Is] [.Constant (.bool v) j p] pos) (tT Φ fr X.K Γ (.e (.isb ng v ea))) :=
  t_cmp (pt_cmpR (op_isbG ng) ha pe_bl (nobehind _ (isop_in ng).1 (isop_in ng).2)) rfl fun σ H Q h => m_isb ng v h
theorem call_repr_bl : CallR X (.builtin "repr") (fun xs H Q => ∃ b : Bool, xs = [.bl b] ∧ Q (.str (if b then "True" else "False")) H) := by
  intro pins s σ H xs us Q I r h
  obtain ⟨b, rfl, q⟩ := h
  obtain ⟨u, rfl, rx⟩ := vals1 r
  obtain rfl : u = Value.bool b := rx
  exact PySem.P.repr_of_bool ⟨.str _, H, I.tok _, ⟨_, rfl⟩, q⟩
theorem repD_inv {x d : D} (h : repD x = some d) : ∃ b : Bool, x = .bool b ∧ d = .str (if b then "True" else "False") := by
  cases x with
  | bool b =>
    cases b <;> cases h
    · exact ⟨false, rfl, rfl⟩
    · exact ⟨true, rfl, rfl⟩
  | _ => cases h
theorem k_rep (gd : Gd X c) {a : Expr} {ea : E} {p : Pos} (ha : PE X a (tE Φ fr X.K Γ .fro ea)) (h : (noStar a && blC c "repr") = true) : PE X (.Call (.Name "repr" p) [a] [] pos) (tE Φ fr X.K Γ w (.rep ea)) := by
  obtain ⟨h1, h2⟩ := Bool.and_eq_true_iff.mp h
  refine PE_mono (pe_callB call_repr_bl (blC_of gd h2).1 (blC_of gd h2).2 (by decide +kernel) (pa_cons ha pa_nil (star_cons h1)) (by decide) (by decide) (star_cons h1) rfl) fun σ H Q h => ?_
  obtain ⟨ρ, ts, r, sr, he, q⟩ := h
  obtain ⟨ra, e1, he⟩ := bind_inv he
  obtain ⟨d, e2, rfl⟩ := map_inv he
  refine ⟨ρ, ts, ra, sr, e1, fun v H1 s1 => ?_⟩
  obtain ⟨G, F1, F2, y⟩ := id s1
  have rp := y.last1 rfl
  clear e1
  obtain ⟨d1, ρ1⟩ := ra
  obtain ⟨b, q1, rfl⟩ := repD_inv e2
  have q1 : d1 = .bool b := q1
  subst q1
  cases rp
  exact ⟨b, rfl, q _ _ (s1.drop.res rfl fun G => .str _)⟩
end
end Vw
namespace Vw
open PySem PySem.Spec PyProof.Rows L2
/-! ### raise, calls that may raise, try -/
section
variable {fr : Fr} {K : PySem.W.Frag} {G G' H H' : Hp} {F1 F2 : List Addr} {Γ : List Ty} {ρ : Rho} {σ : Sg} {ts us : List Tm}
/-- behind a call that owns nothing -/
theorem SRd.jump (x : SRd fr K G F1 F2 Γ ρ σ ts H) (sG : Same G G') (sub : Same G' H') (keep : ∀ a o, H a = some o → Kp o (H' a)) (mono : ∀ a, H' a = none → H a = none) (nG : ∀ a, G' a ≠ none → G a ≠ none ∨ H a = none) (tb : Tabs K G' H') : SRd fr K G' F1 F2 Γ ρ σ ts H' := by
  have st : ∀ a ∈ F1 ++ F2, H' a = H a := fun a ha => by
    obtain ⟨ws, eh, hm⟩ := x.there a ha
    rw [eh]
    exact (keep _ _ eh).mine hm
  refine ⟨sub, x.sl.stay sG (fun a ha => st a (List.mem_append_left _ ha)), x.tm.stay sG (fun a ha => st a (List.mem_append_right _ ha)), x.nd, fun a ha => ⟨?_, (x.out a ha).2⟩, fun a o e hF => (x.ok.keep a o e hF).trans fun u hu => keep _ _ hu, fun a e => x.ok.mono a (mono a e), fun a o e => sG _ _ (x.ok.sG a o e), fun a h => ?_, x.ok.pin, tb⟩
  · cases e : G' a with
    | none => rfl
    | some o =>
      obtain ⟨ws, eh, _⟩ := x.there a ha
      rcases nG a (by rw [e]; exact fun z => nomatch z) with h | h
      · exact absurd (x.out a ha).1 h
      · rw [eh] at h
        cases h
  · rcases nG a h with h | h
    · exact x.ok.nG a h
    · exact .inr (.inr (x.ok.mono a h))
theorem SRd.segment {ds : List D} {vs : List V} (x : SRd fr K G F1 F2 Γ ρ σ (ts ++ tms .fro ds vs ++ us) H) (hl : vs.length = ds.length) : RpAll K G vs ds := by
  obtain ⟨F3, y⟩ := x.drop
  obtain ⟨F4, F5, _, _, t2⟩ := y.tm.app
  have rs := t2.alls tms_t
  rwa [tms_d hl, tms_v hl] at rs
theorem SRd.seg (x : SRd fr K G F1 F2 Γ ρ σ (ts ++ tms .fro ds vs) H) (hl : vs.length = ds.length) : RpAll K G vs ds := by
  obtain ⟨F4, F5, _, _, t2⟩ := x.tm.app
  have rs := t2.alls tms_t
  rwa [tms_d hl, tms_v hl] at rs
end
section
variable {X : Cx} {c : Ct} {Φ : Cf} {fr : Fr} {Γ : List Ty} {w : Ty} {ret : Ty} {wx : Xw} {pos : Pos} {P P' : List Nat}
/-- raise x(a, b) -/
theorem s_rse {x : Str} {a b : Expr} {es : Es} {p ps p2 : Pos} (gx : Gx X wx) (gd : Gd X c) (kl : Kls X x) (ha : PA X [a, b] (tEs Φ fr X.K Γ .fro es)) (h : (noStar a && noStar b && glC c x && !(x == ("__debug__" : Str))) = true) :
    PS X (.Raise (some (.Call (.Name x p) [a, b] [] ps)) none p2) (tS Φ fr Γ ret wx X.K (.rse x [PySem.Str.ofString "rule", PySem.Str.ofString "index"] es)) := by
  simp only [Bool.and_eq_true, Bool.not_eq_true'] at h
  obtain ⟨⟨⟨h1, h2⟩, h3⟩, h4⟩ := h
  obtain ⟨C, eC, mC, ms, _, _, _⟩ := kl.at_.ex
  refine PS_mono (ps_raise gd.calm gx.tk (pmk2 eC mC ms kl.rm (Nat.le_refl _) ha (glC_of gd h3) h4 (star_cons h1) (stars_plain (by show (noStar b && true) = true; rw [h2]; rfl)))) fun D σ H h => ?_
  obtain ⟨ρ, ts, r, sr, he, q⟩ := h
  obtain ⟨ra, e1, he⟩ := bind_inv he
  split at he
  · rename_i hl
    cases he
    refine ⟨ρ, ts, ra, sr, e1, fun vs H1 hv s1 => ?_⟩
    obtain ⟨ds, ρ1⟩ := ra
    have hl : 2 = ds.length := hl
    have hv : vs.length = ds.length := hv
    match ds, vs, hl, hv with
    | [d1, d2], [v1, v2], _, _ =>
      refine ⟨v1, v2, rfl, fun d hd => ?_⟩
      obtain ⟨G, F1, F2, y⟩ := s1
      have mC' : wx.mg x = some (.ref C) := by
        rw [← gx.mg]
        exact mC
      exact q σ _ [] [v1, v2] C d ⟨_, _, _, by rw [List.append_nil]; exact (y.fresh hd).1⟩ rfl mC' upd_same
  · cases he
/-! calls -/
def esN : Es → Nat
  | .nil => 0
  | .cons _ es => esN es + 1
theorem evs_len : ∀ {es : Es} {ρ : Rho} {r : List D × Rho}, evs Φ es ρ = some r → r.1.length = esN es
  | .nil, _, _, h => by
    cases h
    rfl
  | .cons e es, ρ, r, h => by
    obtain ⟨ra, e1, h⟩ := bind_inv h
    obtain ⟨rb, e2, rfl⟩ := map_inv h
    show _ + 1 = _ + 1
    rw [evs_len e2]
variable (Φ fr Γ ret wx w) in
def tCx (K : PySem.W.Frag) (f : Str) (es : Es) : TE := fun σ H Q => ∃ ρ ts rr xr, SR fr K Γ ρ σ ts H ∧ evs Φ es ρ = some rr ∧ Φ.fx f rr.1 = some xr ∧ match xr with
  | .ret d _ => ∀ v H', SR fr K Γ rr.2 σ (ts ++ [⟨w, d, v⟩]) H' → Q v H'
  | .exn x fs => Out fr Γ ret wx K ts { nx := fun _ _ => False, rt := fun _ _ => False } (.exn x fs rr.2)
theorem all_fro {g : Sig} {ds : List D} {vs : List V} (hp : (g.ps.all fun t => decide (t = .fro)) = true) (hl : vs.length = ds.length) (hg : g.ps.length = ds.length) : (tms .fro ds vs).map Tm.t = g.ps := by
  have h1 : (tms .fro ds vs).map Tm.t = (tms .fro ds vs).map (fun _ => Ty.fro) := List.map_congr_left fun x hx => tms_t x hx
  have h2 : g.ps = g.ps.map (fun _ => Ty.fro) := by
    have : g.ps.map id = g.ps.map (fun _ => Ty.fro) := List.map_congr_left fun t ht => of_decide_eq_true (List.all_eq_true.mp hp t ht)
    rwa [List.map_id] at this
  rw [h1, h2, List.map_const', List.map_const', hg]
  have e9 := congrArg List.length (tms_d (w := .fro) hl)
  rw [List.length_map] at e9
  rw [e9]
theorem e_cx {x : Str} {g : Sig} {es : Es} {args : List Expr} {p : Pos} (gx : Gx X wx) (gd : Gd X c) (cal : CalX X Φ x g) (ha : PA X args (tEs Φ fr X.K Γ .fro es))
    (h : (noStars args && !args.isEmpty && glC c x && !(x == ("__debug__" : Str)) && decide (w = g.ret) && (g.ps.all fun t => decide (t = .fro)) && decide (g.ps.length = esN es)) = true) :
    PE X (.Call (.Name x p) args [] pos) (tCx Φ fr Γ w ret wx X.K x es) := by
  obtain ⟨k, f, fd, ps, F, hr, hm, hk, hb⟩ := cal.ex
  simp only [Bool.and_eq_true, decide_eq_true_eq, Bool.not_eq_true'] at h
  obtain ⟨⟨⟨⟨⟨⟨h1, h2⟩, h3⟩, h4⟩, h5⟩, h6⟩, h7⟩ := h
  cases args with
  | nil => cases h2
  | cons e1 es1 =>
    obtain ⟨g1, g2⟩ := Bool.and_eq_true_iff.mp (show (noStar e1 && noStars es1) = true from h1)
    refine PE_mono (pe_callS F hr (glC_of gd h3) hm hk hb (fun σ => passAt gx.tk σ) ha h4 (star_cons g1) (stars_plain g2)) fun σ H Q h => ?_
    obtain ⟨ρ, ts, rr, xr, sr, e1, e2, q⟩ := h
    refine ⟨ρ, ts, rr, sr, e1, fun vs H1 hl s1 => ?_⟩
    obtain ⟨G, F1, F2, y⟩ := s1
    have rs := y.seg hl
    have hps := all_fro (g := g) (ds := rr.1) (vs := vs) h6 hl (by rw [h7, evs_len e1])
    obtain ⟨F3, y2⟩ := y.drop
    refine ⟨G, tms .fro rr.1 vs, xr, tms_v hl, hps, y.sub, tms_of (w := w) rs, y2.ok.tab, by rw [tms_d hl]; exact e2, ?_⟩
    cases xr with
    | ret d o =>
      intro v H' ce
      obtain ⟨G', xs', FA, FR, sG, sub', c1, c2, c3, tmA, tR, nd', out', keep', mono', nG', tab'⟩ := ce
      have y3 : SRd fr X.K G' F1 F3 Γ rr.2 σ ts H' := y2.jump sG sub' (fun a o e => keep' a o e (by intro z; cases z)) mono' (fun a h => (nG' a h).elim .inl fun h => h.elim (fun z => by cases z) .inr) tab'
      refine q v H' ⟨G', F1, F3 ++ FR, y3.sub, y3.sl, y3.tm.of_app (TmF.of_one (by rw [h5]; exact tR)), ?_, fun a ha => ?_, y3.ok⟩
      · rw [← List.append_assoc]
        refine List.nodup_append.mpr ⟨y3.nd, nd'.sublist (List.sublist_append_right _ _), fun a ha b hb e => ?_⟩
        subst e
        obtain ⟨ws, eh, _⟩ := y2.there a ha
        rcases (out' a (List.mem_append_right _ hb)).2 with h | h
        · cases h
        · rw [eh] at h
          cases h
      · rw [← List.append_assoc] at ha
        rcases List.mem_append.mp ha with ha | ha
        · exact y3.out a ha
        · obtain ⟨o1, o2⟩ := out' a (List.mem_append_right _ ha)
          refine ⟨o1, .inr ?_⟩
          rcases o2 with h | h
          · cases h
          · exact y2.ok.mono a h
    | exn z fs =>
      intro C dd vs' H' hC hv' xe hd
      obtain ⟨G', sG, sub', rv, keep', mono', nG', tab'⟩ := xe
      have y3 : SRd fr X.K G' F1 F3 Γ rr.2 σ ts H' := y2.jump sG sub' keep' mono' nG' tab'
      exact q σ H' [] vs' C dd ⟨G', F1, F3, by rw [List.append_nil]; exact y3.pushes rv⟩ hv' (by rw [← gx.mg]; exact hC) hd
/-- .. in an expression: where it does not raise -/
theorem e_cxe {x : Str} {es : Es} {e : Expr} (he : PE X e (tCx Φ fr Γ w ret wx X.K x es)) : PE X e (tE Φ fr X.K Γ w (.cxe x es)) := by
  refine PE_mono he fun σ H Q h => ?_
  obtain ⟨ρ, ts, r, sr, he, q⟩ := h
  obtain ⟨ra, e1, he⟩ := bind_inv he
  obtain ⟨xr, e2, he⟩ := bind_inv he
  cases xr with
  | ret d o =>
    cases he
    exact ⟨ρ, ts, ra, .ret d o, sr, e1, e2, fun v H1 s1 => q v H1 s1⟩
  | exn z fs => cases he
/-! the statements -/
theorem s_cx {x : Str} {es : Es} {args : List Expr} {p cp : Pos} (he : PE X (.Call (.Name x p) args [] cp) (tCx Φ fr Γ .fro ret wx X.K x es)) : PS X (.Expr (.Call (.Name x p) args [] cp) pos) (tS Φ fr Γ ret wx X.K (.cx x es)) := by
  refine PS_mono (ps_expr he (swaps_no rfl)) fun D σ H h => ?_
  obtain ⟨ρ, ts, r, sr, he, q⟩ := h
  obtain ⟨ra, e1, he⟩ := bind_inv he
  obtain ⟨xr, e2, he⟩ := bind_inv he
  refine ⟨ρ, ts, ra, xr, sr, e1, e2, ?_⟩
  cases xr with
  | ret d o =>
    cases he
    exact fun v H1 s1 => q σ H1 s1.drop
  | exn z fs =>
    cases he
    exact q
theorem s_rtx {x : Str} {es : Es} {args : List Expr} {p cp : Pos} (he : PE X (.Call (.Name x p) args [] cp) (tCx Φ fr Γ ret ret wx X.K x es)) : PS X (.Return (some (.Call (.Name x p) args [] cp)) pos) (tS Φ fr Γ ret wx X.K (.rtx x es)) := by
  refine PS_mono (ps_ret he) fun D σ H h => ?_
  obtain ⟨ρ, ts, r, sr, he, q⟩ := h
  obtain ⟨ra, e1, he⟩ := bind_inv he
  obtain ⟨xr, e2, he⟩ := bind_inv he
  refine ⟨ρ, ts, ra, xr, sr, e1, e2, ?_⟩
  cases xr with
  | ret d o =>
    cases he
    exact fun v H1 s1 => q v σ H1 [] (by rw [List.append_nil]; exact s1)
  | exn z fs =>
    cases he
    exact q
theorem s_sx {i : Nat} {t : Ty} {y : Str} {py : Pos} {x : Str} {es : Es} {args : List Expr} {p cp : Pos} (gd : Gd X c) (hp : Pin P fr) (h : sC c Γ P i y t = true) (he : PE X (.Call (.Name x p) args [] cp) (tCx Φ fr Γ t ret wx X.K x es)) : PS X (.Assign [.Name y py] (.Call (.Name x p) args [] cp) pos) (tS Φ fr Γ ret wx X.K (.sx i x es)) := by
  obtain ⟨h1, h2, h3, h4, h5, h6⟩ := sC_of gd hp h
  refine PS_mono (ps_set h1 h2 h3 he (swaps_no rfl) h4) fun D σ H h => ?_
  obtain ⟨ρ, ts, r, sr, he, q⟩ := h
  obtain ⟨ra, e1, he⟩ := bind_inv he
  obtain ⟨xr, e2, he⟩ := bind_inv he
  refine ⟨ρ, ts, ra, xr, sr, e1, e2, ?_⟩
  cases xr with
  | ret d o =>
    cases he
    exact fun v H1 s1 => q _ _ (s1.setSlot h5 h6)
  | exn z fs =>
    cases he
    exact q
theorem s_ifx (ng : Bool) {x : Str} {es : Es} {args : List Expr} {p cp np ip : Pos} {j : Nat} {a b : List Stmt} {sa sb : Ss} (he : PE X (.Call (.Name x p) args [] cp) (tCx Φ fr Γ .fro ret wx X.K x es)) (ha : PSs X a (tSs Φ fr Γ ret wx X.K sa)) (hb : PSs X b (tSs Φ fr Γ ret wx X.K sb)) :
    PS X (.If (.Compare (.Call (.Name x p) args [] cp) [if ng then .IsNot else .Is] [.Constant .none j np] ip) a b pos) (tS Φ fr Γ ret wx X.K (.ifx ng x es sa sb)) := by
  refine PS_mono (ps_if (pt_cmpR (op_isG ng) he pe_non (nobehind _ (isop_in ng).1 (isop_in ng).2)) ha hb) fun D σ H h => ?_
  obtain ⟨ρ, ts, r, sr, he, q⟩ := h
  obtain ⟨ra, e1, he⟩ := bind_inv he
  obtain ⟨xr, e2, he⟩ := bind_inv he
  refine ⟨ρ, ts, ra, xr, sr, e1, e2, ?_⟩
  cases xr with
  | ret d o =>
    intro v H1 s1
    have hn : decide (v = .non) = isNone d := by
      obtain ⟨G, F1, F2, y⟩ := id s1
      have rd := y.last1 rfl
      cases rd <;> rfl
    refine ⟨rfl, _, rfl, ?_⟩
    rw [hn]
    have he : (if (isNone d != ng) = true then exSs Φ sa ra.2 else exSs Φ sb ra.2) = some r := he
    show if (isNone d != ng) = true then tSs Φ fr Γ ret wx X.K sa D σ H1 else tSs Φ fr Γ ret wx X.K sb D σ H1
    by_cases hd : (isNone d != ng) = true
    · rw [if_pos hd] at he ⊢
      exact ⟨_, ts, r, s1.drop, he, q⟩
    · rw [if_neg hd] at he ⊢
      exact ⟨_, ts, r, s1.drop, he, q⟩
  | exn z fs =>
    cases he
    exact q
end
/-! ### the except suite -/
section
variable {X : Cx} {c : Ct} {Φ : Cf} {fr : Fr} {Γ : List Ty} {pos : Pos} {a C : Addr} {dd : Addr} {oe : Obj} {pn : List (Addr × Obj)} {x : Str} {i : Nat}
theorem zip_look : ∀ {fs : Fs} {vs : List V} {f : Str} {d : D} {K : PySem.W.Frag} {G : Hp}, RpAll K G vs (fs.map (·.2)) → fs.lookup f = some d → ∃ v, ((fs.map (·.1)).zip vs).lookup f = some v ∧ Rp K G v d
  | [], _, _, _, _, _, _, e => by cases e
  | (y, e0) :: fs, [], _, _, _, _, h, _ => by cases h
  | (y, e0) :: fs, v :: vs, f, d, K, G, h, e => by
    cases h with
    | cons h1 h2 =>
      show ∃ u, ((y, v) :: (fs.map (·.1)).zip vs).lookup f = some u ∧ Rp K G u d
      rw [List.lookup_cons] at e ⊢
      by_cases hy : (f == y) = true
      · rw [hy] at e ⊢
        cases e
        exact ⟨v, rfl, h1⟩
      · have hy : (f == y) = false := by simpa using hy
        rw [hy] at e ⊢
        exact zip_look h2 e

variable (fr Γ x i a dd) in
def tH (K : PySem.W.Frag) (hx : Hx) : TE := fun σ H Q => ∃ ρ fs vs ts d, SR fr K Γ ρ σ (tms .fro (fs.map (·.2)) vs ++ ts) H ∧ vs.length = fs.length ∧ H dd = some (xdOf fs vs) ∧ ρ[i]? = some none ∧ σ[i]? = some (some (.ref a)) ∧ hxD x fs ρ hx = some d ∧
  ∀ v H', SR fr K Γ ρ σ (tms .fro (fs.map (·.2)) vs ++ ts ++ [⟨.fro, d, v⟩]) H' → H' dd = some (xdOf fs vs) → Q v H'
variable (fr Γ x i a dd) in
def tHs (K : PySem.W.Frag) (l : Hxs) : TA := fun σ H Q => ∃ ρ fs vs ts ds, SR fr K Γ ρ σ (tms .fro (fs.map (·.2)) vs ++ ts) H ∧ vs.length = fs.length ∧ H dd = some (xdOf fs vs) ∧ ρ[i]? = some none ∧ σ[i]? = some (some (.ref a)) ∧ hxsD x fs ρ l = some ds ∧
  ∀ us H', us.length = ds.length → SR fr K Γ ρ σ (tms .fro (fs.map (·.2)) vs ++ ts ++ tms .fro ds us) H' → H' dd = some (xdOf fs vs) → Q us H'
abbrev Su (X : Cx) (a : Addr) (oe : Obj) (pn : List (Addr × Obj)) : Cx := X.suite a ((a, oe) :: pn)
theorem h_k {e : Expr} {v : V} {d : D} (he : PE (Su X a oe pn) e (tC v)) (s : scalar d = true) (r : ∀ G, Rp X.K G v d) : PE (Su X a oe pn) e (tH fr Γ a dd x i X.K (.k d)) := by
  refine PE_mono he fun σ H Q h => ?_
  obtain ⟨ρ, fs, vs, ts, d', sr, hl, hd, hi, hs, he, q⟩ := h
  have he : (if scalar d = true then some d else none) = some d' := he
  rw [if_pos s] at he
  cases he
  exact q _ _ (sr.res s r) hd
theorem h_v {j : Nat} {y : Str} (hN : X.N[j]? = some y) (hv : Vis X.env.scope y) (hw : Γ[j]? = some .fro) (hdb : (y == ("__debug__" : Str)) = false) (hcd : (y == ("__classdict__" : Str)) = false) : PE (Su X a oe pn) (.Name y pos) (tH fr Γ a dd x i X.K (.v j)) := by
  refine PE_mono (pe_var (X := Su X a oe pn) hN hv hdb hcd) fun σ H Q h => ?_
  obtain ⟨ρ, fs, vs, ts, d', ⟨G, F1, F2, y⟩, hl, hd, hi, hs, he, q⟩ := h
  obtain ⟨v, g1, g2⟩ := y.slot he hw
  exact ⟨v, g1, q _ _ ⟨G, F1, F2, y.push g2⟩ hd⟩
theorem h_xf {f y : Str} {py : Pos} (T : XfC X.K C) (hno : PySem.W.findIn X.K (.ref C) f = some none) (hz : Zc (.ref C) (some dd) oe) (hf : ∃ vs, oe.data = .fields vs) (hN : X.N[i]? = some y) (hv : Vis X.env.scope y) (hdb : (y == ("__debug__" : Str)) = false) (hcd : (y == ("__classdict__" : Str)) = false) :
    PE (Su X a oe pn) (.Attribute (.Name y py) f pos) (tH fr Γ a dd x i X.K (.xf f)) := by
  refine PE_mono (pe_xf T hno hz hf (pe_var (X := Su X a oe pn) hN hv hdb hcd) rfl) fun σ H Q h => ?_
  obtain ⟨ρ, fs, vs, ts, d', ⟨G, F1, F2, y⟩, hl, hd, hi, hs, he, q⟩ := h
  have rs : RpAll X.K G vs (fs.map (·.2)) := SRd.segment (ts := []) (us := ts) y (by rw [List.length_map]; exact hl)
  obtain ⟨v, l, rv⟩ := zip_look rs he
  exact ⟨.ref a, hs, rfl, rfl, dd, _, v, rfl, hd, l, q v H ⟨G, F1, F2, y.push rv⟩ hd⟩
theorem hs_nil : PA (Su X a oe pn) [] (tHs fr Γ a dd x i X.K .nil) := by
  refine PA_mono pa_nil fun σ H Q h => ?_
  obtain ⟨ρ, fs, vs, ts, d', sr, hl, hd, hi, hs, he, q⟩ := h
  have he : some [] = some d' := he
  cases he
  exact q [] H rfl (by rw [show tms .fro [] [] = [] from rfl, List.append_nil]; exact sr) hd
theorem hs_cons {e : Expr} {es : List Expr} {h : Hx} {l : Hxs} (ha : PE (Su X a oe pn) e (tH fr Γ a dd x i X.K h)) (hb : PA (Su X a oe pn) es (tHs fr Γ a dd x i X.K l)) (hs : noStar e = true) : PA (Su X a oe pn) (e :: es) (tHs fr Γ a dd x i X.K (.cons h l)) := by
  refine PA_mono (pa_cons ha hb (star_cons hs)) fun σ H Q h => ?_
  obtain ⟨ρ, fs, vs, ts, d', sr, hl, hd, hi, hs, he, q⟩ := h
  obtain ⟨d1, e1, he⟩ := bind_inv he
  obtain ⟨ds, e2, rfl⟩ := map_inv he
  refine ⟨ρ, fs, vs, ts, d1, sr, hl, hd, hi, hs, e1, fun v H1 s1 hd1 => ⟨ρ, fs, vs, ts ++ [⟨.fro, d1, v⟩], ds, by rw [← List.append_assoc]; exact s1, hl, hd1, hi, hs, e2, fun us H2 hu s2 hd2 => q (v :: us) H2 (by simp [hu]) ?_ hd2⟩⟩
  rw [← List.append_assoc, List.append_assoc] at s2
  exact s2
theorem h_tup {es : List Expr} {l : Hxs} {k : Nat} (ha : PA (Su X a oe pn) es (tHs fr Γ a dd x i X.K l)) : PE (Su X a oe pn) (.Tuple es k pos) (tH fr Γ a dd x i X.K (.tup l)) := by
  refine PE_mono (pe_tup ha) fun σ H Q h => ?_
  obtain ⟨ρ, fs, vs, ts, d', sr, hl, hd, hi, hs, he, q⟩ := h
  obtain ⟨ds, e1, he⟩ := bind_inv he
  split at he
  · rename_i c
    cases he
    refine ⟨ρ, fs, vs, ts, ds, sr, hl, hd, hi, hs, e1, fun us H1 hu s1 hd1 => ⟨by rw [hu]; exact lenOk_of c, fun p hp => ?_⟩⟩
    obtain ⟨G, F1, F2, y⟩ := id s1
    have rs := y.seg hu
    obtain ⟨F5, y2⟩ := y.drop
    exact q _ _ (y2.newTup rs hp) (by rw [upd_ne (ne_of_none hd1 hp)]; exact hd1)
  · cases he
variable (fr Γ x i a dd) in
def tHb (K : PySem.W.Frag) (h : Hs) : TS := fun D σ H => ∃ ρ fs vs ts d, SR fr K Γ ρ σ (tms .fro (fs.map (·.2)) vs ++ ts) H ∧ vs.length = fs.length ∧ H dd = some (xdOf fs vs) ∧ ρ[i]? = some none ∧ σ[i]? = some (some (.ref a)) ∧ hsD x fs ρ h = some d ∧
  ∀ v H', SR fr K Γ ρ σ (tms .fro (fs.map (·.2)) vs ++ ts ++ [⟨.fro, d, v⟩]) H' → D.rt v H'
theorem hb_ret {e : Expr} {h : Hx} (ha : PE (Su X a oe pn) e (tH fr Γ a dd x i X.K h)) : PSs (Su X a oe pn) [.Return (some e) pos] (tHb fr Γ a dd x i X.K (.ret h)) := by
  refine PSs_mono (pss_one (ps_ret ha)) fun D σ H h => ?_
  obtain ⟨ρ, fs, vs, ts, d, sr, hl, hd, hi, hs, he, q⟩ := h
  exact ⟨ρ, fs, vs, ts, d, sr, hl, hd, hi, hs, he, fun v H' s1 _ => q v H' s1⟩
/-- what is known of a class that is caught -/
structure KC (X : Cx) (x : Str) (C : Addr) : Prop where
  mg : X.mg x = some (.ref C)
  xc : XcC X.K C
  er : Ve.Err2 X.K X.prog C
  xf : XfC X.K C
theorem k_xf1 {y : Str} {py : Pos} (gd : Gd X c) (kc : KC X x C) (hz : Zc (.ref C) (some dd) oe) (hf : ∃ vs, oe.data = .fields vs) (h : vC c Γ i y .fro = true) : PE (Su X a oe pn) (.Attribute (.Name y py) "rule" pos) (tH fr Γ a dd x i X.K (.xf (PySem.Str.ofString "rule"))) := by
  obtain ⟨h1, h2, h3, h4, h5⟩ := vC_of gd h
  exact h_xf kc.xf kc.er.n1 hz hf h1 h2 h4 h5
theorem k_xf2 {y : Str} {py : Pos} (gd : Gd X c) (kc : KC X x C) (hz : Zc (.ref C) (some dd) oe) (hf : ∃ vs, oe.data = .fields vs) (h : vC c Γ i y .fro = true) : PE (Su X a oe pn) (.Attribute (.Name y py) "index" pos) (tH fr Γ a dd x i X.K (.xf (PySem.Str.ofString "index"))) := by
  obtain ⟨h1, h2, h3, h4, h5⟩ := vC_of gd h
  exact h_xf kc.xf kc.er.n2 hz hf h1 h2 h4 h5
theorem k_hv {j : Nat} {y : Str} (gd : Gd X c) (h : vC c Γ j y .fro = true) : PE (Su X a oe pn) (.Name y pos) (tH fr Γ a dd x i X.K (.v j)) := by
  obtain ⟨h1, h2, h3, h4, h5⟩ := vC_of gd h
  exact h_v h1 h2 h3 h4 h5
theorem k_hi {n : Int} {j : Nat} : PE (Su X a oe pn) (.Constant (.int n) j pos) (tH fr Γ a dd x i X.K (.k (.int n))) := h_k pe_int rfl fun G => .int n
theorem k_hs {z : Str} {j : Nat} : PE (Su X a oe pn) (.Constant (.str z) j pos) (tH fr Γ a dd x i X.K (.k (.str z))) := h_k pe_str rfl fun G => .str z
theorem s_tr {wx : Xw} {P : List Nat} {n : Str} {np pos' : Pos} {body suite : List Stmt} {b₀ : Stmt} {b : Ss} {hs : Hs} (gx : Gx X wx) (gd : Gd X c) (hp : Pin P fr) (kl : Kls X x)
    (h : (decide (c.N[i]? = some n) && decide (c.sc.names.lookup n = some .local) && decide (i ∉ P) && glC c x && !(x == ("__debug__" : Str))) = true)
    (hb : ∀ (X' : Cx), Gd X' c → (∀ j x g, Cal X Φ j x g → Cal X' Φ j x g) → (∀ x g, CalX X Φ x g → CalX X' Φ x g) → (∀ x, Kls X x → Kls X' x) → ∀ wx', Gx X' wx' → PSs X' body (tSs Φ fr Γ .fro wx' X'.K b))
    (hsu : ∀ (C : Addr), KC X x C → ∀ (a : Addr) (oe : Obj) (dd : Addr) (pn : List (Addr × Obj)), Zc (.ref C) (some dd) oe → (∃ vs, oe.data = .fields vs) → PSs (Su X a oe pn) (b₀ :: suite) (tHb fr Γ a dd x i X.K hs)) :
    PS X (.Try body [.ExceptHandler (some (.Name x np)) (some n) (b₀ :: suite) pos'] [] [] pos) (tS Φ fr Γ .fro wx X.K (.tr b x i hs)) := by
  simp only [Bool.and_eq_true, decide_eq_true_eq, Bool.not_eq_true'] at h
  obtain ⟨⟨⟨⟨h1, h2⟩, h3⟩, h4⟩, h5⟩ := h
  obtain ⟨C, er, kmg, _, kex, kxf, kxc⟩ := kl.at_.ex
  have hi : X.N[i]? = some n := by rw [gd.N]; exact h1
  have hln : X.env.kindOf n = some .local := by
    show X.env.scope.names.lookup n = _
    rw [gd.sc]
    exact h2
  refine PS_mono (ps_try_as (tb := fun W => tSs Φ fr Γ .fro ⟨wx.mg, W⟩ X.K b) (ts := fun a cls d D σ H => ∃ dd, cls = .ref C ∧ d = some dd ∧ tHb fr Γ a dd x i X.K hs D σ H) (Wout := wx.W) gx.stk gx.frm (by rw [gd.N]; exact gd.nd) hi hln ⟨glC_of gd h4, h5, .inl kmg⟩ gx.tk
    (fun W pn xe tk pa => hb (X.tr pn xe) ⟨gd.N, gd.nd, gd.sc, gd.kd, gd.calm, pa, gd.cl, gd.un, gd.bl, gd.gl, gd.ge⟩ (fun _ _ _ h => ⟨h.ex⟩) (fun _ _ h => ⟨h.ex⟩) (fun _ h => ⟨h.at_, h.rm⟩) ⟨wx.mg, W⟩ ⟨gx.mg, tk, gx.stk, gx.frm⟩)
    (fun a oe cls d pn hz hf => ⟨fun pins s σ H D I ⟨dd, e1, e2, h⟩ => by
      subst e1 e2
      exact (hsu C ⟨kmg, kxc, er, kxf⟩ a oe dd pn hz hf).run pins s σ H D I h⟩)) fun D σ H h => ?_
  obtain ⟨ρ, ts, r, sr, he, q⟩ := h
  obtain ⟨r0, e1, he⟩ := bind_inv he
  refine ⟨ρ, ts, r0, sr, e1, ?_⟩
  cases r0 with
  | nx ρ1 =>
    cases he
    exact q
  | brk ρ1 =>
    cases he
    exact q
  | cnt ρ1 =>
    cases he
    exact q
  | ret d ρ1 =>
    cases he
    exact q
  | exn y fs ρ1 =>
    have he2 : (if y = x ∧ i < ρ1.length then (hsD y fs (ρ1.set i none) hs).map fun d => Rs.ret d (ρ1.set i none) else none) = some r := he
    by_cases hy : y = x ∧ i < ρ1.length
    · rw [if_pos hy] at he2
      clear he
      obtain ⟨rfl, hlt⟩ := hy
      obtain ⟨d, e2, rfl⟩ := map_inv he2
      intro σ' H' us vs C' dd s1 hv hm hd
      have hC : C' = C := by
        have hm : wx.mg y = some (.ref C') := hm
        rw [← gx.mg, kmg] at hm
        cases hm
        rfl
      subst hC
      refine ⟨true, kex, fun _ a ha => ⟨dd, rfl, rfl, ρ1.set i none, fs, vs, ts ++ us, d, ?_, hv, hd, by rw [List.getElem?_set_self hlt], ?_, e2, fun v H2 s2 => q v (σ'.set i (some (.ref a))) H2 (us ++ tms .fro (fs.map (·.2)) vs) ?_⟩, fun z => nomatch z⟩
      · obtain ⟨G, F1, F2, y1⟩ := s1
        obtain ⟨F3, y2⟩ := y1.perm (List.perm_append_comm)
        obtain ⟨F4, y3⟩ := y2.forget i
        refine ⟨G, F4, F3, y3.sig (by rw [List.length_set]) (fun j d' hj => ?_) (fun p hpp => ?_)⟩
        · by_cases hji : j = i
          · subst hji
            rw [List.getElem?_set_self hlt] at hj
            cases hj
          · rw [List.getElem?_set_ne (Ne.symm hji)]
        · rw [List.getElem?_set_ne (fun z => h3 (by rw [z]; exact hp p hpp))]
      · obtain ⟨G, F1, F2, y1⟩ := s1
        have := y1.sl.lens.2
        rw [List.getElem?_set_self (by omega)]
      · obtain ⟨G, F1, F2, y1⟩ := s2
        have pp : (tms .fro (fs.map (·.2)) vs ++ (ts ++ us) ++ [(⟨.fro, d, v⟩ : Tm)]).Perm (ts ++ (us ++ tms .fro (fs.map (·.2)) vs) ++ [⟨.fro, d, v⟩]) := by
          refine List.Perm.append_right _ ?_
          rw [← List.append_assoc ts us]
          exact List.perm_append_comm
        obtain ⟨F3, y2⟩ := y1.perm pp
        exact ⟨_, _, _, y2⟩
    · rw [if_neg hy] at he2
      cases he2
end
end Vw
namespace Vw
open PySem PySem.Spec PyProof.Rows L2
/-! ### the except suite: tests -/
/-- isinstance(e, y) for an e of the class x -/
def IsP (x y : Str) (b : Bool) (K : PySem.W.Frag) (mg : Str → Option Value) : Prop := ∃ C W, mg x = some (.ref C) ∧ mg y = some (.ref W) ∧ PySem.W.kitOne K (.ref C) (.ref W) = some b
section
variable {X : Cx} {c : Ct} {Φ : Cf} {fr : Fr} {Γ : List Ty} {pos : Pos} {a C : Addr} {dd : Addr} {oe : Obj} {pn : List (Addr × Obj)} {x : Str} {i : Nat}
def rIsX (K : PySem.W.Frag) (D a dd : Addr) : List V → Hp → VK → Prop := fun xs H Q => ∃ (W : Addr) (fs : List (Str × V)) (b : Bool), xs = [.ref a, .ref W] ∧ H dd = some (.xd fs) ∧ PySem.W.kitOne K (.ref D) (.ref W) = some b ∧ Q (.bl b) H
theorem call_isX (f : XfC X.K C) (g : XcC X.K C) (hz : Zc (.ref C) (some dd) oe) (hf : ∃ vs, oe.data = .fields vs) : CallR (Su X a oe pn) (.builtin "isinstance") (rIsX X.K C a dd) := by
  intro pins s σ H xs us Q I r h
  obtain ⟨W, fs, b, rfl, hd, e, q⟩ := h
  cases r with
  | cons rx rr =>
    cases rr with
    | cons rt rr =>
      cases rr
      cases rx
      cases rt
      obtain ⟨hget, _⟩ := I.pin (a, oe) (List.mem_append.mpr (.inl List.mem_cons_self))
      obtain ⟨vs, hv⟩ := hf
      have hx : ObjOk X.prog X.w H s.heap dd (.xd fs) := I.hok dd _ hd
      obtain ⟨mA, hns, hr⟩ := hx
      obtain ⟨od, ho, hl⟩ := lookIn_ns hns
      have J : PySem.W.InstAt s.heap a oe C (some od) := ⟨hget, hz.1, by unfold PySem.W.notCls; rw [hv] <;> rfl, by rw [hz.2]; exact ho⟩
      exact PySem.W.kia_one (PySem.W.kitx_exc g.cl f.ga f.gg f.exC g.ha g.hn g.ht g.hm) I.kIn J e (fun z => nomatch z) fun tk => ⟨.bl b, H, I.kept (t' := tk) fun _ _ z => z, rfl, q⟩
/-- isinstance(e, y) -/
theorem k_hise {z y : Str} {b : Bool} {p pz py : Pos} (gd : Gd X c) (kc : KC X x C) (hz : Zc (.ref C) (some dd) oe) (hf : ∃ vs, oe.data = .fields vs) (ip : IsP x y b X.K X.mg) (h : (vC c Γ i z .fro && blC c "isinstance" && glC c y && !(y == ("__debug__" : Str))) = true) :
    PE (Su X a oe pn) (.Call (.Name "isinstance" p) [.Name z pz, .Name y py] [] pos) (tH fr Γ a dd x i X.K (.ise x b)) := by
  simp only [Bool.and_eq_true, Bool.not_eq_true'] at h
  obtain ⟨⟨⟨h1, h2⟩, h3⟩, h4⟩ := h
  obtain ⟨g1, g2, g3, g4, g5⟩ := vC_of gd h1
  obtain ⟨C', W, m1, m2, ki⟩ := ip
  have : C' = C := by
    have := m1.symm.trans kc.mg
    cases this
    rfl
  subst this
  have hT : PE (Su X a oe pn) (.Name y py) (tC (.ref W)) := pe_glob (X := Su X a oe pn) (show Gl X y from glC_of gd h3) m2 rfl h4
  refine PE_mono (pe_callB (X := Su X a oe pn) (call_isX kc.xf kc.xc hz hf) (show Gl X _ from (blC_of gd h2).1) (show X.mg _ = none from (blC_of gd h2).2) (by decide +kernel) (pa_cons (pe_var (X := Su X a oe pn) g1 g2 g4 g5) (pa_cons hT pa_nil rfl) rfl) (by decide) (by decide) rfl rfl) fun σ H Q h => ?_
  obtain ⟨ρ, fs, vs, ts, d', sr, hl, hd, hi, hs, he, q⟩ := h
  have he : (if x = x then some (PyData.bool b) else none) = some d' := he
  rw [if_pos rfl] at he
  cases he
  exact ⟨.ref a, hs, W, _, b, rfl, hd, ki, q _ _ (sr.res rfl (rp_bl _)) hd⟩
/-- isinstance(e.f, int), isinstance(e.f, str) -/
theorem h_isf {e : Expr} {f : Str} {k : Ik} {p p2 : Pos} (gd : Gd X c) (ha : PE (Su X a oe pn) e (tH fr Γ a dd x i X.K (.xf f))) (h : (decide (k = .i ∨ k = .s) && noStar e && blC c "isinstance" && blC c (PySem.Str.ofString (ikN k))) = true) :
    PE (Su X a oe pn) (.Call (.Name "isinstance" p) [e, .Name (PySem.Str.ofString (ikN k)) p2] [] pos) (tH fr Γ a dd x i X.K (.isf k f)) := by
  simp only [Bool.and_eq_true, decide_eq_true_eq] at h
  obtain ⟨⟨⟨h0, h1⟩, h2⟩, h3⟩ := h
  have h0' : ik1 k = true := by rcases h0 with rfl | rfl <;> rfl
  have hT : PE (Su X a oe pn) (.Name (PySem.Str.ofString (ikN k)) p2) (tC (.ty (ikN k))) := pe_bltn (X := Su X a oe pn) (show Gl X _ from (blC_of gd h3).1) (show X.mg _ = none from (blC_of gd h3).2) (ik_boot k h0') rfl (ik_nm k).1 (ik_nm k).2
  refine PE_mono (pe_callB (X := Su X a oe pn) call_isi (show Gl X _ from (blC_of gd h2).1) (show X.mg _ = none from (blC_of gd h2).2) (by decide +kernel) (pa_cons ha (pa_cons hT pa_nil rfl) (star_cons h1)) (by decide) (by decide) (star_cons h1) rfl) fun σ H Q h => ?_
  obtain ⟨ρ, fs, vs, ts, d', sr, hl, hd, hi, hs, he, q⟩ := h
  obtain ⟨d, e1, he⟩ := bind_inv he
  obtain ⟨b, e2, rfl⟩ := map_inv he
  refine ⟨ρ, fs, vs, ts, d, sr, hl, hd, hi, hs, e1, fun v H1 s1 hd1 => ?_⟩
  obtain ⟨G, F1, F2, y⟩ := id s1
  have rv := y.last1 rfl
  have e3 : isiD k d = some b := by
    rcases h0 with rfl | rfl <;> cases d <;> first | (cases e2; done) | (cases e2; rfl)
  exact ⟨v, _, _, _, b, rfl, .ty _, tyX_of y.sub (.inl rv), kit1 h0' e3, q _ _ ((s1.drop).res rfl (rp_bl _)) hd1⟩
variable (fr Γ x i a dd) in
def tHT (K : PySem.W.Frag) (hx : Hx) : TT := fun σ H Q => ∃ ρ fs vs ts b, SR fr K Γ ρ σ (tms .fro (fs.map (·.2)) vs ++ ts) H ∧ vs.length = fs.length ∧ H dd = some (xdOf fs vs) ∧ ρ[i]? = some none ∧ σ[i]? = some (some (.ref a)) ∧ hxD x fs ρ hx = some (.bool b) ∧
  ∀ H', SR fr K Γ ρ σ (tms .fro (fs.map (·.2)) vs ++ ts) H' → H' dd = some (xdOf fs vs) → Q b H'
theorem ht_e {e : Expr} {h : Hx} (ha : PE (Su X a oe pn) e (tH fr Γ a dd x i X.K h)) (hp : plainT e = true) : PT (Su X a oe pn) e (tHT fr Γ a dd x i X.K h) := by
  refine PT_mono (pt_truth ha (isTrue_plainT hp)) fun σ H Q h => ?_
  obtain ⟨ρ, fs, vs, ts, b, sr, hl, hd, hi, hs, he, q⟩ := h
  refine ⟨ρ, fs, vs, ts, _, sr, hl, hd, hi, hs, he, fun v H1 s1 hd1 => ?_⟩
  obtain ⟨G, F1, F2, y⟩ := id s1
  have rv := y.last1 rfl
  cases rv
  exact ⟨b, truV y.sub (.inl (y.last1 rfl)) rfl, q _ s1.drop hd1⟩
theorem ht_no {e : Expr} {h : Hx} (ha : PT (Su X a oe pn) e (tHT fr Γ a dd x i X.K h)) : PT (Su X a oe pn) (.UnaryOp .Not e pos) (tHT fr Γ a dd x i X.K (.no h)) := by
  refine PT_mono (pt_not ha) fun σ H Q h => ?_
  obtain ⟨ρ, fs, vs, ts, b, sr, hl, hd, hi, hs, he, q⟩ := h
  obtain ⟨d, e1, he⟩ := bind_inv he
  cases d with
  | bool t =>
    have he : some (PyData.bool (!t)) = some (.bool b) := he
    cases he
    exact ⟨ρ, fs, vs, ts, t, sr, hl, hd, hi, hs, e1, fun H1 s1 hd1 => q _ s1 hd1⟩
  | _ => cases he
theorem ht_or {e e2 : Expr} {rest : List Expr} {h h2 : Hx} (ha : PT (Su X a oe pn) e (tHT fr Γ a dd x i X.K h)) (hb : PW (Su X a oe pn) (.BoolOp .Or (e2 :: rest) pos) (tHT fr Γ a dd x i X.K h2)) : PW (Su X a oe pn) (.BoolOp .Or (e :: e2 :: rest) pos) (tHT fr Γ a dd x i X.K (.orr h h2)) := by
  refine ⟨fun whole pins s σ H Q I h => (pw_or ha hb).run whole pins s σ H Q I ?_⟩
  obtain ⟨ρ, fs, vs, ts, b, sr, hl, hd, hi, hs, he, q⟩ := h
  obtain ⟨d, e1, he⟩ := bind_inv he
  cases d with
  | bool t =>
    refine ⟨ρ, fs, vs, ts, t, sr, hl, hd, hi, hs, e1, fun H1 s1 hd1 => ?_⟩
    have he : (if t = true then some (.bool true) else hxD x fs ρ h2) = some (.bool b) := he
    cases t with
    | true =>
      cases he
      exact q _ s1 hd1
    | false => exact ⟨ρ, fs, vs, ts, b, s1, hl, hd1, hi, hs, he, q⟩
  | _ => cases he
theorem ht_an {e e2 : Expr} {rest : List Expr} {h h2 : Hx} (ha : PT (Su X a oe pn) e (tHT fr Γ a dd x i X.K h)) (hb : PW (Su X a oe pn) (.BoolOp .And (e2 :: rest) pos) (tHT fr Γ a dd x i X.K h2)) : PW (Su X a oe pn) (.BoolOp .And (e :: e2 :: rest) pos) (tHT fr Γ a dd x i X.K (.an h h2)) := by
  refine ⟨fun whole pins s σ H Q I h => (pw_and ha hb).run whole pins s σ H Q I ?_⟩
  obtain ⟨ρ, fs, vs, ts, b, sr, hl, hd, hi, hs, he, q⟩ := h
  obtain ⟨d, e1, he⟩ := bind_inv he
  cases d with
  | bool t =>
    refine ⟨ρ, fs, vs, ts, t, sr, hl, hd, hi, hs, e1, fun H1 s1 hd1 => ?_⟩
    have he : (if t = true then hxD x fs ρ h2 else some (.bool false)) = some (.bool b) := he
    cases t with
    | true => exact ⟨ρ, fs, vs, ts, b, s1, hl, hd1, hi, hs, he, q⟩
    | false =>
      cases he
      exact q _ s1 hd1
  | _ => cases he
theorem h_ife {t e1 e2 : Expr} {ht h1 h2 : Hx} (h0 : PT (Su X a oe pn) t (tHT fr Γ a dd x i X.K ht)) (ha : PE (Su X a oe pn) e1 (tH fr Γ a dd x i X.K h1)) (hb : PE (Su X a oe pn) e2 (tH fr Γ a dd x i X.K h2)) : PE (Su X a oe pn) (.IfExp t e1 e2 pos) (tH fr Γ a dd x i X.K (.ife ht h1 h2)) := by
  refine PE_mono (pe_ifExp h0 ha hb) fun σ H Q h => ?_
  obtain ⟨ρ, fs, vs, ts, b, sr, hl, hd, hi, hs, he, q⟩ := h
  obtain ⟨d, g1, he⟩ := bind_inv he
  cases d with
  | bool z =>
    refine ⟨ρ, fs, vs, ts, z, sr, hl, hd, hi, hs, g1, fun H1 s1 hd1 => ?_⟩
    have he : (if z = true then hxD x fs ρ h1 else hxD x fs ρ h2) = some b := he
    cases z with
    | true => exact ⟨ρ, fs, vs, ts, b, s1, hl, hd1, hi, hs, he, q⟩
    | false => exact ⟨ρ, fs, vs, ts, b, s1, hl, hd1, hi, hs, he, q⟩
  | _ => cases he
theorem hb_ifr {t e : Expr} {rest : List Stmt} {p p2 : Pos} {ht h : Hx} {r : Hs} (h0 : PT (Su X a oe pn) t (tHT fr Γ a dd x i X.K ht)) (ha : PE (Su X a oe pn) e (tH fr Γ a dd x i X.K h)) (hr : PSs (Su X a oe pn) rest (tHb fr Γ a dd x i X.K r)) :
    PSs (Su X a oe pn) (.If t [.Return (some e) p] [] p2 :: rest) (tHb fr Γ a dd x i X.K (.ifr ht h r)) := by
  refine PSs_mono (pss_cons (ps_if h0 (pss_one (ps_ret ha)) pss_nil) hr) fun D σ H h => ?_
  obtain ⟨ρ, fs, vs, ts, d, sr, hl, hd, hi, hs, he, q⟩ := h
  obtain ⟨d0, g1, he⟩ := bind_inv he
  cases d0 with
  | bool z =>
    refine ⟨ρ, fs, vs, ts, z, sr, hl, hd, hi, hs, g1, fun H1 s1 hd1 => ?_⟩
    cases z with
    | true => exact ⟨ρ, fs, vs, ts, d, s1, hl, hd1, hi, hs, he, fun v H2 s2 _ => q v H2 s2⟩
    | false => exact ⟨ρ, fs, vs, ts, d, s1, hl, hd1, hi, hs, he, q⟩
  | _ => cases he
end
end Vw
namespace Vw
open PySem PySem.Spec PyProof.Rows L2
/-! ### a held thing is kept whole -/
section
variable {fr : Fr} {K : PySem.W.Frag} {G H : Hp} {F1 F2 : List Addr} {Γ : List Ty} {ρ : Rho} {σ : Sg} {ts : List Tm}
theorem SRd.shield {y : Tm} (x : SRd fr K G F1 F2 Γ ρ σ (ts ++ [y]) H) : ∃ F3 Fi, SRd ⟨H, G, F1 ++ F3, fr.pins⟩ K G F1 F3 Γ ρ σ ts H ∧ Own K G H y.t y.d y.v Fi ∧ (∀ a ∈ Fi, Mine H a) ∧
    ∀ {G' H' : Hp} {F1' F2' : List Addr} {ρ' : Rho} {us : List Tm} {σ' : Sg}, SRd ⟨H, G, F1 ++ F3, fr.pins⟩ K G' F1' F2' Γ ρ' σ' us H' → (∀ a ∈ Fi, H' a = H a) ∧ ∃ F4, SRd fr K G' F1' F4 Γ ρ' σ' (us ++ [y]) H' := by
  obtain ⟨F3, Fi, e, p, q⟩ := x.tm.app
  subst e
  have o := q.one
  have nd : ((F1 ++ F3) ++ Fi).Nodup := by
    rw [List.append_assoc]
    exact x.nd
  obtain ⟨nd1, nd2, dj⟩ := List.nodup_append.mp nd
  have inF : ∀ a, a ∈ F1 ++ F3 → a ∈ F1 ++ (F3 ++ Fi) := fun a ha => by
    rw [← List.append_assoc]
    exact List.mem_append_left _ ha
  have inI : ∀ a, a ∈ Fi → a ∈ F1 ++ (F3 ++ Fi) := fun a ha => List.mem_append_right _ (List.mem_append_right _ ha)
  have th := fun a ha => o.there a ha
  refine ⟨F3, Fi, ⟨x.sub, x.sl, p, nd1, fun a ha => ⟨(x.out a (inF a ha)).1, .inl ha⟩, ⟨fun a o h _ => .inl h, fun a h => h, Same.refl _, fun a h => .inl h, x.ok.pin, x.ok.tab⟩⟩, o, th, fun {G' H' F1' F2' ρ' us σ'} z => ?_⟩
  have nF : ∀ a ∈ Fi, a ∉ F1 ++ F3 := fun a ha hb => dj a hb a ha rfl
  have kp : ∀ a ∈ Fi, H' a = H a := fun a ha => by
    obtain ⟨vs, e, hm⟩ := th a ha
    rw [e]
    exact (z.ok.keep a _ e (nF a ha)).mine hm
  refine ⟨kp, F2' ++ Fi, z.sub, z.sl, z.tm.of_app (TmF.of_one (o.stay z.ok.sG kp)), ?_, ?_, ?_⟩
  · rw [← List.append_assoc, List.nodup_append]
    refine ⟨z.nd, nd2, fun a ha b hb e => ?_⟩
    subst e
    rcases (z.out a ha).2 with h | h
    · exact nF a hb h
    · obtain ⟨vs, e, _⟩ := th a hb
      have h : H a = none := h
      rw [h] at e
      cases e
  · intro a ha
    rw [← List.append_assoc] at ha
    rcases List.mem_append.mp ha with ha | ha
    · obtain ⟨h1, h2⟩ := z.out a ha
      refine ⟨h1, ?_⟩
      rcases h2 with h2 | h2
      · exact (x.out a (inF a h2)).2
      · exact .inr (x.ok.mono a h2)
    · obtain ⟨h1, h2⟩ := x.out a (inI a ha)
      refine ⟨?_, h2⟩
      by_cases hg : G' a = none
      · exact hg
      · rcases z.ok.nG a hg with h | h | h
        · exact absurd h1 h
        · exact absurd h (nF a ha)
        · obtain ⟨vs, e, _⟩ := th a ha
          have h : H a = none := h
          rw [h] at e
          cases e
  · refine ⟨fun a o h hn => ?_, fun a h => x.ok.mono a (z.ok.mono a h), x.ok.sG.trans z.ok.sG, fun a hg => ?_, z.ok.pin, z.ok.tab⟩
    · refine (x.ok.keep a o h hn).trans fun u hu => z.ok.keep a u hu fun ha => ?_
      rcases (x.out a (inF a ha)).2 with h2 | h2
      · exact hn h2
      · rw [h2] at h
        cases h
    · rcases z.ok.nG a hg with h | h | h
      · exact x.ok.nG a h
      · rcases (x.out a (inF a h)).2 with h2 | h2
        · exact .inr (.inl h2)
        · exact .inr (.inr h2)
      · exact .inr (.inr (x.ok.mono a h))
end
section
variable {X : Cx} {Φ : Cf} {fr : Fr} {Γ : List Ty} {ret : Ty} {wx : Xw} {pos : Pos} {P P' : List Nat} {c : Ct}
theorem s_sti3 {i : Nat} {x : Str} {a b e : Expr} {ea eb ee : E} {px sp sp2 : Pos} (hp : Pin P fr) (hN : X.N[i]? = some x) (hv : Vis X.env.scope x) (hw : Γ[i]? = some (.lst (.lst .fro))) (hd : (x == ("__debug__" : Str)) = false) (hcd : (x == ("__classdict__" : Str)) = false)
    (ha : PE X a (tE Φ fr X.K Γ .fro ea)) (hb : ∀ fr, Pin P fr → PE X b (tE Φ fr X.K Γ .fro eb)) (he : PE X e (tE Φ fr X.K Γ .fro ee)) (hs : notSlice a = true) (hs2 : notSlice b = true) (hn : noComp e = true) : PS X (.Assign [.Subscript (.Subscript (.Name x px) a sp2) b sp] e pos) (tS Φ fr Γ ret wx X.K (.sti3 i ea eb ee)) := by
  refine PS_mono (ps_asg he (pg_sub (pe_ix ix_list (pe_var hN hv hd hcd) ha (plainIx_ns hs)) (pe_x hb) set_list (asg_sub hs2)) (by rw [swapsWithSole]; exact swaps_no hn) (by cases e <;> rfl) rfl) fun D σ H h => ?_
  obtain ⟨ρ, ts, r, sr, he, q⟩ := h
  obtain ⟨ra, e1, he⟩ := bind_inv he
  obtain ⟨x0, e0, he⟩ := bind_inv he
  obtain ⟨rb, e2, he⟩ := bind_inv he
  obtain ⟨xx, e4, he⟩ := bind_inv he
  obtain ⟨rc, e3, he⟩ := bind_inv he
  obtain ⟨ρ', e5, he⟩ := bind_inv he
  refine ⟨ρ, ts, ra, sr, e1, fun u H1 s1 => ?_⟩
  obtain ⟨G1, F11, F12, y1⟩ := id s1
  obtain ⟨t0, v0, _, _, g1, g2, _⟩ := y1.takeOut e0
  refine ⟨v0, g2, ra.2, _, rb, s1, e2, fun z H2 s2 => ?_⟩
  obtain ⟨G, F1, F2, y⟩ := id s2
  have rz := y.last1 rfl
  clear e2
  obtain ⟨d2, ρ2⟩ := rb
  obtain ⟨d3, ρ3⟩ := rc
  cases xx with
  | list m =>
    cases d2 with
    | int j =>
      cases d3 with
      | int j2 =>
        obtain ⟨k, e6, he⟩ := bind_inv (show (ixN m.length j).bind _ = _ from he)
        obtain ⟨yy, e7, he⟩ := bind_inv he
        cases yy with
        | list l =>
          obtain ⟨k2, e8, rfl⟩ := map_inv he
          cases rz
          obtain ⟨t, v, F3, F4, w1, w2, y2⟩ := y.takeOut e4
          rw [hw] at w1
          cases w1
          rw [g2] at w2
          cases w2
          obtain ⟨F5, Fi, z2, ow, th, back⟩ := y2.shield
          rcases ow with ⟨s, _, _⟩ | ⟨ds, a0, vs, F', q1, q2, q3, q4, q5⟩
          · cases s
          cases q1
          have q2 : v0 = .ref a0 := q2
          subst q2
          have q3 : Fi = a0 :: F' := q3
          subst q3
          obtain ⟨b0v, Fk, q6, o1, i1, _⟩ := q5.at e7
          rcases o1 with ⟨s, _, _⟩ | ⟨ds2, b0, ws, F6, r1, r2, r3, r4, r5⟩
          · cases s
          cases r1
          have r2 : b0v = .ref b0 := r2
          subst r2
          refine ⟨a0, vs, j, .ref b0, rfl, rfl, SqL.of q4, ?_, ⟨H2, G, F3 ++ F5, fr.pins⟩, hp, ρ2.set i none, _, (.int j2, ρ3), ⟨_, _, _, z2⟩, e3, fun wv H3 s3 => ?_⟩
          · unfold atI
            rw [show ixN vs.length j = some k by rw [q5.len]; exact e6]
            exact q6
          obtain ⟨G3, F7, F8, z3⟩ := s3
          have rw3 := z3.last1 rfl
          cases rw3
          obtain ⟨kp, F9, z4⟩ := back z3
          have ha0 : H3 a0 = some (.lst vs) := by rw [kp a0 List.mem_cons_self]; exact q4
          obtain ⟨ρ9, f1, f2⟩ := bind_inv (show (restD [] ρ3).bind _ = some ρ' from e5)
          cases f1
          have f3 : ρ3[i]? = some none ∧ ρ' = put ρ3 i (.list m) := by
            revert f2
            cases h9 : ρ3[i]? with
            | none => intro f2; cases f2
            | some o9 =>
              cases o9 with
              | none => intro f2; cases f2; exact ⟨rfl, rfl⟩
              | some _ => intro f2; cases f2
          obtain ⟨f3, rfl⟩ := f3
          obtain ⟨Fa, Fb, z5⟩ := z4.putBack f3 hw g2
          have gm : Vw.get (put ρ3 i (.list m)) i = some (.list m) := by
            have hlt : i < ρ3.length := by
              rcases Nat.lt_or_ge i ρ3.length with h | h
              · exact h
              · rw [List.getElem?_eq_none h] at f3
                cases f3
            unfold Vw.get put
            rw [List.getElem?_set_self hlt]
            rfl
          have rv := z5.last2 rfl rfl
          obtain ⟨Fc, z6⟩ := z5.drop
          have hpre : SRd fr X.K G3 Fa _ Γ (put ρ3 i (.list m)) σ (ts ++ [⟨.fro, ra.1, u⟩] ++ [⟨.fro, .int j, .int j⟩]) H3 := z6
          have ru := hpre.last2 rfl rfl
          obtain ⟨Fd, z7⟩ := hpre.drop
          obtain ⟨Fe, z8⟩ := z7.drop
          obtain ⟨a1, b1, vs1, ws1, k1, k3, k4, k5, k6, k7, mm⟩ := z8.slotMut2 gm e7 hw
          rw [g2] at k1
          cases k1
          rw [ha0] at k3
          cases k3
          rw [q6] at k5
          cases k5
          exact ⟨b0, ws1, j2, k2, rfl, rfl, k6, by rw [k7.len]; exact e8, q _ _ (mm _ _ (k7.set ru.1 k2))⟩
        | _ => cases he
      | _ => cases he
    | _ => cases he
  | _ => cases he
theorem kit2 {K : PySem.W.Frag} {x : D} {b : Bool} (h : isiD .lt x = some b) : PySem.W.kitAny K (.type (tyN x)) [.type "list", .type "tuple"] = some b := by
  cases x <;> first | (cases h; done) | (cases h; kernel_rfl)
theorem k_sti3 (gd : Gd X c) (hp : Pin P fr) (i : Nat) {x : Str} {a b e : Expr} {ea eb ee : E} {px sp sp2 : Pos} (ha : PE X a (tE Φ fr X.K Γ .fro ea)) (hb : ∀ fr, Pin P fr → PE X b (tE Φ fr X.K Γ .fro eb)) (he : PE X e (tE Φ fr X.K Γ .fro ee)) (h : (vC c Γ i x (.lst (.lst .fro)) && notSlice a && notSlice b && noComp e) = true) :
    PS X (.Assign [.Subscript (.Subscript (.Name x px) a sp2) b sp] e pos) (tS Φ fr Γ ret wx X.K (.sti3 i ea eb ee)) := by
  simp only [Bool.and_eq_true] at h
  obtain ⟨h1, h2, h3, h4, h5⟩ := vC_of gd h.1.1.1
  exact s_sti3 hp h1 h2 h3 h4 h5 ha hb he h.1.1.2 h.1.2 h.2
theorem k_isi2 {w : Ty} (gd : Gd X c) {a : Expr} {oa : O} {p p2 p3 tp : Pos} {kk : Nat} (ha : PE X a (tO Φ fr X.K Γ oa)) (h : (noStar a && blC c "isinstance" && blC c (PySem.Str.ofString "list") && blC c (PySem.Str.ofString "tuple")) = true) :
    PE X (.Call (.Name "isinstance" p) [a, .Tuple [.Name (PySem.Str.ofString "list") p2, .Name (PySem.Str.ofString "tuple") p3] kk tp] [] pos) (tE Φ fr X.K Γ w (.isi .lt oa)) := by
  simp only [Bool.and_eq_true] at h
  obtain ⟨⟨⟨h1, h2⟩, h3⟩, h4⟩ := h
  have hL : PE X (.Name (PySem.Str.ofString "list") p2) (tC (.ty "list")) := pe_bltn (blC_of gd h3).1 (blC_of gd h3).2 (by decide +kernel) rfl (by decide) (by decide)
  have hT : PE X (.Name (PySem.Str.ofString "tuple") p3) (tC (.ty "tuple")) := pe_bltn (blC_of gd h4).1 (blC_of gd h4).2 (by decide +kernel) rfl (by decide) (by decide)
  refine PE_mono (pe_callB call_isiT (blC_of gd h2).1 (blC_of gd h2).2 (by decide +kernel) (pa_cons ha (pa_cons (pe_tup (x1 := kk) (pos := tp) (pa_cons hL (pa_cons hT pa_nil rfl) rfl)) pa_nil rfl) (star_cons h1)) (by decide) (by decide) (star_cons h1) rfl) fun σ H Q h => ?_
  obtain ⟨ρ, ts, r, sr, he, q⟩ := h
  obtain ⟨ra, e1, he⟩ := bind_inv he
  obtain ⟨b, e2, rfl⟩ := map_inv he
  refine ⟨ρ, ts, ra, sr, e1, fun v H1 ts' s1 hd => ⟨by show 2 ≤ sizeLine; rw [sizeLine_eq]; omega, fun p hp => ?_⟩⟩
  obtain ⟨G, F1, F2, y⟩ := id s1
  obtain ⟨z, _⟩ := y.fresh (o := .tup [.ty "list", .ty "tuple"]) hp
  have z' : SRd fr X.K G F1 F2 Γ ra.2 σ (ts' ++ []) (upd H1 p (.tup [.ty "list", .ty "tuple"])) := by rw [List.append_nil]; exact z
  exact ⟨v, p, _, _, _, b, rfl, upd_same, .cons (.ty _) (.cons (.ty _) .nil), tyX_of z.sub (z'.sn hd (late_same e1)), kit2 e2, q _ _ (((show SR fr X.K Γ ra.2 σ ts' _ from ⟨_, _, _, z⟩).undo hd).res rfl (rp_bl _))⟩
end
end Vw
namespace Vw
open PySem PySem.Spec PyProof.Rows L2
section
variable {X : Cx} {Φ : Cf} {fr : Fr} {Γ : List Ty} {w : Ty} {ret : Ty} {wx : Xw} {pos : Pos} {c : Ct} {P P' : List Nat}
/-! ### branches behind which a slot is frozen -/
theorem Out.thaw {K : PySem.W.Frag} {ts : List Tm} {D : Ends} {i : Nat} {r : Rs} (pl : ∀ t, Γ[i]? = some t → t.plain = true) (h : Out fr (Γ.set i .fro) ret wx K ts D r) : Out fr Γ ret wx K ts D r := by
  cases r with
  | nx ρ => exact fun σ H s => h σ H (s.freeze i pl)
  | brk ρ => exact fun σ H s => h σ H (s.freeze i pl)
  | cnt ρ => exact fun σ H s => h σ H (s.freeze i pl)
  | ret d ρ => exact fun v σ H us s => h v σ H us (s.freeze i pl)
  | exn x fs ρ => exact fun σ H us vs C dd s => h σ H us vs C dd (s.freeze i pl)
variable (Φ fr Γ ret wx) in
def tZ (K : PySem.W.Frag) (i : Nat) (z : Z) : TS := fun D σ H => ∃ ρ ts r, SR fr K Γ ρ σ ts H ∧ exZ Φ z ρ = some r ∧ Out fr (Γ.set i .fro) ret wx K ts D r
theorem z_own {i : Nat} {a : List Stmt} {s : Ss} (h : PSs X a (tSs Φ fr Γ ret wx X.K s)) (pl : ((Γ[i]?).getD .fro).plain = true := by rfl) : PSs X a (tZ Φ fr Γ ret wx X.K i (.own s)) :=
  PSs_mono h fun D σ H ⟨ρ, ts, r, sr, he, q⟩ => ⟨ρ, ts, r, sr, he, q.thaw (fun t h => by rw [h] at pl; exact pl)⟩
theorem z_fro {i : Nat} {a : List Stmt} {s : Ss} (h : PSs X a (tSs Φ fr (Γ.set i .fro) ret wx X.K s)) (pl : ((Γ[i]?).getD .fro).plain = true := by rfl) : PSs X a (tZ Φ fr Γ ret wx X.K i (.fro s)) :=
  PSs_mono h fun D σ H ⟨ρ, ts, r, sr, he, q⟩ => ⟨ρ, ts, r, sr.freeze i (fun t h => by rw [h] at pl; exact pl), he, q⟩
theorem z_if {i : Nat} {e : Expr} {a b : List Stmt} {t : T} {za zb : Z} (hc : PT X e (tT Φ fr X.K Γ t)) (ha : PSs X a (tZ Φ fr Γ ret wx X.K i za)) (hb : PSs X b (tZ Φ fr Γ ret wx X.K i zb)) : PS X (.If e a b pos) (tZ Φ fr Γ ret wx X.K i (.ife t za zb)) := by
  refine PS_mono (ps_if hc ha hb) fun D σ H h => ?_
  obtain ⟨ρ, ts, r, sr, he, q⟩ := h
  obtain ⟨ra, e1, he⟩ := bind_inv he
  refine ⟨ρ, ts, ra, sr, e1, fun H1 s1 => ?_⟩
  by_cases hd : ra.1 = true
  · rw [if_pos hd] at he ⊢
    exact ⟨_, ts, r, s1, he, q⟩
  · rw [if_neg hd] at he ⊢
    exact ⟨_, ts, r, s1, he, q⟩
theorem z_one {i : Nat} {st : Stmt} {z : Z} (h : PS X st (tZ Φ fr Γ ret wx X.K i z)) : PSs X [st] (tZ Φ fr Γ ret wx X.K i z) := PSs_mono (pss_one h) fun D σ H h => h
theorem ss_jn (i : Nat) {st : Stmt} {rest : List Stmt} {z : Z} {ss : Ss} (h1 : PS X st (tZ Φ fr Γ ret wx X.K i z)) (h2 : PSs X rest (tSs Φ fr (Γ.set i .fro) ret wx X.K ss)) : PSs X (st :: rest) (tSs Φ fr Γ ret wx X.K (.jn i z ss)) := by
  refine PSs_mono (pss_cons h1 h2) fun D σ H h => ?_
  obtain ⟨ρ, ts, r, sr, he, q⟩ := h
  obtain ⟨ra, e1, e2⟩ := bind_inv he
  refine ⟨ρ, ts, ra, sr, e1, ?_⟩
  cases ra with
  | nx ρ1 =>
    obtain ⟨r0, e3, rfl⟩ := map_inv (show (exSs Φ ss ρ1).map (rsWipe i) = some r from e2)
    exact fun σ1 H1 s1 => ⟨ρ1, ts, r0, s1, e3, q.wipe⟩
  | ret d ρ1 =>
    cases e2
    exact Out.wipe (r := .ret d ρ1) q
  | brk ρ1 =>
    cases e2
    exact Out.wipe (r := .brk ρ1) q
  | cnt ρ1 =>
    cases e2
    exact Out.wipe (r := .cnt ρ1) q
  | exn x fs ρ1 =>
    cases e2
    exact Out.wipe (r := .exn x fs ρ1) q
/-! ### .. two slots at once -/
variable (Φ fr Γ ret wx) in
def tZ2 (K : PySem.W.Frag) (i j : Nat) (z : Z) : TS := fun D σ H => ∃ ρ ts r, SR fr K Γ ρ σ ts H ∧ exZ Φ z ρ = some r ∧ Out fr ((Γ.set i .fro).set j .fro) ret wx K ts D r
theorem pl_set {i j : Nat} (h : i ≠ j) (pl : ((Γ[j]?).getD .fro).plain = true) : ∀ t, (Γ.set i .fro)[j]? = some t → t.plain = true := fun t e => by
  rw [List.getElem?_set_ne h] at e
  rw [e] at pl
  exact pl
theorem pl_get {i : Nat} (pl : ((Γ[i]?).getD .fro).plain = true) : ∀ t, Γ[i]? = some t → t.plain = true := fun t e => by
  rw [e] at pl
  exact pl
theorem z2_own {i j : Nat} {a : List Stmt} {s : Ss} (h : PSs X a (tSs Φ fr Γ ret wx X.K s)) (ne : i ≠ j := by decide) (pl : ((Γ[i]?).getD .fro).plain = true := by rfl) (pl2 : ((Γ[j]?).getD .fro).plain = true := by rfl) : PSs X a (tZ2 Φ fr Γ ret wx X.K i j (.own s)) :=
  PSs_mono h fun D σ H ⟨ρ, ts, r, sr, he, q⟩ => ⟨ρ, ts, r, sr, he, (q.thaw (i := j) (pl_set ne pl2)).thaw (pl_get pl)⟩
theorem z2_fro {i j : Nat} {a : List Stmt} {s : Ss} (h : PSs X a (tSs Φ fr (Γ.set i .fro) ret wx X.K s)) (ne : i ≠ j := by decide) (pl : ((Γ[i]?).getD .fro).plain = true := by rfl) (pl2 : ((Γ[j]?).getD .fro).plain = true := by rfl) : PSs X a (tZ2 Φ fr Γ ret wx X.K i j (.fro s)) :=
  PSs_mono h fun D σ H ⟨ρ, ts, r, sr, he, q⟩ => ⟨ρ, ts, r, sr.freeze i (pl_get pl), he, q.thaw (i := j) (pl_set ne pl2)⟩
theorem z2_frj {i j : Nat} {a : List Stmt} {s : Ss} (h : PSs X a (tSs Φ fr (Γ.set j .fro) ret wx X.K s)) (ne : i ≠ j := by decide) (pl : ((Γ[i]?).getD .fro).plain = true := by rfl) (pl2 : ((Γ[j]?).getD .fro).plain = true := by rfl) : PSs X a (tZ2 Φ fr Γ ret wx X.K i j (.frj s)) :=
  PSs_mono h fun D σ H ⟨ρ, ts, r, sr, he, q⟩ => ⟨ρ, ts, r, sr.freeze j (pl_get pl2), he, by
    rw [List.set_comm _ _ ne] at q
    exact q.thaw (i := i) (pl_set (Ne.symm ne) pl)⟩
theorem z2_frb {i j : Nat} {a : List Stmt} {s : Ss} (h : PSs X a (tSs Φ fr ((Γ.set i .fro).set j .fro) ret wx X.K s)) (ne : i ≠ j := by decide) (pl : ((Γ[i]?).getD .fro).plain = true := by rfl) (pl2 : ((Γ[j]?).getD .fro).plain = true := by rfl) : PSs X a (tZ2 Φ fr Γ ret wx X.K i j (.frb s)) :=
  PSs_mono h fun D σ H ⟨ρ, ts, r, sr, he, q⟩ => ⟨ρ, ts, r, (sr.freeze i (pl_get pl)).freeze j (pl_set ne pl2), he, q⟩
theorem z2_if {i j : Nat} {e : Expr} {a b : List Stmt} {t : T} {za zb : Z} (hc : PT X e (tT Φ fr X.K Γ t)) (ha : PSs X a (tZ2 Φ fr Γ ret wx X.K i j za)) (hb : PSs X b (tZ2 Φ fr Γ ret wx X.K i j zb)) : PS X (.If e a b pos) (tZ2 Φ fr Γ ret wx X.K i j (.ife t za zb)) := by
  refine PS_mono (ps_if hc ha hb) fun D σ H h => ?_
  obtain ⟨ρ, ts, r, sr, he, q⟩ := h
  obtain ⟨ra, e1, he⟩ := bind_inv he
  refine ⟨ρ, ts, ra, sr, e1, fun H1 s1 => ?_⟩
  by_cases hd : ra.1 = true
  · rw [if_pos hd] at he ⊢
    exact ⟨_, ts, r, s1, he, q⟩
  · rw [if_neg hd] at he ⊢
    exact ⟨_, ts, r, s1, he, q⟩
theorem z2_one {i j : Nat} {st : Stmt} {z : Z} (h : PS X st (tZ2 Φ fr Γ ret wx X.K i j z)) : PSs X [st] (tZ2 Φ fr Γ ret wx X.K i j z) := PSs_mono (pss_one h) fun D σ H h => h
theorem ss_jn2 (i j : Nat) {st : Stmt} {rest : List Stmt} {z : Z} {ss : Ss} (h1 : PS X st (tZ2 Φ fr Γ ret wx X.K i j z)) (h2 : PSs X rest (tSs Φ fr ((Γ.set i .fro).set j .fro) ret wx X.K ss)) : PSs X (st :: rest) (tSs Φ fr Γ ret wx X.K (.jn2 i j z ss)) := by
  refine PSs_mono (pss_cons h1 h2) fun D σ H h => ?_
  obtain ⟨ρ, ts, r, sr, he, q⟩ := h
  obtain ⟨ra, e1, e2⟩ := bind_inv he
  refine ⟨ρ, ts, ra, sr, e1, ?_⟩
  cases ra with
  | nx ρ1 =>
    obtain ⟨r0, e3, rfl⟩ := map_inv (show (exSs Φ ss ρ1).map (fun q => rsWipe i (rsWipe j q)) = some r from e2)
    exact fun σ1 H1 s1 => ⟨ρ1, ts, r0, s1, e3, q.wipe.wipe⟩
  | ret d ρ1 =>
    cases e2
    exact (Out.wipe (r := rsWipe j (.ret d ρ1)) q).wipe (r := .ret d ρ1)
  | brk ρ1 =>
    cases e2
    exact (Out.wipe (r := rsWipe j (.brk ρ1)) q).wipe (r := .brk ρ1)
  | cnt ρ1 =>
    cases e2
    exact (Out.wipe (r := rsWipe j (.cnt ρ1)) q).wipe (r := .cnt ρ1)
  | exn x fs ρ1 =>
    cases e2
    exact (Out.wipe (r := rsWipe j (.exn x fs ρ1)) q).wipe (r := .exn x fs ρ1)
/-! ### an own list of lists: is there any, how many -/
theorem SRd.outer {K : PySem.W.Frag} {G H : Hp} {F1 F2 : List Addr} {ρ : Rho} {σ : Sg} {ts : List Tm} {i : Nat} {l : List D} {t : Ty} (x : SRd fr K G F1 F2 Γ ρ σ ts H) (h : get ρ i = some (.list l)) (hw : Γ[i]? = some (.lst t)) : ∃ a vs, σ[i]? = some (some (.ref a)) ∧ H a = some (.lst vs) ∧ vs.length = l.length := by
  obtain ⟨t', v, F3, F4, e1, e2, y⟩ := x.takeOut h
  rw [hw] at e1
  cases e1
  obtain ⟨F5, F6, e, p, q⟩ := y.tm.app
  rcases q.one with ⟨s, _, _⟩ | ⟨ds, a, vs, F', q1, q2, q3, q4, q5⟩
  · cases s
  · cases q1
    have q2 : v = .ref a := q2
    subst q2
    exact ⟨a, vs, e2, q4, q5.len⟩
theorem k_ln {t : Ty} (gd : Gd X c) (i : Nat) {x : Str} {p px : Pos} (h : (vC c Γ i x (.lst t) && blC c "len") = true) : PE X (.Call (.Name "len" p) [.Name x px] [] pos) (tE Φ fr X.K Γ w (.ln i)) := by
  obtain ⟨h0, hb⟩ := Bool.and_eq_true_iff.mp h
  obtain ⟨h1, h2, h3, h4, h5⟩ := vC_of gd h0
  refine PE_mono (pe_callB call_len_seq (blC_of gd hb).1 (blC_of gd hb).2 (by decide +kernel) (pa_cons (pe_var h1 h2 h4 h5) pa_nil rfl) (by decide) (by decide) rfl rfl) fun σ H Q h => ?_
  obtain ⟨ρ, ts, r, sr, he, q⟩ := h
  obtain ⟨d, e0, he⟩ := bind_inv he
  obtain ⟨d2, e1, rfl⟩ := map_inv he
  cases d with
  | list l =>
    cases e1
    obtain ⟨G, F1, F2, y⟩ := id sr
    obtain ⟨a, vs, g1, g2, g3⟩ := y.outer e0 h3
    refine ⟨.ref a, g1, a, vs, rfl, .inl (SqL.of g2), ?_⟩
    rw [g3]
    exact q _ _ (sr.res rfl fun G => .int _)
  | _ => cases e1
theorem k_sl2 {t : Ty} (gd : Gd X c) (i : Nat) {x : Str} (h : vC c Γ i x (.lst t) = true) : PT X (.Name x pos) (tT Φ fr X.K Γ (.sl i)) := by
  obtain ⟨h1, h2, h3, h4, h5⟩ := vC_of gd h
  refine PT_mono (pt_truth (pe_var h1 h2 h4 h5) (isTrue_plainT rfl)) fun σ H Q h => ?_
  obtain ⟨ρ, ts, r, sr, he, q⟩ := h
  obtain ⟨d, e1, he⟩ := bind_inv he
  obtain ⟨b, e2, rfl⟩ := map_inv he
  obtain ⟨G, F1, F2, y⟩ := id sr
  obtain ⟨t', v, F3, F4, w1, w2, y2⟩ := y.takeOut e1
  rw [h3] at w1
  cases w1
  obtain ⟨F5, F6, e, p, o⟩ := y2.tm.app
  rcases o.one with ⟨s, _, rp⟩ | ⟨ds, a, vs, F', q1, q2, q3, q4, q5⟩
  · exact ⟨v, w2, b, truV y.sub (.inl rp) e2, q _ sr⟩
  · have q1 : d = .list ds := q1
    have q2 : v = .ref a := q2
    subst q1 q2
    cases e2
    refine ⟨.ref a, w2, _, .inl ⟨vs, .inl (.inl q4), ?_⟩, q _ sr⟩
    have e := q5.len
    cases vs <;> cases ds <;> first | rfl | simp at e
end
end Vw
namespace Vw
open PySem PySem.Spec PyProof.Rows L2
/-! ### a name for an own inner list, for a while -/
theorem llD_inv {m : List D} {k : Nat} {l : List D} (h : llD m k = some l) : m[k]? = some (.list l) := by
  obtain ⟨y, e, h⟩ := bind_inv h
  cases y with
  | list l' =>
    cases h
    exact e
  | _ => cases h
theorem intD_inv {o : Option D} {i : Int} (h : intD o = some i) : o = some (.int i) := by
  cases o with
  | none => cases h
  | some d =>
    cases d with
    | int j =>
      cases h
      rfl
    | _ => cases h
theorem stD_inv {m m' : List D} {k c : Nat} {v : Int} (h : stD m k c v = some m') : ∃ l, m[k]? = some (.list l) ∧ c < l.length ∧ m' = m.set k (.list (l.set c (.int v))) := by
  obtain ⟨l, e, h⟩ := bind_inv h
  split at h
  · rename_i hc
    cases h
    exact ⟨l, llD_inv e, hc, rfl⟩
  · cases h
section
variable {fr : Fr} {K : PySem.W.Frag} {G H : Hp} {F1 F2 : List Addr} {Γ : List Ty} {ρ : Rho} {σ : Sg} {ts : List Tm}
theorem SRd.apart (x : SRd fr K G F1 F2 Γ ρ σ ts H) {i k : Nat} {m l : List D} (h : get ρ i = some (.list m)) (hk : m[k]? = some (.list l)) (hw : Γ[i]? = some (.lst (.lst .fro))) {a b : Addr} {vs : List V} (ha : σ[i]? = some (some (.ref a))) (hv : H a = some (.lst vs)) (hb : vs[k]? = some (.ref b)) : a ≠ b := by
  obtain ⟨t, v, F3, F4, e1, e2, y⟩ := x.takeOut h
  rw [hw] at e1
  cases e1
  rw [ha] at e2
  cases e2
  obtain ⟨F5, F6, e, p, q⟩ := y.tm.app
  rcases q.one with ⟨s, _, _⟩ | ⟨ds, a', vs', F', q1, q2, q3, q4, q5⟩
  · cases s
  · cases q1
    cases q2
    rw [hv] at q4
    cases q4
    obtain ⟨u, Fk, e3, o1, i1, _⟩ := q5.at hk
    rw [hb] at e3
    cases e3
    rcases o1 with ⟨s, _, _⟩ | ⟨ds1, b', ws, Fb, r1, r2, r3, r4, r5⟩
    · cases s
    · cases r2
      have nd := y.nd
      rw [e, q3] at nd
      have n2 := (List.nodup_append.mp (List.nodup_append.mp nd).2.1).2.1
      exact fun z => (List.nodup_cons.mp n2).1 (z ▸ i1 b (by rw [r3]; exact List.mem_cons_self))
/-- near[c] and the store m[k][c] = u, in its place -/
theorem SRd.inner (x : SRd fr K G F1 F2 Γ ρ σ ts H) {i k : Nat} {m l : List D} (h : get ρ i = some (.list m)) (hk : m[k]? = some (.list l)) (hw : Γ[i]? = some (.lst (.lst .fro))) {a : Addr} {vs : List V} (ha : σ[i]? = some (some (.ref a))) (hv : H a = some (.lst vs)) :
    ∃ b ws, vs[k]? = some (.ref b) ∧ H b = some (.lst ws) ∧ ws.length = l.length ∧ (∀ (c : Nat) (p : Int), l[c]? = some (PyData.int p) → ws[c]? = some (V.int p)) ∧ a ≠ b ∧
      ∀ (c : Nat) (u : Int), SR fr K Γ (put ρ i (.list (m.set k (.list (l.set c (.int u)))))) σ ts (upd H b (.lst (ws.set c (.int u)))) := by
  obtain ⟨a', b, vs', ws, k1, k3, k4, k5, k6, k7, mm⟩ := x.slotMut2 h hk hw
  rw [ha] at k1
  cases k1
  rw [hv] at k3
  cases k3
  refine ⟨b, ws, k5, k6, k7.len, fun c p e => ?_, x.apart h hk hw ha hv k5, fun c u => mm _ _ (k7.set (.int u) c)⟩
  obtain ⟨v, e2, r⟩ := k7.get e
  cases r
  exact e2
end
section
variable {X : Cx} {Φ : Cf} {fr : Fr} {Γ : List Ty} {ret : Ty} {wx : Xw} {pos : Pos} {c : Ct} {P : List Nat}
variable (Φ Γ P ret wx) in
def xS1 (K : PySem.W.Frag) (s : S) : TS := fun D σ H => ∃ fr, Pin P fr ∧ tS Φ fr Γ ret wx K s D σ H
theorem ps_x1 {l : Stmt} {s : S} (h : ∀ fr, Pin P fr → PS X l (tS Φ fr Γ ret wx X.K s)) : PS X l (xS1 Φ Γ ret wx P X.K s) := ⟨fun pins s σ H D I ⟨fr, hp, hw⟩ => (h fr hp).run pins s σ H D I hw⟩
theorem ss_nr (gd : Gd X c) (hp : Pin P fr) (i n a w c1 c2 : Nat) {xi xn xa xw : Str} {x : Expr} {st : Stmt} {ex : E} {s : S} {rest : List Stmt} {ss : Ss} {k1 k2 k3 k4 : Nat} {p1 p2 p3 p4 p5 p6 p7 p8 p9 p10 p11 p12 p13 p14 p15 p16 p17 p18 p19 p20 p21 p22 p23 p24 : Pos}
    (hx : ∀ fr, Pin P fr → PE X x (tE Φ fr X.K Γ .fro ex)) (hs : ∀ fr, Pin (n :: i :: P) fr → PS X st (tS Φ fr Γ ret wx X.K s)) (h2 : PSs X rest (tSs Φ fr Γ ret wx X.K ss))
    (h : (sC c Γ P n xn .fro && vC c Γ i xi (.lst (.lst .fro)) && vC c Γ n xn .fro && vC c Γ a xa .fro && vC c Γ w xw .fro && notSlice x) = true) :
    PSs X (.Assign [.Name xn p1] (.Subscript (.Name xi p2) x p3) p4 :: st ::
      .Assign [.Subscript (.Subscript (.Name xi p5) (.Name xa p6) p7) (.Constant (.int (c1 : Int)) k1 p8) p9] (.BinOp (.Subscript (.Name xn p10) (.Constant (.int (c1 : Int)) k2 p11) p12) .Add (.Name xw p13) p14) p15 ::
      .Assign [.Subscript (.Subscript (.Name xi p16) (.Name xa p17) p18) (.Constant (.int (c2 : Int)) k3 p19) p20] (.Subscript (.Name xn p21) (.Constant (.int (c2 : Int)) k4 p22) p23) p24 :: rest) (tSs Φ fr Γ ret wx X.K (.nr i n a w ex s c1 c2 ss)) := by
  simp only [Bool.and_eq_true] at h
  obtain ⟨⟨⟨⟨⟨hS, hI⟩, hN⟩, hA⟩, hW⟩, hns⟩ := h
  obtain ⟨nd, n1, n2, n3, n4, n5⟩ := sC_of gd hp hS
  obtain ⟨i1, i2, i3, i4, i5⟩ := vC_of gd hI
  obtain ⟨m1, m2, m3, m4, m5⟩ := vC_of gd hN
  obtain ⟨a1, a2, a3, a4, a5⟩ := vC_of gd hA
  obtain ⟨w1, w2, w3, w4, w5⟩ := vC_of gd hW
  have S1 := ps_set (X := X) (pos := p4) (pos' := p1) nd n1 n2 (pe_ix (pos := p3) ix_list (pe_var (pos := p2) i1 i2 i4 i5) (pe_x hx) (plainIx_ns hns)) (swaps_no rfl) n3
  have S3 := ps_asg (X := X) (pos := p15) (pe_op (pos := p14) (op_ar .add) (pe_ix (pos := p12) ix_list (pe_var (pos := p10) m1 m2 m4 m5) (pe_int (j := k2) (pos := p11) (i := (c1 : Int))) (plainIx_ns rfl)) (pe_var (pos := p13) w1 w2 w4 w5)) (pg_sub (pos := p9) (pe_ix (pos := p7) ix_list (pe_var (pos := p5) i1 i2 i4 i5) (pe_var (pos := p6) a1 a2 a4 a5) (plainIx_ns rfl)) (pe_int (j := k1) (pos := p8) (i := (c1 : Int))) set_list (asg_sub rfl)) (by rw [swapsWithSole]; exact swaps_no rfl) rfl rfl
  have S4 := ps_asg (X := X) (pos := p24) (pe_ix (pos := p23) ix_list (pe_var (pos := p21) m1 m2 m4 m5) (pe_int (j := k4) (pos := p22) (i := (c2 : Int))) (plainIx_ns rfl)) (pg_sub (pos := p20) (pe_ix (pos := p18) ix_list (pe_var (pos := p16) i1 i2 i4 i5) (pe_var (pos := p17) a1 a2 a4 a5) (plainIx_ns rfl)) (pe_int (j := k3) (pos := p19) (i := (c2 : Int))) set_list (asg_sub rfl)) (by rw [swapsWithSole]; exact swaps_no rfl) rfl rfl
  refine PSs_mono (pss_cons S1 (pss_cons (ps_x1 hs) (pss_cons S3 (pss_cons S4 h2)))) fun D σ H h => ?_
  obtain ⟨ρ, ts, r, ⟨G, F1, F2, y⟩, he, q⟩ := h
  obtain ⟨m00, e00, he⟩ := bind_inv he
  obtain ⟨rx, e1, he⟩ := bind_inv he
  obtain ⟨m0, e0, he⟩ := bind_inv he
  obtain ⟨q0, e2, he⟩ := bind_inv he
  obtain ⟨ρ', e3, e4⟩ := bind_inv he
  clear he
  obtain ⟨d1, ρ1⟩ := rx
  have e3 : nrD i a w c1 c2 m0 d1 q0 = some ρ' := e3
  cases m0 with
  | list m =>
    cases d1 with
    | int j =>
      cases q0 with
      | nx ρ2 =>
        obtain ⟨ρ3, f1, he⟩ := bind_inv e3
        obtain ⟨ja, f2, he⟩ := bind_inv he
        obtain ⟨yw, f3, he⟩ := bind_inv he
        obtain ⟨k, f4, he⟩ := bind_inv he
        obtain ⟨ka, f5, he⟩ := bind_inv he
        obtain ⟨l, f6, he⟩ := bind_inv he
        obtain ⟨pp, f7, he⟩ := bind_inv he
        obtain ⟨mm1, f8, he⟩ := bind_inv he
        obtain ⟨l1, f9, he⟩ := bind_inv he
        obtain ⟨u, g1, he⟩ := bind_inv he
        obtain ⟨mm2, g2, rfl⟩ := map_inv he
        clear he e3
        have f2 := intD_inv f2
        have f3 := intD_inv f3
        have f6 := llD_inv f6
        have f7 := intD_inv f7
        have f9 := llD_inv f9
        have g1 := intD_inv g1
        obtain ⟨la, t1, t2, rfl⟩ := stD_inv f8
        obtain ⟨lb, t3, t4, rfl⟩ := stD_inv g2
        -- what is held
        obtain ⟨t, v0, F30, F40, u1, u2, _⟩ := y.takeOut e00
        rw [i3] at u1
        cases u1
        have hin : i ≠ n := fun z => by
          rw [z, m3] at i3
          cases i3
        refine ⟨v0, u2, fr, hp, ρ, ts, (.int j, ρ1), ⟨_, _, _, y⟩, e1, fun idx H1 s1 => ?_⟩
        obtain ⟨G, F1, F2, y⟩ := s1
        have ri := y.last1 rfl
        cases ri
        obtain ⟨F3', yd⟩ := y.drop
        obtain ⟨t, v1, F3, F4, u3, u4, y2⟩ := yd.takeOut e0
        rw [i3] at u3
        cases u3
        rw [u2] at u4
        cases u4
        obtain ⟨F5, Fi, z2, ow, th, back⟩ := y2.shield
        rcases ow with ⟨s, _, _⟩ | ⟨ds, a0, vs, F', q1, q2, q3, q4, q5⟩
        · cases s
        cases q1
        have q2 : v0 = .ref a0 := q2
        subst q2
        have q3 : Fi = a0 :: F' := q3
        subst q3
        obtain ⟨bv, Fk, q6, o1, _, _⟩ := q5.at f6
        rcases o1 with ⟨s, _, _⟩ | ⟨ds2, b1, ws0, F6, r1, r2, r3, r4, r5⟩
        · cases s
        cases r1
        have r2 : bv = .ref b1 := r2
        subst r2
        have vl : vs.length = m.length := q5.len
        refine ⟨a0, vs, j, .ref b1, rfl, rfl, SqL.of q4, ?_, ?_⟩
        · unfold atI
          rw [vl, f4]
          exact q6
        obtain ⟨F10, z5⟩ := z2.forget n
        have lens := z5.sl.lens
        have hnl : n < σ.length := by
          rw [← lens.1]
          exact (List.getElem?_eq_some_iff.mp m3).1
        have z6 := z5.sig (σ' := σ.set n (some (.ref b1))) (by rw [List.length_set]) (fun i' d hd => by
          have : n ≠ i' := fun z => by
            subst z
            rcases set_none_at (ρ1.set i none) n with h | h <;> rw [h] at hd <;> cases hd
          rw [List.getElem?_set_ne this]) (fun p hpp => by rw [List.getElem?_set_ne (Ne.symm (n5 p hpp))])
        have z7 := z6.pinned (i := i) (v := .ref a0) (by rw [List.getElem?_set_ne (Ne.symm hin)]; exact u2)
        have z8 := z7.pinned (i := n) (v := .ref b1) (by rw [List.getElem?_set_self hnl])
        refine ⟨_, ?_, (ρ1.set i none).set n none, ts, .nx ρ2, ⟨_, _, _, z8⟩, e2, fun σ2 H2 s2 => ?_⟩
        · intro p hpp
          rcases List.mem_cons.mp hpp with rfl | hpp
          · exact List.mem_cons_self
          · rcases List.mem_cons.mp hpp with rfl | hpp
            · exact List.mem_cons_of_mem _ List.mem_cons_self
            · exact List.mem_cons_of_mem _ (List.mem_cons_of_mem _ (hp p hpp))
        obtain ⟨G2, F11, F12, z9⟩ := s2
        have sn : σ2[n]? = some (some (.ref b1)) := z9.ok.pin _ List.mem_cons_self
        have si : σ2[i]? = some (some (.ref a0)) := z9.ok.pin _ (List.mem_cons_of_mem _ List.mem_cons_self)
        obtain ⟨kp, F13, z10⟩ := back z9.unpin.unpin
        have ha2 : H2 a0 = some (.lst vs) := by rw [kp a0 List.mem_cons_self]; exact q4
        obtain ⟨ρ9, x1, x2⟩ := bind_inv (show (restD [] ρ2).bind _ = some ρ3 from f1)
        cases x1
        have x3 : ρ2[i]? = some none ∧ ρ3 = put ρ2 i (.list m) := by
          revert x2
          cases h9 : ρ2[i]? with
          | none => intro x2; cases x2
          | some o9 =>
            cases o9 with
            | none => intro x2; cases x2; exact ⟨rfl, rfl⟩
            | some _ => intro x2; cases x2
        obtain ⟨x3, rfl⟩ := x3
        obtain ⟨F14, F15, z11⟩ := z10.putBack x3 i3 si
        have hlt : i < ρ2.length := by
          rcases Nat.lt_or_ge i ρ2.length with h | h
          · exact h
          · rw [List.getElem?_eq_none h] at x3
            cases x3
        have gm : ∀ d : PyData, Vw.get (put ρ2 i d) i = some d := fun d => by
          unfold Vw.get put
          rw [List.getElem?_set_self hlt]
          rfl
        have gm2 : ∀ d e : PyData, put (put ρ2 i d) i e = put ρ2 i e := fun d e => by
          unfold put
          rw [List.set_set]
        obtain ⟨va, sa, ra⟩ := z11.slot f2 a3
        cases ra
        obtain ⟨vw, sw, rw9⟩ := z11.slot f3 w3
        cases rw9
        obtain ⟨bn, wn, y1, y2', y3, y4, y5, y6⟩ := z11.inner (gm _) f6 i3 si ha2
        rw [q6] at y1
        cases y1
        obtain ⟨ba, wa, y7, y8, y9, _, y10, y11⟩ := z11.inner (gm _) t1 i3 si ha2
        have cat : ∀ {n' : Nat} (c : Nat), c < n' → ixN n' (c : Int) = some c := fun {n'} c hc => by
          unfold ixN
          rw [if_pos (by omega), if_pos (by omega)]
          simp
        have atc : ∀ {vs : List V} {c : Nat} {v : V}, vs[c]? = some v → atI vs (c : Int) = some v := fun {vs c v} h => by
          unfold atI
          rw [cat c (List.getElem?_eq_some_iff.mp h).1]
          exact h
        have atk : atI vs ja = some (.ref ba) := by
          unfold atI
          rw [vl, f5]
          exact y7
        refine ⟨.ref b1, sn, b1, wn, (c1 : Int), .int pp, rfl, rfl, SqL.of y2', atc (y4 c1 pp f7), .int yw, sw, pp, yw, pp + yw, rfl, rfl, rfl, .ref a0, si, .int ja, sa, a0, vs, ja, .ref ba, rfl, rfl, SqL.of ha2, atk, ba, wa, (c1 : Int), c1, rfl, rfl, y8, cat c1 (by rw [y9]; exact t2), ?_⟩
        have s12 := y11 c1 (pp + yw)
        rw [gm2] at s12
        obtain ⟨G3, F16, F17, z12⟩ := s12
        have ha3 : upd H2 ba (.lst (wa.set c1 (.int (pp + yw)))) a0 = some (.lst vs) := by rw [upd_ne y10]; exact ha2
        obtain ⟨bn2, wn2, v1, v2, v3, v4, v5, v6⟩ := z12.inner (gm _) f9 i3 si ha3
        rw [q6] at v1
        cases v1
        obtain ⟨ba2, wa2, v7, v8, v9, _, v10, v11⟩ := z12.inner (gm _) t3 i3 si ha3
        rw [y7] at v7
        cases v7
        refine ⟨.ref b1, sn, b1, wn2, (c2 : Int), .int u, rfl, rfl, SqL.of v2, atc (v4 c2 u g1), .ref a0, si, .int ja, sa, a0, vs, ja, .ref ba, rfl, rfl, SqL.of ha3, atk, ba, wa2, (c2 : Int), c2, rfl, rfl, v8, cat c2 (by rw [v9]; exact t4), ?_⟩
        have s13 := v11 c2 u
        rw [gm2] at s13
        rw [gm2] at e4
        exact ⟨_, ts, r, s13, e4, q⟩
      | _ => cases e3
    | _ => cases e3
  | _ => cases e3
end
end Vw
namespace Vw
open PySem PySem.Spec PyProof.Rows L2
section
variable {X : Cx} {c : Ct} {Φ : Cf} {fr : Fr} {Γ : List Ty} {w : Ty} {ret : Ty} {wx : Xw} {pos : Pos} {P P' : List Nat}
theorem few_of2 {e f : Expr} {env : Env} {p : Pos} (h : noStar e = true) (h2 : noStar f = true) : ((backTo p (starEach [e, f] env)).all (fun x => !x.1) && (backToKw p (keywordEach [] env)).all (fun x => x.1.isSome)
      && decide ([e, f].length + ([] : List Keyword).length + (if ([] : List Keyword).isEmpty then 0 else 1) < 30)) = true := by
  rw [star_cons h, star_cons h2]
  rfl
theorem k_ins2 (gd : Gd X c) (i : Nat) {x : Str} {a e : Expr} {ea ee : E} {px ap cp : Pos} (ha : PE X a (tE Φ fr X.K Γ .fro ea)) (he : PE X e (tE Φ fr X.K Γ .fro ee)) (h : (vC c Γ i x (.lst .fro) && (ap.endLine == cp.line) && noStar a && noStar e) = true) :
    PS X (.Expr (.Call (.Attribute (.Name x px) "insert" ap) [a, e] [] cp) pos) (tS Φ fr Γ ret wx X.K (.ins2 i ea ee)) := by
  simp only [Bool.and_eq_true] at h
  obtain ⟨⟨⟨h, hl⟩, hs⟩, hs2⟩ := h
  obtain ⟨hN, hv, hw, hd, hcd⟩ := vC_of gd h
  refine PS_mono (ps_expr (pe_bm PySem.F.plainAttrs_list PySem.F.slot_list_insert PySem.F.type_list_insert mt_insert (pe_var hN hv hd hcd) (pa_cons ha (pa_cons he pa_nil (star_cons (env := X.env) hs2)) (star_cons (env := X.env) hs)) rfl (few_of2 hs hs2) hl (star_cons hs) (stars_plain (es := [e]) (by show (noStar e && true) = true; rw [hs2]; rfl))) rfl) fun D σ H h => ?_
  obtain ⟨ρ, ts, r, ⟨G0, F01, F02, sr⟩, hq, q⟩ := h
  obtain ⟨x0, e0, hq⟩ := bind_inv hq
  cases x0 with
  | list l0 =>
    obtain ⟨ra, e1, hq⟩ := bind_inv hq
    obtain ⟨rb, e2, hq⟩ := bind_inv hq
    obtain ⟨x, e3, hq⟩ := bind_inv hq
    obtain ⟨a0, vs0, k1, k2, _⟩ := sr.slotL e0 hw
    refine ⟨_, k1, tyV_l k2, ρ, ts, ra, ⟨_, _, _, sr⟩, e1, fun u H1 s1 => ⟨ra.2, _, rb, s1, e2, fun z H2 s2 => ?_⟩⟩
    obtain ⟨G, F1, F2, y⟩ := id s2
    have ru := y.last2 rfl rfl
    obtain ⟨d1, ρ1⟩ := ra
    cases x with
    | list l =>
      cases d1 with
      | int j =>
        have hq : (if l.length < sizeLine ∧ 0 ≤ j ∧ j < 2 ^ 63 then some (Rs.nx (put rb.2 i (.list (l.take j.toNat ++ [rb.1] ++ l.drop j.toNat)))) else none) = some r := hq
        split at hq
        · rename_i cc
          cases hq
          obtain ⟨r1, r2⟩ := ru
          cases r1
          obtain ⟨F3, y2⟩ := y.drop
          obtain ⟨F4, y3⟩ := y2.drop
          obtain ⟨a, vs, g1, g2, g3, m⟩ := y3.slotMut e3 hw
          rw [k1] at g1
          cases g1
          exact ⟨_, vs, j, z, rfl, rfl, g2, by rw [g3.len]; exact cc.1, cc.2.1, cc.2.2, q _ _ (m _ _ (((g3.take _).app (.cons r2 .nil)).app (g3.drop _)))⟩
        · cases hq
      | _ => cases hq
    | _ => cases hq
  | _ => cases hq
/-- a cut of a list belongs to whom one likes -/
theorem e_slcl {oa : O} {a : Expr} {lo hi : Option Expr} {ol oh : Oe} {p2 : Pos} (m : Made .fro w) (ha : PE X a (tO Φ fr X.K Γ oa)) (hl : PO X lo (tOe Φ fr X.K Γ ol)) (hh : PO X hi (tOe Φ fr X.K Γ oh)) :
    PE X (.Subscript a (.Slice lo hi none p2) pos) (tE Φ fr X.K Γ w (.slcl oa ol oh)) := by
  refine PE_mono (pe_slice sl_both ha hl hh) fun σ H Q h => ?_
  obtain ⟨ρ, ts, r, sr, he, q⟩ := h
  obtain ⟨ra, e1, he⟩ := bind_inv he
  obtain ⟨rb, e2, he⟩ := bind_inv he
  obtain ⟨rc, e3, he⟩ := bind_inv he
  obtain ⟨x, e4, he⟩ := bind_inv he
  obtain ⟨d, e5, rfl⟩ := map_inv he
  refine ⟨ρ, ts, ra, sr, e1, fun v H1 ts' s1 hd => ⟨ra.2, _, rb, s1, e2, fun H2 s2 => ⟨rb.2, _, rc, s2, e3, fun H3 s3 => ?_⟩⟩⟩
  obtain ⟨G, F1, F2, y⟩ := id s3
  have y' : SRd fr X.K G F1 F2 Γ rc.2 σ (ts' ++ []) H3 := by rw [List.append_nil]; exact y
  have sn := y'.sn hd e4
  obtain ⟨k1, rfl⟩ := hd.pre
  obtain ⟨F3, y2⟩ := y.drop
  cases x with
  | list l =>
    cases e5
    obtain ⟨a, vs, rfl, h1, h2⟩ := sn.list y.sub
    exact .inr ⟨a, vs, rfl, .inl h1, fun p hp => q _ _ (y2.newList (h2.cut _ _) m hp)⟩
  | _ => cases e5
theorem sw_sub {o1 a o2 b e f : Expr} {sp sp2 pt pt2 : Pos} {kt k2 : Nat} {env : Env} : swappedStores [.Tuple [.Subscript o1 a sp, .Subscript o2 b sp2] kt pt] (.Tuple [e, f] k2 pt2) env = pure none := by
  unfold swappedStores
  simp only [List.filterMap_cons, List.filterMap_nil, List.length_cons, List.length_nil]
  split
  · rfl
  · split
    · rfl
    · rfl
/-- x[a], x[b] = (e, f) -/
theorem k_sw2 (gd : Gd X c) (i : Nat) {x : Str} {a b e f : Expr} {ea eb ee ef : E} {px py sp sp2 pt pt2 : Pos} {kt k2 : Nat} (ha : PE X a (tE Φ fr X.K Γ .fro ea)) (hb : PE X b (tE Φ fr X.K Γ .fro eb)) (he : PE X e (tE Φ fr X.K Γ .fro ee)) (hf : PE X f (tE Φ fr X.K Γ .fro ef))
    (h : (vC c Γ i x (.lst .fro) && notSlice a && notSlice b && noStar e && noStar f) = true) :
    PS X (.Assign [.Tuple [.Subscript (.Name x px) a sp, .Subscript (.Name x py) b sp2] kt pt] (.Tuple [e, f] k2 pt2) pos) (tS Φ fr Γ ret wx X.K (.sw2 i ea eb ee ef)) := by
  simp only [Bool.and_eq_true] at h
  obtain ⟨⟨⟨⟨h, hs⟩, hs2⟩, hs3⟩, hs4⟩ := h
  obtain ⟨hN, hv, hw, hd, hcd⟩ := vC_of gd h
  have tp : PE X (.Tuple [e, f] k2 pt2) (tE Φ fr X.K Γ .fro (.tup (.cons ee (.cons ef .nil)))) := e_tup (as_cons he (as_cons hf as_nil hs4) hs3)
  refine PS_mono (ps_asg tp (pg_tup gd.calm (pgs_cons (pg_sub (pe_var hN hv hd hcd) ha set_list (asg_sub hs)) (pgs_cons (pg_sub (pe_var hN hv hd hcd) hb set_list (asg_sub hs2)) pgs_nil)) rfl rfl) (by rfl) sw_sub (by rfl)) fun D σ H h => ?_
  obtain ⟨ρ, ts, r, sr, hq, q⟩ := h
  obtain ⟨r1, e1, hq⟩ := bind_inv hq
  obtain ⟨r2, e2, hq⟩ := bind_inv hq
  obtain ⟨x0, e0, hq⟩ := bind_inv hq
  obtain ⟨qa, e3, hq⟩ := bind_inv hq
  obtain ⟨x1, e4, hq⟩ := bind_inv hq
  have et : ev Φ (.tup (.cons ee (.cons ef .nil))) ρ = some (.tuple [r1.1, r2.1], r2.2) := by
    show ((ev Φ ee ρ).bind fun r => (((ev Φ ef r.2).bind fun s => (some ([], s.2)).map fun q => (s.1 :: q.1, q.2))).map fun q => (r.1 :: q.1, q.2)).bind (fun r => if lenOk r.1.length = true then some (PyData.tuple r.1, r.2) else none) = _
    rw [e1]
    show (((ev Φ ef r1.2).bind fun s => (some ([], s.2)).map fun q => (s.1 :: q.1, q.2)).map fun q => (r1.1 :: q.1, q.2)).bind _ = _
    rw [e2]
    rfl
  refine ⟨ρ, ts, _, sr, et, fun tv H1 s1 => ?_⟩
  obtain ⟨G, F1, F2, y⟩ := id s1
  have rt := y.last1 rfl
  have rt : Rp X.K G tv (.tuple [r1.1, r2.1]) := rt
  obtain ⟨ta, tvs, rfl, h1, h2⟩ := Sn.tuple y.sub (.inl rt)
  obtain ⟨F3, y2⟩ := y.drop
  cases h2 with
  | cons p1 h2 =>
    rename_i v1 vs1
    cases h2 with
    | cons p2 h2 =>
      cases h2
      rename_i v2
      refine ⟨ta, [v1, v2], rfl, h1, rfl, v1, [v2], rfl, ?_⟩
      -- both values are held
      have y3 := (y2.push p1).push p2
      obtain ⟨t0, v0, _, _, g1, g2, _⟩ := y3.takeOut e0
      refine ⟨v0, g2, r2.2, _, qa, ⟨_, _, _, y3⟩, e3, fun u H2 s2 => ?_⟩
      obtain ⟨G2, F5, F6, z⟩ := id s2
      have ru := z.last3 rfl rfl rfl
      obtain ⟨da, ρa⟩ := qa
      cases x1 with
      | list l =>
        cases da with
        | int j =>
          obtain ⟨k, e5, hq⟩ := bind_inv (show (ixN l.length j).bind _ = _ from hq)
          obtain ⟨x2, e6, hq⟩ := bind_inv hq
          obtain ⟨qb, e7, hq⟩ := bind_inv hq
          obtain ⟨x3, e8, hq⟩ := bind_inv hq
          obtain ⟨u1, u2, u3⟩ := ru
          cases u3
          obtain ⟨F7, z2⟩ := z.drop
          obtain ⟨a1, vs, m1, m2, m3, mm⟩ := z2.slotMut e4 hw
          rw [g2] at m1
          cases m1
          refine ⟨a1, vs, j, k, rfl, rfl, m2, by rw [m3.len]; exact e5, ?_⟩
          have s3 := mm _ _ (m3.set u1 k)
          refine ⟨v2, [], rfl, ?_⟩
          obtain ⟨G3, F8, F9, z3⟩ := id s3
          obtain ⟨t1, w1, _, _, n1, n2, _⟩ := z3.takeOut e6
          refine ⟨w1, n2, _, _, qb, s3, e7, fun u4 H4 s4 => ?_⟩
          obtain ⟨G4, F10, F11, z4⟩ := id s4
          have rv := z4.last3 rfl rfl rfl
          obtain ⟨db, ρb⟩ := qb
          cases x3 with
          | list l2 =>
            cases db with
            | int j2 =>
              obtain ⟨k2, e9, rfl⟩ := map_inv (show (ixN l2.length j2).map _ = _ from hq)
              obtain ⟨u5, u6, u7⟩ := rv
              cases u7
              obtain ⟨F12, z5⟩ := z4.drop
              obtain ⟨a2, vs2, o1, o2, o3, oo⟩ := z5.slotMut e8 hw
              rw [n2] at o1
              cases o1
              refine ⟨a2, vs2, j2, k2, rfl, rfl, o2, by rw [o3.len]; exact e9, rfl, q _ _ ?_⟩
              have s5 := oo _ _ (o3.set u6 k2)
              exact s5.drop.drop
            | _ => cases hq
          | _ => cases hq
        | _ => cases hq
      | _ => cases hq
end
end Vw
/-! a row of an own list of own lists is made anew: x[a] = x[a] + [e] -/
namespace Vw
open PySem PySem.Spec PyProof.Rows L2
section
variable {fr : Fr} {K : PySem.W.Frag} {G H : Hp} {F1 F2 : List Addr} {Γ : List Ty} {ρ : Rho} {σ : Sg} {ts us : List Tm}
/-- one part gives way to another -/
theorem AllF.swap {P P' : D → V → List Addr → Prop} {d : D} {v : V} {Fn : List Addr} (hn : Fn.Nodup) (hd : P' d v Fn) : ∀ {ds : List D} {vs : List V} {F : List Addr} {k : Nat}, AllF P ds vs F → k < ds.length → F.Nodup → (∀ a ∈ F, a ∉ Fn) → (∀ e u F', (∀ a ∈ F', a ∈ F) → P e u F' → P' e u F') →
    ∃ F', F'.Nodup ∧ (∀ a ∈ F', a ∈ F ∨ a ∈ Fn) ∧ AllF P' (ds.set k d) (vs.set k v) F'
  | d0 :: ds, v0 :: vs, F, 0, ⟨F1, F2, e, p, q⟩, _, nd, dj, mono => by
    subst e
    obtain ⟨n1, n2, n3⟩ := List.nodup_append.mp nd
    refine ⟨Fn ++ F2, List.nodup_append.mpr ⟨hn, n2, fun a ha b hb e => dj b (List.mem_append_right _ hb) (e ▸ ha)⟩, fun a ha => ?_, Fn, F2, rfl, hd, q.mono fun e u F' hF h => mono e u F' (fun a ha => List.mem_append_right _ (hF a ha)) h⟩
    rcases List.mem_append.mp ha with ha | ha
    · exact .inr ha
    · exact .inl (List.mem_append_right _ ha)
  | d0 :: ds, v0 :: vs, F, k + 1, ⟨F1, F2, e, p, q⟩, hk, nd, dj, mono => by
    subst e
    obtain ⟨n1, n2, n3⟩ := List.nodup_append.mp nd
    obtain ⟨F', m1, m2, m3⟩ := AllF.swap hn hd (k := k) q (by simpa using hk) n2 (fun a ha => dj a (List.mem_append_right _ ha)) fun e u F' hF h => mono e u F' (fun a ha => List.mem_append_right _ (hF a ha)) h
    refine ⟨F1 ++ F', List.nodup_append.mpr ⟨n1, m1, fun a ha b hb e => ?_⟩, fun a ha => ?_, F1, F', rfl, mono _ _ _ (fun a ha => List.mem_append_left _ ha) p, m3⟩
    · subst e
      rcases m2 a hb with h | h
      · exact n3 a ha a h rfl
      · exact dj a (List.mem_append_left _ ha) h
    · rcases List.mem_append.mp ha with ha | ha
      · exact .inl (List.mem_append_left _ ha)
      · rcases m2 a ha with h | h
        · exact .inl (List.mem_append_right _ h)
        · exact .inr h
  | [], _, _, _, h, hk, _, _, _ => absurd hk (Nat.not_lt_zero _)
  | _ :: _, [], _, _, h, _, _, _, _ => h.elim
/-- two things held become one, by a write to what the second owns -/
theorem SRd.merge {x0 x1 x2 : Tm} {a : Addr} {o : HO} (x : SRd fr K G F1 F2 Γ ρ σ (ts ++ [x0] ++ [x1]) H)
    (ha : ∀ F0 F, Own K G H x0.t x0.d x0.v F0 → Own K G H x1.t x1.d x1.v F → (F0 ++ F).Nodup → a ∈ F ∧ ∃ F', F'.Nodup ∧ (∀ b ∈ F', b ∈ F0 ∨ b ∈ F) ∧ Own K G (upd H a o) x2.t x2.d x2.v F') :
    ∃ F3, SRd fr K G F1 F3 Γ ρ σ (ts ++ [x2]) (upd H a o) := by
  obtain ⟨F34, F4, e, p', q⟩ := x.tm.app
  obtain ⟨F3, F0, e', p, q0⟩ := p'.app
  subst e'
  have nd := x.nd
  rw [e] at nd
  obtain ⟨nd1, nd2, dj⟩ := List.nodup_append.mp nd
  rw [List.append_assoc] at nd2
  obtain ⟨nd3, nd4, dj2⟩ := List.nodup_append.mp nd2
  obtain ⟨a4, F', m1, m2, ow⟩ := ha F0 F4 q0.one q.one nd4
  have inF : ∀ b ∈ F', b ∈ F0 ++ F4 := fun b hb => by
    rcases m2 b hb with h | h
    · exact List.mem_append_left _ h
    · exact List.mem_append_right _ h
  have F2in : ∀ b ∈ F3 ++ (F0 ++ F4), b ∈ F2 := fun b hb => by rw [e, List.append_assoc]; exact hb
  have ain : a ∈ F1 ++ F2 := List.mem_append_right _ (F2in a (List.mem_append_right _ (List.mem_append_right _ a4)))
  have out : ∀ b ∈ F1 ++ F3, upd H a o b = H b := fun b hb => upd_ne fun z => by
    subst z
    rcases List.mem_append.mp hb with hb | hb
    · exact dj b hb b (List.mem_append_right _ a4) rfl
    · exact dj2 b hb b (List.mem_append_right _ a4) rfl
  refine ⟨F3 ++ F', ⟨fun b u eb => ?_, x.sl.stay (Same.refl G) (fun b hb => out b (List.mem_append_left _ hb)), ?_, ?_, ?_, ?_⟩⟩
  · rw [upd_ne (ne_of_none eb (x.out a ain).1)]
    exact x.sub _ _ eb
  · exact (p.stay (Same.refl G) (fun b hb => out b (List.mem_append_right _ hb))).of_app (TmF.of_one ow)
  · refine List.nodup_append.mpr ⟨nd1, List.nodup_append.mpr ⟨nd3, m1, fun b hb c hc z => dj2 b hb c (inF c hc) z⟩, fun b hb c hc z => ?_⟩
    have hc2 : c ∈ F3 ++ (F0 ++ F4) := by
      rcases List.mem_append.mp hc with hc | hc
      · exact List.mem_append_left _ hc
      · exact List.mem_append_right _ (inF c hc)
    exact dj b hb c (by rw [List.append_assoc]; exact hc2) z
  · intro b hb
    rcases List.mem_append.mp hb with hb | hb
    · exact x.out b (List.mem_append_left _ hb)
    · refine x.out b (List.mem_append_right _ (F2in b ?_))
      rcases List.mem_append.mp hb with hb | hb
      · exact List.mem_append_left _ hb
      · exact List.mem_append_right _ (inF b hb)
  · refine ⟨fun b u eb hF => ?_, fun b eb => ?_, x.ok.sG, x.ok.nG, x.ok.pin, x.ok.tab.upd (.inr (x.there a ain))⟩
    · have hb : b ≠ a := fun z => by
        subst z
        rcases (x.out b ain).2 with h | h
        · exact hF h
        · rw [h] at eb
          cases eb
      exact (x.ok.keep b u eb hF).upd hb
    · by_cases hb : b = a
      · subst hb
        rw [upd_same] at eb
        cases eb
      · rw [upd_ne hb] at eb
        exact x.ok.mono b eb
/-- a slot's own list of own lists takes a new one in an old one's place -/
theorem SRd.slotRow {i : Nat} {m l : List D} {u : V} (x : SRd fr K G F1 F2 Γ ρ σ (ts ++ [⟨.lst .fro, .list l, u⟩]) H) (h : get ρ i = some (.list m)) (hw : Γ[i]? = some (.lst (.lst .fro))) :
    ∃ a vs, σ[i]? = some (some (.ref a)) ∧ H a = some (.lst vs) ∧ vs.length = m.length ∧ ∀ k, k < m.length → SR fr K Γ (put ρ i (.list (m.set k (.list l)))) σ ts (upd H a (.lst (vs.set k u))) := by
  obtain ⟨t, v, F3, F4, e1, e2, y⟩ := x.takeOut h
  rw [hw] at e1
  cases e1
  obtain ⟨F5, F6, e, p, q⟩ := y.tm.app
  rcases q.one with ⟨s, _, _⟩ | ⟨ds, a, vs, F', q1, q2, q3, q4, q5⟩
  · cases s
  · cases q1
    have q2 : v = .ref a := q2
    subst q2
    refine ⟨a, vs, e2, q4, q5.len, fun k hk => ?_⟩
    obtain ⟨F9, z⟩ := y.merge (a := a) (o := .lst (vs.set k u)) (x2 := ⟨.lst (.lst .fro), .list (m.set k (.list l)), .ref a⟩) fun F0 F ow0 ow nd => by
      rcases ow with ⟨s, _, _⟩ | ⟨ds2, a2, vs2, F2', p1, p2, p3, p4, p5⟩
      · cases s
      · cases p1
        cases p2
        have ev : vs2 = vs := by
          rw [q4] at p4
          cases p4
          rfl
        subst ev
        subst p3
        obtain ⟨n1, n2, n3⟩ := List.nodup_append.mp nd
        obtain ⟨na, nd2⟩ := List.nodup_cons.mp n2
        obtain ⟨F', m1, m2, m3⟩ := AllF.swap (P := Own K G H (.lst .fro)) (P' := Own K G (upd H a (.lst (vs2.set k u))) (.lst .fro)) (d := .list l) (v := u) n1
          (ow0.stay (Same.refl G) fun c hc => upd_ne fun z => n3 c hc a List.mem_cons_self z) (k := k) p5 hk nd2 (fun c hc hc2 => n3 c hc2 c (List.mem_cons_of_mem _ hc) rfl)
          fun e u F' hF h => h.stay (Same.refl G) fun c hc => upd_ne fun z => na (z ▸ hF c hc)
        refine ⟨List.mem_cons_self, a :: F', List.nodup_cons.mpr ⟨fun hx => ?_, m1⟩, fun c hc => ?_, .inr ⟨_, a, _, F', rfl, rfl, rfl, upd_same, m3⟩⟩
        · rcases m2 a hx with h | h
          · exact na h
          · exact n3 a h a List.mem_cons_self rfl
        · rcases List.mem_cons.mp hc with rfl | hc
          · exact .inr List.mem_cons_self
          · rcases m2 c hc with h | h
            · exact .inr (List.mem_cons_of_mem _ h)
            · exact .inl h
    have hl : i < ρ.length := (List.getElem?_eq_some_iff.mp (get_some h)).1
    obtain ⟨F7, F8, z2⟩ := z.putBack (by rw [List.getElem?_set_self hl]) hw e2
    have e3 : put (ρ.set i none) i (.list (m.set k (.list l))) = put ρ i (.list (m.set k (.list l))) := by
      unfold put
      rw [List.set_set]
    rw [e3] at z2
    exact ⟨_, _, _, z2⟩
theorem AllF.init {P : D → V → List Addr → Prop} : ∀ {ds : List D} {vs : List V} {F : List Addr}, AllF P ds vs F → F.Nodup → ∃ F', F'.Nodup ∧ (∀ a ∈ F', a ∈ F) ∧ AllF P ds.dropLast vs.dropLast F'
  | [], [], F, _, _ => ⟨[], List.nodup_nil, (fun _ h => nomatch h), rfl⟩
  | [d], [v], F, _, _ => ⟨[], List.nodup_nil, (fun _ h => nomatch h), rfl⟩
  | d :: d2 :: ds, v :: v2 :: vs, F, ⟨F1, F2, e, p, q⟩, nd => by
    subst e
    obtain ⟨n1, n2, n3⟩ := List.nodup_append.mp nd
    obtain ⟨F', m1, m2, m3⟩ := AllF.init q n2
    refine ⟨F1 ++ F', List.nodup_append.mpr ⟨n1, m1, fun a ha b hb e => n3 a ha b (m2 b hb) e⟩, fun a ha => ?_, F1, F', rfl, p, m3⟩
    rcases List.mem_append.mp ha with ha | ha
    · exact List.mem_append_left _ ha
    · exact List.mem_append_right _ (m2 a ha)
  | [], _ :: _, _, h, _ => h.elim
  | _ :: _, [], _, h, _ => h.elim
  | [_], _ :: _ :: _, _, ⟨_, _, _, _, h⟩, _ => h.elim
  | _ :: _ :: _, [_], _, ⟨_, _, _, _, h⟩, _ => h.elim
/-- a slot's own list of own lists loses its last one -/
theorem SRd.slotInit {i : Nat} {m : List D} (x : SRd fr K G F1 F2 Γ ρ σ ts H) (h : get ρ i = some (.list m)) (hw : Γ[i]? = some (.lst (.lst .fro))) :
    ∃ a vs, σ[i]? = some (some (.ref a)) ∧ H a = some (.lst vs) ∧ vs.length = m.length ∧ SR fr K Γ (put ρ i (.list m.dropLast)) σ ts (upd H a (.lst vs.dropLast)) := by
  have x := x.push (d := .none) (v := .non) .non
  obtain ⟨t, v, F3, F4, e1, e2, y⟩ := x.takeOut h
  rw [hw] at e1
  cases e1
  obtain ⟨F5, F6, e, p, q⟩ := y.tm.app
  rcases q.one with ⟨s, _, _⟩ | ⟨ds, a, vs, F', q1, q2, q3, q4, q5⟩
  · cases s
  · cases q1
    have q2 : v = .ref a := q2
    subst q2
    refine ⟨a, vs, e2, q4, q5.len, ?_⟩
    obtain ⟨F9, z⟩ := y.merge (a := a) (o := .lst vs.dropLast) (x2 := ⟨.lst (.lst .fro), .list m.dropLast, .ref a⟩) fun F0 F ow0 ow nd => by
      rcases ow with ⟨s, _, _⟩ | ⟨ds2, a2, vs2, F2', p1, p2, p3, p4, p5⟩
      · cases s
      · cases p1
        cases p2
        have ev : vs2 = vs := by
          rw [q4] at p4
          cases p4
          rfl
        subst ev
        subst p3
        obtain ⟨n1, n2, n3⟩ := List.nodup_append.mp nd
        obtain ⟨na, nd2⟩ := List.nodup_cons.mp n2
        obtain ⟨F', m1, m2, m3⟩ := p5.init nd2
        refine ⟨List.mem_cons_self, a :: F', List.nodup_cons.mpr ⟨fun hx => na (m2 a hx), m1⟩, fun c hc => ?_, .inr ⟨_, a, _, F', rfl, rfl, rfl, upd_same, ?_⟩⟩
        · rcases List.mem_cons.mp hc with rfl | hc
          · exact .inr List.mem_cons_self
          · exact .inr (List.mem_cons_of_mem _ (m2 c hc))
        · exact m3.mono fun e u F' hF h => h.stay (Same.refl G) fun c hc => upd_ne fun z => na (z ▸ m2 _ (hF c hc))
    have hl : i < ρ.length := (List.getElem?_eq_some_iff.mp (get_some h)).1
    obtain ⟨F7, F8, z2⟩ := z.putBack (by rw [List.getElem?_set_self hl]) hw e2
    have e3 : put (ρ.set i none) i (.list m.dropLast) = put ρ i (.list m.dropLast) := by
      unfold put
      rw [List.set_set]
    rw [e3] at z2
    exact ⟨_, _, _, z2⟩
/-- two things held become a new one -/
theorem SRd.merge2 {x0 x1 x2 : Tm} {p : Addr} {o : HO} (x : SRd fr K G F1 F2 Γ ρ σ (ts ++ [x0] ++ [x1]) H) (hp : H p = none)
    (ha : ∀ F0 F, Own K G (upd H p o) x0.t x0.d x0.v F0 → Own K G (upd H p o) x1.t x1.d x1.v F → (F0 ++ F).Nodup → p ∉ F0 ++ F → ∃ F', F'.Nodup ∧ (∀ b ∈ F', b = p ∨ b ∈ F0 ∨ b ∈ F) ∧ Own K G (upd H p o) x2.t x2.d x2.v F') :
    ∃ F3, SRd fr K G F1 F3 Γ ρ σ (ts ++ [x2]) (upd H p o) := by
  obtain ⟨y, gp, pF, p0⟩ := x.fresh (o := o) hp
  obtain ⟨F34, F4, e, p', q⟩ := y.tm.app
  obtain ⟨F3, F0, e', pp, q0⟩ := p'.app
  subst e'
  have nd := y.nd
  rw [e] at nd pF
  obtain ⟨nd1, nd2, dj⟩ := List.nodup_append.mp nd
  rw [List.append_assoc] at nd2
  obtain ⟨nd3, nd4, dj2⟩ := List.nodup_append.mp nd2
  have pn : p ∉ F0 ++ F4 := fun h => pF (by
    refine List.mem_append_right _ ?_
    rw [List.append_assoc]
    exact List.mem_append_right _ h)
  obtain ⟨F', m1, m2, ow⟩ := ha F0 F4 q0.one q.one nd4 pn
  have inF : ∀ b ∈ F', b = p ∨ b ∈ F0 ++ F4 := fun b hb => by
    rcases m2 b hb with h | h | h
    · exact .inl h
    · exact .inr (List.mem_append_left _ h)
    · exact .inr (List.mem_append_right _ h)
  have F2in : ∀ b ∈ F3 ++ (F0 ++ F4), b ∈ F2 := fun b hb => by rw [e, List.append_assoc]; exact hb
  have pF1 : p ∉ F1 := fun h => pF (List.mem_append_left _ h)
  have pF3 : p ∉ F3 := fun h => pF (by
    refine List.mem_append_right _ ?_
    rw [List.append_assoc]
    exact List.mem_append_left _ h)
  refine ⟨F3 ++ F', ⟨y.sub, y.sl, pp.of_app (TmF.of_one ow), ?_, ?_, y.ok⟩⟩
  · refine List.nodup_append.mpr ⟨nd1, List.nodup_append.mpr ⟨nd3, m1, fun b hb c hc z => ?_⟩, fun b hb c hc z => ?_⟩
    · subst z
      rcases inF b hc with h | h
      · exact pF3 (h ▸ hb)
      · exact dj2 b hb b h rfl
    · subst z
      rcases List.mem_append.mp hc with hc | hc
      · exact dj b hb b (by rw [List.append_assoc]; exact List.mem_append_left _ hc) rfl
      · rcases inF b hc with h | h
        · exact pF1 (h ▸ hb)
        · exact dj b hb b (by rw [List.append_assoc]; exact List.mem_append_right _ h) rfl
  · intro b hb
    rcases List.mem_append.mp hb with hb | hb
    · exact y.out b (List.mem_append_left _ hb)
    · rcases List.mem_append.mp hb with hb | hb
      · exact y.out b (List.mem_append_right _ (F2in b (List.mem_append_left _ hb)))
      · rcases inF b hb with h | h
        · subst h
          exact ⟨gp, .inr p0⟩
        · exact y.out b (List.mem_append_right _ (F2in b (List.mem_append_right _ h)))
/-- a slot's own list of own lists and one more: a new one -/
theorem SRd.slotCat {i : Nat} {m l : List D} {u : V} (x : SRd fr K G F1 F2 Γ ρ σ (ts ++ [⟨.lst .fro, .list l, u⟩]) H) (h : get ρ i = some (.list m)) (hw : Γ[i]? = some (.lst (.lst .fro))) :
    ∃ a vs, σ[i]? = some (some (.ref a)) ∧ H a = some (.lst vs) ∧ vs.length = m.length ∧ ∀ p, H p = none → SR fr K Γ (ρ.set i none) σ (ts ++ [⟨.lst (.lst .fro), .list (m ++ [.list l]), .ref p⟩]) (upd H p (.lst (vs ++ [u]))) := by
  obtain ⟨t, v, F3, F4, e1, e2, y⟩ := x.takeOut h
  rw [hw] at e1
  cases e1
  obtain ⟨F5, F6, e, p, q⟩ := y.tm.app
  rcases q.one with ⟨s, _, _⟩ | ⟨ds, a, vs, F', q1, q2, q3, q4, q5⟩
  · cases s
  · cases q1
    have q2 : v = .ref a := q2
    subst q2
    refine ⟨a, vs, e2, q4, q5.len, fun p hp => ?_⟩
    have ap : a ≠ p := fun z => by rw [z, hp] at q4; cases q4
    obtain ⟨F9, z⟩ := y.merge2 (p := p) (o := .lst (vs ++ [u])) (x2 := ⟨.lst (.lst .fro), .list (m ++ [.list l]), .ref p⟩) hp fun F0 F ow0 ow nd np => by
      rcases ow with ⟨s, _, _⟩ | ⟨ds2, a2, vs2, F2', p1, p2, p3, p4, p5⟩
      · cases s
      · cases p1
        cases p2
        have ev : vs2 = vs := by
          rw [upd_ne ap, q4] at p4
          cases p4
          rfl
        subst ev
        subst p3
        obtain ⟨n1, n2, n3⟩ := List.nodup_append.mp nd
        obtain ⟨na, nd2⟩ := List.nodup_cons.mp n2
        refine ⟨p :: (F2' ++ F0), List.nodup_cons.mpr ⟨fun hx => np ?_, List.nodup_append.mpr ⟨nd2, n1, fun c hc b hb z => n3 b hb c (List.mem_cons_of_mem _ hc) z.symm⟩⟩, fun c hc => ?_, .inr ⟨_, p, _, F2' ++ F0, rfl, rfl, rfl, upd_same, AllF.snoc ow0 p5⟩⟩
        · rcases List.mem_append.mp hx with h | h
          · exact List.mem_append_right _ (List.mem_cons_of_mem _ h)
          · exact List.mem_append_left _ h
        · rcases List.mem_cons.mp hc with rfl | hc
          · exact .inl rfl
          · rcases List.mem_append.mp hc with h | h
            · exact .inr (.inr (List.mem_cons_of_mem _ h))
            · exact .inr (.inl h)
    exact ⟨_, _, _, z⟩
end
section
variable {X : Cx} {c : Ct} {Φ : Cf} {fr : Fr} {Γ : List Ty} {w : Ty} {ret : Ty} {wx : Xw} {pos : Pos} {P P' : List Nat}
theorem s_rca {i : Nat} {x : Str} {a b e : Expr} {ea ee : E} {px sp py sp2 pl pb : Pos} (hN : X.N[i]? = some x) (hv : Vis X.env.scope x) (hw : Γ[i]? = some (.lst (.lst .fro))) (hd : (x == ("__debug__" : Str)) = false) (hcd : (x == ("__classdict__" : Str)) = false)
    (ha : PE X a (tI Φ fr Γ X.K ea)) (hb : PE X b (tI Φ fr Γ X.K ea)) (he : PE X e (tI Φ fr Γ X.K ee)) (sa : stE ea = true) (se : stE ee = true) (hs : notSlice a = true) (hs2 : notSlice b = true) (ht : noStar e = true) :
    PS X (.Assign [.Subscript (.Name x px) a sp] (.BinOp (.Subscript (.Name x py) b sp2) .Add (.List [e] pl) pb) pos) (tS Φ fr Γ ret wx X.K (.rca i ea ee)) := by
  refine PS_mono (ps_asg (pe_op op_catS (pe_ix ix_list (pe_var hN hv hd hcd) hb (plainIx_ns hs2)) (pe_lst (pa_cons he pa_nil (star_cons ht)))) (pg_sub (pe_var hN hv hd hcd) ha set_list (asg_sub hs)) (by rw [swapsWithSole]; exact swaps_no rfl) rfl rfl) fun D σ H h => ?_
  obtain ⟨ρ, ts, r, sr, hq, q⟩ := h
  obtain ⟨x0, e0, hq⟩ := bind_inv hq
  obtain ⟨qa, e1, hq⟩ := bind_inv hq
  obtain ⟨re, e2, hq⟩ := bind_inv hq
  have pa := stE_pure sa e1
  have pe := stE_pure se e2
  obtain ⟨da, ρa⟩ := qa
  obtain ⟨de, ρe⟩ := re
  have pa : ρa = ρ := pa
  have pe : ρe = ρ := pe
  subst pa
  subst pe
  cases x0 with
  | list m =>
    cases da with
    | int j =>
      cases de with
      | int n =>
        obtain ⟨k, e3, hq⟩ := bind_inv (show (ixN m.length j).bind _ = _ from hq)
        obtain ⟨y0, e4, hq⟩ := bind_inv hq
        cases y0 with
        | list l =>
          have hq : (if lenOk (l.length + 1) = true then some (Rs.nx (put ρe i (.list (m.set k (.list (l ++ [.int n])))))) else none) = some r := hq
          split at hq
          · rename_i cl
            cases hq
            obtain ⟨G, F1, F2, y⟩ := id sr
            obtain ⟨t0, v0, _, _, g1, g2, _⟩ := y.takeOut e0
            obtain ⟨a0, b0, vs, ws, k1, k3, k4, k5, k6, k7, _⟩ := y.slotMut2 e0 e4 hw
            rw [g2] at k1
            cases k1
            refine ⟨.ref a0, g2, ρe, ts, j, sr, e1, a0, vs, j, .ref b0, rfl, rfl, SqL.of k3, ?_, ρe, ts, n, sr, e2, ⟨(show 1 ≤ sizeLine by decide), fun p1 hp1 => ?_⟩⟩
            · unfold atI
              rw [k4, e3]
              exact k5
            · obtain ⟨y2, gp, pF, _⟩ := y.fresh (o := .lst [.int n]) hp1
              have nb : b0 ≠ p1 := fun z => by rw [z, hp1] at k6; cases k6
              refine ⟨b0, p1, ws, [.int n], rfl, rfl, .inl (by rw [upd_ne nb]; exact k6), .inl upd_same, by rw [k7.len]; exact lenOk_of cl, fun p2 hp2 => ?_⟩
              have s3 := y2.newList (w := .lst .fro) (RpAll.app k7 (.cons (.int n) .nil)) (.inl rfl) hp2
              obtain ⟨G3, F7, F8, y3⟩ := id s3
              obtain ⟨a9, vs9, l1, l2, l3, mm⟩ := y3.slotRow e0 hw
              rw [g2] at l1
              cases l1
              have kk : k < m.length := (List.getElem?_eq_some_iff.mp e4).1
              exact ⟨.ref a0, g2, ρe, _, j, s3, e1, a0, vs9, j, k, rfl, rfl, l2, by rw [l3]; exact e3, q _ _ (mm k kk)⟩
          · cases hq
        | _ => cases hq
      | _ => cases hq
    | _ => cases hq
  | _ => cases hq
theorem k_rca (gd : Gd X c) (i : Nat) {x : Str} {a b e : Expr} {ea ee : E} {px sp py sp2 pl pb : Pos} (ha : PE X a (tI Φ fr Γ X.K ea)) (hb : PE X b (tI Φ fr Γ X.K ea)) (he : PE X e (tI Φ fr Γ X.K ee)) (h : (vC c Γ i x (.lst (.lst .fro)) && stE ea && stE ee && notSlice a && notSlice b && noStar e) = true) :
    PS X (.Assign [.Subscript (.Name x px) a sp] (.BinOp (.Subscript (.Name x py) b sp2) .Add (.List [e] pl) pb) pos) (tS Φ fr Γ ret wx X.K (.rca i ea ee)) := by
  simp only [Bool.and_eq_true] at h
  obtain ⟨⟨⟨⟨⟨h0, g1⟩, g2⟩, g3⟩, g4⟩, g5⟩ := h
  obtain ⟨h1, h2, h3, h4, h5⟩ := vC_of gd h0
  exact s_rca h1 h2 h3 h4 h5 ha hb he g1 g2 g3 g4 g5
theorem s_pops {i : Nat} {x : Str} {px ap p2 : Pos} (hN : X.N[i]? = some x) (hv : Vis X.env.scope x) (hw : Γ[i]? = some (.lst (.lst .fro))) (hd : (x == ("__debug__" : Str)) = false) (hcd : (x == ("__classdict__" : Str)) = false) (hl : (ap.endLine == p2.line) = true) :
    PS X (.Expr (.Call (.Attribute (.Name x px) "pop" ap) [] [] p2) pos) (tS Φ fr Γ ret wx X.K (.pops i)) := by
  refine PS_mono (ps_expr (pe_bm0 PySem.F.plainAttrs_list PySem.F.slot_list_pop PySem.F.type_list_pop mt_pop (pe_var hN hv hd hcd) rfl hl) (swaps_no rfl)) fun D σ H h => ?_
  obtain ⟨ρ, ts, r, ⟨G, F1, F2, sr⟩, he, q⟩ := h
  obtain ⟨x, e1, he⟩ := bind_inv he
  cases x with
  | list l =>
    have he : (if l.isEmpty = false then some (Rs.nx (put ρ i (.list l.dropLast))) else none) = some r := he
    split at he
    · rename_i hne
      cases he
      obtain ⟨a, vs, g1, g2, g3, m⟩ := sr.slotInit e1 hw
      have hlen : 0 < vs.length := by
        cases l with
        | nil => cases hne
        | cons _ _ => rw [g3]; exact Nat.succ_pos _
      have hx : vs[vs.length - 1]? = some (vs[vs.length - 1]'(by omega)) := List.getElem?_eq_getElem _
      exact ⟨_, g1, tyV_l g2, a, vs, _, rfl, rfl, g2, hx, q _ _ m⟩
    · cases he
  | _ => cases he
theorem k_pops (gd : Gd X c) (i : Nat) {x : Str} {px ap p2 : Pos} (h : (vC c Γ i x (.lst (.lst .fro)) && (ap.endLine == p2.line)) = true) : PS X (.Expr (.Call (.Attribute (.Name x px) "pop" ap) [] [] p2) pos) (tS Φ fr Γ ret wx X.K (.pops i)) := by
  obtain ⟨h, hl⟩ := Bool.and_eq_true_iff.mp h
  obtain ⟨h1, h2, h3, h4, h5⟩ := vC_of gd h
  exact s_pops h1 h2 h3 h4 h5 hl
theorem s_apc {i : Nat} {x : Str} {b : Expr} {ea : E} {px py pz sp pl pb pc pd : Pos} (nd : X.N.Nodup) (hN : X.N[i]? = some x) (hx : Loc X.env.scope x) (hf : X.fn x = true ∨ X.env.scope.names.lookup x = some .local) (hv : Vis X.env.scope x) (hw : Γ[i]? = some (.lst (.lst .fro))) (hp : ∀ p ∈ fr.pins, p.1 ≠ i) (hd : (x == ("__debug__" : Str)) = false) (hcd : (x == ("__classdict__" : Str)) = false)
    (hc : X.calm = true) (hg : Gl X (PySem.Str.ofString (b1S .lst))) (hm : X.mg (PySem.Str.ofString (b1S .lst)) = none) (hb : PE X b (tI Φ fr Γ X.K ea)) (sa : stE ea = true) (hs2 : notSlice b = true) :
    PS X (.Assign [.Name x px] (.BinOp (.Name x py) .Add (.List [.Call (.Name (PySem.Str.ofString (b1S .lst)) pc) [.Subscript (.Name x pz) b sp] [] pd] pl) pb) pos) (tS Φ fr Γ ret wx X.K (.apc i ea)) := by
  refine PS_mono (ps_set nd hN hx (pe_op op_catS (pe_var hN hv hd hcd) (pe_lst (pa_cons (pe_b1 hc .lst (pe_ix ix_list (pe_var hN hv hd hcd) hb (plainIx_ns hs2)) rfl hg hm) pa_nil rfl))) (swaps_no rfl) hf) fun D σ H h => ?_
  obtain ⟨ρ, ts, r, sr, hq, q⟩ := h
  obtain ⟨x0, e0, hq⟩ := bind_inv hq
  obtain ⟨qa, e1, hq⟩ := bind_inv hq
  have pa := stE_pure sa e1
  obtain ⟨da, ρa⟩ := qa
  have pa : ρa = ρ := pa
  subst pa
  cases x0 with
  | list m =>
    cases da with
    | int j =>
      obtain ⟨k, e3, hq⟩ := bind_inv (show (ixN m.length j).bind _ = _ from hq)
      obtain ⟨y0, e4, hq⟩ := bind_inv hq
      cases y0 with
      | list l =>
        have hq : (if lenOk (m.length + 1) = true then some (Rs.nx (put ρa i (.list (m ++ [.list l])))) else none) = some r := hq
        split at hq
        · rename_i cl
          cases hq
          obtain ⟨G, F1, F2, y⟩ := id sr
          obtain ⟨t0, v0, _, _, g1, g2, _⟩ := y.takeOut e0
          obtain ⟨a0, b0, vs, ws, k1, k3, k4, k5, k6, k7, _⟩ := y.slotMut2 e0 e4 hw
          rw [g2] at k1
          cases k1
          refine ⟨.ref a0, g2, .ref a0, g2, ρa, ts, j, sr, e1, a0, vs, j, .ref b0, rfl, rfl, SqL.of k3, ?_, .ref b0, .list l, .list l, G, rfl, y.sub, .inr ⟨l, b0, ws, rfl, rfl, k6, k7⟩, rfl, fun p1 zs hp1 rz => ?_⟩
          · unfold atI
            rw [k4, e3]
            exact k5
          · refine ⟨(show 1 ≤ sizeLine by decide), fun p2 hp2 => ?_⟩
            have s1 := y.newList (w := .lst .fro) rz (.inl rfl) hp1
            obtain ⟨G1, F5, F6, y1⟩ := id s1
            obtain ⟨y2, _, _, _⟩ := y1.fresh (o := .lst [.ref p1]) hp2
            have n1 : a0 ≠ p1 := fun z => by rw [z, hp1] at k3; cases k3
            have h1 : upd H p1 (.lst zs) a0 = some (.lst vs) := by rw [upd_ne n1]; exact k3
            have n2 : a0 ≠ p2 := fun z => by rw [z, hp2] at h1; cases h1
            have h2 : upd (upd H p1 (.lst zs)) p2 (.lst [.ref p1]) a0 = some (.lst vs) := by rw [upd_ne n2]; exact h1
            refine ⟨a0, p2, vs, [.ref p1], rfl, rfl, .inl h2, .inl upd_same, by rw [k4]; exact lenOk_of cl, fun p3 hp3 => ?_⟩
            obtain ⟨a9, vs9, l1, l2, l3, mm⟩ := y2.slotCat e0 hw
            rw [g2] at l1
            cases l1
            rw [h2] at l2
            cases l2
            have z := (mm p3 hp3).setSlot hw hp
            have e5 : put (ρa.set i none) i (.list (m ++ [.list l])) = put ρa i (.list (m ++ [.list l])) := by
              unfold put
              rw [List.set_set]
            rw [e5] at z
            exact q _ _ z
        · cases hq
      | _ => cases hq
    | _ => cases hq
  | _ => cases hq
theorem k_apc (gd : Gd X c) (hpin : Pin P fr) (i : Nat) {x : Str} {b : Expr} {ea : E} {px py pz sp pl pb pc pd : Pos} (hb : PE X b (tI Φ fr Γ X.K ea)) (h : (sC c Γ P i x (.lst (.lst .fro)) && vC c Γ i x (.lst (.lst .fro)) && blC c (PySem.Str.ofString (b1S .lst)) && stE ea && notSlice b) = true) :
    PS X (.Assign [.Name x px] (.BinOp (.Name x py) .Add (.List [.Call (.Name (PySem.Str.ofString (b1S .lst)) pc) [.Subscript (.Name x pz) b sp] [] pd] pl) pb) pos) (tS Φ fr Γ ret wx X.K (.apc i ea)) := by
  simp only [Bool.and_eq_true] at h
  obtain ⟨⟨⟨⟨g1, g2⟩, g3⟩, g4⟩, g5⟩ := h
  obtain ⟨h1, h2, h3, h4, h5, h6⟩ := sC_of gd hpin g1
  obtain ⟨v1, v2, v3, v4, v5⟩ := vC_of gd g2
  exact s_apc h1 h2 h3 h4 v2 v3 h6 v4 v5 gd.calm (blC_of gd g3).1 (blC_of gd g3).2 hb g4 g5
theorem k_lnr (gd : Gd X c) (i : Nat) {x : Str} {b : Expr} {ea : E} {p px sp : Pos} (hb : PE X b (tI Φ fr Γ X.K ea)) (h : (vC c Γ i x (.lst (.lst .fro)) && blC c "len" && stE ea && notSlice b) = true) : PE X (.Call (.Name "len" p) [.Subscript (.Name x px) b sp] [] pos) (tE Φ fr X.K Γ w (.lnr i ea)) := by
  simp only [Bool.and_eq_true] at h
  obtain ⟨⟨⟨g1, g2⟩, g3⟩, g4⟩ := h
  obtain ⟨v1, v2, v3, v4, v5⟩ := vC_of gd g1
  refine PE_mono (pe_callB call_len_seq (blC_of gd g2).1 (blC_of gd g2).2 (by decide +kernel) (pa_cons (pe_ix ix_list (pe_var v1 v2 v4 v5) hb (plainIx_ns g4)) pa_nil rfl) (by decide) (by decide) rfl rfl) fun σ H Q h => ?_
  obtain ⟨ρ, ts, r, sr, he, q⟩ := h
  obtain ⟨x0, e0, hq⟩ := bind_inv he
  obtain ⟨qa, e1, hq⟩ := bind_inv hq
  have pa := stE_pure g3 e1
  obtain ⟨da, ρa⟩ := qa
  have pa : ρa = ρ := pa
  subst pa
  cases x0 with
  | list m =>
    cases da with
    | int j =>
      obtain ⟨k, e3, hq⟩ := bind_inv (show (ixN m.length j).bind _ = _ from hq)
      obtain ⟨y0, e4, hq⟩ := bind_inv hq
      cases y0 with
      | list l =>
        cases hq
        obtain ⟨G, F1, F2, y⟩ := id sr
        obtain ⟨a0, b0, vs, ws, k1, k3, k4, k5, k6, k7, _⟩ := y.slotMut2 e0 e4 v3
        refine ⟨.ref a0, k1, ρa, ts, j, sr, e1, a0, vs, j, .ref b0, rfl, rfl, SqL.of k3, ?_, b0, ws, rfl, .inl (SqL.of k6), ?_⟩
        · unfold atI
          rw [k4, e3]
          exact k5
        · rw [k7.len]
          exact q _ _ (sr.res rfl fun G => .int _)
      | _ => cases hq
    | _ => cases hq
  | _ => cases hq
/-- len(set(..)) of a list of numbers -/
def tLS (K : PySem.W.Frag) (ta : TE) : TE := fun σ H Q => ta σ H fun v H' => ∃ (a : Addr) (ns : List Int), v = .ref a ∧ SqL K H' a (ns.map V.int) ∧ ns.length ≤ 4000 ∧ Q (.int ((PyProof.Rows.firstMet (fun i => ns.getD i 0) ns.length).length : Nat)) H'
theorem firstMet_le (f : Nat → Int) : ∀ n, (PyProof.Rows.firstMet f n).length ≤ n
  | 0 => Nat.le_refl _
  | n + 1 => by
    have ih := firstMet_le f n
    rw [PyProof.Rows.firstMet_succ]
    show (if (PyProof.Rows.firstMet f n).any (· == f n) then PyProof.Rows.firstMet f n else PyProof.Rows.firstMet f n ++ [f n]).length ≤ n + 1
    split
    · omega
    · rw [List.length_append, List.length_singleton]
      omega
theorem pe_ls {a : Expr} {ta : TE} {p p2 q : Pos} (gl : Gl X "len") (ml : X.mg "len" = none) (gs : Gl X "set") (ms : X.mg "set" = none) (hp : PE X a ta) (cl : X.calm = true) (sa : starEach [a] X.env = (false, eval a X.env) :: starEach [] X.env) :
    PE X (.Call (.Name "len" p) [.Call (.Name "set" p2) [a] [] q] [] pos) (tLS X.K ta) := by
  constructor
  intro pins s σ H Q inv hq
  refine Call_ (ld_blt inv gl ml boot_len (PyProof.Rows.callWith_builtin1 (PyProof.Rows.args_cons ?_ rfl) rfl rfl))
  refine Call_ (ld_blt inv gs ms boot_set (PyProof.Rows.callWith_type1 (PyProof.Rows.args_cons ?_ sa) sa rfl))
  refine thn (hp.run pins s σ H _ inv hq) fun v s1 ⟨x, H1, I1, r1, b, ns, e1, e2, e3, e4⟩ => PyProof.Rows.args_nil ?_
  subst e1
  cases r1
  obtain ⟨its, rv, pl, _⟩ := I1.list e2
  have sz : its.toArray.size = ns.length := by
    have h := rv.length
    rw [List.length_map] at h
    rw [List.size_toArray, h]
  have scan : its.toArray.size + 1 < PySem.scanBound := by
    rw [sz]
    unfold PySem.scanBound
    omega
  refine call_set_list (I1.ok.hd cl) pl.isList (by simpa using RZ.intsAre_vals rv) scan fun h' tk made old => PyProof.Rows.args_nil ?_
  rw [sz] at made
  have few := firstMet_le (fun i => ns.getD i 0) ns.length
  obtain ⟨o, es, ep, t, m1, m2, m3, _, _, _, m4, m5⟩ := made
  have I2 : Inv X pins σ H1 { s1 with heap := h', toks := tk } := I1.kept fun c o e => old c o (Heap.lt_size e) e
  refine call_len_set m1 m2 m3 m4 (by rw [m5]; omega) ⟨.int ((PyProof.Rows.firstMet (fun i => ns.getD i 0) ns.length).length : Nat), H1, I2.tok _, ⟨_, by rw [m5]⟩, e4⟩
theorem k_lst0 (gd : Gd X c) {a : Expr} {ea : E} {p p2 q : Pos} (ha : PE X a (tE Φ fr X.K Γ .fro ea)) (h : (blC c "len" && blC c "set" && noStar a) = true) : PE X (.Call (.Name "len" p) [.Call (.Name "set" p2) [a] [] q] [] pos) (tE Φ fr X.K Γ w (.lst0 ea)) := by
  simp only [Bool.and_eq_true] at h
  obtain ⟨⟨g1, g2⟩, g3⟩ := h
  refine PE_mono (pe_ls (blC_of gd g1).1 (blC_of gd g1).2 (blC_of gd g2).1 (blC_of gd g2).2 ha gd.calm (star_cons g3)) fun σ H Q h => ?_
  obtain ⟨ρ, ts, r, sr, he, q⟩ := h
  obtain ⟨ra, e1, he⟩ := bind_inv he
  refine ⟨ρ, ts, ra, sr, e1, fun v H1 s1 => ?_⟩
  obtain ⟨G, F1, F2, y⟩ := id s1
  have rv := y.last1 rfl
  obtain ⟨d, ρ1⟩ := ra
  cases d with
  | list l =>
    obtain ⟨ns, e2, he⟩ := bind_inv (show (intsD l).bind _ = _ from he)
    have he : (if ns.length ≤ 4000 then some ((PyData.int ((PyProof.Rows.firstMet (fun i => ns.getD i 0) ns.length).length : Nat) : D), ρ1) else none) = some r := he
    split at he
    · rename_i c4
      cases he
      have e3 := intsD_inv e2
      subst e3
      obtain ⟨a, vs, rfl, h1, h2⟩ := Sn.list y.sub (.inl rv)
      have e5 := h2.ints
      subst e5
      exact ⟨a, ns, rfl, .inl h1, c4, q _ _ (s1.drop.res rfl fun G => .int _)⟩
    · cases he
  | _ => cases he
/-- the order of data that are alike -/
def rLtG (K : PySem.W.Frag) : R2 := fun x y H Q => ∃ d e, Dp K H x d ∧ Dp K H y e ∧ PySem.W.alike d e = true ∧ d ≠ .none ∧ d.depth ≤ 64 ∧ Q (.bl (PySem.W.dataLt d e)) H
theorem op_ltG (hu : X.A.units + 64 < cLine) : OpR X (compareOp .Lt) (rLtG X.K) := by
  intro pins s σ H x y v u Q inv rx ry h
  obtain ⟨d, e, h1, h2, h3, h4, h5, q⟩ := h
  obtain ⟨as, r1⟩ := Dp.reads inv d x v h1 rx
  obtain ⟨bs, r2⟩ := Dp.reads inv e y u h2 ry
  exact PySem.W.rcLt_alike d e X.A s v u as bs r1 r2 h3 h4 (by omega) X.prog X.w X.xe _ ⟨.bl _, H, inv, rfl, q⟩
theorem m_ltd {ea eb : E} {σ : Sg} {H : Hp} {Q : VK} (h : tE Φ fr X.K Γ w (.ltd ea eb) σ H Q) : tOp (rLtG X.K) (tE Φ fr X.K Γ .fro ea) (tE Φ fr X.K Γ .fro eb) σ H Q := by
  obtain ⟨ρ, ts, r, sr, he, q⟩ := h
  obtain ⟨ra, e1, he⟩ := bind_inv he
  obtain ⟨rb, e2, he⟩ := bind_inv he
  split at he
  · rename_i c
    cases he
    refine ⟨ρ, ts, ra, sr, e1, fun v H1 s1 => ⟨ra.2, _, rb, s1, e2, fun u H2 s2 => ?_⟩⟩
    obtain ⟨G, F1, F2, y⟩ := id s2
    have rp := y.last2 rfl rfl
    refine ⟨_, _, (Rp_same y.sub _ _ rp.1).dp, (Rp_same y.sub _ _ rp.2).dp, c.1, fun z => ?_, c.2.2, q _ _ (s2.drop.drop.res rfl (rp_bl _))⟩
    have z : ra.1 = .none := z
    have := c.2.1
    rw [z] at this
    cases this
  · cases he
theorem k_ltd (gd : Gd X c) {a b : Expr} {ea eb : E} (ha : PE X a (tE Φ fr X.K Γ .fro ea)) (hb : PE X b (tE Φ fr X.K Γ .fro eb)) : PE X (.Compare a [.Lt] [b] pos) (tE Φ fr X.K Γ w (.ltd ea eb)) :=
  PE_mono (pe_cmpR (op_ltG gd.u64) ha hb (nobehind b (by decide) (by decide))) fun σ H Q h => m_ltd h
theorem k_ltdT (gd : Gd X c) {a b : Expr} {ea eb : E} (ha : PE X a (tE Φ fr X.K Γ .fro ea)) (hb : PE X b (tE Φ fr X.K Γ .fro eb)) : PT X (.Compare a [.Lt] [b] pos) (tT Φ fr X.K Γ (.e (.ltd ea eb))) :=
  t_cmp (pt_cmpR (op_ltG gd.u64) ha hb (nobehind b (by decide) (by decide))) rfl fun σ H Q h => m_ltd h
end
end Vw
/-! a list the other way round -/
namespace Vw
open PySem PySem.Spec PyProof.Rows L2
theorem RpAll.rev {K : PySem.W.Frag} {G : Hp} : ∀ {vs : List V} {l : List D}, RpAll K G vs l → RpAll K G vs.reverse l.reverse
  | _, _, .nil => .nil
  | _, _, .cons h t => by
    rw [List.reverse_cons, List.reverse_cons]
    exact t.rev.app (.cons h .nil)
section
variable {X : Cx} {c : Ct} {Φ : Cf} {fr : Fr} {Γ : List Ty} {w : Ty} {ret : Ty} {wx : Xw} {pos : Pos} {P P' : List Nat}
theorem e_rvl {a : Expr} {oa : O} {k : Nat} {p1 p2 p3 : Pos} (m : Made .fro w) (ha : PE X a (tO Φ fr X.K Γ oa)) : PE X (.Subscript a (.Slice none none (some (.UnaryOp .USub (.Constant (.int 1) k p1) p2)) p3) pos) (tE Φ fr X.K Γ w (.rvl oa)) := by
  refine PE_mono (pe_revL ha) fun σ H Q h => ?_
  obtain ⟨ρ, ts, r, sr, he, q⟩ := h
  obtain ⟨ra, e1, he⟩ := bind_inv he
  refine ⟨ρ, ts, ra, sr, e1, fun v H1 ts' s1 hd => ?_⟩
  obtain ⟨G, F1, F2, y⟩ := id s1
  have y' : SRd fr X.K G F1 F2 Γ ra.2 σ (ts' ++ []) H1 := by rw [List.append_nil]; exact y
  have lt : lateD Φ oa ra.1 ra.2 = some ra.1 := by
    cases oa with
    | e a => rfl
    | s i =>
      obtain ⟨d', e7, rfl⟩ := map_inv (show (get ρ i).map (fun d => (d, ρ)) = some ra from e1)
      exact e7
  have sn := y'.sn hd lt
  obtain ⟨k1, rfl⟩ := hd.pre
  obtain ⟨d, ρ1⟩ := ra
  cases d with
  | list l =>
    cases he
    obtain ⟨b, vs, rfl, h1, h2⟩ := sn.list y.sub
    refine ⟨b, vs, rfl, .inl h1, fun p hp => q _ _ ?_⟩
    obtain ⟨F3, y2⟩ := y.drop
    exact y2.newList h2.rev m hp
  | _ => cases he
end
end Vw
/-! dicts whose keys are numbers and texts: the object beside its data -/
namespace Vw
open PySem PySem.Spec PyProof.Rows L2
theorem dctK_nil : dctK [] [] = [] := rfl
theorem dctK_cons {k : Key} {ks : List Key} {v : V} {vs : List V} : dctK (k :: ks) (v :: vs) = (k, v) :: dctK ks vs := rfl
theorem kD_rp {K : PySem.W.Frag} {G : Hp} {k : Key} {v : V} (h : Rp K G v (kD k)) : v = kV k := by
  cases k with
  | inl i => cases h; rfl
  | inr x => cases h; rfl
theorem keyOf_eq {d : D} {k : Key} (h : keyOf d = some k) : d = kD k := by
  cases d <;> cases h <;> rfl
theorem keyOf_kD {k : Key} : keyOf (kD k) = some k := by cases k <;> rfl
theorem key_rp {K : PySem.W.Frag} {G : Hp} {d : D} {k : Key} {v : V} (h : keyOf d = some k) (r : Rp K G v d) : v = kV k := by
  rw [keyOf_eq h] at r
  exact kD_rp r
theorem dget_rel {K : PySem.W.Frag} {G : Hp} {j : Key} : ∀ {ks : List Key} {ds : List D} {vs : List V}, ks.length = ds.length → RpAll K G vs ds →
    (dGet ks ds j = none → valV (dctK ks vs) j = none) ∧ ∀ d, dGet ks ds j = some d → ∃ v, valV (dctK ks vs) j = some v ∧ Rp K G v d
  | [], [], _, _, .nil => ⟨fun _ => rfl, fun d h => nomatch h⟩
  | k :: ks, d :: ds, _, hl, .cons (v := v) (vs := vs) h t => by
    obtain ⟨i1, i2⟩ := dget_rel (j := j) (ks := ks) (by simpa using hl) t
    rw [dctK_cons]
    by_cases e : k = j
    · subst e
      refine ⟨fun h' => ?_, fun d' h' => ⟨v, valV_pos rfl, ?_⟩⟩
      · rw [dGet, if_pos rfl] at h'
        cases h'
      · rw [dGet, if_pos rfl] at h'
        cases h'
        exact h
    · refine ⟨fun h' => ?_, fun d' h' => ?_⟩
      · rw [dGet, if_neg e] at h'
        rw [valV_neg e]
        exact i1 h'
      · rw [dGet, if_neg e] at h'
        rw [valV_neg e]
        exact i2 d' h'
  | [], _ :: _, _, hl, _ => by simp at hl
  | _ :: _, [], _, hl, _ => by simp at hl
/-- a new key -/
theorem dput_new {K : PySem.W.Frag} {G : Hp} {j : Key} {v : V} {ks : List Key} {ds : List D} {vs : List V} (hl : ks.length = ds.length) (r : RpAll K G vs ds) (h : dGet ks ds j = none) : putK (dctK ks vs) j v = dctK (ks ++ [j]) (vs ++ [v]) := by
  have hn := (dget_rel (j := j) hl r).1 h
  have ha : ((dctK ks vs).any fun kv => decide (kv.1 = j)) = false := by rw [valV_any, hn]; rfl
  unfold putK
  rw [if_neg (by rw [ha]; decide)]
  unfold dctK
  have e : ks.length = vs.length := by rw [hl, r.len]
  rw [List.zip_append e]
  rfl
/-- a key that is there -/
theorem dput_old {K : PySem.W.Frag} {G : Hp} {j : Key} {v : V} {d : D} (hv : Rp K G v d) : ∀ {ks : List Key} {ds : List D} {vs : List V}, ks.length = ds.length → RpAll K G vs ds →
    ∃ vs', ((dctK ks vs).map fun kv => if kv.1 = j then (kv.1, v) else kv) = dctK ks vs' ∧ RpAll K G vs' (dPutV ks ds j d)
  | [], [], _, _, .nil => ⟨[], rfl, .nil⟩
  | k :: ks, e :: ds, _, hl, .cons (v := u) (vs := vs) h t => by
    obtain ⟨vs', i1, i2⟩ := dput_old (j := j) hv (ks := ks) (by simpa using hl) t
    rw [dctK_cons, List.map_cons, i1]
    by_cases q : k = j
    · subst q
      refine ⟨v :: vs', ?_, ?_⟩
      · rw [if_pos rfl]
        rfl
      · rw [dPutV, if_pos rfl]
        exact .cons hv i2
    · refine ⟨u :: vs', ?_, ?_⟩
      · rw [if_neg q]
        rfl
      · rw [dPutV, if_neg q]
        exact .cons h i2
  | [], _ :: _, _, hl, _ => by simp at hl
  | _ :: _, [], _, hl, _ => by simp at hl
theorem dPutV_len {j : Key} {d : D} : ∀ {ks : List Key} {ds : List D}, ks.length = ds.length → (dPutV ks ds j d).length = ks.length
  | [], [], _ => rfl
  | k :: ks, e :: ds, hl => by
    rw [dPutV]
    split <;> · rw [List.length_cons, dPutV_len (by simpa using hl)]; rfl
  | [], _ :: _, hl => by simp at hl
  | _ :: _, [], hl => by simp at hl
section
variable {fr : Fr} {K : PySem.W.Frag} {G H : Hp} {F1 F2 : List Addr} {Γ : List Ty} {ρ : Rho} {σ : Sg} {ts us : List Tm}
/-- a slot's dict: it may be read, and changed in its place -/
theorem SRd.slotDct (x : SRd fr K G F1 F2 Γ ρ σ ts H) {i : Nat} {ks : List Key} {ds : List D} (h : get ρ i = some (dctD ks ds)) (hl : ks.length = ds.length) (hw : Γ[i]? = some .dct) :
    ∃ a ks0 vs ds0, σ[i]? = some (some (.ref a)) ∧ H a = some (.dK (dctK ks0 vs)) ∧ dctD ks ds = dctD ks0 ds0 ∧ ks0.length = ds0.length ∧ RpAll K G vs ds0 ∧
      ∀ ks' vs' ds', ks'.length = ds'.length → RpAll K G vs' ds' → SR fr K Γ (put ρ i (dctD ks' ds')) σ ts (upd H a (.dK (dctK ks' vs'))) := by
  obtain ⟨t, v, F3, F4, e1, e2, y⟩ := x.takeOut h
  rw [hw] at e1
  cases e1
  obtain ⟨F5, F6, e, p, q⟩ := y.tm.app
  rcases q.one with ⟨s, _, _⟩ | ⟨ks0, ds0, a, vs, q1, q2, q3, q4, q5, q6⟩
  · cases s
  · have q2 : v = .ref a := q2
    subst q2
    refine ⟨a, ks0, vs, ds0, e2, q4, q1, q5, q6, fun ks' vs' ds' hl' r => ?_⟩
    have z := y.write (a := a) (o := .dK (dctK ks' vs')) (x2 := ⟨.dct, dctD ks' ds', .ref a⟩) fun F ow nd => by
      rcases ow with ⟨s, _, _⟩ | ⟨ks2, ds2, a2, vs2, p1, p2, p3, p4, p5, p6⟩
      · cases s
      · cases p2
        subst p3
        exact ⟨List.mem_cons_self, .inr ⟨ks', ds', a, vs', rfl, rfl, rfl, upd_same, hl', r⟩⟩
    have hlr : i < ρ.length := (List.getElem?_eq_some_iff.mp (get_some h)).1
    obtain ⟨F7, F8, z2⟩ := z.putBack (by rw [List.getElem?_set_self hlr]) hw e2
    have e3 : put (ρ.set i none) i (dctD ks' ds') = put ρ i (dctD ks' ds') := by
      unfold put
      rw [List.set_set]
    rw [e3] at z2
    exact ⟨_, _, _, z2⟩
end
end Vw
/-! own dicts: {}, x[k], k in x, x[k] = e -/
namespace Vw
open PySem PySem.Spec PyProof.Rows L2
theorem keysD_kD : ∀ l : List Key, keysD (l.map kD) = some l
  | [] => rfl
  | k :: l => by
    show (keyOf (kD k)).bind _ = _
    rw [keyOf_kD]
    show (keysD (l.map kD)).map (k :: ·) = _
    rw [keysD_kD l]
    rfl
theorem dKs_dct {ks : List Key} {ds : List D} (hl : ks.length = ds.length) : dKs (dctD ks ds) = some (ks, ds) := by
  have e1 : ((ks.map kD).zip ds).map (·.1) = ks.map kD := by
    rw [List.map_fst_zip]
    rw [List.length_map]
    omega
  have e2 : ((ks.map kD).zip ds).map (·.2) = ds := by
    rw [List.map_snd_zip]
    rw [List.length_map]
    omega
  show (keysD (((ks.map kD).zip ds).map (·.1))).map _ = _
  rw [e1, e2, keysD_kD]
  rfl
section
variable {fr : Fr} {K : PySem.W.Frag} {G H : Hp} {F1 F2 : List Addr} {Γ : List Ty} {ρ : Rho} {σ : Sg} {ts us : List Tm}
theorem SRd.mkDct (x : SRd fr K G F1 F2 Γ ρ σ ts H) {p : Addr} (hp : H p = none) : SR fr K Γ ρ σ (ts ++ [⟨.dct, dctD [] [], .ref p⟩]) (upd H p (.dK [])) := by
  obtain ⟨y, gp, pF, p0⟩ := x.fresh (o := .dK []) hp
  refine ⟨G, F1, F2 ++ [p], y.sub, y.sl, y.tm.of_app (TmF.of_one (.inr ⟨[], [], p, [], rfl, rfl, rfl, upd_same, rfl, .nil⟩)), ?_, fun a ha => ?_, y.ok⟩
  · rw [← List.append_assoc]
    refine List.nodup_append.mpr ⟨y.nd, by simp, fun a ha b hb e => ?_⟩
    rw [List.mem_singleton.mp hb] at e
    exact pF (e ▸ ha)
  · rw [← List.append_assoc] at ha
    rcases List.mem_append.mp ha with ha | ha
    · exact y.out a ha
    · rw [List.mem_singleton.mp ha]
      exact ⟨gp, .inr p0⟩
/-- a slot's dict, its keys and values told -/
theorem SRd.slotK (x : SRd fr K G F1 F2 Γ ρ σ ts H) {i : Nat} {d : D} {k : List Key × List D} (h : get ρ i = some d) (hk : dKs d = some k) (hw : Γ[i]? = some .dct) :
    ∃ a vs, σ[i]? = some (some (.ref a)) ∧ H a = some (.dK (dctK k.1 vs)) ∧ k.1.length = k.2.length ∧ RpAll K G vs k.2 ∧
      ∀ ks' vs' ds', ks'.length = ds'.length → RpAll K G vs' ds' → SR fr K Γ (put ρ i (dctD ks' ds')) σ ts (upd H a (.dK (dctK ks' vs'))) := by
  obtain ⟨t, v, F3, F4, e1, e2, y⟩ := x.takeOut h
  rw [hw] at e1
  cases e1
  obtain ⟨F5, F6, e, p, q⟩ := y.tm.app
  rcases q.one with ⟨s, _, _⟩ | ⟨ks0, ds0, a, vs, q1, q2, q3, q4, q5, q6⟩
  · cases d <;> first | cases hk | cases s
  · have q1 : d = dctD ks0 ds0 := q1
    subst q1
    rw [dKs_dct q5] at hk
    cases hk
    obtain ⟨a', ks1, vs1, ds1, z1, z2, z3, z4, z5, z6⟩ := x.slotDct h q5 hw
    have q2 : v = .ref a := q2
    rw [q2, z1] at e2
    cases e2
    exact ⟨a, vs, z1, q4, q5, q6, z6⟩
end
section
variable {X : Cx} {c : Ct} {Φ : Cf} {fr : Fr} {Γ : List Ty} {w : Ty} {ret : Ty} {wx : Xw} {pos : Pos} {P P' : List Nat}
theorem k_dnw : PE X (.Dict [] [] pos) (tE Φ fr X.K Γ .dct .dnw) := by
  refine PE_mono pe_dnewK fun σ H Q h => ?_
  obtain ⟨ρ, ts, r, sr, he, q⟩ := h
  cases he
  obtain ⟨G, F1, F2, y⟩ := id sr
  exact fun p hp => q _ _ (y.mkDct hp)
theorem noSl_ns {i : Expr} (h : notSlice i = true) : NoSl i := by
  intro o v
  cases i <;> first | rfl | cases h
/-- .. found at a key -/
theorem SRd.dGet {fr : Fr} {K : PySem.W.Frag} {G H : Hp} {F1 F2 : List Addr} {Γ : List Ty} {ρ : Rho} {σ : Sg} {ts : List Tm} (y : SRd fr K G F1 F2 Γ ρ σ ts H) {i : Nat} {x d : D} {k : List Key × List D} {j : Key} {u : V} (h : get ρ i = some x) (hk : dKs x = some k) (hw : Γ[i]? = some .dct) (hj : keyOf d = some j) (ru : Rp K G u d) :
    ∃ b o, σ[i]? = some (some (.ref b)) ∧ DGet H b u o ∧ (∃ vs, H b = some (.dK (dctK k.1 vs))) ∧ o.isSome = (Vw.dGet k.1 k.2 j).isSome ∧ ∀ e, Vw.dGet k.1 k.2 j = some e → ∃ v, o = some v ∧ Rp K G v e := by
  obtain ⟨b, vs, k1, k2, k3, k4, _⟩ := y.slotK h hk hw
  have ey := key_rp hj ru
  subst ey
  obtain ⟨r1, r2⟩ := dget_rel (j := j) k3 k4
  refine ⟨b, _, k1, DGet.k (k := j) k2, ⟨vs, k2⟩, ?_, r2⟩
  cases hg : Vw.dGet k.1 k.2 j with
  | none =>
    rw [r1 hg]
    rfl
  | some d =>
    obtain ⟨v, n1, _⟩ := r2 d hg
    rw [n1]
    rfl
theorem k_dgt (gd : Gd X c) (i : Nat) {x : Str} {a : Expr} {ea : E} {px : Pos} (ha : PE X a (tE Φ fr X.K Γ .fro ea)) (h : (vC c Γ i x .dct && notSlice a) = true) : PE X (.Subscript (.Name x px) a pos) (tE Φ fr X.K Γ .fro (.dgt i ea)) := by
  simp only [Bool.and_eq_true] at h
  obtain ⟨g1, g3⟩ := h
  obtain ⟨v1, v2, v3, v4, v5⟩ := vC_of gd g1
  have hu := gd.u64
  refine PE_mono (pe_dget (by omega) (pe_var v1 v2 v4 v5) ha (noSl_ns g3)) fun σ H Q h => ?_
  obtain ⟨ρ, ts, r, sr, he, q⟩ := h
  obtain ⟨x0, e0, he⟩ := bind_inv he
  obtain ⟨qa, e1, he⟩ := bind_inv he
  obtain ⟨x1, e2, he⟩ := bind_inv he
  obtain ⟨k, ek, he⟩ := bind_inv he
  obtain ⟨j, ej, he⟩ := bind_inv he
  obtain ⟨d, ed, rfl⟩ := map_inv he
  obtain ⟨G0, F01, F02, y0⟩ := id sr
  obtain ⟨t0, v0, _, _, _, g2, _⟩ := y0.takeOut e0
  refine ⟨v0, g2, ρ, ts, qa, sr, e1, fun u H1 s1 => ?_⟩
  obtain ⟨G, F1, F2, y⟩ := id s1
  have ru := y.last1 rfl
  obtain ⟨F3, y2⟩ := y.drop
  obtain ⟨b, o, k1, k2, _, k3, k4⟩ := y2.dGet e2 ek v3 ej ru
  rw [g2] at k1
  cases k1
  obtain ⟨v, rfl, n2⟩ := k4 d ed
  exact ⟨b, v, rfl, k2, q _ _ ⟨G, F1, _, y2.push n2⟩⟩
theorem k_dgd (gd : Gd X c) (i : Nat) {x : Str} {a b : Expr} {ea eb : E} {px ap cp : Pos} (ha : PE X a (tE Φ fr X.K Γ .fro ea)) (hb : PE X b (tE Φ fr X.K Γ .fro eb)) (h : (vC c Γ i x .dct && (ap.endLine == cp.line) && noStar a && noStar b) = true) : PE X (.Call (.Attribute (.Name x px) "get" ap) [a, b] [] cp) (tE Φ fr X.K Γ .fro (.dgd i ea eb)) := by
  simp only [Bool.and_eq_true] at h
  obtain ⟨⟨⟨g1, g2⟩, g3⟩, g4⟩ := h
  obtain ⟨v1, v2, v3, v4, v5⟩ := vC_of gd g1
  have hu := gd.u64
  refine PE_mono (pe_dget2 (by omega) (pe_var v1 v2 v4 v5) ha hb ⟨rfl, few_of2 g3 g4, g2, by rw [star_cons (env := X.env) g3, star_cons (env := X.env) g4]; rfl⟩) fun σ H Q h => ?_
  obtain ⟨ρ, ts, r, sr, he, q⟩ := h
  obtain ⟨x0, e0, he⟩ := bind_inv he
  obtain ⟨k0, ek0, he⟩ := bind_inv he
  obtain ⟨qa, e1, he⟩ := bind_inv he
  obtain ⟨qb, e1b, he⟩ := bind_inv he
  obtain ⟨x1, e2, he⟩ := bind_inv he
  obtain ⟨k, ek, he⟩ := bind_inv he
  obtain ⟨j, ej, rfl⟩ := map_inv he
  obtain ⟨G0, F01, F02, y0⟩ := id sr
  obtain ⟨b0, vs0, g2, g3, _, _, _⟩ := y0.slotK e0 ek0 v3
  refine ⟨.ref b0, g2, b0, rfl, .inl ⟨_, .inl g3⟩, ρ, ts, qa, sr, e1, fun u H1 s1 => ⟨qa.2, _, qb, s1, e1b, fun z H2 s2 => ?_⟩⟩
  obtain ⟨G, F1, F2, y⟩ := id s2
  obtain ⟨ru, rz⟩ := y.last2 rfl rfl
  obtain ⟨F3, y1⟩ := y.drop
  obtain ⟨F4, y2⟩ := y1.drop
  obtain ⟨b, o, k1, k2, _, k3, k4⟩ := y2.dGet e2 ek v3 ej ru
  rw [g2] at k1
  cases k1
  refine ⟨o, k2, q _ _ ⟨G, F1, _, y2.push ?_⟩⟩
  cases hg : Vw.dGet k.1 k.2 j with
  | none =>
    rw [hg] at k3
    cases o with
    | none => exact rz
    | some v => cases k3
  | some d =>
    obtain ⟨v, rfl, n2⟩ := k4 d hg
    exact n2
theorem k_dpt (gd : Gd X c) (i : Nat) {x : Str} {a e : Expr} {ea ee : E} {px sp : Pos} (ha : PE X a (tE Φ fr X.K Γ .fro ea)) (he : PE X e (tE Φ fr X.K Γ .fro ee)) (h : (vC c Γ i x .dct && noComp e) = true) : PS X (.Assign [.Subscript (.Name x px) a sp] e pos) (tS Φ fr Γ ret wx X.K (.dpt i ea ee)) := by
  simp only [Bool.and_eq_true] at h
  obtain ⟨g1, g3⟩ := h
  obtain ⟨v1, v2, v3, v4, v5⟩ := vC_of gd g1
  have hu := gd.u64
  refine PS_mono (ps_dput (by omega) (pe_var v1 v2 v4 v5) ha he (swaps_no g3)) fun D σ H h => ?_
  obtain ⟨ρ, ts, r, sr, hq, q⟩ := h
  obtain ⟨re, e0, hq⟩ := bind_inv hq
  obtain ⟨x0, e1, hq⟩ := bind_inv hq
  obtain ⟨qa, e2, hq⟩ := bind_inv hq
  obtain ⟨x1, e3, hq⟩ := bind_inv hq
  obtain ⟨k, ek, hq⟩ := bind_inv hq
  obtain ⟨j, ej, hq⟩ := bind_inv hq
  refine ⟨ρ, ts, re, sr, e0, fun v H1 s1 => ?_⟩
  obtain ⟨G0, F01, F02, y0⟩ := id s1
  obtain ⟨t0, v0, _, _, _, g2, _⟩ := y0.takeOut e1
  refine ⟨v0, g2, re.2, _, qa, s1, e2, fun u H2 s2 => ?_⟩
  obtain ⟨G, F1, F2, y⟩ := id s2
  obtain ⟨rv, ru⟩ := y.last2 rfl rfl
  obtain ⟨F3, y1⟩ := y.drop
  obtain ⟨F4, y2⟩ := y1.drop
  have hq : (if k.1.length < sizeLine then some (Rs.nx (put qa.2 i (dPut k.1 k.2 j re.1))) else none) = some r := hq
  split at hq
  · rename_i cl
    cases hq
    obtain ⟨b, vs, k1, k2, k3, k4, mm⟩ := y2.slotK e3 ek v3
    have len : (dctK k.1 vs).length < sizeLine := by
      unfold dctK
      rw [List.length_zip, k4.len]
      omega
    have ey := key_rp ej ru
    subst ey
    have g := DPut.k (k := j) (v := v) k2 len
    rw [g2] at k1
    cases k1
    refine ⟨b, _, rfl, g, q _ _ ?_⟩
    unfold dPut
    cases hg : Vw.dGet k.1 k.2 j with
    | none =>
      rw [dput_new k3 k4 hg]
      exact mm _ _ _ (by rw [List.length_append, List.length_append, k3]; rfl) (k4.app (.cons rv .nil))
    | some d0 =>
      obtain ⟨v0, n1, _⟩ := (dget_rel (j := j) k3 k4).2 d0 hg
      obtain ⟨vs', m1, m2⟩ := dput_old (j := j) rv k3 k4
      have ha : ((dctK k.1 vs).any fun kv => decide (kv.1 = j)) = true := by rw [valV_any, n1]; rfl
      have e9 : putK (dctK k.1 vs) j v = dctK k.1 vs' := by
        unfold putK
        rw [if_pos ha]
        exact m1
      rw [e9]
      exact mm _ _ _ (dPutV_len k3).symm m2
  · cases hq
end
end Vw
/-! is a key in an own dict -/
namespace Vw
open PySem PySem.Spec PyProof.Rows L2
section
variable {X : Cx} {c : Ct} {Φ : Cf} {fr : Fr} {Γ : List Ty} {w : Ty} {ret : Ty} {wx : Xw} {pos : Pos} {P P' : List Nat}
theorem m_din (gd : Gd X c) (ng : Bool) (i : Nat) {ea : E} (v3 : Γ[i]? = some .dct) {σ : Sg} {H : Hp} {Q : VK} (h : tE Φ fr X.K Γ w (.din ng ea i) σ H Q) :
    ∃ ρ ts r, SR fr X.K Γ ρ σ ts H ∧ ev Φ ea ρ = some r ∧ ∀ u H1, SR fr X.K Γ r.2 σ (ts ++ [⟨.fro, r.1, u⟩]) H1 → ∃ b o, σ[i]? = some (some (.ref b)) ∧ DGet H1 b u o ∧ Q (.bl (o.isSome != ng)) H1 := by
  obtain ⟨ρ, ts, r, sr, he, q⟩ := h
  obtain ⟨qa, e1, he⟩ := bind_inv he
  obtain ⟨x1, e2, he⟩ := bind_inv he
  obtain ⟨k, ek, he⟩ := bind_inv he
  obtain ⟨j, ej, rfl⟩ := map_inv he
  refine ⟨ρ, ts, qa, sr, e1, fun u H1 s1 => ?_⟩
  obtain ⟨G, F1, F2, y⟩ := id s1
  have ru := y.last1 rfl
  obtain ⟨F3, y2⟩ := y.drop
  obtain ⟨b, o, k1, k2, _, k3, k4⟩ := y2.dGet e2 ek v3 ej ru
  refine ⟨b, o, k1, k2, ?_⟩
  rw [k3]
  exact q _ _ (s1.drop.res rfl (rp_bl _))
theorem k_din (gd : Gd X c) (ng : Bool) (i : Nat) {x : Str} {a : Expr} {ea : E} {px : Pos} (ha : PE X a (tE Φ fr X.K Γ .fro ea)) (h : vC c Γ i x .dct = true) : PE X (.Compare a [if ng then .NotIn else .In] [.Name x px] pos) (tE Φ fr X.K Γ w (.din ng ea i)) := by
  obtain ⟨v1, v2, v3, v4, v5⟩ := vC_of gd h
  have hu := gd.u64
  cases ng with
  | false =>
    refine PE_mono (pe_cmp (pc_din (by omega) ha (pe_var v1 v2 v4 v5)) rfl) fun σ H Q h => ?_
    obtain ⟨ρ, ts, r, sr, e1, q⟩ := m_din gd false i v3 h
    exact ⟨ρ, ts, r, sr, e1, fun u H1 s1 => by obtain ⟨b, o, s2, g, q⟩ := q u H1 s1; exact ⟨.ref b, s2, b, o, rfl, g, by simpa using q⟩⟩
  | true =>
    refine PE_mono (pe_cmp (pc_dnotin (by omega) ha (pe_var v1 v2 v4 v5)) rfl) fun σ H Q h => ?_
    obtain ⟨ρ, ts, r, sr, e1, q⟩ := m_din gd true i v3 h
    exact ⟨ρ, ts, r, sr, e1, fun u H1 s1 => by obtain ⟨b, o, s2, g, q⟩ := q u H1 s1; exact ⟨.ref b, s2, b, o, rfl, g, by simpa using q⟩⟩
theorem k_dinT (gd : Gd X c) (ng : Bool) (i : Nat) {x : Str} {a : Expr} {ea : E} {px : Pos} (ha : PE X a (tE Φ fr X.K Γ .fro ea)) (h : vC c Γ i x .dct = true) : PT X (.Compare a [if ng then .NotIn else .In] [.Name x px] pos) (tT Φ fr X.K Γ (.e (.din ng ea i))) := by
  obtain ⟨v1, v2, v3, v4, v5⟩ := vC_of gd h
  have hu := gd.u64
  have key : ∀ {σ : Sg} {H : Hp} {Q : Bool → Hp → Prop}, tT Φ fr X.K Γ (.e (.din ng ea i)) σ H Q → tE Φ fr X.K Γ .fro (.din ng ea i) σ H fun v H' => ∃ k, v = .bl k ∧ Q k H' := fun {σ H Q} h => by
    obtain ⟨ρ, ts, r, sr, he, q⟩ := h
    obtain ⟨ra, e1, he⟩ := bind_inv he
    obtain ⟨b, e2, rfl⟩ := map_inv he
    refine ⟨ρ, ts, ra, sr, e1, fun v H1 s1 => ?_⟩
    obtain ⟨G, F1, F2, y⟩ := id s1
    have rp := y.last1 rfl
    have e1 : ev Φ (.din ng ea i) ρ = some ra := e1
    obtain ⟨qa, _, he⟩ := bind_inv e1
    obtain ⟨x1, _, he⟩ := bind_inv he
    obtain ⟨k, _, he⟩ := bind_inv he
    obtain ⟨j, _, rfl⟩ := map_inv he
    cases rp
    cases e2
    exact ⟨_, rfl, q _ s1.drop⟩
  cases ng with
  | false =>
    refine PT_mono (pt_cmp (pc_din (by omega) ha (pe_var v1 v2 v4 v5)) rfl) fun σ H Q h => ?_
    obtain ⟨ρ, ts, r, sr, e1, q⟩ := m_din gd false i v3 (key h)
    exact ⟨ρ, ts, r, sr, e1, fun u H1 s1 => by obtain ⟨b, o, s2, g, k, e, q⟩ := q u H1 s1; cases e; exact ⟨.ref b, s2, b, o, rfl, g, by simpa using q⟩⟩
  | true =>
    refine PT_mono (pt_cmp (pc_dnotin (by omega) ha (pe_var v1 v2 v4 v5)) rfl) fun σ H Q h => ?_
    obtain ⟨ρ, ts, r, sr, e1, q⟩ := m_din gd true i v3 (key h)
    exact ⟨ρ, ts, r, sr, e1, fun u H1 s1 => by obtain ⟨b, o, s2, g, k, e, q⟩ := q u H1 s1; cases e; exact ⟨.ref b, s2, b, o, rfl, g, by simpa using q⟩⟩
end
end Vw
/-! min(x), max(x), sorted(x), sorted(x, reverse=b) of data that are alike -/
namespace Vw
open PySem PySem.Spec PyProof.Rows L2
theorem each_of {K : PySem.W.Frag} {G : Hp} : ∀ {xs : List V} {its : List Value} {ds : List D}, Vals xs its → RpAll K G xs ds → PySem.W.EachIs (fun u d => ∃ v, RelV v u ∧ Rp K G v d) its ds
  | _, _, _, .nil, .nil => .nil
  | _, _, _, .cons r t, .cons h k => .cons ⟨_, r, h⟩ (each_of t k)
theorem of_each {K : PySem.W.Frag} {G : Hp} : ∀ {its : List Value} {ds : List D}, PySem.W.EachIs (fun u d => ∃ v, RelV v u ∧ Rp K G v d) its ds → ∃ zs, Vals zs its ∧ RpAll K G zs ds
  | _, _, .nil => ⟨[], .nil, .nil⟩
  | _, _, .cons ⟨v, r, h⟩ t => by
    obtain ⟨zs, a, b⟩ := of_each t
    exact ⟨v :: zs, .cons r a, .cons h b⟩
theorem each_reads {X : Cx} {pins : List (Addr × Obj)} {σ : Sg} {H G : Hp} {s : Shared} (I : Inv X pins σ H s) (sG : Same G H) : ∀ {xs : List V} {its : List Value} {ds : List D}, Vals xs its → RpAll X.K G xs ds → PySem.W.EachIs (fun u d => ∃ as, Reads s.heap u d as) its ds
  | _, _, _, .nil, .nil => .nil
  | _, _, _, .cons r t, .cons h k => .cons (Dp.reads I _ _ _ (Rp_same sG _ _ h).dp r) (each_reads I sG t k)
theorem reads_all {h : Heap} : ∀ {its : List Value} {ds : List D}, PySem.W.EachIs (fun u d => ∃ as, Reads h u d as) its ds → ∃ as, ReadsAll h its ds as
  | _, _, .nil => ⟨_, .nil⟩
  | _, _, .cons ⟨a, r⟩ t => by
    obtain ⟨as, k⟩ := reads_all t
    exact ⟨_, .cons r k⟩
theorem alikeB_of {l : List D} (h : alikeB l = true) : PySem.W.AllAlike l := fun d hd d' hd' => List.all_eq_true.mp (List.all_eq_true.mp h d hd) d' hd'
theorem sortOkB_of {l : List D} (h : sortOkB l = true) : PySem.W.Sortable l := by
  rcases Bool.or_eq_true_iff.mp h with h | h
  · refine .inl fun d hd => ?_
    have := List.all_eq_true.mp h d hd
    match d, this with
    | .tuple (x :: r), _ => exact ⟨x, r, rfl⟩
  · refine .inr fun d hd => ?_
    have := List.all_eq_true.mp h d hd
    cases d with
    | none => cases this
    | tuple l => cases this
    | _ => exact ⟨(fun e => nomatch e), fun xs e => nomatch e⟩
theorem noNone_of {l : List D} (h : noNone l = true) : ∀ d ∈ l, d ≠ .none := fun d hd e => by
  have := List.all_eq_true.mp h d hd
  rw [e] at this
  cases this
def rSortG (K : PySem.W.Frag) (b : Bool) : List V → Hp → VK → Prop := fun vs H Q => ∃ (a : Addr) (xs : List V) (ds : List D) (G : Hp), vs = [V.ref a] ∧ Same G H ∧ SqL K H a xs ∧ RpAll K G xs ds ∧ alikeB ds = true ∧ sortOkB ds = true ∧ shallow ds = true ∧
  ∀ (p : Addr) (zs : List V), H p = none → RpAll K G zs (ds.mergeSort (PySem.W.dataLe b id)) → Q (.ref p) (upd H p (.lst zs))
section
variable {X : Cx}
theorem sort_end {b : Bool} {pins : List (Addr × Obj)} {σ : Sg} {H G : Hp} {s : Shared} {its : List Value} {ds : List D} {Q : VK} (I : Inv X pins σ H s) (hz : ds.length ≤ sizeLine)
    (q : ∀ (p : Addr) (zs : List V), H p = none → RpAll X.K G zs (ds.mergeSort (PySem.W.dataLe b id)) → Q (.ref p) (upd H p (.lst zs))) (out : List Value) (h2 : PySem.W.EachIs (fun u d => ∃ v, RelV v u ∧ Rp X.K G v d) out (ds.mergeSort (PySem.W.dataLe b id))) :
    EP X pins σ Q (.ref (s.heap.objs.size + 1)) { s with heap := PyProof.Rows.sortedAll s.heap its out.toArray } := by
  obtain ⟨zs, k1, k2⟩ := of_each h2
  obtain ⟨ep, he'⟩ := PyProof.Rows.sortedAll_at s.heap its out.toArray
  have hlen : zs.length ≤ sizeLine := by
    rw [k2.len, List.length_mergeSort]
    exact hz
  exact ⟨.ref _, upd H (s.heap.objs.size + 1) (.lst zs), I.laid (t' := s.toks) (fun _ _ => PyProof.Rows.sortedAll_old) (Nat.le_succ _) ⟨hlen, out, ep, k1, he'⟩, rfl, q _ _ (I.hok.fresh (Nat.le_succ _)) k2⟩
theorem cr_sortG (hu : X.A.units + 64 < cLine) : CallR X (.builtin "sorted") (rSortG X.K false) := by
  intro pins s σ H vs us Q I r h
  obtain ⟨a, xs, ds, G, rfl, sG, hs, hr, c1, c2, c3, q⟩ := h
  obtain ⟨its, rv, hl, hz⟩ := I.list hs
  rw [Vals.ref1 r]
  have hz2 : ds.length ≤ sizeLine := by rw [← hr.len]; exact hz
  exact PySem.W.sorted_data (R := fun u d => ∃ v, RelV v u ∧ Rp X.K G v d) (enc := id) (bs := ds) hl.isList (each_of rv hr) (each_reads I sG rv hr) (by rw [List.map_id]; exact alikeB_of c1) (by rw [List.map_id]; exact sortOkB_of c2) hz2
    (fun d hd => by have := of_decide_eq_true (List.all_eq_true.mp c3 d hd); show X.A.units + 2 + d.depth < cLine; omega) fun out _ h2 => sort_end I hz2 q out h2
theorem cr_sortGR (hu : X.A.units + 64 < cLine) (b : Bool) : CallRK X (.builtin "sorted") [Str.ofString "reverse"] (fun vs zs H Q => zs = [.bl b] ∧ rSortG X.K b vs H Q) := by
  intro pins s σ H vs zs us ws Q I r rz h
  obtain ⟨rfl, a, xs, ds, G, rfl, sG, hs, hr, c1, c2, c3, q⟩ := h
  obtain ⟨its, rv, hl, hz⟩ := I.list hs
  rw [Vals.ref1 r]
  obtain ⟨w1, rfl, e1⟩ := vals1 rz
  obtain rfl : w1 = Value.bool b := e1
  have hz2 : ds.length ≤ sizeLine := by rw [← hr.len]; exact hz
  exact PySem.W.sorted_rev_data (R := fun u d => ∃ v, RelV v u ∧ Rp X.K G v d) (enc := id) (bs := ds) hl.isList (each_of rv hr) (each_reads I sG rv hr) (by rw [List.map_id]; exact alikeB_of c1) (by rw [List.map_id]; exact sortOkB_of c2) hz2
    (fun d hd => by have := of_decide_eq_true (List.all_eq_true.mp c3 d hd); show X.A.units + 2 + d.depth < cLine; omega) fun out _ h2 => sort_end I hz2 q out h2
def mmS (g : Bool) : String := if g then "max" else "min"
def rMm (K : PySem.W.Frag) (g : Bool) : List V → Hp → VK → Prop := fun vs H Q => ∃ (v : V) (x : D) (G : Hp) (l : List D) (d : D), vs = [v] ∧ Same G H ∧ Sn K G H x v ∧ seqD x = some l ∧ bestG g l = some d ∧ ∀ z, Rp K G z d → Q z H
theorem fold_mem (f : D → D → Bool) : ∀ (xs : List D) (x : D), (xs.foldl (fun a y => if f a y = true then y else a) x) ∈ x :: xs
  | [], x => List.mem_cons_self
  | y :: r, x => by
    show (r.foldl _ (if f x y = true then y else x)) ∈ _
    have := fold_mem f r (if f x y = true then y else x)
    rcases List.mem_cons.mp this with h | h
    · rw [h]
      split
      · exact List.mem_cons_of_mem _ List.mem_cons_self
      · exact List.mem_cons_self
    · exact List.mem_cons_of_mem _ (List.mem_cons_of_mem _ h)
theorem mn_mem (x : D) (xs : List D) : PySem.W.minD x xs ∈ x :: xs := fold_mem (fun a y => PySem.W.dataLt y a) xs x
theorem mx_mem (x : D) (xs : List D) : PySem.W.maxD x xs ∈ x :: xs := fold_mem (fun a y => PySem.W.dataLt a y) xs x
theorem each_get {R : Value → D → Prop} : ∀ {its : List Value} {ds : List D} {i : Nat} {v : Value}, PySem.W.EachIs R its ds → its[i]? = some v → ∃ d, ds[i]? = some d ∧ R v d
  | _, _, _, _, .nil, e => by simp at e
  | _, _, 0, _, .cons h _, e => by
    simp at e
    subst e
    exact ⟨_, rfl, h⟩
  | _, _, i + 1, v, .cons _ t, e => by
    obtain ⟨d, h1, h2⟩ := each_get (i := i) (v := v) t (by simpa using e)
    exact ⟨d, by simpa using h1, h2⟩
theorem mm_end {pins : List (Addr × Obj)} {σ : Sg} {H G : Hp} {s : Shared} {its : List Value} {xs : List V} {l : List D} {m : D} {Q : VK} (I : Inv X pins σ H s) (sG : Same G H) (rv : Vals xs its) (hr : RpAll X.K G xs l) (al : PySem.W.AllAlike l) (hm : m ∈ l) (q : ∀ z, Rp X.K G z m → Q z H)
    (i : Nat) (v : Value) (h' : Heap) (tk : Nat) (bs : List Addr) (hi : its.toArray[i]? = some v) (rd : Reads h' v m bs) (hk : ∀ b o, s.heap.get? b = some o → h'.get? b = some o) : EP X pins σ Q v { s with heap := h', toks := tk } := by
  have hi : its[i]? = some v := by simpa using hi
  obtain ⟨d, hd, z, rz, rp⟩ := each_get (each_of rv hr) hi
  obtain ⟨as, r2⟩ := Dp.reads I d z v (Rp_same sG _ _ rp).dp rz
  have r3 := PySem.W.reads_keeps hk r2
  have e : m = d := PySem.W.alike_unique m d v bs as (al m hm d (List.mem_of_getElem? hd)) rd r3
  subst e
  exact ⟨z, H, I.kept hk, rz, q z rp⟩
theorem cr_mm (hc : X.calm = true) (hu : X.A.units + 64 < cLine) : ∀ g : Bool, CallR X (.builtin (mmS g)) (rMm X.K g) := by
  intro g pins s σ H vs us Q I r h
  obtain ⟨v, x, G, l, d, rfl, sG, sn, e1, e2, q⟩ := h
  cases l with
  | nil => cases e2
  | cons d0 dr =>
    have e2 : (if alikeB (d0 :: dr) = true ∧ noNone (d0 :: dr) = true ∧ decide (PyData.depthAll (d0 :: dr) ≤ 50) = true then some (if g = true then PySem.W.maxD d0 dr else PySem.W.minD d0 dr) else none) = some d := e2
    split at e2
    · rename_i c
      obtain ⟨c1, c2, c3⟩ := c
      have c3 := of_decide_eq_true c3
      cases e2
      have al := alikeB_of c1
      have aa : PySem.W.AlikeAll (d0 :: dr) := ⟨fun x hx y hy => al x hx y hy, noNone_of c2⟩
      cases x with
      | list l0 =>
        cases e1
        obtain ⟨a, ws, rfl, h1, h2⟩ := sn.list sG
        obtain ⟨its, rv, hl, hz⟩ := I.list (.inl h1)
        rw [Vals.ref1 r]
        obtain ⟨as, ra⟩ := reads_all (each_reads I sG rv h2)
        cases g with
        | true => exact PySem.W.max_list_data (x := d0) (xs := dr) (I.ok.hd hc) hl.isList (by simpa using ra) aa (by omega) fun i v h' tk bs hi rd hk => mm_end I sG rv h2 al (mx_mem d0 dr) q i v h' tk bs hi rd hk
        | false => exact PySem.W.min_list_data (x := d0) (xs := dr) (I.ok.hd hc) hl.isList (by simpa using ra) aa (by omega) fun i v h' tk bs hi rd hk => mm_end I sG rv h2 al (mn_mem d0 dr) q i v h' tk bs hi rd hk
      | tuple l0 =>
        cases e1
        obtain ⟨a, ws, rfl, h1, h2⟩ := sn.tuple sG
        obtain ⟨its, rv, hl, hz⟩ := I.tuple h1
        rw [Vals.ref1 r]
        obtain ⟨as, ra⟩ := reads_all (each_reads I sG rv h2)
        cases g with
        | true => exact PySem.W.max_tuple_data (x := d0) (xs := dr) (I.ok.hd hc) hl (by simpa using ra) aa (by omega) fun i v h' tk bs hi rd hk => mm_end I sG rv h2 al (mx_mem d0 dr) q i v h' tk bs hi rd hk
        | false => exact PySem.W.min_tuple_data (x := d0) (xs := dr) (I.ok.hd hc) hl (by simpa using ra) aa (by omega) fun i v h' tk bs hi rd hk => mm_end I sG rv h2 al (mn_mem d0 dr) q i v h' tk bs hi rd hk
      | _ => cases e1
    · cases e2
end
section
variable {X : Cx} {c : Ct} {Φ : Cf} {fr : Fr} {Γ : List Ty} {w : Ty} {ret : Ty} {wx : Xw} {pos : Pos} {P P' : List Nat}
theorem k_mmx (gd : Gd X c) (g : Bool) {a : Expr} {oa : O} {p : Pos} (ha : PE X a (tO Φ fr X.K Γ oa)) (h : (noStar a && blC c (PySem.Str.ofString (mmS g))) = true) :
    PE X (.Call (.Name (PySem.Str.ofString (mmS g)) p) [a] [] pos) (tE Φ fr X.K Γ .fro (.mmx g oa)) := by
  simp only [Bool.and_eq_true] at h
  obtain ⟨h1, h2⟩ := h
  refine PE_mono (pe_callB (cr_mm gd.calm gd.u64 g) (blC_of gd h2).1 (blC_of gd h2).2 (by cases g <;> decide +kernel) (pa_cons ha pa_nil (star_cons (env := X.env) h1)) (by cases g <;> decide +kernel) (by cases g <;> decide +kernel) (star_cons h1) rfl) fun σ H Q h => ?_
  obtain ⟨ρ, ts, r, sr, he, q⟩ := h
  obtain ⟨ra, e1, he⟩ := bind_inv he
  obtain ⟨l, e2, he⟩ := bind_inv he
  obtain ⟨d, e3, rfl⟩ := map_inv he
  refine ⟨ρ, ts, ra, sr, e1, fun v H1 ts' s1 hd => ?_⟩
  obtain ⟨G, F1, F2, y⟩ := id s1
  have y' : SRd fr X.K G F1 F2 Γ ra.2 σ (ts' ++ []) H1 := by rw [List.append_nil]; exact y
  have sn := y'.sn hd (late_same e1)
  obtain ⟨k2, rfl⟩ := hd.pre
  obtain ⟨F3, y2⟩ := y.drop
  exact ⟨v, ra.1, G, l, d, rfl, y.sub, sn, e2, e3, fun z rz => q _ _ ⟨_, _, _, y2.push rz⟩⟩
theorem m_srr {rev : Bool} {oa : O} (m : Made .fro w) {σ : Sg} {H : Hp} {Q : VK} (h : tE Φ fr X.K Γ w (.srr rev oa) σ H Q) : tO Φ fr X.K Γ oa σ H fun v H1 => rSortG X.K rev [v] H1 Q := by
  obtain ⟨ρ, ts, r, sr, he, q⟩ := h
  obtain ⟨ra, e1, he⟩ := bind_inv he
  refine ⟨ρ, ts, ra, sr, e1, fun v H1 ts' s1 hd => ?_⟩
  obtain ⟨G, F1, F2, y⟩ := id s1
  have y' : SRd fr X.K G F1 F2 Γ ra.2 σ (ts' ++ []) H1 := by rw [List.append_nil]; exact y
  have sn := y'.sn hd (late_same e1)
  obtain ⟨k2, rfl⟩ := hd.pre
  obtain ⟨F3, y2⟩ := y.drop
  obtain ⟨d, ρ1⟩ := ra
  cases d with
  | list l =>
    obtain ⟨d, e3, rfl⟩ := map_inv (show (sortG rev l).map _ = _ from he)
    unfold sortG at e3
    split at e3
    · rename_i c
      cases e3
      obtain ⟨a, vs, rfl, h1, h2⟩ := sn.list y.sub
      exact ⟨a, vs, l, G, rfl, y.sub, .inl h1, h2, c.1, c.2.1, c.2.2, fun p zs hp hz => q _ _ (y2.newList hz m hp)⟩
    · cases e3
  | _ => cases he
theorem k_srr (gd : Gd X c) (m : Made .fro w) {a : Expr} {oa : O} {p : Pos} (ha : PE X a (tO Φ fr X.K Γ oa)) (h : (noStar a && blC c "sorted") = true) :
    PE X (.Call (.Name "sorted" p) [a] [] pos) (tE Φ fr X.K Γ w (.srr false oa)) := by
  simp only [Bool.and_eq_true] at h
  obtain ⟨h1, h2⟩ := h
  refine PE_mono (pe_callB (cr_sortG gd.u64) (blC_of gd h2).1 (blC_of gd h2).2 (by decide +kernel) (pa_cons ha pa_nil (star_cons (env := X.env) h1)) (by decide +kernel) (by decide +kernel) (star_cons h1) rfl) fun σ H Q h => ?_
  exact m_srr m h
theorem k_srrR (gd : Gd X c) (rev : Bool) (m : Made .fro w) {a : Expr} {oa : O} {j : Nat} {p kp q : Pos} (ha : PE X a (tO Φ fr X.K Γ oa)) (h : (noStar a && blC c "sorted") = true) :
    PE X (.Call (.Name "sorted" p) [a] [⟨"reverse", .Constant (.bool rev) j q, kp⟩] pos) (tE Φ fr X.K Γ w (.srr rev oa)) := by
  simp only [Bool.and_eq_true] at h
  obtain ⟨h1, h2⟩ := h
  refine PE_mono (pe_callBK (cr_sortGR gd.u64 rev) (blC_of gd h2).1 (blC_of gd h2).2 (by decide +kernel) (pa_cons ha pa_nil (star_cons (env := X.env) h1)) (pk_cons pe_bl pk_nil) (by decide +kernel) (by decide +kernel) (by rw [star_cons (env := X.env) h1]; rfl) (by rw [star_cons (env := X.env) h1]; rfl) rfl rfl rfl) fun σ H Q h => ?_
  have := m_srr m h
  obtain ⟨ρ, ts, r, sr, he, q⟩ := this
  exact ⟨ρ, ts, r, sr, he, fun v H1 ts' s1 hd => ⟨rfl, q v H1 ts' s1 hd⟩⟩
end
end Vw
/-! constants of the module: tuples of numbers and texts, to any depth -/
namespace Vw
open PySem PySem.Spec PyProof.Rows L2
mutual
/-- the object of the written part reads as the data -/
def kRepB (K : PySem.W.Frag) : Nat → Value → D → Bool
  | _, .none, .none => true
  | _, .bool b, .bool c => b == c
  | _, .int i _, .int j => decide (i = j)
  | _, .str x _, .str y => decide (x = y)
  | n + 1, .ref a, .tuple ds => match K.lookup a with
    | some ⟨.type "tuple", _, .seq its _, _⟩ => decide (its.size ≤ 1000) && kRepAllB K n its.toList ds
    | _ => false
  | _, _, _ => false
def kRepAllB (K : PySem.W.Frag) : Nat → List Value → List D → Bool
  | _, [], [] => true
  | n, u :: us, d :: ds => kRepB K n u d && kRepAllB K n us ds
  | _, _, _ => false
end
mutual
theorem kRep_of {K : PySem.W.Frag} : ∀ (n : Nat) (d : D) (u : Value), kRepB K n u d = true → ∃ v, RelV v u ∧ ∀ G, Rp K G v d
  | n, .none, u, h => by
    cases u <;> first | exact ⟨.non, rfl, fun G => .non⟩ | (cases n <;> simp [kRepB] at h)
  | n, .bool c, u, h => by
    cases u <;> first | (cases n <;> (simp [kRepB] at h; done)) | skip
    case bool b =>
      have e : b = c := by cases n <;> simpa [kRepB] using h
      subst e
      exact ⟨.bl b, rfl, fun G => .bl b⟩
  | n, .int j, u, h => by
    cases u <;> first | (cases n <;> (simp [kRepB] at h; done)) | skip
    case int i t =>
      have e : i = j := by cases n <;> simpa [kRepB] using h
      subst e
      exact ⟨.int i, ⟨t, rfl⟩, fun G => .int i⟩
  | n, .str y, u, h => by
    cases u <;> first | (cases n <;> (simp [kRepB] at h; done)) | skip
    case str x t =>
      have e : x = y := by cases n <;> simpa [kRepB] using h
      subst e
      exact ⟨.str x, ⟨t, rfl⟩, fun G => .str x⟩
  | n, .list _, u, h => by
    cases u <;> cases n <;> simp [kRepB] at h
  | n, .dict _, u, h => by
    cases u <;> cases n <;> simp [kRepB] at h
  | 0, .tuple ds, u, h => by
    cases u <;> simp [kRepB] at h
  | n + 1, .tuple ds, u, h => by
    cases u <;> first | (simp [kRepB] at h; done) | skip
    case ref a =>
      rw [kRepB] at h
      split at h
      · rename_i dd its m sl e
        obtain ⟨h1, h2⟩ := Bool.and_eq_true_iff.mp h
        have h1 := of_decide_eq_true h1
        obtain ⟨vs, r, q⟩ := kRepAll_of n ds its.toList h2
        refine ⟨.ref a, rfl, fun G => .tup (.inr ⟨_, its, m, e, rfl, rfl, by rw [sizeLine_eq]; omega, r⟩) (q G)⟩
      · cases h
theorem kRepAll_of {K : PySem.W.Frag} : ∀ (n : Nat) (ds : List D) (us : List Value), kRepAllB K n us ds = true → ∃ vs, Vals vs us ∧ ∀ G, RpAll K G vs ds
  | n, [], [], _ => ⟨[], .nil, fun G => .nil⟩
  | n, [], _ :: _, h => by simp [kRepAllB] at h
  | n, _ :: _, [], h => by simp [kRepAllB] at h
  | n, d :: ds, u :: us, h => by
    rw [kRepAllB] at h
    obtain ⟨h1, h2⟩ := Bool.and_eq_true_iff.mp h
    obtain ⟨v, r, q⟩ := kRep_of n d u h1
    obtain ⟨vs, rs, qs⟩ := kRepAll_of n ds us h2
    exact ⟨v :: vs, .cons r rs, fun G => .cons (q G) (qs G)⟩
end
/-- a name of the module whose thing reads as the data -/
def kGloB (K : PySem.W.Frag) (x : Str) (d : D) : Bool := match PySem.W.nsIn K mainGlobals x with
  | some (some u) => kRepB K 8 u d
  | _ => false
def GDat (x : Str) (d : D) (K : PySem.W.Frag) (mg : Str → Option Value) : Prop := ∃ u v, mg x = some u ∧ RelV v u ∧ ∀ G, Rp K G v d
theorem gdat_of {K : PySem.W.Frag} {h : Heap} {mg : Str → Option Value} {x : Str} {d : D} (X : K.In h) (G : h.Ns mainGlobals mg) (e : kGloB K x d = true) : GDat x d K mg := by
  unfold kGloB at e
  split at e
  · rename_i u e1
    obtain ⟨v, r, q⟩ := kRep_of 8 d u e
    exact ⟨u, v, PySem.W.mg_of X G e1, r, q⟩
  · cases e
section
variable {X : Cx} {c : Ct} {Φ : Cf} {fr : Fr} {Γ : List Ty} {w : Ty} {ret : Ty} {wx : Xw} {pos : Pos} {P P' : List Nat}
theorem k_gd (gd : Gd X c) {x : Str} {d : D} (g : GDat x d X.K X.mg) (h : (glC c x && !(x == ("__debug__" : Str))) = true) : PE X (.Name x pos) (tE Φ fr X.K Γ .fro (.gl x d)) := by
  obtain ⟨h1, h2⟩ := Bool.and_eq_true_iff.mp h
  obtain ⟨u, v, hm, r, q⟩ := g
  have hp : PE X (.Name x pos) (tC v) := pe_glob (glC_of gd h1) hm r (by simpa using h2)
  refine PE_mono hp fun σ H Q h => ?_
  obtain ⟨ρ, ts, r, ⟨G, F1, F2, y⟩, he, k⟩ := h
  have he : some (d, ρ) = some r := he
  cases he
  exact k _ _ ⟨G, F1, F2, y.push (q G)⟩
end
end Vw
namespace Vw
open PySem PySem.Spec PyProof.Rows L2
/-! ### the draw of a state [cells, seed] -/
def drop0 : List Int → List Int
  | [] => []
  | x :: r => if x = 0 then drop0 r else x :: r
def nextS (s : Int) : Int := (s * 48271 + 12345) % 2147483647
/-- value, the cells and the seed behind it -/
def drawA (ns : List Int) (s m : Int) : Int × List Int × Int := match drop0 ns with
  | v :: r => (v % m, v / m :: r, s)
  | [] => (nextS s / 64 % m, [], nextS s)
def stA (ns : List Int) (s : Int) : D := .list [.list (ns.map .int), .int s]
def fxDrawA : List D → Option (D × List D)
  | [.list [.list cs, .int s], .int m] => (intsD cs).bind fun ns => if 0 < m ∧ m < 1073741824 then some (.int (drawA ns s m).1, [stA (drawA ns s m).2.1 (drawA ns s m).2.2, .int m]) else none
  | _ => none
def nmA : List Str := ["state", "many", "cells", "value", "mixed"]
theorem fxDrawA_inv {ds : List D} {r : D × List D} (h : fxDrawA ds = some r) : ∃ ns s m, ds = [stA ns s, .int m] ∧ 0 < m ∧ m < 1073741824 ∧ r = (.int (drawA ns s m).1, [stA (drawA ns s m).2.1 (drawA ns s m).2.2, .int m]) := by
  unfold fxDrawA at h
  split at h
  · rename_i cs s m
    obtain ⟨ns, e1, h⟩ := bind_inv h
    split at h
    · rename_i c
      cases h
      refine ⟨ns, s, m, ?_, c.1, c.2, rfl⟩
      rw [intsD_inv e1]
      rfl
    · cases h
  · cases h
theorem if_t {c : Prop} [Decidable c] {a b : Prop} (h : c) (ha : a) : if c then a else b := by
  rw [if_pos h]
  exact ha
theorem if_f {c : Prop} [Decidable c] {a b : Prop} (h : ¬c) (hb : b) : if c then a else b := by
  rw [if_neg h]
  exact hb
theorem ar_mod {i j : Int} (h : 0 < j) : arD .mod (.int i) (.int j) = some (.int (i % j)) := if_pos h
theorem ar_div {i j : Int} (h : 0 < j) (h2 : j < 1073741824) : arD .fdiv (.int i) (.int j) = some (.int (i / j)) := if_pos ⟨h, h2⟩
theorem ar_mul {i j : Int} (h : -(2 ^ 64) < j) (h2 : j < 2 ^ 64) : arD .mul (.int i) (.int j) = some (.int (i * j)) := if_pos (.inr ⟨h, h2⟩)
theorem sq0 (n : Nat) : seqIndex? 0 (n + 1) = some 0 := by
  unfold seqIndex?
  simp
theorem gt0 {n : Nat} : decide ((0 : Int) < n) = true ↔ n ≠ 0 := by
  rw [decide_eq_true_eq]
  omega
def sgA : Sig := ⟨[.lst (.lst .fro), .fro], .fro⟩
theorem drawA_in {K : PySem.W.Frag} {vs : List V} {H : Hp} {Q : VK} {E : XK} (h : spI K sgA fxDrawA vs H Q E) : ∃ (a c : Addr) (ns : List Int) (s0 m : Int), vs = [.ref a, .int m] ∧ 0 < m ∧ m < 1073741824 ∧ a ≠ c ∧ H a = some (.lst [.ref c, .int s0]) ∧ H c = some (.lst (ns.map V.int)) ∧
    ∀ (H' : Hp) (ns' : List Int) (s' z : Int), H' a = some (.lst [.ref c, .int s']) → H' c = some (.lst (ns'.map V.int)) → (∀ b o, H b = some o → b ≠ a → b ≠ c → H' b = some o) → (∀ b, H' b = none → H b = none) →
      drawA ns s0 m = (z, ns', s') → Q (.int z) H' := by
  obtain ⟨G, Fo, ts, r, e1, e2, sG, tm, nd, gn, tb, hf, q⟩ := h
  obtain ⟨ns, s0, m, ed, m1, m2, rfl⟩ := fxDrawA_inv hf
  obtain ⟨x1, x2, rfl⟩ : ∃ x1 x2, ts = [x1, x2] := by
    have l : ts.length = 2 := by
      have := congrArg List.length e2
      rw [List.length_map] at this
      exact this
    clear e2 ed tm hf
    match ts, l with
    | [x1, x2], _ => exact ⟨x1, x2, rfl⟩
  obtain ⟨F1, F2', ef, o1, F3, F4, ef2, o2, ef3⟩ := tm
  obtain ⟨t1, d1, v1⟩ := x1
  obtain ⟨t2, d2, v2⟩ := x2
  have ht1 : t1 = .lst (.lst .fro) := List.head_eq_of_cons_eq e2
  have ht2 : t2 = .fro := List.head_eq_of_cons_eq (List.tail_eq_of_cons_eq e2)
  have hd1 : d1 = stA ns s0 := List.head_eq_of_cons_eq ed
  have hd2 : d2 = .int m := List.head_eq_of_cons_eq (List.tail_eq_of_cons_eq ed)
  subst ht1 ht2 hd1 hd2 ef3
  obtain ⟨ef4, o2⟩ := o2
  have ef4 : F3 = [] := ef4
  cases o2
  rcases o1 with ⟨s, _, _⟩ | ⟨ds, a, ws, F', q1, q2, q3, q4, q5⟩
  · cases s
  cases q1
  have q2 : v1 = .ref a := q2
  subst q2
  obtain ⟨w1, w2, rfl⟩ : ∃ w1 w2, ws = [w1, w2] := by
    have l := q5.len
    match ws, l with
    | [w1, w2], _ => exact ⟨w1, w2, rfl⟩
  obtain ⟨Fa, Fb, eF', oa, Fc, Fd, eF2, ob, eF3⟩ := q5
  rcases oa with ⟨s, _, _⟩ | ⟨dsa, c, cs, F'', p1, p2, p3, p4, p5⟩
  · cases s
  cases p1
  subst p2
  obtain ⟨p5x, p6⟩ := p5.fro
  have p7 := p6.ints
  subst p7
  have ob2 : Fc = [] ∧ Rp K G w2 (.int s0) := by
    rcases ob with ⟨_, eb, rb⟩ | ⟨_, _, _, _, eb, _⟩
    · exact ⟨eb, rb⟩
    · cases eb
  obtain ⟨eb, rb⟩ := ob2
  cases rb
  have eF3 : Fd = [] := eF3
  have eFo : Fo = [a, c] := by
    rw [ef, ef2, ef4, q3, eF', p3, p5x, eF2, eb, eF3]
    rfl
  subst eFo
  have hac : a ≠ c := fun e => by
    rw [e] at nd
    simp at nd
  subst e1
  refine ⟨a, c, ns, s0, m, rfl, m1, m2, hac, q4, p4, ?_⟩
  have fin : ∀ (H' : Hp) (ns' : List Int) (s' z : Int), H' a = some (.lst [.ref c, .int s']) → H' c = some (.lst (ns'.map V.int)) → (∀ b o, H b = some o → b ≠ a → b ≠ c → H' b = some o) → (∀ b, H' b = none → H b = none) →
      drawA ns s0 m = (z, ns', s') → Q (.int z) H' := fun H' ns' s' z h1 h2 h3 h4 hz => by
    refine q (.int z) H' ⟨G, [⟨.lst (.lst .fro), stA ns' s', .ref a⟩, ⟨.fro, .int m, .int m⟩], [a, c], [], Same.refl G, fun b o e => ?_, rfl, rfl, ?_, ?_, ?_, by rw [List.append_nil]; exact nd, fun b hb => ?_, fun b o e hb => ?_, h4, fun b hb => .inl hb, fun p hp => ?_⟩
    · refine h3 b o (sG _ _ e) (fun z => ?_) (fun z => ?_)
      · rw [z, gn a List.mem_cons_self] at e
        cases e
      · rw [z, gn c (List.mem_cons_of_mem _ List.mem_cons_self)] at e
        cases e
    · show [stA ns' s', PyData.int m] = [stA (drawA ns s0 m).2.1 (drawA ns s0 m).2.2, .int m]
      rw [hz]
    · refine ⟨[a, c], [], rfl, .inr ⟨_, a, _, [c], rfl, rfl, rfl, h1, [c], [], rfl, .inr ⟨_, c, _, [], rfl, rfl, rfl, h2, AllF.of_fro (RpAll.of_ints ns')⟩, [], [], rfl, .inl ⟨rfl, rfl, .int s'⟩, rfl⟩, [], [], rfl, ⟨rfl, .int m⟩, rfl⟩
    · show Own K G H' .fro (.int (drawA ns s0 m).1) (.int z) []
      rw [hz]
      exact ⟨rfl, .int z⟩
    · rw [List.append_nil] at hb
      exact ⟨gn b hb, .inl hb⟩
    · exact .inl (h3 b o e (fun z => hb (by rw [z]; exact List.mem_cons_self)) (fun z => hb (by rw [z]; exact List.mem_cons_of_mem _ List.mem_cons_self)))
    · obtain ⟨⟨ps, e, t⟩, g⟩ := tb p hp
      refine ⟨⟨ps, h3 _ _ e (fun z => ?_) (fun z => ?_), t⟩, g⟩
      · rw [z, q4] at e; cases e
      · rw [z, p4] at e; cases e
  exact fin
end Vw
namespace Vw
open PySem PySem.Spec PyProof.Rows L2
/-! ### the law's end -/
def tab (l : List (Str × (List D → Option (D × List D)))) (x : Str) : List D → Option (D × List D) := match l.lookup x with
  | some f => f
  | none => fun _ => none
def noListB (p : Addr × Obj) : Bool := match p.2.cls with
  | .type s => !(s == "list")
  | _ => true
theorem lookup_mem {K : PySem.W.Frag} {a : Addr} {o : Obj} : ∀ {K : PySem.W.Frag}, K.lookup a = some o → (a, o) ∈ K
  | [], h => by simp at h
  | (b, u) :: r, h => by
    rw [List.lookup_cons] at h
    split at h
    · rename_i e
      cases h
      have : a = b := by simpa using e
      rw [this]
      exact List.mem_cons_self
    · exact List.mem_cons_of_mem _ (lookup_mem (K := r) h)
theorem rd_of_sql {K : PySem.W.Frag} {H : Hp} {a : Addr} {xs : List V} (nl : K.all noListB = true) (h : SqL K H a xs) : Rd H a (.lst xs) := by
  rcases h with h | ⟨o, its, n, h1, h2, _⟩
  · exact h
  · have h3 := List.all_eq_true.mp nl _ (lookup_mem (K := K) h1)
    unfold noListB at h3
    rw [h2] at h3
    exact absurd h3 (by decide)
def spLaw (K : PySem.W.Frag) : Sp := fun vs H Q _ => ∃ (a : Addr) (ns : List Int), vs = [.ref a] ∧ SqL K H a (ns.map V.int) ∧ ns.length ≤ 63 ∧ (∀ p ∈ tabsK K, GxR.TabG H p.2) ∧ ∀ H', Q (.bl true) H'
/-- a heap without the tables -/
def noT (H : Hp) : Hp := fun a => match H a with
  | some (.tbl _) => none
  | o => o
theorem noT_same (H : Hp) : Same (noT H) H := fun a o e => by
  unfold noT at e
  split at e
  · cases e
  · exact e
theorem noT_none {H : Hp} {P : Addr} (h : GxR.TabG H P) : noT H P = none := by
  obtain ⟨ps, e, _⟩ := h
  unfold noT
  rw [e]
theorem rd_noT {H : Hp} {a : Addr} {xs : List V} (h : Rd H a (.lst xs)) : Rd (noT H) a (.lst xs) := by
  rcases h with h | ⟨o, h⟩
  · exact .inl (by unfold noT; rw [h])
  · exact .inr ⟨o, by unfold noT; rw [h]⟩
theorem law_imp {K : PySem.W.Frag} {fx : List D → Option (D × List D)} (nl : K.all noListB = true) (h : ∀ ns : List Int, ns.length ≤ 63 → ∃ o, fx [.list (ns.map .int)] = some (.bool true, o)) :
    ∀ vs H Q E, spLaw K vs H Q E → spI K ⟨[.fro], .fro⟩ fx vs H Q E := by
  rintro vs H Q E ⟨a, ns, rfl, hS, hl, tb, q⟩
  obtain ⟨o, e⟩ := h ns hl
  have hr := rd_of_sql nl hS
  refine ⟨noT H, [], [⟨.fro, .list (ns.map .int), .ref a⟩], (.bool true, o), rfl, rfl, noT_same H, ⟨[], [], rfl, ⟨rfl, .lst (rd_noT hr) (RpAll.of_ints ns)⟩, rfl⟩, List.nodup_nil, by simp, fun p hp => ⟨tb p hp, noT_none (tb p hp)⟩, e, fun v H' ce => ?_⟩
  obtain ⟨G', ts', FA, FR, _, _, _, _, _, _, own, _⟩ := ce
  have r : Rp K G' v (.bool true) := own.2
  cases r
  exact q H'
theorem bl_of {mg : Str → Option Value} (h : ∀ x, x ∈ blAll → mg x = none) : ∀ x, x ∈ blAll → mg x = none := h
theorem bl_mk {l : PySem.W.Frag} {h : Heap} {mg : Str → Option Value} (X : l.In h) (G : h.Ns mainGlobals mg) (z : ∀ x, x ∈ blAll → PySem.W.nsIn l mainGlobals x = some none) : ∀ x, x ∈ blAll → mg x = none := fun x hx => PySem.W.mg_none_of X G (z x hx)
end Vw
namespace Vw
open PySem PySem.Spec PyProof.Rows L2
def isSN : Option (Option Value) → Bool
  | some none => true
  | _ => false
theorem bl_all {K : PySem.W.Frag} {h : Heap} {mg : Str → Option Value} (X : K.In h) (G : h.Ns mainGlobals mg) (z : (blAll.all fun x => isSN (PySem.W.nsIn K mainGlobals x)) = true) : ∀ x, x ∈ blAll → mg x = none := fun x hx => by
  have := List.all_eq_true.mp z x hx
  refine PySem.W.mg_none_of X G ?_
  cases e : PySem.W.nsIn K mainGlobals x with
  | none => rw [e] at this; cases this
  | some o =>
    rw [e] at this
    cases o with
    | none => rfl
    | some v => cases this
theorem callee {P : Program} {w : World} {K : PySem.W.Frag} {mg : Str → Option Value} {base : Heap} {Φ : Cf} {k k' : Nat} {x : Str} {g : Sig} {f : Addr} {fd : FuncData} {ps : List Str} {fx : List D → Option (D × List D)}
    (F : FnOk P w K mg base CX0 k' f fd ps (spI K g fx)) (e : Φ.fn x = fx) (l : k' + 3 ≤ k) (m : mg x = some (.ref f)) (kp : PySem.W.keepIn K (.ref f) = true) (b : Binds K fd ps []) : Callee P w K mg base Φ k x g :=
  ⟨⟨k', f, fd, ps, by rw [e]; exact F, l, m, kp, b⟩⟩
theorem callee0 {P : Program} {w : World} {K : PySem.W.Frag} {mg : Str → Option Value} {base : Heap} {Φ : Cf} {k : Nat} {x : Str} {g : Sig} {f : Addr} {fd : FuncData} {ps : List Str}
    (e : Φ.fn x = fun _ => none) (l : 3 ≤ k) (m : mg x = some (.ref f)) (kp : PySem.W.keepIn K (.ref f) = true) (b : Binds K fd ps []) : Callee P w K mg base Φ k x g := by
  have no : ∀ {vs : List V} {H : Hp} {Q : VK} {E : XK}, spI K g (Φ.fn x) vs H Q E → False := fun {vs H Q E} h => by
    rw [e] at h
    obtain ⟨_, _, _, _, _, _, _, _, _, _, _, h, _⟩ := h
    cases h
  exact ⟨⟨0, f, fd, ps, ⟨fun _ _ _ _ h => (no h).elim, fun _ _ _ _ _ _ _ _ _ _ _ _ _ h => (no h).elim⟩, l, m, kp, b⟩⟩
theorem calleeX {P : Program} {w : World} {K : PySem.W.Frag} {mg : Str → Option Value} {base : Heap} {Φ : Cf} {k k' : Nat} {x : Str} {g : Sig} {f : Addr} {fd : FuncData} {ps : List Str} {fx : List D → Option Xr}
    (F : FnOk P w K mg base (L2.CX P w) k' f fd ps (spX mg K g fx)) (e : Φ.fx x = fx) (l : k' ≤ k) (m : mg x = some (.ref f)) (kp : PySem.W.keepIn K (.ref f) = true) (b : Binds K fd ps []) : CalleeX P w K mg base Φ k x g :=
  ⟨⟨k', f, fd, ps, by rw [e]; exact F, l, m, kp, b⟩⟩
def tabX (l : List (Str × (List D → Option Xr))) (x : Str) : List D → Option Xr := match l.lookup x with
  | some f => f
  | none => fun _ => none
/-- an error of the class at C is what «except C» names -/
theorem exm_own {K : PySem.W.Frag} {S : Addr} (h1 : PySem.W.subIn K (.ref S) (.type "BaseException") = some true) (h2 : PySem.W.isClsIn K S = true) (h3 : PySem.W.typeIn K (.ref S) = some (.type "type")) (h4 : PySem.W.subIn K (.ref S) (.ref S) = some true) : PySem.W.exmOne K (.ref S) (.ref S) = some true := by
  have e1 : (PySem.W.subIn K (.ref S) (.type "BaseException") == some true) = true := by rw [h1]; rfl
  have e2 : ((PySem.W.clsIn K S).isSome && PySem.W.typeIn K (.ref S) == some (.type "type")) = true := by
    rw [show (PySem.W.clsIn K S).isSome = true from h2, h3]
    rfl
  show (if (PySem.W.subIn K (.ref S) (.type "BaseException") == some true) = true then (if ((PySem.W.clsIn K S).isSome && PySem.W.typeIn K (.ref S) == some (.type "type")) = true then PySem.W.subIn K (.ref S) (.ref S) else none) else none) = some true
  rw [if_pos e1, if_pos e2]
  exact h4
end Vw
namespace Vw
open PySem PySem.Spec PyProof.Rows L2
/-! ### reckoning on data -/
@[simp] theorem get_z (o : Option D) (ρ : Rho) : Vw.get (o :: ρ) 0 = o := by cases o <;> rfl
@[simp] theorem get_s (o : Option D) (ρ : Rho) (n : Nat) : Vw.get (o :: ρ) (n + 1) = Vw.get ρ n := rfl
@[simp] theorem put_z (o : Option D) (ρ : Rho) (d : D) : put (o :: ρ) 0 d = some d :: ρ := rfl
@[simp] theorem put_s (o : Option D) (ρ : Rho) (n : Nat) (d : D) : put (o :: ρ) (n + 1) d = o :: put ρ n d := rfl
@[simp] theorem wipeD_nil (ρ : Rho) : wipeD ρ [] = ρ := rfl
@[simp] theorem wipeD_cons (ρ : Rho) (i : Nat) (r : List Nat) : wipeD ρ (i :: r) = (wipeD ρ r).set i none := rfl
@[simp] theorem restD_nil (ρ : Rho) : restD [] ρ = some ρ := rfl
@[simp] theorem rsBack_nx (ρ : Rho) : rsBack [] (.nx ρ) = some (.nx ρ) := rfl
@[simp] theorem rsBack_ret (sv : List (Nat × D)) (d : D) (ρ : Rho) : rsBack sv (.ret d ρ) = some (.ret d ρ) := rfl
theorem sizeL : sizeLine = 16777216 := rfl
@[simp] theorem lenOk_le {n : Nat} (h : n ≤ 16777216) : lenOk n = true := decide_eq_true h
theorem len_b1L (l : List D) : b1D .len (.list l) = some (.int l.length) := rfl
theorem len_b1T (l : List D) : b1D .len (.tuple l) = some (.int l.length) := rfl
/-- a loop by its invariant -/
def After (N : Rho → Prop) (R : D → Rho → Prop) : Rs → Prop
  | .nx ρ => N ρ
  | .ret d ρ => R d ρ
  | _ => False
theorem forL_rule {f : D → Rho → Option Rs} (I : Nat → Rho → Prop) (R : D → Rho → Prop) : ∀ (ds : List D) (k : Nat),
    (∀ i (h : i < ds.length) ρ, I (k + i) ρ → ∃ r, f ds[i] ρ = some r ∧ After (I (k + i + 1)) R r) → ∀ ρ, I k ρ → ∃ q, forL f ds ρ = some q ∧ After (I (k + ds.length)) R q
  | [], k, _, ρ, h => ⟨.nx ρ, rfl, h⟩
  | d :: ds, k, step, ρ, h => by
    obtain ⟨r, e1, h1⟩ := step 0 (Nat.succ_pos _) ρ h
    have e1 : f d ρ = some r := e1
    cases r with
    | nx ρ1 =>
      obtain ⟨q, e2, h2⟩ := forL_rule I R ds (k + 1) (fun i hi ρ hI => by
        have := step (i + 1) (by simpa using hi) ρ (by rw [show k + (i + 1) = k + 1 + i by omega]; exact hI)
        obtain ⟨r, e, h⟩ := this
        refine ⟨r, by simpa using e, ?_⟩
        rw [show k + 1 + i + 1 = k + (i + 1) + 1 by omega]
        exact h) ρ1 h1
      refine ⟨q, ?_, ?_⟩
      · show (f d ρ).bind _ = _
        rw [e1]
        exact e2
      · rw [show k + (d :: ds).length = k + 1 + ds.length by simp; omega]
        exact h2
    | ret x ρ1 => exact ⟨.ret x ρ1, by show (f d ρ).bind _ = _; rw [e1]; rfl, h1⟩
    | brk _ => exact h1.elim
    | cnt _ => exact h1.elim
    | exn _ _ _ => exact h1.elim
theorem for_rule {f : D → Rho → Option Rs} {ds : List D} (I : Nat → Rho → Prop) (R : D → Rho → Prop) (step : ∀ i (h : i < ds.length) ρ, I i ρ → ∃ r, f ds[i] ρ = some r ∧ After (I (i + 1)) R r) {ρ : Rho} (h : I 0 ρ) : ∃ q, forL f ds ρ = some q ∧ After (I ds.length) R q := by
  obtain ⟨q, e, a⟩ := forL_rule I R ds 0 (fun i hi ρ hI => by
    rw [Nat.zero_add] at hI ⊢
    exact step i hi ρ hI) ρ h
  rw [Nat.zero_add] at a
  exact ⟨q, e, a⟩
/-- a comprehension by its invariant: what has come out so far -/
theorem compL_rule {f : D → Rho → Option (Option D × Rho)} (I : List D → Nat → Rho → Prop) : ∀ (ds : List D) (k : Nat) (acc : List D),
    (∀ i (h : i < ds.length) acc ρ, I acc (k + i) ρ → ∃ r, f ds[i] ρ = some r ∧ I (acc ++ r.1.toList) (k + i + 1) r.2) → ∀ ρ, I acc k ρ → ∃ out ρ', compL f ds ρ = some (out, ρ') ∧ I (acc ++ out) (k + ds.length) ρ'
  | [], k, acc, _, ρ, h => ⟨[], ρ, rfl, by rw [List.append_nil]; exact h⟩
  | d :: ds, k, acc, step, ρ, h => by
    obtain ⟨r, e1, h1⟩ := step 0 (Nat.succ_pos _) acc ρ h
    have e1 : f d ρ = some r := e1
    obtain ⟨out, ρ', e2, h2⟩ := compL_rule I ds (k + 1) (acc ++ r.1.toList) (fun i hi acc ρ hI => by
      have := step (i + 1) (by simpa using hi) acc ρ (by rw [show k + (i + 1) = k + 1 + i by omega]; exact hI)
      obtain ⟨r, e, h⟩ := this
      refine ⟨r, by simpa using e, ?_⟩
      rw [show k + 1 + i + 1 = k + (i + 1) + 1 by omega]
      exact h) r.2 h1
    refine ⟨r.1.toList ++ out, ρ', ?_, ?_⟩
    · show (f d ρ).bind _ = _
      rw [e1]
      show (compL f ds r.2).map _ = _
      rw [e2]
      obtain ⟨o, _⟩ := r
      cases o <;> rfl
    · rw [← List.append_assoc, show k + (d :: ds).length = k + 1 + ds.length by simp; omega]
      exact h2
theorem comp_rule {f : D → Rho → Option (Option D × Rho)} {ds : List D} (I : List D → Nat → Rho → Prop) (step : ∀ i (h : i < ds.length) acc ρ, I acc i ρ → ∃ r, f ds[i] ρ = some r ∧ I (acc ++ r.1.toList) (i + 1) r.2) {ρ : Rho} (h : I [] 0 ρ) : ∃ out ρ', compL f ds ρ = some (out, ρ') ∧ I out ds.length ρ' := by
  obtain ⟨out, ρ', e, a⟩ := compL_rule I ds 0 [] (fun i hi acc ρ hI => by
    rw [Nat.zero_add] at hI ⊢
    exact step i hi acc ρ hI) ρ h
  rw [Nat.zero_add, List.nil_append] at a
  exact ⟨out, ρ', e, a⟩
/-- draws -/
theorem drawA_ok {ns : List Int} {s m : Int} (h : 0 < m) (h2 : m < 1073741824) : ∃ v ns' s', 0 ≤ v ∧ v < m ∧ fxDrawA [stA ns s, .int m] = some (.int v, [stA ns' s', .int m]) := by
  have hI : intsD (ns.map .int) = some ns := by
    induction ns with
    | nil => rfl
    | cons x r ih =>
      show (intsD (r.map .int)).map _ = _ 
      rw [ih]
      rfl
  have e : fxDrawA [stA ns s, .int m] = some (.int (drawA ns s m).1, [stA (drawA ns s m).2.1 (drawA ns s m).2.2, .int m]) := by
    show (intsD (ns.map .int)).bind _ = _
    rw [hI]
    exact if_pos ⟨h, h2⟩
  refine ⟨_, _, _, ?_, ?_, e⟩
  · unfold drawA
    split <;> exact Int.emod_nonneg _ (by omega)
  · unfold drawA
    split <;> exact Int.emod_lt_of_pos _ h
theorem ixN_nat {n i : Nat} (h : i < n) : ixN n (i : Int) = some i := by
  unfold ixN
  rw [if_pos (by omega), if_pos (by omega)]
  simp
theorem ixL_nat {l : List D} {i : Int} {d : D} (h0 : 0 ≤ i) (h : l[i.toNat]? = some d) : ixL l (.int i) = some d := by
  obtain ⟨n, rfl⟩ := Int.eq_ofNat_of_zero_le h0
  exact atI_nat (by simpa using h)
end Vw
namespace Vw
open PySem PySem.Spec PyProof.Rows L2
/-! ### rules for bodies on data -/
structure Po where
  N : Rho → Prop
  R : D → Rho → Prop
  B : Rho → Prop
  C : Rho → Prop
  X : Str → Fs → Rho → Prop
def Po.at (K : Po) : Rs → Prop
  | .nx ρ => K.N ρ
  | .ret d ρ => K.R d ρ
  | .brk ρ => K.B ρ
  | .cnt ρ => K.C ρ
  | .exn x fs ρ => K.X x fs ρ
def Wp (c : Cf) (ss : Ss) (ρ : Rho) (K : Po) : Prop := ∃ r, exSs c ss ρ = some r ∧ K.at r
def WpS (c : Cf) (s : S) (ρ : Rho) (K : Po) : Prop := ∃ r, exS c s ρ = some r ∧ K.at r
section
variable {c : Cf} {ρ ρ' ρ'' : Rho} {K : Po} {d x : D} {ss : Ss}
theorem wp_nil (h : K.N ρ) : Wp c .nil ρ K := ⟨.nx ρ, rfl, h⟩
theorem wp_cons {s : S} (h : WpS c s ρ { K with N := fun ρ' => Wp c ss ρ' K }) : Wp c (.cons s ss) ρ K := by
  obtain ⟨r, e, h⟩ := h
  cases r with
  | nx ρ1 =>
    obtain ⟨r2, e2, h2⟩ := h
    exact ⟨r2, by show (exS c s ρ).bind _ = _; rw [e]; exact e2, h2⟩
  | ret d ρ1 => exact ⟨.ret d ρ1, by show (exS c s ρ).bind _ = _; rw [e]; rfl, h⟩
  | brk ρ1 => exact ⟨.brk ρ1, by show (exS c s ρ).bind _ = _; rw [e]; rfl, h⟩
  | cnt ρ1 => exact ⟨.cnt ρ1, by show (exS c s ρ).bind _ = _; rw [e]; rfl, h⟩
  | exn x fs ρ1 => exact ⟨.exn x fs ρ1, by show (exS c s ρ).bind _ = _; rw [e]; rfl, h⟩
theorem wp_fz {i : Nat} (h : Wp c ss ρ ⟨fun ρ => K.N (ρ.set i none), fun d ρ => K.R d (ρ.set i none), fun ρ => K.B (ρ.set i none), fun ρ => K.C (ρ.set i none), fun x fs ρ => K.X x fs (ρ.set i none)⟩) : Wp c (.fz i ss) ρ K := by
  obtain ⟨r, e, h⟩ := h
  refine ⟨rsWipe i r, by show (exSs c ss ρ).map _ = _; rw [e]; rfl, ?_⟩
  cases r <;> exact h
theorem wp_reb {i : Nat} {t : Ty} {e : E} (he : ev c e ρ = some (d, ρ')) (h : Wp c ss (put ρ' i d) ⟨fun ρ => K.N (ρ.set i none), fun d ρ => K.R d (ρ.set i none), fun ρ => K.B (ρ.set i none), fun ρ => K.C (ρ.set i none), fun x fs ρ => K.X x fs (ρ.set i none)⟩) : Wp c (.reb i t e ss) ρ K := by
  obtain ⟨r, e2, h⟩ := h
  refine ⟨rsWipe i r, by show (ev c e ρ).bind _ = _; rw [he]; show (exSs c ss _).map _ = _; rw [e2]; rfl, ?_⟩
  cases r <;> exact h
theorem w_set {i : Nat} {e : E} (he : ev c e ρ = some (d, ρ')) (h : K.N (put ρ' i d)) : WpS c (.set i e) ρ K := ⟨.nx (put ρ' i d), by show (ev c e ρ).map _ = _; rw [he]; rfl, h⟩
theorem w_unp {tg : Tg} {e : E} (he : ev c e ρ = some (d, ρ')) (ht : tgD tg d ρ' = some ρ'') (h : K.N ρ'') : WpS c (.unp tg e) ρ K := ⟨.nx ρ'', by show (ev c e ρ).bind _ = _; rw [he]; show (tgD tg d ρ').map _ = _; rw [ht]; rfl, h⟩
theorem w_par {i j : Nat} {a b : E} (ha : ev c a ρ = some (d, ρ')) (hb : ev c b ρ' = some (x, ρ'')) (h : K.N (put (put ρ'' i d) j x)) : WpS c (.par i j a b) ρ K := ⟨.nx _, by show (ev c a ρ).bind _ = _; rw [ha]; show (ev c b ρ').map _ = _; rw [hb]; rfl, h⟩
theorem w_aug {i : Nat} {o : Ar} {e : E} {y z : D} (h0 : Vw.get ρ i = some y) (he : ev c e ρ = some (d, ρ')) (ho : arD o y d = some z) (h : K.N (put ρ' i z)) : WpS c (.aug i o e) ρ K := ⟨.nx _, by show (Vw.get ρ i).bind _ = _; rw [h0]; show (ev c e ρ).bind _ = _; rw [he]; show (arD o y d).map _ = _; rw [ho]; rfl, h⟩
theorem w_app {i : Nat} {e : E} {l l0 : List D} (h0 : Vw.get ρ i = some (.list l0)) (he : ev c e ρ = some (d, ρ')) (h1 : Vw.get ρ' i = some (.list l)) (hl : l.length < 16777216) (h : K.N (put ρ' i (.list (l ++ [d])))) : WpS c (.app i e) ρ K :=
  ⟨.nx _, by show (Vw.get ρ i).bind _ = _; rw [h0]; show (ev c e ρ).bind _ = _; rw [he]; show (Vw.get ρ' i).bind _ = _; rw [h1]; exact if_pos hl, h⟩
theorem w_sti {i : Nat} {a e : E} {l : List D} {y : D} {j : Int} {k : Nat} (he : ev c e ρ = some (d, ρ')) (h0 : Vw.get ρ' i = some y) (ha : ev c a ρ' = some (.int j, ρ'')) (h1 : Vw.get ρ'' i = some (.list l)) (hk : ixN l.length j = some k) (h : K.N (put ρ'' i (.list (l.set k d)))) : WpS c (.sti i a e) ρ K :=
  ⟨.nx _, by show (ev c e ρ).bind _ = _; rw [he]; show (Vw.get ρ' i).bind _ = _; rw [h0]; show (ev c a ρ').bind _ = _; rw [ha]; show (Vw.get ρ'' i).bind _ = _; rw [h1]; show (ixN l.length j).map _ = _; rw [hk]; rfl, h⟩
theorem w_ex {e : E} (he : ev c e ρ = some (d, ρ')) (h : K.N ρ') : WpS c (.ex e) ρ K := ⟨.nx ρ', by show (ev c e ρ).map _ = _; rw [he]; rfl, h⟩
theorem w_ret {e : E} (he : ev c e ρ = some (d, ρ')) (h : K.R d ρ') : WpS c (.ret e) ρ K := ⟨.ret d ρ', by show (ev c e ρ).map _ = _; rw [he]; rfl, h⟩
theorem w_retn (h : K.R .none ρ) : WpS c .retn ρ K := ⟨_, rfl, h⟩
theorem w_brk (h : K.B ρ) : WpS c .brk ρ K := ⟨_, rfl, h⟩
theorem w_cnt (h : K.C ρ) : WpS c .cnt ρ K := ⟨_, rfl, h⟩
theorem w_pas (h : K.N ρ) : WpS c .pas ρ K := ⟨_, rfl, h⟩
theorem w_ife {t : T} {a b : Ss} {z : Bool} (ht : evT c t ρ = some (z, ρ')) (h1 : z = true → Wp c a ρ' K) (h2 : z = false → Wp c b ρ' K) : WpS c (.ife t a b) ρ K := by
  cases z with
  | true =>
    obtain ⟨r, e, h⟩ := h1 rfl
    exact ⟨r, by show (evT c t ρ).bind _ = _; rw [ht]; exact e, h⟩
  | false =>
    obtain ⟨r, e, h⟩ := h2 rfl
    exact ⟨r, by show (evT c t ρ).bind _ = _; rw [ht]; exact e, h⟩
theorem forL_po {f : D → Rho → Option Rs} (I : Nat → Rho → Prop) : ∀ (ds : List D) (k : Nat),
    (∀ i (h : i < ds.length) ρ, I (k + i) ρ → ∃ r, f ds[i] ρ = some r ∧ ({ K with N := I (k + i + 1), C := I (k + i + 1) } : Po).at r) → ∀ ρ, I k ρ →
      ∃ q, forL f ds ρ = some q ∧ ((∃ ρ', q = .nx ρ' ∧ (I (k + ds.length) ρ' ∨ K.B ρ')) ∨ (∃ d ρ', q = .ret d ρ' ∧ K.R d ρ') ∨ ∃ x fs ρ', q = .exn x fs ρ' ∧ K.X x fs ρ')
  | [], k, _, ρ, h => ⟨.nx ρ, rfl, .inl ⟨ρ, rfl, .inl h⟩⟩
  | d :: ds, k, step, ρ, h => by
    obtain ⟨r, e1, h1⟩ := step 0 (Nat.succ_pos _) ρ h
    have e1 : f d ρ = some r := e1
    have go : ∀ ρ1, I (k + 1) ρ1 → ∃ q, forL f ds ρ1 = some q ∧ ((∃ ρ', q = .nx ρ' ∧ (I (k + (d :: ds).length) ρ' ∨ K.B ρ')) ∨ (∃ d ρ', q = .ret d ρ' ∧ K.R d ρ') ∨ ∃ x fs ρ', q = .exn x fs ρ' ∧ K.X x fs ρ') := fun ρ1 h1 => by
      have := forL_po I ds (k + 1) (fun i hi ρ hI => by
        have := step (i + 1) (by simpa using hi) ρ (by rw [show k + (i + 1) = k + 1 + i by omega]; exact hI)
        obtain ⟨r, e, h⟩ := this
        refine ⟨r, by simpa using e, ?_⟩
        rw [show k + 1 + i + 1 = k + (i + 1) + 1 by omega]
        exact h) ρ1 h1
      rw [show k + (d :: ds).length = k + 1 + ds.length by simp; omega]
      exact this
    cases r with
    | nx ρ1 =>
      obtain ⟨q, e2, h2⟩ := go ρ1 h1
      exact ⟨q, by show (f d ρ).bind _ = _; rw [e1]; exact e2, h2⟩
    | cnt ρ1 =>
      obtain ⟨q, e2, h2⟩ := go ρ1 h1
      exact ⟨q, by show (f d ρ).bind _ = _; rw [e1]; exact e2, h2⟩
    | ret x ρ1 => exact ⟨.ret x ρ1, by show (f d ρ).bind _ = _; rw [e1]; rfl, .inr (.inl ⟨x, ρ1, rfl, h1⟩)⟩
    | exn x fs ρ1 => exact ⟨.exn x fs ρ1, by show (f d ρ).bind _ = _; rw [e1]; rfl, .inr (.inr ⟨x, fs, ρ1, rfl, h1⟩)⟩
    | brk ρ1 => exact ⟨.nx ρ1, by show (f d ρ).bind _ = _; rw [e1]; rfl, .inl ⟨ρ1, rfl, .inr h1⟩⟩
/-- for: I by the turn -/
theorem w_for {tg : Tg} {it : Iv} {b : Ss} {ds : List D} {sv : List (Nat × D)} (hi : evI c it ρ = some (ds, ρ', sv)) (I : Nat → Rho → Prop) (h0 : I 0 ρ')
    (step : ∀ i (h : i < ds.length) ρ, I i ρ → ∃ ρ1, tgD tg ds[i] ρ = some ρ1 ∧ Wp c b ρ1 { K with N := I (i + 1), C := I (i + 1), B := fun ρ => ∃ ρ', restD sv ρ = some ρ' ∧ K.N ρ' })
    (fin : ∀ ρ, I ds.length ρ → ∃ ρ', restD sv ρ = some ρ' ∧ K.N ρ') : WpS c (.for tg it b) ρ K := by
  obtain ⟨q, e, a⟩ := forL_po (K := { K with B := fun ρ => ∃ ρ', restD sv ρ = some ρ' ∧ K.N ρ' }) (f := fun d ρ => (tgD tg d ρ).bind fun ρ1 => exSs c b ρ1) I ds 0 (fun i h ρ hI => by
    rw [Nat.zero_add] at hI
    obtain ⟨ρ1, e1, r, e2, h2⟩ := step i h ρ hI
    refine ⟨r, by show (tgD tg ds[i] ρ).bind _ = _; rw [e1]; exact e2, ?_⟩
    rw [Nat.zero_add]
    exact h2) ρ' h0
  rw [Nat.zero_add] at a
  have e0 : exS c (.for tg it b) ρ = rsBack sv q := by
    show (evI c it ρ).bind _ = _
    rw [hi]
    show (forL _ ds ρ').bind _ = _
    rw [e]
    rfl
  rcases a with ⟨ρ1, rfl, a⟩ | ⟨d, ρ1, rfl, a⟩ | ⟨x, fs, ρ1, rfl, a⟩
  · have : ∃ ρ', restD sv ρ1 = some ρ' ∧ K.N ρ' := a.elim (fin ρ1) id
    obtain ⟨ρ2, e2, h2⟩ := this
    exact ⟨.nx ρ2, by rw [e0]; show (restD sv ρ1).map _ = _; rw [e2]; rfl, h2⟩
  · exact ⟨.ret d ρ1, by rw [e0]; rfl, a⟩
  · exact ⟨.exn x fs ρ1, by rw [e0]; rfl, a⟩
/-- while: I by what is left -/
theorem w_wh {t : T} {b : Ss} (I : Nat → Rho → Prop) (n : Nat) (hn : n < c.W) (h0 : I n ρ)
    (step : ∀ n ρ, I n ρ → ∃ z ρ1, evT c t ρ = some (z, ρ1) ∧ (z = false → K.N ρ1) ∧ (z = true → Wp c b ρ1 { K with N := fun ρ => ∃ m, m < n ∧ I m ρ, C := fun ρ => ∃ m, m < n ∧ I m ρ, B := K.N })) : WpS c (.wh t b) ρ K := by
  have go : ∀ (w n : Nat) (ρ : Rho), n < w → I n ρ → ∃ r, whL (fun ρ => evT c t ρ) (fun ρ => exSs c b ρ) w ρ = some r ∧ K.at r := by
    intro w
    induction w with
    | zero => exact fun n ρ h => absurd h (Nat.not_lt_zero _)
    | succ w ih =>
      intro n ρ hw hI
      obtain ⟨z, ρ1, e, f1, f2⟩ := step n ρ hI
      cases z with
      | false => exact ⟨.nx ρ1, by show (evT c t ρ).bind _ = _; rw [e]; rfl, f1 rfl⟩
      | true =>
        obtain ⟨r, e2, h2⟩ := f2 rfl
        cases r with
        | nx ρ2 =>
          obtain ⟨m, hm, hI2⟩ := h2
          obtain ⟨r3, e3, h3⟩ := ih m ρ2 (by omega) hI2
          exact ⟨r3, by show (evT c t ρ).bind _ = _; rw [e]; show (exSs c b ρ1).bind _ = _; rw [e2]; exact e3, h3⟩
        | cnt ρ2 =>
          obtain ⟨m, hm, hI2⟩ := h2
          obtain ⟨r3, e3, h3⟩ := ih m ρ2 (by omega) hI2
          exact ⟨r3, by show (evT c t ρ).bind _ = _; rw [e]; show (exSs c b ρ1).bind _ = _; rw [e2]; exact e3, h3⟩
        | brk ρ2 => exact ⟨.nx ρ2, by show (evT c t ρ).bind _ = _; rw [e]; show (exSs c b ρ1).bind _ = _; rw [e2]; rfl, h2⟩
        | ret d ρ2 => exact ⟨.ret d ρ2, by show (evT c t ρ).bind _ = _; rw [e]; show (exSs c b ρ1).bind _ = _; rw [e2]; rfl, h2⟩
        | exn x fs ρ2 => exact ⟨.exn x fs ρ2, by show (evT c t ρ).bind _ = _; rw [e]; show (exSs c b ρ1).bind _ = _; rw [e2]; rfl, h2⟩
  exact go c.W n ρ hn h0
theorem ev_call {f : Str} {as : As} {ags : List Ag} {ds ds' : List D} (ha : evA c as ρ = some (ags, ρ')) (hd : agsD ρ' ags = some ds) (hf : c.fn f ds = some (d, ds')) (hb : ags.any isBo = false) (hk : backD ags ds' ρ' = some ρ'') : ev c (.call f as) ρ = some (d, ρ'') := by
  show (evA c as ρ).bind _ = _
  rw [ha]
  show (agsD ρ' ags).bind _ = _
  rw [hd]
  show (c.fn f ds).bind _ = _
  rw [hf]
  show (if ags.any isBo = true then _ else _) = _
  rw [if_neg (by rw [hb]; exact Bool.false_ne_true)]
  show (backD ags ds' ρ').map _ = _
  rw [hk]
  rfl
theorem ev_comp {elt : E} {tg : Tg} {it : Iv} {cd : Ot} {ws : List Nat} {ds : List D} {sv : List (Nat × D)} (hi : evI c it ρ = some (ds, ρ', sv)) (I : List D → Nat → Rho → Prop) (h0 : I [] 0 (wipeD ρ' ws))
    (step : ∀ i (h : i < ds.length) acc ρ, I acc i ρ → ∃ ρ1 z ρ2, tgD tg ds[i] ρ = some ρ1 ∧ evC c cd ρ1 = some (z, ρ2) ∧ (z = false → I acc (i + 1) (wipeD ρ2 ws)) ∧ (z = true → ∃ x ρ3, ev c elt ρ2 = some (x, ρ3) ∧ I (acc ++ [x]) (i + 1) (wipeD ρ3 ws)))
    {Q : D → Rho → Prop} (fin : ∀ out ρ, I out ds.length ρ → out.length ≤ 16777216 ∧ ∃ ρ', restD sv ρ = some ρ' ∧ Q (.list out) ρ') : ∃ d ρ', ev c (.comp elt tg it cd ws) ρ = some (d, ρ') ∧ Q d ρ' := by
  obtain ⟨out, ρ2, e, hI⟩ := comp_rule (ds := ds) (f := fun d ρ => (tgD tg d ρ).bind fun ρ1 => (evC c cd ρ1).bind fun b =>
      if b.1 = true then (ev c elt b.2).map fun q => (some q.1, wipeD q.2 ws) else some (none, wipeD b.2 ws)) I (fun i h acc ρ hI => by
    obtain ⟨ρ1, z, ρ2, e1, e2, f1, f2⟩ := step i h acc ρ hI
    cases z with
    | false =>
      refine ⟨(none, wipeD ρ2 ws), by show (tgD tg ds[i] ρ).bind _ = _; rw [e1]; show (evC c cd ρ1).bind _ = _; rw [e2]; rfl, ?_⟩
      show I (acc ++ []) _ _
      rw [List.append_nil]
      exact f1 rfl
    | true =>
      obtain ⟨x, ρ3, e3, h3⟩ := f2 rfl
      exact ⟨(some x, wipeD ρ3 ws), by show (tgD tg ds[i] ρ).bind _ = _; rw [e1]; show (evC c cd ρ1).bind _ = _; rw [e2]; show (ev c elt ρ2).map _ = _; rw [e3]; rfl, h3⟩) h0
  obtain ⟨hl, ρ3, e3, q⟩ := fin out ρ2 hI
  refine ⟨.list out, ρ3, ?_, q⟩
  show (evI c it ρ).bind _ = _
  rw [hi]
  show (compL _ ds (wipeD ρ' ws)).bind _ = _
  rw [e]
  show (if lenOk out.length = true then _ else _) = _
  rw [if_pos (lenOk_le hl)]
  show (restD sv ρ2).map _ = _
  rw [e3]
  rfl
end
theorem fn_rule {c : Cf} {ps : List Ty} {n : Nat} {b : Ss} {ds : List D} {Q : D → List D → Prop} (h : Wp c b (ds.map some ++ List.replicate (n - ds.length) none) ⟨fun ρ => ∃ o, fout ps ds ρ = some o ∧ Q .none o, fun d ρ => ∃ o, fout ps ds ρ = some o ∧ Q d o, fun _ => False, fun _ => False, fun _ _ _ => False⟩) : ∃ d o, evF c ps n b ds = some (d, o) ∧ Q d o := by
  obtain ⟨r, e, h⟩ := h
  cases r with
  | nx ρ =>
    obtain ⟨o, e2, q⟩ := h
    exact ⟨.none, o, by unfold evF; rw [e]; show (fout ps ds ρ).map _ = _; rw [e2]; rfl, q⟩
  | ret d ρ =>
    obtain ⟨o, e2, q⟩ := h
    exact ⟨d, o, by unfold evF; rw [e]; show (fout ps ds ρ).map _ = _; rw [e2]; rfl, q⟩
  | brk ρ => exact h.elim
  | cnt ρ => exact h.elim
  | exn x fs ρ => exact h.elim
/-- a def that may raise -/
theorem fx_rule {c : Cf} {ps : List Ty} {n : Nat} {b : Ss} {ds : List D} {Q : Xr → Prop} (h : Wp c b (ds.map some ++ List.replicate (n - ds.length) none) ⟨fun ρ => ∃ o, fout ps ds ρ = some o ∧ Q (.ret .none o), fun d ρ => ∃ o, fout ps ds ρ = some o ∧ Q (.ret d o), fun _ => False, fun _ => False, fun x fs _ => Q (.exn x fs)⟩) : ∃ r, evX c ps n b ds = some r ∧ Q r := by
  obtain ⟨r, e, h⟩ := h
  cases r with
  | nx ρ =>
    obtain ⟨o, e2, q⟩ := h
    exact ⟨_, by unfold evX; rw [e]; show (fout ps ds ρ).map _ = _; rw [e2]; rfl, q⟩
  | ret d ρ =>
    obtain ⟨o, e2, q⟩ := h
    exact ⟨_, by unfold evX; rw [e]; show (fout ps ds ρ).map _ = _; rw [e2]; rfl, q⟩
  | brk ρ => exact h.elim
  | cnt ρ => exact h.elim
  | exn x fs ρ => exact ⟨_, by unfold evX; rw [e]; rfl, h⟩
section
variable {c : Cf} {ρ ρ' : Rho} {K : Po} {es : Es} {ds : List D} {f : Str}
theorem w_rse {x : Str} {ns : List Str} (he : evs c es ρ = some (ds, ρ')) (hl : ns.length = ds.length) (h : K.X x (ns.zip ds) ρ') : WpS c (.rse x ns es) ρ K :=
  ⟨.exn x (ns.zip ds) ρ', by show (evs c es ρ).bind _ = _; rw [he]; exact if_pos hl, h⟩
/-- what is behind a call -/
def XK (K : Po) (ρ : Rho) (k : D → Prop) : Xr → Prop
  | .ret d _ => k d
  | .exn x fs => K.X x fs ρ
theorem w_cx {r : Xr} (he : evs c es ρ = some (ds, ρ')) (hf : c.fx f ds = some r) (h : XK K ρ' (fun _ => K.N ρ') r) : WpS c (.cx f es) ρ K := by
  cases r with
  | ret d o => exact ⟨.nx ρ', by show (evs c es ρ).bind _ = _; rw [he]; show (c.fx f ds).bind _ = _; rw [hf]; rfl, h⟩
  | exn x fs => exact ⟨.exn x fs ρ', by show (evs c es ρ).bind _ = _; rw [he]; show (c.fx f ds).bind _ = _; rw [hf]; rfl, h⟩
theorem w_rtx {r : Xr} (he : evs c es ρ = some (ds, ρ')) (hf : c.fx f ds = some r) (h : XK K ρ' (fun d => K.R d ρ') r) : WpS c (.rtx f es) ρ K := by
  cases r with
  | ret d o => exact ⟨.ret d ρ', by show (evs c es ρ).bind _ = _; rw [he]; show (c.fx f ds).bind _ = _; rw [hf]; rfl, h⟩
  | exn x fs => exact ⟨.exn x fs ρ', by show (evs c es ρ).bind _ = _; rw [he]; show (c.fx f ds).bind _ = _; rw [hf]; rfl, h⟩
theorem w_sx {i : Nat} {r : Xr} (he : evs c es ρ = some (ds, ρ')) (hf : c.fx f ds = some r) (h : XK K ρ' (fun d => K.N (put ρ' i d)) r) : WpS c (.sx i f es) ρ K := by
  cases r with
  | ret d o => exact ⟨.nx (put ρ' i d), by show (evs c es ρ).bind _ = _; rw [he]; show (c.fx f ds).bind _ = _; rw [hf]; rfl, h⟩
  | exn x fs => exact ⟨.exn x fs ρ', by show (evs c es ρ).bind _ = _; rw [he]; show (c.fx f ds).bind _ = _; rw [hf]; rfl, h⟩
theorem w_ifx {ng : Bool} {a b : Ss} {r : Xr} (he : evs c es ρ = some (ds, ρ')) (hf : c.fx f ds = some r) (h : XK K ρ' (fun d => ((isNone d != ng) = true → Wp c a ρ' K) ∧ ((isNone d != ng) = false → Wp c b ρ' K)) r) : WpS c (.ifx ng f es a b) ρ K := by
  cases r with
  | ret d o =>
    obtain ⟨h1, h2⟩ := h
    cases hd : (isNone d != ng) with
    | true =>
      obtain ⟨q, e, h⟩ := h1 hd
      exact ⟨q, by show (evs c es ρ).bind _ = _; rw [he]; show (c.fx f ds).bind _ = _; rw [hf]; exact (if_pos hd).trans e, h⟩
    | false =>
      obtain ⟨q, e, h⟩ := h2 hd
      exact ⟨q, by show (evs c es ρ).bind _ = _; rw [he]; show (c.fx f ds).bind _ = _; rw [hf]; exact (if_neg (by rw [hd]; exact Bool.false_ne_true)).trans e, h⟩
  | exn x fs => exact ⟨.exn x fs ρ', by show (evs c es ρ).bind _ = _; rw [he]; show (c.fx f ds).bind _ = _; rw [hf]; rfl, h⟩
/-- try: what the suite tells of the exception -/
theorem w_tr {b : Ss} {x : Str} {i : Nat} {g : Hs} (h : Wp c b ρ { K with X := fun y fs ρ => y = x ∧ i < ρ.length ∧ ∃ d, hsD y fs (ρ.set i none) g = some d ∧ K.R d (ρ.set i none) }) : WpS c (.tr b x i g) ρ K := by
  obtain ⟨r, e, h⟩ := h
  cases r with
  | nx ρ1 => exact ⟨.nx ρ1, by show (exSs c b ρ).bind _ = _; rw [e]; rfl, h⟩
  | ret d ρ1 => exact ⟨.ret d ρ1, by show (exSs c b ρ).bind _ = _; rw [e]; rfl, h⟩
  | brk ρ1 => exact ⟨.brk ρ1, by show (exSs c b ρ).bind _ = _; rw [e]; rfl, h⟩
  | cnt ρ1 => exact ⟨.cnt ρ1, by show (exSs c b ρ).bind _ = _; rw [e]; rfl, h⟩
  | exn y fs ρ1 =>
    obtain ⟨h1, h2, d, h3, h4⟩ := h
    exact ⟨.ret d (ρ1.set i none), by show (exSs c b ρ).bind _ = _; rw [e]; exact (if_pos ⟨h1, h2⟩).trans (by rw [h3]; rfl), h4⟩
end
end Vw
namespace Vw
open PySem PySem.Spec PyProof.Rows L2
section
variable {c : Cf} {ρ ρ1 ρ2 ρ3 : Rho} {x y z d : D} {a b e : E}
theorem r_neg {i : Int} (ha : ev c a ρ = some (.int i, ρ1)) : ev c (.neg a) ρ = some (.int (-i), ρ1) := by
  show (ev c a ρ).bind _ = _
  rw [ha]
  rfl
theorem r_ar {o : Ar} (ha : ev c a ρ = some (x, ρ1)) (hb : ev c b ρ1 = some (y, ρ2)) (h : arD o x y = some d) : ev c (.ar o a b) ρ = some (d, ρ2) := by
  show (ev c a ρ).bind _ = _
  rw [ha]
  show (ev c b ρ1).bind _ = _
  rw [hb]
  show (arD o x y).map _ = _
  rw [h]
  rfl
theorem r_cm {o : Cm} {i j : Int} (ha : ev c a ρ = some (.int i, ρ1)) (hb : ev c b ρ1 = some (.int j, ρ2)) : ev c (.cm o a b) ρ = some (.bool (cmI o i j), ρ2) := by
  show (ev c a ρ).bind _ = _
  rw [ha]
  show (ev c b ρ1).bind _ = _
  rw [hb]
  rfl
theorem r_eq {ng : Bool} (ha : ev c a ρ = some (x, ρ1)) (hb : ev c b ρ1 = some (y, ρ2)) (h1 : SeqAt.shaped x = true) (h2 : SeqAt.shaped y = true) : ev c (.eq ng a b) ρ = some (.bool (PyData.eqv x y != ng), ρ2) := by
  show (ev c a ρ).bind _ = _
  rw [ha]
  show (ev c b ρ1).bind _ = _
  rw [hb]
  show (eqD ng x y).map _ = _
  unfold eqD
  rw [if_pos ⟨h1, h2⟩]
  rfl
theorem r_isn {ng : Bool} (ha : ev c a ρ = some (x, ρ1)) : ev c (.isn ng a) ρ = some (.bool (isNone x != ng), ρ1) := by
  show (ev c a ρ).map _ = _
  rw [ha]
  rfl
theorem r_ind {ng : Bool} {l : List D} (ha : ev c a ρ = some (x, ρ1)) (hb : ev c b ρ1 = some (.list l, ρ2)) (h1 : SeqAt.shaped x = true) (h2 : SeqAt.shaped (.list l) = true) : ev c (.ind ng a b) ρ = some (.bool (l.any (fun e => PyData.eqv e x) != ng), ρ2) := by
  show (ev c a ρ).bind _ = _
  rw [ha]
  show (ev c b ρ1).bind _ = _
  rw [hb]
  show (if _ then _ else _ : Option D).map _ = _
  rw [if_pos ⟨h1, h2⟩]
  rfl
theorem r_inn {ng : Bool} {o : O} {l : List D} (ha : ev c a ρ = some (x, ρ1)) (hb : evO c o ρ1 = some (y, ρ2)) (hs : seqD y = some l) (h1 : flatD x = true) (h2 : l.all flatD = true) : ev c (.inn ng a o) ρ = some (.bool (l.any (fun e => PyData.eqv e x) != ng), ρ2) := by
  show (ev c a ρ).bind _ = _
  rw [ha]
  show (evO c o ρ1).bind _ = _
  rw [hb]
  show (innD ng x y).map _ = _
  unfold innD
  rw [hs]
  show (if _ then _ else _ : Option D).map _ = _
  rw [if_pos ⟨h1, h2⟩]
  rfl
theorem r_ife {t : T} {v : Bool} (ht : evT c t ρ = some (v, ρ1)) (h1 : v = true → ev c a ρ1 = some (d, ρ2)) (h2 : v = false → ev c b ρ1 = some (d, ρ2)) : ev c (.ife t a b) ρ = some (d, ρ2) := by
  show (evT c t ρ).bind _ = _
  rw [ht]
  cases v with
  | true => exact h1 rfl
  | false => exact h2 rfl
theorem r_nil : evs c .nil ρ = some ([], ρ) := rfl
theorem r_cons {es : Es} {ds : List D} (ha : ev c a ρ = some (x, ρ1)) (hb : evs c es ρ1 = some (ds, ρ2)) : evs c (.cons a es) ρ = some (x :: ds, ρ2) := by
  show (ev c a ρ).bind _ = _
  rw [ha]
  show (evs c es ρ1).map _ = _
  rw [hb]
  rfl
theorem r_tup {es : Es} {ds : List D} (h : evs c es ρ = some (ds, ρ1)) (hl : lenOk ds.length = true := by rfl) : ev c (.tup es) ρ = some (.tuple ds, ρ1) := by
  show (evs c es ρ).bind _ = _
  rw [h]
  exact if_pos hl
theorem r_lst {es : Es} {ds : List D} (h : evs c es ρ = some (ds, ρ1)) (hl : lenOk ds.length = true := by rfl) : ev c (.lst es) ρ = some (.list ds, ρ1) := by
  show (evs c es ρ).bind _ = _
  rw [h]
  exact if_pos hl
theorem r_oe (h : ev c a ρ = some (x, ρ1)) : evO c (.e a) ρ = some (x, ρ1) := h
theorem r_ix {o : O} (ha : evO c o ρ = some (x, ρ1)) (hb : ev c b ρ1 = some (y, ρ2)) (hl : lateD c o x ρ2 = some z) (h : ixD z y = some d) : ev c (.ix o b) ρ = some (d, ρ2) := by
  show (evO c o ρ).bind _ = _
  rw [ha]
  show (ev c b ρ1).bind _ = _
  rw [hb]
  show (lateD c o x ρ2).bind _ = _
  rw [hl]
  show (ixD z y).map _ = _
  rw [h]
  rfl
theorem r_b1 {f : B1} {o : O} (ha : evO c o ρ = some (x, ρ1)) (h : b1D f x = some d) : ev c (.b1 f o) ρ = some (d, ρ1) := by
  show (evO c o ρ).bind _ = _
  rw [ha]
  show (b1D f x).map _ = _
  rw [h]
  rfl
theorem r_b2 {f : B2} (ha : ev c a ρ = some (x, ρ1)) (hb : ev c b ρ1 = some (y, ρ2)) (h : b2D f x y = some d) : ev c (.b2 f a b) ρ = some (d, ρ2) := by
  show (ev c a ρ).bind _ = _
  rw [ha]
  show (ev c b ρ1).bind _ = _
  rw [hb]
  show (b2D f x y).map _ = _
  rw [h]
  rfl
theorem r_lcat {o o2 : O} (ha : evO c o ρ = some (x, ρ1)) (hb : evO c o2 ρ1 = some (y, ρ2)) (hl : lateD c o x ρ2 = some z) (h : lcatD z y = some d) : ev c (.lcat o o2) ρ = some (d, ρ2) := by
  show (evO c o ρ).bind _ = _
  rw [ha]
  show (evO c o2 ρ1).bind _ = _
  rw [hb]
  show (lateD c o x ρ2).bind _ = _
  rw [hl]
  show (lcatD z y).map _ = _
  rw [h]
  rfl
theorem r_popat {i : Nat} {l l0 : List D} {j : Int} {k : Nat} (h0 : Vw.get ρ i = some (.list l0)) (ha : ev c a ρ = some (.int j, ρ1)) (h1 : Vw.get ρ1 i = some (.list l)) (hj : -(2 ^ 63) ≤ j ∧ j < 2 ^ 63) (hk : seqIndex? j l.length = some k) (hd : l[k]? = some d) : ev c (.popat i a) ρ = some (d, put ρ1 i (.list (l.eraseIdx k))) := by
  show (Vw.get ρ i).bind _ = _
  rw [h0]
  show (ev c a ρ).bind _ = _
  rw [ha]
  show (Vw.get ρ1 i).bind _ = _
  rw [h1]
  show (if _ then _ else _ : Option (D × Rho)) = _
  rw [if_pos hj]
  show (seqIndex? j l.length).bind _ = _
  rw [hk]
  show (l[k]?).map _ = _
  rw [hd]
  rfl
theorem t_e' {v : Bool} (ha : ev c a ρ = some (x, ρ1)) (h : truD x = some v) : evT c (.e a) ρ = some (v, ρ1) := by
  show (ev c a ρ).bind _ = _
  rw [ha]
  show (truD x).map _ = _
  rw [h]
  rfl
theorem t_b {v : Bool} (ha : ev c a ρ = some (.bool v, ρ1)) : evT c (.e a) ρ = some (v, ρ1) := t_e' ha rfl
theorem t_no' {t : T} {v : Bool} (h : evT c t ρ = some (v, ρ1)) : evT c (.no t) ρ = some (!v, ρ1) := by
  show (evT c t ρ).map _ = _
  rw [h]
  rfl
theorem t_an {t u : T} {v w : Bool} (h : evT c t ρ = some (v, ρ1)) (h0 : v = false → w = false ∧ ρ2 = ρ1) (h1 : v = true → evT c u ρ1 = some (w, ρ2)) : evT c (.an t u) ρ = some (w, ρ2) := by
  show (evT c t ρ).bind _ = _
  rw [h]
  cases v with
  | true => exact h1 rfl
  | false =>
    obtain ⟨rfl, rfl⟩ := h0 rfl
    rfl
theorem t_or {t u : T} {v w : Bool} (h : evT c t ρ = some (v, ρ1)) (h0 : v = true → w = true ∧ ρ2 = ρ1) (h1 : v = false → evT c u ρ1 = some (w, ρ2)) : evT c (.orr t u) ρ = some (w, ρ2) := by
  show (evT c t ρ).bind _ = _
  rw [h]
  cases v with
  | false => exact h1 rfl
  | true =>
    obtain ⟨rfl, rfl⟩ := h0 rfl
    rfl
/-- both sides known -/
theorem t_an2 {t u : T} {v w : Bool} (h : evT c t ρ = some (v, ρ)) (h1 : v = true → evT c u ρ = some (w, ρ)) : evT c (.an t u) ρ = some (v && w, ρ) := by
  refine t_an h (fun e => by rw [e]; exact ⟨rfl, rfl⟩) fun e => ?_
  rw [e, Bool.true_and]
  exact h1 e
theorem t_or2 {t u : T} {v w : Bool} (h : evT c t ρ = some (v, ρ)) (h1 : v = false → evT c u ρ = some (w, ρ)) : evT c (.orr t u) ρ = some (v || w, ρ) := by
  refine t_or h (fun e => by rw [e]; exact ⟨rfl, rfl⟩) fun e => ?_
  rw [e, Bool.false_or]
  exact h1 e
/-- a call whose arguments are all shared -/
theorem r_call {f : Str} {as : As} {ags : List Ag} {ds ds' : List D} (ha : evA c as ρ = some (ags, ρ1)) (hd : agsD ρ1 ags = some ds) (hf : c.fn f ds = some (d, ds')) (hb : ags.any isBo = false) (hk : backD ags ds' ρ1 = some ρ2) : ev c (.call f as) ρ = some (d, ρ2) := ev_call ha hd hf hb hk
theorem a_n : evA c .nil ρ = some ([], ρ) := rfl
theorem a_f {as : As} {ags : List Ag} (ha : ev c a ρ = some (x, ρ1)) (hb : evA c as ρ1 = some (ags, ρ2)) : evA c (.fr a as) ρ = some (.d x :: ags, ρ2) := by
  show (ev c a ρ).bind _ = _
  rw [ha]
  show (evA c as ρ1).map _ = _
  rw [hb]
  rfl
theorem a_i {i : Nat} {as : As} {ags : List Ag} (h : Vw.get ρ i = some x) (hb : evA c as ρ = some (ags, ρ2)) : evA c (.io i as) ρ = some (.io i :: ags, ρ2) := by
  show (Vw.get ρ i).bind _ = _
  rw [h]
  show (evA c as ρ).map _ = _
  rw [hb]
  rfl
theorem i_r1 {j : Int} (ha : ev c a ρ = some (.int j, ρ1)) (h : inR j = true) : evI c (.r1 a) ρ = some (rngD 0 j.toNat, ρ1, []) := by
  show (ev c a ρ).bind _ = _
  rw [ha]
  exact if_pos h
theorem i_r2 {i j : Int} (ha : ev c a ρ = some (.int i, ρ1)) (hb : ev c b ρ1 = some (.int j, ρ2)) (h : inR i = true ∧ inR j = true) : evI c (.r2 a b) ρ = some (rngD i (j - i).toNat, ρ2, []) := by
  show (ev c a ρ).bind _ = _
  rw [ha]
  show (ev c b ρ1).bind _ = _
  rw [hb]
  exact if_pos h
theorem i_o {l : List D} (ha : ev c a ρ = some (x, ρ1)) (h : seqD x = some l) : evI c (.o (.e a)) ρ = some (l, ρ1, []) := by
  show ((ev c a ρ).map _).bind _ = _
  rw [ha]
  show (seqD x).map _ = _
  rw [h]
  rfl
end
theorem rng_len {lo : Int} {n : Nat} : (rngD lo n).length = n := by simp [rngD]
theorem rng_at {lo : Int} {n i : Nat} (h : i < (rngD lo n).length) : (rngD lo n)[i] = .int (lo + i) := by simp [rngD]
theorem inR_small {j : Int} (h0 : -1000000000 ≤ j) (h1 : j ≤ 1000000000) : inR j = true := decide_eq_true ⟨by omega, by omega⟩
@[simp] theorem bneF {b : Bool} : (b != false) = b := by cases b <;> rfl
@[simp] theorem bneT {b : Bool} : (b != true) = !b := by cases b <;> rfl
theorem eq_of {α β : Type} {o : Option (α × β)} {x : α} {y : β} (h : ∃ d o', o = some (d, o') ∧ d = x ∧ o' = y) : o = some (x, y) := by
  obtain ⟨d, o', e, rfl, rfl⟩ := h
  exact e
theorem lenOkS {n : Nat} (h : n ≤ 16777216) : lenOk n = true := decide_eq_true h
/-! shaped data -/
theorem canAll {l : List D} (h : ∀ d ∈ l, PyData.canLay0 d = true) : PyData.canLayAll0 l = true := by
  induction l with
  | nil => rfl
  | cons x r ih =>
    show (PyData.canLay0 x && PyData.canLayAll0 r) = true
    rw [h x List.mem_cons_self, ih fun d hd => h d (List.mem_cons_of_mem _ hd)]
    rfl
end Vw
namespace Vw
open PySem PySem.Spec PyProof.Rows L2
section
variable {c : Cf} {ρ ρ1 ρ2 ρ3 ρ' ρ0 : Rho} {x y z d : D} {a b e : E}
theorem r_an {v : Bool} (ha : ev c a ρ = some (.bool v, ρ1)) (h0 : v = false → d = .bool false ∧ ρ2 = ρ1) (h1 : v = true → ev c b ρ1 = some (d, ρ2)) : ev c (.an a b) ρ = some (d, ρ2) := by
  show (ev c a ρ).bind _ = _
  rw [ha]
  cases v with
  | true => exact h1 rfl
  | false =>
    obtain ⟨rfl, rfl⟩ := h0 rfl
    rfl
theorem r_orr {v : Bool} (ha : ev c a ρ = some (.bool v, ρ1)) (h0 : v = true → d = .bool true ∧ ρ2 = ρ1) (h1 : v = false → ev c b ρ1 = some (d, ρ2)) : ev c (.orr a b) ρ = some (d, ρ2) := by
  show (ev c a ρ).bind _ = _
  rw [ha]
  cases v with
  | false => exact h1 rfl
  | true =>
    obtain ⟨rfl, rfl⟩ := h0 rfl
    rfl
theorem r_an2 {v w : Bool} (ha : ev c a ρ = some (.bool v, ρ)) (h1 : v = true → ev c b ρ = some (.bool w, ρ)) : ev c (.an a b) ρ = some (.bool (v && w), ρ) := by
  refine r_an ha (fun e => by rw [e]; exact ⟨rfl, rfl⟩) fun e => ?_
  rw [e, Bool.true_and]
  exact h1 e
theorem r_orr2 {v w : Bool} (ha : ev c a ρ = some (.bool v, ρ)) (h1 : v = false → ev c b ρ = some (.bool w, ρ)) : ev c (.orr a b) ρ = some (.bool (v || w), ρ) := by
  refine r_orr ha (fun e => by rw [e]; exact ⟨rfl, rfl⟩) fun e => ?_
  rw [e, Bool.false_or]
  exact h1 e
theorem r_ch {o o2 : Cm} {i j k : Int} (ha : ev c a ρ = some (.int i, ρ)) (hb : ev c b ρ = some (.int j, ρ)) (he : ev c e ρ = some (.int k, ρ)) : ev c (.ch o o2 a b e) ρ = some (.bool (cmI o i j && cmI o2 j k), ρ) := by
  show (ev c a ρ).bind _ = _
  rw [ha]
  show (ev c b ρ).bind _ = _
  rw [hb]
  show (if cmI o i j = true then _ else _ : Option (D × Rho)) = _
  cases h : cmI o i j with
  | false => rfl
  | true =>
    rw [if_pos rfl]
    show (ev c e ρ).bind _ = _
    rw [he]
    rfl
theorem r_no {t : T} {v : Bool} (h : evT c t ρ = some (v, ρ1)) : ev c (.no t) ρ = some (.bool (!v), ρ1) := by
  show (evT c t ρ).map _ = _
  rw [h]
  rfl
theorem r_tcat {l m : List D} (ha : ev c a ρ = some (.tuple l, ρ1)) (hb : ev c b ρ1 = some (.tuple m, ρ2)) (h : (l ++ m).length ≤ 16777216) : ev c (.tcat a b) ρ = some (.tuple (l ++ m), ρ2) := by
  show (ev c a ρ).bind _ = _
  rw [ha]
  show (ev c b ρ1).bind _ = _
  rw [hb]
  show (if lenOk (l.length + m.length) = true then some (PyData.tuple (l ++ m)) else none).map _ = _
  rw [List.length_append] at h
  rw [if_pos (lenOkS h)]
  rfl
/-- a comprehension whose parts leave the names as they were -/
theorem comp_filt {elt : E} {tg : Tg} {it : Iv} {cd : Ot} {ws : List Nat} {ds : List D} (hi : evI c it ρ = some (ds, ρ', [])) (p : D → Bool) (f : D → D) (h0 : wipeD ρ' ws = ρ0) (hl : ds.length ≤ 16777216)
    (step : ∀ d ∈ ds, ∃ ρ1 ρ2, tgD tg d ρ0 = some ρ1 ∧ evC c cd ρ1 = some (p d, ρ2) ∧ (p d = false → wipeD ρ2 ws = ρ0) ∧ (p d = true → ∃ ρ3, ev c elt ρ2 = some (f d, ρ3) ∧ wipeD ρ3 ws = ρ0)) :
    ev c (.comp elt tg it cd ws) ρ = some (.list ((ds.filter p).map f), ρ0) := by
  have h : ∃ d ρ', ev c (.comp elt tg it cd ws) ρ = some (d, ρ') ∧ d = .list ((ds.filter p).map f) ∧ ρ' = ρ0 := by
    refine ev_comp hi (fun acc k ρ => acc = ((ds.take k).filter p).map f ∧ ρ = ρ0) ⟨by rw [List.take_zero]; rfl, h0⟩ (fun i hi acc ρ hI => ?_) (Q := fun d ρ' => d = .list ((ds.filter p).map f) ∧ ρ' = ρ0) (fun out ρ hI => ?_)
    · obtain ⟨rfl, rfl⟩ := hI
      obtain ⟨ρ1, ρ2, e1, e2, e3, e4⟩ := step ds[i] (List.getElem_mem hi)
      have et : ds.take (i + 1) = ds.take i ++ [ds[i]] := by
        rw [List.take_add_one, List.getElem?_eq_getElem hi]
        rfl
      refine ⟨ρ1, p ds[i], ρ2, e1, e2, fun z => ⟨?_, e3 z⟩, fun z => ?_⟩
      · rw [et, List.filter_append, List.map_append]
        simp [z]
      · obtain ⟨ρ3, g1, g2⟩ := e4 z
        refine ⟨_, ρ3, g1, ?_, g2⟩
        rw [et, List.filter_append, List.map_append]
        simp [z]
    · obtain ⟨rfl, rfl⟩ := hI
      rw [List.take_length]
      have h9 := List.length_filter_le p ds
      exact ⟨by rw [List.length_map]; omega, _, rfl, rfl, rfl⟩
  obtain ⟨d, ρ2, e, rfl, rfl⟩ := h
  exact e
theorem comp_map {elt : E} {tg : Tg} {it : Iv} {ws : List Nat} {ds : List D} (hi : evI c it ρ = some (ds, ρ', [])) (f : D → D) (h0 : wipeD ρ' ws = ρ0) (hl : ds.length ≤ 16777216)
    (step : ∀ d ∈ ds, ∃ ρ1 ρ3, tgD tg d ρ0 = some ρ1 ∧ ev c elt ρ1 = some (f d, ρ3) ∧ wipeD ρ3 ws = ρ0) :
    ev c (.comp elt tg it .no ws) ρ = some (.list (ds.map f), ρ0) := by
  have := comp_filt (cd := .no) (elt := elt) (tg := tg) hi (fun _ => true) f h0 hl (fun d hd => by
    obtain ⟨ρ1, ρ3, e1, e2, e3⟩ := step d hd
    exact ⟨ρ1, ρ1, e1, rfl, (fun z => nomatch z), fun _ => ⟨ρ3, e2, e3⟩⟩)
  rwa [List.filter_eq_self.mpr (fun _ _ => rfl)] at this
theorem slc_b {l : List D} {i : Int} {o : O} {e : E} (ho : evO c o ρ = some (x, ρ1)) (hi : ev c e ρ1 = some (.int i, ρ2)) (hl : lateD c o x ρ2 = some z) (h : slcD z none (some i) = some d) : ev c (.slc o .no (.so e)) ρ = some (d, ρ2) := by
  show (evO c o ρ).bind _ = _
  rw [ho]
  show ((ev c e ρ1).bind _).bind _ = _
  rw [hi]
  show (lateD c o x ρ2).bind _ = _
  rw [hl]
  show (slcD z none (some i)).map _ = _
  rw [h]
  rfl
theorem slc_a {l : List D} {i : Int} {o : O} {e : E} (ho : evO c o ρ = some (x, ρ1)) (hi : ev c e ρ1 = some (.int i, ρ2)) (hl : lateD c o x ρ2 = some z) (h : slcD z (some i) none = some d) : ev c (.slc o (.so e) .no) ρ = some (d, ρ2) := by
  show (evO c o ρ).bind _ = _
  rw [ho]
  show ((ev c e ρ1).bind _).bind _ = _
  rw [hi]
  show (lateD c o x ρ2).bind _ = _
  rw [hl]
  show (slcD z (some i) none).map _ = _
  rw [h]
  rfl
end
theorem cut_b {l : List D} (k : Nat) : cutD l none (some (k : Int)) = l.take k := by
  unfold cutD
  rw [HT.sIx_none, HT.sIx_nat, List.drop_zero, Nat.sub_zero]
  by_cases h : k ≤ l.length
  · rw [Nat.min_eq_left h]
  · rw [Nat.min_eq_right (by omega), List.take_of_length_le (Nat.le_refl _), List.take_of_length_le (by omega)]
theorem cut_a {l : List D} (k : Nat) : cutD l (some (k : Int)) none = l.drop k := by
  unfold cutD
  rw [HT.sIx_none, HT.sIx_nat]
  by_cases h : k ≤ l.length
  · rw [Nat.min_eq_left h, List.take_of_length_le (by rw [List.length_drop]; omega)]
  · rw [Nat.min_eq_right (by omega), Nat.sub_self, List.take_zero, List.drop_eq_nil_of_le (by omega)]
section
variable {c : Cf} {ρ ρ1 ρ2 : Rho} {d : D}
/-- a call, its def by name -/
theorem r_callf {f : Str} {g : List D → Option (D × List D)} {as : As} {ags : List Ag} {ds ds' : List D} (hc : c.fn f = g) (hf : g ds = some (d, ds')) (ha : evA c as ρ = some (ags, ρ1)) (hd : agsD ρ1 ags = some ds) (hb : ags.any isBo = false) (hk : backD ags ds' ρ1 = some ρ2) : ev c (.call f as) ρ = some (d, ρ2) :=
  ev_call ha hd (by rw [hc]; exact hf) hb hk
end
/-! ### data that == may look at -/
def Sh (k : Nat) (d : D) : Prop := PyData.canLay0 d = true ∧ PyData.depth d ≤ k
theorem sh_int {k : Nat} (i : Int) : Sh k (.int i) := ⟨rfl, Nat.zero_le _⟩
theorem sh_bool {k : Nat} (b : Bool) : Sh k (.bool b) := ⟨rfl, Nat.zero_le _⟩
theorem sh_none {k : Nat} : Sh k .none := ⟨rfl, Nat.zero_le _⟩
theorem sh_str {k : Nat} {x : Str} (h : PyData.canLay0 (.str x) = true) : Sh k (.str x) := ⟨h, Nat.zero_le _⟩
theorem Sh.mono {k m : Nat} {d : D} (h : Sh k d) (l : k ≤ m) : Sh m d := ⟨h.1, Nat.le_trans h.2 l⟩
theorem sh_all {k : Nat} : ∀ {l : List D}, (∀ d ∈ l, Sh k d) → PyData.canLayAll0 l = true ∧ PyData.depthAll l ≤ k
  | [], _ => ⟨rfl, Nat.zero_le _⟩
  | x :: r, h => by
    obtain ⟨h1, h2⟩ := sh_all (l := r) fun d hd => h d (List.mem_cons_of_mem _ hd)
    obtain ⟨g1, g2⟩ := h x List.mem_cons_self
    refine ⟨?_, ?_⟩
    · show (PyData.canLay0 x && PyData.canLayAll0 r) = true
      rw [g1, h1]
      rfl
    · show max (PyData.depth x) (PyData.depthAll r) ≤ k
      omega
theorem sh_list {k : Nat} {l : List D} (h : ∀ d ∈ l, Sh k d) : Sh (k + 1) (.list l) := by
  obtain ⟨h1, h2⟩ := sh_all h
  exact ⟨h1, Nat.succ_le_succ h2⟩
theorem sh_tup {k : Nat} {l : List D} (h : ∀ d ∈ l, Sh k d) : Sh (k + 1) (.tuple l) := by
  obtain ⟨h1, h2⟩ := sh_all h
  exact ⟨h1, Nat.succ_le_succ h2⟩
theorem sh_map {α : Type} {k : Nat} {f : α → D} {l : List α} (h : ∀ x, Sh k (f x)) : ∀ d ∈ l.map f, Sh k d := fun d hd => by
  obtain ⟨x, _, rfl⟩ := List.mem_map.mp hd
  exact h x
theorem sh_nil {k : Nat} : ∀ d ∈ ([] : List D), Sh k d := fun d hd => nomatch hd
theorem sh_cons {k : Nat} {x : D} {l : List D} (h : Sh k x) (t : ∀ d ∈ l, Sh k d) : ∀ d ∈ x :: l, Sh k d := fun d hd => by
  rcases List.mem_cons.mp hd with rfl | hd
  · exact h
  · exact t d hd
theorem Sh.ok {k : Nat} {d : D} (h : Sh k d) (l : k ≤ 64 := by decide) : SeqAt.shaped d = true := by
  unfold SeqAt.shaped
  rw [Bool.and_eq_true]
  exact ⟨h.1, decide_eq_true (Nat.le_trans h.2 l)⟩
end Vw
/-! reckoning by simp: what is asked of the data for a body to end as wished -/
namespace Vw
open PySem PySem.Spec PyProof.Rows L2
def Op {α : Type} (o : Option α) (Q : α → Prop) : Prop := ∃ a, o = some a ∧ Q a
section
variable {α β : Type}
@[simp] theorem Op_some {a : α} {Q : α → Prop} : Op (some a) Q ↔ Q a := ⟨fun ⟨_, e, h⟩ => by cases e; exact h, fun h => ⟨a, rfl, h⟩⟩
@[simp] theorem Op_none {Q : α → Prop} : Op none Q ↔ False := ⟨fun ⟨_, e, _⟩ => (nomatch e), False.elim⟩
@[simp ↓] theorem Op_bind {o : Option α} {f : α → Option β} {Q : β → Prop} : Op (o.bind f) Q ↔ Op o fun a => Op (f a) Q :=
  ⟨fun ⟨_, e, h⟩ => let ⟨a, e1, e2⟩ := bind_inv e; ⟨a, e1, _, e2, h⟩, fun ⟨a, e1, b, e2, h⟩ => ⟨b, by rw [e1]; exact e2, h⟩⟩
@[simp ↓] theorem Op_map {o : Option α} {f : α → β} {Q : β → Prop} : Op (o.map f) Q ↔ Op o fun a => Q (f a) :=
  ⟨fun ⟨_, e, h⟩ => let ⟨a, e1, e2⟩ := map_inv e; ⟨a, e1, by show Q (f a); rw [e2]; exact h⟩, fun ⟨a, e1, h⟩ => ⟨f a, by rw [e1]; rfl, h⟩⟩
@[simp ↓] theorem Op_ite {C : Prop} [Decidable C] {o : Option α} {Q : α → Prop} : Op (if C then o else none) Q ↔ C ∧ Op o Q := by
  by_cases h : C
  · rw [if_pos h]; exact ⟨fun q => ⟨h, q⟩, fun q => q.2⟩
  · rw [if_neg h]; exact ⟨fun q => (Op_none.mp q).elim, fun q => (h q.1).elim⟩
end
def Ev (c : Cf) (e : E) (ρ : Rho) (Q : D → Rho → Prop) : Prop := Op (ev c e ρ) fun r => Q r.1 r.2
def EvT (c : Cf) (t : T) (ρ : Rho) (Q : Bool → Rho → Prop) : Prop := Op (evT c t ρ) fun r => Q r.1 r.2
def EvO (c : Cf) (o : O) (ρ : Rho) (Q : D → Rho → Prop) : Prop := Op (evO c o ρ) fun r => Q r.1 r.2
def EvL (c : Cf) (es : Es) (ρ : Rho) (Q : List D → Rho → Prop) : Prop := Op (evs c es ρ) fun r => Q r.1 r.2
def EvN (c : Cf) (o : Oe) (ρ : Rho) (Q : Option Int → Rho → Prop) : Prop := Op (evOe c o ρ) fun r => Q r.1 r.2
def EvA (c : Cf) (as : As) (ρ : Rho) (Q : List Ag → Rho → Prop) : Prop := Op (evA c as ρ) fun r => Q r.1 r.2
section
variable {c : Cf} {ρ : Rho} {Q : D → Rho → Prop} {QT : Bool → Rho → Prop} {QL : List D → Rho → Prop} {QN : Option Int → Rho → Prop} {QA : List Ag → Rho → Prop}
theorem Ev.mk {e : E} {d : D} {ρ' : Rho} (h : ev c e ρ = some (d, ρ')) (q : Q d ρ') : Ev c e ρ Q := ⟨_, h, q⟩
@[simp ↓] theorem v_v {i : Nat} : Ev c (.v i) ρ Q ↔ Op (Vw.get ρ i) fun d => Q d ρ := Op_map
@[simp ↓] theorem v_mv {i : Nat} : Ev c (.mv i) ρ Q ↔ Op (Vw.get ρ i) fun d => Q d (ρ.set i none) := Op_map
@[simp ↓] theorem v_k {d : D} : Ev c (.k d) ρ Q ↔ Q d ρ := Op_some
@[simp ↓] theorem v_gl {x : Str} {d : D} : Ev c (.gl x d) ρ Q ↔ Q d ρ := Op_some
def negD : D → Option D
  | .int i => some (.int (-i))
  | _ => none
@[simp] theorem negD_int {i : Int} : negD (.int i) = some (.int (-i)) := rfl
@[simp ↓] theorem v_neg {a : E} : Ev c (.neg a) ρ Q ↔ Ev c a ρ fun x ρ1 => Op (negD x) fun d => Q d ρ1 := by
  refine Iff.trans Op_bind ?_
  show Op _ _ ↔ Op _ _
  refine exists_congr fun r => and_congr_right fun _ => ?_
  obtain ⟨d, ρ1⟩ := r
  cases d with
  | int i => exact ⟨fun ⟨_, e, h⟩ => by cases e; exact ⟨_, rfl, h⟩, fun ⟨_, e, h⟩ => by cases e; exact ⟨_, rfl, h⟩⟩
  | _ => exact (Iff.trans Op_none Op_none.symm : Op none _ ↔ Op none _)
@[simp ↓] theorem v_ar {o : Ar} {a b : E} : Ev c (.ar o a b) ρ Q ↔ Ev c a ρ fun x ρ1 => Ev c b ρ1 fun y ρ2 => Op (arD o x y) fun d => Q d ρ2 := by
  refine Iff.trans Op_bind (exists_congr fun r => and_congr_right fun _ => Iff.trans Op_bind (exists_congr fun q => and_congr_right fun _ => Op_map))
@[simp ↓] theorem v_cm {o : Cm} {a b : E} : Ev c (.cm o a b) ρ Q ↔ Ev c a ρ fun x ρ1 => Ev c b ρ1 fun y ρ2 => Op (cmD o x y) fun d => Q (.bool d) ρ2 := by
  refine Iff.trans Op_bind (exists_congr fun r => and_congr_right fun _ => Iff.trans Op_bind (exists_congr fun q => and_congr_right fun _ => Op_map))
@[simp ↓] theorem v_eq {ng : Bool} {a b : E} : Ev c (.eq ng a b) ρ Q ↔ Ev c a ρ fun x ρ1 => Ev c b ρ1 fun y ρ2 => Op (eqD ng x y) fun d => Q d ρ2 := by
  refine Iff.trans Op_bind (exists_congr fun r => and_congr_right fun _ => Iff.trans Op_bind (exists_congr fun q => and_congr_right fun _ => Op_map))
@[simp ↓] theorem v_isn {ng : Bool} {a : E} : Ev c (.isn ng a) ρ Q ↔ Ev c a ρ fun x ρ1 => Q (.bool (isNone x != ng)) ρ1 := Op_map
@[simp ↓] theorem v_no {t : T} : Ev c (.no t) ρ Q ↔ EvT c t ρ fun b ρ1 => Q (.bool (!b)) ρ1 := Op_map
/-- .. when is true, else .. -/
def Br (b : Bool) (p q : Prop) : Prop := if b = true then p else q
@[simp] theorem Br_true {p q : Prop} : Br true p q ↔ p := by unfold Br; rw [if_pos rfl]
@[simp] theorem Br_false {p q : Prop} : Br false p q ↔ q := by unfold Br; rw [if_neg (by decide)]
theorem Br_iff {b : Bool} {p q : Prop} : Br b p q ↔ (b = true → p) ∧ (b = false → q) := by cases b <;> simp
theorem Br_dec {P : Prop} [Decidable P] {p q : Prop} : Br (decide P) p q ↔ (P → p) ∧ (¬ P → q) := by
  by_cases h : P
  · rw [decide_eq_true h]; simp [h]
  · rw [decide_eq_false h]; simp [h]
theorem Br_not {b : Bool} {p q : Prop} : Br (!b) p q ↔ Br b q p := by cases b <;> simp
def bD : D → Option Bool
  | .bool b => some b
  | _ => none
@[simp] theorem bD_bool {b : Bool} : bD (.bool b) = some b := rfl
@[simp ↓] theorem v_an {a b : E} : Ev c (.an a b) ρ Q ↔ Ev c a ρ fun x ρ1 => Op (bD x) fun t => Br t (Ev c b ρ1 Q) (Q (.bool false) ρ1) := by
  refine Iff.trans Op_bind (exists_congr fun r => and_congr_right fun _ => ?_)
  obtain ⟨d, ρ1⟩ := r
  cases d with
  | bool t => cases t <;> simp [bD, Ev]
  | _ => exact Iff.trans Op_none Op_none.symm
@[simp ↓] theorem v_orr {a b : E} : Ev c (.orr a b) ρ Q ↔ Ev c a ρ fun x ρ1 => Op (bD x) fun t => Br t (Q (.bool true) ρ1) (Ev c b ρ1 Q) := by
  refine Iff.trans Op_bind (exists_congr fun r => and_congr_right fun _ => ?_)
  obtain ⟨d, ρ1⟩ := r
  cases d with
  | bool t => cases t <;> simp [bD, Ev]
  | _ => exact Iff.trans Op_none Op_none.symm
@[simp ↓] theorem v_ife {t : T} {a b : E} : Ev c (.ife t a b) ρ Q ↔ EvT c t ρ fun z ρ1 => Br z (Ev c a ρ1 Q) (Ev c b ρ1 Q) := by
  refine Iff.trans Op_bind (exists_congr fun r => and_congr_right fun _ => ?_)
  obtain ⟨z, ρ1⟩ := r
  cases z <;> simp [Ev]
@[simp ↓] theorem v_tup {es : Es} : Ev c (.tup es) ρ Q ↔ EvL c es ρ fun l ρ1 => lenOk l.length = true ∧ Q (.tuple l) ρ1 := by
  refine Iff.trans Op_bind (exists_congr fun r => and_congr_right fun _ => ?_)
  exact Iff.trans Op_ite (and_congr_right fun _ => Op_some)
@[simp ↓] theorem v_lst {es : Es} : Ev c (.lst es) ρ Q ↔ EvL c es ρ fun l ρ1 => lenOk l.length = true ∧ Q (.list l) ρ1 := by
  refine Iff.trans Op_bind (exists_congr fun r => and_congr_right fun _ => ?_)
  exact Iff.trans Op_ite (and_congr_right fun _ => Op_some)
@[simp ↓] theorem vl_nil : EvL c .nil ρ QL ↔ QL [] ρ := Op_some
@[simp ↓] theorem vl_cons {e : E} {es : Es} : EvL c (.cons e es) ρ QL ↔ Ev c e ρ fun d ρ1 => EvL c es ρ1 fun l ρ2 => QL (d :: l) ρ2 := by
  refine Iff.trans Op_bind (exists_congr fun r => and_congr_right fun _ => Op_map)
@[simp ↓] theorem vo_e {a : E} : EvO c (.e a) ρ Q ↔ Ev c a ρ Q := Iff.rfl
@[simp ↓] theorem vo_s {i : Nat} : EvO c (.s i) ρ Q ↔ Op (Vw.get ρ i) fun d => Q d ρ := Op_map
@[simp] theorem late_e {a : E} {d : D} : lateD c (.e a) d ρ = some d := rfl
@[simp] theorem late_s {i : Nat} {d : D} : lateD c (.s i) d ρ = Vw.get ρ i := rfl
@[simp ↓] theorem v_tcat {a b : E} : Ev c (.tcat a b) ρ Q ↔ Ev c a ρ fun x ρ1 => Ev c b ρ1 fun y ρ2 => Op (tcatD x y) fun d => Q d ρ2 := by
  refine Iff.trans Op_bind (exists_congr fun r => and_congr_right fun _ => Iff.trans Op_bind (exists_congr fun q => and_congr_right fun _ => Op_map))
@[simp ↓] theorem v_trep {a b : E} : Ev c (.trep a b) ρ Q ↔ Ev c a ρ fun x ρ1 => Ev c b ρ1 fun y ρ2 => Op (trepD x y) fun d => Q d ρ2 := by
  refine Iff.trans Op_bind (exists_congr fun r => and_congr_right fun _ => Iff.trans Op_bind (exists_congr fun q => and_congr_right fun _ => Op_map))
@[simp ↓] theorem v_lcat {a b : O} : Ev c (.lcat a b) ρ Q ↔ EvO c a ρ fun x ρ1 => EvO c b ρ1 fun y ρ2 => Op (lateD c a x ρ2) fun z => Op (lcatD z y) fun d => Q d ρ2 := by
  refine Iff.trans Op_bind (exists_congr fun r => and_congr_right fun _ => Iff.trans Op_bind (exists_congr fun q => and_congr_right fun _ => Iff.trans Op_bind (exists_congr fun z => and_congr_right fun _ => Op_map)))
@[simp ↓] theorem v_lrep {a : O} {b : E} : Ev c (.lrep a b) ρ Q ↔ EvO c a ρ fun x ρ1 => Ev c b ρ1 fun y ρ2 => Op (lateD c a x ρ2) fun z => Op (lrepD z y) fun d => Q d ρ2 := by
  refine Iff.trans Op_bind (exists_congr fun r => and_congr_right fun _ => Iff.trans Op_bind (exists_congr fun q => and_congr_right fun _ => Iff.trans Op_bind (exists_congr fun z => and_congr_right fun _ => Op_map)))
@[simp ↓] theorem v_ix {a : O} {b : E} : Ev c (.ix a b) ρ Q ↔ EvO c a ρ fun x ρ1 => Ev c b ρ1 fun y ρ2 => Op (lateD c a x ρ2) fun z => Op (ixD z y) fun d => Q d ρ2 := by
  refine Iff.trans Op_bind (exists_congr fun r => and_congr_right fun _ => Iff.trans Op_bind (exists_congr fun q => and_congr_right fun _ => Iff.trans Op_bind (exists_congr fun z => and_congr_right fun _ => Op_map)))
@[simp ↓] theorem v_ix2 {i : Nat} {a b : E} : Ev c (.ix2 i a b) ρ Q ↔ Op (Vw.get ρ i) fun _ => Ev c a ρ fun x ρ1 => Ev c b ρ1 fun y ρ2 => Op (Vw.get ρ2 i) fun z => Op (ixD z x) fun w => Op (ixD w y) fun d => Q d ρ2 := by
  refine Iff.trans Op_bind (exists_congr fun _ => and_congr_right fun _ => Iff.trans Op_bind (exists_congr fun r => and_congr_right fun _ => Iff.trans Op_bind (exists_congr fun q => and_congr_right fun _ => Iff.trans Op_bind (exists_congr fun z => and_congr_right fun _ => Iff.trans Op_bind (exists_congr fun w => and_congr_right fun _ => Op_map)))))
@[simp ↓] theorem v_slc {a : O} {lo hi : Oe} : Ev c (.slc a lo hi) ρ Q ↔ EvO c a ρ fun x ρ1 => EvN c lo ρ1 fun l ρ2 => EvN c hi ρ2 fun h ρ3 => Op (lateD c a x ρ3) fun z => Op (slcD z l h) fun d => Q d ρ3 := by
  refine Iff.trans Op_bind (exists_congr fun r => and_congr_right fun _ => Iff.trans Op_bind (exists_congr fun q => and_congr_right fun _ => Iff.trans Op_bind (exists_congr fun p => and_congr_right fun _ => Iff.trans Op_bind (exists_congr fun z => and_congr_right fun _ => Op_map))))
def slclD : D → Option Int → Option Int → Option D
  | .list l, lo, hi => some (.list (cutD l lo hi))
  | _, _, _ => none
@[simp] theorem slclD_l {l : List D} {lo hi : Option Int} : slclD (.list l) lo hi = some (.list (cutD l lo hi)) := rfl
@[simp ↓] theorem v_slcl {a : O} {lo hi : Oe} : Ev c (.slcl a lo hi) ρ Q ↔ EvO c a ρ fun x ρ1 => EvN c lo ρ1 fun l ρ2 => EvN c hi ρ2 fun h ρ3 => Op (lateD c a x ρ3) fun z => Op (slclD z l h) fun d => Q d ρ3 := by
  refine Iff.trans Op_bind (exists_congr fun r => and_congr_right fun _ => Iff.trans Op_bind (exists_congr fun q => and_congr_right fun _ => Iff.trans Op_bind (exists_congr fun p => and_congr_right fun _ => Iff.trans Op_bind (exists_congr fun z => and_congr_right fun _ => Iff.trans Op_map ?_))))
  cases z <;> exact Iff.rfl
@[simp ↓] theorem vn_no : EvN c .no ρ QN ↔ QN none ρ := Op_some
def iD : D → Option Int
  | .int i => some i
  | _ => none
@[simp] theorem iD_int {i : Int} : iD (.int i) = some i := rfl
@[simp ↓] theorem vn_so {e : E} : EvN c (.so e) ρ QN ↔ Ev c e ρ fun d ρ1 => Op (iD d) fun i => QN (some i) ρ1 := by
  refine Iff.trans Op_bind (exists_congr fun r => and_congr_right fun _ => ?_)
  obtain ⟨d, ρ1⟩ := r
  cases d with
  | int i => exact ⟨fun ⟨_, e, h⟩ => by cases e; exact ⟨_, rfl, h⟩, fun ⟨_, e, h⟩ => by cases e; exact ⟨_, rfl, h⟩⟩
  | _ => exact (Iff.trans Op_none Op_none.symm : Op none _ ↔ Op none _)
@[simp ↓] theorem v_b1 {f : B1} {a : O} : Ev c (.b1 f a) ρ Q ↔ EvO c a ρ fun x ρ1 => Op (b1D f x) fun d => Q d ρ1 := by
  refine Iff.trans Op_bind (exists_congr fun r => and_congr_right fun _ => Op_map)
@[simp ↓] theorem v_b2 {f : B2} {a b : E} : Ev c (.b2 f a b) ρ Q ↔ Ev c a ρ fun x ρ1 => Ev c b ρ1 fun y ρ2 => Op (b2D f x y) fun d => Q d ρ2 := by
  refine Iff.trans Op_bind (exists_congr fun r => and_congr_right fun _ => Iff.trans Op_bind (exists_congr fun q => and_congr_right fun _ => Op_map))
@[simp ↓] theorem v_inn {ng : Bool} {a : E} {o : O} : Ev c (.inn ng a o) ρ Q ↔ Ev c a ρ fun x ρ1 => EvO c o ρ1 fun y ρ2 => Op (innD ng x y) fun d => Q d ρ2 := by
  refine Iff.trans Op_bind (exists_congr fun r => and_congr_right fun _ => Iff.trans Op_bind (exists_congr fun q => and_congr_right fun _ => Op_map))
@[simp ↓] theorem v_ind {ng : Bool} {a b : E} : Ev c (.ind ng a b) ρ Q ↔ Ev c a ρ fun x ρ1 => Ev c b ρ1 fun y ρ2 => Op (indD ng x y) fun d => Q d ρ2 := by
  refine Iff.trans Op_bind (exists_congr fun r => and_congr_right fun _ => Iff.trans Op_bind (exists_congr fun q => and_congr_right fun _ => Op_map))
@[simp ↓] theorem v_isi {k : Ik} {o : O} : Ev c (.isi k o) ρ Q ↔ EvO c o ρ fun x ρ1 => Op (isiD k x) fun b => Q (.bool b) ρ1 := by
  refine Iff.trans Op_bind (exists_congr fun r => and_congr_right fun _ => Op_map)
@[simp ↓] theorem v_isb {ng v : Bool} {a : E} : Ev c (.isb ng v a) ρ Q ↔ Ev c a ρ fun x ρ1 => Op (bD x) fun b => Q (.bool (decide (b = v) != ng)) ρ1 := by
  refine Iff.trans Op_bind (exists_congr fun r => and_congr_right fun _ => ?_)
  obtain ⟨d, ρ1⟩ := r
  cases d with
  | bool b => exact ⟨fun ⟨_, e, h⟩ => by cases e; exact ⟨_, rfl, h⟩, fun ⟨_, e, h⟩ => by cases e; exact ⟨_, rfl, h⟩⟩
  | _ => exact (Iff.trans Op_none Op_none.symm : Op none _ ↔ Op none _)
@[simp ↓] theorem v_ch {o o2 : Cm} {a b e : E} : Ev c (.ch o o2 a b e) ρ Q ↔ Ev c a ρ fun x ρ1 => Ev c b ρ1 fun y ρ2 => Op (cmD o x y) fun t => Br t (Ev c e ρ2 fun z ρ3 => Op (cmD o2 y z) fun d => Q (.bool d) ρ3) (Q (.bool false) ρ2) := by
  refine Iff.trans Op_bind (exists_congr fun r => and_congr_right fun _ => Iff.trans Op_bind (exists_congr fun q => and_congr_right fun _ => Iff.trans Op_bind (exists_congr fun t => and_congr_right fun _ => ?_)))
  cases t with
  | true => exact Iff.trans (Iff.trans Op_bind (exists_congr fun p => and_congr_right fun _ => Op_map)) Br_true.symm
  | false => exact Iff.trans Op_some Br_false.symm
@[simp ↓] theorem v_call {f : Str} {as : As} : Ev c (.call f as) ρ Q ↔ EvA c as ρ fun ags ρ1 => Op (agsD ρ1 ags) fun ds => Op (c.fn f ds) fun r => Op (if ags.any isBo = true then (if scalar r.1 = true then some (r.1, ρ1) else none) else (backD ags r.2 ρ1).map fun ρ' => (r.1, ρ')) fun q => Q q.1 q.2 := by
  refine Iff.trans Op_bind (exists_congr fun r => and_congr_right fun _ => Iff.trans Op_bind (exists_congr fun q => and_congr_right fun _ => Op_bind))
@[simp ↓] theorem va_nil : EvA c .nil ρ QA ↔ QA [] ρ := Op_some
@[simp ↓] theorem va_fr {e : E} {as : As} : EvA c (.fr e as) ρ QA ↔ Ev c e ρ fun d ρ1 => EvA c as ρ1 fun l ρ2 => QA (.d d :: l) ρ2 := by
  refine Iff.trans Op_bind (exists_congr fun r => and_congr_right fun _ => Op_map)
@[simp ↓] theorem va_io {i : Nat} {as : As} : EvA c (.io i as) ρ QA ↔ Op (Vw.get ρ i) fun _ => EvA c as ρ fun l ρ2 => QA (.io i :: l) ρ2 := by
  refine Iff.trans Op_bind (exists_congr fun r => and_congr_right fun _ => Op_map)
@[simp ↓] theorem va_bo {i : Nat} {as : As} : EvA c (.bo i as) ρ QA ↔ Op (Vw.get ρ i) fun _ => EvA c as ρ fun l ρ2 => QA (.bo i :: l) ρ2 := by
  refine Iff.trans Op_bind (exists_congr fun r => and_congr_right fun _ => Op_map)
/-! tests -/
@[simp ↓] theorem vt_e {a : E} : EvT c (.e a) ρ QT ↔ Ev c a ρ fun d ρ1 => Op (truD d) fun b => QT b ρ1 := by
  refine Iff.trans Op_bind (exists_congr fun r => and_congr_right fun _ => Op_map)
@[simp ↓] theorem vt_sl {i : Nat} : EvT c (.sl i) ρ QT ↔ Op (Vw.get ρ i) fun d => Op (truD d) fun b => QT b ρ := by
  refine Iff.trans Op_bind (exists_congr fun r => and_congr_right fun _ => Op_map)
@[simp ↓] theorem vt_no {t : T} : EvT c (.no t) ρ QT ↔ EvT c t ρ fun b ρ1 => QT (!b) ρ1 := Op_map
@[simp ↓] theorem vt_an {t u : T} : EvT c (.an t u) ρ QT ↔ EvT c t ρ fun b ρ1 => Br b (EvT c u ρ1 QT) (QT false ρ1) := by
  refine Iff.trans Op_bind (exists_congr fun r => and_congr_right fun _ => ?_)
  obtain ⟨z, ρ1⟩ := r
  cases z <;> simp [EvT]
@[simp ↓] theorem vt_orr {t u : T} : EvT c (.orr t u) ρ QT ↔ EvT c t ρ fun b ρ1 => Br b (QT true ρ1) (EvT c u ρ1 QT) := by
  refine Iff.trans Op_bind (exists_congr fun r => and_congr_right fun _ => ?_)
  obtain ⟨z, ρ1⟩ := r
  cases z <;> simp [EvT]
/-! statements -/
variable {K : Po} {ss : Ss}
@[simp ↓] theorem q_nil : Wp c .nil ρ K ↔ K.N ρ := ⟨fun ⟨_, e, h⟩ => by cases e; exact h, wp_nil⟩
@[simp ↓] theorem q_cons {s : S} : Wp c (.cons s ss) ρ K ↔ WpS c s ρ { K with N := fun ρ' => Wp c ss ρ' K } := by
  refine ⟨fun ⟨r, e, h⟩ => ?_, wp_cons⟩
  obtain ⟨r1, e1, e2⟩ := bind_inv (show (exS c s ρ).bind _ = _ from e)
  cases r1 with
  | nx ρ1 => exact ⟨_, e1, r, e2, h⟩
  | _ => cases e2; exact ⟨_, e1, h⟩
@[simp ↓] theorem q_fz {i : Nat} : Wp c (.fz i ss) ρ K ↔ Wp c ss ρ ⟨fun ρ => K.N (ρ.set i none), fun d ρ => K.R d (ρ.set i none), fun ρ => K.B (ρ.set i none), fun ρ => K.C (ρ.set i none), fun x fs ρ => K.X x fs (ρ.set i none)⟩ := by
  refine ⟨fun ⟨r, e, h⟩ => ?_, wp_fz⟩
  obtain ⟨r1, e1, rfl⟩ := map_inv (show (exSs c ss ρ).map _ = _ from e)
  cases r1 <;> exact ⟨_, e1, h⟩
@[simp ↓] theorem q_reb {i : Nat} {t : Ty} {e : E} : Wp c (.reb i t e ss) ρ K ↔ Ev c e ρ fun d ρ1 => Wp c ss (put ρ1 i d) ⟨fun ρ => K.N (ρ.set i none), fun d ρ => K.R d (ρ.set i none), fun ρ => K.B (ρ.set i none), fun ρ => K.C (ρ.set i none), fun x fs ρ => K.X x fs (ρ.set i none)⟩ := by
  refine ⟨fun ⟨r, e, h⟩ => ?_, fun ⟨⟨d, ρ1⟩, e, h⟩ => wp_reb e h⟩
  obtain ⟨r1, e1, e2⟩ := bind_inv (show (ev c _ ρ).bind _ = _ from e)
  obtain ⟨r2, e3, rfl⟩ := map_inv e2
  refine ⟨r1, e1, r2, e3, ?_⟩
  cases r2 <;> exact h
@[simp ↓] theorem q_set {i : Nat} {e : E} : WpS c (.set i e) ρ K ↔ Ev c e ρ fun d ρ1 => K.N (put ρ1 i d) := by
  refine ⟨fun ⟨r, e, h⟩ => ?_, fun ⟨⟨d, ρ1⟩, e, h⟩ => w_set e h⟩
  obtain ⟨r1, e1, rfl⟩ := map_inv (show (ev c _ ρ).map _ = _ from e)
  exact ⟨r1, e1, h⟩
@[simp ↓] theorem q_unp {tg : Tg} {e : E} : WpS c (.unp tg e) ρ K ↔ Ev c e ρ fun d ρ1 => Op (tgD tg d ρ1) fun ρ2 => K.N ρ2 := by
  refine ⟨fun ⟨r, e, h⟩ => ?_, fun ⟨⟨d, ρ1⟩, e, ρ2, e2, h⟩ => w_unp e e2 h⟩
  obtain ⟨r1, e1, e2⟩ := bind_inv (show (ev c _ ρ).bind _ = _ from e)
  obtain ⟨r2, e3, rfl⟩ := map_inv e2
  exact ⟨r1, e1, r2, e3, h⟩
@[simp ↓] theorem q_par {i j : Nat} {a b : E} : WpS c (.par i j a b) ρ K ↔ Ev c a ρ fun d ρ1 => Ev c b ρ1 fun x ρ2 => K.N (put (put ρ2 i d) j x) := by
  refine ⟨fun ⟨r, e, h⟩ => ?_, fun ⟨⟨d, ρ1⟩, e, ⟨x, ρ2⟩, e2, h⟩ => w_par e e2 h⟩
  obtain ⟨r1, e1, e2⟩ := bind_inv (show (ev c _ ρ).bind _ = _ from e)
  obtain ⟨r2, e3, rfl⟩ := map_inv e2
  exact ⟨r1, e1, r2, e3, h⟩
@[simp ↓] theorem q_aug {i : Nat} {o : Ar} {e : E} : WpS c (.aug i o e) ρ K ↔ Op (Vw.get ρ i) fun y => Ev c e ρ fun d ρ1 => Op (arD o y d) fun z => K.N (put ρ1 i z) := by
  refine ⟨fun ⟨r, e, h⟩ => ?_, fun ⟨y, e0, ⟨d, ρ1⟩, e, z, e2, h⟩ => w_aug e0 e e2 h⟩
  obtain ⟨y, e0, e⟩ := bind_inv (show (Vw.get ρ i).bind _ = _ from e)
  obtain ⟨r1, e1, e2⟩ := bind_inv e
  obtain ⟨r2, e3, rfl⟩ := map_inv e2
  exact ⟨y, e0, r1, e1, r2, e3, h⟩
def lD : D → Option (List D)
  | .list l => some l
  | _ => none
@[simp] theorem lD_l {l : List D} : lD (.list l) = some l := rfl
@[simp ↓] theorem q_app {i : Nat} {e : E} : WpS c (.app i e) ρ K ↔ Op (Vw.get ρ i) fun y => Op (lD y) fun _ => Ev c e ρ fun d ρ1 => Op (Vw.get ρ1 i) fun x => Op (lD x) fun l => l.length < 16777216 ∧ K.N (put ρ1 i (.list (l ++ [d]))) := by
  constructor
  · rintro ⟨r, e, h⟩
    obtain ⟨y, e0, e⟩ := bind_inv (show (Vw.get ρ i).bind _ = _ from e)
    cases y with
    | list l0 =>
      obtain ⟨r1, e1, e⟩ := bind_inv e
      obtain ⟨x, e2, e⟩ := bind_inv e
      cases x with
      | list l =>
        have e : (if l.length < sizeLine then some (Rs.nx (put r1.2 i (.list (l ++ [r1.1])))) else none) = some r := e
        split at e
        · rename_i cc
          cases e
          exact ⟨_, e0, _, rfl, r1, e1, _, e2, _, rfl, cc, h⟩
        · cases e
      | _ => cases e
    | _ => cases e
  · rintro ⟨y, e0, l0, e1, ⟨d, ρ1⟩, e2, x, e3, l, e4, hl, h⟩
    cases y <;> cases e1
    cases x <;> cases e4
    exact w_app e0 e2 e3 hl h
@[simp ↓] theorem q_sti {i : Nat} {a e : E} : WpS c (.sti i a e) ρ K ↔ Ev c e ρ fun d ρ1 => Op (Vw.get ρ1 i) fun _ => Ev c a ρ1 fun q ρ2 => Op (Vw.get ρ2 i) fun x => Op (lD x) fun l => Op (iD q) fun j => Op (ixN l.length j) fun k => K.N (put ρ2 i (.list (l.set k d))) := by
  constructor
  · rintro ⟨r, e, h⟩
    obtain ⟨r1, e1, e⟩ := bind_inv (show (ev c _ ρ).bind _ = _ from e)
    obtain ⟨y, e2, e⟩ := bind_inv e
    obtain ⟨r2, e3, e⟩ := bind_inv e
    obtain ⟨x, e4, e⟩ := bind_inv e
    obtain ⟨d2, ρ2⟩ := r2
    cases x with
    | list l =>
      cases d2 with
      | int j =>
        obtain ⟨k, e5, rfl⟩ := map_inv e
        exact ⟨r1, e1, y, e2, (.int j, ρ2), e3, _, e4, _, rfl, _, rfl, k, e5, h⟩
      | _ => cases e
    | _ => cases e
  · rintro ⟨⟨d, ρ1⟩, e1, y, e2, ⟨q, ρ2⟩, e3, x, e4, l, e5, j, e6, k, e7, h⟩
    cases x <;> cases e5
    cases q <;> cases e6
    exact w_sti e1 e2 e3 e4 e7 h
@[simp ↓] theorem q_ins2 {i : Nat} {a e : E} : WpS c (.ins2 i a e) ρ K ↔ Op (Vw.get ρ i) fun y => Op (lD y) fun _ => Ev c a ρ fun q ρ1 => Ev c e ρ1 fun d ρ2 => Op (Vw.get ρ2 i) fun x => Op (lD x) fun l => Op (iD q) fun j => (l.length < 16777216 ∧ 0 ≤ j ∧ j < 2 ^ 63) ∧ K.N (put ρ2 i (.list (l.take j.toNat ++ [d] ++ l.drop j.toNat))) := by
  constructor
  · rintro ⟨r, e, h⟩
    obtain ⟨y, e0, e⟩ := bind_inv (show (Vw.get ρ i).bind _ = _ from e)
    cases y with
    | list l0 =>
      obtain ⟨r1, e1, e⟩ := bind_inv e
      obtain ⟨r2, e2, e⟩ := bind_inv e
      obtain ⟨x, e3, e⟩ := bind_inv e
      obtain ⟨d1, ρ1⟩ := r1
      cases x with
      | list l =>
        cases d1 with
        | int j =>
          have e : (if l.length < sizeLine ∧ 0 ≤ j ∧ j < 2 ^ 63 then some (Rs.nx (put r2.2 i (.list (l.take j.toNat ++ [r2.1] ++ l.drop j.toNat)))) else none) = some r := e
          split at e
          · rename_i cc
            cases e
            exact ⟨_, e0, _, rfl, _, e1, r2, e2, _, e3, _, rfl, _, rfl, cc, h⟩
          · cases e
        | _ => cases e
      | _ => cases e
    | _ => cases e
  · rintro ⟨y, e0, l0, e1, ⟨q, ρ1⟩, e2, ⟨d, ρ2⟩, e3, x, e4, l, e5, j, e6, cc, h⟩
    cases y <;> cases e1
    cases x <;> cases e5
    cases q <;> cases e6
    refine ⟨.nx _, ?_, h⟩
    show (Vw.get ρ i).bind _ = _
    rw [e0]
    show (ev c a ρ).bind _ = _
    rw [e2]
    show (ev c e ρ1).bind _ = _
    rw [e3]
    show (Vw.get ρ2 i).bind _ = _
    rw [e4]
    exact if_pos cc
@[simp ↓] theorem q_ex {e : E} : WpS c (.ex e) ρ K ↔ Ev c e ρ fun _ ρ1 => K.N ρ1 := by
  refine ⟨fun ⟨r, e, h⟩ => ?_, fun ⟨⟨d, ρ1⟩, e, h⟩ => w_ex e h⟩
  obtain ⟨r1, e1, rfl⟩ := map_inv (show (ev c _ ρ).map _ = _ from e)
  exact ⟨r1, e1, h⟩
@[simp ↓] theorem q_ret {e : E} : WpS c (.ret e) ρ K ↔ Ev c e ρ fun d ρ1 => K.R d ρ1 := by
  refine ⟨fun ⟨r, e, h⟩ => ?_, fun ⟨⟨d, ρ1⟩, e, h⟩ => w_ret e h⟩
  obtain ⟨r1, e1, rfl⟩ := map_inv (show (ev c _ ρ).map _ = _ from e)
  exact ⟨r1, e1, h⟩
@[simp ↓] theorem q_retn : WpS c .retn ρ K ↔ K.R .none ρ := ⟨fun ⟨_, e, h⟩ => by cases e; exact h, w_retn⟩
@[simp ↓] theorem q_brk : WpS c .brk ρ K ↔ K.B ρ := ⟨fun ⟨_, e, h⟩ => by cases e; exact h, w_brk⟩
@[simp ↓] theorem q_cnt : WpS c .cnt ρ K ↔ K.C ρ := ⟨fun ⟨_, e, h⟩ => by cases e; exact h, w_cnt⟩
@[simp ↓] theorem q_pas : WpS c .pas ρ K ↔ K.N ρ := ⟨fun ⟨_, e, h⟩ => by cases e; exact h, w_pas⟩
@[simp ↓] theorem q_ife {t : T} {a b : Ss} : WpS c (.ife t a b) ρ K ↔ EvT c t ρ fun z ρ1 => Br z (Wp c a ρ1 K) (Wp c b ρ1 K) := by
  constructor
  · rintro ⟨r, e, h⟩
    obtain ⟨⟨z, ρ1⟩, e1, e⟩ := bind_inv (show (evT c t ρ).bind _ = _ from e)
    refine ⟨(z, ρ1), e1, ?_⟩
    cases z with
    | true => exact Br_true.mpr ⟨r, e, h⟩
    | false => exact Br_false.mpr ⟨r, e, h⟩
  · rintro ⟨⟨z, ρ1⟩, e1, h⟩
    refine w_ife e1 (fun hz => ?_) fun hz => ?_
    · rw [show z = true from hz] at h; exact Br_true.mp h
    · rw [show z = false from hz] at h; exact Br_false.mp h
end
/-! the data's operations -/
section
variable {i j : Int} {l m : List D} {b t : Bool}
@[simp] theorem ar_add : arD .add (.int i) (.int j) = some (.int (i + j)) := rfl
@[simp] theorem ar_sub : arD .sub (.int i) (.int j) = some (.int (i - j)) := rfl
@[simp] theorem ar_mul' : arD .mul (.int i) (.int j) = if (-(2 ^ 64) < i ∧ i < 2 ^ 64) ∨ (-(2 ^ 64) < j ∧ j < 2 ^ 64) then some (.int (i * j)) else none := rfl
@[simp] theorem ar_fdiv' : arD .fdiv (.int i) (.int j) = if 0 < j ∧ j < 1073741824 then some (.int (i / j)) else none := rfl
@[simp] theorem ar_mod' : arD .mod (.int i) (.int j) = if 0 < j then some (.int (i % j)) else none := rfl
@[simp] theorem ar_shl' : arD .shl (.int i) (.int j) = if 0 ≤ j ∧ j ≤ 1000000 ∧ i.natAbs < 2 ^ 64 then some (.int (i * 2 ^ j.toNat)) else none := rfl
@[simp] theorem ar_shr' : arD .shr (.int i) (.int j) = if 0 ≤ j then some (.int (i / 2 ^ j.toNat)) else none := rfl
@[simp] theorem ar_band' : arD .band (.int i) (.int j) = some (.int (PySem.Builtin.bitAnd i j)) := rfl
@[simp] theorem cm_lt : cmD .lt (.int i) (.int j) = some (decide (i < j)) := rfl
@[simp] theorem cm_le : cmD .le (.int i) (.int j) = some (decide (i ≤ j)) := rfl
@[simp] theorem cm_gt : cmD .gt (.int i) (.int j) = some (decide (j < i)) := rfl
@[simp] theorem cm_ge : cmD .ge (.int i) (.int j) = some (decide (j ≤ i)) := rfl
@[simp] theorem cm_eq : cmD .eq (.int i) (.int j) = some (decide (i = j)) := rfl
@[simp] theorem cm_ne : cmD .ne (.int i) (.int j) = some (!decide (i = j)) := rfl
@[simp] theorem eq_ii : eqD false (.int i) (.int j) = some (.bool (decide (i = j))) := by
  unfold eqD
  rw [if_pos ⟨rfl, rfl⟩]
  congr 2
  show ((i == j) != false) = _
  rw [bneF]
  rfl
@[simp] theorem ne_ii : eqD true (.int i) (.int j) = some (.bool (!decide (i = j))) := by
  unfold eqD
  rw [if_pos ⟨rfl, rfl⟩]
  congr 2
  show ((i == j) != true) = _
  rw [bneT]
  rfl
@[simp] theorem tru_b : truD (.bool b) = some b := rfl
@[simp] theorem tru_i : truD (.int i) = some (i != 0) := rfl
@[simp] theorem tru_l : truD (.list l) = some (!l.isEmpty) := rfl
@[simp] theorem tru_t : truD (.tuple l) = some (!l.isEmpty) := rfl
@[simp] theorem tru_n : truD .none = some false := rfl
@[simp] theorem len_l : b1D .len (.list l) = some (.int l.length) := rfl
@[simp] theorem len_t : b1D .len (.tuple l) = some (.int l.length) := rfl
@[simp] theorem tup_l : b1D .tup (.list l) = some (.tuple l) := rfl
@[simp] theorem tup_t : b1D .tup (.tuple l) = some (.tuple l) := rfl
@[simp] theorem lst_l : b1D .lst (.list l) = some (.list l) := rfl
@[simp] theorem lst_t : b1D .lst (.tuple l) = some (.list l) := rfl
@[simp] theorem int_i : b1D .int (.int i) = some (.int i) := rfl
@[simp] theorem int_b : b1D .int (.bool b) = some (.int (if b then 1 else 0)) := rfl
@[simp] theorem abs_i : b1D .abs (.int i) = some (.int (if i < 0 then -i else i)) := rfl
@[simp] theorem mn_ii : b2D .mn (.int i) (.int j) = some (.int (if j < i then j else i)) := rfl
@[simp] theorem mx_ii : b2D .mx (.int i) (.int j) = some (.int (if j > i then j else i)) := rfl
@[simp] theorem slc_l {lo hi : Option Int} : slcD (.list l) lo hi = some (.list (cutD l lo hi)) := rfl
@[simp] theorem slc_t {lo hi : Option Int} : slcD (.tuple l) lo hi = some (.tuple (cutD l lo hi)) := rfl
@[simp] theorem ix_l {d : D} : ixD (.list l) d = ixL l d := rfl
@[simp] theorem ix_t {d : D} : ixD (.tuple l) d = ixL l d := rfl
@[simp] theorem lenOkI {n : Nat} : (lenOk n = true) ↔ n ≤ 16777216 := decide_eq_true_iff
@[simp] theorem lcat_ll : lcatD (.list l) (.list m) = if lenOk (l.length + m.length) = true then some (.list (l ++ m)) else none := rfl
@[simp] theorem tcat_tt : tcatD (.tuple l) (.tuple m) = if lenOk (l.length + m.length) = true then some (.tuple (l ++ m)) else none := rfl
@[simp] theorem agD_d {ρ : Rho} {d : D} : agD ρ (.d d) = some d := rfl
@[simp] theorem agD_io {ρ : Rho} {k : Nat} : agD ρ (.io k) = Vw.get ρ k := rfl
@[simp] theorem agD_bo {ρ : Rho} {k : Nat} : agD ρ (.bo k) = Vw.get ρ k := rfl
@[simp] theorem agsD_nil {ρ : Rho} : agsD ρ [] = some [] := rfl
@[simp] theorem agsD_cons {ρ : Rho} {a : Ag} {r : List Ag} : agsD ρ (a :: r) = (agD ρ a).bind fun d => (agsD ρ r).map (d :: ·) := rfl
@[simp] theorem isBo_d {d : D} : isBo (.d d) = false := rfl
@[simp] theorem isBo_io {k : Nat} : isBo (.io k) = false := rfl
@[simp] theorem isBo_bo {k : Nat} : isBo (.bo k) = true := rfl
@[simp] theorem back_nil {ρ : Rho} : backD [] [] ρ = some ρ := rfl
@[simp] theorem back_d {ρ : Rho} {d x : D} {r : List Ag} {ds : List D} : backD (.d d :: r) (x :: ds) ρ = backD r ds ρ := rfl
@[simp] theorem back_io {ρ : Rho} {k : Nat} {x : D} {r : List Ag} {ds : List D} : backD (.io k :: r) (x :: ds) ρ = backD r ds (put ρ k x) := rfl
@[simp] theorem tgD_n {ρ : Rho} {k : Nat} {d : D} : tgD (.n k) d ρ = some (put ρ k d) := rfl
@[simp] theorem tgD_t {ρ : Rho} {g : Tgs} {ds : List D} : tgD (.t g) (.tuple ds) ρ = tgsD g ds ρ := rfl
@[simp] theorem tgD_l {ρ : Rho} {g : Tgs} {ds : List D} : tgD (.t g) (.list ds) ρ = tgsD g ds ρ := rfl
@[simp] theorem tgsD_nil {ρ : Rho} : tgsD .nil [] ρ = some ρ := rfl
@[simp] theorem tgsD_cons {ρ : Rho} {g : Tg} {r : Tgs} {d : D} {ds : List D} : tgsD (.cons g r) (d :: ds) ρ = (tgD g d ρ).bind fun ρ' => tgsD r ds ρ' := rfl
@[simp] theorem isNone_n : isNone .none = true := rfl
@[simp] theorem isNone_i : isNone (.int i) = false := rfl
@[simp] theorem isNone_l : isNone (.list l) = false := rfl
@[simp] theorem isNone_t : isNone (.tuple l) = false := rfl
@[simp] theorem isNone_b : isNone (.bool b) = false := rfl
/-- an item by a number that is known to be within -/
theorem ixL_at {l : List D} {k : Nat} {d : D} (h : l[k]? = some d) : ixL l (.int (k : Int)) = some d := atI_nat h
@[simp] theorem ixL_map_int {ns : List Int} {k : Nat} (h : k < ns.length) : ixL (ns.map .int) (.int (k : Int)) = some (.int ns[k]) := by
  refine ixL_at ?_
  rw [List.getElem?_map, List.getElem?_eq_getElem h]
  rfl
@[simp] theorem ixN_at {n k : Nat} (h : k < n) : ixN n (k : Int) = some k := ixN_nat h
end
section
variable {a b e f g : D} {l : List D}
@[simp] theorem ixc0 : ixL (a :: l) (.int 0) = some a := ixL_at (k := 0) rfl
@[simp] theorem ixc1 : ixL (a :: b :: l) (.int 1) = some b := by
  refine ixL_at (k := 1) rfl
@[simp] theorem ixc2 : ixL (a :: b :: e :: l) (.int 2) = some e := ixL_at (k := 2) rfl
@[simp] theorem ixc3 : ixL (a :: b :: e :: f :: l) (.int 3) = some f := ixL_at (k := 3) rfl
@[simp] theorem ixc4 : ixL (a :: b :: e :: f :: g :: l) (.int 4) = some g := ixL_at (k := 4) rfl
end
/-- a def by its body -/
theorem fn_by {c : Cf} {ps : List Ty} {n : Nat} {b : Ss} {ds : List D} {v : D} {o : List D} (h : Wp c b (ds.map some ++ List.replicate (n - ds.length) none) ⟨fun ρ => fout ps ds ρ = some o ∧ .none = v, fun d ρ => fout ps ds ρ = some o ∧ d = v, fun _ => False, fun _ => False, fun _ _ _ => False⟩) : evF c ps n b ds = some (v, o) := by
  obtain ⟨d, o', e, rfl, rfl⟩ := fn_rule (Q := fun d o' => d = v ∧ o' = o) (by
    obtain ⟨r, e, h⟩ := h
    refine ⟨r, e, ?_⟩
    cases r with
    | nx ρ => exact ⟨_, h.1, h.2, rfl⟩
    | ret d ρ => exact ⟨_, h.1, h.2, rfl⟩
    | _ => exact h.elim)
  exact e
end Vw
namespace Vw
open PySem PySem.Spec PyProof.Rows L2
section
variable {c : Cf} {ρ ρ' ρ0 ρ1 : Rho} {K : Po} {e a elt : E} {tg : Tg} {it : Iv} {cd : Ot} {ws : List Nat} {ds : List D} {ss b : Ss} {x : Nat} {d : D}
theorem ev_of (h : Ev c e ρ fun x ρ' => x = d ∧ ρ' = ρ1) : ev c e ρ = some (d, ρ1) := by
  obtain ⟨⟨x, y⟩, h, rfl, rfl⟩ := h
  exact h
theorem evT_of {t : T} {z : Bool} (h : EvT c t ρ fun x ρ' => x = z ∧ ρ' = ρ1) : evT c t ρ = some (z, ρ1) := by
  obtain ⟨⟨x, y⟩, h, rfl, rfl⟩ := h
  exact h
theorem Ev.of {Q : D → Rho → Prop} (h : ev c e ρ = some (d, ρ1)) (q : Q d ρ1) : Ev c e ρ Q := ⟨_, h, q⟩
/-- for x in range(n) -/
theorem for_r1 {n : Nat} (he : Ev c e ρ fun x ρ' => x = .int (n : Int) ∧ ρ' = ρ1) (hn : n ≤ 1000000000) (I : Nat → Rho → Prop) (h0 : I 0 ρ1)
    (step : ∀ i, i < n → ∀ ρ, I i ρ → Wp c b (put ρ x (.int (i : Int))) { K with N := I (i + 1), C := I (i + 1), B := K.N }) (fin : ∀ ρ, I n ρ → K.N ρ) : WpS c (.for (.n x) (.r1 e) b) ρ K := by
  refine w_for (i_r1 (ev_of he) (inR_small (by omega) (by omega))) I h0 (fun i h ρ hI => ?_) (fun ρ hI => ⟨ρ, rfl, fin ρ ?_⟩)
  · have hi : i < n := by simpa [rng_len] using h
    refine ⟨_, rfl, ?_⟩
    rw [rng_at h, Int.zero_add]
    obtain ⟨r, e1, e2⟩ := step i hi ρ hI
    refine ⟨r, e1, ?_⟩
    cases r <;> first | exact e2 | exact ⟨_, rfl, e2⟩
  · rw [rng_len] at hI
    exact hI
/-- for x in range(a, n) -/
theorem for_r2 {lo n : Nat} (he : Ev c a ρ fun x ρ' => x = .int (lo : Int) ∧ ρ' = ρ0) (he2 : Ev c e ρ0 fun x ρ' => x = .int (n : Int) ∧ ρ' = ρ1) (hn : n ≤ 1000000000) (hl : lo ≤ n) (I : Nat → Rho → Prop) (h0 : I lo ρ1)
    (step : ∀ i, lo ≤ i → i < n → ∀ ρ, I i ρ → Wp c b (put ρ x (.int (i : Int))) { K with N := I (i + 1), C := I (i + 1), B := K.N }) (fin : ∀ ρ, I n ρ → K.N ρ) : WpS c (.for (.n x) (.r2 a e) b) ρ K := by
  refine w_for (i_r2 (ev_of he) (ev_of he2) ⟨inR_small (by omega) (by omega), inR_small (by omega) (by omega)⟩) (fun i => I (lo + i)) h0 (fun i h ρ hI => ?_) (fun ρ hI => ⟨ρ, rfl, fin ρ ?_⟩)
  · have hi : i < n - lo := by rw [rng_len] at h; omega
    refine ⟨_, rfl, ?_⟩
    rw [rng_at h, show ((lo : Int) + (i : Int)) = ((lo + i : Nat) : Int) by omega]
    obtain ⟨r, e1, e2⟩ := step (lo + i) (by omega) (by omega) ρ hI
    refine ⟨r, e1, ?_⟩
    cases r <;> first | exact e2 | exact ⟨_, rfl, e2⟩
  · rw [rng_len] at hI
    have : lo + ((n : Int) - (lo : Int)).toNat = n := by omega
    rw [this] at hI
    exact hI
/-- for x in range(n - 1, -1, -1) -/
theorem for_r3d {n : Nat} {e2 e3 : E} {ρ2 : Rho} (he : Ev c e ρ fun x ρ' => x = .int ((n : Int) - 1) ∧ ρ' = ρ0) (he2 : Ev c e2 ρ0 fun x ρ' => x = .int (-1) ∧ ρ' = ρ2) (he3 : Ev c e3 ρ2 fun x ρ'' => x = .int (-1) ∧ ρ'' = ρ1) (hn : n ≤ 1000000000) (I : Nat → Rho → Prop) (h0 : I n ρ1)
    (step : ∀ i, i < n → ∀ ρ, I (i + 1) ρ → Wp c b (put ρ x (.int (i : Int))) { K with N := I i, C := I i, B := K.N }) (fin : ∀ ρ, I 0 ρ → K.N ρ) : WpS c (.for (.n x) (.r3 e e2 e3) b) ρ K := by
  have hi : evI c (.r3 e e2 e3) ρ = some (rngC ((n : Int) - 1) (-1) n, ρ1, []) := by
    show (ev c e ρ).bind _ = _
    rw [ev_of he]
    show (ev c e2 ρ0).bind _ = _
    rw [ev_of he2]
    show (ev c e3 ρ2).bind _ = _
    rw [ev_of he3]
    show (if inR ((n : Int) - 1) = true ∧ inR (-1) = true ∧ (-1 : Int) = -1 then some (rngC ((n : Int) - 1) (-1) ((n : Int) - 1 - -1).toNat, ρ1, []) else none) = _
    rw [if_pos ⟨inR_small (by omega) (by omega), inR_small (by omega) (by omega), rfl⟩]
    have : ((n : Int) - 1 - -1).toNat = n := by omega
    rw [this]
  have hlen : (rngC ((n : Int) - 1) (-1) n).length = n := by simp [rngC]
  refine w_for hi (fun i => I (n - i)) h0 (fun i h ρ hI => ?_) (fun ρ hI => ⟨ρ, rfl, fin ρ ?_⟩)
  · have hi : i < n := by rw [hlen] at h; exact h
    refine ⟨_, rfl, ?_⟩
    have ed : (rngC ((n : Int) - 1) (-1) n)[i] = .int ((n - i - 1 : Nat) : Int) := by
      have : (rngC ((n : Int) - 1) (-1) n)[i] = .int ((n : Int) - 1 + (i : Int) * -1) := by simp [rngC]
      rw [this]
      congr 1
      omega
    rw [ed]
    obtain ⟨r, e1, e2⟩ := step (n - i - 1) (by omega) ρ (by rw [show n - i - 1 + 1 = n - i by omega]; exact hI)
    refine ⟨r, e1, ?_⟩
    have e9 : n - (i + 1) = n - i - 1 := by omega
    cases r <;> first | (rw [e9]; exact e2) | exact e2 | exact ⟨_, rfl, e2⟩
  · rw [hlen, Nat.sub_self] at hI
    exact hI
/-- for x in a list of data -/
theorem for_l (he : Ev c e ρ fun x ρ' => seqD x = some ds ∧ ρ' = ρ1) (I : Nat → Rho → Prop) (h0 : I 0 ρ1)
    (step : ∀ i (h : i < ds.length) ρ, I i ρ → ∃ ρ1, tgD tg ds[i] ρ = some ρ1 ∧ Wp c b ρ1 { K with N := I (i + 1), C := I (i + 1), B := K.N }) (fin : ∀ ρ, I ds.length ρ → K.N ρ) : WpS c (.for tg (.o (.e e)) b) ρ K := by
  obtain ⟨⟨y, ρy⟩, h1, h2, rfl⟩ := he
  refine w_for (i_o h1 h2) I h0 (fun i h ρ hI => ?_) (fun ρ hI => ⟨ρ, rfl, fin ρ hI⟩)
  obtain ⟨ρ1, e1, r, e2, e3⟩ := step i h ρ hI
  refine ⟨ρ1, e1, r, e2, ?_⟩
  cases r <;> first | exact e3 | exact ⟨_, rfl, e3⟩
/-- all(..) of a generator expression without a test, its names left as they were -/
theorem ge_all (hi : evI c it ρ = some (ds, ρ', [])) (h0 : wipeD ρ' ws = ρ0) (f : D → Bool) (step : ∀ d ∈ ds, Op (tgD tg d ρ0) fun ρ1 => Ev c elt ρ1 fun x ρ2 => x = .bool (f d) ∧ wipeD ρ2 ws = ρ0) : ev c (.ge .all elt tg it .no ws) ρ = some (.bool (ds.all f), ρ0) := by
  have go : ∀ l : List D, (∀ d ∈ l, d ∈ ds) → geL .all (fun d ρ => (tgD tg d ρ).bind fun ρ1 => (evC c .no ρ1).bind fun b => if b.1 = true then (ev c elt b.2).map fun q => (some q.1, wipeD q.2 ws) else some (none, wipeD b.2 ws)) l ρ0 0 = some (.bool (l.all f), ρ0) := by
    intro l
    induction l with
    | nil => exact fun _ => rfl
    | cons d l ih =>
      intro hm
      obtain ⟨ρ1, e1, ⟨x, ρ2⟩, e2, e3, e4⟩ := step d (hm d List.mem_cons_self)
      have e3 : x = .bool (f d) := e3
      have e4 : wipeD ρ2 ws = ρ0 := e4
      subst e3
      show ((tgD tg d ρ0).bind _).bind _ = _
      rw [e1]
      show (((ev c elt ρ1).map _).bind _) = _
      rw [e2]
      show (if f d = true then geL .all _ l (wipeD ρ2 ws) 0 else some (.bool false, wipeD ρ2 ws)) = _
      rw [e4, List.all_cons]
      cases f d with
      | true =>
        rw [if_pos rfl, Bool.true_and]
        exact ih fun d hd => hm d (List.mem_cons_of_mem _ hd)
      | false => rfl
  show (evI c it ρ).bind _ = _
  rw [hi]
  show (geL .all _ ds (wipeD ρ' ws) 0).bind _ = _
  rw [h0, go ds fun _ h => h]
  rfl
theorem ge_any (hi : evI c it ρ = some (ds, ρ', [])) (h0 : wipeD ρ' ws = ρ0) (f : D → Bool) (step : ∀ d ∈ ds, Op (tgD tg d ρ0) fun ρ1 => Ev c elt ρ1 fun x ρ2 => x = .bool (f d) ∧ wipeD ρ2 ws = ρ0) : ev c (.ge .any elt tg it .no ws) ρ = some (.bool (ds.any f), ρ0) := by
  have go : ∀ l : List D, (∀ d ∈ l, d ∈ ds) → geL .any (fun d ρ => (tgD tg d ρ).bind fun ρ1 => (evC c .no ρ1).bind fun b => if b.1 = true then (ev c elt b.2).map fun q => (some q.1, wipeD q.2 ws) else some (none, wipeD b.2 ws)) l ρ0 0 = some (.bool (l.any f), ρ0) := by
    intro l
    induction l with
    | nil => exact fun _ => rfl
    | cons d l ih =>
      intro hm
      obtain ⟨ρ1, e1, ⟨x, ρ2⟩, e2, e3, e4⟩ := step d (hm d List.mem_cons_self)
      have e3 : x = .bool (f d) := e3
      have e4 : wipeD ρ2 ws = ρ0 := e4
      subst e3
      show ((tgD tg d ρ0).bind _).bind _ = _
      rw [e1]
      show (((ev c elt ρ1).map _).bind _) = _
      rw [e2]
      show (if f d = true then some (.bool true, wipeD ρ2 ws) else geL .any _ l (wipeD ρ2 ws) 0) = _
      rw [e4, List.any_cons]
      cases f d with
      | false =>
        rw [if_neg (by decide), Bool.false_or]
        exact ih fun d hd => hm d (List.mem_cons_of_mem _ hd)
      | true => rfl
  show (evI c it ρ).bind _ = _
  rw [hi]
  show (geL .any _ ds (wipeD ρ' ws) 0).bind _ = _
  rw [h0, go ds fun _ h => h]
  rfl
/-- sum(..), with a test -/
theorem ge_sum (hi : evI c it ρ = some (ds, ρ', [])) (h0 : wipeD ρ' ws = ρ0) (p : D → Bool) (f : D → Int) (B : Int) (hB : 0 ≤ B) (hl : (ds.length : Int) * B < 2 ^ 63) (hb : ∀ d ∈ ds, -B ≤ f d ∧ f d ≤ B)
    (step : ∀ d ∈ ds, Op (tgD tg d ρ0) fun ρ1 => Op (evC c cd ρ1) fun q => q.1 = p d ∧ Br (p d) (Ev c elt q.2 fun x ρ2 => x = .int (f d) ∧ wipeD ρ2 ws = ρ0) (wipeD q.2 ws = ρ0)) : ev c (.ge .sum elt tg it cd ws) ρ = some (.int (((ds.filter p).map f).sum), ρ0) := by
  have go : ∀ (l : List D) (n : Int), (∀ d ∈ l, d ∈ ds) → (-(2 ^ 63) + (l.length : Int) * B < n ∧ n + (l.length : Int) * B < 2 ^ 63) → geL .sum (fun d ρ => (tgD tg d ρ).bind fun ρ1 => (evC c cd ρ1).bind fun b => if b.1 = true then (ev c elt b.2).map fun q => (some q.1, wipeD q.2 ws) else some (none, wipeD b.2 ws)) l ρ0 n = some (.int (n + ((l.filter p).map f).sum), ρ0) := by
    intro l
    induction l with
    | nil =>
      intro n _ _
      show some (PyData.int n, ρ0) = _
      simp
    | cons d l ih =>
      intro n hm hn
      have hlen : ((d :: l).length : Int) * B = (l.length : Int) * B + B := by
        rw [List.length_cons, Int.natCast_add, Int.add_mul]; simp
      have hl0 : 0 ≤ (l.length : Int) * B := Int.mul_nonneg (by omega) hB
      rw [hlen] at hn
      obtain ⟨b1, b2⟩ := hb d (hm d List.mem_cons_self)
      obtain ⟨ρ1, e1, ⟨z, ρ2⟩, e2, e3, h3⟩ := step d (hm d List.mem_cons_self)
      have e3 : z = p d := e3
      show ((tgD tg d ρ0).bind _).bind _ = _
      rw [e1]
      show (((evC c cd ρ1).bind _).bind _) = _
      rw [e2]
      cases hp : p d with
      | true =>
        rw [hp] at e3 h3
        subst e3
        obtain ⟨⟨x, ρ3⟩, e4, e5, e6⟩ := Br_true.mp h3
        have e5 : x = .int (f d) := e5
        have e6 : wipeD ρ3 ws = ρ0 := e6
        subst e5
        show (((ev c elt ρ2).map _).bind _) = _
        rw [e4]
        show (if inL (f d) = true ∧ inL (n + f d) = true then geL .sum _ l (wipeD ρ3 ws) (n + f d) else none) = _
        have i1 : inL (f d) = true := by
          unfold inL
          simp only [Bool.and_eq_true, decide_eq_true_eq]
          have := hl
          have h9 : (ds.length : Int) * B ≥ B := by
            have : 1 ≤ (ds.length : Int) := by
              have := List.length_pos_of_mem (hm d List.mem_cons_self)
              omega
            have := Int.mul_le_mul_of_nonneg_right this hB
            omega
          omega
        have i2 : inL (n + f d) = true := by
          unfold inL
          simp only [Bool.and_eq_true, decide_eq_true_eq]
          omega
        rw [if_pos ⟨i1, i2⟩, e6, ih (n + f d) (fun d hd => hm d (List.mem_cons_of_mem _ hd)) (by omega)]
        simp [hp, List.filter_cons, Int.add_assoc]
      | false =>
        rw [hp] at e3 h3
        subst e3
        have h3 : wipeD ρ2 ws = ρ0 := Br_false.mp h3
        show geL .sum _ l (wipeD ρ2 ws) n = _
        rw [h3, ih n (fun d hd => hm d (List.mem_cons_of_mem _ hd)) (by omega)]
        simp [hp, List.filter_cons]
  show (evI c it ρ).bind _ = _
  rw [hi]
  show (geL .sum _ ds (wipeD ρ' ws) 0).bind _ = _
  rw [h0, go ds 0 (fun _ h => h) ⟨by omega, by omega⟩]
  simp
/-- a comprehension, its parts told by what they give -/
theorem comp_E (hi : evI c it ρ = some (ds, ρ', [])) (p : D → Bool) (f : D → D) (h0 : wipeD ρ' ws = ρ0) (hl : ds.length ≤ 16777216)
    (step : ∀ d ∈ ds, Op (tgD tg d ρ0) fun ρ1 => Op (evC c cd ρ1) fun q => q.1 = p d ∧ Br (p d) (Ev c elt q.2 fun x ρ2 => x = f d ∧ wipeD ρ2 ws = ρ0) (wipeD q.2 ws = ρ0)) :
    ev c (.comp elt tg it cd ws) ρ = some (.list ((ds.filter p).map f), ρ0) := by
  refine comp_filt hi p f h0 hl fun d hd => ?_
  obtain ⟨ρ1, e1, ⟨z, ρ2⟩, e2, e3, h3⟩ := step d hd
  have e3 : z = p d := e3
  subst e3
  refine ⟨ρ1, ρ2, e1, e2, fun hz => ?_, fun hz => ?_⟩
  · rw [hz] at h3; exact Br_false.mp h3
  · rw [hz] at h3
    obtain ⟨⟨x, ρ3⟩, e4, e5, e6⟩ := Br_true.mp h3
    exact ⟨ρ3, by rw [e4]; show some (x, ρ3) = _; rw [show x = f d from e5], e6⟩
@[simp ↓] theorem vc_so {t : T} {Q : Bool × Rho → Prop} : Op (evC c (.so t) ρ) Q ↔ EvT c t ρ fun b ρ1 => Q (b, ρ1) := Iff.rfl
@[simp ↓] theorem vc_no {Q : Bool × Rho → Prop} : Op (evC c .no ρ) Q ↔ Q (true, ρ) := Op_some
@[simp ↓] theorem q_sti2 {i : Nat} {a b e : E} : WpS c (.sti2 i a b e) ρ K ↔ Ev c e ρ fun d ρ1 => Op (Vw.get ρ1 i) fun _ => Ev c a ρ1 fun q ρ2 => Ev c b ρ2 fun p ρ3 => Op (Vw.get ρ3 i) fun x => Op (lD x) fun m => Op (iD q) fun j => Op (iD p) fun j2 => Op (ixN m.length j) fun k => Op (m[k]?) fun y => Op (lD y) fun l => Op (ixN l.length j2) fun k2 => K.N (put ρ3 i (.list (m.set k (.list (l.set k2 d))))) := by
  constructor
  · rintro ⟨r, e0, h⟩
    obtain ⟨r1, e1, e0⟩ := bind_inv (show (ev c e ρ).bind _ = _ from e0)
    obtain ⟨y, e2, e0⟩ := bind_inv e0
    obtain ⟨r2, e3, e0⟩ := bind_inv e0
    obtain ⟨r3, e4, e0⟩ := bind_inv e0
    obtain ⟨x, e5, e0⟩ := bind_inv e0
    obtain ⟨d2, ρ2⟩ := r2
    obtain ⟨d3, ρ3⟩ := r3
    cases x with
    | list m =>
      cases d2 with
      | int j =>
        cases d3 with
        | int j2 =>
          obtain ⟨k, e6, e0⟩ := bind_inv (show (ixN m.length j).bind _ = _ from e0)
          obtain ⟨z, e7, e0⟩ := bind_inv e0
          cases z with
          | list l =>
            obtain ⟨k2, e8, rfl⟩ := map_inv e0
            exact ⟨r1, e1, y, e2, (.int j, ρ2), e3, (.int j2, ρ3), e4, _, e5, _, rfl, _, rfl, _, rfl, k, e6, _, e7, _, rfl, k2, e8, h⟩
          | _ => cases e0
        | _ => cases e0
      | _ => cases e0
    | _ => cases e0
  · rintro ⟨⟨d, ρ1⟩, e1, y, e2, ⟨q, ρ2⟩, e3, ⟨p, ρ3⟩, e4, x, e5, m, e6, j, e7, j2, e8, k, e9, z, e10, l, e11, k2, e12, h⟩
    cases x <;> cases e6
    cases q <;> cases e7
    cases p <;> cases e8
    cases z <;> cases e11
    refine ⟨.nx _, ?_, h⟩
    show (ev c e ρ).bind _ = _
    rw [e1]
    show (Vw.get ρ1 i).bind _ = _
    rw [e2]
    show (ev c a ρ1).bind _ = _
    rw [e3]
    show (ev c b ρ2).bind _ = _
    rw [e4]
    show (Vw.get ρ3 i).bind _ = _
    rw [e5]
    show (ixN m.length _).bind _ = _
    rw [e9]
    show (m[k]?).bind _ = _
    rw [e10]
    show (ixN l.length _).map _ = _
    rw [e12]
    rfl
end
theorem r_eqi {c : Cf} {ρ ρ1 ρ2 : Rho} {a b : E} {x y : Int} (ha : ev c a ρ = some (.int x, ρ1)) (hb : ev c b ρ1 = some (.int y, ρ2)) : ev c (.eq false a b) ρ = some (.bool (decide (x = y)), ρ2) := by
  show (ev c a ρ).bind _ = _
  rw [ha]
  show (ev c b ρ1).bind _ = _
  rw [hb]
  exact congrArg (fun o => Option.map (fun d => (d, ρ2)) o) (eq_ii (i := x) (j := y))
theorem lenL_map {α : Type} (f : α → D) (l : List α) : b1D .len (.list (l.map f)) = some (.int (l.length : Int)) := by rw [len_b1L, List.length_map]
def stB (k c : Int) : D := .list [.int k, .int c]
theorem ar_mulr {i j : Int} (h : -(2 ^ 64) < j ∧ j < 2 ^ 64) : arD .mul (.int i) (.int j) = some (.int (i * j)) := if_pos (.inr h)
theorem ar_mull {i j : Int} (h : -(2 ^ 64) < i ∧ i < 2 ^ 64) : arD .mul (.int i) (.int j) = some (.int (i * j)) := if_pos (.inl h)
theorem ar_modp {i j : Int} (h : 0 < j) : arD .mod (.int i) (.int j) = some (.int (i % j)) := if_pos h
/-! rows over ranges -/
theorem ix_rng {f : Nat → D} {n k : Nat} (h : k < n) : ixL ((List.range n).map f) (.int (k : Int)) = some (f k) := by
  refine ixL_at ?_
  simp [h]
theorem set_rng {f g : Nat → D} {n k : Nat} (h : ∀ i, i < n → i ≠ k → f i = g i) (hk : k < n) : ((List.range n).map f).set k (g k) = (List.range n).map g := by
  refine List.ext_getElem (by simp) fun i h1 h2 => ?_
  have hi : i < n := by simpa using h2
  rw [List.getElem_set]
  by_cases e : k = i
  · subst e; simp
  · rw [if_neg e]; simp [h i hi (fun z => e z.symm)]
end Vw
/-! loops, comprehensions and generators over ranges and over rows of things -/
namespace Vw
open PySem PySem.Spec PyProof.Rows L2
theorem w_whE {c : Cf} {K : Po} {t : T} {b : Ss} {ρ : Rho} (I : Nat → Rho → Prop) (n : Nat) (hn : n < c.W) (h0 : I n ρ)
    (step : ∀ n ρ, I n ρ → EvT c t ρ fun z ρ1 => Br z (Wp c b ρ1 { K with N := fun ρ => ∃ m, m < n ∧ I m ρ, C := fun ρ => ∃ m, m < n ∧ I m ρ, B := K.N }) (K.N ρ1)) : WpS c (.wh t b) ρ K := by
  refine w_wh I n hn h0 fun n ρ hI => ?_
  obtain ⟨⟨z, ρ1⟩, e, h⟩ := step n ρ hI
  refine ⟨z, ρ1, e, fun hz => ?_, fun hz => ?_⟩
  · subst hz; exact Br_false.mp h
  · subst hz; exact Br_true.mp h
section
variable {c : Cf} {ρ ρ' ρ0 ρ1 : Rho} {K : Po} {e a elt : E} {tg : Tg} {it : Iv} {cd : Ot} {ws : List Nat} {x : Nat}
/-- what an iterable gives -/
def Gives (c : Cf) (it : Iv) (ρ : Rho) (ds : List D) (ρ' : Rho) : Prop := evI c it ρ = some (ds, ρ', [])
theorem gives_r1 {n : Nat} (he : Ev c e ρ fun x ρ' => x = .int (n : Int) ∧ ρ' = ρ1) (hn : n ≤ 1000000000) : Gives c (.r1 e) ρ ((List.range n).map fun i => .int (i : Nat)) ρ1 := by
  have h := i_r1 (ev_of he) (inR_small (by omega) (by omega))
  unfold Gives
  rw [h]
  unfold rngD
  simp only [Int.zero_add, Int.toNat_natCast]
theorem gives_r2 {lo n : Nat} (he : Ev c a ρ fun x ρ' => x = .int (lo : Int) ∧ ρ' = ρ0) (he2 : Ev c e ρ0 fun x ρ' => x = .int (n : Int) ∧ ρ' = ρ1) (hn : n ≤ 1000000000) (hl : lo ≤ 1000000000) : Gives c (.r2 a e) ρ ((List.range' lo (n - lo)).map fun i => .int (i : Nat)) ρ1 := by
  have h := i_r2 (ev_of he) (ev_of he2) ⟨inR_small (by omega) (by omega), inR_small (by omega) (by omega)⟩
  unfold Gives
  rw [h]
  have : ((n : Int) - (lo : Int)).toNat = n - lo := by omega
  rw [this, List.range'_eq_map_range, List.map_map]
  rfl
theorem gives_l {α : Type} {l : List α} {g : α → D} (he : Ev c e ρ fun x ρ' => seqD x = some (l.map g) ∧ ρ' = ρ1) : Gives c (.o (.e e)) ρ (l.map g) ρ1 := by
  obtain ⟨⟨y, ρy⟩, h1, h2, rfl⟩ := he
  exact i_o h1 h2
/-- a loop over things -/
theorem for_m {α : Type} {l : List α} {g : α → D} {b : Ss} (hi : Gives c it ρ (l.map g) ρ1) (I : Nat → Rho → Prop) (h0 : I 0 ρ1)
    (step : ∀ i (h : i < l.length) ρ, I i ρ → Op (tgD tg (g l[i]) ρ) fun ρ1 => Wp c b ρ1 { K with N := I (i + 1), C := I (i + 1), B := K.N }) (fin : ∀ ρ, I l.length ρ → K.N ρ) : WpS c (.for tg it b) ρ K := by
  refine w_for hi I h0 (fun i h ρ hI => ?_) (fun ρ hI => ⟨ρ, rfl, fin ρ (by rw [List.length_map] at hI; exact hI)⟩)
  have h' : i < l.length := by rw [List.length_map] at h; exact h
  obtain ⟨ρ1, e1, r, e2, e3⟩ := step i h' ρ hI
  refine ⟨ρ1, by rw [List.getElem_map]; exact e1, r, e2, ?_⟩
  cases r <;> first | exact e3 | exact ⟨_, rfl, e3⟩
theorem comp_m {α : Type} {l : List α} {g : α → D} (hi : Gives c it ρ (l.map g) ρ') (p : α → Bool) (f : α → D) (h0 : wipeD ρ' ws = ρ0) (hl : l.length ≤ 16777216)
    (step : ∀ d ∈ l, Op (tgD tg (g d) ρ0) fun ρ1 => Op (evC c cd ρ1) fun q => q.1 = p d ∧ Br (p d) (Ev c elt q.2 fun x ρ2 => x = f d ∧ wipeD ρ2 ws = ρ0) (wipeD q.2 ws = ρ0)) :
    ev c (.comp elt tg it cd ws) ρ = some (.list ((l.filter p).map f), ρ0) := by
  have hr : ∀ k : List α, ∀ acc : List D, True := fun _ _ => trivial
  have h : ∃ d ρ', ev c (.comp elt tg it cd ws) ρ = some (d, ρ') ∧ d = .list ((l.filter p).map f) ∧ ρ' = ρ0 := by
    refine ev_comp hi (fun acc k ρ => acc = ((l.take k).filter p).map f ∧ ρ = ρ0) ⟨by rw [List.take_zero]; rfl, h0⟩ (fun i hi acc ρ hI => ?_) (Q := fun d ρ' => d = .list ((l.filter p).map f) ∧ ρ' = ρ0) (fun out ρ hI => ?_)
    · obtain ⟨rfl, rfl⟩ := hI
      have hi' : i < l.length := by rw [List.length_map] at hi; exact hi
      obtain ⟨ρ1, e1, ⟨z, ρ2⟩, e2, e3, h3⟩ := step l[i] (List.getElem_mem hi')
      have e3 : z = p l[i] := e3
      subst e3
      refine ⟨ρ1, p l[i], ρ2, by rw [List.getElem_map]; exact e1, e2, fun hz => ?_, fun hz => ?_⟩
      · rw [hz] at h3
        refine ⟨?_, Br_false.mp h3⟩
        rw [List.take_succ_eq_append_getElem hi', List.filter_append, List.map_append]
        simp [hz]
      · rw [hz] at h3
        obtain ⟨⟨x, ρ3⟩, e4, e5, e6⟩ := Br_true.mp h3
        have e5 : x = f l[i] := e5
        subst e5
        refine ⟨_, ρ3, e4, ?_, e6⟩
        rw [List.take_succ_eq_append_getElem hi', List.filter_append, List.map_append]
        simp [hz]
    · obtain ⟨rfl, rfl⟩ := hI
      have e9 : (l.map g).length = l.length := List.length_map _
      rw [e9, List.take_length]
      have h9 := List.length_filter_le p l
      exact ⟨by rw [List.length_map]; omega, _, rfl, rfl, rfl⟩
  obtain ⟨d, ρ2, e, rfl, rfl⟩ := h
  exact e
theorem comp_y {α : Type} {l : List α} {g : α → D} (hi : Gives c it ρ (l.map g) ρ') (f : α → D) (h0 : wipeD ρ' ws = ρ0) (hl : l.length ≤ 16777216)
    (step : ∀ d ∈ l, Op (tgD tg (g d) ρ0) fun ρ1 => Ev c elt ρ1 fun x ρ2 => x = f d ∧ wipeD ρ2 ws = ρ0) : ev c (.comp elt tg it .no ws) ρ = some (.list (l.map f), ρ0) := by
  have h := comp_m (cd := .no) (elt := elt) (tg := tg) hi (fun _ => true) f h0 hl fun d hd => by
    obtain ⟨ρ1, e1, e2⟩ := step d hd
    exact ⟨ρ1, e1, (true, ρ1), rfl, rfl, Br_true.mpr e2⟩
  rwa [List.filter_eq_self.mpr (fun _ _ => rfl)] at h
theorem all_m {α : Type} {l : List α} {g : α → D} (hi : Gives c it ρ (l.map g) ρ') (f : α → Bool) (h0 : wipeD ρ' ws = ρ0) (step : ∀ d ∈ l, Op (tgD tg (g d) ρ0) fun ρ1 => Ev c elt ρ1 fun x ρ2 => x = .bool (f d) ∧ wipeD ρ2 ws = ρ0) : ev c (.ge .all elt tg it .no ws) ρ = some (.bool (l.all f), ρ0) := by
  have go : ∀ k : List α, (∀ d ∈ k, d ∈ l) → geL .all (fun d ρ => (tgD tg d ρ).bind fun ρ1 => (evC c .no ρ1).bind fun b => if b.1 = true then (ev c elt b.2).map fun q => (some q.1, wipeD q.2 ws) else some (none, wipeD b.2 ws)) (k.map g) ρ0 0 = some (.bool (k.all f), ρ0) := by
    intro k
    induction k with
    | nil => exact fun _ => rfl
    | cons d k ih =>
      intro hm
      obtain ⟨ρ1, e1, ⟨x, ρ2⟩, e2, e3, e4⟩ := step d (hm d List.mem_cons_self)
      have e3 : x = .bool (f d) := e3
      have e4 : wipeD ρ2 ws = ρ0 := e4
      subst e3
      show ((tgD tg (g d) ρ0).bind _).bind _ = _
      rw [e1]
      show (((ev c elt ρ1).map _).bind _) = _
      rw [e2]
      show (if f d = true then geL .all _ (k.map g) (wipeD ρ2 ws) 0 else some (.bool false, wipeD ρ2 ws)) = _
      rw [e4, List.all_cons]
      cases f d with
      | true =>
        rw [if_pos rfl, Bool.true_and]
        exact ih fun d hd => hm d (List.mem_cons_of_mem _ hd)
      | false => rfl
  show (evI c it ρ).bind _ = _
  rw [hi]
  show (geL .all _ (l.map g) (wipeD ρ' ws) 0).bind _ = _
  rw [h0, go l fun _ h => h]
  rfl
theorem all_y {α : Type} {l : List α} {g : α → D} (hi : Gives c it ρ (l.map g) ρ') (h0 : wipeD ρ' ws = ρ0) (step : ∀ d ∈ l, Op (tgD tg (g d) ρ0) fun ρ1 => Ev c elt ρ1 fun x ρ2 => x = .bool true ∧ wipeD ρ2 ws = ρ0) : ev c (.ge .all elt tg it .no ws) ρ = some (.bool true, ρ0) := by
  have h := all_m hi (fun _ => true) h0 step
  rwa [List.all_eq_true.mpr fun _ _ => rfl] at h
theorem any_m {α : Type} {l : List α} {g : α → D} (hi : Gives c it ρ (l.map g) ρ') (f : α → Bool) (h0 : wipeD ρ' ws = ρ0) (step : ∀ d ∈ l, Op (tgD tg (g d) ρ0) fun ρ1 => Ev c elt ρ1 fun x ρ2 => x = .bool (f d) ∧ wipeD ρ2 ws = ρ0) : ev c (.ge .any elt tg it .no ws) ρ = some (.bool (l.any f), ρ0) := by
  have go : ∀ k : List α, (∀ d ∈ k, d ∈ l) → geL .any (fun d ρ => (tgD tg d ρ).bind fun ρ1 => (evC c .no ρ1).bind fun b => if b.1 = true then (ev c elt b.2).map fun q => (some q.1, wipeD q.2 ws) else some (none, wipeD b.2 ws)) (k.map g) ρ0 0 = some (.bool (k.any f), ρ0) := by
    intro k
    induction k with
    | nil => exact fun _ => rfl
    | cons d k ih =>
      intro hm
      obtain ⟨ρ1, e1, ⟨x, ρ2⟩, e2, e3, e4⟩ := step d (hm d List.mem_cons_self)
      have e3 : x = .bool (f d) := e3
      have e4 : wipeD ρ2 ws = ρ0 := e4
      subst e3
      show ((tgD tg (g d) ρ0).bind _).bind _ = _
      rw [e1]
      show (((ev c elt ρ1).map _).bind _) = _
      rw [e2]
      show (if f d = true then some (.bool true, wipeD ρ2 ws) else geL .any _ (k.map g) (wipeD ρ2 ws) 0) = _
      rw [e4, List.any_cons]
      cases f d with
      | false =>
        rw [if_neg (by decide), Bool.false_or]
        exact ih fun d hd => hm d (List.mem_cons_of_mem _ hd)
      | true => rfl
  show (evI c it ρ).bind _ = _
  rw [hi]
  show (geL .any _ (l.map g) (wipeD ρ' ws) 0).bind _ = _
  rw [h0, go l fun _ h => h]
  rfl
end
theorem gives_r1' {c : Cf} {e : E} {ρ ρ1 : Rho} {j : Int} (he : Ev c e ρ fun x ρ' => x = .int j ∧ ρ' = ρ1) (h1 : -1000000000 ≤ j) (h2 : j ≤ 1000000000) : Gives c (.r1 e) ρ ((List.range j.toNat).map fun i => .int (i : Nat)) ρ1 := by
  have h := i_r1 (ev_of he) (inR_small h1 h2)
  unfold Gives
  rw [h]
  unfold rngD
  simp only [Int.zero_add]
theorem intsD_map : ∀ l : List Int, intsD (l.map .int) = some l
  | [] => rfl
  | i :: l => by
    show (intsD (l.map .int)).map (i :: ·) = _
    rw [intsD_map l]
    rfl
theorem boolsD_map {α : Type} (f : α → Bool) : ∀ l : List α, boolsD (l.map fun x => .bool (f x)) = some (l.map f)
  | [] => rfl
  | i :: l => by
    show (boolsD (l.map fun x => .bool (f x))).map (f i :: ·) = _
    rw [boolsD_map f l]
    rfl
theorem all_bools {α : Type} (f : α → Bool) (l : List α) : b1D .all (.list (l.map fun x => .bool (f x))) = some (.bool (l.all f)) := by
  show (boolsD _).map _ = _
  rw [boolsD_map]
  simp
theorem minL_same {k : Int} : ∀ l : List Int, l ≠ [] → (∀ x ∈ l, x = k) → minL l = some k
  | [], h, _ => (h rfl).elim
  | [x], _, h => by rw [h x (by simp)]; rfl
  | x :: y :: l, _, h => by
    show (minL (y :: l)).map _ = _
    rw [minL_same (y :: l) (by simp) fun z hz => h z (List.mem_cons_of_mem _ hz), h x (by simp)]
    simp
theorem maxL_same {k : Int} : ∀ l : List Int, l ≠ [] → (∀ x ∈ l, x = k) → maxL l = some k
  | [], h, _ => (h rfl).elim
  | [x], _, h => by rw [h x (by simp)]; rfl
  | x :: y :: l, _, h => by
    show (maxL (y :: l)).map _ = _
    rw [maxL_same (y :: l) (by simp) fun z hz => h z (List.mem_cons_of_mem _ hz), h x (by simp)]
    simp
theorem mn_same {k : Int} {l : List Int} (h : l ≠ []) (h2 : ∀ x ∈ l, x = k) : b1D .mn (.list (l.map .int)) = some (.int k) := by
  show (intsD _).bind _ = _
  rw [intsD_map]
  show (minL l).map _ = _
  rw [minL_same l h h2]
  rfl
theorem mx_same {k : Int} {l : List Int} (h : l ≠ []) (h2 : ∀ x ∈ l, x = k) : b1D .mx (.list (l.map .int)) = some (.int k) := by
  show (intsD _).bind _ = _
  rw [intsD_map]
  show (maxL l).map _ = _
  rw [maxL_same l h h2]
  rfl
theorem mn_c {α : Type} {k : Int} {l : List α} (h : l ≠ []) : b1D .mn (.list (l.map fun _ => .int k)) = some (.int k) := by
  have := mn_same (k := k) (l := l.map fun _ => k) (by simpa using h) (by simp)
  rwa [List.map_map] at this
theorem mx_c {α : Type} {k : Int} {l : List α} (h : l ≠ []) : b1D .mx (.list (l.map fun _ => .int k)) = some (.int k) := by
  have := mx_same (k := k) (l := l.map fun _ => k) (by simpa using h) (by simp)
  rwa [List.map_map] at this
@[simp] theorem eq_bb {ng a b : Bool} : eqD ng (.bool a) (.bool b) = some (.bool ((a == b) != ng)) := by
  unfold eqD
  rw [if_pos ⟨rfl, rfl⟩]
  cases a <;> cases b <;> cases ng <;> rfl
theorem eq_nn {ng : Bool} : eqD ng .none .none = some (.bool (true != ng)) := by
  unfold eqD
  rw [if_pos ⟨rfl, rfl⟩]
  cases ng <;> rfl
theorem all_true {α : Type} (l : List α) : b1D .all (.list (l.map fun _ => .bool true)) = some (.bool true) := by
  rw [all_bools (fun _ => true) l, List.all_eq_true.mpr fun _ _ => rfl]
section
variable {c : Cf} {ρ ρ' ρ0 ρ1 : Rho} {K : Po} {e a b f elt : E} {tg : Tg} {it : Iv} {cd : Ot} {ws : List Nat} {i : Nat} {Q : D → Rho → Prop}
@[simp ↓] theorem v_pop : Ev c (.pop i) ρ Q ↔ Op (Vw.get ρ i) fun x => Op (lD x) fun l => Op (l[l.length - 1]?) fun d => Q d (put ρ i (.list l.dropLast)) := by
  refine Iff.trans Op_bind (exists_congr fun x => and_congr_right fun _ => ?_)
  cases x with
  | list l => exact Iff.trans Op_map (Iff.symm Op_some)
  | _ => exact Iff.trans Op_none Op_none.symm
@[simp ↓] theorem v_popat : Ev c (.popat i e) ρ Q ↔ Op (Vw.get ρ i) fun y => Op (lD y) fun _ => Ev c e ρ fun q ρ1 => Op (Vw.get ρ1 i) fun x => Op (lD x) fun l => Op (iD q) fun j => (-(2 ^ 63) ≤ j ∧ j < 2 ^ 63) ∧ Op (seqIndex? j l.length) fun k => Op (l[k]?) fun d => Q d (put ρ1 i (.list (l.eraseIdx k))) := by
  refine Iff.trans Op_bind (exists_congr fun x => and_congr_right fun _ => ?_)
  cases x with
  | list l0 =>
    refine Iff.trans (Iff.trans Op_bind (exists_congr fun r => and_congr_right fun _ => Iff.trans Op_bind (exists_congr fun y => and_congr_right fun _ => ?_))) (Iff.symm Op_some)
    obtain ⟨q, ρ1⟩ := r
    cases y with
    | list l =>
      cases q with
      | int j => exact Iff.trans (Iff.trans Op_ite (and_congr_right fun _ => Iff.trans Op_bind (exists_congr fun _ => and_congr_right fun _ => Op_map))) (Iff.symm (Iff.trans Op_some Op_some))
      | _ => exact Iff.trans Op_none (Iff.symm (Iff.trans Op_some Op_none))
    | _ => exact Iff.trans Op_none (Iff.symm Op_none)
  | _ => exact Iff.trans Op_none Op_none.symm
@[simp ↓] theorem q_sw2 : WpS c (.sw2 i a b e f) ρ K ↔ Ev c e ρ fun d1 ρ1 => Ev c f ρ1 fun d2 ρ2 => Op (Vw.get ρ2 i) fun _ => Ev c a ρ2 fun q ρ3 => Op (Vw.get ρ3 i) fun x => Op (lD x) fun l => Op (iD q) fun j => Op (ixN l.length j) fun k => Op (Vw.get (put ρ3 i (.list (l.set k d1))) i) fun _ => Ev c b (put ρ3 i (.list (l.set k d1))) fun p ρ4 => Op (Vw.get ρ4 i) fun x2 => Op (lD x2) fun l2 => Op (iD p) fun j2 => Op (ixN l2.length j2) fun k2 => K.N (put ρ4 i (.list (l2.set k2 d2))) := by
  constructor
  · rintro ⟨r, e0, h⟩
    obtain ⟨⟨d1, ρ1⟩, e1, e0⟩ := bind_inv (show (ev c e ρ).bind _ = _ from e0)
    obtain ⟨⟨d2, ρ2⟩, e2, e0⟩ := bind_inv e0
    obtain ⟨y, e3, e0⟩ := bind_inv e0
    obtain ⟨⟨q, ρ3⟩, e4, e0⟩ := bind_inv e0
    obtain ⟨x, e5, e0⟩ := bind_inv e0
    cases x with
    | list l =>
      cases q with
      | int j =>
        obtain ⟨k, e6, e0⟩ := bind_inv e0
        obtain ⟨z, e7, e0⟩ := bind_inv e0
        obtain ⟨⟨p, ρ4⟩, e8, e0⟩ := bind_inv e0
        obtain ⟨x2, e9, e0⟩ := bind_inv e0
        cases x2 with
        | list l2 =>
          cases p with
          | int j2 =>
            obtain ⟨k2, e10, rfl⟩ := map_inv e0
            exact ⟨_, e1, _, e2, y, e3, _, e4, _, e5, _, rfl, _, rfl, k, e6, z, e7, _, e8, _, e9, _, rfl, _, rfl, k2, e10, h⟩
          | _ => cases e0
        | _ => cases e0
      | _ => cases e0
    | _ => cases e0
  · rintro ⟨⟨d1, ρ1⟩, e1, ⟨d2, ρ2⟩, e2, y, e3, ⟨q, ρ3⟩, e4, x, e5, l, e6, j, e7, k, e8, z, e9, ⟨p, ρ4⟩, e10, x2, e11, l2, e12, j2, e13, k2, e14, h⟩
    cases x <;> cases e6
    cases q <;> cases e7
    cases x2 <;> cases e12
    cases p <;> cases e13
    refine ⟨.nx _, ?_, h⟩
    show (ev c e ρ).bind _ = _
    rw [e1]
    show (ev c f ρ1).bind _ = _
    rw [e2]
    show (Vw.get ρ2 i).bind _ = _
    rw [e3]
    show (ev c a ρ2).bind _ = _
    rw [e4]
    show (Vw.get ρ3 i).bind _ = _
    rw [e5]
    show (ixN l.length j).bind _ = _
    rw [e8]
    show (Vw.get (put ρ3 i (.list (l.set k d1))) i).bind _ = _
    rw [e9]
    show (ev c b (put ρ3 i (.list (l.set k d1)))).bind _ = _
    rw [e10]
    show (Vw.get ρ4 i).bind _ = _
    rw [e11]
    show (ixN l2.length j2).map _ = _
    rw [e14]
    rfl
@[simp ↓] theorem q_apc : WpS c (.apc i a) ρ K ↔ Op (Vw.get ρ i) fun x => Ev c a ρ fun q _ => Op (lD x) fun m => Op (iD q) fun j => Op (ixN m.length j) fun k => Op (m[k]?) fun y => Op (lD y) fun l => lenOk (m.length + 1) = true ∧ K.N (put ρ i (.list (m ++ [.list l]))) := by
  constructor
  · rintro ⟨r, e0, h⟩
    obtain ⟨x, e1, e0⟩ := bind_inv (show (Vw.get ρ i).bind _ = _ from e0)
    obtain ⟨⟨q, ρ1⟩, e2, e0⟩ := bind_inv e0
    cases x with
    | list m =>
      cases q with
      | int j =>
        obtain ⟨k, e4, e0⟩ := bind_inv (show (ixN m.length j).bind _ = _ from e0)
        obtain ⟨y, e5, e0⟩ := bind_inv e0
        cases y with
        | list l =>
          have e0 : (if lenOk (m.length + 1) = true then some (Rs.nx (put ρ i (.list (m ++ [.list l])))) else none) = some r := e0
          split at e0
          · rename_i cl
            cases e0
            exact ⟨_, e1, _, e2, _, rfl, _, rfl, k, e4, _, e5, _, rfl, cl, h⟩
          · cases e0
        | _ => cases e0
      | _ => cases e0
    | _ => cases e0
  · rintro ⟨x, e1, ⟨q, ρ1⟩, e2, m, e4, j, e5, k, e7, y, e8, l, e9, cl, h⟩
    cases x <;> cases e4
    cases q <;> cases e5
    cases y <;> cases e9
    refine ⟨.nx _, ?_, h⟩
    show (Vw.get ρ i).bind _ = _
    rw [e1]
    show (ev c a ρ).bind _ = _
    rw [e2]
    show (ixN m.length j).bind _ = _
    rw [e7]
    show (m[k]?).bind _ = _
    rw [e8]
    exact if_pos cl
@[simp ↓] theorem v_lnr : Ev c (.lnr i a) ρ Q ↔ Op (Vw.get ρ i) fun x => Ev c a ρ fun q _ => Op (lD x) fun m => Op (iD q) fun j => Op (ixN m.length j) fun k => Op (m[k]?) fun y => Op (lD y) fun l => Q (.int l.length) ρ := by
  constructor
  · rintro ⟨r, e0, h⟩
    obtain ⟨x, e1, e0⟩ := bind_inv (show (Vw.get ρ i).bind _ = _ from e0)
    obtain ⟨⟨q, ρ1⟩, e2, e0⟩ := bind_inv e0
    cases x with
    | list m =>
      cases q with
      | int j =>
        obtain ⟨k, e4, e0⟩ := bind_inv (show (ixN m.length j).bind _ = _ from e0)
        obtain ⟨y, e5, e0⟩ := bind_inv e0
        cases y with
        | list l =>
          cases e0
          exact ⟨_, e1, _, e2, _, rfl, _, rfl, k, e4, _, e5, _, rfl, h⟩
        | _ => cases e0
      | _ => cases e0
    | _ => cases e0
  · rintro ⟨x, e1, ⟨q, ρ1⟩, e2, m, e4, j, e5, k, e7, y, e8, l, e9, h⟩
    cases x <;> cases e4
    cases q <;> cases e5
    cases y <;> cases e9
    refine ⟨((.int (l.length : Nat) : D), ρ), ?_, h⟩
    show (Vw.get ρ i).bind _ = _
    rw [e1]
    show (ev c a ρ).bind _ = _
    rw [e2]
    show (ixN m.length j).bind _ = _
    rw [e7]
    show (m[k]?).bind _ = _
    rw [e8]
    rfl
@[simp ↓] theorem v_ln {i : Nat} : Ev c (.ln i) ρ Q ↔ Op (Vw.get ρ i) fun x => Op (lD x) fun l => Q (.int l.length) ρ := by
  refine Iff.trans Op_bind (exists_congr fun x => and_congr_right fun _ => ?_)
  cases x with
  | list l => exact Iff.trans Op_map (Iff.trans Op_some (Iff.symm Op_some))
  | _ => exact Iff.trans Op_map (Iff.trans Op_none Op_none.symm)
@[simp ↓] theorem v_rvl {o : O} : Ev c (.rvl o) ρ Q ↔ EvO c o ρ fun x ρ1 => Op (lD x) fun l => Q (.list l.reverse) ρ1 := by
  refine Iff.trans Op_bind (exists_congr fun r => and_congr_right fun _ => ?_)
  obtain ⟨x, ρ1⟩ := r
  cases x with
  | list l => exact Iff.trans Op_some (Iff.symm Op_some)
  | _ => exact Iff.trans Op_none Op_none.symm
@[simp ↓] theorem v_ltd : Ev c (.ltd a b) ρ Q ↔ Ev c a ρ fun x ρ1 => Ev c b ρ1 fun y ρ2 => (PySem.W.alike x y = true ∧ isNone x = false ∧ x.depth ≤ 64) ∧ Q (.bool (PySem.W.dataLt x y)) ρ2 := by
  refine Iff.trans Op_bind (exists_congr fun r => and_congr_right fun _ => Iff.trans Op_bind (exists_congr fun q => and_congr_right fun _ => ?_))
  exact Iff.trans Op_ite (and_congr_right fun _ => Op_some)
/-- how many different ones there are -/
def kinds (ns : List Int) : Nat := (PyProof.Rows.firstMet (fun i => ns.getD i 0) ns.length).length
theorem v_lst0 {l : List Int} {ρ' : Rho} (h : ev c a ρ = some (.list (l.map .int), ρ')) (hl : l.length ≤ 4000) : ev c (.lst0 a) ρ = some (.int (kinds l : Nat), ρ') := by
  show (ev c a ρ).bind _ = _
  rw [h]
  show (intsD (l.map .int)).bind _ = _
  rw [intsD_map]
  exact if_pos hl
@[simp ↓] theorem q_pops : WpS c (.pops i) ρ K ↔ Op (Vw.get ρ i) fun x => Op (lD x) fun l => l.isEmpty = false ∧ K.N (put ρ i (.list l.dropLast)) := by
  constructor
  · rintro ⟨r, e0, h⟩
    obtain ⟨x, e1, e0⟩ := bind_inv (show (Vw.get ρ i).bind _ = _ from e0)
    cases x with
    | list l =>
      have e0 : (if l.isEmpty = false then some (Rs.nx (put ρ i (.list l.dropLast))) else none) = some r := e0
      split at e0
      · rename_i cl
        cases e0
        exact ⟨_, e1, _, rfl, cl, h⟩
      · cases e0
    | _ => cases e0
  · rintro ⟨x, e1, l, e2, cl, h⟩
    cases x <;> cases e2
    refine ⟨.nx _, ?_, h⟩
    show (Vw.get ρ i).bind _ = _
    rw [e1]
    exact if_pos cl
@[simp ↓] theorem q_rca : WpS c (.rca i a e) ρ K ↔ Op (Vw.get ρ i) fun x => Ev c a ρ fun q _ => Ev c e ρ fun r _ => Op (lD x) fun m => Op (iD q) fun j => Op (iD r) fun n => Op (ixN m.length j) fun k => Op (m[k]?) fun y => Op (lD y) fun l => lenOk (l.length + 1) = true ∧ K.N (put ρ i (.list (m.set k (.list (l ++ [.int n]))))) := by
  constructor
  · rintro ⟨r, e0, h⟩
    obtain ⟨x, e1, e0⟩ := bind_inv (show (Vw.get ρ i).bind _ = _ from e0)
    obtain ⟨⟨q, ρ1⟩, e2, e0⟩ := bind_inv e0
    obtain ⟨⟨n, ρ2⟩, e3, e0⟩ := bind_inv e0
    cases x with
    | list m =>
      cases q with
      | int j =>
        cases n with
        | int n =>
          obtain ⟨k, e4, e0⟩ := bind_inv (show (ixN m.length j).bind _ = _ from e0)
          obtain ⟨y, e5, e0⟩ := bind_inv e0
          cases y with
          | list l =>
            have e0 : (if lenOk (l.length + 1) = true then some (Rs.nx (put ρ i (.list (m.set k (.list (l ++ [.int n])))))) else none) = some r := e0
            split at e0
            · rename_i cl
              cases e0
              exact ⟨_, e1, _, e2, _, e3, _, rfl, _, rfl, _, rfl, k, e4, _, e5, _, rfl, cl, h⟩
            · cases e0
          | _ => cases e0
        | _ => cases e0
      | _ => cases e0
    | _ => cases e0
  · rintro ⟨x, e1, ⟨q, ρ1⟩, e2, ⟨r, ρ2⟩, e3, m, e4, j, e5, n, e6, k, e7, y, e8, l, e9, cl, h⟩
    cases x <;> cases e4
    cases q <;> cases e5
    cases r <;> cases e6
    cases y <;> cases e9
    refine ⟨.nx _, ?_, h⟩
    show (Vw.get ρ i).bind _ = _
    rw [e1]
    show (ev c a ρ).bind _ = _
    rw [e2]
    show (ev c e ρ).bind _ = _
    rw [e3]
    show (ixN m.length j).bind _ = _
    rw [e7]
    show (m[k]?).bind _ = _
    rw [e8]
    exact if_pos cl
/-- a comprehension that changes the names as it goes -/
theorem comp_I {α : Type} {l : List α} {g : α → D} (hi : Gives c it ρ (l.map g) ρ') (P : D → Prop) (J : Rho → Prop) (h0 : J (wipeD ρ' ws)) (hl : l.length ≤ 16777216)
    (step : ∀ d ∈ l, ∀ ρ, J ρ → Op (tgD tg (g d) ρ) fun ρ1 => Ev c elt ρ1 fun x ρ2 => P x ∧ J (wipeD ρ2 ws)) (fin : ∀ ds ρ, ds.length = l.length → (∀ x ∈ ds, P x) → J ρ → Q (.list ds) ρ) : Ev c (.comp elt tg it .no ws) ρ Q := by
  obtain ⟨d, ρ', e, h⟩ := ev_comp (elt := elt) (tg := tg) (cd := .no) (ws := ws) hi (fun acc k ρ => acc.length = k ∧ (∀ x ∈ acc, P x) ∧ J ρ) ⟨rfl, (fun x h => nomatch h), h0⟩ (fun i hi acc ρ hI => by
    obtain ⟨h1, h2, h3⟩ := hI
    have hi' : i < l.length := by rw [List.length_map] at hi; exact hi
    obtain ⟨ρ1, e1, ⟨x, ρ2⟩, e2, e3, e4⟩ := step l[i] (List.getElem_mem hi') ρ h3
    refine ⟨ρ1, true, ρ1, by rw [List.getElem_map]; exact e1, rfl, (fun z => nomatch z), fun _ => ⟨x, ρ2, e2, by simp [h1], fun y hy => ?_, e4⟩⟩
    rcases List.mem_append.mp hy with hy | hy
    · exact h2 y hy
    · rw [List.mem_singleton.mp hy]; exact e3) (Q := Q) (fun out ρ hI => by
    obtain ⟨h1, h2, h3⟩ := hI
    rw [List.length_map] at h1
    exact ⟨by omega, ρ, rfl, fin out ρ h1 h2 h3⟩)
  exact ⟨_, e, h⟩
end
/-- numbers only -/
theorem ints_of : ∀ {ds : List D}, (∀ x ∈ ds, ∃ i : Int, x = .int i) → ∃ l : List Int, ds = l.map .int
  | [], _ => ⟨[], rfl⟩
  | d :: ds, h => by
    obtain ⟨i, rfl⟩ := h d List.mem_cons_self
    obtain ⟨l, rfl⟩ := ints_of (ds := ds) fun x hx => h x (List.mem_cons_of_mem _ hx)
    exact ⟨i :: l, rfl⟩
/-- for x in range(n - 1, -1, -1), n told without a change -/
theorem for_dn {c : Cf} {K : Po} {e : E} {b : Ss} {ρ : Rho} {x : Nat} {n : Nat} (he : Ev c e ρ fun x ρ' => x = .int ((n : Int) - 1) ∧ ρ' = ρ) (hn : n ≤ 1000000000) (I : Nat → Rho → Prop) (h0 : I n ρ)
    (step : ∀ i, i < n → ∀ ρ, I (i + 1) ρ → Wp c b (put ρ x (.int (i : Int))) { K with N := I i, C := I i, B := K.N }) (fin : ∀ ρ, I 0 ρ → K.N ρ) : WpS c (.for (.n x) (.r3 e (.neg (.k (.int 1))) (.neg (.k (.int 1)))) b) ρ K :=
  for_r3d (ρ0 := ρ) (ρ1 := ρ) (ρ2 := ρ) he (by simp) (by simp) hn I h0 step fin
@[simp] theorem isi_ll {l : List D} : isiD .l (.list l) = some true := rfl
@[simp] theorem isi_lt {l : List D} : isiD .t (.list l) = some false := rfl
@[simp] theorem isi_llt {l : List D} : isiD .lt (.list l) = some true := rfl
@[simp] theorem isi_tt {l : List D} : isiD .t (.tuple l) = some true := rfl
@[simp] theorem isi_tl {l : List D} : isiD .l (.tuple l) = some false := rfl
@[simp] theorem isi_tlt {l : List D} : isiD .lt (.tuple l) = some true := rfl
theorem cut_to (l : List D) (n : Nat) : cutD l none (some (n : Int)) = l.take n := by
  unfold cutD
  rw [HT.sIx_none, HT.sIx_nat, List.drop_zero, Nat.sub_zero]
  by_cases h : n ≤ l.length
  · rw [Nat.min_eq_left h]
  · rw [Nat.min_eq_right (by omega), List.take_length, List.take_of_length_le (by omega)]
theorem lrep_n {d : D} {k : Int} : lrepD (.list [d]) (.int k) = if -(2 ^ 63) ≤ k ∧ k < 2 ^ 63 ∧ lenOk ([d].length * k.toNat) = true then some (.list (repN k.toNat [d])) else none := rfl
theorem lrep1 {d : D} {n : Nat} (h : n ≤ 16777216) : lrepD (.list [d]) (.int (n : Int)) = some (.list ((List.range n).map fun _ => d)) := by
  have e : (if -(2 ^ 63) ≤ (n : Int) ∧ (n : Int) < 2 ^ 63 ∧ lenOk ([d].length * (n : Int).toNat) = true then some (PyData.list (repN (n : Int).toNat [d])) else none) = some (PyData.list (repN (n : Int).toNat [d])) := if_pos ⟨by omega, by omega, lenOkI.mpr (by simp; omega)⟩
  rw [lrep_n, e]
  unfold repN
  simp [List.map_const']
end Vw
/-! own dicts, general min, max, sorted: for simp; dicts as functions -/
namespace Vw
open PySem PySem.Spec PyProof.Rows L2
section
variable {c : Cf} {ρ ρ' ρ0 ρ1 : Rho} {K : Po} {e a b f elt : E} {tg : Tg} {it : Iv} {cd : Ot} {ws : List Nat} {i : Nat} {Q : D → Rho → Prop} {o : O}
@[simp ↓] theorem v_mmx {g : Bool} : Ev c (.mmx g o) ρ Q ↔ EvO c o ρ fun x ρ1 => Op (seqD x) fun l => Op (bestG g l) fun d => Q d ρ1 := by
  refine Iff.trans Op_bind (exists_congr fun r => and_congr_right fun _ => Iff.trans Op_bind (exists_congr fun l => and_congr_right fun _ => Op_map))
@[simp ↓] theorem v_srr {g : Bool} : Ev c (.srr g o) ρ Q ↔ EvO c o ρ fun x ρ1 => Op (lD x) fun l => Op (sortG g l) fun d => Q d ρ1 := by
  refine Iff.trans Op_bind (exists_congr fun r => and_congr_right fun _ => ?_)
  obtain ⟨x, ρ1⟩ := r
  cases x with
  | list l => exact Iff.trans Op_map (Iff.symm Op_some)
  | _ => exact Iff.trans Op_none Op_none.symm
/-- a dict's data, nothing else; what stands at a key -/
def dLk (x : D) (j : Key) : Option D := (dKs x).bind fun k => dGet k.1 k.2 j
def dSet (x : D) (j : Key) (d : D) : D := match dKs x with
  | some k => dPut k.1 k.2 j d
  | none => x
def dLen (x : D) : Nat := match dKs x with
  | some k => k.1.length
  | none => 0
@[simp ↓] theorem v_dnw : Ev c .dnw ρ Q ↔ Q (dctD [] []) ρ := Op_some
@[simp ↓] theorem v_dgt : Ev c (.dgt i a) ρ Q ↔ Op (Vw.get ρ i) fun _ => Ev c a ρ fun q ρ1 => Op (Vw.get ρ1 i) fun x => Op (keyOf q) fun j => Op (dLk x j) fun d => Q d ρ1 := by
  refine Iff.trans Op_bind (exists_congr fun _ => and_congr_right fun _ => Iff.trans Op_bind (exists_congr fun r => and_congr_right fun _ => Iff.trans Op_bind (exists_congr fun x => and_congr_right fun _ => ?_)))
  constructor
  · rintro ⟨z, e, h⟩
    obtain ⟨k, e1, e⟩ := bind_inv e
    obtain ⟨j, e2, e⟩ := bind_inv e
    obtain ⟨d, e3, rfl⟩ := map_inv e
    exact ⟨j, e2, d, by unfold dLk; rw [e1]; exact e3, h⟩
  · rintro ⟨j, e2, d, e3, h⟩
    obtain ⟨k, e1, e3⟩ := bind_inv e3
    exact ⟨_, by rw [e1]; show (keyOf r.1).bind _ = _; rw [e2]; show (dGet k.1 k.2 j).map _ = _; rw [e3]; rfl, h⟩
@[simp ↓] theorem v_dgd : Ev c (.dgd i a b) ρ Q ↔ Op (Vw.get ρ i) fun x0 => Op (dKs x0) fun _ => Ev c a ρ fun q ρ1 => Ev c b ρ1 fun p ρ2 => Op (Vw.get ρ2 i) fun x => Op (dKs x) fun _ => Op (keyOf q) fun j => Q ((dLk x j).getD p) ρ2 := by
  refine Iff.trans Op_bind (exists_congr fun _ => and_congr_right fun _ => Iff.trans Op_bind (exists_congr fun _ => and_congr_right fun _ => Iff.trans Op_bind (exists_congr fun r => and_congr_right fun _ => Iff.trans Op_bind (exists_congr fun p => and_congr_right fun _ => Iff.trans Op_bind (exists_congr fun x => and_congr_right fun _ => Iff.trans Op_bind (exists_congr fun k => and_congr_right fun ek => Iff.trans Op_map (exists_congr fun j => and_congr_right fun _ => ?_)))))))
  unfold dLk
  rw [ek]
  exact Iff.rfl
@[simp ↓] theorem v_din {ng : Bool} : Ev c (.din ng a i) ρ Q ↔ Ev c a ρ fun q ρ1 => Op (Vw.get ρ1 i) fun x => Op (dKs x) fun _ => Op (keyOf q) fun j => Q (.bool ((dLk x j).isSome != ng)) ρ1 := by
  refine Iff.trans Op_bind (exists_congr fun r => and_congr_right fun _ => Iff.trans Op_bind (exists_congr fun x => and_congr_right fun _ => Iff.trans Op_bind (exists_congr fun k => and_congr_right fun ek => Iff.trans Op_map (exists_congr fun j => and_congr_right fun _ => ?_))))
  unfold dLk
  rw [ek]
  exact Iff.rfl
@[simp ↓] theorem q_dpt : WpS c (.dpt i a e) ρ K ↔ Ev c e ρ fun d ρ1 => Op (Vw.get ρ1 i) fun _ => Ev c a ρ1 fun q ρ2 => Op (Vw.get ρ2 i) fun x => Op (keyOf q) fun j => ((dKs x).isSome = true ∧ dLen x < 16777216) ∧ K.N (put ρ2 i (dSet x j d)) := by
  constructor
  · rintro ⟨r, e0, h⟩
    obtain ⟨⟨d, ρ1⟩, e1, e0⟩ := bind_inv (show (ev c e ρ).bind _ = _ from e0)
    obtain ⟨y, e2, e0⟩ := bind_inv e0
    obtain ⟨⟨q, ρ2⟩, e3, e0⟩ := bind_inv e0
    obtain ⟨x, e4, e0⟩ := bind_inv e0
    obtain ⟨k, e5, e0⟩ := bind_inv e0
    obtain ⟨j, e6, e0⟩ := bind_inv e0
    have e0 : (if k.1.length < sizeLine then some (Rs.nx (put ρ2 i (dPut k.1 k.2 j d))) else none) = some r := e0
    split at e0
    · rename_i cl
      cases e0
      have e7 : dSet x j d = dPut k.1 k.2 j d := by unfold dSet; rw [e5]
      have e8 : dLen x = k.1.length := by unfold dLen; rw [e5]
      refine ⟨_, e1, _, e2, _, e3, _, e4, _, e6, ⟨by rw [e5]; rfl, by rw [e8]; rw [sizeLine_eq] at cl; omega⟩, ?_⟩
      show K.N (put ρ2 i (dSet x j d))
      rw [e7]
      exact h
    · cases e0
  · rintro ⟨⟨d, ρ1⟩, e1, y, e2, ⟨q, ρ2⟩, e3, x, e4, j, e6, ⟨hs, hl⟩, h⟩
    obtain ⟨k, e5⟩ := Option.isSome_iff_exists.mp hs
    have e7 : dSet x j d = dPut k.1 k.2 j d := by unfold dSet; rw [e5]
    have e8 : dLen x = k.1.length := by unfold dLen; rw [e5]
    rw [e8] at hl
    refine ⟨.nx (put ρ2 i (dPut k.1 k.2 j d)), ?_, ?_⟩
    · show (ev c e ρ).bind _ = _
      rw [e1]
      show (Vw.get ρ1 i).bind _ = _
      rw [e2]
      show (ev c a ρ1).bind _ = _
      rw [e3]
      show (Vw.get ρ2 i).bind _ = _
      rw [e4]
      show (dKs x).bind _ = _
      rw [e5]
      show (keyOf q).bind _ = _
      rw [e6]
      exact if_pos (by rw [sizeLine_eq]; omega)
    · show K.N (put ρ2 i (dPut k.1 k.2 j d))
      rw [← e7]
      exact h
end
@[simp] theorem keyOf_int {i : Int} : keyOf (.int i) = some (.inl i) := rfl
@[simp] theorem keyOf_str {x : Str} : keyOf (.str x) = some (.inr x) := rfl
/-- x is a dict of n keys at most, f what stands in it -/
structure DctOf (x : D) (n : Nat) (f : Key → Option D) : Prop where
  ok : ∃ ks ds, x = dctD ks ds ∧ ks.length = ds.length ∧ ks.length ≤ n
  lk : ∀ j, dLk x j = f j
theorem DctOf.isd {x : D} {n : Nat} {f : Key → Option D} (h : DctOf x n f) : (dKs x).isSome = true := by
  obtain ⟨ks, ds, rfl, hl, _⟩ := h.ok
  rw [dKs_dct hl]
  rfl
theorem DctOf.some {x : D} {n : Nat} {f : Key → Option D} (h : DctOf x n f) : ∃ k, dKs x = some k := Option.isSome_iff_exists.mp h.isd
theorem DctOf.len {x : D} {n : Nat} {f : Key → Option D} (h : DctOf x n f) : dLen x ≤ n := by
  obtain ⟨ks, ds, rfl, hl, hn⟩ := h.ok
  unfold dLen
  rw [dKs_dct hl]
  exact hn
theorem dget_put {j i : Key} {d : D} : ∀ {ks : List Key} {ds : List D}, ks.length = ds.length → (dGet ks ds j).isSome = true → dGet ks (dPutV ks ds j d) i = if i = j then some d else dGet ks ds i
  | [], [], _, h => by cases h
  | k :: ks, e :: ds, hl, h => by
    rw [dPutV]
    by_cases q : k = j
    · subst q
      rw [if_pos rfl, dGet, dGet]
      by_cases z : k = i
      · rw [if_pos z, if_pos z.symm]
      · rw [if_neg z, if_neg (fun e => z e.symm), if_neg z]
        by_cases z2 : (dGet ks ds k).isSome = true
        · have := dget_put (j := k) (i := i) (d := d) (ks := ks) (ds := ds) (by simpa using hl) z2
          rwa [if_neg (fun e => z e.symm)] at this
        · have : ∀ {ks : List Key} {ds : List D}, ks.length = ds.length → dGet ks ds k = none → dPutV ks ds k d = ds := fun {ks} => by
            induction ks with
            | nil => intro ds h1 _; cases ds with | nil => rfl | cons _ _ => simp at h1
            | cons a ks ih =>
              intro ds h1 h2
              cases ds with
              | nil => simp at h1
              | cons b ds =>
                rw [dGet] at h2
                by_cases y : a = k
                · rw [if_pos y] at h2; cases h2
                · rw [if_neg y] at h2
                  rw [dPutV, if_neg y, ih (by simpa using h1) h2]
          rw [this (by simpa using hl) (by simpa using z2)]
    · rw [if_neg q, dGet]
      rw [dGet, if_neg q] at h
      rw [dget_put (by simpa using hl) h]
      by_cases z : k = i
      · subst z
        rw [if_pos rfl, if_neg q, dGet, if_pos rfl]
      · rw [if_neg z, dGet, if_neg z]
  | [], _ :: _, hl, _ => by simp at hl
  | _ :: _, [], hl, _ => by simp at hl
theorem dget_snoc {j i : Key} {d : D} : ∀ {ks : List Key} {ds : List D}, ks.length = ds.length → dGet ks ds j = none → dGet (ks ++ [j]) (ds ++ [d]) i = if i = j then some d else dGet ks ds i
  | [], [], _, _ => by
    show dGet [j] [d] i = _
    rw [dGet]
    by_cases z : j = i
    · rw [if_pos z, if_pos z.symm]
    · rw [if_neg z, if_neg (fun e => z e.symm)]
  | k :: ks, e :: ds, hl, h => by
    rw [dGet] at h
    by_cases q : k = j
    · rw [if_pos q] at h; cases h
    · rw [if_neg q] at h
      show dGet (k :: (ks ++ [j])) (e :: (ds ++ [d])) i = _
      rw [dGet, dget_snoc (by simpa using hl) h]
      by_cases z : k = i
      · subst z
        rw [if_pos rfl, if_neg q, dGet, if_pos rfl]
      · rw [if_neg z, dGet, if_neg z]
  | [], _ :: _, hl, _ => by simp at hl
  | _ :: _, [], hl, _ => by simp at hl
theorem DctOf.nil {n : Nat} : DctOf (dctD [] []) n fun _ => none := ⟨⟨[], [], rfl, rfl, Nat.zero_le _⟩, fun j => rfl⟩
theorem DctOf.set {x : D} {n : Nat} {f : Key → Option D} (h : DctOf x n f) (j : Key) (d : D) : DctOf (dSet x j d) (n + 1) fun i => if i = j then Option.some d else f i := by
  obtain ⟨ks, ds, rfl, hl, hn⟩ := h.ok
  have lk := h.lk
  unfold dLk at lk
  rw [dKs_dct hl] at lk
  have lk : ∀ i, dGet ks ds i = f i := lk
  have e : dSet (dctD ks ds) j d = dPut ks ds j d := by unfold dSet; rw [dKs_dct hl]
  rw [e]
  unfold dPut
  split
  · rename_i c
    have hl2 : ks.length = (dPutV ks ds j d).length := (dPutV_len hl).symm
    refine ⟨⟨ks, _, rfl, hl2, by omega⟩, fun i => ?_⟩
    unfold dLk
    rw [dKs_dct hl2]
    show dGet ks (dPutV ks ds j d) i = _
    rw [dget_put hl c, lk i]
  · rename_i c
    have hl2 : (ks ++ [j]).length = (ds ++ [d]).length := by rw [List.length_append, List.length_append, hl]; rfl
    refine ⟨⟨_, _, rfl, hl2, by rw [List.length_append, List.length_singleton]; omega⟩, fun i => ?_⟩
    unfold dLk
    rw [dKs_dct hl2]
    show dGet (ks ++ [j]) (ds ++ [d]) i = _
    have c : dGet ks ds j = none := by simpa using c
    rw [dget_snoc hl c, lk i]
/-! ### the best of a few numbers -/
@[simp] theorem best2 {g : Bool} {a b : Int} : bestG g [.int a, .int b] = some (.int (if g = true then max a b else min a b)) := by
  have h : (if alikeB [PyData.int a, .int b] = true ∧ noNone [PyData.int a, .int b] = true ∧ decide (PyData.depthAll [PyData.int a, .int b] ≤ 50) = true then some (if g = true then PySem.W.maxD (.int a) [.int b] else PySem.W.minD (.int a) [.int b]) else none) = some (if g = true then PySem.W.maxD (.int a) [.int b] else PySem.W.minD (.int a) [.int b]) := if_pos ⟨rfl, rfl, rfl⟩
  refine Eq.trans h ?_
  cases g with
  | true => exact congrArg some (PySem.W.maxD_ints a [b])
  | false => exact congrArg some (PySem.W.minD_ints a [b])
theorem alikeB_ints (ns : List Int) : alikeB (ns.map .int) = true := by
  unfold alikeB
  rw [List.all_eq_true]
  intro x hx
  rw [List.all_eq_true]
  intro y hy
  obtain ⟨i, _, rfl⟩ := List.mem_map.mp hx
  obtain ⟨j, _, rfl⟩ := List.mem_map.mp hy
  rfl
theorem noNone_ints (ns : List Int) : noNone (ns.map .int) = true := by
  unfold noNone
  rw [List.all_eq_true]
  intro x hx
  obtain ⟨i, _, rfl⟩ := List.mem_map.mp hx
  rfl
theorem depth_ints : ∀ ns : List Int, PyData.depthAll (ns.map .int) ≤ 1
  | [] => by simp [PyData.depthAll]
  | n :: ns => by
    have := depth_ints ns
    simp [PyData.depthAll, PyData.depth]
    omega
theorem best_ints {g : Bool} {n : Int} {ns : List Int} : bestG g (.int n :: ns.map .int) = some (.int (if g = true then ns.foldl max n else ns.foldl min n)) := by
  have h : (if alikeB ((n :: ns).map PyData.int) = true ∧ noNone ((n :: ns).map PyData.int) = true ∧ decide (PyData.depthAll ((n :: ns).map PyData.int) ≤ 50) = true then some (if g = true then PySem.W.maxD (.int n) (ns.map .int) else PySem.W.minD (.int n) (ns.map .int)) else none) = some (if g = true then PySem.W.maxD (.int n) (ns.map .int) else PySem.W.minD (.int n) (ns.map .int)) := if_pos ⟨alikeB_ints _, noNone_ints _, decide_eq_true (by have := depth_ints (n :: ns); omega)⟩
  refine Eq.trans h ?_
  cases g with
  | true => exact congrArg some (PySem.W.maxD_ints n ns)
  | false => exact congrArg some (PySem.W.minD_ints n ns)
end Vw
/-! what raises, for simp; walks that leave the names as they are -/
namespace Vw
open PySem PySem.Spec PyProof.Rows L2
/-- what becomes of what a call hands back -/
def XrQ (x : Xr) (r : D → Prop) (e : Str → Fs → Prop) : Prop := match x with
  | .ret d _ => r d
  | .exn x fs => e x fs
@[simp] theorem XrQ_ret {d : D} {o : List D} {r : D → Prop} {e : Str → Fs → Prop} : XrQ (.ret d o) r e ↔ r d := Iff.rfl
@[simp] theorem XrQ_exn {x : Str} {fs : Fs} {r : D → Prop} {e : Str → Fs → Prop} : XrQ (.exn x fs) r e ↔ e x fs := Iff.rfl
section
variable {c : Cf} {ρ ρ' ρ0 ρ1 : Rho} {K : Po} {f : Str} {es : Es} {i : Nat} {a b : Ss} {x : Str} {h : Hs} {Q : D → Rho → Prop}
@[simp ↓] theorem q_rse {ns : List Str} : WpS c (.rse x ns es) ρ K ↔ EvL c es ρ fun ds ρ1 => ns.length = ds.length ∧ K.X x (ns.zip ds) ρ1 := by
  constructor
  · rintro ⟨r, e, q⟩
    obtain ⟨p, e1, e⟩ := bind_inv (show (evs c es ρ).bind _ = _ from e)
    split at e
    · rename_i cl
      cases e
      exact ⟨p, e1, cl, q⟩
    · cases e
  · rintro ⟨p, e1, cl, q⟩
    exact ⟨.exn x (ns.zip p.1) p.2, by show (evs c es ρ).bind _ = _; rw [e1]; exact if_pos cl, q⟩
@[simp ↓] theorem q_cx : WpS c (.cx f es) ρ K ↔ EvL c es ρ fun ds ρ1 => Op (c.fx f ds) fun x => XrQ x (fun _ => K.N ρ1) fun x fs => K.X x fs ρ1 := by
  constructor
  · rintro ⟨r, e, q⟩
    obtain ⟨p, e1, e⟩ := bind_inv (show (evs c es ρ).bind _ = _ from e)
    obtain ⟨x, e2, e⟩ := bind_inv e
    refine ⟨p, e1, x, e2, ?_⟩
    cases x <;> cases e <;> exact q
  · rintro ⟨p, e1, x, e2, q⟩
    cases x with
    | ret d o => exact ⟨.nx p.2, by show (evs c es ρ).bind _ = _; rw [e1]; show (c.fx f p.1).bind _ = _; rw [e2]; rfl, q⟩
    | exn y fs => exact ⟨.exn y fs p.2, by show (evs c es ρ).bind _ = _; rw [e1]; show (c.fx f p.1).bind _ = _; rw [e2]; rfl, q⟩
@[simp ↓] theorem q_rtx : WpS c (.rtx f es) ρ K ↔ EvL c es ρ fun ds ρ1 => Op (c.fx f ds) fun x => XrQ x (fun d => K.R d ρ1) fun x fs => K.X x fs ρ1 := by
  constructor
  · rintro ⟨r, e, q⟩
    obtain ⟨p, e1, e⟩ := bind_inv (show (evs c es ρ).bind _ = _ from e)
    obtain ⟨x, e2, e⟩ := bind_inv e
    refine ⟨p, e1, x, e2, ?_⟩
    cases x <;> cases e <;> exact q
  · rintro ⟨p, e1, x, e2, q⟩
    cases x with
    | ret d o => exact ⟨.ret d p.2, by show (evs c es ρ).bind _ = _; rw [e1]; show (c.fx f p.1).bind _ = _; rw [e2]; rfl, q⟩
    | exn y fs => exact ⟨.exn y fs p.2, by show (evs c es ρ).bind _ = _; rw [e1]; show (c.fx f p.1).bind _ = _; rw [e2]; rfl, q⟩
@[simp ↓] theorem q_sx : WpS c (.sx i f es) ρ K ↔ EvL c es ρ fun ds ρ1 => Op (c.fx f ds) fun x => XrQ x (fun d => K.N (put ρ1 i d)) fun x fs => K.X x fs ρ1 := by
  constructor
  · rintro ⟨r, e, q⟩
    obtain ⟨p, e1, e⟩ := bind_inv (show (evs c es ρ).bind _ = _ from e)
    obtain ⟨x, e2, e⟩ := bind_inv e
    refine ⟨p, e1, x, e2, ?_⟩
    cases x <;> cases e <;> exact q
  · rintro ⟨p, e1, x, e2, q⟩
    cases x with
    | ret d o => exact ⟨.nx (put p.2 i d), by show (evs c es ρ).bind _ = _; rw [e1]; show (c.fx f p.1).bind _ = _; rw [e2]; rfl, q⟩
    | exn y fs => exact ⟨.exn y fs p.2, by show (evs c es ρ).bind _ = _; rw [e1]; show (c.fx f p.1).bind _ = _; rw [e2]; rfl, q⟩
@[simp ↓] theorem q_ifx {ng : Bool} : WpS c (.ifx ng f es a b) ρ K ↔ EvL c es ρ fun ds ρ1 => Op (c.fx f ds) fun x => XrQ x (fun d => Br (isNone d != ng) (Wp c a ρ1 K) (Wp c b ρ1 K)) fun x fs => K.X x fs ρ1 := by
  constructor
  · rintro ⟨r, e, q⟩
    obtain ⟨p, e1, e⟩ := bind_inv (show (evs c es ρ).bind _ = _ from e)
    obtain ⟨x, e2, e⟩ := bind_inv e
    refine ⟨p, e1, x, e2, ?_⟩
    cases x with
    | ret d o =>
      have e : (if (isNone d != ng) = true then exSs c a p.2 else exSs c b p.2) = some r := e
      show Br _ _ _
      cases hd : (isNone d != ng) with
      | true => rw [hd] at e; exact Br_true.mpr ⟨r, e, q⟩
      | false => rw [hd] at e; exact Br_false.mpr ⟨r, e, q⟩
    | exn y fs =>
      cases e
      exact q
  · rintro ⟨p, e1, x, e2, q⟩
    cases x with
    | ret d o =>
      have q : Br (isNone d != ng) (Wp c a p.2 K) (Wp c b p.2 K) := q
      cases hd : (isNone d != ng) with
      | true =>
        rw [hd] at q
        obtain ⟨r, e, q⟩ := Br_true.mp q
        exact ⟨r, by show (evs c es ρ).bind _ = _; rw [e1]; show (c.fx f p.1).bind _ = _; rw [e2]; exact (if_pos hd).trans e, q⟩
      | false =>
        rw [hd] at q
        obtain ⟨r, e, q⟩ := Br_false.mp q
        exact ⟨r, by show (evs c es ρ).bind _ = _; rw [e1]; show (c.fx f p.1).bind _ = _; rw [e2]; exact (if_neg (by rw [hd]; decide)).trans e, q⟩
    | exn y fs => exact ⟨.exn y fs p.2, by show (evs c es ρ).bind _ = _; rw [e1]; show (c.fx f p.1).bind _ = _; rw [e2]; rfl, q⟩
@[simp ↓] theorem q_tr : WpS c (.tr a x i h) ρ K ↔ Wp c a ρ { K with X := fun y fs ρ' => (y = x ∧ i < ρ'.length) ∧ Op (hsD y fs (ρ'.set i none) h) fun d => K.R d (ρ'.set i none) } := by
  constructor
  · rintro ⟨r, e, q⟩
    obtain ⟨p, e1, e⟩ := bind_inv (show (exSs c a ρ).bind _ = _ from e)
    refine ⟨p, e1, ?_⟩
    cases p with
    | exn y fs ρ' =>
      have e : (if y = x ∧ i < ρ'.length then (hsD y fs (ρ'.set i none) h).map fun d => Rs.ret d (ρ'.set i none) else none) = some r := e
      split at e
      · rename_i cl
        obtain ⟨d, e2, rfl⟩ := map_inv e
        exact ⟨cl, d, e2, q⟩
      · cases e
    | _ => cases e; exact q
  · intro hp
    exact w_tr (by
      obtain ⟨r, e, q⟩ := hp
      refine ⟨r, e, ?_⟩
      cases r with
      | exn y fs ρ' => exact ⟨q.1.1, q.1.2, q.2⟩
      | _ => exact q)
@[simp ↓] theorem v_cxe : Ev c (.cxe f es) ρ Q ↔ EvL c es ρ fun ds ρ1 => Op (c.fx f ds) fun x => XrQ x (fun d => Q d ρ1) fun _ _ => False := by
  refine Iff.trans Op_bind (exists_congr fun r => and_congr_right fun _ => Iff.trans Op_bind (exists_congr fun x => and_congr_right fun _ => ?_))
  cases x with
  | ret d o => exact Op_some
  | exn y fs => exact Op_none
end
/-- a def that may raise -/
theorem fx_by {c : Cf} {ps : List Ty} {n : Nat} {b : Ss} {ds : List D} {v : Xr} (h : Wp c b (ds.map some ++ List.replicate (n - ds.length) none) ⟨fun ρ => ∃ o, fout ps ds ρ = some o ∧ .ret .none o = v, fun d ρ => ∃ o, fout ps ds ρ = some o ∧ .ret d o = v, fun _ => False, fun _ => False, fun x fs _ => .exn x fs = v⟩) : evX c ps n b ds = some v := by
  obtain ⟨r, e, q⟩ := fx_rule (Q := fun r => r = v) h
  rw [← q]
  exact e
section
variable {c : Cf} {ρ ρ' ρ0 ρ1 : Rho} {K : Po} {e a : E} {α : Type} {l : List α} {g : α → D}
theorem gives_l' (he : Ev c e ρ fun x ρ' => seqD x = some (l.map g) ∧ ρ' = ρ) : Gives c (.o (.e e)) ρ (l.map g) ρ := gives_l he
theorem gives_r1s {n : Nat} (hn : n ≤ 1000000000) (he : Ev c e ρ fun x ρ' => x = .int (n : Int) ∧ ρ' = ρ) : Gives c (.r1 e) ρ ((List.range n).map fun i => .int (i : Nat)) ρ := gives_r1 he hn
theorem gives_r2s {lo n : Nat} (hn : n ≤ 1000000000) (hl : lo ≤ 1000000000) (he : Ev c a ρ fun x ρ' => x = .int (lo : Int) ∧ ρ' = ρ) (he2 : Ev c e ρ fun x ρ' => x = .int (n : Int) ∧ ρ' = ρ) : Gives c (.r2 a e) ρ ((List.range' lo (n - lo)).map fun i => .int (i : Nat)) ρ := gives_r2 he he2 hn hl
theorem gives_en (he : Ev c e ρ fun x ρ' => seqD x = some (l.map g) ∧ ρ' = ρ) : Gives c (.en (.e e)) ρ ((List.range l.length).map fun i => .tuple [.int (i : Nat), (l.map g).getD i .none]) ρ := by
  obtain ⟨⟨y, ρy⟩, h1, h2, h3⟩ := he
  have h3 : ρy = ρ := h3
  subst h3
  show ((ev c e ρy).map _).bind _ = _
  rw [h1]
  show (seqD y).map _ = _
  rw [h2]
  show some (enumD (l.map g), _, _) = _
  unfold enumD
  rw [List.length_map]
end
/-- a sum over things -/
theorem sum_m {c : Cf} {it : Iv} {ρ ρ' ρ0 : Rho} {elt : E} {tg : Tg} {ws : List Nat} {α : Type} {l : List α} {g : α → D} (hi : Gives c it ρ (l.map g) ρ') (f : α → Int) (B : Int) (hB : 0 ≤ B) (hl : (l.length : Int) * B < 2 ^ 63) (hb : ∀ d ∈ l, -B ≤ f d ∧ f d ≤ B) (h0 : wipeD ρ' ws = ρ0)
    (step : ∀ d ∈ l, Op (tgD tg (g d) ρ0) fun ρ1 => Ev c elt ρ1 fun x ρ2 => x = .int (f d) ∧ wipeD ρ2 ws = ρ0) : ev c (.ge .sum elt tg it .no ws) ρ = some (.int (l.map f).sum, ρ0) := by
  have go : ∀ (k : List α) (n : Int), (∀ d ∈ k, d ∈ l) → (-(2 ^ 63) + (k.length : Int) * B < n ∧ n + (k.length : Int) * B < 2 ^ 63) → geL .sum (fun d ρ => (tgD tg d ρ).bind fun ρ1 => (evC c .no ρ1).bind fun b => if b.1 = true then (ev c elt b.2).map fun q => (some q.1, wipeD q.2 ws) else some (none, wipeD b.2 ws)) (k.map g) ρ0 n = some (.int (n + (k.map f).sum), ρ0) := by
    intro k
    induction k with
    | nil =>
      intro n _ _
      show some (PyData.int n, ρ0) = _
      simp
    | cons d k ih =>
      intro n hm hn
      have hlen : ((d :: k).length : Int) * B = (k.length : Int) * B + B := by
        rw [List.length_cons, Int.natCast_add, Int.add_mul]; simp
      have hl0 : 0 ≤ (k.length : Int) * B := Int.mul_nonneg (by omega) hB
      rw [hlen] at hn
      obtain ⟨b1, b2⟩ := hb d (hm d List.mem_cons_self)
      obtain ⟨ρ1, e1, ⟨x, ρ2⟩, e2, e3, e4⟩ := step d (hm d List.mem_cons_self)
      have e3 : x = .int (f d) := e3
      have e4 : wipeD ρ2 ws = ρ0 := e4
      subst e3
      show ((tgD tg (g d) ρ0).bind _).bind _ = _
      rw [e1]
      show (((ev c elt ρ1).map _).bind _) = _
      rw [e2]
      show (if inL (f d) = true ∧ inL (n + f d) = true then geL .sum _ (k.map g) (wipeD ρ2 ws) (n + f d) else none) = _
      rw [if_pos ⟨by unfold inL; simp only [Bool.and_eq_true, decide_eq_true_eq]; omega, by unfold inL; simp only [Bool.and_eq_true, decide_eq_true_eq]; omega⟩, e4, ih (n + f d) (fun d hd => hm d (List.mem_cons_of_mem _ hd)) (by omega), List.map_cons, List.sum_cons, Int.add_assoc]
  show (evI c it ρ).bind _ = _
  rw [hi]
  show (geL .sum _ (l.map g) (wipeD ρ' ws) 0).bind _ = _
  rw [h0, go l 0 (fun _ h => h) (by omega), Int.zero_add]
  rfl
@[simp] theorem seqD_t {l : List D} : seqD (.tuple l) = some l := rfl
@[simp] theorem seqD_l {l : List D} : seqD (.list l) = some l := rfl
/-! ### walks over own lists, held meanwhile -/
section
variable {c : Cf} {ρ ρ' ρ0 ρ1 : Rho} {K : Po} {elt : E} {tg : Tg} {it : Iv} {cd : Ot} {ws : List Nat} {α : Type} {l : List α} {g : α → D} {b : Ss} {Q : D → Rho → Prop}
/-- what is walked, what is held meanwhile -/
def GivesV (c : Cf) (it : Iv) (ρ : Rho) (ds : List D) (ρ' : Rho) (sv : List (Nat × D)) : Prop := evI c it ρ = some (ds, ρ', sv)
theorem gives_s {i : Nat} (h : Vw.get ρ i = some (.list (l.map g))) : GivesV c (.o (.s i)) ρ (l.map g) (ρ.set i none) [(i, .list (l.map g))] := by
  show ((Vw.get ρ i).map _).bind _ = _
  rw [h]
  rfl
theorem gives_ens {i : Nat} (h : Vw.get ρ i = some (.list (l.map g))) : GivesV c (.en (.s i)) ρ ((List.range l.length).map fun i => .tuple [.int (i : Nat), (l.map g).getD i .none]) (ρ.set i none) [(i, .list (l.map g))] := by
  show ((Vw.get ρ i).map _).bind _ = _
  rw [h]
  show some (enumD (l.map g), _, _) = _
  unfold enumD
  rw [List.length_map]
theorem comp_s {sv : List (Nat × D)} (hi : GivesV c it ρ (l.map g) ρ' sv) (p : α → Bool) (f : α → D) (h0 : wipeD ρ' ws = ρ0) (hl : l.length ≤ 16777216) (hb : restD sv ρ0 = some ρ1)
    (step : ∀ d ∈ l, Op (tgD tg (g d) ρ0) fun ρ1 => Op (evC c cd ρ1) fun q => q.1 = p d ∧ Br (p d) (Ev c elt q.2 fun x ρ2 => x = f d ∧ wipeD ρ2 ws = ρ0) (wipeD q.2 ws = ρ0)) :
    ev c (.comp elt tg it cd ws) ρ = some (.list ((l.filter p).map f), ρ1) := by
  have h : ∃ d ρ', ev c (.comp elt tg it cd ws) ρ = some (d, ρ') ∧ d = .list ((l.filter p).map f) ∧ ρ' = ρ1 := by
    refine ev_comp hi (fun acc k ρ => acc = ((l.take k).filter p).map f ∧ ρ = ρ0) ⟨by rw [List.take_zero]; rfl, h0⟩ (fun i hi acc ρ hI => ?_) (Q := fun d ρ' => d = .list ((l.filter p).map f) ∧ ρ' = ρ1) (fun out ρ hI => ?_)
    · obtain ⟨rfl, rfl⟩ := hI
      have hi' : i < l.length := by rw [List.length_map] at hi; exact hi
      obtain ⟨ρ1, e1, ⟨z, ρ2⟩, e2, e3, h3⟩ := step l[i] (List.getElem_mem hi')
      have e3 : z = p l[i] := e3
      subst e3
      refine ⟨ρ1, p l[i], ρ2, by rw [List.getElem_map]; exact e1, e2, fun hz => ?_, fun hz => ?_⟩
      · rw [hz] at h3
        refine ⟨?_, Br_false.mp h3⟩
        rw [List.take_succ_eq_append_getElem hi', List.filter_append, List.map_append]
        simp [hz]
      · rw [hz] at h3
        obtain ⟨⟨x, ρ3⟩, e4, e5, e6⟩ := Br_true.mp h3
        have e5 : x = f l[i] := e5
        subst e5
        refine ⟨_, ρ3, e4, ?_, e6⟩
        rw [List.take_succ_eq_append_getElem hi', List.filter_append, List.map_append]
        simp [hz]
    · obtain ⟨rfl, rfl⟩ := hI
      have e9 : (l.map g).length = l.length := List.length_map _
      rw [e9, List.take_length]
      have h9 := List.length_filter_le p l
      exact ⟨by rw [List.length_map]; omega, _, hb, rfl, rfl⟩
  obtain ⟨d, ρ2, e, rfl, rfl⟩ := h
  exact e
theorem comp_sy {sv : List (Nat × D)} (hi : GivesV c it ρ (l.map g) ρ' sv) (f : α → D) (h0 : wipeD ρ' ws = ρ0) (hl : l.length ≤ 16777216) (hb : restD sv ρ0 = some ρ1)
    (step : ∀ d ∈ l, Op (tgD tg (g d) ρ0) fun ρ1 => Ev c elt ρ1 fun x ρ2 => x = f d ∧ wipeD ρ2 ws = ρ0) :
    ev c (.comp elt tg it .no ws) ρ = some (.list (l.map f), ρ1) := by
  have h := comp_s (cd := .no) (elt := elt) (tg := tg) hi (fun _ => true) f h0 hl hb fun d hd => by
    obtain ⟨ρ1, e1, e2⟩ := step d hd
    exact ⟨ρ1, e1, (true, ρ1), rfl, rfl, Br_true.mpr e2⟩
  rwa [List.filter_eq_self.mpr fun _ _ => rfl] at h
theorem for_s {sv : List (Nat × D)} (hi : GivesV c it ρ (l.map g) ρ1 sv) (I : Nat → Rho → Prop) (h0 : I 0 ρ1)
    (step : ∀ i (h : i < l.length) ρ, I i ρ → Op (tgD tg (g l[i]) ρ) fun ρ1 => Wp c b ρ1 { K with N := I (i + 1), C := I (i + 1), B := fun ρ => Op (restD sv ρ) K.N }) (fin : ∀ ρ, I l.length ρ → Op (restD sv ρ) K.N) : WpS c (.for tg it b) ρ K := by
  refine w_for hi I h0 (fun i h ρ hI => ?_) (fun ρ hI => fin ρ (by rw [List.length_map] at hI; exact hI))
  have h' : i < l.length := by rw [List.length_map] at h; exact h
  obtain ⟨ρ1, e1, r, e2, e3⟩ := step i h' ρ hI
  exact ⟨ρ1, by rw [List.getElem_map]; exact e1, r, e2, e3⟩
end
theorem cut_from (l : List D) (n : Nat) : cutD l (some (n : Int)) none = l.drop n := by
  unfold cutD
  rw [HT.sIx_none, HT.sIx_nat]
  by_cases h : n ≤ l.length
  · rw [Nat.min_eq_left h, List.take_of_length_le (by rw [List.length_drop]; omega)]
  · rw [Nat.min_eq_right (by omega), List.drop_length, List.drop_of_length_le (by omega), List.take_nil]
/-- one of a row -/
theorem op_pick {l : List D} {v : Int} {Q : D → Prop} (h0 : 0 ≤ v) (h1 : v < l.length) (h : ∀ x ∈ l, Q x) : Op (ixL l (.int v)) Q := by
  have hv : v.toNat < l.length := by omega
  exact ⟨l[v.toNat], ixL_nat h0 (List.getElem?_eq_getElem hv), h _ (List.getElem_mem hv)⟩
/-- a def that changes its lists, called -/
theorem fn_op {c : Cf} {ps : List Ty} {n : Nat} {b : Ss} {ds : List D} {Q : D × List D → Prop} (h : Wp c b (ds.map some ++ List.replicate (n - ds.length) none) ⟨fun ρ => Op (fout ps ds ρ) fun o => Q (.none, o), fun d ρ => Op (fout ps ds ρ) fun o => Q (d, o), fun _ => False, fun _ => False, fun _ _ _ => False⟩) : Op (evF c ps n b ds) Q := by
  obtain ⟨d, o, e, q⟩ := fn_rule (Q := fun d o => Q (d, o)) h
  exact ⟨(d, o), e, q⟩
/-! ### rules, checked in order -/
abbrev Chk := Bool × Str × Int
abbrev Bad := Option (Str × Int)
def fb2 : List Chk → Bad → Bad
  | [], t => t
  | (b, r, i) :: l, t => if b = true then fb2 l t else some (r, i)
/-- turn by turn -/
def runC (c : Nat → List Chk) (tail : Bad) : Nat → Nat → Bad
  | 0, _ => tail
  | k + 1, i => fb2 (c i) (runC c tail k (i + 1))
theorem runC_step {c : Nat → List Chk} {tail : Bad} {n i : Nat} (h : i < n) : runC c tail (n - i) i = fb2 (c i) (runC c tail (n - (i + 1)) (i + 1)) := by
  have e : n - i = (n - (i + 1)) + 1 := by omega
  rw [e, runC]
theorem br_chk {b : Bool} {r : Str} {i : Int} {l : List Chk} {t tot : Bad} {p q : Prop} (e : tot = fb2 ((b, r, i) :: l) t) (h1 : b = true → tot = fb2 l t → p) (h2 : b = false → tot = some (r, i) → q) : Br b p q := by
  cases b with
  | true => exact Br_true.mpr (h1 rfl e)
  | false => exact Br_false.mpr (h2 rfl e)
theorem br_chkA {b b2 : Bool} {r : Str} {i : Int} {l : List Chk} {t tot : Bad} {p q q' : Prop} (e : tot = fb2 ((b && b2, r, i) :: l) t) (h1 : b = true → b2 = true → tot = fb2 l t → p) (h2 : tot = some (r, i) → q) (h3 : tot = some (r, i) → q') : Br b (Br b2 p q) q' := by
  cases b with
  | true =>
    cases b2 with
    | true => exact Br_true.mpr (Br_true.mpr (h1 rfl rfl e))
    | false => exact Br_true.mpr (Br_false.mpr (h2 e))
  | false => exact Br_false.mpr (h3 e)
theorem br_chkO {b b1 b2 : Bool} {r : Str} {i : Int} {l : List Chk} {t tot : Bad} {p q q' : Prop} (e : tot = fb2 ((b, r, i) :: l) t) (hb : (b1 || b2) = !b) (h1 : b = true → tot = fb2 l t → p) (h2 : tot = some (r, i) → q) (h3 : tot = some (r, i) → q') : Br b1 q (Br b2 q' p) := by
  cases b with
  | true => cases b1 <;> cases b2 <;> first | exact Br_false.mpr (Br_false.mpr (h1 rfl e)) | cases hb
  | false =>
    cases b1 with
    | true => exact Br_true.mpr (h2 e)
    | false => cases b2 <;> first | exact Br_false.mpr (Br_true.mpr (h3 e)) | cases hb
/-- .. where what is asked is that it is broken -/
theorem br_chkN {b b' : Bool} {r : Str} {i : Int} {l : List Chk} {t tot : Bad} {p q : Prop} (e : tot = fb2 ((b, r, i) :: l) t) (hb : b' = !b) (h1 : b = true → tot = fb2 l t → q) (h2 : b = false → tot = some (r, i) → p) : Br b' p q := by
  subst hb
  cases b with
  | true => exact Br_false.mpr (h1 rfl e)
  | false => exact Br_true.mpr (h2 rfl e)
def eF (r : Str) (i : Int) : Fs := [(PySem.Str.ofString "rule", .str r), (PySem.Str.ofString "index", .int i)]
def badD : Bad → D
  | none => .none
  | some b => .tuple [.str b.1, .int b.2]
def xrB (x : Str) (o : List D) : Bad → Xr
  | none => .ret .none o
  | some b => .exn x (eF b.1 b.2)
@[simp] theorem zip_eF {r i : D} : ([PySem.Str.ofString "rule", PySem.Str.ofString "index"] : List Str).zip [r, i] = [(PySem.Str.ofString "rule", r), (PySem.Str.ofString "index", i)] := rfl
theorem any_ints (l : List Int) (x : Int) : ((l.map PyData.int).any fun e => PyData.eqv e (.int x)) = decide (x ∈ l) := by
  induction l with
  | nil => simp
  | cons y r ih =>
    rw [List.map_cons, List.any_cons, ih]
    show ((y == x) || decide (x ∈ r)) = decide (x ∈ y :: r)
    by_cases h : y = x
    · subst h
      rw [beq_self_eq_true, Bool.true_or, decide_eq_true List.mem_cons_self]
    · have h2 : (y == x) = false := by simpa using h
      rw [h2, Bool.false_or]
      by_cases h3 : x ∈ r
      · rw [decide_eq_true h3, decide_eq_true (List.mem_cons_of_mem _ h3)]
      · rw [decide_eq_false h3, decide_eq_false fun h4 => by
          rcases List.mem_cons.mp h4 with h5 | h5
          · exact h h5.symm
          · exact h3 h5]
theorem flat_ints (l : List Int) : (l.map PyData.int).all flatD = true := by
  rw [List.all_eq_true]
  intro x hx
  obtain ⟨i, _, rfl⟩ := List.mem_map.mp hx
  rfl
theorem inn_ints {ng : Bool} {x : Int} {l : List Int} : innD ng (.int x) (.list (l.map .int)) = some (.bool (decide (x ∈ l) != ng)) := by
  show (if _ then _ else none) = _
  rw [if_pos ⟨rfl, flat_ints l⟩, any_ints]
theorem innT_ints {ng : Bool} {x : Int} {l : List Int} : innD ng (.int x) (.tuple (l.map .int)) = some (.bool (decide (x ∈ l) != ng)) := by
  show (if _ then _ else none) = _
  rw [if_pos ⟨rfl, flat_ints l⟩, any_ints]
end Vw
/-! sorted, of things -/
namespace Vw
open PySem PySem.Spec PyProof.Rows L2
theorem alikeB_map {α : Type} {g : α → D} {l : List α} (h : ∀ a b, PySem.W.alike (g a) (g b) = true) : alikeB (l.map g) = true := by
  unfold alikeB
  rw [List.all_eq_true]
  intro x hx
  rw [List.all_eq_true]
  intro y hy
  obtain ⟨a, _, rfl⟩ := List.mem_map.mp hx
  obtain ⟨b, _, rfl⟩ := List.mem_map.mp hy
  exact h a b
theorem shallow_map {α : Type} {g : α → D} {l : List α} (h : ∀ a, (g a).depth ≤ 50) : shallow (l.map g) = true := by
  unfold shallow
  rw [List.all_eq_true]
  intro x hx
  obtain ⟨a, _, rfl⟩ := List.mem_map.mp hx
  exact decide_eq_true (h a)
theorem sortOk_ints {l : List Int} : sortOkB (l.map .int) = true := by
  unfold sortOkB
  rw [Bool.or_eq_true]
  right
  rw [List.all_eq_true]
  intro x hx
  obtain ⟨a, _, rfl⟩ := List.mem_map.mp hx
  rfl
theorem sortOk_tups {α : Type} {g : α → D} {l : List α} (h : ∀ a, ∃ x r, g a = .tuple (x :: r)) : sortOkB (l.map g) = true := by
  unfold sortOkB
  rw [Bool.or_eq_true]
  left
  rw [List.all_eq_true]
  intro x hx
  obtain ⟨a, _, rfl⟩ := List.mem_map.mp hx
  obtain ⟨x, r, e⟩ := h a
  rw [e]
theorem sortG_map {α : Type} {rev : Bool} {g : α → D} {l : List α} (h1 : alikeB (l.map g) = true) (h2 : sortOkB (l.map g) = true) (h3 : shallow (l.map g) = true) {le : α → α → Bool} (hle : ∀ a b, le a b = PySem.W.dataLe rev id (g a) (g b)) : sortG rev (l.map g) = some (.list ((l.mergeSort le).map g)) := by
  unfold sortG
  rw [if_pos ⟨h1, h2, h3⟩, ← List.map_mergeSort fun a _ b _ => hle a b]
def leI (rev : Bool) (a b : Int) : Bool := if rev = true then decide (b ≤ a) else decide (a ≤ b)
theorem dataLe_I {rev : Bool} {a b : Int} : leI rev a b = PySem.W.dataLe rev id (.int a) (.int b) := by
  rw [PySem.W.dataLe_eq]
  unfold leI
  cases rev with
  | true =>
    show decide (b ≤ a) = !PySem.W.dataLt (.int a) (.int b)
    rw [PySem.W.dataLt_int, Bool.eq_iff_iff]
    simp
  | false =>
    show decide (a ≤ b) = !PySem.W.dataLt (.int b) (.int a)
    rw [PySem.W.dataLt_int, Bool.eq_iff_iff]
    simp
theorem sort_ints {rev : Bool} {l : List Int} : sortG rev (l.map .int) = some (.list ((l.mergeSort (leI rev)).map .int)) :=
  sortG_map (alikeB_ints l) sortOk_ints (shallow_map fun a => by simp [PyData.depth]) fun a b => dataLe_I
theorem leI_perm {rev : Bool} {l : List Int} : (l.mergeSort (leI rev)).Perm l := List.mergeSort_perm _ _
theorem leI_sorted {l : List Int} : (l.mergeSort (leI false)).Pairwise (· ≤ ·) := by
  have h := List.pairwise_mergeSort (le := leI false) (fun a b c h1 h2 => by unfold leI at *; simp at *; omega) (fun a b => by unfold leI; simp; omega) l
  exact h.imp fun {a b} h => by unfold leI at h; simpa using h
abbrev pr2 (p : Int × Int) : D := .tuple [.int p.1, .int p.2]
def leP (rev : Bool) (a b : Int × Int) : Bool := if rev = true then decide (b.1 < a.1 ∨ (b.1 = a.1 ∧ b.2 ≤ a.2)) else decide (a.1 < b.1 ∨ (a.1 = b.1 ∧ a.2 ≤ b.2))
theorem dataLe_P {rev : Bool} {a b : Int × Int} : leP rev a b = PySem.W.dataLe rev id (pr2 a) (pr2 b) := by
  have h : ∀ a b : Int × Int, (!PySem.W.dataLt (pr2 b) (pr2 a)) = decide (a.1 < b.1 ∨ (a.1 = b.1 ∧ a.2 ≤ b.2)) := fun a b => by
    have := congrFun (congrFun (PySem.W.dataLe_ii (fun p : Int × Int => p.1) (fun p => p.2)) a) b
    rw [PySem.W.dataLe_eq] at this
    exact this
  rw [PySem.W.dataLe_eq]
  unfold leP
  cases rev with
  | true => exact (h b a).symm
  | false => exact (h a b).symm
theorem sort_pairs {rev : Bool} {l : List (Int × Int)} : sortG rev (l.map pr2) = some (.list ((l.mergeSort (leP rev)).map pr2)) :=
  sortG_map (alikeB_map fun a b => rfl) (sortOk_tups fun a => ⟨_, _, rfl⟩) (shallow_map fun a => by simp [PyData.depth, PyData.depthAll]) fun a b => dataLe_P
theorem leP_sorted {rev : Bool} {l : List (Int × Int)} : (l.mergeSort (leP rev)).Pairwise (fun a b => leP rev a b = true) := by
  refine List.pairwise_mergeSort (le := leP rev) (fun a b c h1 h2 => ?_) (fun a b => ?_) l
  · unfold leP at *
    cases rev <;> · simp at *; omega
  · unfold leP
    cases rev <;> · simp; omega
theorem leP_perm {rev : Bool} {l : List (Int × Int)} : (l.mergeSort (leP rev)).Perm l := List.mergeSort_perm _ _
theorem gives_zp {c : Cf} {ρ : Rho} {a b : E} {α β : Type} {l : List α} {m : List β} {g : α → D} {h : β → D} (he : Ev c a ρ fun x ρ' => x = .list (l.map g) ∧ ρ' = ρ) (he2 : Ev c b ρ fun x ρ' => x = .list (m.map h) ∧ ρ' = ρ) : Gives c (.zp a b) ρ ((List.range (min l.length m.length)).map fun i => .tuple [(l.map g).getD i .none, (m.map h).getD i .none]) ρ := by
  have e1 := ev_of he
  have e2 := ev_of he2
  show (ev c a ρ).bind _ = _
  rw [e1]
  show (ev c b ρ).bind _ = _
  rw [e2]
  show some (zipD (l.map g) (m.map h), _, _) = _
  unfold zipD
  rw [List.length_map, List.length_map]
theorem getD_map {α : Type} {l : List α} {g : α → D} {i : Nat} (h : i < l.length) : (l.map g).getD i .none = g l[i] := by
  rw [List.getD_eq_getElem?_getD, List.getElem?_map, List.getElem?_eq_getElem h]
  rfl
/-! ### what equals itself -/
theorem eqv_all : ∀ {l : List D}, (∀ x ∈ l, PyData.eqv x x = true) → PyData.eqvAll l l = true
  | [], _ => rfl
  | x :: l, h => by
    rw [PySem.W.eqv_all_cons, h x List.mem_cons_self, eqv_all fun y hy => h y (List.mem_cons_of_mem _ hy)]
    rfl
theorem eqv_list {l : List D} (h : ∀ x ∈ l, PyData.eqv x x = true) : PyData.eqv (.list l) (.list l) = true := by
  rw [PyData.eqv]
  exact eqv_all h
theorem eqv_tuple {l : List D} (h : ∀ x ∈ l, PyData.eqv x x = true) : PyData.eqv (.tuple l) (.tuple l) = true := by
  rw [PyData.eqv]
  exact eqv_all h
theorem eqv_int {i : Int} : PyData.eqv (.int i) (.int i) = true := by
  show (i == i) = true
  exact beq_self_eq_true i
/-- x == x -/
theorem eq_self {ng : Bool} {d : D} {k : Nat} (h : Sh k d) (hk : k ≤ 64) (e : PyData.eqv d d = true) : eqD ng d d = some (.bool (!ng)) := by
  unfold eqD
  rw [if_pos ⟨h.ok hk, h.ok hk⟩, e]
  cases ng <;> rfl
/-! ### branches behind which slots are frozen -/
def WpZ (c : Cf) (z : Z) (ρ : Rho) (K : Po) : Prop := ∃ r, exZ c z ρ = some r ∧ K.at r
section
variable {c : Cf} {ρ : Rho} {K : Po} {a b : Ss} {z z2 : Z} {t : T} {i j : Nat}
@[simp ↓] theorem z_o : WpZ c (.own a) ρ K ↔ Wp c a ρ K := Iff.rfl
@[simp ↓] theorem z_f : WpZ c (.fro a) ρ K ↔ Wp c a ρ K := Iff.rfl
@[simp ↓] theorem z_fj : WpZ c (.frj a) ρ K ↔ Wp c a ρ K := Iff.rfl
@[simp ↓] theorem z_fb : WpZ c (.frb a) ρ K ↔ Wp c a ρ K := Iff.rfl
@[simp ↓] theorem z_ife : WpZ c (.ife t z z2) ρ K ↔ EvT c t ρ fun y ρ1 => Br y (WpZ c z ρ1 K) (WpZ c z2 ρ1 K) := by
  constructor
  · rintro ⟨r, e, q⟩
    obtain ⟨p, e1, e2⟩ := bind_inv (show (evT c t ρ).bind _ = _ from e)
    refine ⟨p, e1, ?_⟩
    show Br p.1 _ _
    cases hp : p.1 with
    | true => rw [hp] at e2; exact Br_true.mpr ⟨r, e2, q⟩
    | false => rw [hp] at e2; exact Br_false.mpr ⟨r, e2, q⟩
  · rintro ⟨p, e1, q⟩
    have q : Br p.1 (WpZ c z p.2 K) (WpZ c z2 p.2 K) := q
    cases hp : p.1 with
    | true =>
      rw [hp] at q
      obtain ⟨r, e2, q⟩ := Br_true.mp q
      exact ⟨r, by show (evT c t ρ).bind _ = _; rw [e1]; exact (if_pos hp).trans e2, q⟩
    | false =>
      rw [hp] at q
      obtain ⟨r, e2, q⟩ := Br_false.mp q
      exact ⟨r, by show (evT c t ρ).bind _ = _; rw [e1]; exact (if_neg (by rw [hp]; decide)).trans e2, q⟩
@[simp ↓] theorem wp_jn : Wp c (.jn i z a) ρ K ↔ WpZ c z ρ ⟨fun ρ => Wp c a ρ ⟨fun ρ => K.N (ρ.set i none), fun d ρ => K.R d (ρ.set i none), fun ρ => K.B (ρ.set i none), fun ρ => K.C (ρ.set i none), fun x fs ρ => K.X x fs (ρ.set i none)⟩, fun d ρ => K.R d (ρ.set i none), fun ρ => K.B (ρ.set i none), fun ρ => K.C (ρ.set i none), fun x fs ρ => K.X x fs (ρ.set i none)⟩ := by
  constructor
  · rintro ⟨r, e, q⟩
    obtain ⟨p, e1, e2⟩ := bind_inv (show (exZ c z ρ).bind _ = _ from e)
    refine ⟨p, e1, ?_⟩
    cases p with
    | nx ρ1 =>
      obtain ⟨r0, e3, rfl⟩ := map_inv (show (exSs c a ρ1).map (rsWipe i) = some r from e2)
      refine ⟨r0, e3, ?_⟩
      cases r0 <;> exact q
    | _ => cases e2; exact q
  · rintro ⟨p, e1, q⟩
    cases p with
    | nx ρ1 =>
      obtain ⟨r0, e3, q⟩ := q
      refine ⟨rsWipe i r0, by show (exZ c z ρ).bind _ = _; rw [e1]; show (exSs c a ρ1).map (rsWipe i) = _; rw [e3]; rfl, ?_⟩
      cases r0 <;> exact q
    | ret d ρ1 => exact ⟨rsWipe i (.ret d ρ1), by show (exZ c z ρ).bind _ = _; rw [e1]; rfl, q⟩
    | brk ρ1 => exact ⟨rsWipe i (.brk ρ1), by show (exZ c z ρ).bind _ = _; rw [e1]; rfl, q⟩
    | cnt ρ1 => exact ⟨rsWipe i (.cnt ρ1), by show (exZ c z ρ).bind _ = _; rw [e1]; rfl, q⟩
    | exn x fs ρ1 => exact ⟨rsWipe i (.exn x fs ρ1), by show (exZ c z ρ).bind _ = _; rw [e1]; rfl, q⟩
@[simp ↓] theorem wp_jn2 : Wp c (.jn2 i j z a) ρ K ↔ WpZ c z ρ ⟨fun ρ => Wp c a ρ ⟨fun ρ => K.N ((ρ.set j none).set i none), fun d ρ => K.R d ((ρ.set j none).set i none), fun ρ => K.B ((ρ.set j none).set i none), fun ρ => K.C ((ρ.set j none).set i none), fun x fs ρ => K.X x fs ((ρ.set j none).set i none)⟩, fun d ρ => K.R d ((ρ.set j none).set i none), fun ρ => K.B ((ρ.set j none).set i none), fun ρ => K.C ((ρ.set j none).set i none), fun x fs ρ => K.X x fs ((ρ.set j none).set i none)⟩ := by
  constructor
  · rintro ⟨r, e, q⟩
    obtain ⟨p, e1, e2⟩ := bind_inv (show (exZ c z ρ).bind _ = _ from e)
    refine ⟨p, e1, ?_⟩
    cases p with
    | nx ρ1 =>
      obtain ⟨r0, e3, rfl⟩ := map_inv (show (exSs c a ρ1).map (fun q => rsWipe i (rsWipe j q)) = some r from e2)
      refine ⟨r0, e3, ?_⟩
      cases r0 <;> exact q
    | _ => cases e2; exact q
  · rintro ⟨p, e1, q⟩
    cases p with
    | nx ρ1 =>
      obtain ⟨r0, e3, q⟩ := q
      refine ⟨rsWipe i (rsWipe j r0), by show (exZ c z ρ).bind _ = _; rw [e1]; show (exSs c a ρ1).map (fun q => rsWipe i (rsWipe j q)) = _; rw [e3]; rfl, ?_⟩
      cases r0 <;> exact q
    | ret d ρ1 => exact ⟨rsWipe i (rsWipe j (.ret d ρ1)), by show (exZ c z ρ).bind _ = _; rw [e1]; rfl, q⟩
    | brk ρ1 => exact ⟨rsWipe i (rsWipe j (.brk ρ1)), by show (exZ c z ρ).bind _ = _; rw [e1]; rfl, q⟩
    | cnt ρ1 => exact ⟨rsWipe i (rsWipe j (.cnt ρ1)), by show (exZ c z ρ).bind _ = _; rw [e1]; rfl, q⟩
    | exn x fs ρ1 => exact ⟨rsWipe i (rsWipe j (.exn x fs ρ1)), by show (exZ c z ρ).bind _ = _; rw [e1]; rfl, q⟩
end
end Vw
/-! how many different ones; sorted lists of lists of numbers -/
namespace Vw
open PySem PySem.Spec PyProof.Rows L2
theorem dedup_len : ∀ (l σ : List Int), σ.Nodup → (l.foldl step_dedup σ).length ≤ σ.length + l.length ∧ ((l.foldl step_dedup σ).length = σ.length + l.length ↔ (σ ++ l).Nodup)
  | [], σ, h => ⟨Nat.le_refl _, by simp [h]⟩
  | a :: l, σ, h => by
    by_cases ha : a ∈ σ
    · have e : step_dedup σ a = σ := by
        unfold step_dedup
        rw [if_pos (by rw [List.any_eq_true]; exact ⟨a, ha, by simp⟩)]
      obtain ⟨h1, h2⟩ := dedup_len l σ h
      show (l.foldl step_dedup (step_dedup σ a)).length ≤ _ ∧ ((l.foldl step_dedup (step_dedup σ a)).length = _ ↔ _)
      rw [e]
      refine ⟨by simp; omega, ⟨fun q => by simp at q; omega, fun q => ?_⟩⟩
      have := (List.nodup_append.mp q).2.2 a ha a List.mem_cons_self rfl
      exact this.elim
    · have e : step_dedup σ a = σ ++ [a] := by
        unfold step_dedup
        rw [if_neg (by rw [List.any_eq_true]; rintro ⟨x, hx, q⟩; have q : x = a := by simpa using q
                       exact ha (q ▸ hx))]
      have hn : (σ ++ [a]).Nodup := List.nodup_append.mpr ⟨h, by simp, fun x hx y hy e => by
        rw [List.mem_singleton.mp hy] at e
        exact ha (e ▸ hx)⟩
      obtain ⟨h1, h2⟩ := dedup_len l (σ ++ [a]) hn
      show (l.foldl step_dedup (step_dedup σ a)).length ≤ _ ∧ ((l.foldl step_dedup (step_dedup σ a)).length = _ ↔ _)
      rw [e]
      have el : (σ ++ [a]).length + l.length = σ.length + (a :: l).length := by simp; omega
      rw [el] at h1 h2
      refine ⟨h1, h2.trans ?_⟩
      rw [List.append_assoc]
      rfl
theorem kinds_dd (ns : List Int) : kinds ns = (ns.foldl step_dedup []).length := by
  unfold kinds firstMet
  have e : (List.range ns.length).map (fun i => ns.getD i 0) = ns := by
    apply List.ext_getElem
    · simp
    · intro i h1 h2
      simp [List.getElem?_eq_getElem h2]
  rw [e]
theorem kinds_iff (ns : List Int) : kinds ns = ns.length ↔ ns.Nodup := by
  rw [kinds_dd]
  have := (dedup_len ns [] List.nodup_nil).2
  simpa using this
theorem lst0_of {c : Cf} {ρ : Rho} {a : E} {l : List Int} {Q : D → Rho → Prop} (h : Ev c a ρ fun x ρ' => x = .list (l.map .int) ∧ ρ' = ρ) (hl : l.length ≤ 4000) (q : Q (.int (kinds l : Nat)) ρ) : Ev c (.lst0 a) ρ Q := Ev.mk (v_lst0 (ev_of h) hl) q
/-- rows of numbers -/
abbrev rwD (r : List Int) : D := .list (r.map .int)
theorem alike_rw : ∀ (a b : List Int), PySem.W.alikeAll (a.map PyData.int) (b.map PyData.int) = true
  | [], b => by cases b <;> rfl
  | _ :: _, [] => rfl
  | x :: a, y :: b => by
    show (PySem.W.alike (.int x) (.int y) && PySem.W.alikeAll (a.map PyData.int) (b.map PyData.int)) = true
    rw [alike_rw a b]
    rfl
theorem sort_rows {l : List (List Int)} : sortG false (l.map rwD) = some (.list ((l.mergeSort fun a b => PySem.W.dataLe false id (rwD a) (rwD b)).map rwD)) := by
  refine sortG_map (alikeB_map fun a b => ?_) ?_ (shallow_map fun a => ?_) fun a b => rfl
  · show PySem.W.alikeAll _ _ = true
    exact alike_rw a b
  · unfold sortOkB
    rw [Bool.or_eq_true]
    right
    rw [List.all_eq_true]
    intro x hx
    obtain ⟨a, _, rfl⟩ := List.mem_map.mp hx
    rfl
  · have := depth_ints a
    rw [PyData.depth]
    omega
theorem pw_all (g : List Int) : ((List.range (g.length - 1)).all fun i => decide (g.getD i 0 < g.getD (i + 1) 0)) = decide (g.Pairwise (· < ·)) := by
  rw [Bool.eq_iff_iff, List.all_eq_true, decide_eq_true_eq, List.pairwise_iff_getElem]
  have gd : ∀ i (h : i < g.length), g.getD i 0 = g[i] := fun i h => by rw [List.getD_eq_getElem?_getD, List.getElem?_eq_getElem h]; rfl
  constructor
  · intro h
    have st : ∀ i (h2 : i + 1 < g.length), g[i] < g[i + 1] := fun i h2 => by
      have := of_decide_eq_true (h i (List.mem_range.mpr (by omega)))
      rwa [gd i (by omega), gd (i + 1) h2] at this
    have key : ∀ d i (h2 : i + (d + 1) < g.length), g[i] < g[i + (d + 1)] := fun d => by
      induction d with
      | zero => exact fun i h2 => st i h2
      | succ d ih =>
        intro i h2
        have a1 := ih i (by omega)
        have a2 := st (i + (d + 1)) (by omega)
        have e : i + (d + 1) + 1 = i + (d + 1 + 1) := by omega
        simp only [e] at a2
        omega
    intro i j hi hj hij
    have := key (j - i - 1) i (by omega)
    have e : i + (j - i - 1 + 1) = j := by omega
    simp only [e] at this
    exact this
  · intro h i hi
    have hi := List.mem_range.mp hi
    rw [gd i (by omega), gd (i + 1) (by omega)]
    exact decide_eq_true (h i (i + 1) (by omega) (by omega) (by omega))
/-- sorted already, no two alike -/
theorem sorted_nodup (g : List Int) : (g = g.mergeSort (leI false) ∧ kinds g = g.length) ↔ g.Pairwise (· < ·) := by
  rw [kinds_iff]
  constructor
  · rintro ⟨h1, h2⟩
    have h3 := leI_sorted (l := g)
    rw [← h1] at h3
    exact (List.Pairwise.and h3 h2).imp fun {a b} h => by
      have := h.1
      have := h.2
      omega
  · intro h
    refine ⟨?_, h.imp fun {a b} h => by omega⟩
    exact (List.mergeSort_of_pairwise (h.imp fun {a b} h => by unfold leI; simp; omega)).symm
theorem gives_rj {c : Cf} {e : E} {ρ : Rho} {n : Nat} (j : Int) (hn : j.toNat = n) (h1 : -1000000000 ≤ j) (h2 : j ≤ 1000000000) (he : Ev c e ρ fun x ρ' => x = .int j ∧ ρ' = ρ) : Gives c (.r1 e) ρ ((List.range n).map fun i => .int (i : Nat)) ρ := by
  subst hn
  exact gives_r1' he h1 h2
theorem eqv_ints : ∀ a b : List Int, PyData.eqvAll (a.map PyData.int) (b.map PyData.int) = decide (a = b)
  | [], [] => rfl
  | [], _ :: _ => by simp [PyData.eqvAll]
  | _ :: _, [] => by simp [PyData.eqvAll]
  | x :: a, y :: b => by
    rw [List.map_cons, List.map_cons, PySem.W.eqv_all_cons, eqv_ints a b]
    show ((x == y) && decide (a = b)) = decide (x :: a = y :: b)
    by_cases h : x = y
    · subst h
      simp
    · have : (x == y) = false := by simpa using h
      rw [this]
      simp [h]
theorem sh_rw {k : Nat} (a : List Int) : Sh (k + 1) (rwD a) := sh_list (sh_map fun i => sh_int i)
theorem eq_rows {ng : Bool} {a b : List Int} : eqD ng (rwD a) (rwD b) = some (.bool (decide (a = b) != ng)) := by
  unfold eqD
  rw [if_pos ⟨(sh_rw (k := 0) a).ok, (sh_rw (k := 0) b).ok⟩]
  show some (PyData.bool (PyData.eqv (.list (a.map .int)) (.list (b.map .int)) != ng)) = _
  rw [PyData.eqv, eqv_ints]
theorem br_chk3 {b b2 b3 : Bool} {r : Str} {i : Int} {l : List Chk} {t tot : Bad} {p q q' q'' : Prop} (e : tot = fb2 (((b && b2) && b3, r, i) :: l) t) (h1 : b = true → b2 = true → b3 = true → tot = fb2 l t → p) (h2 : tot = some (r, i) → q) (h3 : tot = some (r, i) → q') (h4 : tot = some (r, i) → q'') : Br b (Br b2 (Br b3 p q) q') q'' := by
  cases b with
  | true =>
    cases b2 with
    | true =>
      cases b3 with
      | true => exact Br_true.mpr (Br_true.mpr (Br_true.mpr (h1 rfl rfl rfl e)))
      | false => exact Br_true.mpr (Br_true.mpr (Br_false.mpr (h2 e)))
    | false => exact Br_true.mpr (Br_false.mpr (h3 e))
  | false => exact Br_false.mpr (h4 e)
theorem br_chkO3 {b b1 b2 b3 : Bool} {r : Str} {i : Int} {l : List Chk} {t tot : Bad} {p q q' q'' : Prop} (e : tot = fb2 ((b, r, i) :: l) t) (hb : (b1 || b2 || b3) = !b) (h1 : b = true → tot = fb2 l t → p) (h2 : tot = some (r, i) → q) (h3 : tot = some (r, i) → q') (h4 : tot = some (r, i) → q'') : Br b1 q (Br b2 q' (Br b3 q'' p)) := by
  cases b with
  | true => cases b1 <;> cases b2 <;> cases b3 <;> first | exact Br_false.mpr (Br_false.mpr (Br_false.mpr (h1 rfl e))) | cases hb
  | false =>
    cases b1 with
    | true => exact Br_true.mpr (h2 e)
    | false =>
      cases b2 with
      | true => exact Br_false.mpr (Br_true.mpr (h3 e))
      | false => cases b3 <;> first | exact Br_false.mpr (Br_false.mpr (Br_true.mpr (h4 e))) | cases hb
theorem fold_min : ∀ (ns : List Int) (n k : Int), k ≤ ns.foldl min n ↔ k ≤ n ∧ ∀ x ∈ ns, k ≤ x
  | [], n, k => by simp
  | a :: ns, n, k => by
    rw [List.foldl_cons, fold_min ns]
    simp only [List.mem_cons, forall_eq_or_imp]
    constructor
    · rintro ⟨h1, h2⟩
      exact ⟨by omega, by omega, h2⟩
    · rintro ⟨h1, h2, h3⟩
      exact ⟨by omega, h3⟩
theorem fold_max : ∀ (ns : List Int) (n k : Int), ns.foldl max n ≤ k ↔ n ≤ k ∧ ∀ x ∈ ns, x ≤ k
  | [], n, k => by simp
  | a :: ns, n, k => by
    rw [List.foldl_cons, fold_max ns]
    simp only [List.mem_cons, forall_eq_or_imp]
    constructor
    · rintro ⟨h1, h2⟩
      exact ⟨by omega, by omega, h2⟩
    · rintro ⟨h1, h2, h3⟩
      exact ⟨by omega, h3⟩
theorem fb2_all : ∀ {l : List Chk} {t : Bad}, (∀ c ∈ l, c.1 = true) → fb2 l t = t
  | [], _, _ => rfl
  | (b, r, i) :: l, t, h => by
    have hb : b = true := h _ List.mem_cons_self
    rw [fb2, if_pos hb, fb2_all fun c hc => h c (List.mem_cons_of_mem _ hc)]
theorem runC_all {c : Nat → List Chk} {t : Bad} {n : Nat} : ∀ k i, i + k ≤ n → (∀ j, j < n → ∀ x ∈ c j, x.1 = true) → runC c t k i = t
  | 0, _, _, _ => rfl
  | k + 1, i, h, hc => by
    rw [runC, runC_all k (i + 1) (by omega) hc, fb2_all (hc i (by omega))]
end Vw
namespace Lw_k83
open PySem PySem.Spec PyProof.Rows L2 Vw
def topS (i : Nat) : Stmt := PySem.Challenge.pw_brackenway_k83_rules_of_races.main.body.getD i (.Pass ⟨0, 0, 0, 0⟩)
def cin (i : Nat) : Stmt := match topS i with
  | .ClassDef _ _ _ (st :: _) _ _ _ _ _ _ _ => st
  | s => s
section
variable {P : Program} {w : World} {K : PySem.W.Frag} {mg : Str → Option Value} {base : Heap}
/-! _law_refill(script, k): {} -/
def nm__law_refill : List Str := [(PySem.Str.ofString "script"), (PySem.Str.ofString "k"), (PySem.Str.ofString "cell")]
theorem sc__law_refill : FnScope nm__law_refill [(PySem.Str.ofString "script"), (PySem.Str.ofString "k")] (defScope (topS 13)) := ⟨rfl, rfl, rfl, by decide +kernel, rfl, by decide +kernel, by decide +kernel⟩
def sg__law_refill : Sig := ⟨[.fro, .fro], .fro⟩
def ir__law_refill : Ss := (.cons (.set 2 (.k (.int 0))) (.cons (.ife (.e (.v 0)) (.cons (.set 2 (.ix (.e (.v 0)) (.ar .mod (.v 1) (.b1 .len (.e (.v 0)))))) .nil) .nil) (.cons (.ife (.e (.cm .lt (.v 2) (.k (.int 0)))) (.cons (.set 2 (.ar .sub (.k (.int 1)) (.ar .mul (.k (.int 2)) (.v 2)))) .nil) .nil) (.cons (.ife (.an (.e (.cm .ge (.v 2) (.ar .pow (.k (.int 10)) (.k (.int 18))))) (.e (.cm .lt (.v 1) (.b1 .len (.e (.v 0)))))) (.cons (.ret (.v 2)) .nil) .nil) (.cons (.ret (.ar .mod (.b1 .int (.e (.ar .add (.ar .mul (.b1 .int (.e (.ar .add (.ar .add (.ar .mul (.v 2) (.k (.int 48271))) (.ar .mul (.v 1) (.k (.int 69621)))) (.k (.int 12345))))) (.k (.int 40692))) (.k (.int 7))))) (.k (.int 2147483399)))) .nil)))))
def fx__law_refill (Φ : Cf) : List D → Option (D × List D) := evF Φ sg__law_refill.ps 3 ir__law_refill
theorem ok__law_refill {Φ : Cf} {f : Addr} {fd : FuncData} {k : Nat} (F : Fun K (PySem.Str.ofString "_law_refill") (PySem.Str.ofString "_law_refill") (topS 13) f fd) (hbl : ∀ x, x ∈ blAll → mg x = none) :
    FnOk P w K mg base CX0 (k + 1) f fd [(PySem.Str.ofString "script"), (PySem.Str.ofString "k")] (spI K sg__law_refill (fx__law_refill Φ)) :=
  fn_sound F sc__law_refill sg__law_refill [.fro] ir__law_refill (by decide +kernel) hbl false (fun e => by cases e) [] (by simp) fun X gd hc hx hk hT wx gx fr hp =>
    (ss_cons (k_set gd hp 2 .fro k_i (by decide +kernel))
    (ss_cons (s_ife (t_e (k_v gd 0 (by decide +kernel)) rfl) (ss_cons (k_set gd hp 2 .fro (e_ix (o_e (k_v gd 0 (by decide +kernel))) (e_ar .mod (k_v gd 1 (by decide +kernel)) (k_b1 gd .len (o_e (k_v gd 0 (by decide +kernel))) (by decide +kernel))) rfl) (by decide +kernel))
    ss_nil) ss_nil)
    (ss_cons (s_ife (k_cmT .lt (k_v gd 2 (by decide +kernel)) k_i) (ss_cons (k_set gd hp 2 .fro (e_ar .sub k_i (e_ar .mul k_i (k_v gd 2 (by decide +kernel)))) (by decide +kernel))
    ss_nil) ss_nil)
    (ss_cons (s_ife (PW.pt (w_an (k_cmT .ge (k_v gd 2 (by decide +kernel)) (e_ar .pow k_i k_i)) (pw_and1 (k_cmT .lt (k_v gd 1 (by decide +kernel)) (k_b1 gd .len (o_e (k_v gd 0 (by decide +kernel))) (by decide +kernel)))))) (ss_cons (s_ret (k_v gd 2 (by decide +kernel)))
    ss_nil) ss_nil)
    (ss_cons (s_ret (e_ar .mod (k_b1 gd .int (o_e (e_ar .add (e_ar .mul (k_b1 gd .int (o_e (e_ar .add (e_ar .add (e_ar .mul (k_v gd 2 (by decide +kernel)) k_i) (e_ar .mul (k_v gd 1 (by decide +kernel)) k_i)) k_i)) (by decide +kernel)) k_i) k_i)) (by decide +kernel)) k_i))
    ss_nil)))))

/-! _law_draw(state, script, size): {'state': "('lst', 'fro')"} -/
def nm__law_draw : List Str := [(PySem.Str.ofString "state"), (PySem.Str.ofString "script"), (PySem.Str.ofString "size"), (PySem.Str.ofString "digit")]
theorem sc__law_draw : FnScope nm__law_draw [(PySem.Str.ofString "state"), (PySem.Str.ofString "script"), (PySem.Str.ofString "size")] (defScope (topS 14)) := ⟨rfl, rfl, rfl, by decide +kernel, rfl, by decide +kernel, by decide +kernel⟩
def sg__law_draw : Sig := ⟨[(.lst .fro), .fro, .fro], .fro⟩
def ir__law_draw : Ss := (.cons (.ife (.e (.eq false (.ix (.s 0) (.k (.int 1))) (.k (.int 0)))) (.cons (.sti 0 (.k (.int 1)) (.call (PySem.Str.ofString "_law_refill") (.fr (.v 1) (.fr (.ix (.s 0) (.k (.int 0))) .nil)))) (.cons (.sti 0 (.k (.int 0)) (.ar .add (.ix (.s 0) (.k (.int 0))) (.k (.int 1)))) .nil)) .nil) (.cons (.set 3 (.ar .mod (.b1 .int (.e (.ix (.s 0) (.k (.int 1))))) (.v 2))) (.cons (.sti 0 (.k (.int 1)) (.ar .fdiv (.ix (.s 0) (.k (.int 1))) (.v 2))) (.cons (.ret (.v 3)) .nil))))
def fx__law_draw (Φ : Cf) : List D → Option (D × List D) := evF Φ sg__law_draw.ps 4 ir__law_draw
theorem ok__law_draw {Φ : Cf} {f : Addr} {fd : FuncData} {k : Nat} (F : Fun K (PySem.Str.ofString "_law_draw") (PySem.Str.ofString "_law_draw") (topS 14) f fd) (hbl : ∀ x, x ∈ blAll → mg x = none) (c__law_refill : Callee P w K mg base Φ k (PySem.Str.ofString "_law_refill") sg__law_refill) :
    FnOk P w K mg base CX0 (k + 1) f fd [(PySem.Str.ofString "state"), (PySem.Str.ofString "script"), (PySem.Str.ofString "size")] (spI K sg__law_draw (fx__law_draw Φ)) :=
  fn_sound F sc__law_draw sg__law_draw [.fro] ir__law_draw (by decide +kernel) hbl false (fun e => by cases e) [] (by simp) fun X gd hc hx hk hT wx gx fr hp =>
    (ss_cons (s_ife (k_eqT gd false (e_ix (k_os gd 0 (by decide +kernel)) k_i rfl) k_i) (ss_cons (k_sti gd 0 k_i (k_call gd (hc _ _ c__law_refill) (a_fr (k_v gd 1 (by decide +kernel)) (a_fr (e_ix (k_os gd 0 (by decide +kernel)) k_i rfl) a_nil rfl) rfl) (by decide +kernel)) (by decide +kernel))
    (ss_cons (k_sti gd 0 k_i (e_ar .add (e_ix (k_os gd 0 (by decide +kernel)) k_i rfl) k_i) (by decide +kernel))
    ss_nil)) ss_nil)
    (ss_cons (k_set gd hp 3 .fro (e_ar .mod (k_b1 gd .int (o_e (e_ix (k_os gd 0 (by decide +kernel)) k_i rfl)) (by decide +kernel)) (k_v gd 2 (by decide +kernel))) (by decide +kernel))
    (ss_cons (k_sti gd 0 k_i (e_ar .fdiv (e_ix (k_os gd 0 (by decide +kernel)) k_i rfl) (k_v gd 2 (by decide +kernel))) (by decide +kernel))
    (ss_cons (s_ret (k_v gd 3 (by decide +kernel)))
    ss_nil))))

/-! _law_race(state, script, many, protests): {'state': "('lst', 'fro')", 'runners': "('lst', 'fro')", 'rows': "('lst', 'fro')"} -/
def nm__law_race : List Str := [(PySem.Str.ofString "state"), (PySem.Str.ofString "script"), (PySem.Str.ofString "many"), (PySem.Str.ofString "protests"), (PySem.Str.ofString "legs"), (PySem.Str.ofString "wide"), (PySem.Str.ofString "runners"), (PySem.Str.ofString "k"), (PySem.Str.ofString "rows"), (PySem.Str.ofString "kind"), (PySem.Str.ofString "whom"), (PySem.Str.ofString "missing"), (PySem.Str.ofString "some"), (PySem.Str.ofString "j")]
theorem sc__law_race : FnScope nm__law_race [(PySem.Str.ofString "state"), (PySem.Str.ofString "script"), (PySem.Str.ofString "many"), (PySem.Str.ofString "protests")] (defScope (topS 16)) := ⟨rfl, rfl, rfl, by decide +kernel, rfl, by decide +kernel, by decide +kernel⟩
def sg__law_race : Sig := ⟨[(.lst .fro), .fro, .fro, .fro], .fro⟩
def ir__law_race : Ss := (.cons (.set 4 (.ar .add (.k (.int 1)) (.call (PySem.Str.ofString "_law_draw") (.io 0 (.fr (.v 1) (.fr (.ix (.e (.lst (.cons (.k (.int 3)) (.cons (.k (.int 8)) .nil)))) (.call (PySem.Str.ofString "_law_draw") (.io 0 (.fr (.v 1) (.fr (.k (.int 2)) .nil))))) .nil)))))) (.cons (.set 5 (.ix (.e (.lst (.cons (.k (.int 4)) (.cons (.k (.int 60)) (.cons (.k (.int 10000)) .nil))))) (.call (PySem.Str.ofString "_law_draw") (.io 0 (.fr (.v 1) (.fr (.k (.int 3)) .nil)))))) (.cons (.set 6 (.lst .nil)) (.cons (.for (.n 7) (.r1 (.ix (.e (.lst (.cons (.k (.int 1)) (.cons (.k (.int 3)) (.cons (.v 2) (.cons (.ar .add (.k (.int 1)) (.call (PySem.Str.ofString "_law_draw") (.io 0 (.fr (.v 1) (.fr (.v 2) .nil))))) .nil)))))) (.call (PySem.Str.ofString "_law_draw") (.io 0 (.fr (.v 1) (.fr (.k (.int 4)) .nil)))))) (.cons (.app 6 (.tup (.cons (.ix (.e (.lst (.cons (.k (.str (PySem.Str.ofString "run"))) (.cons (.k (.str (PySem.Str.ofString "run"))) (.cons (.k (.str (PySem.Str.ofString "run"))) (.cons (.k (.str (PySem.Str.ofString "miss"))) .nil)))))) (.call (PySem.Str.ofString "_law_draw") (.io 0 (.fr (.v 1) (.fr (.k (.int 4)) .nil))))) (.cons (.b1 .tup (.e (.comp (.call (PySem.Str.ofString "_law_draw") (.io 0 (.fr (.v 1) (.fr (.v 5) .nil)))) (.n 13) (.r1 (.v 4)) .no [13]))) .nil)))) .nil)) (.fz 6 (.cons (.set 8 (.lst .nil)) (.cons (.for (.n 7) (.r1 (.ix (.e (.lst (.cons (.k (.int 0)) (.cons (.k (.int 2)) (.cons (.v 3) (.cons (.call (PySem.Str.ofString "_law_draw") (.io 0 (.fr (.v 1) (.fr (.ar .add (.v 3) (.k (.int 1))) .nil)))) .nil)))))) (.call (PySem.Str.ofString "_law_draw") (.io 0 (.fr (.v 1) (.fr (.k (.int 4)) .nil)))))) (.cons (.set 9 (.ix (.e (.lst (.cons (.k (.str (PySem.Str.ofString "back"))) (.cons (.k (.str (PySem.Str.ofString "out"))) (.cons (.k (.str (PySem.Str.ofString "less"))) (.cons (.k (.str (PySem.Str.ofString "more"))) (.cons (.k (.str (PySem.Str.ofString "void"))) .nil))))))) (.call (PySem.Str.ofString "_law_draw") (.io 0 (.fr (.v 1) (.fr (.k (.int 5)) .nil)))))) (.cons (.set 10 (.call (PySem.Str.ofString "_law_draw") (.io 0 (.fr (.v 1) (.fr (.ife (.e (.eq false (.v 9) (.k (.str (PySem.Str.ofString "void"))))) (.v 4) (.b1 .len (.e (.v 6)))) .nil))))) (.cons (.ife (.e (.eq false (.v 9) (.k (.str (PySem.Str.ofString "back"))))) (.cons (.set 11 (.lcat (.e (.comp (.v 13) (.n 13) (.r1 (.b1 .len (.e (.v 6)))) (.so (.e (.eq false (.ix (.e (.ix (.e (.v 6)) (.v 13))) (.k (.int 0))) (.k (.str (PySem.Str.ofString "miss")))))) [13])) (.e (.lst (.cons (.v 10) .nil))))) (.cons (.set 10 (.ix (.e (.v 11)) (.call (PySem.Str.ofString "_law_draw") (.io 0 (.fr (.v 1) (.fr (.b1 .len (.e (.v 11))) .nil)))))) .nil)) .nil) (.cons (.set 12 (.call (PySem.Str.ofString "_law_draw") (.io 0 (.fr (.v 1) (.fr (.b2 .mn (.k (.int 9999)) (.ar .mul (.v 4) (.v 5))) .nil))))) (.cons (.app 8 (.tup (.cons (.v 9) (.cons (.v 10) (.cons (.ife (.e (.inn false (.v 9) (.e (.tup (.cons (.k (.str (PySem.Str.ofString "less"))) (.cons (.k (.str (PySem.Str.ofString "more"))) .nil)))))) (.v 12) (.k (.int 0))) (.cons (.ix (.e (.lst (.cons (.k (.int 0)) (.cons (.k (.int 0)) (.cons (.k (.int 1)) (.cons (.ar .add (.k (.int 1)) (.call (PySem.Str.ofString "_law_draw") (.io 0 (.fr (.v 1) (.fr (.k (.int 3)) .nil))))) .nil)))))) (.call (PySem.Str.ofString "_law_draw") (.io 0 (.fr (.v 1) (.fr (.k (.int 4)) .nil))))) .nil)))))) .nil)))))) (.fz 8 (.cons (.ret (.tup (.cons (.b1 .tup (.e (.v 6))) (.cons (.b1 .tup (.e (.v 8))) .nil)))) .nil)))))))))
def fx__law_race (Φ : Cf) : List D → Option (D × List D) := evF Φ sg__law_race.ps 14 ir__law_race
theorem ok__law_race {Φ : Cf} {f : Addr} {fd : FuncData} {k : Nat} (F : Fun K (PySem.Str.ofString "_law_race") (PySem.Str.ofString "_law_race") (topS 16) f fd) (hbl : ∀ x, x ∈ blAll → mg x = none) (c__law_draw : Callee P w K mg base Φ k (PySem.Str.ofString "_law_draw") sg__law_draw) :
    FnOk P w K mg base CX0 (k + 1) f fd [(PySem.Str.ofString "state"), (PySem.Str.ofString "script"), (PySem.Str.ofString "many"), (PySem.Str.ofString "protests")] (spI K sg__law_race (fx__law_race Φ)) :=
  fn_sound F sc__law_race sg__law_race [.fro, .fro, (.lst .fro), .fro, (.lst .fro), .fro, .fro, .fro, .fro, .fro] ir__law_race (by decide +kernel) hbl false (fun e => by cases e) [] (by simp) fun X gd hc hx hk hT wx gx fr hp =>
    (ss_cons (k_set gd hp 4 .fro (e_ar .add k_i (k_call gd (hc _ _ c__law_draw) (k_io gd 0 (by decide +kernel) (a_fr (k_v gd 1 (by decide +kernel)) (a_fr (e_ix (o_e (e_lst (t := .fro) (.inr ⟨rfl, rfl⟩) (as_cons k_i (as_cons k_i as_nil rfl) rfl))) (k_call gd (hc _ _ c__law_draw) (k_io gd 0 (by decide +kernel) (a_fr (k_v gd 1 (by decide +kernel)) (a_fr k_i a_nil rfl) rfl)) (by decide +kernel)) rfl) a_nil rfl) rfl)) (by decide +kernel))) (by decide +kernel))
    (ss_cons (k_set gd hp 5 .fro (e_ix (o_e (e_lst (t := .fro) (.inr ⟨rfl, rfl⟩) (as_cons k_i (as_cons k_i (as_cons k_i as_nil rfl) rfl) rfl))) (k_call gd (hc _ _ c__law_draw) (k_io gd 0 (by decide +kernel) (a_fr (k_v gd 1 (by decide +kernel)) (a_fr k_i a_nil rfl) rfl)) (by decide +kernel)) rfl) (by decide +kernel))
    (ss_cons (k_set gd hp 6 (.lst .fro) (e_lst (t := .fro) (.inl rfl) as_nil) (by decide +kernel))
    (ss_cons (k_for gd hp [0] (k_r1 gd (e_ix (o_e (e_lst (t := .fro) (.inr ⟨rfl, rfl⟩) (as_cons k_i (as_cons k_i (as_cons (k_v gd 2 (by decide +kernel)) (as_cons (e_ar .add k_i (k_call gd (hc _ _ c__law_draw) (k_io gd 0 (by decide +kernel) (a_fr (k_v gd 1 (by decide +kernel)) (a_fr (k_v gd 2 (by decide +kernel)) a_nil rfl) rfl)) (by decide +kernel))) as_nil rfl) rfl) rfl) rfl))) (k_call gd (hc _ _ c__law_draw) (k_io gd 0 (by decide +kernel) (a_fr (k_v gd 1 (by decide +kernel)) (a_fr k_i a_nil rfl) rfl)) (by decide +kernel)) rfl) (by decide +kernel)) (fun fr1 hp1 => (k_gn gd hp1 7 (by decide +kernel))) (fun fr1 hp1 => (ss_cons (k_app gd 6 (e_tup (as_cons (e_ix (o_e (e_lst (t := .fro) (.inr ⟨rfl, rfl⟩) (as_cons k_s (as_cons k_s (as_cons k_s (as_cons k_s as_nil rfl) rfl) rfl) rfl))) (k_call gd (hc _ _ c__law_draw) (k_io gd 0 (by decide +kernel) (a_fr (k_v gd 1 (by decide +kernel)) (a_fr k_i a_nil rfl) rfl)) (by decide +kernel)) rfl) (as_cons (k_b1 gd .tup (o_e (k_comp gd hp1 [0] [(PySem.Str.ofString "j", 13)] (t := .fro) (.inr ⟨rfl, rfl⟩) (by decide +kernel) (k_r1 gd (k_v gd 4 (by decide +kernel)) (by decide +kernel)) (fun _ gd2 cv2 fr2 hp2 => (k_gn gd2 hp2 13 (by decide +kernel))) (fun _ gd2 cv2 => pc_no) (fun _ gd2 cv2 fr2 hp2 => (k_call gd2 (cv2 _ _ _ (hc _ _ c__law_draw)) (k_io gd2 0 (by decide +kernel) (a_fr (k_v gd2 1 (by decide +kernel)) (a_fr (k_v gd2 5 (by decide +kernel)) a_nil rfl) rfl)) (by decide +kernel))))) (by decide +kernel)) as_nil rfl) rfl)) (by decide +kernel))
    ss_nil)) (by decide +kernel))
    (ss_fz 6 (ss_cons (k_set gd hp 8 (.lst .fro) (e_lst (t := .fro) (.inl rfl) as_nil) (by decide +kernel))
    (ss_cons (k_for gd hp [0] (k_r1 gd (e_ix (o_e (e_lst (t := .fro) (.inr ⟨rfl, rfl⟩) (as_cons k_i (as_cons k_i (as_cons (k_v gd 3 (by decide +kernel)) (as_cons (k_call gd (hc _ _ c__law_draw) (k_io gd 0 (by decide +kernel) (a_fr (k_v gd 1 (by decide +kernel)) (a_fr (e_ar .add (k_v gd 3 (by decide +kernel)) k_i) a_nil rfl) rfl)) (by decide +kernel)) as_nil rfl) rfl) rfl) rfl))) (k_call gd (hc _ _ c__law_draw) (k_io gd 0 (by decide +kernel) (a_fr (k_v gd 1 (by decide +kernel)) (a_fr k_i a_nil rfl) rfl)) (by decide +kernel)) rfl) (by decide +kernel)) (fun fr3 hp3 => (k_gn gd hp3 7 (by decide +kernel))) (fun fr3 hp3 => (ss_cons (k_set gd hp3 9 .fro (e_ix (o_e (e_lst (t := .fro) (.inr ⟨rfl, rfl⟩) (as_cons k_s (as_cons k_s (as_cons k_s (as_cons k_s (as_cons k_s as_nil rfl) rfl) rfl) rfl) rfl))) (k_call gd (hc _ _ c__law_draw) (k_io gd 0 (by decide +kernel) (a_fr (k_v gd 1 (by decide +kernel)) (a_fr k_i a_nil rfl) rfl)) (by decide +kernel)) rfl) (by decide +kernel))
    (ss_cons (k_set gd hp3 10 .fro (k_call gd (hc _ _ c__law_draw) (k_io gd 0 (by decide +kernel) (a_fr (k_v gd 1 (by decide +kernel)) (a_fr (e_ife (k_eqT gd false (k_v gd 9 (by decide +kernel)) k_s) (k_v gd 4 (by decide +kernel)) (k_b1 gd .len (o_e (k_v gd 6 (by decide +kernel))) (by decide +kernel))) a_nil rfl) rfl)) (by decide +kernel)) (by decide +kernel))
    (ss_cons (s_ife (k_eqT gd false (k_v gd 9 (by decide +kernel)) k_s) (ss_cons (k_set gd hp3 11 .fro (e_lcat (.inr ⟨rfl, rfl⟩) (o_e (k_comp gd hp3 [0] [(PySem.Str.ofString "j", 13)] (t := .fro) (.inr ⟨rfl, rfl⟩) (by decide +kernel) (k_r1 gd (k_b1 gd .len (o_e (k_v gd 6 (by decide +kernel))) (by decide +kernel)) (by decide +kernel)) (fun _ gd4 cv4 fr4 hp4 => (k_gn gd4 hp4 13 (by decide +kernel))) (fun _ gd4 cv4 => pc_so fun fr4 hp4 => (k_eqT gd4 false (e_ix (o_e (e_ix (o_e (k_v gd4 6 (by decide +kernel))) (k_v gd4 13 (by decide +kernel)) rfl)) k_i rfl) k_s)) (fun _ gd4 cv4 fr4 hp4 => (k_v gd4 13 (by decide +kernel))))) (o_e (e_lst (t := .fro) (.inr ⟨rfl, rfl⟩) (as_cons (k_v gd 10 (by decide +kernel)) as_nil rfl)))) (by decide +kernel))
    (ss_cons (k_set gd hp3 10 .fro (e_ix (o_e (k_v gd 11 (by decide +kernel))) (k_call gd (hc _ _ c__law_draw) (k_io gd 0 (by decide +kernel) (a_fr (k_v gd 1 (by decide +kernel)) (a_fr (k_b1 gd .len (o_e (k_v gd 11 (by decide +kernel))) (by decide +kernel)) a_nil rfl) rfl)) (by decide +kernel)) rfl) (by decide +kernel))
    ss_nil)) ss_nil)
    (ss_cons (k_set gd hp3 12 .fro (k_call gd (hc _ _ c__law_draw) (k_io gd 0 (by decide +kernel) (a_fr (k_v gd 1 (by decide +kernel)) (a_fr (k_b2 gd .mn k_i (e_ar .mul (k_v gd 4 (by decide +kernel)) (k_v gd 5 (by decide +kernel))) (by decide +kernel)) a_nil rfl) rfl)) (by decide +kernel)) (by decide +kernel))
    (ss_cons (k_app gd 8 (e_tup (as_cons (k_v gd 9 (by decide +kernel)) (as_cons (k_v gd 10 (by decide +kernel)) (as_cons (e_ife (k_inT false (k_v gd 9 (by decide +kernel)) (o_e (e_tup (as_cons k_s (as_cons k_s as_nil rfl) rfl))) rfl) (k_v gd 12 (by decide +kernel)) k_i) (as_cons (e_ix (o_e (e_lst (t := .fro) (.inr ⟨rfl, rfl⟩) (as_cons k_i (as_cons k_i (as_cons k_i (as_cons (e_ar .add k_i (k_call gd (hc _ _ c__law_draw) (k_io gd 0 (by decide +kernel) (a_fr (k_v gd 1 (by decide +kernel)) (a_fr k_i a_nil rfl) rfl)) (by decide +kernel))) as_nil rfl) rfl) rfl) rfl))) (k_call gd (hc _ _ c__law_draw) (k_io gd 0 (by decide +kernel) (a_fr (k_v gd 1 (by decide +kernel)) (a_fr k_i a_nil rfl) rfl)) (by decide +kernel)) rfl) as_nil rfl) rfl) rfl) rfl)) (by decide +kernel))
    ss_nil)))))) (by decide +kernel))
    (ss_fz 8 (ss_cons (s_ret (e_tup (as_cons (k_b1 gd .tup (o_e (k_v gd 6 (by decide +kernel))) (by decide +kernel)) (as_cons (k_b1 gd .tup (o_e (k_v gd 8 (by decide +kernel))) (by decide +kernel)) as_nil rfl) rfl)))
    ss_nil)))))))))

/-! require(holds, rule, index): {} -/
def nm_require : List Str := [(PySem.Str.ofString "holds"), (PySem.Str.ofString "rule"), (PySem.Str.ofString "index")]
theorem sc_require : FnScope nm_require [(PySem.Str.ofString "holds"), (PySem.Str.ofString "rule"), (PySem.Str.ofString "index")] (defScope (topS 8)) := ⟨rfl, rfl, rfl, by decide +kernel, rfl, by decide +kernel, by decide +kernel⟩
def sg_require : Sig := ⟨[.fro, .fro, .fro], .fro⟩
def ir_require : Ss := (.cons (.ife (.no (.e (.v 0))) (.cons (.rse (PySem.Str.ofString "RaceError") [(PySem.Str.ofString "rule"), (PySem.Str.ofString "index")] (.cons (.v 1) (.cons (.v 2) .nil))) .nil) .nil) .nil)
def fx_require (Φ : Cf) : List D → Option Xr := evX Φ sg_require.ps 3 ir_require
theorem ok_require {Φ : Cf} {f : Addr} {fd : FuncData} {k : Nat} (F : Fun K (PySem.Str.ofString "require") (PySem.Str.ofString "require") (topS 8) f fd) (hbl : ∀ x, x ∈ blAll → mg x = none) (q_RaceError : KlsAt P K mg (PySem.Str.ofString "RaceError")) (hk2 : 2 ≤ k) :
    FnOk P w K mg base (L2.CX P w) (k + 1) f fd [(PySem.Str.ofString "holds"), (PySem.Str.ofString "rule"), (PySem.Str.ofString "index")] (spX mg K sg_require (fx_require Φ)) :=
  fn_soundX F sc_require sg_require [] ir_require (by decide) (by decide +kernel) hbl false (fun e => by cases e) [] (by simp) fun X gd hc hx hk hT wx gx fr hp =>
    (ss_cons (s_ife (t_no (t_e (k_v gd 0 (by decide +kernel)) rfl)) (ss_cons (s_rse gx gd (hk _ q_RaceError hk2) (as_cons (k_v gd 1 (by decide +kernel)) (as_cons (k_v gd 2 (by decide +kernel)) as_nil rfl) rfl) (by decide +kernel))
    ss_nil) ss_nil)
    ss_nil)

/-! check_race(race): {} -/
def nm_check_race : List Str := [(PySem.Str.ofString "race"), (PySem.Str.ofString "runners"), (PySem.Str.ofString "protests"), (PySem.Str.ofString "legs"), (PySem.Str.ofString "index"), (PySem.Str.ofString "word"), (PySem.Str.ofString "ticks"), (PySem.Str.ofString "kind"), (PySem.Str.ofString "whom"), (PySem.Str.ofString "many"), (PySem.Str.ofString "group"), (PySem.Str.ofString "one")]
theorem sc_check_race : FnScope nm_check_race [(PySem.Str.ofString "race")] (defScope (topS 9)) := ⟨rfl, rfl, rfl, by decide +kernel, rfl, by decide +kernel, by decide +kernel⟩
def sg_check_race : Sig := ⟨[.fro], .fro⟩
def ir_check_race : Ss := (.cons (.unp (.t (.cons (.n 1) (.cons (.n 2) .nil))) (.v 0)) (.cons (.cx (PySem.Str.ofString "require") (.cons (.ch .le .le (.k (.int 1)) (.b1 .len (.e (.v 1))) (.gl (PySem.Str.ofString "MOST_RUNNERS") (.int 12))) (.cons (.k (.str (PySem.Str.ofString "runners"))) (.cons (.b1 .len (.e (.v 1))) .nil)))) (.cons (.set 3 (.b1 .len (.e (.ix (.e (.ix (.e (.v 1)) (.k (.int 0)))) (.k (.int 1)))))) (.cons (.for (.t (.cons (.n 4) (.cons (.t (.cons (.n 5) (.cons (.n 6) .nil))) .nil))) (.en (.e (.v 1))) (.cons (.cx (PySem.Str.ofString "require") (.cons (.inn false (.v 5) (.e (.tup (.cons (.k (.str (PySem.Str.ofString "run"))) (.cons (.k (.str (PySem.Str.ofString "miss"))) .nil))))) (.cons (.k (.str (PySem.Str.ofString "word"))) (.cons (.v 4) .nil)))) (.cons (.cx (PySem.Str.ofString "require") (.cons (.an (.ch .le .le (.k (.int 1)) (.b1 .len (.e (.v 6))) (.gl (PySem.Str.ofString "MOST_LEGS") (.int 8))) (.eq false (.b1 .len (.e (.v 6))) (.v 3))) (.cons (.k (.str (PySem.Str.ofString "legs"))) (.cons (.v 4) .nil)))) (.cons (.cx (PySem.Str.ofString "require") (.cons (.ge .all (.ch .le .le (.k (.int 0)) (.v 11) (.k (.int 9999))) (.n 11) (.o (.e (.v 6))) .no [11]) (.cons (.k (.str (PySem.Str.ofString "ticks"))) (.cons (.v 4) .nil)))) .nil)))) (.cons (.cx (PySem.Str.ofString "require") (.cons (.cm .le (.b1 .len (.e (.v 2))) (.gl (PySem.Str.ofString "MOST_PROTESTS") (.int 8))) (.cons (.k (.str (PySem.Str.ofString "protests"))) (.cons (.b1 .len (.e (.v 2))) .nil)))) (.cons (.for (.t (.cons (.n 4) (.cons (.t (.cons (.n 7) (.cons (.n 8) (.cons (.n 9) (.cons (.n 10) .nil))))) .nil))) (.en (.e (.v 2))) (.cons (.cx (PySem.Str.ofString "require") (.cons (.inn false (.v 7) (.e (.gl (PySem.Str.ofString "KINDS") (.tuple [(.str (PySem.Str.ofString "back") : D), (.str (PySem.Str.ofString "out") : D), (.str (PySem.Str.ofString "less") : D), (.str (PySem.Str.ofString "more") : D), (.str (PySem.Str.ofString "void") : D)] : D)))) (.cons (.k (.str (PySem.Str.ofString "kind"))) (.cons (.v 4) .nil)))) (.cons (.cx (PySem.Str.ofString "require") (.cons (.ch .le .lt (.k (.int 0)) (.v 8) (.ife (.e (.eq false (.v 7) (.k (.str (PySem.Str.ofString "void"))))) (.v 3) (.b1 .len (.e (.v 1))))) (.cons (.k (.str (PySem.Str.ofString "whom"))) (.cons (.v 4) .nil)))) (.cons (.cx (PySem.Str.ofString "require") (.cons (.ch .le .le (.k (.int 0)) (.v 9) (.ife (.e (.inn false (.v 7) (.e (.tup (.cons (.k (.str (PySem.Str.ofString "less"))) (.cons (.k (.str (PySem.Str.ofString "more"))) .nil)))))) (.k (.int 9999)) (.k (.int 0)))) (.cons (.k (.str (PySem.Str.ofString "many"))) (.cons (.v 4) .nil)))) (.cons (.cx (PySem.Str.ofString "require") (.cons (.ch .le .le (.k (.int 0)) (.v 10) (.k (.int 9))) (.cons (.k (.str (PySem.Str.ofString "group"))) (.cons (.v 4) .nil)))) .nil))))) .nil))))))
def fx_check_race (Φ : Cf) : List D → Option Xr := evX Φ sg_check_race.ps 12 ir_check_race
theorem ok_check_race {Φ : Cf} {f : Addr} {fd : FuncData} {k : Nat} (F : Fun K (PySem.Str.ofString "check_race") (PySem.Str.ofString "check_race") (topS 9) f fd) (hbl : ∀ x, x ∈ blAll → mg x = none) (hgt : 3 ≤ k ∧ ∃ p ∈ tabsK K, fd.code = .ref p.1 ∧ GxR.TabB base mg p.1 p.2) (g_KINDS : GDat (PySem.Str.ofString "KINDS") (.tuple [(.str (PySem.Str.ofString "back") : D), (.str (PySem.Str.ofString "out") : D), (.str (PySem.Str.ofString "less") : D), (.str (PySem.Str.ofString "more") : D), (.str (PySem.Str.ofString "void") : D)] : D) K mg) (hgl : ∀ p ∈ ([(PySem.Str.ofString "MOST_RUNNERS", 12), (PySem.Str.ofString "MOST_LEGS", 8), (PySem.Str.ofString "MOST_PROTESTS", 8)] : List (Str × Int)), ∃ t, mg p.1 = some (.int p.2 t)) (c_require : CalleeX P w K mg base Φ k (PySem.Str.ofString "require") sg_require) :
    FnOk P w K mg base (L2.CX P w) (k + 1) f fd [(PySem.Str.ofString "race")] (spX mg K sg_check_race (fx_check_race Φ)) :=
  fn_soundX F sc_check_race sg_check_race [.fro, .fro, .fro, .fro, .fro, .fro, .fro, .fro, .fro, .fro, .fro] ir_check_race (by decide) (by decide +kernel) hbl true (fun _ => hgt) [(PySem.Str.ofString "MOST_RUNNERS", 12), (PySem.Str.ofString "MOST_LEGS", 8), (PySem.Str.ofString "MOST_PROTESTS", 8)] hgl fun X gd hc hx hk hT wx gx fr hp =>
    (ss_cons (k_unp (k_gt gd (gs_cons (k_gn gd hp 1 (by decide +kernel)) (gs_cons (k_gn gd hp 2 (by decide +kernel)) gs_nil rfl) rfl) (by decide +kernel)) (k_v gd 0 (by decide +kernel)) (by decide +kernel))
    (ss_cons (s_cx (e_cx gx gd (hx _ _ c_require) (as_cons (k_ch .le .le k_i (k_b1 gd .len (o_e (k_v gd 1 (by decide +kernel))) (by decide +kernel)) (k_gi gd 12 (by decide +kernel))) (as_cons k_s (as_cons (k_b1 gd .len (o_e (k_v gd 1 (by decide +kernel))) (by decide +kernel)) as_nil rfl) rfl) rfl) (by decide +kernel)))
    (ss_cons (k_set gd hp 3 .fro (k_b1 gd .len (o_e (e_ix (o_e (e_ix (o_e (k_v gd 1 (by decide +kernel))) k_i rfl)) k_i rfl)) (by decide +kernel)) (by decide +kernel))
    (ss_cons (k_for gd hp [] (k_en gd (w_e (k_v gd 1 (by decide +kernel))) (by decide +kernel)) (fun fr1 hp1 => (k_gt gd (gs_cons (k_gn gd hp1 4 (by decide +kernel)) (gs_cons (k_gt gd (gs_cons (k_gn gd hp1 5 (by decide +kernel)) (gs_cons (k_gn gd hp1 6 (by decide +kernel)) gs_nil rfl) rfl) (by decide +kernel)) gs_nil rfl) rfl) (by decide +kernel))) (fun fr1 hp1 => (ss_cons (s_cx (e_cx gx gd (hx _ _ c_require) (as_cons (k_in false (k_v gd 5 (by decide +kernel)) (o_e (e_tup (as_cons k_s (as_cons k_s as_nil rfl) rfl))) rfl) (as_cons k_s (as_cons (k_v gd 4 (by decide +kernel)) as_nil rfl) rfl) rfl) (by decide +kernel)))
    (ss_cons (s_cx (e_cx gx gd (hx _ _ c_require) (as_cons (e_an (k_ch .le .le k_i (k_b1 gd .len (o_e (k_v gd 6 (by decide +kernel))) (by decide +kernel)) (k_gi gd 8 (by decide +kernel))) (pe_one (k_eq gd false (k_b1 gd .len (o_e (k_v gd 6 (by decide +kernel))) (by decide +kernel)) (k_v gd 3 (by decide +kernel))))) (as_cons k_s (as_cons (k_v gd 4 (by decide +kernel)) as_nil rfl) rfl) rfl) (by decide +kernel)))
    (ss_cons (s_cx (e_cx gx gd (hx _ _ c_require) (as_cons (k_ge gd hp1 [] [(PySem.Str.ofString "one", 11)] .all (by decide +kernel) (it_o (w_e (k_v gd 6 (by decide +kernel)))) (fun _ gd2 cv2 fr2 hp2 => (k_gn gd2 hp2 11 (by decide +kernel))) (fun _ gd2 cv2 => pc_no) (fun _ gd2 cv2 fr2 hp2 => (k_ch .le .le k_i (k_v gd2 11 (by decide +kernel)) k_i))) (as_cons k_s (as_cons (k_v gd 4 (by decide +kernel)) as_nil rfl) rfl) rfl) (by decide +kernel)))
    ss_nil)))) (by decide +kernel))
    (ss_cons (s_cx (e_cx gx gd (hx _ _ c_require) (as_cons (k_cm .le (k_b1 gd .len (o_e (k_v gd 2 (by decide +kernel))) (by decide +kernel)) (k_gi gd 8 (by decide +kernel))) (as_cons k_s (as_cons (k_b1 gd .len (o_e (k_v gd 2 (by decide +kernel))) (by decide +kernel)) as_nil rfl) rfl) rfl) (by decide +kernel)))
    (ss_cons (k_for gd hp [] (k_en gd (w_e (k_v gd 2 (by decide +kernel))) (by decide +kernel)) (fun fr3 hp3 => (k_gt gd (gs_cons (k_gn gd hp3 4 (by decide +kernel)) (gs_cons (k_gt gd (gs_cons (k_gn gd hp3 7 (by decide +kernel)) (gs_cons (k_gn gd hp3 8 (by decide +kernel)) (gs_cons (k_gn gd hp3 9 (by decide +kernel)) (gs_cons (k_gn gd hp3 10 (by decide +kernel)) gs_nil rfl) rfl) rfl) rfl) (by decide +kernel)) gs_nil rfl) rfl) (by decide +kernel))) (fun fr3 hp3 => (ss_cons (s_cx (e_cx gx gd (hx _ _ c_require) (as_cons (k_in false (k_v gd 7 (by decide +kernel)) (o_e (k_gd gd (hT _ g_KINDS) (by decide +kernel))) rfl) (as_cons k_s (as_cons (k_v gd 4 (by decide +kernel)) as_nil rfl) rfl) rfl) (by decide +kernel)))
    (ss_cons (s_cx (e_cx gx gd (hx _ _ c_require) (as_cons (k_ch .le .lt k_i (k_v gd 8 (by decide +kernel)) (e_ife (k_eqT gd false (k_v gd 7 (by decide +kernel)) k_s) (k_v gd 3 (by decide +kernel)) (k_b1 gd .len (o_e (k_v gd 1 (by decide +kernel))) (by decide +kernel)))) (as_cons k_s (as_cons (k_v gd 4 (by decide +kernel)) as_nil rfl) rfl) rfl) (by decide +kernel)))
    (ss_cons (s_cx (e_cx gx gd (hx _ _ c_require) (as_cons (k_ch .le .le k_i (k_v gd 9 (by decide +kernel)) (e_ife (k_inT false (k_v gd 7 (by decide +kernel)) (o_e (e_tup (as_cons k_s (as_cons k_s as_nil rfl) rfl))) rfl) k_i k_i)) (as_cons k_s (as_cons (k_v gd 4 (by decide +kernel)) as_nil rfl) rfl) rfl) (by decide +kernel)))
    (ss_cons (s_cx (e_cx gx gd (hx _ _ c_require) (as_cons (k_ch .le .le k_i (k_v gd 10 (by decide +kernel)) k_i) (as_cons k_s (as_cons (k_v gd 4 (by decide +kernel)) as_nil rfl) rfl) rfl) (by decide +kernel)))
    ss_nil))))) (by decide +kernel))
    ss_nil))))))

/-! _law_told(race): {} -/
def nm__law_told : List Str := [(PySem.Str.ofString "race"), (PySem.Str.ofString "e")]
theorem sc__law_told : FnScope nm__law_told [(PySem.Str.ofString "race")] (defScope (topS 18)) := ⟨rfl, rfl, rfl, by decide +kernel, rfl, by decide +kernel, by decide +kernel⟩
def sg__law_told : Sig := ⟨[.fro], .fro⟩
def ir__law_told : Ss := (.cons (.tr (.cons (.rtx (PySem.Str.ofString "check_race") (.cons (.v 0) .nil)) .nil) (PySem.Str.ofString "RaceError") 1 (.ret (.ife (.ise (PySem.Str.ofString "RaceError") true) (.tup (.cons (.xf (PySem.Str.ofString "rule")) (.cons (.xf (PySem.Str.ofString "index")) .nil))) (.k (.str (PySem.Str.ofString "wrong")))))) .nil)
def fx__law_told (Φ : Cf) : List D → Option (D × List D) := evF Φ sg__law_told.ps 2 ir__law_told
theorem ok__law_told {Φ : Cf} {f : Addr} {fd : FuncData} {k : Nat} (F : Fun K (PySem.Str.ofString "_law_told") (PySem.Str.ofString "_law_told") (topS 18) f fd) (hbl : ∀ x, x ∈ blAll → mg x = none) (q_RaceError : KlsAt P K mg (PySem.Str.ofString "RaceError")) (hk2 : 2 ≤ k) (p_RaceError_WayError : IsP (PySem.Str.ofString "RaceError") (PySem.Str.ofString "WayError") true K mg) (c_check_race : CalleeX P w K mg base Φ k (PySem.Str.ofString "check_race") sg_check_race) :
    FnOk P w K mg base CX0 (k + 1) f fd [(PySem.Str.ofString "race")] (spI K sg__law_told (fx__law_told Φ)) :=
  fn_sound F sc__law_told sg__law_told [.fro] ir__law_told (by decide +kernel) hbl false (fun e => by cases e) [] (by simp) fun X gd hc hx hk hT wx gx fr hp =>
    (ss_cons (s_tr (i := 1) gx gd hp (hk _ q_RaceError hk2) (by decide +kernel) (fun _ gd1 cv1 xv1 kv1 _ gx1 => (ss_cons (s_rtx (e_cx gx1 gd1 (xv1 _ _ (hx _ _ c_check_race)) (as_cons (k_v gd1 0 (by decide +kernel)) as_nil rfl) (by decide +kernel)))
    ss_nil)) (fun _ kc _ _ _ _ hz hf => (hb_ret (h_ife (ht_e (k_hise gd kc hz hf (hT _ p_RaceError_WayError) (by decide +kernel)) rfl) (h_tup (hs_cons (k_xf1 gd kc hz hf (by decide +kernel)) (hs_cons (k_xf2 gd kc hz hf (by decide +kernel)) hs_nil rfl) rfl)) k_hs))))
    ss_nil)

/-! _law_goes(protests, granted): {} -/
def nm__law_goes : List Str := [(PySem.Str.ofString "protests"), (PySem.Str.ofString "granted"), (PySem.Str.ofString "good"), (PySem.Str.ofString "one"), (PySem.Str.ofString "other")]
theorem sc__law_goes : FnScope nm__law_goes [(PySem.Str.ofString "protests"), (PySem.Str.ofString "granted")] (defScope (topS 20)) := ⟨rfl, rfl, rfl, by decide +kernel, rfl, by decide +kernel, by decide +kernel⟩
def sg__law_goes : Sig := ⟨[.fro, .fro], .fro⟩
def ir__law_goes : Ss := (.cons (.set 2 (.an (.b1 .all (.e (.comp (.ch .le .lt (.k (.int 0)) (.v 3) (.b1 .len (.e (.v 0)))) (.n 3) (.o (.e (.v 1))) .no [3]))) (.an (.eq false (.v 1) (.srr false (.e (.v 1)))) (.eq false (.lst0 (.v 1)) (.b1 .len (.e (.v 1))))))) (.cons (.ife (.no (.e (.v 2))) (.cons (.ret (.k (.bool false))) .nil) .nil) (.cons (.for (.n 3) (.o (.e (.v 1))) (.cons (.ife (.an (.e (.cm .gt (.ix (.e (.ix (.e (.v 0)) (.v 3))) (.k (.int 3))) (.k (.int 0)))) (.e (.cm .gt (.b1 .len (.e (.comp (.v 4) (.n 4) (.o (.e (.v 1))) (.so (.e (.eq false (.ix (.e (.ix (.e (.v 0)) (.v 4))) (.k (.int 3))) (.ix (.e (.ix (.e (.v 0)) (.v 3))) (.k (.int 3)))))) [4]))) (.k (.int 1))))) (.cons (.ret (.k (.bool false))) .nil) .nil) .nil)) (.cons (.ret (.k (.bool true))) .nil))))
def fx__law_goes (Φ : Cf) : List D → Option (D × List D) := evF Φ sg__law_goes.ps 5 ir__law_goes
theorem ok__law_goes {Φ : Cf} {f : Addr} {fd : FuncData} {k : Nat} (F : Fun K (PySem.Str.ofString "_law_goes") (PySem.Str.ofString "_law_goes") (topS 20) f fd) (hbl : ∀ x, x ∈ blAll → mg x = none) :
    FnOk P w K mg base CX0 (k + 1) f fd [(PySem.Str.ofString "protests"), (PySem.Str.ofString "granted")] (spI K sg__law_goes (fx__law_goes Φ)) :=
  fn_sound F sc__law_goes sg__law_goes [.fro, .fro, .fro] ir__law_goes (by decide +kernel) hbl false (fun e => by cases e) [] (by simp) fun X gd hc hx hk hT wx gx fr hp =>
    (ss_cons (k_set gd hp 2 .fro (e_an (k_b1 gd .all (o_e (k_comp gd hp [] [(PySem.Str.ofString "one", 3)] (t := .fro) (.inr ⟨rfl, rfl⟩) (by decide +kernel) (it_o (w_e (k_v gd 1 (by decide +kernel)))) (fun _ gd1 cv1 fr1 hp1 => (k_gn gd1 hp1 3 (by decide +kernel))) (fun _ gd1 cv1 => pc_no) (fun _ gd1 cv1 fr1 hp1 => (k_ch .le .lt k_i (k_v gd1 3 (by decide +kernel)) (k_b1 gd1 .len (o_e (k_v gd1 0 (by decide +kernel))) (by decide +kernel)))))) (by decide +kernel)) (e_an (k_eq gd false (k_v gd 1 (by decide +kernel)) (k_srr gd (.inr ⟨rfl, rfl⟩) (o_e (k_v gd 1 (by decide +kernel))) (by decide +kernel))) (pe_one (k_eq gd false (k_lst0 gd (k_v gd 1 (by decide +kernel)) (by decide +kernel)) (k_b1 gd .len (o_e (k_v gd 1 (by decide +kernel))) (by decide +kernel)))))) (by decide +kernel))
    (ss_cons (s_ife (t_no (t_e (k_v gd 2 (by decide +kernel)) rfl)) (ss_cons (s_ret k_b)
    ss_nil) ss_nil)
    (ss_cons (k_for gd hp [] (it_o (w_e (k_v gd 1 (by decide +kernel)))) (fun fr2 hp2 => (k_gn gd hp2 3 (by decide +kernel))) (fun fr2 hp2 => (ss_cons (s_ife (PW.pt (w_an (k_cmT .gt (e_ix (o_e (e_ix (o_e (k_v gd 0 (by decide +kernel))) (k_v gd 3 (by decide +kernel)) rfl)) k_i rfl) k_i) (pw_and1 (k_cmT .gt (k_b1 gd .len (o_e (k_comp gd hp2 [] [(PySem.Str.ofString "other", 4)] (t := .fro) (.inr ⟨rfl, rfl⟩) (by decide +kernel) (it_o (w_e (k_v gd 1 (by decide +kernel)))) (fun _ gd3 cv3 fr3 hp3 => (k_gn gd3 hp3 4 (by decide +kernel))) (fun _ gd3 cv3 => pc_so fun fr3 hp3 => (k_eqT gd3 false (e_ix (o_e (e_ix (o_e (k_v gd3 0 (by decide +kernel))) (k_v gd3 4 (by decide +kernel)) rfl)) k_i rfl) (e_ix (o_e (e_ix (o_e (k_v gd3 0 (by decide +kernel))) (k_v gd3 3 (by decide +kernel)) rfl)) k_i rfl))) (fun _ gd3 cv3 fr3 hp3 => (k_v gd3 4 (by decide +kernel))))) (by decide +kernel)) k_i)))) (ss_cons (s_ret k_b)
    ss_nil) ss_nil)
    ss_nil)) (by decide +kernel))
    (ss_cons (s_ret k_b)
    ss_nil))))

/-! _law_spoilt(state, script, race): {'state': "('lst', 'fro')", 'runners': "('lst', ('lst', 'fro'))", 'protests': "('lst', ('lst', 'fro'))"} -/
def nm__law_spoilt : List Str := [(PySem.Str.ofString "state"), (PySem.Str.ofString "script"), (PySem.Str.ofString "race"), (PySem.Str.ofString "runners"), (PySem.Str.ofString "protests"), (PySem.Str.ofString "kind"), (PySem.Str.ofString "at"), (PySem.Str.ofString "place"), (PySem.Str.ofString "one")]
theorem sc__law_spoilt : FnScope nm__law_spoilt [(PySem.Str.ofString "state"), (PySem.Str.ofString "script"), (PySem.Str.ofString "race")] (defScope (topS 19)) := ⟨rfl, rfl, rfl, by decide +kernel, rfl, by decide +kernel, by decide +kernel⟩
def sg__law_spoilt : Sig := ⟨[(.lst .fro), .fro, .fro], .fro⟩
def ir__law_spoilt : Ss := (.cons (.par 3 4 (.comp (.b1 .lst (.e (.v 8))) (.n 8) (.o (.e (.ix (.e (.v 2)) (.k (.int 0))))) .no [8]) (.comp (.b1 .lst (.e (.v 8))) (.n 8) (.o (.e (.ix (.e (.v 2)) (.k (.int 1))))) .no [8])) (.cons (.set 5 (.call (PySem.Str.ofString "_law_draw") (.io 0 (.fr (.v 1) (.fr (.k (.int 7)) .nil))))) (.jn2 3 4 (.ife (.orr (.e (.eq false (.v 5) (.k (.int 0)))) (.no (.sl 3))) (.fro (.cons (.set 3 (.ix (.e (.lst (.cons (.lst .nil) (.cons (.lrep (.e (.v 3)) (.k (.int 13))) (.cons (.slc (.e (.v 3)) .no (.so (.k (.int 1)))) .nil))))) (.call (PySem.Str.ofString "_law_draw") (.io 0 (.fr (.v 1) (.fr (.k (.int 3)) .nil)))))) .nil)) (.ife (.e (.eq false (.v 5) (.k (.int 1)))) (.own (.cons (.sti2 3 (.call (PySem.Str.ofString "_law_draw") (.io 0 (.fr (.v 1) (.fr (.ln 3) .nil)))) (.k (.int 0)) (.ix (.e (.lst (.cons (.k (.str (PySem.Str.ofString "ran"))) (.cons (.k (.str (PySem.Str.ofString ""))) (.cons (.k (.str (PySem.Str.ofString "miss"))) .nil))))) (.call (PySem.Str.ofString "_law_draw") (.io 0 (.fr (.v 1) (.fr (.k (.int 3)) .nil)))))) .nil)) (.ife (.e (.eq false (.v 5) (.k (.int 2)))) (.own (.cons (.set 6 (.call (PySem.Str.ofString "_law_draw") (.io 0 (.fr (.v 1) (.fr (.ln 3) .nil))))) (.cons (.sti2 3 (.v 6) (.k (.int 1)) (.ix (.e (.lst (.cons (.tup .nil) (.cons (.tcat (.ix2 3 (.v 6) (.k (.int 1))) (.tup (.cons (.k (.int 1)) .nil))) (.cons (.trep (.tup (.cons (.k (.int 1)) .nil)) (.k (.int 9))) (.cons (.slc (.e (.ix2 3 (.v 6) (.k (.int 1)))) (.so (.k (.int 1))) .no) .nil)))))) (.call (PySem.Str.ofString "_law_draw") (.io 0 (.fr (.v 1) (.fr (.k (.int 4)) .nil)))))) .nil))) (.ife (.e (.eq false (.v 5) (.k (.int 3)))) (.own (.cons (.set 6 (.call (PySem.Str.ofString "_law_draw") (.io 0 (.fr (.v 1) (.fr (.ln 3) .nil))))) (.cons (.sti2 3 (.v 6) (.k (.int 1)) (.tcat (.slc (.e (.ix2 3 (.v 6) (.k (.int 1)))) .no (.so (.ar .sub (.b1 .len (.e (.ix2 3 (.v 6) (.k (.int 1))))) (.k (.int 1))))) (.tup (.cons (.ix (.e (.lst (.cons (.neg (.k (.int 1))) (.cons (.k (.int 10000)) (.cons (.k (.int 9999)) .nil))))) (.call (PySem.Str.ofString "_law_draw") (.io 0 (.fr (.v 1) (.fr (.k (.int 3)) .nil))))) .nil)))) .nil))) (.ife (.e (.eq false (.v 5) (.k (.int 4)))) (.frj (.cons (.set 4 (.lcat (.e (.v 4)) (.e (.lrep (.e (.lst (.cons (.lst (.cons (.k (.str (PySem.Str.ofString "out"))) (.cons (.k (.int 0)) (.cons (.k (.int 0)) (.cons (.k (.int 0)) .nil))))) .nil))) (.ix (.e (.lst (.cons (.k (.int 1)) (.cons (.k (.int 8)) (.cons (.k (.int 9)) .nil))))) (.call (PySem.Str.ofString "_law_draw") (.io 0 (.fr (.v 1) (.fr (.k (.int 3)) .nil))))))))) .nil)) (.own (.cons (.ife (.sl 4) (.cons (.set 6 (.call (PySem.Str.ofString "_law_draw") (.io 0 (.fr (.v 1) (.fr (.ln 4) .nil))))) (.cons (.set 7 (.call (PySem.Str.ofString "_law_draw") (.io 0 (.fr (.v 1) (.fr (.k (.int 4)) .nil))))) (.cons (.sti2 4 (.v 6) (.v 7) (.ix (.e (.ix (.e (.lst (.cons (.lst (.cons (.k (.str (PySem.Str.ofString "in"))) (.cons (.k (.str (PySem.Str.ofString "void"))) (.cons (.k (.str (PySem.Str.ofString "less"))) .nil)))) (.cons (.lst (.cons (.neg (.k (.int 1))) (.cons (.k (.int 12)) (.cons (.k (.int 8)) .nil)))) (.cons (.lst (.cons (.neg (.k (.int 1))) (.cons (.k (.int 10000)) (.cons (.k (.int 1)) .nil)))) (.cons (.lst (.cons (.neg (.k (.int 1))) (.cons (.k (.int 10)) (.cons (.k (.int 9)) .nil)))) .nil)))))) (.v 7))) (.call (PySem.Str.ofString "_law_draw") (.io 0 (.fr (.v 1) (.fr (.k (.int 3)) .nil)))))) .nil))) .nil) .nil))))))) (.cons (.ret (.tup (.cons (.b1 .tup (.e (.comp (.b1 .tup (.e (.v 8))) (.n 8) (.o (.e (.v 3))) .no [8]))) (.cons (.b1 .tup (.e (.comp (.b1 .tup (.e (.v 8))) (.n 8) (.o (.e (.v 4))) .no [8]))) .nil)))) .nil))))
def fx__law_spoilt (Φ : Cf) : List D → Option (D × List D) := evF Φ sg__law_spoilt.ps 9 ir__law_spoilt
theorem ok__law_spoilt {Φ : Cf} {f : Addr} {fd : FuncData} {k : Nat} (F : Fun K (PySem.Str.ofString "_law_spoilt") (PySem.Str.ofString "_law_spoilt") (topS 19) f fd) (hbl : ∀ x, x ∈ blAll → mg x = none) (c__law_draw : Callee P w K mg base Φ k (PySem.Str.ofString "_law_draw") sg__law_draw) :
    FnOk P w K mg base CX0 (k + 1) f fd [(PySem.Str.ofString "state"), (PySem.Str.ofString "script"), (PySem.Str.ofString "race")] (spI K sg__law_spoilt (fx__law_spoilt Φ)) :=
  fn_sound F sc__law_spoilt sg__law_spoilt [(.lst (.lst .fro)), (.lst (.lst .fro)), .fro, .fro, .fro, .fro] ir__law_spoilt (by decide +kernel) hbl false (fun e => by cases e) [] (by simp) fun X gd hc hx hk hT wx gx fr hp =>
    (ss_cons (k_par gd hp 3 4 (.lst (.lst .fro)) (.lst (.lst .fro)) (k_comp gd hp [0] [(PySem.Str.ofString "one", 8)] (t := (.lst .fro)) (.inl rfl) (by decide +kernel) (it_o (w_e (e_ix (o_e (k_v gd 2 (by decide +kernel))) k_i rfl))) (fun _ gd1 cv1 fr1 hp1 => (k_gn gd1 hp1 8 (by decide +kernel))) (fun _ gd1 cv1 => pc_no) (fun _ gd1 cv1 fr1 hp1 => (k_b1 gd1 .lst (o_e (k_v gd1 8 (by decide +kernel))) (by decide +kernel)))) (k_comp gd hp [0] [(PySem.Str.ofString "one", 8)] (t := (.lst .fro)) (.inl rfl) (by decide +kernel) (it_o (w_e (e_ix (o_e (k_v gd 2 (by decide +kernel))) k_i rfl))) (fun _ gd2 cv2 fr2 hp2 => (k_gn gd2 hp2 8 (by decide +kernel))) (fun _ gd2 cv2 => pc_no) (fun _ gd2 cv2 fr2 hp2 => (k_b1 gd2 .lst (o_e (k_v gd2 8 (by decide +kernel))) (by decide +kernel)))) (by decide +kernel))
    (ss_cons (k_set gd hp 5 .fro (k_call gd (hc _ _ c__law_draw) (k_io gd 0 (by decide +kernel) (a_fr (k_v gd 1 (by decide +kernel)) (a_fr k_i a_nil rfl) rfl)) (by decide +kernel)) (by decide +kernel))
    (ss_jn2 3 4 (z2_if (PW.pt (w_orr (k_eqT gd false (k_v gd 5 (by decide +kernel)) k_i) (pw_or1 (t_no (k_sl2 (t := .lst .fro) gd 3 (by decide +kernel)))))) (z2_fro (ss_cons (k_set gd hp 3 .fro (e_ix (o_e (e_lst (t := .fro) (.inr ⟨rfl, rfl⟩) (as_cons (e_lst (t := .fro) (.inr ⟨rfl, rfl⟩) as_nil) (as_cons (e_lrep (.inr ⟨rfl, rfl⟩) (o_e (k_v gd 3 (by decide +kernel))) k_i) (as_cons (e_slc (w := .fro) (.inr ⟨rfl, rfl⟩) (o_e (k_v gd 3 (by decide +kernel))) oe_no (oe_so k_i) (.inl rfl)) as_nil rfl) rfl) rfl))) (k_call gd (hc _ _ c__law_draw) (k_io gd 0 (by decide +kernel) (a_fr (k_v gd 1 (by decide +kernel)) (a_fr k_i a_nil rfl) rfl)) (by decide +kernel)) rfl) (by decide +kernel))
    ss_nil)) (z2_one (z2_if (k_eqT gd false (k_v gd 5 (by decide +kernel)) k_i) (z2_own (ss_cons (k_sti2 gd 3 (k_call gd (hc _ _ c__law_draw) (k_io gd 0 (by decide +kernel) (a_fr (k_v gd 1 (by decide +kernel)) (a_fr (k_ln (t := .lst .fro) gd 3 (by decide +kernel)) a_nil rfl) rfl)) (by decide +kernel)) k_ii (e_ix (o_e (e_lst (t := .fro) (.inr ⟨rfl, rfl⟩) (as_cons k_s (as_cons k_s (as_cons k_s as_nil rfl) rfl) rfl))) (k_call gd (hc _ _ c__law_draw) (k_io gd 0 (by decide +kernel) (a_fr (k_v gd 1 (by decide +kernel)) (a_fr k_i a_nil rfl) rfl)) (by decide +kernel)) rfl) (by decide +kernel))
    ss_nil)) (z2_one (z2_if (k_eqT gd false (k_v gd 5 (by decide +kernel)) k_i) (z2_own (ss_cons (k_set gd hp 6 .fro (k_call gd (hc _ _ c__law_draw) (k_io gd 0 (by decide +kernel) (a_fr (k_v gd 1 (by decide +kernel)) (a_fr (k_ln (t := .lst .fro) gd 3 (by decide +kernel)) a_nil rfl) rfl)) (by decide +kernel)) (by decide +kernel))
    (ss_cons (k_sti2 gd 3 (k_v gd 6 (by decide +kernel)) k_ii (e_ix (o_e (e_lst (t := .fro) (.inr ⟨rfl, rfl⟩) (as_cons (e_tup as_nil) (as_cons (e_tcat (k_ix2 gd 3 (k_v gd 6 (by decide +kernel)) k_ii (by decide +kernel)) (e_tup (as_cons k_i as_nil rfl))) (as_cons (e_trep (e_tup (as_cons k_i as_nil rfl)) k_i) (as_cons (e_slc (w := .fro) (.inr ⟨rfl, rfl⟩) (o_e (k_ix2 gd 3 (k_v gd 6 (by decide +kernel)) k_ii (by decide +kernel))) (oe_so k_i) oe_no (.inl rfl)) as_nil rfl) rfl) rfl) rfl))) (k_call gd (hc _ _ c__law_draw) (k_io gd 0 (by decide +kernel) (a_fr (k_v gd 1 (by decide +kernel)) (a_fr k_i a_nil rfl) rfl)) (by decide +kernel)) rfl) (by decide +kernel))
    ss_nil))) (z2_one (z2_if (k_eqT gd false (k_v gd 5 (by decide +kernel)) k_i) (z2_own (ss_cons (k_set gd hp 6 .fro (k_call gd (hc _ _ c__law_draw) (k_io gd 0 (by decide +kernel) (a_fr (k_v gd 1 (by decide +kernel)) (a_fr (k_ln (t := .lst .fro) gd 3 (by decide +kernel)) a_nil rfl) rfl)) (by decide +kernel)) (by decide +kernel))
    (ss_cons (k_sti2 gd 3 (k_v gd 6 (by decide +kernel)) k_ii (e_tcat (e_slc (w := .fro) (.inr ⟨rfl, rfl⟩) (o_e (k_ix2 gd 3 (k_v gd 6 (by decide +kernel)) k_ii (by decide +kernel))) oe_no (oe_so (e_ar .sub (k_b1 gd .len (o_e (k_ix2 gd 3 (k_v gd 6 (by decide +kernel)) k_ii (by decide +kernel))) (by decide +kernel)) k_i)) (.inl rfl)) (e_tup (as_cons (e_ix (o_e (e_lst (t := .fro) (.inr ⟨rfl, rfl⟩) (as_cons (e_neg k_i) (as_cons k_i (as_cons k_i as_nil rfl) rfl) rfl))) (k_call gd (hc _ _ c__law_draw) (k_io gd 0 (by decide +kernel) (a_fr (k_v gd 1 (by decide +kernel)) (a_fr k_i a_nil rfl) rfl)) (by decide +kernel)) rfl) as_nil rfl))) (by decide +kernel))
    ss_nil))) (z2_one (z2_if (k_eqT gd false (k_v gd 5 (by decide +kernel)) k_i) (z2_frj (ss_cons (k_set gd hp 4 .fro (e_lcat (.inr ⟨rfl, rfl⟩) (o_e (k_v gd 4 (by decide +kernel))) (o_e (e_lrep (.inr ⟨rfl, rfl⟩) (o_e (e_lst (t := .fro) (.inr ⟨rfl, rfl⟩) (as_cons (e_lst (t := .fro) (.inr ⟨rfl, rfl⟩) (as_cons k_s (as_cons k_i (as_cons k_i (as_cons k_i as_nil rfl) rfl) rfl) rfl)) as_nil rfl))) (e_ix (o_e (e_lst (t := .fro) (.inr ⟨rfl, rfl⟩) (as_cons k_i (as_cons k_i (as_cons k_i as_nil rfl) rfl) rfl))) (k_call gd (hc _ _ c__law_draw) (k_io gd 0 (by decide +kernel) (a_fr (k_v gd 1 (by decide +kernel)) (a_fr k_i a_nil rfl) rfl)) (by decide +kernel)) rfl)))) (by decide +kernel))
    ss_nil)) (z2_own (ss_cons (s_ife (k_sl2 (t := .lst .fro) gd 4 (by decide +kernel)) (ss_cons (k_set gd hp 6 .fro (k_call gd (hc _ _ c__law_draw) (k_io gd 0 (by decide +kernel) (a_fr (k_v gd 1 (by decide +kernel)) (a_fr (k_ln (t := .lst .fro) gd 4 (by decide +kernel)) a_nil rfl) rfl)) (by decide +kernel)) (by decide +kernel))
    (ss_cons (k_set gd hp 7 .fro (k_call gd (hc _ _ c__law_draw) (k_io gd 0 (by decide +kernel) (a_fr (k_v gd 1 (by decide +kernel)) (a_fr k_i a_nil rfl) rfl)) (by decide +kernel)) (by decide +kernel))
    (ss_cons (k_sti2 gd 4 (k_v gd 6 (by decide +kernel)) (k_iv gd 7 (by decide +kernel)) (e_ix (o_e (e_ix (o_e (e_lst (t := .fro) (.inr ⟨rfl, rfl⟩) (as_cons (e_lst (t := .fro) (.inr ⟨rfl, rfl⟩) (as_cons k_s (as_cons k_s (as_cons k_s as_nil rfl) rfl) rfl)) (as_cons (e_lst (t := .fro) (.inr ⟨rfl, rfl⟩) (as_cons (e_neg k_i) (as_cons k_i (as_cons k_i as_nil rfl) rfl) rfl)) (as_cons (e_lst (t := .fro) (.inr ⟨rfl, rfl⟩) (as_cons (e_neg k_i) (as_cons k_i (as_cons k_i as_nil rfl) rfl) rfl)) (as_cons (e_lst (t := .fro) (.inr ⟨rfl, rfl⟩) (as_cons (e_neg k_i) (as_cons k_i (as_cons k_i as_nil rfl) rfl) rfl)) as_nil rfl) rfl) rfl) rfl))) (k_v gd 7 (by decide +kernel)) rfl)) (k_call gd (hc _ _ c__law_draw) (k_io gd 0 (by decide +kernel) (a_fr (k_v gd 1 (by decide +kernel)) (a_fr k_i a_nil rfl) rfl)) (by decide +kernel)) rfl) (by decide +kernel))
    ss_nil))) ss_nil)
    ss_nil)))))))))))
    (ss_cons (s_ret (e_tup (as_cons (k_b1 gd .tup (o_e (k_comp gd hp [0] [(PySem.Str.ofString "one", 8)] (t := .fro) (.inr ⟨rfl, rfl⟩) (by decide +kernel) (it_o (w_e (k_v gd 3 (by decide +kernel)))) (fun _ gd3 cv3 fr3 hp3 => (k_gn gd3 hp3 8 (by decide +kernel))) (fun _ gd3 cv3 => pc_no) (fun _ gd3 cv3 fr3 hp3 => (k_b1 gd3 .tup (o_e (k_v gd3 8 (by decide +kernel))) (by decide +kernel))))) (by decide +kernel)) (as_cons (k_b1 gd .tup (o_e (k_comp gd hp [0] [(PySem.Str.ofString "one", 8)] (t := .fro) (.inr ⟨rfl, rfl⟩) (by decide +kernel) (it_o (w_e (k_v gd 4 (by decide +kernel)))) (fun _ gd4 cv4 fr4 hp4 => (k_gn gd4 hp4 8 (by decide +kernel))) (fun _ gd4 cv4 => pc_no) (fun _ gd4 cv4 fr4 hp4 => (k_b1 gd4 .tup (o_e (k_v gd4 8 (by decide +kernel))) (by decide +kernel))))) (by decide +kernel)) as_nil rfl) rfl)))
    ss_nil))))

/-! _law_exact(first, second): {} -/
def nm__law_exact : List Str := [(PySem.Str.ofString "first"), (PySem.Str.ofString "second"), (PySem.Str.ofString "alike"), (PySem.Str.ofString "k")]
theorem sc__law_exact : FnScope nm__law_exact [(PySem.Str.ofString "first"), (PySem.Str.ofString "second")] (defScope (topS 15)) := ⟨rfl, rfl, rfl, by decide +kernel, rfl, by decide +kernel, by decide +kernel⟩
def sg__law_exact : Sig := ⟨[.fro, .fro], .fro⟩
def ir__law_exact : Ss := (.cons (.ife (.e (.isi .lt (.e (.v 0)))) (.cons (.ife (.orr (.e (.eq true (.isi .l (.e (.v 0))) (.isi .l (.e (.v 1))))) (.e (.eq true (.isi .t (.e (.v 0))) (.isi .t (.e (.v 1)))))) (.cons (.ret (.k (.bool false))) .nil) .nil) (.cons (.ret (.an (.eq false (.b1 .len (.e (.v 0))) (.b1 .len (.e (.v 1)))) (.b1 .all (.e (.comp (.call (PySem.Str.ofString "_law_exact") (.fr (.ix (.e (.v 0)) (.v 3)) (.fr (.ix (.e (.v 1)) (.v 3)) .nil))) (.n 3) (.r1 (.b1 .len (.e (.v 0)))) .no [3]))))) .nil)) .nil) (.cons (.ife (.orr (.e (.isn false (.v 0))) (.e (.isn false (.v 1)))) (.cons (.ret (.an (.isn false (.v 0)) (.isn false (.v 1)))) .nil) .nil) (.cons (.set 2 (.an (.eq false (.isi .s (.e (.v 0))) (.isi .s (.e (.v 1)))) (.eq false (.isi .b (.e (.v 0))) (.isi .b (.e (.v 1)))))) (.cons (.ret (.an (.v 2) (.an (.eq false (.isi .i (.e (.v 0))) (.isi .i (.e (.v 1)))) (.eq false (.v 0) (.v 1))))) .nil))))
def fx__law_exact (Φ : Cf) : List D → Option (D × List D) := evF Φ sg__law_exact.ps 4 ir__law_exact
theorem ok__law_exact {Φ : Cf} {f : Addr} {fd : FuncData} {k : Nat} (F : Fun K (PySem.Str.ofString "_law_exact") (PySem.Str.ofString "_law_exact") (topS 15) f fd) (hbl : ∀ x, x ∈ blAll → mg x = none) (c__law_exact : Callee P w K mg base Φ k (PySem.Str.ofString "_law_exact") sg__law_exact) :
    FnOk P w K mg base CX0 (k + 1) f fd [(PySem.Str.ofString "first"), (PySem.Str.ofString "second")] (spI K sg__law_exact (fx__law_exact Φ)) :=
  fn_sound F sc__law_exact sg__law_exact [.fro, .fro] ir__law_exact (by decide +kernel) hbl false (fun e => by cases e) [] (by simp) fun X gd hc hx hk hT wx gx fr hp =>
    (ss_cons (s_ife (t_e (k_isi2 gd (o_e (k_v gd 0 (by decide +kernel))) (by decide +kernel)) rfl) (ss_cons (s_ife (PW.pt (w_orr (k_eqT gd true (k_isi gd .l (o_e (k_v gd 0 (by decide +kernel))) (by decide +kernel)) (k_isi gd .l (o_e (k_v gd 1 (by decide +kernel))) (by decide +kernel))) (pw_or1 (k_eqT gd true (k_isi gd .t (o_e (k_v gd 0 (by decide +kernel))) (by decide +kernel)) (k_isi gd .t (o_e (k_v gd 1 (by decide +kernel))) (by decide +kernel)))))) (ss_cons (s_ret k_b)
    ss_nil) ss_nil)
    (ss_cons (s_ret (e_an (k_eq gd false (k_b1 gd .len (o_e (k_v gd 0 (by decide +kernel))) (by decide +kernel)) (k_b1 gd .len (o_e (k_v gd 1 (by decide +kernel))) (by decide +kernel))) (pe_one (k_b1 gd .all (o_e (k_comp gd hp [] [(PySem.Str.ofString "k", 3)] (t := .fro) (.inr ⟨rfl, rfl⟩) (by decide +kernel) (k_r1 gd (k_b1 gd .len (o_e (k_v gd 0 (by decide +kernel))) (by decide +kernel)) (by decide +kernel)) (fun _ gd1 cv1 fr1 hp1 => (k_gn gd1 hp1 3 (by decide +kernel))) (fun _ gd1 cv1 => pc_no) (fun _ gd1 cv1 fr1 hp1 => (k_call gd1 (cv1 _ _ _ (hc _ _ c__law_exact)) (a_fr (e_ix (o_e (k_v gd1 0 (by decide +kernel))) (k_v gd1 3 (by decide +kernel)) rfl) (a_fr (e_ix (o_e (k_v gd1 1 (by decide +kernel))) (k_v gd1 3 (by decide +kernel)) rfl) a_nil rfl) rfl) (by decide +kernel))))) (by decide +kernel)))))
    ss_nil)) ss_nil)
    (ss_cons (s_ife (PW.pt (w_orr (k_isT false (k_v gd 0 (by decide +kernel))) (pw_or1 (k_isT false (k_v gd 1 (by decide +kernel)))))) (ss_cons (s_ret (e_an (k_is false (k_v gd 0 (by decide +kernel))) (pe_one (k_is false (k_v gd 1 (by decide +kernel))))))
    ss_nil) ss_nil)
    (ss_cons (k_set gd hp 2 .fro (e_an (k_eq gd false (k_isi gd .s (o_e (k_v gd 0 (by decide +kernel))) (by decide +kernel)) (k_isi gd .s (o_e (k_v gd 1 (by decide +kernel))) (by decide +kernel))) (pe_one (k_eq gd false (k_isi gd .b (o_e (k_v gd 0 (by decide +kernel))) (by decide +kernel)) (k_isi gd .b (o_e (k_v gd 1 (by decide +kernel))) (by decide +kernel))))) (by decide +kernel))
    (ss_cons (s_ret (e_an (k_v gd 2 (by decide +kernel)) (e_an (k_eq gd false (k_isi gd .i (o_e (k_v gd 0 (by decide +kernel))) (by decide +kernel)) (k_isi gd .i (o_e (k_v gd 1 (by decide +kernel))) (by decide +kernel))) (pe_one (k_eq gd false (k_v gd 0 (by decide +kernel)) (k_v gd 1 (by decide +kernel)))))))
    ss_nil))))

/-! legal(race, granted): {} -/
def nm_legal : List Str := [(PySem.Str.ofString "race"), (PySem.Str.ofString "granted"), (PySem.Str.ofString "protests"), (PySem.Str.ofString "groups"), (PySem.Str.ofString "one"), (PySem.Str.ofString "at")]
theorem sc_legal : FnScope nm_legal [(PySem.Str.ofString "race"), (PySem.Str.ofString "granted")] (defScope (topS 10)) := ⟨rfl, rfl, rfl, by decide +kernel, rfl, by decide +kernel, by decide +kernel⟩
def sg_legal : Sig := ⟨[.fro, .fro], .fro⟩
def ir_legal : Ss := (.cons (.set 2 (.ix (.e (.v 0)) (.k (.int 1)))) (.cons (.ife (.no (.e (.ge .all (.ch .le .lt (.k (.int 0)) (.v 4) (.b1 .len (.e (.v 2)))) (.n 4) (.o (.e (.v 1))) .no [4]))) (.cons (.ret (.k (.bool false))) .nil) .nil) (.cons (.ife (.no (.e (.ge .all (.cm .lt (.ix (.e (.v 1)) (.v 5)) (.ix (.e (.v 1)) (.ar .add (.v 5) (.k (.int 1))))) (.n 5) (.r1 (.ar .sub (.b1 .len (.e (.v 1))) (.k (.int 1)))) .no [5]))) (.cons (.ret (.k (.bool false))) .nil) .nil) (.cons (.set 3 (.comp (.ix (.e (.ix (.e (.v 2)) (.v 4))) (.k (.int 3))) (.n 4) (.o (.e (.v 1))) (.so (.e (.cm .gt (.ix (.e (.ix (.e (.v 2)) (.v 4))) (.k (.int 3))) (.k (.int 0))))) [4])) (.cons (.ret (.eq false (.b1 .len (.e (.v 3))) (.lst0 (.v 3)))) .nil)))))
def fx_legal (Φ : Cf) : List D → Option (D × List D) := evF Φ sg_legal.ps 6 ir_legal
theorem ok_legal {Φ : Cf} {f : Addr} {fd : FuncData} {k : Nat} (F : Fun K (PySem.Str.ofString "legal") (PySem.Str.ofString "legal") (topS 10) f fd) (hbl : ∀ x, x ∈ blAll → mg x = none) (hgt : 3 ≤ k ∧ ∃ p ∈ tabsK K, fd.code = .ref p.1 ∧ GxR.TabB base mg p.1 p.2) :
    FnOk P w K mg base CX0 (k + 1) f fd [(PySem.Str.ofString "race"), (PySem.Str.ofString "granted")] (spI K sg_legal (fx_legal Φ)) :=
  fn_sound F sc_legal sg_legal [.fro, .fro, .fro, .fro] ir_legal (by decide +kernel) hbl true (fun _ => hgt) [] (by simp) fun X gd hc hx hk hT wx gx fr hp =>
    (ss_cons (k_set gd hp 2 .fro (e_ix (o_e (k_v gd 0 (by decide +kernel))) k_i rfl) (by decide +kernel))
    (ss_cons (s_ife (t_no (t_e (k_ge gd hp [] [(PySem.Str.ofString "one", 4)] .all (by decide +kernel) (it_o (w_e (k_v gd 1 (by decide +kernel)))) (fun _ gd1 cv1 fr1 hp1 => (k_gn gd1 hp1 4 (by decide +kernel))) (fun _ gd1 cv1 => pc_no) (fun _ gd1 cv1 fr1 hp1 => (k_ch .le .lt k_i (k_v gd1 4 (by decide +kernel)) (k_b1 gd1 .len (o_e (k_v gd1 2 (by decide +kernel))) (by decide +kernel))))) rfl)) (ss_cons (s_ret k_b)
    ss_nil) ss_nil)
    (ss_cons (s_ife (t_no (t_e (k_ge gd hp [] [(PySem.Str.ofString "at", 5)] .all (by decide +kernel) (k_r1 gd (e_ar .sub (k_b1 gd .len (o_e (k_v gd 1 (by decide +kernel))) (by decide +kernel)) k_i) (by decide +kernel)) (fun _ gd2 cv2 fr2 hp2 => (k_gn gd2 hp2 5 (by decide +kernel))) (fun _ gd2 cv2 => pc_no) (fun _ gd2 cv2 fr2 hp2 => (k_cm .lt (e_ix (o_e (k_v gd2 1 (by decide +kernel))) (k_v gd2 5 (by decide +kernel)) rfl) (e_ix (o_e (k_v gd2 1 (by decide +kernel))) (e_ar .add (k_v gd2 5 (by decide +kernel)) k_i) rfl)))) rfl)) (ss_cons (s_ret k_b)
    ss_nil) ss_nil)
    (ss_cons (k_setC gd hp 3 .fro [] [(PySem.Str.ofString "one", 4)] (t := .fro) (.inr ⟨rfl, rfl⟩) (by decide +kernel) (it_o (w_e (k_v gd 1 (by decide +kernel)))) (fun _ gd3 cv3 fr3 hp3 => (k_gn gd3 hp3 4 (by decide +kernel))) (fun _ gd3 cv3 => pc_so fun fr3 hp3 => (k_cmT .gt (e_ix (o_e (e_ix (o_e (k_v gd3 2 (by decide +kernel))) (k_v gd3 4 (by decide +kernel)) rfl)) k_i rfl) k_i)) (fun _ gd3 cv3 fr3 hp3 => (e_ix (o_e (e_ix (o_e (k_v gd3 2 (by decide +kernel))) (k_v gd3 4 (by decide +kernel)) rfl)) k_i rfl)))
    (ss_cons (s_ret (k_eq gd false (k_b1 gd .len (o_e (k_v gd 3 (by decide +kernel))) (by decide +kernel)) (k_lst0 gd (k_v gd 3 (by decide +kernel)) (by decide +kernel))))
    ss_nil)))))

/-! worlds(race): {} -/
def nm_worlds : List Str := [(PySem.Str.ofString "race"), (PySem.Str.ofString "found"), (PySem.Str.ofString "one"), (PySem.Str.ofString "granted")]
theorem sc_worlds : FnScope nm_worlds [(PySem.Str.ofString "race")] (defScope (topS 11)) := ⟨rfl, rfl, rfl, by decide +kernel, rfl, by decide +kernel, by decide +kernel⟩
def sg_worlds : Sig := ⟨[.fro], .fro⟩
def ir_worlds : Ss := (.cons (.set 1 (.lst (.cons (.lst .nil) .nil))) (.cons (.for (.n 2) (.r1 (.b1 .len (.e (.ix (.e (.v 0)) (.k (.int 1)))))) (.cons (.set 1 (.lcat (.e (.v 1)) (.e (.comp (.lcat (.e (.v 3)) (.e (.lst (.cons (.v 2) .nil)))) (.n 3) (.o (.e (.v 1))) (.so (.e (.call (PySem.Str.ofString "legal") (.fr (.v 0) (.fr (.lcat (.e (.v 3)) (.e (.lst (.cons (.v 2) .nil)))) .nil))))) [3])))) .nil)) (.cons (.ret (.srr false (.e (.v 1)))) .nil)))
def fx_worlds (Φ : Cf) : List D → Option (D × List D) := evF Φ sg_worlds.ps 4 ir_worlds
theorem ok_worlds {Φ : Cf} {f : Addr} {fd : FuncData} {k : Nat} (F : Fun K (PySem.Str.ofString "worlds") (PySem.Str.ofString "worlds") (topS 11) f fd) (hbl : ∀ x, x ∈ blAll → mg x = none) (c_legal : Callee P w K mg base Φ k (PySem.Str.ofString "legal") sg_legal) :
    FnOk P w K mg base CX0 (k + 1) f fd [(PySem.Str.ofString "race")] (spI K sg_worlds (fx_worlds Φ)) :=
  fn_sound F sc_worlds sg_worlds [.fro, .fro, .fro] ir_worlds (by decide +kernel) hbl false (fun e => by cases e) [] (by simp) fun X gd hc hx hk hT wx gx fr hp =>
    (ss_cons (k_set gd hp 1 .fro (e_lst (t := .fro) (.inr ⟨rfl, rfl⟩) (as_cons (e_lst (t := .fro) (.inr ⟨rfl, rfl⟩) as_nil) as_nil rfl)) (by decide +kernel))
    (ss_cons (k_for gd hp [] (k_r1 gd (k_b1 gd .len (o_e (e_ix (o_e (k_v gd 0 (by decide +kernel))) k_i rfl)) (by decide +kernel)) (by decide +kernel)) (fun fr1 hp1 => (k_gn gd hp1 2 (by decide +kernel))) (fun fr1 hp1 => (ss_cons (k_set gd hp1 1 .fro (e_lcat (.inr ⟨rfl, rfl⟩) (o_e (k_v gd 1 (by decide +kernel))) (o_e (k_comp gd hp1 [] [(PySem.Str.ofString "granted", 3)] (t := .fro) (.inr ⟨rfl, rfl⟩) (by decide +kernel) (it_o (w_e (k_v gd 1 (by decide +kernel)))) (fun _ gd2 cv2 fr2 hp2 => (k_gn gd2 hp2 3 (by decide +kernel))) (fun _ gd2 cv2 => pc_so fun fr2 hp2 => (t_e (k_call gd2 (cv2 _ _ _ (hc _ _ c_legal)) (a_fr (k_v gd2 0 (by decide +kernel)) (a_fr (e_lcat (.inr ⟨rfl, rfl⟩) (o_e (k_v gd2 3 (by decide +kernel))) (o_e (e_lst (t := .fro) (.inr ⟨rfl, rfl⟩) (as_cons (k_v gd2 2 (by decide +kernel)) as_nil rfl)))) a_nil rfl) rfl) (by decide +kernel)) rfl)) (fun _ gd2 cv2 fr2 hp2 => (e_lcat (.inr ⟨rfl, rfl⟩) (o_e (k_v gd2 3 (by decide +kernel))) (o_e (e_lst (t := .fro) (.inr ⟨rfl, rfl⟩) (as_cons (k_v gd2 2 (by decide +kernel)) as_nil rfl)))))))) (by decide +kernel))
    ss_nil)) (by decide +kernel))
    (ss_cons (s_ret (k_srr gd (.inr ⟨rfl, rfl⟩) (o_e (k_v gd 1 (by decide +kernel))) (by decide +kernel)))
    ss_nil)))

/-! _law_due(race): {} -/
def nm__law_due : List Str := [(PySem.Str.ofString "race"), (PySem.Str.ofString "runners"), (PySem.Str.ofString "protests"), (PySem.Str.ofString "legs"), (PySem.Str.ofString "k"), (PySem.Str.ofString "kind"), (PySem.Str.ofString "whom"), (PySem.Str.ofString "many"), (PySem.Str.ofString "group")]
theorem sc__law_due : FnScope nm__law_due [(PySem.Str.ofString "race")] (defScope (topS 17)) := ⟨rfl, rfl, rfl, by decide +kernel, rfl, by decide +kernel, by decide +kernel⟩
def sg__law_due : Sig := ⟨[.fro], .fro⟩
def ir__law_due : Ss := (.cons (.unp (.t (.cons (.n 1) (.cons (.n 2) .nil))) (.v 0)) (.cons (.ife (.orr (.e (.cm .lt (.b1 .len (.e (.v 1))) (.k (.int 1)))) (.e (.cm .gt (.b1 .len (.e (.v 1))) (.k (.int 12))))) (.cons (.ret (.tup (.cons (.k (.str (PySem.Str.ofString "runners"))) (.cons (.b1 .len (.e (.v 1))) .nil)))) .nil) .nil) (.cons (.set 3 (.b1 .len (.e (.ix (.e (.ix (.e (.v 1)) (.k (.int 0)))) (.k (.int 1)))))) (.cons (.for (.n 4) (.r1 (.b1 .len (.e (.v 1)))) (.cons (.ife (.e (.inn true (.ix (.e (.ix (.e (.v 1)) (.v 4))) (.k (.int 0))) (.e (.tup (.cons (.k (.str (PySem.Str.ofString "run"))) (.cons (.k (.str (PySem.Str.ofString "miss"))) .nil)))))) (.cons (.ret (.tup (.cons (.k (.str (PySem.Str.ofString "word"))) (.cons (.v 4) .nil)))) .nil) .nil) (.cons (.ife (.orr (.e (.eq true (.b1 .len (.e (.ix (.e (.ix (.e (.v 1)) (.v 4))) (.k (.int 1))))) (.v 3))) (.orr (.e (.cm .lt (.v 3) (.k (.int 1)))) (.e (.cm .gt (.v 3) (.k (.int 8)))))) (.cons (.ret (.tup (.cons (.k (.str (PySem.Str.ofString "legs"))) (.cons (.v 4) .nil)))) .nil) .nil) (.cons (.ife (.orr (.e (.cm .lt (.mmx false (.e (.ix (.e (.ix (.e (.v 1)) (.v 4))) (.k (.int 1))))) (.k (.int 0)))) (.e (.cm .gt (.mmx true (.e (.ix (.e (.ix (.e (.v 1)) (.v 4))) (.k (.int 1))))) (.k (.int 9999))))) (.cons (.ret (.tup (.cons (.k (.str (PySem.Str.ofString "ticks"))) (.cons (.v 4) .nil)))) .nil) .nil) .nil)))) (.cons (.ife (.e (.cm .gt (.b1 .len (.e (.v 2))) (.k (.int 8)))) (.cons (.ret (.tup (.cons (.k (.str (PySem.Str.ofString "protests"))) (.cons (.b1 .len (.e (.v 2))) .nil)))) .nil) .nil) (.cons (.for (.n 4) (.r1 (.b1 .len (.e (.v 2)))) (.cons (.unp (.t (.cons (.n 5) (.cons (.n 6) (.cons (.n 7) (.cons (.n 8) .nil))))) (.ix (.e (.v 2)) (.v 4))) (.cons (.ife (.e (.inn true (.v 5) (.e (.tup (.cons (.k (.str (PySem.Str.ofString "back"))) (.cons (.k (.str (PySem.Str.ofString "out"))) (.cons (.k (.str (PySem.Str.ofString "less"))) (.cons (.k (.str (PySem.Str.ofString "more"))) (.cons (.k (.str (PySem.Str.ofString "void"))) .nil))))))))) (.cons (.ret (.tup (.cons (.k (.str (PySem.Str.ofString "kind"))) (.cons (.v 4) .nil)))) .nil) .nil) (.cons (.ife (.orr (.e (.cm .lt (.v 6) (.k (.int 0)))) (.e (.cm .ge (.v 6) (.ix (.e (.lst (.cons (.b1 .len (.e (.v 1))) (.cons (.v 3) .nil)))) (.b1 .int (.e (.eq false (.v 5) (.k (.str (PySem.Str.ofString "void")))))))))) (.cons (.ret (.tup (.cons (.k (.str (PySem.Str.ofString "whom"))) (.cons (.v 4) .nil)))) .nil) .nil) (.cons (.ife (.orr (.e (.cm .lt (.v 7) (.k (.int 0)))) (.e (.cm .gt (.v 7) (.ix (.e (.lst (.cons (.k (.int 0)) (.cons (.k (.int 9999)) .nil)))) (.b1 .int (.e (.inn false (.v 5) (.e (.tup (.cons (.k (.str (PySem.Str.ofString "less"))) (.cons (.k (.str (PySem.Str.ofString "more"))) .nil))))))))))) (.cons (.ret (.tup (.cons (.k (.str (PySem.Str.ofString "many"))) (.cons (.v 4) .nil)))) .nil) .nil) (.cons (.ife (.orr (.e (.cm .lt (.v 8) (.k (.int 0)))) (.e (.cm .gt (.v 8) (.k (.int 9))))) (.cons (.ret (.tup (.cons (.k (.str (PySem.Str.ofString "group"))) (.cons (.v 4) .nil)))) .nil) .nil) .nil)))))) (.cons (.ret (.k .none)) .nil)))))))
def fx__law_due (Φ : Cf) : List D → Option (D × List D) := evF Φ sg__law_due.ps 9 ir__law_due
theorem ok__law_due {Φ : Cf} {f : Addr} {fd : FuncData} {k : Nat} (F : Fun K (PySem.Str.ofString "_law_due") (PySem.Str.ofString "_law_due") (topS 17) f fd) (hbl : ∀ x, x ∈ blAll → mg x = none) :
    FnOk P w K mg base CX0 (k + 1) f fd [(PySem.Str.ofString "race")] (spI K sg__law_due (fx__law_due Φ)) :=
  fn_sound F sc__law_due sg__law_due [.fro, .fro, .fro, .fro, .fro, .fro, .fro, .fro] ir__law_due (by decide +kernel) hbl false (fun e => by cases e) [] (by simp) fun X gd hc hx hk hT wx gx fr hp =>
    (ss_cons (k_unp (k_gt gd (gs_cons (k_gn gd hp 1 (by decide +kernel)) (gs_cons (k_gn gd hp 2 (by decide +kernel)) gs_nil rfl) rfl) (by decide +kernel)) (k_v gd 0 (by decide +kernel)) (by decide +kernel))
    (ss_cons (s_ife (PW.pt (w_orr (k_cmT .lt (k_b1 gd .len (o_e (k_v gd 1 (by decide +kernel))) (by decide +kernel)) k_i) (pw_or1 (k_cmT .gt (k_b1 gd .len (o_e (k_v gd 1 (by decide +kernel))) (by decide +kernel)) k_i)))) (ss_cons (s_ret (e_tup (as_cons k_s (as_cons (k_b1 gd .len (o_e (k_v gd 1 (by decide +kernel))) (by decide +kernel)) as_nil rfl) rfl)))
    ss_nil) ss_nil)
    (ss_cons (k_set gd hp 3 .fro (k_b1 gd .len (o_e (e_ix (o_e (e_ix (o_e (k_v gd 1 (by decide +kernel))) k_i rfl)) k_i rfl)) (by decide +kernel)) (by decide +kernel))
    (ss_cons (k_for gd hp [] (k_r1 gd (k_b1 gd .len (o_e (k_v gd 1 (by decide +kernel))) (by decide +kernel)) (by decide +kernel)) (fun fr1 hp1 => (k_gn gd hp1 4 (by decide +kernel))) (fun fr1 hp1 => (ss_cons (s_ife (k_inT true (e_ix (o_e (e_ix (o_e (k_v gd 1 (by decide +kernel))) (k_v gd 4 (by decide +kernel)) rfl)) k_i rfl) (o_e (e_tup (as_cons k_s (as_cons k_s as_nil rfl) rfl))) rfl) (ss_cons (s_ret (e_tup (as_cons k_s (as_cons (k_v gd 4 (by decide +kernel)) as_nil rfl) rfl)))
    ss_nil) ss_nil)
    (ss_cons (s_ife (PW.pt (w_orr (k_eqT gd true (k_b1 gd .len (o_e (e_ix (o_e (e_ix (o_e (k_v gd 1 (by decide +kernel))) (k_v gd 4 (by decide +kernel)) rfl)) k_i rfl)) (by decide +kernel)) (k_v gd 3 (by decide +kernel))) (w_orr (k_cmT .lt (k_v gd 3 (by decide +kernel)) k_i) (pw_or1 (k_cmT .gt (k_v gd 3 (by decide +kernel)) k_i))))) (ss_cons (s_ret (e_tup (as_cons k_s (as_cons (k_v gd 4 (by decide +kernel)) as_nil rfl) rfl)))
    ss_nil) ss_nil)
    (ss_cons (s_ife (PW.pt (w_orr (k_cmT .lt (k_mmx gd false (o_e (e_ix (o_e (e_ix (o_e (k_v gd 1 (by decide +kernel))) (k_v gd 4 (by decide +kernel)) rfl)) k_i rfl)) (by decide +kernel)) k_i) (pw_or1 (k_cmT .gt (k_mmx gd true (o_e (e_ix (o_e (e_ix (o_e (k_v gd 1 (by decide +kernel))) (k_v gd 4 (by decide +kernel)) rfl)) k_i rfl)) (by decide +kernel)) k_i)))) (ss_cons (s_ret (e_tup (as_cons k_s (as_cons (k_v gd 4 (by decide +kernel)) as_nil rfl) rfl)))
    ss_nil) ss_nil)
    ss_nil)))) (by decide +kernel))
    (ss_cons (s_ife (k_cmT .gt (k_b1 gd .len (o_e (k_v gd 2 (by decide +kernel))) (by decide +kernel)) k_i) (ss_cons (s_ret (e_tup (as_cons k_s (as_cons (k_b1 gd .len (o_e (k_v gd 2 (by decide +kernel))) (by decide +kernel)) as_nil rfl) rfl)))
    ss_nil) ss_nil)
    (ss_cons (k_for gd hp [] (k_r1 gd (k_b1 gd .len (o_e (k_v gd 2 (by decide +kernel))) (by decide +kernel)) (by decide +kernel)) (fun fr2 hp2 => (k_gn gd hp2 4 (by decide +kernel))) (fun fr2 hp2 => (ss_cons (k_unp (k_gt gd (gs_cons (k_gn gd hp2 5 (by decide +kernel)) (gs_cons (k_gn gd hp2 6 (by decide +kernel)) (gs_cons (k_gn gd hp2 7 (by decide +kernel)) (gs_cons (k_gn gd hp2 8 (by decide +kernel)) gs_nil rfl) rfl) rfl) rfl) (by decide +kernel)) (e_ix (o_e (k_v gd 2 (by decide +kernel))) (k_v gd 4 (by decide +kernel)) rfl) (by decide +kernel))
    (ss_cons (s_ife (k_inT true (k_v gd 5 (by decide +kernel)) (o_e (e_tup (as_cons k_s (as_cons k_s (as_cons k_s (as_cons k_s (as_cons k_s as_nil rfl) rfl) rfl) rfl) rfl))) rfl) (ss_cons (s_ret (e_tup (as_cons k_s (as_cons (k_v gd 4 (by decide +kernel)) as_nil rfl) rfl)))
    ss_nil) ss_nil)
    (ss_cons (s_ife (PW.pt (w_orr (k_cmT .lt (k_v gd 6 (by decide +kernel)) k_i) (pw_or1 (k_cmT .ge (k_v gd 6 (by decide +kernel)) (e_ix (o_e (e_lst (t := .fro) (.inr ⟨rfl, rfl⟩) (as_cons (k_b1 gd .len (o_e (k_v gd 1 (by decide +kernel))) (by decide +kernel)) (as_cons (k_v gd 3 (by decide +kernel)) as_nil rfl) rfl))) (k_b1 gd .int (o_e (k_eq gd false (k_v gd 5 (by decide +kernel)) k_s)) (by decide +kernel)) rfl))))) (ss_cons (s_ret (e_tup (as_cons k_s (as_cons (k_v gd 4 (by decide +kernel)) as_nil rfl) rfl)))
    ss_nil) ss_nil)
    (ss_cons (s_ife (PW.pt (w_orr (k_cmT .lt (k_v gd 7 (by decide +kernel)) k_i) (pw_or1 (k_cmT .gt (k_v gd 7 (by decide +kernel)) (e_ix (o_e (e_lst (t := .fro) (.inr ⟨rfl, rfl⟩) (as_cons k_i (as_cons k_i as_nil rfl) rfl))) (k_b1 gd .int (o_e (k_in false (k_v gd 5 (by decide +kernel)) (o_e (e_tup (as_cons k_s (as_cons k_s as_nil rfl) rfl))) rfl)) (by decide +kernel)) rfl))))) (ss_cons (s_ret (e_tup (as_cons k_s (as_cons (k_v gd 4 (by decide +kernel)) as_nil rfl) rfl)))
    ss_nil) ss_nil)
    (ss_cons (s_ife (PW.pt (w_orr (k_cmT .lt (k_v gd 8 (by decide +kernel)) k_i) (pw_or1 (k_cmT .gt (k_v gd 8 (by decide +kernel)) k_i)))) (ss_cons (s_ret (e_tup (as_cons k_s (as_cons (k_v gd 4 (by decide +kernel)) as_nil rfl) rfl)))
    ss_nil) ss_nil)
    ss_nil)))))) (by decide +kernel))
    (ss_cons (s_ret k_n)
    ss_nil)))))))

/-! law(script): {'state': "('lst', 'fro')", 'due': "('lst', 'fro')"} -/
def nm_law : List Str := [(PySem.Str.ofString "script"), (PySem.Str.ofString "state"), (PySem.Str.ofString "k"), (PySem.Str.ofString "race"), (PySem.Str.ofString "protests"), (PySem.Str.ofString "due"), (PySem.Str.ofString "number"), (PySem.Str.ofString "granted"), (PySem.Str.ofString "j"), (PySem.Str.ofString "one")]
theorem sc_law : FnScope nm_law [(PySem.Str.ofString "script")] (defScope (topS 21)) := ⟨rfl, rfl, rfl, by decide +kernel, rfl, by decide +kernel, by decide +kernel⟩
def sg_law : Sig := ⟨[.fro], .fro⟩
def ir_law : Ss := (.cons (.set 1 (.lst (.cons (.k (.int 0)) (.cons (.k (.int 0)) .nil)))) (.cons (.for (.n 2) (.r1 (.k (.int 4))) (.cons (.set 3 (.call (PySem.Str.ofString "_law_race") (.io 1 (.fr (.v 0) (.fr (.k (.int 12)) (.fr (.k (.int 8)) .nil)))))) (.cons (.ife (.e (.isn true (.call (PySem.Str.ofString "_law_told") (.fr (.v 3) .nil)))) (.cons (.ret (.k (.bool false))) .nil) .nil) (.cons (.set 4 (.ix (.e (.v 3)) (.k (.int 1)))) (.cons (.set 5 (.lst .nil)) (.cons (.for (.n 6) (.r1 (.ar .shl (.k (.int 1)) (.b1 .len (.e (.v 4))))) (.cons (.set 7 (.comp (.v 9) (.n 9) (.r1 (.b1 .len (.e (.v 4)))) (.so (.e (.eq false (.ar .band (.ar .shr (.v 6) (.v 9)) (.k (.int 1))) (.k (.int 1))))) [9])) (.cons (.ife (.e (.call (PySem.Str.ofString "_law_goes") (.fr (.v 4) (.fr (.v 7) .nil)))) (.cons (.app 5 (.v 7)) .nil) .nil) .nil))) (.fz 5 (.cons (.ife (.an (.e (.eq false (.v 2) (.k (.int 0)))) (.no (.e (.call (PySem.Str.ofString "_law_exact") (.fr (.srr false (.e (.v 5))) (.fr (.call (PySem.Str.ofString "worlds") (.fr (.v 3) .nil)) .nil)))))) (.cons (.ret (.k (.bool false))) .nil) .nil) (.cons (.for (.n 8) (.r1 (.k (.int 4))) (.cons (.set 7 (.comp (.ar .sub (.call (PySem.Str.ofString "_law_draw") (.io 1 (.fr (.v 0) (.fr (.ar .add (.b1 .len (.e (.v 4))) (.k (.int 2))) .nil)))) (.b1 .int (.e (.eq false (.call (PySem.Str.ofString "_law_draw") (.io 1 (.fr (.v 0) (.fr (.k (.int 9)) .nil)))) (.k (.int 0)))))) (.n 9) (.r1 (.call (PySem.Str.ofString "_law_draw") (.io 1 (.fr (.v 0) (.fr (.k (.int 5)) .nil))))) .no [9])) (.cons (.ife (.e (.cm .gt (.v 8) (.k (.int 0)))) (.cons (.set 7 (.srr false (.e (.v 7)))) .nil) .nil) (.cons (.ife (.no (.e (.call (PySem.Str.ofString "_law_exact") (.fr (.call (PySem.Str.ofString "_law_goes") (.fr (.v 4) (.fr (.v 7) .nil))) (.fr (.call (PySem.Str.ofString "legal") (.fr (.v 3) (.fr (.v 7) .nil))) .nil))))) (.cons (.ret (.k (.bool false))) .nil) .nil) .nil)))) (.cons (.for (.n 8) (.r1 (.k (.int 2))) (.cons (.set 3 (.call (PySem.Str.ofString "_law_spoilt") (.io 1 (.fr (.v 0) (.fr (.v 3) .nil))))) (.cons (.ife (.no (.e (.call (PySem.Str.ofString "_law_exact") (.fr (.call (PySem.Str.ofString "_law_due") (.fr (.v 3) .nil)) (.fr (.call (PySem.Str.ofString "_law_told") (.fr (.v 3) .nil)) .nil))))) (.cons (.ret (.k (.bool false))) .nil) .nil) .nil))) .nil)))))))))) (.cons (.ret (.k (.bool true))) .nil)))
def fx_law (Φ : Cf) : List D → Option (D × List D) := evF Φ sg_law.ps 10 ir_law
theorem ok_law {Φ : Cf} {f : Addr} {fd : FuncData} {k : Nat} (F : Fun K (PySem.Str.ofString "law") (PySem.Str.ofString "law") (topS 21) f fd) (hbl : ∀ x, x ∈ blAll → mg x = none) (c__law_race : Callee P w K mg base Φ k (PySem.Str.ofString "_law_race") sg__law_race) (c__law_told : Callee P w K mg base Φ k (PySem.Str.ofString "_law_told") sg__law_told) (c__law_goes : Callee P w K mg base Φ k (PySem.Str.ofString "_law_goes") sg__law_goes) (c__law_exact : Callee P w K mg base Φ k (PySem.Str.ofString "_law_exact") sg__law_exact) (c_worlds : Callee P w K mg base Φ k (PySem.Str.ofString "worlds") sg_worlds) (c__law_draw : Callee P w K mg base Φ k (PySem.Str.ofString "_law_draw") sg__law_draw) (c_legal : Callee P w K mg base Φ k (PySem.Str.ofString "legal") sg_legal) (c__law_spoilt : Callee P w K mg base Φ k (PySem.Str.ofString "_law_spoilt") sg__law_spoilt) (c__law_due : Callee P w K mg base Φ k (PySem.Str.ofString "_law_due") sg__law_due) :
    FnOk P w K mg base CX0 (k + 1) f fd [(PySem.Str.ofString "script")] (spI K sg_law (fx_law Φ)) :=
  fn_sound F sc_law sg_law [(.lst .fro), .fro, .fro, .fro, (.lst .fro), .fro, .fro, .fro, .fro] ir_law (by decide +kernel) hbl false (fun e => by cases e) [] (by simp) fun X gd hc hx hk hT wx gx fr hp =>
    (ss_cons (k_set gd hp 1 (.lst .fro) (e_lst (t := .fro) (.inl rfl) (as_cons k_i (as_cons k_i as_nil rfl) rfl)) (by decide +kernel))
    (ss_cons (k_for gd hp [] (k_r1 gd k_i (by decide +kernel)) (fun fr1 hp1 => (k_gn gd hp1 2 (by decide +kernel))) (fun fr1 hp1 => (ss_cons (k_set gd hp1 3 .fro (k_call gd (hc _ _ c__law_race) (k_io gd 1 (by decide +kernel) (a_fr (k_v gd 0 (by decide +kernel)) (a_fr k_i (a_fr k_i a_nil rfl) rfl) rfl)) (by decide +kernel)) (by decide +kernel))
    (ss_cons (s_ife (k_isT true (k_call gd (hc _ _ c__law_told) (a_fr (k_v gd 3 (by decide +kernel)) a_nil rfl) (by decide +kernel))) (ss_cons (s_ret k_b)
    ss_nil) ss_nil)
    (ss_cons (k_set gd hp1 4 .fro (e_ix (o_e (k_v gd 3 (by decide +kernel))) k_i rfl) (by decide +kernel))
    (ss_cons (k_set gd hp1 5 (.lst .fro) (e_lst (t := .fro) (.inl rfl) as_nil) (by decide +kernel))
    (ss_cons (k_for gd hp1 [] (k_r1 gd (e_ar .shl k_i (k_b1 gd .len (o_e (k_v gd 4 (by decide +kernel))) (by decide +kernel))) (by decide +kernel)) (fun fr2 hp2 => (k_gn gd hp2 6 (by decide +kernel))) (fun fr2 hp2 => (ss_cons (k_setC gd hp2 7 .fro [] [(PySem.Str.ofString "one", 9)] (t := .fro) (.inr ⟨rfl, rfl⟩) (by decide +kernel) (k_r1 gd (k_b1 gd .len (o_e (k_v gd 4 (by decide +kernel))) (by decide +kernel)) (by decide +kernel)) (fun _ gd3 cv3 fr3 hp3 => (k_gn gd3 hp3 9 (by decide +kernel))) (fun _ gd3 cv3 => pc_so fun fr3 hp3 => (k_eqT gd3 false (e_ar .band (e_ar .shr (k_v gd3 6 (by decide +kernel)) (k_v gd3 9 (by decide +kernel))) k_i) k_i)) (fun _ gd3 cv3 fr3 hp3 => (k_v gd3 9 (by decide +kernel))))
    (ss_cons (s_ife (t_e (k_call gd (hc _ _ c__law_goes) (a_fr (k_v gd 4 (by decide +kernel)) (a_fr (k_v gd 7 (by decide +kernel)) a_nil rfl) rfl) (by decide +kernel)) rfl) (ss_cons (k_app gd 5 (k_v gd 7 (by decide +kernel)) (by decide +kernel))
    ss_nil) ss_nil)
    ss_nil))) (by decide +kernel))
    (ss_fz 5 (ss_cons (s_ife (PW.pt (w_an (k_eqT gd false (k_v gd 2 (by decide +kernel)) k_i) (pw_and1 (t_no (t_e (k_call gd (hc _ _ c__law_exact) (a_fr (k_srr gd (.inr ⟨rfl, rfl⟩) (o_e (k_v gd 5 (by decide +kernel))) (by decide +kernel)) (a_fr (k_call gd (hc _ _ c_worlds) (a_fr (k_v gd 3 (by decide +kernel)) a_nil rfl) (by decide +kernel)) a_nil rfl) rfl) (by decide +kernel)) rfl))))) (ss_cons (s_ret k_b)
    ss_nil) ss_nil)
    (ss_cons (k_for gd hp1 [] (k_r1 gd k_i (by decide +kernel)) (fun fr4 hp4 => (k_gn gd hp4 8 (by decide +kernel))) (fun fr4 hp4 => (ss_cons (k_setC gd hp4 7 .fro [] [(PySem.Str.ofString "one", 9)] (t := .fro) (.inr ⟨rfl, rfl⟩) (by decide +kernel) (k_r1 gd (k_call gd (hc _ _ c__law_draw) (k_io gd 1 (by decide +kernel) (a_fr (k_v gd 0 (by decide +kernel)) (a_fr k_i a_nil rfl) rfl)) (by decide +kernel)) (by decide +kernel)) (fun _ gd5 cv5 fr5 hp5 => (k_gn gd5 hp5 9 (by decide +kernel))) (fun _ gd5 cv5 => pc_no) (fun _ gd5 cv5 fr5 hp5 => (e_ar .sub (k_call gd5 (cv5 _ _ _ (hc _ _ c__law_draw)) (k_io gd5 1 (by decide +kernel) (a_fr (k_v gd5 0 (by decide +kernel)) (a_fr (e_ar .add (k_b1 gd5 .len (o_e (k_v gd5 4 (by decide +kernel))) (by decide +kernel)) k_i) a_nil rfl) rfl)) (by decide +kernel)) (k_b1 gd5 .int (o_e (k_eq gd5 false (k_call gd5 (cv5 _ _ _ (hc _ _ c__law_draw)) (k_io gd5 1 (by decide +kernel) (a_fr (k_v gd5 0 (by decide +kernel)) (a_fr k_i a_nil rfl) rfl)) (by decide +kernel)) k_i)) (by decide +kernel)))))
    (ss_cons (s_ife (k_cmT .gt (k_v gd 8 (by decide +kernel)) k_i) (ss_cons (k_set gd hp4 7 .fro (k_srr gd (.inr ⟨rfl, rfl⟩) (o_e (k_v gd 7 (by decide +kernel))) (by decide +kernel)) (by decide +kernel))
    ss_nil) ss_nil)
    (ss_cons (s_ife (t_no (t_e (k_call gd (hc _ _ c__law_exact) (a_fr (k_call gd (hc _ _ c__law_goes) (a_fr (k_v gd 4 (by decide +kernel)) (a_fr (k_v gd 7 (by decide +kernel)) a_nil rfl) rfl) (by decide +kernel)) (a_fr (k_call gd (hc _ _ c_legal) (a_fr (k_v gd 3 (by decide +kernel)) (a_fr (k_v gd 7 (by decide +kernel)) a_nil rfl) rfl) (by decide +kernel)) a_nil rfl) rfl) (by decide +kernel)) rfl)) (ss_cons (s_ret k_b)
    ss_nil) ss_nil)
    ss_nil)))) (by decide +kernel))
    (ss_cons (k_for gd hp1 [] (k_r1 gd k_i (by decide +kernel)) (fun fr6 hp6 => (k_gn gd hp6 8 (by decide +kernel))) (fun fr6 hp6 => (ss_cons (k_set gd hp6 3 .fro (k_call gd (hc _ _ c__law_spoilt) (k_io gd 1 (by decide +kernel) (a_fr (k_v gd 0 (by decide +kernel)) (a_fr (k_v gd 3 (by decide +kernel)) a_nil rfl) rfl)) (by decide +kernel)) (by decide +kernel))
    (ss_cons (s_ife (t_no (t_e (k_call gd (hc _ _ c__law_exact) (a_fr (k_call gd (hc _ _ c__law_due) (a_fr (k_v gd 3 (by decide +kernel)) a_nil rfl) (by decide +kernel)) (a_fr (k_call gd (hc _ _ c__law_told) (a_fr (k_v gd 3 (by decide +kernel)) a_nil rfl) (by decide +kernel)) a_nil rfl) rfl) (by decide +kernel)) rfl)) (ss_cons (s_ret k_b)
    ss_nil) ss_nil)
    ss_nil))) (by decide +kernel))
    ss_nil)))))))))) (by decide +kernel))
    (ss_cons (s_ret k_b)
    ss_nil)))

end
def cf__law_refill : Cf := ⟨tab [], 1000000, tabX []⟩
def fn__law_refill : List D → Option (D × List D) := fx__law_refill cf__law_refill
def cf__law_draw : Cf := ⟨tab [((PySem.Str.ofString "_law_refill"), fn__law_refill)], 1000000, tabX []⟩
def fn__law_draw : List D → Option (D × List D) := fx__law_draw cf__law_draw
def cf__law_race : Cf := ⟨tab [((PySem.Str.ofString "_law_draw"), fn__law_draw)], 1000000, tabX []⟩
def fn__law_race : List D → Option (D × List D) := fx__law_race cf__law_race
def cf_require : Cf := ⟨tab [], 1000000, tabX []⟩
def fn_require : List D → Option Xr := fx_require cf_require
def cf_check_race : Cf := ⟨tab [], 1000000, tabX [((PySem.Str.ofString "require"), fn_require)]⟩
def fn_check_race : List D → Option Xr := fx_check_race cf_check_race
def cf__law_told : Cf := ⟨tab [], 1000000, tabX [((PySem.Str.ofString "check_race"), fn_check_race)]⟩
def fn__law_told : List D → Option (D × List D) := fx__law_told cf__law_told
def cf__law_goes : Cf := ⟨tab [], 1000000, tabX []⟩
def fn__law_goes : List D → Option (D × List D) := fx__law_goes cf__law_goes
def cf__law_spoilt : Cf := ⟨tab [((PySem.Str.ofString "_law_draw"), fn__law_draw)], 1000000, tabX []⟩
def fn__law_spoilt : List D → Option (D × List D) := fx__law_spoilt cf__law_spoilt
def fn__law_exact_0 : List D → Option (D × List D) := fun _ => none
def cf__law_exact_1 : Cf := ⟨tab [((PySem.Str.ofString "_law_exact"), fn__law_exact_0)], 1000000, tabX []⟩
def fn__law_exact_1 : List D → Option (D × List D) := fx__law_exact cf__law_exact_1
def cf__law_exact_2 : Cf := ⟨tab [((PySem.Str.ofString "_law_exact"), fn__law_exact_1)], 1000000, tabX []⟩
def fn__law_exact_2 : List D → Option (D × List D) := fx__law_exact cf__law_exact_2
def cf__law_exact_3 : Cf := ⟨tab [((PySem.Str.ofString "_law_exact"), fn__law_exact_2)], 1000000, tabX []⟩
def fn__law_exact_3 : List D → Option (D × List D) := fx__law_exact cf__law_exact_3
def cf__law_exact_4 : Cf := ⟨tab [((PySem.Str.ofString "_law_exact"), fn__law_exact_3)], 1000000, tabX []⟩
def fn__law_exact_4 : List D → Option (D × List D) := fx__law_exact cf__law_exact_4
def fn__law_exact : List D → Option (D × List D) := fn__law_exact_4
def cf_legal : Cf := ⟨tab [], 1000000, tabX []⟩
def fn_legal : List D → Option (D × List D) := fx_legal cf_legal
def cf_worlds : Cf := ⟨tab [((PySem.Str.ofString "legal"), fn_legal)], 1000000, tabX []⟩
def fn_worlds : List D → Option (D × List D) := fx_worlds cf_worlds
def cf__law_due : Cf := ⟨tab [], 1000000, tabX []⟩
def fn__law_due : List D → Option (D × List D) := fx__law_due cf__law_due
def cf_law : Cf := ⟨tab [((PySem.Str.ofString "_law_race"), fn__law_race), ((PySem.Str.ofString "_law_told"), fn__law_told), ((PySem.Str.ofString "_law_goes"), fn__law_goes), ((PySem.Str.ofString "_law_exact"), fn__law_exact), ((PySem.Str.ofString "worlds"), fn_worlds), ((PySem.Str.ofString "_law_draw"), fn__law_draw), ((PySem.Str.ofString "legal"), fn_legal), ((PySem.Str.ofString "_law_spoilt"), fn__law_spoilt), ((PySem.Str.ofString "_law_due"), fn__law_due)], 1000000, tabX []⟩
def fn_law : List D → Option (D × List D) := fx_law cf_law
@[simp] theorem fo__law_refill {d0 d1 : D} {x0 x1 : Option D} {r : Rho} : fout sg__law_refill.ps [d0, d1] (x0 :: x1 :: r) = some [d0, d1] := rfl
@[simp] theorem u__law_draw__law_refill : cf__law_draw.fn (PySem.Str.ofString "_law_refill") = fn__law_refill := rfl
@[simp] theorem fo__law_draw {d0 d1 d2 y0 : D} {x1 x2 : Option D} {r : Rho} : fout sg__law_draw.ps [d0, d1, d2] (some y0 :: x1 :: x2 :: r) = some [y0, d1, d2] := rfl
@[simp] theorem u__law_race__law_draw : cf__law_race.fn (PySem.Str.ofString "_law_draw") = fn__law_draw := rfl
@[simp] theorem fo__law_race {d0 d1 d2 d3 y0 : D} {x1 x2 x3 : Option D} {r : Rho} : fout sg__law_race.ps [d0, d1, d2, d3] (some y0 :: x1 :: x2 :: x3 :: r) = some [y0, d1, d2, d3] := rfl
@[simp] theorem fo_require {d0 d1 d2 : D} {x0 x1 x2 : Option D} {r : Rho} : fout sg_require.ps [d0, d1, d2] (x0 :: x1 :: x2 :: r) = some [d0, d1, d2] := rfl
@[simp] theorem ux_check_race_require : cf_check_race.fx (PySem.Str.ofString "require") = fn_require := rfl
@[simp] theorem fo_check_race {d0 : D} {x0 : Option D} {r : Rho} : fout sg_check_race.ps [d0] (x0 :: r) = some [d0] := rfl
@[simp] theorem ux__law_told_check_race : cf__law_told.fx (PySem.Str.ofString "check_race") = fn_check_race := rfl
@[simp] theorem fo__law_told {d0 : D} {x0 : Option D} {r : Rho} : fout sg__law_told.ps [d0] (x0 :: r) = some [d0] := rfl
@[simp] theorem fo__law_goes {d0 d1 : D} {x0 x1 : Option D} {r : Rho} : fout sg__law_goes.ps [d0, d1] (x0 :: x1 :: r) = some [d0, d1] := rfl
@[simp] theorem u__law_spoilt__law_draw : cf__law_spoilt.fn (PySem.Str.ofString "_law_draw") = fn__law_draw := rfl
@[simp] theorem fo__law_spoilt {d0 d1 d2 y0 : D} {x1 x2 : Option D} {r : Rho} : fout sg__law_spoilt.ps [d0, d1, d2] (some y0 :: x1 :: x2 :: r) = some [y0, d1, d2] := rfl
@[simp] theorem u__law_exact__law_exact_1 : cf__law_exact_1.fn (PySem.Str.ofString "_law_exact") = fn__law_exact_0 := rfl
@[simp] theorem u__law_exact__law_exact_2 : cf__law_exact_2.fn (PySem.Str.ofString "_law_exact") = fn__law_exact_1 := rfl
@[simp] theorem u__law_exact__law_exact_3 : cf__law_exact_3.fn (PySem.Str.ofString "_law_exact") = fn__law_exact_2 := rfl
@[simp] theorem u__law_exact__law_exact_4 : cf__law_exact_4.fn (PySem.Str.ofString "_law_exact") = fn__law_exact_3 := rfl
@[simp] theorem fo__law_exact {d0 d1 : D} {x0 x1 : Option D} {r : Rho} : fout sg__law_exact.ps [d0, d1] (x0 :: x1 :: r) = some [d0, d1] := rfl
@[simp] theorem fo_legal {d0 d1 : D} {x0 x1 : Option D} {r : Rho} : fout sg_legal.ps [d0, d1] (x0 :: x1 :: r) = some [d0, d1] := rfl
@[simp] theorem u_worlds_legal : cf_worlds.fn (PySem.Str.ofString "legal") = fn_legal := rfl
@[simp] theorem fo_worlds {d0 : D} {x0 : Option D} {r : Rho} : fout sg_worlds.ps [d0] (x0 :: r) = some [d0] := rfl
@[simp] theorem fo__law_due {d0 : D} {x0 : Option D} {r : Rho} : fout sg__law_due.ps [d0] (x0 :: r) = some [d0] := rfl
@[simp] theorem u_law__law_race : cf_law.fn (PySem.Str.ofString "_law_race") = fn__law_race := rfl
@[simp] theorem u_law__law_told : cf_law.fn (PySem.Str.ofString "_law_told") = fn__law_told := rfl
@[simp] theorem u_law__law_goes : cf_law.fn (PySem.Str.ofString "_law_goes") = fn__law_goes := rfl
@[simp] theorem u_law__law_exact : cf_law.fn (PySem.Str.ofString "_law_exact") = fn__law_exact := rfl
@[simp] theorem u_law_worlds : cf_law.fn (PySem.Str.ofString "worlds") = fn_worlds := rfl
@[simp] theorem u_law__law_draw : cf_law.fn (PySem.Str.ofString "_law_draw") = fn__law_draw := rfl
@[simp] theorem u_law_legal : cf_law.fn (PySem.Str.ofString "legal") = fn_legal := rfl
@[simp] theorem u_law__law_spoilt : cf_law.fn (PySem.Str.ofString "_law_spoilt") = fn__law_spoilt := rfl
@[simp] theorem u_law__law_due : cf_law.fn (PySem.Str.ofString "_law_due") = fn__law_due := rfl
@[simp] theorem fo_law {d0 : D} {x0 : Option D} {r : Rho} : fout sg_law.ps [d0] (x0 :: r) = some [d0] := rfl
end Lw_k83
namespace Lw_k83
open PySem PySem.Spec L2 Vw
/-! ### draws -/
theorem refill_ok (ns : List Int) (hl : ns.length ≤ 63) (k : Int) : ∃ v, fn__law_refill [.list (ns.map .int), .int k] = some (.int v, [.list (ns.map .int), .int k]) := by
  have h : ∃ d o, fn__law_refill [.list (ns.map .int), .int k] = some (d, o) ∧ (∃ v, d = .int v) ∧ o = [.list (ns.map .int), .int k] := by
    refine fn_rule (c := cf__law_refill) (ps := sg__law_refill.ps) (n := 3) (b := ir__law_refill) (ds := [.list (ns.map .int), .int k]) (Q := fun d o => (∃ v, d = .int v) ∧ o = [.list (ns.map .int), .int k]) ?_
    have lenN := lenL_map PyData.int ns
    refine wp_cons (w_set (d := .int 0) rfl ?_)
    have rest : ∀ x : Int, Wp cf__law_refill (.cons (.ife (.e (.cm .lt (.v 2) (.k (.int 0)))) (.cons (.set 2 (.ar .sub (.k (.int 1)) (.ar .mul (.k (.int 2)) (.v 2)))) .nil) .nil) (.cons (.ife (.an (.e (.cm .ge (.v 2) (.ar .pow (.k (.int 10)) (.k (.int 18))))) (.e (.cm .lt (.v 1) (.b1 .len (.e (.v 0)))))) (.cons (.ret (.v 2)) .nil) .nil) (.cons (.ret (.ar .mod (.b1 .int (.e (.ar .add (.ar .mul (.b1 .int (.e (.ar .add (.ar .add (.ar .mul (.v 2) (.k (.int 48271))) (.ar .mul (.v 1) (.k (.int 69621)))) (.k (.int 12345))))) (.k (.int 40692))) (.k (.int 7))))) (.k (.int 2147483399)))) .nil)))
        [some (.list (ns.map .int)), some (.int k), some (.int x)] ⟨fun ρ => ∃ o, fout sg__law_refill.ps [.list (ns.map .int), .int k] ρ = some o ∧ (∃ v, PyData.none = .int v) ∧ o = [.list (ns.map .int), .int k], fun d ρ => ∃ o, fout sg__law_refill.ps [.list (ns.map .int), .int k] ρ = some o ∧ (∃ v, d = .int v) ∧ o = [.list (ns.map .int), .int k], fun _ => False, fun _ => False, fun _ _ _ => False⟩ := by
      intro x
      have last : ∀ x : Int, Wp cf__law_refill (.cons (.ife (.an (.e (.cm .ge (.v 2) (.ar .pow (.k (.int 10)) (.k (.int 18))))) (.e (.cm .lt (.v 1) (.b1 .len (.e (.v 0)))))) (.cons (.ret (.v 2)) .nil) .nil) (.cons (.ret (.ar .mod (.b1 .int (.e (.ar .add (.ar .mul (.b1 .int (.e (.ar .add (.ar .add (.ar .mul (.v 2) (.k (.int 48271))) (.ar .mul (.v 1) (.k (.int 69621)))) (.k (.int 12345))))) (.k (.int 40692))) (.k (.int 7))))) (.k (.int 2147483399)))) .nil))
        [some (.list (ns.map .int)), some (.int k), some (.int x)] ⟨fun ρ => ∃ o, fout sg__law_refill.ps [.list (ns.map .int), .int k] ρ = some o ∧ (∃ v, PyData.none = .int v) ∧ o = [.list (ns.map .int), .int k], fun d ρ => ∃ o, fout sg__law_refill.ps [.list (ns.map .int), .int k] ρ = some o ∧ (∃ v, d = .int v) ∧ o = [.list (ns.map .int), .int k], fun _ => False, fun _ => False, fun _ _ _ => False⟩ := by
        intro x
        refine wp_cons (w_ife (t_an2 (t_b (r_cm (i := x) (j := 1000000000000000000) rfl (r_ar rfl rfl rfl))) (fun _ => t_b (r_cm rfl (r_b1 (r_oe rfl) lenN)))) (fun _ => wp_cons (w_ret rfl ⟨_, rfl, ⟨x, rfl⟩, rfl⟩)) fun _ => wp_nil ?_)
        exact wp_cons (w_ret (r_ar (r_b1 (r_oe (r_ar (r_ar (r_b1 (r_oe (r_ar (r_ar (r_ar rfl rfl (ar_mulr ⟨by decide, by decide⟩)) (r_ar rfl rfl (ar_mulr ⟨by decide, by decide⟩)) rfl) rfl rfl)) rfl) rfl (ar_mulr ⟨by decide, by decide⟩)) rfl rfl)) rfl) rfl (ar_modp (by decide))) ⟨_, rfl, ⟨_, rfl⟩, rfl⟩)
      refine wp_cons (w_ife (t_b (r_cm (i := x) (j := 0) rfl rfl)) (fun _ => ?_) fun _ => wp_nil (last x))
      exact wp_cons (w_set (d := .int (1 - 2 * x)) (r_ar rfl (r_ar rfl rfl (ar_mull ⟨by decide, by decide⟩)) rfl) (wp_nil (last _)))
    cases ns with
    | nil => exact wp_cons (w_ife (z := false) rfl (fun z => nomatch z) fun _ => wp_nil (rest 0))
    | cons n ns =>
      refine wp_cons (w_ife (z := true) rfl (fun _ => ?_) fun z => nomatch z)
      have hp : (0 : Int) < ((n :: ns).length : Int) := by
        rw [List.length_cons]
        omega
      have m0 := Int.emod_nonneg k (show ((n :: ns).length : Int) ≠ 0 by omega)
      have m1 := Int.emod_lt_of_pos k hp
      have hj : (k % ((n :: ns).length : Int)).toNat < (n :: ns).length := by omega
      have e : ixL ((n :: ns).map .int) (.int (k % ((n :: ns).length : Int))) = some (.int ((n :: ns)[(k % ((n :: ns).length : Int)).toNat])) := by
        refine ixL_nat m0 ?_
        rw [List.getElem?_map, List.getElem?_eq_getElem hj]
        rfl
      exact wp_cons (w_set (r_ix (o := .e (.v 0)) rfl (r_ar rfl (r_b1 (r_oe rfl) lenN) (if_pos hp)) rfl e) (wp_nil (rest _)))
  obtain ⟨d, o, e, ⟨v, rfl⟩, rfl⟩ := h
  exact ⟨v, e⟩
theorem draw_ok (ns : List Int) (hl : ns.length ≤ 63) (k c : Int) {m : Int} (h1 : 0 < m) (h2 : m < 1073741824) : ∃ v k' c', 0 ≤ v ∧ v < m ∧ fn__law_draw [stB k c, .list (ns.map .int), .int m] = some (.int v, [stB k' c', .list (ns.map .int), .int m]) := by
  have h : ∃ d o, fn__law_draw [stB k c, .list (ns.map .int), .int m] = some (d, o) ∧ ∃ v k' c', d = .int v ∧ 0 ≤ v ∧ v < m ∧ o = [stB k' c', .list (ns.map .int), .int m] := by
    refine fn_rule (c := cf__law_draw) (ps := sg__law_draw.ps) (n := 4) (b := ir__law_draw) (ds := [stB k c, .list (ns.map .int), .int m]) (Q := fun d o => ∃ v k' c', d = .int v ∧ 0 ≤ v ∧ v < m ∧ o = [stB k' c', .list (ns.map .int), .int m]) ?_
    have rest : ∀ k9 c9 : Int, Wp cf__law_draw (.cons (.set 3 (.ar .mod (.b1 .int (.e (.ix (.s 0) (.k (.int 1))))) (.v 2))) (.cons (.sti 0 (.k (.int 1)) (.ar .fdiv (.ix (.s 0) (.k (.int 1))) (.v 2))) (.cons (.ret (.v 3)) .nil))) [some (stB k9 c9), some (.list (ns.map .int)), some (.int m), none] ⟨fun ρ => ∃ o, fout sg__law_draw.ps [stB k c, .list (ns.map .int), .int m] ρ = some o ∧ ∃ v k' c', PyData.none = .int v ∧ 0 ≤ v ∧ v < m ∧ o = [stB k' c', .list (ns.map .int), .int m], fun d ρ => ∃ o, fout sg__law_draw.ps [stB k c, .list (ns.map .int), .int m] ρ = some o ∧ ∃ v k' c', d = .int v ∧ 0 ≤ v ∧ v < m ∧ o = [stB k' c', .list (ns.map .int), .int m], fun _ => False, fun _ => False, fun _ _ _ => False⟩ := by
      intro k9 c9
      refine wp_cons (w_set (d := .int (c9 % m)) (r_ar (x := .int c9) rfl rfl (if_pos h1)) ?_)
      refine wp_cons (w_sti (d := .int (c9 / m)) (l := [.int k9, .int c9]) (j := 1) (k := 1) (r_ar (x := .int c9) rfl rfl (if_pos ⟨h1, h2⟩)) rfl rfl rfl rfl ?_)
      exact wp_cons (w_ret rfl ⟨_, rfl, c9 % m, k9, c9 / m, rfl, Int.emod_nonneg _ (by omega), Int.emod_lt_of_pos _ h1, rfl⟩)
    refine wp_cons (w_ife (t_b (r_eqi (x := c) (y := 0) rfl rfl)) (fun _ => ?_) fun _ => wp_nil (rest k c))
    obtain ⟨v, e⟩ := refill_ok ns hl k
    refine wp_cons (w_sti (d := .int v) (l := [.int k, .int c]) (j := 1) (k := 1) (r_callf (g := fn__law_refill) rfl e (a_f rfl (a_f rfl a_n)) rfl rfl rfl) rfl rfl rfl rfl ?_)
    refine wp_cons (w_sti (d := .int (k + 1)) (l := [.int k, .int v]) (j := 0) (k := 0) rfl rfl rfl rfl rfl (wp_nil ?_))
    exact rest (k + 1) v
  obtain ⟨d, o, e, v, k', c', rfl, v0, v1, rfl⟩ := h
  exact ⟨v, k', c', v0, v1, e⟩
/-- a draw within a def whose state stands first, its script behind -/
theorem drawI {c : Cf} (hc : c.fn (PySem.Str.ofString "_law_draw") = fn__law_draw) {ns : List Int} (hl : ns.length ≤ 63) {e : E} {ρ : Rho} {m : Int} {k s : Int} (he : ev c e (some (stB k s) :: some (.list (ns.map .int)) :: ρ) = some (.int m, some (stB k s) :: some (.list (ns.map .int)) :: ρ)) (h1 : 0 < m) (h2 : m < 1073741824) :
    ∃ v k' s', 0 ≤ v ∧ v < m ∧ ev c (.call (PySem.Str.ofString "_law_draw") (.io 0 (.fr (.v 1) (.fr e .nil)))) (some (stB k s) :: some (.list (ns.map .int)) :: ρ) = some (.int v, some (stB k' s') :: some (.list (ns.map .int)) :: ρ) := by
  obtain ⟨v, k', s', v0, v1, e1⟩ := draw_ok ns hl k s h1 h2
  exact ⟨v, k', s', v0, v1, r_callf hc e1 (a_i rfl (a_f rfl (a_f he a_n))) rfl rfl rfl⟩
/-- .. whose first argument has drawn, too -/
theorem drawJ {c : Cf} (hc : c.fn (PySem.Str.ofString "_law_draw") = fn__law_draw) {ns : List Int} (hl : ns.length ≤ 63) {e : E} {ρ : Rho} {m : Int} {k0 s0 k s : Int} (he : ev c e (some (stB k0 s0) :: some (.list (ns.map .int)) :: ρ) = some (.int m, some (stB k s) :: some (.list (ns.map .int)) :: ρ)) (h1 : 0 < m) (h2 : m < 1073741824) :
    ∃ v k' s', 0 ≤ v ∧ v < m ∧ ev c (.call (PySem.Str.ofString "_law_draw") (.io 0 (.fr (.v 1) (.fr e .nil)))) (some (stB k0 s0) :: some (.list (ns.map .int)) :: ρ) = some (.int v, some (stB k' s') :: some (.list (ns.map .int)) :: ρ) := by
  obtain ⟨v, k', s', v0, v1, e1⟩ := draw_ok ns hl k s h1 h2
  exact ⟨v, k', s', v0, v1, r_callf hc e1 (a_i rfl (a_f rfl (a_f he a_n))) rfl rfl rfl⟩
/-- one of a row, drawn -/
theorem pickL {c : Cf} (hc : c.fn (PySem.Str.ofString "_law_draw") = fn__law_draw) {ns : List Int} (hl : ns.length ≤ 63) {es : Es} {l : List Int} {n : Int} {ρ : Rho} {k0 s0 k s : Int} (hn : n = l.length) (h0 : 0 < l.length) (h2 : l.length < 100) (he : evs c es (some (stB k0 s0) :: some (.list (ns.map .int)) :: ρ) = some (l.map .int, some (stB k s) :: some (.list (ns.map .int)) :: ρ)) :
    ∃ v ∈ l, ∃ k' s', ev c (.ix (.e (.lst es)) (.call (PySem.Str.ofString "_law_draw") (.io 0 (.fr (.v 1) (.fr (.k (.int n)) .nil))))) (some (stB k0 s0) :: some (.list (ns.map .int)) :: ρ) = some (.int v, some (stB k' s') :: some (.list (ns.map .int)) :: ρ) := by
  obtain ⟨v, k', s', v0, v1, e⟩ := drawI hc hl (e := .k (.int n)) (m := n) (k := k) (s := s) (ρ := ρ) rfl (by omega) (by omega)
  have hv : v.toNat < l.length := by omega
  refine ⟨l[v.toNat], List.getElem_mem hv, k', s', r_ix (r_oe (r_lst he (lenOkS (by rw [List.length_map]; omega)))) e rfl ?_⟩
  refine ixL_nat v0 ?_
  rw [List.getElem?_map, List.getElem?_eq_getElem hv]
  rfl

theorem op_draw {ns : List Int} (hl : ns.length ≤ 63) {k s m : Int} {Q : D × List D → Prop} (h1 : 0 < m) (h2 : m < 1073741824) (h : ∀ v k' s' : Int, 0 ≤ v → v < m → Q (.int v, [.list [.int k', .int s'], .list (ns.map .int), .int m])) : Op (fn__law_draw [.list [.int k, .int s], .list (ns.map .int), .int m]) Q := by
  obtain ⟨v, k', s', v0, v1, e⟩ := draw_ok ns hl k s h1 h2
  exact ⟨_, e, h v k' s' v0 v1⟩
/-! ### alike -/
def Dn : Nat → D → Prop
  | 0, d => scalar d = true ∧ d.canLay0 = true
  | n + 1, d => (scalar d = true ∧ d.canLay0 = true) ∨ ∃ l, (d = .list l ∨ d = .tuple l) ∧ l.length ≤ 100000 ∧ ∀ x ∈ l, Dn n x
theorem Dn.up {n : Nat} {d : D} (h : Dn n d) : Dn (n + 1) d := by
  induction n generalizing d with
  | zero => exact .inl h
  | succ n ih =>
    rcases h with h | ⟨l, e, hl, h⟩
    · exact .inl h
    · exact .inr ⟨l, e, hl, fun x hx => ih (h x hx)⟩
@[simp] theorem Dn_int {n : Nat} {i : Int} : Dn n (.int i) := by cases n <;> first | exact ⟨rfl, rfl⟩ | exact .inl ⟨rfl, rfl⟩
@[simp] theorem Dn_none {n : Nat} : Dn n .none := by cases n <;> first | exact ⟨rfl, rfl⟩ | exact .inl ⟨rfl, rfl⟩
@[simp] theorem Dn_bool {n : Nat} {i : Bool} : Dn n (.bool i) := by cases n <;> first | exact ⟨rfl, rfl⟩ | exact .inl ⟨rfl, rfl⟩
theorem Dn_str {n : Nat} {i : Str} (h : PyData.canLay0 (.str i) = true) : Dn n (.str i) := by cases n <;> first | exact ⟨rfl, h⟩ | exact .inl ⟨rfl, h⟩
theorem Dn_list {n : Nat} {l : List D} (hl : l.length ≤ 100000) (h : ∀ x ∈ l, Dn n x) : Dn (n + 1) (.list l) := .inr ⟨l, .inl rfl, hl, h⟩
theorem Dn_tuple {n : Nat} {l : List D} (hl : l.length ≤ 100000) (h : ∀ x ∈ l, Dn n x) : Dn (n + 1) (.tuple l) := .inr ⟨l, .inr rfl, hl, h⟩
theorem exact_sc (Φ : Cf) {d : D} (h : scalar d = true ∧ d.canLay0 = true) : fx__law_exact Φ [d, d] = some (.bool true, [d, d]) := by
  obtain ⟨h, lay⟩ := h
  cases d with
  | int i =>
    have e : fx__law_exact Φ [.int i, .int i] = some (.bool (PyData.eqv (.int i) (.int i) != false), [.int i, .int i]) := rfl
    rw [e, bneF]
    congr 3
    show (i == i) = true
    exact beq_self_eq_true i
  | str i =>
    refine eq_of (fn_rule (c := Φ) (ps := sg__law_exact.ps) (n := 4) (b := ir__law_exact) (ds := [.str i, .str i]) (Q := fun d o => d = .bool true ∧ o = [.str i, .str i]) ?_)
    refine wp_cons (w_ife (z := false) rfl (fun z => nomatch z) fun _ => wp_nil ?_)
    refine wp_cons (w_ife (z := false) rfl (fun z => nomatch z) fun _ => wp_nil ?_)
    refine wp_cons (w_set (d := .bool true) rfl ?_)
    have q := r_eq (c := Φ) (ng := false) (a := .v 0) (b := .v 1) (x := .str i) (y := .str i) (ρ := [some (.str i), some (.str i), some (.bool true), none]) rfl rfl (sh_str (k := 0) lay).ok (sh_str (k := 0) lay).ok
    rw [show (PyData.eqv (.str i) (.str i) != false) = true by show ((i == i) != false) = true; rw [beq_self_eq_true]; rfl] at q
    exact wp_cons (w_ret (r_an (v := true) rfl (fun z => nomatch z) fun _ => r_an (v := true) rfl (fun z => nomatch z) fun _ => q) ⟨_, rfl, rfl, rfl⟩)
  | bool i => cases i <;> rfl
  | none => rfl
  | _ => cases h
theorem exact_n1 {d : D} (h : Dn 0 d) : fn__law_exact_1 [d, d] = some (.bool true, [d, d]) := by
  exact exact_sc _ h
theorem exact_n2 {d : D} (h : Dn 1 d) : fn__law_exact_2 [d, d] = some (.bool true, [d, d]) := by
  rcases h with h | ⟨l, e, hl, h⟩
  · exact exact_sc _ h
  · have st : ∀ p (hp : p < l.length), fn__law_exact_1 [l[p], l[p]] = some (.bool true, [l[p], l[p]]) := fun p hp => exact_n1 (h _ (List.getElem_mem hp))
    rcases e with rfl | rfl
    · refine fn_by (c := cf__law_exact_2) (ps := sg__law_exact.ps) (n := 4) (b := ir__law_exact) (ds := [.list l, .list l]) ?_
      unfold ir__law_exact
      simp
      refine Ev.of (comp_y (gives_r1 (n := l.length) (ρ1 := [some (.list l), some (.list l), none, none]) (by simp) (by omega)) (fun _ => .bool true) rfl (by simp; omega) fun p hp => ?_) ?_
      · have hp := List.mem_range.mp hp
        simp [List.getElem?_eq_getElem hp, ixL_at (List.getElem?_eq_getElem hp), st p hp]
      · simp [all_true]
    · refine fn_by (c := cf__law_exact_2) (ps := sg__law_exact.ps) (n := 4) (b := ir__law_exact) (ds := [.tuple l, .tuple l]) ?_
      unfold ir__law_exact
      simp
      refine Ev.of (comp_y (gives_r1 (n := l.length) (ρ1 := [some (.tuple l), some (.tuple l), none, none]) (by simp) (by omega)) (fun _ => .bool true) rfl (by simp; omega) fun p hp => ?_) ?_
      · have hp := List.mem_range.mp hp
        simp [List.getElem?_eq_getElem hp, ixL_at (List.getElem?_eq_getElem hp), st p hp]
      · simp [all_true]
theorem exact_n3 {d : D} (h : Dn 2 d) : fn__law_exact_3 [d, d] = some (.bool true, [d, d]) := by
  rcases h with h | ⟨l, e, hl, h⟩
  · exact exact_sc _ h
  · have st : ∀ p (hp : p < l.length), fn__law_exact_2 [l[p], l[p]] = some (.bool true, [l[p], l[p]]) := fun p hp => exact_n2 (h _ (List.getElem_mem hp))
    rcases e with rfl | rfl
    · refine fn_by (c := cf__law_exact_3) (ps := sg__law_exact.ps) (n := 4) (b := ir__law_exact) (ds := [.list l, .list l]) ?_
      unfold ir__law_exact
      simp
      refine Ev.of (comp_y (gives_r1 (n := l.length) (ρ1 := [some (.list l), some (.list l), none, none]) (by simp) (by omega)) (fun _ => .bool true) rfl (by simp; omega) fun p hp => ?_) ?_
      · have hp := List.mem_range.mp hp
        simp [List.getElem?_eq_getElem hp, ixL_at (List.getElem?_eq_getElem hp), st p hp]
      · simp [all_true]
    · refine fn_by (c := cf__law_exact_3) (ps := sg__law_exact.ps) (n := 4) (b := ir__law_exact) (ds := [.tuple l, .tuple l]) ?_
      unfold ir__law_exact
      simp
      refine Ev.of (comp_y (gives_r1 (n := l.length) (ρ1 := [some (.tuple l), some (.tuple l), none, none]) (by simp) (by omega)) (fun _ => .bool true) rfl (by simp; omega) fun p hp => ?_) ?_
      · have hp := List.mem_range.mp hp
        simp [List.getElem?_eq_getElem hp, ixL_at (List.getElem?_eq_getElem hp), st p hp]
      · simp [all_true]
theorem exact_n4 {d : D} (h : Dn 3 d) : fn__law_exact_4 [d, d] = some (.bool true, [d, d]) := by
  rcases h with h | ⟨l, e, hl, h⟩
  · exact exact_sc _ h
  · have st : ∀ p (hp : p < l.length), fn__law_exact_3 [l[p], l[p]] = some (.bool true, [l[p], l[p]]) := fun p hp => exact_n3 (h _ (List.getElem_mem hp))
    rcases e with rfl | rfl
    · refine fn_by (c := cf__law_exact_4) (ps := sg__law_exact.ps) (n := 4) (b := ir__law_exact) (ds := [.list l, .list l]) ?_
      unfold ir__law_exact
      simp
      refine Ev.of (comp_y (gives_r1 (n := l.length) (ρ1 := [some (.list l), some (.list l), none, none]) (by simp) (by omega)) (fun _ => .bool true) rfl (by simp; omega) fun p hp => ?_) ?_
      · have hp := List.mem_range.mp hp
        simp [List.getElem?_eq_getElem hp, ixL_at (List.getElem?_eq_getElem hp), st p hp]
      · simp [all_true]
    · refine fn_by (c := cf__law_exact_4) (ps := sg__law_exact.ps) (n := 4) (b := ir__law_exact) (ds := [.tuple l, .tuple l]) ?_
      unfold ir__law_exact
      simp
      refine Ev.of (comp_y (gives_r1 (n := l.length) (ρ1 := [some (.tuple l), some (.tuple l), none, none]) (by simp) (by omega)) (fun _ => .bool true) rfl (by simp; omega) fun p hp => ?_) ?_
      · have hp := List.mem_range.mp hp
        simp [List.getElem?_eq_getElem hp, ixL_at (List.getElem?_eq_getElem hp), st p hp]
      · simp [all_true]
theorem exact_ok {d : D} (h : Dn 3 d) : fn__law_exact [d, d] = some (.bool true, [d, d]) := exact_n4 h
end Lw_k83
namespace Lw_k83
open PySem PySem.Spec PyProof.Rows L2 Vw
structure Pr where
  k : Str
  w : Int
  m : Int
  g : Int
structure Ru where
  w : Str
  t : List Int
def prD (p : Pr) : D := .tuple [.str p.k, .int p.w, .int p.m, .int p.g]
def ruD (r : Ru) : D := .tuple [.str r.w, .tuple (r.t.map .int)]
def psD (ps : List Pr) : D := .tuple (ps.map prD)
def raceD (rs : List Ru) (ps : List Pr) : D := .tuple [.tuple (rs.map ruD), psD ps]
def gr (ps : List Pr) (x : Int) : Int := (ps.map (·.g)).getD x.toNat 0
def grs (ps : List Pr) (g : List Int) : List Int := (g.filter fun x => decide (0 < gr ps x)).map (gr ps)
def inB (ps : List Pr) (g : List Int) : Bool := g.all fun x => decide (0 ≤ x) && decide (x < ps.length)
def goes (ps : List Pr) (g : List Int) : Bool := inB ps g && decide (g.Pairwise (· < ·)) && decide ((grs ps g).Nodup)
theorem gr_at {ps : List Pr} {x : Int} (h0 : 0 ≤ x) (h1 : x < ps.length) : ixL (ps.map prD) (.int x) = some (prD (ps[x.toNat]'(by omega))) ∧ ixD (prD (ps[x.toNat]'(by omega))) (.int 3) = some (.int (gr ps x)) := by
  have hx : x.toNat < ps.length := by omega
  refine ⟨ixL_nat h0 (by rw [List.getElem?_map, List.getElem?_eq_getElem hx]; rfl), ?_⟩
  show some (PyData.int (ps[x.toNat]).g) = _
  unfold gr
  rw [List.getD_eq_getElem?_getD, List.getElem?_map, List.getElem?_eq_getElem hx]
  rfl
theorem inB_mem {ps : List Pr} {g : List Int} (h : inB ps g = true) {x : Int} (hx : x ∈ g) : 0 ≤ x ∧ x < ps.length := by
  have := List.all_eq_true.mp h x hx
  simpa using this
theorem legal_ok (rs : List Ru) (ps : List Pr) (g : List Int) (hp : ps.length ≤ 1000) (hg : g.length ≤ 1000) : fn_legal [raceD rs ps, rwD g] = some (.bool (goes ps g), [raceD rs ps, rwD g]) := by
  refine fn_by (c := cf_legal) (ps := sg_legal.ps) (n := 6) (b := ir_legal) (ds := [raceD rs ps, rwD g]) ?_
  have ir : ixD (raceD rs ps) (.int 1) = some (.tuple (ps.map prD)) := rfl
  unfold ir_legal
  simp [ir]
  refine Ev.of (all_m (l := g) (g := .int) (gives_l' (by simp)) (fun x => decide (0 ≤ x) && decide (x < ps.length)) rfl fun x hx => ?_) ?_
  · simp
    rw [Br_dec]
    exact ⟨fun h => by simp [h], fun h => by simp [h]⟩
  have e1 : (g.all fun x => decide (0 ≤ x) && decide (x < ps.length)) = inB ps g := rfl
  rw [e1]
  unfold goes
  cases hb : inB ps g with
  | false => simp
  | true =>
    simp
    have gd : ∀ i (h : i < g.length), g.getD i 0 = g[i] := fun i h => by rw [List.getD_eq_getElem?_getD, List.getElem?_eq_getElem h]; rfl
    refine Ev.of (all_m (l := List.range (g.length - 1)) (gives_rj ((g.length : Int) - 1) (by omega) (by omega) (by omega) (by simp)) (fun i => decide (g.getD i 0 < g.getD (i + 1) 0)) rfl fun i hi => ?_) ?_
    · have hi := List.mem_range.mp hi
      have i1 : ixL (g.map .int) (.int (i : Int)) = some (.int g[i]) := ixL_at (by rw [List.getElem?_map, List.getElem?_eq_getElem (show i < g.length by omega)]; rfl)
      have i2 : ixL (g.map .int) (.int ((i : Int) + 1)) = some (.int g[i + 1]) := ixL_at (k := i + 1) (by rw [List.getElem?_map, List.getElem?_eq_getElem (show i + 1 < g.length by omega)]; rfl)
      rw [gd i (by omega), gd (i + 1) (by omega)]
      simp [i1, i2]
    · rw [pw_all]
      cases hu : decide (g.Pairwise (· < ·)) with
      | false =>
        simp
        exact fun h => (of_decide_eq_false hu h).elim
      | true =>
        simp
        refine Ev.of (comp_m (l := g) (g := .int) (gives_l' (by simp)) (fun x => decide (0 < gr ps x)) (fun x => .int (gr ps x)) rfl (by omega) fun x hx => ?_) ?_
        · obtain ⟨x0, x1⟩ := inB_mem hb hx
          obtain ⟨r1, r2⟩ := gr_at x0 x1
          simp [r1, r2]
          rw [Br_dec]
          simp
        · have e2 : ((g.filter fun x => decide (0 < gr ps x)).map fun x => PyData.int (gr ps x)) = (grs ps g).map .int := by unfold grs; rw [List.map_map]; rfl
          have hgl : (grs ps g).length ≤ g.length := by unfold grs; rw [List.length_map]; exact List.length_filter_le _ _
          rw [e2]
          simp
          refine lst0_of (l := grs ps g) (by simp) (by omega) ?_
          simp
          rw [← kinds_iff]
          omega
theorem grs_nodup (ps : List Pr) (g : List Int) : (grs ps g).Nodup ↔ ∀ x ∈ g, 0 < gr ps x → (g.filter fun y => decide (gr ps y = gr ps x)).length ≤ 1 := by
  have key : ∀ a, (grs ps g).count a = if 0 < a then (g.filter fun y => decide (gr ps y = a)).length else 0 := fun a => by
    unfold grs
    rw [List.count_eq_countP, List.countP_map, List.countP_filter, ← List.countP_eq_length_filter]
    split
    · rename_i ha
      apply List.countP_congr
      intro y hy
      simp
      intro h
      rw [h]
      exact ha
    · rename_i ha
      rw [List.countP_eq_zero]
      intro y hy
      simp
      intro h
      rw [h]
      omega
  rw [List.nodup_iff_count]
  constructor
  · intro h x hx h0
    have := h (gr ps x)
    rwa [key, if_pos h0] at this
  · intro h a
    rw [key]
    split
    · rename_i ha
      by_cases he : g.filter (fun y => decide (gr ps y = a)) = []
      · rw [he]
        simp
      · obtain ⟨x, hx⟩ := List.exists_mem_of_ne_nil _ he
        obtain ⟨h1, h2⟩ := List.mem_filter.mp hx
        have h2 : gr ps x = a := by simpa using h2
        subst h2
        exact h x h1 ha
    · omega
theorem goes_ok (ps : List Pr) (g : List Int) (hp : ps.length ≤ 1000) (hg : g.length ≤ 1000) : fn__law_goes [psD ps, rwD g] = some (.bool (goes ps g), [psD ps, rwD g]) := by
  refine fn_by (c := cf__law_goes) (ps := sg__law_goes.ps) (n := 5) (b := ir__law_goes) (ds := [psD ps, rwD g]) ?_
  have ln : b1D .len (psD ps) = some (.int ps.length) := by unfold psD; simp
  unfold ir__law_goes
  simp
  refine Ev.of (comp_y (l := g) (g := .int) (gives_l' (by simp)) (fun x => .bool (decide (0 ≤ x) && decide (x < ps.length))) rfl (by omega) fun x hx => ?_) ?_
  · simp [ln]
    rw [Br_dec]
    exact ⟨fun h => by simp [h], fun h => by simp [h]⟩
  have e1 : b1D .all (.list (g.map fun x : Int => .bool (decide (0 ≤ x) && decide (x < ps.length)))) = some (.bool (inB ps g)) := all_bools (fun x : Int => decide (0 ≤ x) && decide (x < ps.length)) g
  rw [e1]
  cases hb : inB ps g with
  | false =>
    have : goes ps g = false := by unfold goes; rw [hb]; rfl
    simp [this]
  | true =>
    simp [sort_ints]
    have es : eqD false (rwD g) (.list ((g.mergeSort (leI false)).map .int)) = some (.bool (decide (g = g.mergeSort (leI false)) != false)) := eq_rows
    rw [es]
    have hgu : goes ps g = (decide (g.Pairwise (· < ·)) && decide ((grs ps g).Nodup)) := by unfold goes; rw [hb]; rfl
    have bad : ¬ g.Pairwise (· < ·) → goes ps g = false := fun h => by rw [hgu, decide_eq_false h]; rfl
    simp
    rw [Br_dec]
    refine ⟨fun h1 => ?_, fun h1 => bad fun h => h1 ((sorted_nodup g).mpr h).1⟩
    refine lst0_of (l := g) (by simp) (by omega) ?_
    simp
    by_cases h2 : kinds g = g.length
    · have hu := (sorted_nodup g).mp ⟨h1, h2⟩
      have hgn : goes ps g = decide ((grs ps g).Nodup) := by rw [hgu, decide_eq_true hu]; rfl
      simp [h2]
      refine for_m (l := g) (g := .int) (gives_l' (by simp)) (fun i ρ => (∀ x ∈ g.take i, 0 < gr ps x → (g.filter fun y => decide (gr ps y = gr ps x)).length ≤ 1) ∧ ∃ x, ρ = [some (psD ps), some (rwD g), some (.bool true), x, none]) ⟨by simp, none, rfl⟩ (fun i hi ρ hI => ?_) fun ρ hI => ?_
      · obtain ⟨hno, x, rfl⟩ := hI
        obtain ⟨x0, x1⟩ := inB_mem hb (List.getElem_mem hi)
        obtain ⟨r1, r2⟩ := gr_at x0 x1
        have r1 : ixD (psD ps) (.int g[i]) = some (prD (ps[(g[i]).toNat]'(by omega))) := r1
        simp [r1, r2]
        rw [Br_dec]
        have nx : ((0 < gr ps g[i]) → (g.filter fun y => decide (gr ps y = gr ps g[i])).length ≤ 1) → ∀ x ∈ g.take (i + 1), 0 < gr ps x → (g.filter fun y => decide (gr ps y = gr ps x)).length ≤ 1 := fun hi2 x hx => by
          rw [List.take_succ_eq_append_getElem hi] at hx
          rcases List.mem_append.mp hx with hx | hx
          · exact hno x hx
          · rw [List.mem_singleton.mp hx]
            exact hi2
        refine ⟨fun h0 => ?_, fun h0 => nx fun h => (h0 h).elim⟩
        refine Ev.of (comp_m (l := g) (g := .int) (gives_l' (by simp)) (fun y => decide (gr ps y = gr ps g[i])) .int rfl (by omega) fun y hy => ?_) ?_
        · obtain ⟨y0, y1⟩ := inB_mem hb hy
          obtain ⟨q1, q2⟩ := gr_at y0 y1
          have q1 : ixD (psD ps) (.int y) = some (prD (ps[y.toNat]'(by omega))) := q1
          simp [r1, r2, q1, q2]
          rw [Br_dec]
          simp
        · simp
          rw [Br_dec]
          refine ⟨fun hgt => ?_, fun hgt => ?_⟩
          · rw [hgn]
            refine decide_eq_false fun hn => ?_
            have := (grs_nodup ps g).mp hn g[i] (List.getElem_mem hi) h0
            omega
          · exact nx fun _ => by omega
      · obtain ⟨hno, x, rfl⟩ := hI
        rw [List.take_length] at hno
        simp
        rw [hgn]
        exact decide_eq_true ((grs_nodup ps g).mpr hno)
    · have hf := bad fun h => h2 ((sorted_nodup g).mpr h).2
      have h3 : ¬ ((kinds g : Nat) : Int) = (g.length : Int) := by omega
      simp [hf]
      rw [decide_eq_false h3]
      simp
end Lw_k83
namespace Lw_k83
open PySem PySem.Spec PyProof.Rows L2 Vw
def gk (n m : Nat) : List Int := ((List.range n).filter fun j => m.testBit j).map fun (j : Nat) => (j : Int)
def dueL (ps : List Pr) (k : Nat) : List (List Int) := ((List.range (2 ^ k)).map (gk ps.length)).filter (goes ps)
theorem gk_lt {i n m : Nat} (h : i ≤ n) (hm : m < 2 ^ i) : gk n m = gk i m := by
  unfold gk
  congr 1
  have e : n = i + (n - i) := by omega
  rw [e, List.range_add, List.filter_append]
  have : ((List.range (n - i)).map fun x => i + x).filter (fun j => m.testBit j) = [] := by
    rw [List.filter_eq_nil_iff]
    intro j hj
    obtain ⟨x, _, rfl⟩ := List.mem_map.mp hj
    rw [Nat.testBit_lt_two_pow (Nat.lt_of_lt_of_le hm (Nat.pow_le_pow_right (by omega) (by omega)))]
    decide
  rw [this, List.append_nil]
theorem gk_add {i n m : Nat} (h : i < n) (hm : m < 2 ^ i) : gk n (2 ^ i + m) = gk n m ++ [(i : Int)] := by
  rw [gk_lt (i := i + 1) (by omega) (by rw [Nat.pow_succ]; omega), gk_lt (i := i) (by omega) hm]
  unfold gk
  rw [List.range_succ, List.filter_append, List.map_append]
  congr 1
  · congr 1
    apply List.filter_congr
    intro j hj
    have hj := List.mem_range.mp hj
    rw [Nat.testBit_two_pow_add_gt hj]
  · rw [List.filter_cons_of_pos]
    · rfl
    · rw [Nat.testBit_two_pow_add_eq, Nat.testBit_lt_two_pow hm]
      rfl
theorem goes_pre {ps : List Pr} {g : List Int} {x : Int} (h : goes ps (g ++ [x]) = true) : goes ps g = true := by
  unfold goes at *
  rw [Bool.and_eq_true, Bool.and_eq_true] at *
  obtain ⟨⟨h1, h2⟩, h3⟩ := h
  refine ⟨⟨?_, ?_⟩, ?_⟩
  · unfold inB at *
    rw [List.all_append, Bool.and_eq_true] at h1
    exact h1.1
  · exact decide_eq_true (List.pairwise_append.mp (of_decide_eq_true h2)).1
  · have := of_decide_eq_true h3
    unfold grs at *
    rw [List.filter_append, List.map_append] at this
    exact decide_eq_true (List.nodup_append.mp this).1
theorem dueL_succ (ps : List Pr) (i : Nat) (h : i < ps.length) : dueL ps (i + 1) = dueL ps i ++ ((dueL ps i).filter fun g => goes ps (g ++ [(i : Int)])).map (· ++ [(i : Int)]) := by
  unfold dueL
  have e : 2 ^ (i + 1) = 2 ^ i + 2 ^ i := by rw [Nat.pow_succ]; omega
  rw [e, List.range_add, List.map_append, List.filter_append]
  congr 1
  have e2 : ((List.range (2 ^ i)).map fun x => 2 ^ i + x).map (gk ps.length) = ((List.range (2 ^ i)).map (gk ps.length)).map (· ++ [(i : Int)]) := by
    rw [List.map_map, List.map_map]
    apply List.map_congr_left
    intro m hm
    exact gk_add h (List.mem_range.mp hm)
  rw [e2, List.filter_map]
  congr 1
  rw [List.filter_filter]
  apply List.filter_congr
  intro g _
  show goes ps (g ++ [(i : Int)]) = (goes ps (g ++ [(i : Int)]) && goes ps g)
  cases hg : goes ps (g ++ [(i : Int)]) with
  | false => rfl
  | true => rw [goes_pre hg]; rfl
theorem dueL_zero (ps : List Pr) : dueL ps 0 = [[]] := by
  have e : gk ps.length 0 = [] := by
    unfold gk
    rw [List.map_eq_nil_iff, List.filter_eq_nil_iff]
    intro j _
    simp
  show [gk ps.length 0].filter (goes ps) = [[]]
  rw [e]
  rfl
theorem dueL_len (ps : List Pr) (k : Nat) : (dueL ps k).length ≤ 2 ^ k := by
  unfold dueL
  refine Nat.le_trans (List.length_filter_le _ _) ?_
  simp
theorem gk_len (n m : Nat) : (gk n m).length ≤ n := by
  unfold gk
  rw [List.length_map]
  refine Nat.le_trans (List.length_filter_le _ _) ?_
  simp
theorem dueL_row {ps : List Pr} {k : Nat} {g : List Int} (h : g ∈ dueL ps k) : g.length ≤ ps.length := by
  obtain ⟨h1, _⟩ := List.mem_filter.mp h
  obtain ⟨m, _, rfl⟩ := List.mem_map.mp h1
  exact gk_len _ _
def srtR (l : List (List Int)) : List (List Int) := l.mergeSort fun a b => PySem.W.dataLe false id (rwD a) (rwD b)
theorem worlds_ok (rs : List Ru) (ps : List Pr) (hp : ps.length ≤ 8) : fn_worlds [raceD rs ps] = some (.list ((srtR (dueL ps ps.length)).map rwD), [raceD rs ps]) := by
  refine fn_by (c := cf_worlds) (ps := sg_worlds.ps) (n := 4) (b := ir_worlds) (ds := [raceD rs ps]) ?_
  have ir : ixD (raceD rs ps) (.int 1) = some (.tuple (ps.map prD)) := rfl
  unfold ir_worlds
  simp
  refine for_m (gives_r1s (n := ps.length) (by omega) (by simp [ir])) (fun i ρ => ∃ x, ρ = [some (raceD rs ps), some (.list ((dueL ps i).map rwD)), x, none]) ⟨none, by rw [dueL_zero]; rfl⟩ (fun i hi ρ hI => ?_) fun ρ hI => ?_
  · obtain ⟨x, rfl⟩ := hI
    have hi : i < ps.length := by simpa using hi
    have p8 : 2 ^ i ≤ 2 ^ 8 := Nat.pow_le_pow_right (by omega) (by omega)
    have hdl := dueL_len ps i
    simp
    refine Ev.of (comp_m (l := dueL ps i) (g := rwD) (gives_l' (by simp)) (fun g => goes ps (g ++ [(i : Int)])) (fun g => rwD (g ++ [(i : Int)])) rfl (by omega) fun g hg => ?_) ?_
    · have hgl := dueL_row hg
      have el : List.map PyData.int g ++ [PyData.int i] = (g ++ [(i : Int)]).map .int := by simp
      simp
      refine ⟨by omega, ?_⟩
      rw [el, legal_ok rs ps _ (by omega) (by simp; omega)]
      simp
      rw [Br_iff]
      exact ⟨fun h => by omega, fun _ => trivial⟩
    · have hfl := List.length_filter_le (fun g => goes ps (g ++ [(i : Int)])) (dueL ps i)
      simp
      refine ⟨by omega, ?_⟩
      rw [dueL_succ ps i hi]
      simp
  · obtain ⟨x, rfl⟩ := hI
    rw [List.length_range]
    simp [sort_rows]
    rfl
end Lw_k83
namespace Lw_k83
open PySem PySem.Spec PyProof.Rows L2 Vw
abbrev W (x : String) : Str := PySem.Str.ofString x
def LayS (x : Str) : Prop := PyData.canLay0 (.str x) = true
theorem eqv_str {a b : Str} : PyData.eqv (.str a) (.str b) = decide (a = b) := by
  show (a == b) = _
  by_cases h : a = b
  · subst h
    simp
  · rw [decide_eq_false h]
    simpa using h
theorem any_strs (l : List Str) (x : Str) : ((l.map PyData.str).any fun e => PyData.eqv e (.str x)) = decide (x ∈ l) := by
  induction l with
  | nil => simp
  | cons y r ih =>
    rw [List.map_cons, List.any_cons, ih, eqv_str]
    by_cases h : y = x
    · subst h
      simp
    · by_cases h3 : x ∈ r
      · simp [h3]
      · rw [decide_eq_false h, decide_eq_false h3, decide_eq_false fun h4 => by
          rcases List.mem_cons.mp h4 with h5 | h5
          · exact h h5.symm
          · exact h3 h5]
        rfl
theorem inn_strs {ng : Bool} {x : Str} {l : List Str} : innD ng (.str x) (.tuple (l.map .str)) = some (.bool (decide (x ∈ l) != ng)) := by
  show (if _ then _ else none) = _
  rw [if_pos ⟨rfl, by
    rw [List.all_eq_true]
    intro y hy
    obtain ⟨i, _, rfl⟩ := List.mem_map.mp hy
    rfl⟩, any_strs]
theorem eq_strs {ng : Bool} {a b : Str} (ha : LayS a) (hb : LayS b) : eqD ng (.str a) (.str b) = some (.bool (decide (a = b) != ng)) := by
  unfold eqD
  rw [if_pos ⟨(sh_str (k := 0) ha).ok, (sh_str (k := 0) hb).ok⟩, eqv_str]
def RM : List Str := [W "run", W "miss"]
def K5 : List Str := [W "back", W "out", W "less", W "more", W "void"]
def K2 : List Str := [W "less", W "more"]
theorem inn_RM {ng : Bool} {x : Str} : innD ng (.str x) (.tuple [.str (W "run"), .str (W "miss")]) = some (.bool (decide (x ∈ RM) != ng)) := inn_strs (l := RM)
theorem inn_K5 {ng : Bool} {x : Str} : innD ng (.str x) (.tuple [.str (W "back"), .str (W "out"), .str (W "less"), .str (W "more"), .str (W "void")]) = some (.bool (decide (x ∈ K5) != ng)) := inn_strs (l := K5)
theorem inn_K2 {ng : Bool} {x : Str} : innD ng (.str x) (.tuple [.str (W "less"), .str (W "more")]) = some (.bool (decide (x ∈ K2) != ng)) := inn_strs (l := K2)
theorem lay_void : LayS (W "void") := by unfold LayS; decide +kernel
def okT (t : List Int) : Bool := t.all fun x => decide (0 ≤ x) && decide (x ≤ 9999)
def dru : Ru := ⟨W "", []⟩
def dpr : Pr := ⟨W "", 0, 0, 0⟩
def c1r (legs : Nat) (r : Ru) (k : Nat) : List Chk := [(decide (r.w ∈ RM), W "word", k), ((decide (1 ≤ (r.t.length : Int)) && decide ((r.t.length : Int) ≤ 8)) && decide ((r.t.length : Int) = legs), W "legs", k), (okT r.t, W "ticks", k)]
def c1 (rs : List Ru) (legs : Nat) (k : Nat) : List Chk := c1r legs (rs.getD k dru) k
def c2r (n legs : Nat) (p : Pr) (k : Nat) : List Chk := [(decide (p.k ∈ K5), W "kind", k), (decide (0 ≤ p.w) && decide (p.w < (bif decide (p.k = W "void") then (legs : Int) else n)), W "whom", k), (decide (0 ≤ p.m) && decide (p.m ≤ (bif decide (p.k ∈ K2) then 9999 else 0)), W "many", k), (decide (0 ≤ p.g) && decide (p.g ≤ 9), W "group", k)]
def c2 (n legs : Nat) (ps : List Pr) (k : Nat) : List Chk := c2r n legs (ps.getD k dpr) k
def t2 (n legs : Nat) (ps : List Pr) (i : Nat) : Bad := runC (c2 n legs ps) none (ps.length - i) i
def tp (n legs : Nat) (ps : List Pr) : Bad := fb2 [(decide ((ps.length : Int) ≤ 8), W "protests", ps.length)] (t2 n legs ps 0)
def t1 (rs : List Ru) (legs : Nat) (ps : List Pr) (i : Nat) : Bad := runC (c1 rs legs) (tp rs.length legs ps) (rs.length - i) i
def legsOf (rs : List Ru) : Nat := (rs.getD 0 dru).t.length
def chk (rs : List Ru) (ps : List Pr) : Bad := fb2 [(decide (1 ≤ (rs.length : Int)) && decide ((rs.length : Int) ≤ 12), W "runners", rs.length)] (t1 rs (legsOf rs) ps 0)
@[simp] theorem op_req {b : Bool} {r : Str} {i : Int} {Q : Xr → Prop} : Op (fn_require [.bool b, .str r, .int i]) Q ↔ Br b (Q (.ret .none [.bool b, .str r, .int i])) (Q (.exn (PySem.Str.ofString "RaceError") (eF r i))) := by
  cases b with
  | true => exact ⟨fun ⟨x, e, q⟩ => by cases e; exact Br_true.mpr q, fun q => ⟨_, rfl, Br_true.mp q⟩⟩
  | false => exact ⟨fun ⟨x, e, q⟩ => by cases e; exact Br_false.mpr q, fun q => ⟨_, rfl, Br_false.mp q⟩⟩
theorem ru_at {rs : List Ru} {k : Nat} (h : k < rs.length) : ixL (rs.map ruD) (.int (k : Int)) = some (ruD (rs.getD k dru)) := by
  refine ixL_at ?_
  rw [List.getElem?_map, List.getElem?_eq_getElem h, List.getD_eq_getElem?_getD, List.getElem?_eq_getElem h]
  rfl
theorem pr_at {ps : List Pr} {k : Nat} (h : k < ps.length) : ixL (ps.map prD) (.int (k : Int)) = some (prD (ps.getD k dpr)) := by
  refine ixL_at ?_
  rw [List.getElem?_map, List.getElem?_eq_getElem h, List.getD_eq_getElem?_getD, List.getElem?_eq_getElem h]
  rfl
@[simp] theorem ru_0 {r : Ru} : ixD (ruD r) (.int 0) = some (.str r.w) := rfl
@[simp] theorem ru_1 {r : Ru} : ixD (ruD r) (.int 1) = some (.tuple (r.t.map .int)) := rfl
theorem check_ok (rs : List Ru) (ps : List Pr) (hr : rs.length ≤ 100000) (hp : ps.length ≤ 1000) (hL : ∀ p ∈ ps, LayS p.k) : ∃ o, fn_check_race [raceD rs ps] = some (xrB (W "RaceError") o (chk rs ps)) := by
  have key : ∃ r, fn_check_race [raceD rs ps] = some r ∧ ∃ o, r = xrB (W "RaceError") o (chk rs ps) := by
    refine fx_rule (c := cf_check_race) (ps := sg_check_race.ps) (n := 12) (b := ir_check_race) (ds := [raceD rs ps]) ?_
    generalize ht : chk rs ps = tot
    have hX : ∀ {r i}, tot = some (r, i) → ∃ o, Xr.exn (PySem.Str.ofString "RaceError") (eF r i) = xrB (W "RaceError") o tot := fun {r i} h => ⟨[], by rw [h]; rfl⟩
    have hX' : ∀ {b : Bool} {r i}, b = false → tot = some (r, i) → ∃ o, Xr.exn (PySem.Str.ofString "RaceError") (eF r i) = xrB (W "RaceError") o tot := fun _ h => hX h
    unfold ir_check_race
    simp
    have iu : tgD (.t (.cons (.n 1) (.cons (.n 2) .nil))) (raceD rs ps) [some (raceD rs ps), none, none, none, none, none, none, none, none, none, none, none] = some [some (raceD rs ps), some (.tuple (rs.map ruD)), some (.tuple (ps.map prD)), none, none, none, none, none, none, none, none, none] := rfl
    simp [iu]
    unfold chk at ht
    refine br_chkA ht.symm (fun w1 w2 e => ?_) hX hX
    have e : tot = t1 rs (legsOf rs) ps 0 := e
    have hn : 0 < rs.length := by have := of_decide_eq_true w1; omega
    have z0 : ixL (rs.map ruD) (.int 0) = some (ruD (rs.getD 0 dru)) := ru_at (k := 0) hn
    simp [z0]
    have el : rs[0]?.getD dru = rs.getD 0 dru := rfl
    simp only [el]
    have el2 : (rs.getD 0 dru).t.length = legsOf rs := rfl
    rw [el2]
    generalize legsOf rs = legs at *
    refine for_m (gives_en (l := rs) (g := ruD) (by simp)) (fun i ρ => tot = t1 rs legs ps i ∧ ∃ x4 x5 x6, ρ = [some (raceD rs ps), some (.tuple (rs.map ruD)), some (.tuple (ps.map prD)), some (.int legs), x4, x5, x6, none, none, none, none, none]) ⟨e, none, none, none, rfl⟩ (fun i hi ρ hI => ?_) fun ρ hI => ?_
    · obtain ⟨e, x4, x5, x6, rfl⟩ := hI
      have hi' : i < rs.length := by simpa using hi
      unfold t1 at e
      rw [runC_step hi'] at e
      unfold c1 at e
      have gm : (rs.map ruD).getD i .none = ruD (rs.getD i dru) := by
        rw [getD_map hi', List.getD_eq_getElem?_getD, List.getElem?_eq_getElem hi']
        rfl
      simp only [List.getElem_range, gm]
      generalize rs.getD i dru = r at *
      unfold c1r at e
      have it : tgD (.t (.cons (.n 4) (.cons (.t (.cons (.n 5) (.cons (.n 6) .nil))) .nil))) (.tuple [.int (i : Nat), ruD r]) [some (raceD rs ps), some (.tuple (rs.map ruD)), some (.tuple (ps.map prD)), some (.int legs), x4, x5, x6, none, none, none, none, none] = some [some (raceD rs ps), some (.tuple (rs.map ruD)), some (.tuple (ps.map prD)), some (.int legs), some (.int (i : Nat)), some (.str r.w), some (.tuple (r.t.map .int)), none, none, none, none, none] := rfl
      simp [it, inn_RM]
      refine br_chk e (fun _ e => ?_) hX'
      refine br_chk3 e (fun _ _ _ e => ?_) hX hX hX
      refine Ev.of (all_m (l := r.t) (g := .int) (gives_l' (by simp)) (fun x => decide (0 ≤ x) && decide (x ≤ 9999)) rfl fun x hx => ?_) ?_
      · simp
        rw [Br_dec]
        exact ⟨fun h => by simp [h], fun h => by simp [h]⟩
      have eo : (r.t.all fun x => decide (0 ≤ x) && decide (x ≤ 9999)) = okT r.t := rfl
      rw [eo]
      simp
      exact br_chk e (fun _ e => e) hX'
    · obtain ⟨e, x4, x5, x6, rfl⟩ := hI
      unfold t1 at e
      rw [List.length_range, Nat.sub_self] at e
      have e : tot = tp rs.length legs ps := e
      unfold tp at e
      simp
      refine br_chk e (fun _ e => ?_) hX'
      have e : tot = t2 rs.length legs ps 0 := e
      refine for_m (gives_en (l := ps) (g := prD) (by simp)) (fun i ρ => tot = t2 rs.length legs ps i ∧ ∃ x4 x7 x8 x9 x10, ρ = [some (raceD rs ps), some (.tuple (rs.map ruD)), some (.tuple (ps.map prD)), some (.int legs), x4, x5, x6, x7, x8, x9, x10, none]) ⟨e, x4, none, none, none, none, rfl⟩ (fun i hi ρ hI => ?_) fun ρ hI => ?_
      · obtain ⟨e, x4, x7, x8, x9, x10, rfl⟩ := hI
        have hi' : i < ps.length := by simpa using hi
        unfold t2 at e
        rw [runC_step hi'] at e
        unfold c2 at e
        have gm : (ps.map prD).getD i .none = prD (ps.getD i dpr) := by
          rw [getD_map hi', List.getD_eq_getElem?_getD, List.getElem?_eq_getElem hi']
          rfl
        have hlk : LayS (ps.getD i dpr).k := by
          rw [List.getD_eq_getElem?_getD, List.getElem?_eq_getElem hi']
          exact hL _ (List.getElem_mem hi')
        simp only [List.getElem_range, gm]
        generalize ps.getD i dpr = q at *
        unfold c2r at e
        have it : tgD (.t (.cons (.n 4) (.cons (.t (.cons (.n 7) (.cons (.n 8) (.cons (.n 9) (.cons (.n 10) .nil))))) .nil))) (.tuple [.int (i : Nat), prD q]) [some (raceD rs ps), some (.tuple (rs.map ruD)), some (.tuple (ps.map prD)), some (.int legs), x4, x5, x6, x7, x8, x9, x10, none] = some [some (raceD rs ps), some (.tuple (rs.map ruD)), some (.tuple (ps.map prD)), some (.int legs), some (.int (i : Nat)), x5, x6, some (.str q.k), some (.int q.w), some (.int q.m), some (.int q.g), none] := rfl
        have n1 : eqD false (.str q.k) (.str (W "void")) = some (.bool (decide (q.k = W "void") != false)) := eq_strs hlk lay_void
        have n2 : innD false (.str q.k) (.tuple [.str (W "less"), .str (W "more")]) = some (.bool (decide (q.k ∈ K2) != false)) := inn_K2
        generalize decide (q.k = W "void") = b1 at *
        generalize decide (q.k ∈ K2) = b2 at *
        cases b1 <;> cases b2 <;>
        · simp [it, inn_K5, n1, n2]
          refine br_chk e (fun _ e => ?_) hX'
          refine br_chkA e (fun _ _ e => ?_) hX hX
          refine br_chkA e (fun _ _ e => ?_) hX hX
          refine br_chkA e (fun _ _ e => e) hX hX
      · obtain ⟨e, x4, x7, x8, x9, x10, rfl⟩ := hI
        unfold t2 at e
        rw [List.length_range, Nat.sub_self] at e
        have e : tot = none := e
        simp
        exact ⟨_, by rw [e]; rfl⟩
  obtain ⟨r, e, o, rfl⟩ := key
  exact ⟨o, e⟩
end Lw_k83
namespace Lw_k83
open PySem PySem.Spec PyProof.Rows L2 Vw
theorem okT_best {t : List Int} (h : 1 ≤ t.length) : ∃ a b : Int, bestG false (t.map .int) = some (.int a) ∧ bestG true (t.map .int) = some (.int b) ∧ (decide (a < 0) || decide (9999 < b)) = !okT t := by
  cases t with
  | nil => simp at h
  | cons n ns =>
    refine ⟨_, _, best_ints, best_ints, ?_⟩
    have h1 := fold_min ns n 0
    have h2 := fold_max ns n 9999
    rw [if_neg (by decide), if_pos rfl]
    unfold okT
    rw [Bool.eq_iff_iff]
    rw [Bool.or_eq_true, decide_eq_true_eq, decide_eq_true_eq, Bool.not_eq_true', ← Bool.not_eq_true, List.all_eq_true]
    constructor
    · intro h3 h4
      have a1 : 0 ≤ ns.foldl min n := h1.mpr ⟨by have := h4 n List.mem_cons_self; simp at this; omega, fun x hx => by have := h4 x (List.mem_cons_of_mem _ hx); simp at this; omega⟩
      have a2 : ns.foldl max n ≤ 9999 := h2.mpr ⟨by have := h4 n List.mem_cons_self; simp at this; omega, fun x hx => by have := h4 x (List.mem_cons_of_mem _ hx); simp at this; omega⟩
      omega
    · intro h3
      by_cases a1 : 0 ≤ ns.foldl min n
      · by_cases a2 : ns.foldl max n ≤ 9999
        · obtain ⟨b1, b2⟩ := h1.mp a1
          obtain ⟨c1, c2⟩ := h2.mp a2
          refine (h3 fun x hx => ?_).elim
          rcases List.mem_cons.mp hx with rfl | hx
          · simp; omega
          · have := b2 x hx; have := c2 x hx; simp; omega
        · omega
      · omega
theorem due_ok (rs : List Ru) (ps : List Pr) (hr : rs.length ≤ 100000) (hp : ps.length ≤ 1000) (hL : ∀ p ∈ ps, LayS p.k) : fn__law_due [raceD rs ps] = some (badD (chk rs ps), [raceD rs ps]) := by
  refine fn_by (c := cf__law_due) (ps := sg__law_due.ps) (n := 9) (b := ir__law_due) (ds := [raceD rs ps]) ?_
  generalize ht : chk rs ps = tot
  have hR : ∀ {r i}, tot = some (r, i) → PyData.tuple [.str r, .int i] = badD tot := fun {r i} h => by rw [h]; rfl
  have hR' : ∀ {b : Bool} {r i}, b = false → tot = some (r, i) → PyData.tuple [.str r, .int i] = badD tot := fun _ h => hR h
  unfold ir__law_due
  simp
  have iu : tgD (.t (.cons (.n 1) (.cons (.n 2) .nil))) (raceD rs ps) [some (raceD rs ps), none, none, none, none, none, none, none, none] = some [some (raceD rs ps), some (.tuple (rs.map ruD)), some (.tuple (ps.map prD)), none, none, none, none, none, none] := rfl
  simp [iu]
  unfold chk at ht
  refine br_chkO ht.symm (by rw [Bool.eq_iff_iff]; simp) (fun w1 e => ?_) hR hR
  rw [Bool.and_eq_true] at w1
  have e : tot = t1 rs (legsOf rs) ps 0 := e
  have hn : 0 < rs.length := by have := of_decide_eq_true w1.1; omega
  have z0 : ixL (rs.map ruD) (.int 0) = some (ruD (rs.getD 0 dru)) := ru_at (k := 0) hn
  simp [z0]
  have el : rs[0]?.getD dru = rs.getD 0 dru := rfl
  simp only [el]
  have el2 : (rs.getD 0 dru).t.length = legsOf rs := rfl
  rw [el2]
  generalize legsOf rs = legs at *
  refine for_m (gives_r1s (n := rs.length) (by omega) (by simp)) (fun i ρ => tot = t1 rs legs ps i ∧ ∃ x4, ρ = [some (raceD rs ps), some (.tuple (rs.map ruD)), some (.tuple (ps.map prD)), some (.int legs), x4, none, none, none, none]) ⟨e, none, rfl⟩ (fun i hi ρ hI => ?_) fun ρ hI => ?_
  · obtain ⟨e, x4, rfl⟩ := hI
    have hi' : i < rs.length := by simpa using hi
    unfold t1 at e
    rw [runC_step hi'] at e
    unfold c1 at e
    have gm := ru_at hi'
    simp only [List.getElem_range]
    generalize rs.getD i dru = r at *
    unfold c1r at e
    have n1 : innD true (.str r.w) (.tuple [.str (W "run"), .str (W "miss")]) = some (.bool (decide (r.w ∈ RM) != true)) := inn_RM
    simp [gm, n1]
    refine br_chkN e rfl (fun _ e => ?_) hR'
    refine br_chkO3 e (by rw [Bool.eq_iff_iff]; simp; omega) (fun b1 e => ?_) hR hR hR
    have hl1 : 1 ≤ r.t.length := by simp at b1; omega
    obtain ⟨mn, mx, m1, m2, m3⟩ := okT_best hl1
    simp [m1, m2]
    exact br_chkO e m3 (fun _ e => e) hR hR
  · obtain ⟨e, x4, rfl⟩ := hI
    unfold t1 at e
    rw [List.length_range, Nat.sub_self] at e
    have e : tot = tp rs.length legs ps := e
    unfold tp at e
    simp
    refine br_chkN e (by rw [Bool.eq_iff_iff]; simp) (fun _ e => ?_) hR'
    have e : tot = t2 rs.length legs ps 0 := e
    refine for_m (gives_r1s (n := ps.length) (by omega) (by simp)) (fun i ρ => tot = t2 rs.length legs ps i ∧ ∃ x4 x5 x6 x7 x8, ρ = [some (raceD rs ps), some (.tuple (rs.map ruD)), some (.tuple (ps.map prD)), some (.int legs), x4, x5, x6, x7, x8]) ⟨e, x4, none, none, none, none, rfl⟩ (fun i hi ρ hI => ?_) fun ρ hI => ?_
    · obtain ⟨e, x4, x5, x6, x7, x8, rfl⟩ := hI
      have hi' : i < ps.length := by simpa using hi
      unfold t2 at e
      rw [runC_step hi'] at e
      unfold c2 at e
      have gm := pr_at hi'
      have hlk : LayS (ps.getD i dpr).k := by
        rw [List.getD_eq_getElem?_getD, List.getElem?_eq_getElem hi']
        exact hL _ (List.getElem_mem hi')
      simp only [List.getElem_range]
      generalize ps.getD i dpr = q at *
      unfold c2r at e
      have it : tgD (.t (.cons (.n 5) (.cons (.n 6) (.cons (.n 7) (.cons (.n 8) .nil))))) (prD q) [some (raceD rs ps), some (.tuple (rs.map ruD)), some (.tuple (ps.map prD)), some (.int legs), some (.int (i : Nat)), x5, x6, x7, x8] = some [some (raceD rs ps), some (.tuple (rs.map ruD)), some (.tuple (ps.map prD)), some (.int legs), some (.int (i : Nat)), some (.str q.k), some (.int q.w), some (.int q.m), some (.int q.g)] := rfl
      have n1 : eqD false (.str q.k) (.str (W "void")) = some (.bool (decide (q.k = W "void") != false)) := eq_strs hlk lay_void
      have n2 : innD false (.str q.k) (.tuple [.str (W "less"), .str (W "more")]) = some (.bool (decide (q.k ∈ K2) != false)) := inn_K2
      have n3 : innD true (.str q.k) (.tuple [.str (W "back"), .str (W "out"), .str (W "less"), .str (W "more"), .str (W "void")]) = some (.bool (decide (q.k ∈ K5) != true)) := inn_K5
      generalize decide (q.k = W "void") = b1 at *
      generalize decide (q.k ∈ K2) = b2 at *
      cases b1 <;> cases b2 <;>
      · simp [gm, it, n1, n2, n3]
        refine br_chkN e rfl (fun _ e => ?_) hR'
        refine br_chkO e (by rw [Bool.eq_iff_iff]; simp; try omega) (fun _ e => ?_) hR hR
        refine br_chkO e (by rw [Bool.eq_iff_iff]; simp; try omega) (fun _ e => ?_) hR hR
        refine br_chkO e (by rw [Bool.eq_iff_iff]; simp; try omega) (fun _ e => e) hR hR
    · obtain ⟨e, x4, x5, x6, x7, x8, rfl⟩ := hI
      unfold t2 at e
      rw [List.length_range, Nat.sub_self] at e
      have e : tot = none := e
      simp
      rw [e]
      rfl
theorem told_ok (rs : List Ru) (ps : List Pr) (hr : rs.length ≤ 100000) (hp : ps.length ≤ 1000) (hL : ∀ p ∈ ps, LayS p.k) : fn__law_told [raceD rs ps] = some (badD (chk rs ps), [raceD rs ps]) := by
  refine fn_by (c := cf__law_told) (ps := sg__law_told.ps) (n := 2) (b := ir__law_told) (ds := [raceD rs ps]) ?_
  obtain ⟨o, e⟩ := check_ok rs ps hr hp hL
  unfold ir__law_told
  simp [e]
  cases chk rs ps with
  | none =>
    show PyData.none = _
    rfl
  | some b => exact ⟨rfl, _, rfl, rfl⟩
def LayC (l : List Chk) : Prop := ∀ x ∈ l, PyData.canLay0 (.str x.2.1) = true
def LayB (b : Bad) : Prop := ∀ r i, b = some (r, i) → PyData.canLay0 (.str r) = true
theorem lay_fb : ∀ {l : List Chk} {t : Bad}, LayC l → LayB t → LayB (fb2 l t)
  | [], t, _, h => h
  | (b, r, i) :: l, t, hl, h => fun r' i' e => by
    rw [fb2] at e
    split at e
    · exact lay_fb (fun x hx => hl x (List.mem_cons_of_mem _ hx)) h r' i' e
    · cases e
      exact hl _ List.mem_cons_self
theorem lay_run {c : Nat → List Chk} (hc : ∀ i, LayC (c i)) {t : Bad} (ht : LayB t) : ∀ n i, LayB (runC c t n i)
  | 0, _ => ht
  | n + 1, i => lay_fb (hc i) (lay_run hc ht n (i + 1))
theorem lay_chk (rs : List Ru) (ps : List Pr) : LayB (chk rs ps) := by
  refine lay_fb (fun x hx => ?_) (lay_run (fun i x hx => ?_) (lay_fb (fun x hx => ?_) (lay_run (fun i x hx => ?_) (fun r i e => by cases e) _ _)) _ _)
  · simp at hx
    rw [hx]
    exact (by decide +kernel : PyData.canLay0 (.str (W "runners")) = true)
  · simp [c1, c1r] at hx
    rcases hx with rfl | rfl | rfl
    · exact (by decide +kernel : PyData.canLay0 (.str (W "word")) = true)
    · exact (by decide +kernel : PyData.canLay0 (.str (W "legs")) = true)
    · exact (by decide +kernel : PyData.canLay0 (.str (W "ticks")) = true)
  · simp at hx
    rw [hx]
    exact (by decide +kernel : PyData.canLay0 (.str (W "protests")) = true)
  · simp [c2, c2r] at hx
    rcases hx with rfl | rfl | rfl | rfl
    · exact (by decide +kernel : PyData.canLay0 (.str (W "kind")) = true)
    · exact (by decide +kernel : PyData.canLay0 (.str (W "whom")) = true)
    · exact (by decide +kernel : PyData.canLay0 (.str (W "many")) = true)
    · exact (by decide +kernel : PyData.canLay0 (.str (W "group")) = true)
theorem exact_bad {b : Bad} (h : LayB b) : fn__law_exact [badD b, badD b] = some (.bool true, [badD b, badD b]) := by
  refine exact_ok ?_
  cases b with
  | none => exact Dn_none
  | some x => exact Dn_tuple (by simp) (by simp; exact Dn_str (h _ _ rfl))
end Lw_k83
namespace Lw_k83
open PySem PySem.Spec L2 Vw
def tl_law_1b_8b_2 : Ss := .nil
def tl_law_1b_8b_1 : Ss := .cons (.ife (.no (.e (.call (PySem.Str.ofString "_law_exact") (.fr (.call (PySem.Str.ofString "_law_due") (.fr (.v 3) .nil)) (.fr (.call (PySem.Str.ofString "_law_told") (.fr (.v 3) .nil)) .nil))))) (.cons (.ret (.k (.bool false))) .nil) .nil) tl_law_1b_8b_2
def tl_law_1b_8b_0 : Ss := .cons (.set 3 (.call (PySem.Str.ofString "_law_spoilt") (.io 1 (.fr (.v 0) (.fr (.v 3) .nil))))) tl_law_1b_8b_1
def tl_law_1b_7b_3 : Ss := .nil
def tl_law_1b_7b_2 : Ss := .cons (.ife (.no (.e (.call (PySem.Str.ofString "_law_exact") (.fr (.call (PySem.Str.ofString "_law_goes") (.fr (.v 4) (.fr (.v 7) .nil))) (.fr (.call (PySem.Str.ofString "legal") (.fr (.v 3) (.fr (.v 7) .nil))) .nil))))) (.cons (.ret (.k (.bool false))) .nil) .nil) tl_law_1b_7b_3
def tl_law_1b_7b_1 : Ss := .cons (.ife (.e (.cm .gt (.v 8) (.k (.int 0)))) (.cons (.set 7 (.srr false (.e (.v 7)))) .nil) .nil) tl_law_1b_7b_2
def tl_law_1b_7b_0 : Ss := .cons (.set 7 (.comp (.ar .sub (.call (PySem.Str.ofString "_law_draw") (.io 1 (.fr (.v 0) (.fr (.ar .add (.b1 .len (.e (.v 4))) (.k (.int 2))) .nil)))) (.b1 .int (.e (.eq false (.call (PySem.Str.ofString "_law_draw") (.io 1 (.fr (.v 0) (.fr (.k (.int 9)) .nil)))) (.k (.int 0)))))) (.n 9) (.r1 (.call (PySem.Str.ofString "_law_draw") (.io 1 (.fr (.v 0) (.fr (.k (.int 5)) .nil))))) .no [9])) tl_law_1b_7b_1
def tl_law_1b_4b_2 : Ss := .nil
def tl_law_1b_4b_1 : Ss := .cons (.ife (.e (.call (PySem.Str.ofString "_law_goes") (.fr (.v 4) (.fr (.v 7) .nil)))) (.cons (.app 5 (.v 7)) .nil) .nil) tl_law_1b_4b_2
def tl_law_1b_4b_0 : Ss := .cons (.set 7 (.comp (.v 9) (.n 9) (.r1 (.b1 .len (.e (.v 4)))) (.so (.e (.eq false (.ar .band (.ar .shr (.v 6) (.v 9)) (.k (.int 1))) (.k (.int 1))))) [9])) tl_law_1b_4b_1
def tl_law_1b_9 : Ss := .nil
def tl_law_1b_8 : Ss := .cons (.for (.n 8) (.r1 (.k (.int 2))) tl_law_1b_8b_0) tl_law_1b_9
def tl_law_1b_7 : Ss := .cons (.for (.n 8) (.r1 (.k (.int 4))) tl_law_1b_7b_0) tl_law_1b_8
def tl_law_1b_6 : Ss := .cons (.ife (.an (.e (.eq false (.v 2) (.k (.int 0)))) (.no (.e (.call (PySem.Str.ofString "_law_exact") (.fr (.srr false (.e (.v 5))) (.fr (.call (PySem.Str.ofString "worlds") (.fr (.v 3) .nil)) .nil)))))) (.cons (.ret (.k (.bool false))) .nil) .nil) tl_law_1b_7
def tl_law_1b_5 : Ss := .fz 5 tl_law_1b_6
def tl_law_1b_4 : Ss := .cons (.for (.n 6) (.r1 (.ar .shl (.k (.int 1)) (.b1 .len (.e (.v 4))))) tl_law_1b_4b_0) tl_law_1b_5
def tl_law_1b_3 : Ss := .cons (.set 5 (.lst .nil)) tl_law_1b_4
def tl_law_1b_2 : Ss := .cons (.set 4 (.ix (.e (.v 3)) (.k (.int 1)))) tl_law_1b_3
def tl_law_1b_1 : Ss := .cons (.ife (.e (.isn true (.call (PySem.Str.ofString "_law_told") (.fr (.v 3) .nil)))) (.cons (.ret (.k (.bool false))) .nil) .nil) tl_law_1b_2
def tl_law_1b_0 : Ss := .cons (.set 3 (.call (PySem.Str.ofString "_law_race") (.io 1 (.fr (.v 0) (.fr (.k (.int 12)) (.fr (.k (.int 8)) .nil)))))) tl_law_1b_1
def tl_law_3 : Ss := .nil
def tl_law_2 : Ss := .cons (.ret (.k (.bool true))) tl_law_3
def tl_law_1 : Ss := .cons (.for (.n 2) (.r1 (.k (.int 4))) tl_law_1b_0) tl_law_2
def tl_law_0 : Ss := .cons (.set 1 (.lst (.cons (.k (.int 0)) (.cons (.k (.int 0)) .nil)))) tl_law_1
theorem tl_law : ir_law = tl_law_0 := rfl
end Lw_k83
namespace Lw_k83
open PySem PySem.Spec PyProof.Rows L2 Vw
abbrev sc (ns : List Int) : D := .list (ns.map .int)
abbrev stt (k s : Int) : D := .list [.int k, .int s]
def okRu (legs : Nat) (r : Ru) : Prop := r.w ∈ RM ∧ r.t.length = legs ∧ ∀ x ∈ r.t, 0 ≤ x ∧ x ≤ 9999
def okPr (n legs : Nat) (p : Pr) : Prop := p.k ∈ K5 ∧ (0 ≤ p.w ∧ p.w < (bif decide (p.k = W "void") then (legs : Int) else n)) ∧ (0 ≤ p.m ∧ p.m ≤ (bif decide (p.k ∈ K2) then 9999 else 0)) ∧ 0 ≤ p.g ∧ p.g ≤ 9
def Right (rs : List Ru) (ps : List Pr) : Prop := ∃ legs : Nat, 1 ≤ legs ∧ legs ≤ 8 ∧ 1 ≤ rs.length ∧ rs.length ≤ 12 ∧ ps.length ≤ 8 ∧ (∀ r ∈ rs, okRu legs r) ∧ ∀ p ∈ ps, okPr rs.length legs p
theorem lay_K5 {x : Str} (h : x ∈ K5) : LayS x := by
  unfold K5 at h
  simp at h
  rcases h with rfl | rfl | rfl | rfl | rfl <;> (unfold LayS; decide +kernel)
theorem lay_back : LayS (W "back") := by unfold LayS; decide +kernel
theorem lay_RM {x : Str} (h : x ∈ RM) : LayS x := by
  unfold RM at h
  simp at h
  rcases h with rfl | rfl <;> (unfold LayS; decide +kernel)
theorem right_chk {rs : List Ru} {ps : List Pr} (h : Right rs ps) : chk rs ps = none := by
  obtain ⟨legs, l1, l8, r1, r12, p8, hr, hp⟩ := h
  have hat : ∀ k, k < rs.length → okRu legs (rs.getD k dru) := fun k hk => by
    rw [List.getD_eq_getElem?_getD, List.getElem?_eq_getElem hk]
    exact hr _ (List.getElem_mem hk)
  have hl : legsOf rs = legs := (hat 0 (by omega)).2.1
  unfold chk
  rw [hl, fb2_all (by simp; omega)]
  unfold t1
  rw [runC_all (n := rs.length) _ _ (by omega)]
  · unfold tp
    rw [fb2_all (by simp; omega)]
    unfold t2
    rw [runC_all (n := ps.length) _ _ (by omega)]
    intro k hk x hx
    have hq : okPr rs.length legs (ps.getD k dpr) := by
      rw [List.getD_eq_getElem?_getD, List.getElem?_eq_getElem hk]
      exact hp _ (List.getElem_mem hk)
    unfold c2 at hx
    generalize ps.getD k dpr = q at *
    obtain ⟨h1, ⟨h2, h3⟩, ⟨h4, h5⟩, h6, h7⟩ := hq
    unfold c2r at hx
    simp only [List.mem_cons, List.not_mem_nil, or_false] at hx
    rcases hx with rfl | rfl | rfl | rfl
    · exact decide_eq_true h1
    · show (_ && _) = true
      rw [decide_eq_true h2, decide_eq_true h3]; rfl
    · show (_ && _) = true
      rw [decide_eq_true h4, decide_eq_true h5]; rfl
    · show (_ && _) = true
      rw [decide_eq_true h6, decide_eq_true h7]; rfl
  · intro k hk x hx
    have hq := hat k hk
    unfold c1 at hx
    generalize rs.getD k dru = q at *
    obtain ⟨h1, h2, h3⟩ := hq
    unfold c1r at hx
    simp only [List.mem_cons, List.not_mem_nil, or_false] at hx
    rcases hx with rfl | rfl | rfl
    · exact decide_eq_true h1
    · simp
      omega
    · unfold okT
      rw [List.all_eq_true]
      intro x hx
      have := h3 x hx
      simp
      omega
theorem Right.lay {rs : List Ru} {ps : List Pr} (h : Right rs ps) : ∀ p ∈ ps, LayS p.k := by
  obtain ⟨legs, l1, l8, r1, r12, p8, hr, hp⟩ := h
  exact fun p hq => lay_K5 (hp p hq).1
theorem op_race {ns : List Int} (hl : ns.length ≤ 63) {k s : Int} {Q : D × List D → Prop} (h : ∀ rs ps k s, Right rs ps → Q (raceD rs ps, [stt k s, sc ns, .int 12, .int 8])) : Op (fn__law_race [stt k s, sc ns, .int 12, .int 8]) Q := by
  refine fn_op (c := cf__law_race) (ps := sg__law_race.ps) (n := 14) (b := ir__law_race) (ds := [stt k s, sc ns, .int 12, .int 8]) ?_
  unfold ir__law_race
  simp
  refine op_draw hl (by omega) (by omega) fun v k s v0 v1 => ?_
  simp
  refine op_pick v0 (by simp; omega) fun x hx => ?_
  have hx : ∃ w : Int, x = .int w ∧ 0 < w ∧ w ≤ 8 := by
    simp at hx
    rcases hx with rfl | rfl
    · exact ⟨3, rfl, by omega, by omega⟩
    · exact ⟨8, rfl, by omega, by omega⟩
  obtain ⟨w, rfl, w0, w1⟩ := hx
  refine op_draw hl w0 (by omega) fun a k s a0 a1 => ?_
  simp
  obtain ⟨legs, rfl⟩ : ∃ l : Nat, a = (l : Int) - 1 := ⟨(a + 1).toNat, by omega⟩
  have el : (1 : Int) + ((legs : Int) - 1) = legs := by omega
  rw [el]
  refine op_draw hl (by omega) (by omega) fun v k s v0 v1 => ?_
  simp
  refine op_pick v0 (by simp; omega) fun x hx => ?_
  have hx : ∃ w : Int, x = .int w ∧ 0 < w ∧ w ≤ 10000 := by
    simp at hx
    rcases hx with rfl | rfl | rfl
    · exact ⟨4, rfl, by omega, by omega⟩
    · exact ⟨60, rfl, by omega, by omega⟩
    · exact ⟨10000, rfl, by omega, by omega⟩
  obtain ⟨wide, rfl, wd0, wd1⟩ := hx
  try simp
  have hE : Ev cf__law_race (.ix (.e (.lst (.cons (.k (.int 1)) (.cons (.k (.int 3)) (.cons (.v 2) (.cons (.ar .add (.k (.int 1)) (.call (PySem.Str.ofString "_law_draw") (.io 0 (.fr (.v 1) (.fr (.v 2) .nil))))) .nil)))))) (.call (PySem.Str.ofString "_law_draw") (.io 0 (.fr (.v 1) (.fr (.k (.int 4)) .nil))))) [some (stt k s), some (sc ns), some (.int 12), some (.int 8), some (.int legs), some (.int wide), some (.list []), none, none, none, none, none, none, none] fun x ρ1 => ∃ (n : Nat) (k s : Int), (1 ≤ n ∧ n ≤ 12) ∧ x = .int (n : Int) ∧ ρ1 = [some (stt k s), some (sc ns), some (.int 12), some (.int 8), some (.int legs), some (.int wide), some (.list []), none, none, none, none, none, none, none] := by
    simp
    refine op_draw hl (by omega) (by omega) fun d1 k s d0 d2 => ?_
    simp
    refine op_draw hl (by omega) (by omega) fun v k s v0 v1 => ?_
    simp
    refine op_pick v0 (by simp; omega) fun x hx => ?_
    have hx : ∃ w : Nat, x = .int w ∧ 1 ≤ w ∧ w ≤ 12 := by
      simp at hx
      rcases hx with rfl | rfl | rfl | rfl
      · exact ⟨1, rfl, by omega, by omega⟩
      · exact ⟨3, rfl, by omega, by omega⟩
      · exact ⟨12, rfl, by omega, by omega⟩
      · exact ⟨(1 + d1).toNat, by congr 1; omega, by omega, by omega⟩
    obtain ⟨n, rfl, n1, n2⟩ := hx
    simp
    exact ⟨n, ⟨n1, n2⟩, rfl⟩
  obtain ⟨⟨x, ρ1⟩, e1, n, k, s, ⟨hn1, hn⟩, rfl, rfl⟩ := hE
  refine for_m (gives_r1 ⟨_, e1, rfl, rfl⟩ (by omega)) (fun i ρ => ∃ rs k s x7, (∀ r ∈ rs, okRu legs r) ∧ rs.length = i ∧ ρ = [some (stt k s), some (sc ns), some (.int 12), some (.int 8), some (.int legs), some (.int wide), some (.list (rs.map ruD)), x7, none, none, none, none, none, none]) ⟨[], k, s, none, by simp, by simp, rfl⟩ (fun i hi ρ hI => ?_) fun ρ hI => ?_
  · obtain ⟨rs, k, s, x7, h1, rfl, rfl⟩ := hI
    have hi : rs.length < n := by simpa using hi
    simp
    refine op_draw hl (by omega) (by omega) fun v k s v0 v1 => ?_
    simp
    refine op_pick v0 (by simp; omega) fun x hx => ?_
    have hx : ∃ w : Str, x = .str w ∧ w ∈ RM := by
      simp at hx
      rcases hx with rfl | rfl
      · exact ⟨W "run", rfl, by simp [RM]⟩
      · exact ⟨W "miss", rfl, by simp [RM]⟩
    obtain ⟨wd, rfl, hwd⟩ := hx
    try simp
    refine comp_I (gives_r1s (n := legs) (by omega) (by simp)) (fun d => ∃ i : Int, d = .int i ∧ 0 ≤ i ∧ i ≤ 9999) (fun ρ => ∃ k s, ρ = [some (stt k s), some (sc ns), some (.int 12), some (.int 8), some (.int legs), some (.int wide), some (.list (rs.map ruD)), some (.int (rs.length : Nat)), none, none, none, none, none, none]) ⟨k, s, rfl⟩ (by simp; omega) (fun j hj ρ hJ => ?_) fun ds ρ hdl hds hJ => ?_
    · obtain ⟨k, s, rfl⟩ := hJ
      simp
      refine op_draw hl wd0 (by omega) fun v k s v0 v1 => ?_
      simp
      omega
    · obtain ⟨k, s, rfl⟩ := hJ
      obtain ⟨l, rfl⟩ := ints_of fun x hx => (hds x hx).imp fun i h => h.1
      have hll : l.length = legs := by simpa using hdl
      simp
      refine ⟨by omega, rs ++ [⟨wd, l⟩], ?_, by simp, by simp [ruD]⟩
      intro r hr
      rcases List.mem_append.mp hr with hr | hr
      · exact h1 r hr
      · rw [List.mem_singleton.mp hr]
        refine ⟨hwd, hll, fun x hx => ?_⟩
        obtain ⟨i, e, i0, i1⟩ := hds (.int x) (List.mem_map.mpr ⟨x, hx, rfl⟩)
        cases e
        exact ⟨i0, i1⟩
  · obtain ⟨rs, k, s, x7, hr, hrl, rfl⟩ := hI
    have hrl : rs.length = n := by simpa using hrl
    subst hrl
    simp
    have hE : Ev cf__law_race (.ix (.e (.lst (.cons (.k (.int 0)) (.cons (.k (.int 2)) (.cons (.v 3) (.cons (.call (PySem.Str.ofString "_law_draw") (.io 0 (.fr (.v 1) (.fr (.ar .add (.v 3) (.k (.int 1))) .nil)))) .nil)))))) (.call (PySem.Str.ofString "_law_draw") (.io 0 (.fr (.v 1) (.fr (.k (.int 4)) .nil))))) [some (stt k s), some (sc ns), some (.int 12), some (.int 8), some (.int legs), some (.int wide), some (.list (rs.map ruD)), x7, some (.list []), none, none, none, none, none] fun x ρ1 => ∃ (n : Nat) (k s : Int), (n ≤ 8) ∧ x = .int (n : Int) ∧ ρ1 = [some (stt k s), some (sc ns), some (.int 12), some (.int 8), some (.int legs), some (.int wide), some (.list (rs.map ruD)), x7, some (.list []), none, none, none, none, none] := by
      simp
      refine op_draw hl (by omega) (by omega) fun d1 k s d0 d2 => ?_
      simp
      refine op_draw hl (by omega) (by omega) fun v k s v0 v1 => ?_
      simp
      refine op_pick v0 (by simp; omega) fun x hx => ?_
      have hx : ∃ w : Nat, x = .int w ∧ w ≤ 8 := by
        simp at hx
        rcases hx with rfl | rfl | rfl | rfl
        · exact ⟨0, rfl, by omega⟩
        · exact ⟨2, rfl, by omega⟩
        · exact ⟨8, rfl, by omega⟩
        · exact ⟨d1.toNat, by congr 1; omega, by omega⟩
      obtain ⟨n, rfl, n2⟩ := hx
      simp
      exact ⟨n, n2, rfl⟩
    obtain ⟨⟨x, ρ1⟩, e1, m, k, s, hm, rfl, rfl⟩ := hE
    refine for_m (gives_r1 ⟨_, e1, rfl, rfl⟩ (by omega)) (fun i ρ => ∃ ps k s x7 x9 x10 x11 x12 x13, (∀ p ∈ ps, okPr rs.length legs p) ∧ ps.length = i ∧ ρ = [some (stt k s), some (sc ns), some (.int 12), some (.int 8), some (.int legs), some (.int wide), some (.list (rs.map ruD)), x7, some (.list (ps.map prD)), x9, x10, x11, x12, x13]) ⟨[], k, s, x7, none, none, none, none, none, by simp, by simp, rfl⟩ (fun i hi ρ hI => ?_) fun ρ hI => ?_
    · obtain ⟨ps, k, s, x7, x9, x10, x11, x12, x13, h1, rfl, rfl⟩ := hI
      have hi : ps.length < m := by simpa using hi
      simp
      refine op_draw hl (by omega) (by omega) fun v k s v0 v1 => ?_
      simp
      refine op_pick v0 (by simp; omega) fun x hx => ?_
      have hx : ∃ w : Str, x = .str w ∧ w ∈ K5 := by
        simp at hx
        rcases hx with rfl | rfl | rfl | rfl | rfl
        · exact ⟨W "back", rfl, by simp [K5]⟩
        · exact ⟨W "out", rfl, by simp [K5]⟩
        · exact ⟨W "less", rfl, by simp [K5]⟩
        · exact ⟨W "more", rfl, by simp [K5]⟩
        · exact ⟨W "void", rfl, by simp [K5]⟩
      obtain ⟨kd, rfl, hkd⟩ := hx
      try simp
      have lk := lay_K5 hkd
      have n1 : eqD false (.str kd) (.str (W "void")) = some (.bool (decide (kd = W "void"))) := by rw [eq_strs lk lay_void]; simp
      have n2 : eqD false (.str kd) (.str (W "back")) = some (.bool (decide (kd = W "back"))) := by rw [eq_strs lk lay_back]; simp
      have n3 : innD false (.str kd) (.tuple [.str (W "less"), .str (W "more")]) = some (.bool (decide (kd ∈ K2))) := by rw [inn_K2]; simp
      have bk : decide (kd = W "back") = true → decide (kd = W "void") = false := fun h => by
        rw [of_decide_eq_true h]
        exact decide_eq_false (by decide +kernel)
      have fin : ∀ (whom some_ g : Int), (0 ≤ whom ∧ whom < (bif decide (kd = W "void") then (legs : Int) else rs.length)) → (0 ≤ some_ ∧ some_ ≤ (bif decide (kd ∈ K2) then 9999 else 0)) → 0 ≤ g ∧ g ≤ 9 → ∀ p ∈ ps ++ [⟨kd, whom, some_, g⟩], okPr rs.length legs p := fun whom some_ g q1 q2 q3 p hp => by
        rcases List.mem_append.mp hp with hp | hp
        · exact h1 p hp
        · rw [List.mem_singleton.mp hp]
          exact ⟨hkd, q1, q2, q3⟩
      generalize decide (kd = W "void") = b1 at *
      generalize decide (kd = W "back") = b2 at *
      generalize decide (kd ∈ K2) = b3 at *
      have hLW : 0 < (legs : Int) * wide ∧ (legs : Int) * wide ≤ 80000 := by
        constructor
        · exact Int.mul_pos (by omega) (by omega)
        · calc (legs : Int) * wide ≤ 8 * 10000 := Int.mul_le_mul (by omega) (by omega) (by omega) (by omega)
            _ = 80000 := rfl
      generalize hW : (legs : Int) * wide = lw at *
      cases b1
      · simp [n1]
        refine op_draw hl (by omega) (by omega) fun whom k s q0 q1 => ?_
        cases b2
        · simp [n2, hW]
          refine ⟨by omega, ?_⟩
          refine op_draw hl (by split <;> omega) (by split <;> omega) fun some_ k s s0 s1 => ?_
          have s1 : some_ < 9999 := by split at s1 <;> omega
          simp [n3]
          cases b3
          · simp
            refine op_draw hl (by omega) (by omega) fun gd k s g0 g1 => ?_
            simp
            refine op_draw hl (by omega) (by omega) fun gi k s g2 g3 => ?_
            simp
            refine op_pick g2 (by simp; omega) fun x hx => ?_
            have hx : ∃ g : Int, x = .int g ∧ 0 ≤ g ∧ g ≤ 9 := by
              simp at hx
              rcases hx with rfl | rfl | rfl
              · exact ⟨_, rfl, by omega, by omega⟩
              · exact ⟨_, rfl, by omega, by omega⟩
              · exact ⟨_, rfl, by omega, by omega⟩
            obtain ⟨g, rfl, g4, g5⟩ := hx
            try simp
            exact ⟨by omega, ps ++ [⟨kd, whom, 0, g⟩], fin _ _ _ ⟨q0, q1⟩ ⟨by decide, by decide⟩ ⟨g4, g5⟩, by simp, by simp [prD]⟩
          · simp
            refine op_draw hl (by omega) (by omega) fun gd k s g0 g1 => ?_
            simp
            refine op_draw hl (by omega) (by omega) fun gi k s g2 g3 => ?_
            simp
            refine op_pick g2 (by simp; omega) fun x hx => ?_
            have hx : ∃ g : Int, x = .int g ∧ 0 ≤ g ∧ g ≤ 9 := by
              simp at hx
              rcases hx with rfl | rfl | rfl
              · exact ⟨_, rfl, by omega, by omega⟩
              · exact ⟨_, rfl, by omega, by omega⟩
              · exact ⟨_, rfl, by omega, by omega⟩
            obtain ⟨g, rfl, g4, g5⟩ := hx
            try simp
            exact ⟨by omega, ps ++ [⟨kd, whom, some_, g⟩], fin _ _ _ ⟨q0, q1⟩ ⟨s0, by show some_ ≤ 9999; omega⟩ ⟨g4, g5⟩, by simp, by simp [prD]⟩
        · have rix : ∀ j, j < rs.length → ixL (rs.map ruD) (.int (j : Int)) = some (ruD (rs.getD j dru)) := fun j hj => ru_at hj
          simp [n2, hW]
          refine Ev.of (comp_m (l := List.range rs.length) (gives_r1s (n := rs.length) (by omega) (by simp)) (fun j => decide ((rs.getD j dru).w = W "miss")) (fun j => .int (j : Nat)) rfl (by simp; omega) fun j hj => ?_) ?_
          · have hj := List.mem_range.mp hj
            have hw : (rs.getD j dru).w ∈ RM := by
              rw [List.getD_eq_getElem?_getD, List.getElem?_eq_getElem hj]
              exact (hr _ (List.getElem_mem hj)).1
            have r1 := rix j hj
            generalize rs.getD j dru = r at *
            have n4 : eqD false (.str r.w) (.str (W "miss")) = some (.bool (decide (r.w = W "miss"))) := by rw [eq_strs (lay_RM hw) (lay_RM (by simp [RM]))]; simp
            generalize decide (r.w = W "miss") = b4 at *
            cases b4 <;> simp [r1, n4]
          · have hfl := List.length_filter_le (fun j => decide ((rs.getD j dru).w = W "miss")) (List.range rs.length)
            have hfm : ∀ x ∈ (List.range rs.length).filter (fun j => decide ((rs.getD j dru).w = W "miss")), x < rs.length := fun x hx => List.mem_range.mp (List.mem_filter.mp hx).1
            generalize (List.range rs.length).filter (fun j => decide ((rs.getD j dru).w = W "miss")) = ms at *
            simp at hfl
            simp [hW]
            refine ⟨by omega, ?_⟩
            refine op_draw hl (by omega) (by omega) fun v k s v0 v1 => ?_
            simp
            refine op_pick v0 (by simp; omega) fun x hx => ?_
            have hx : ∃ w : Int, x = .int w ∧ 0 ≤ w ∧ w < rs.length := by
              simp at hx
              rcases hx with ⟨j, hj, rfl⟩ | rfl
              · exact ⟨_, rfl, by omega, by have := hfm j hj; omega⟩
              · exact ⟨_, rfl, q0, by simpa using q1⟩
            obtain ⟨whom, rfl, q0, q1⟩ := hx
            try simp [hW]
            refine ⟨by omega, ?_⟩
            refine op_draw hl (by split <;> omega) (by split <;> omega) fun some_ k s s0 s1 => ?_
            have s1 : some_ < 9999 := by split at s1 <;> omega
            simp [n3]
            cases b3
            · simp
              refine op_draw hl (by omega) (by omega) fun gd k s g0 g1 => ?_
              simp
              refine op_draw hl (by omega) (by omega) fun gi k s g2 g3 => ?_
              simp
              refine op_pick g2 (by simp; omega) fun x hx => ?_
              have hx : ∃ g : Int, x = .int g ∧ 0 ≤ g ∧ g ≤ 9 := by
                simp at hx
                rcases hx with rfl | rfl | rfl
                · exact ⟨_, rfl, by omega, by omega⟩
                · exact ⟨_, rfl, by omega, by omega⟩
                · exact ⟨_, rfl, by omega, by omega⟩
              obtain ⟨g, rfl, g4, g5⟩ := hx
              try simp
              exact ⟨by omega, ps ++ [⟨kd, whom, 0, g⟩], fin _ _ _ ⟨q0, q1⟩ ⟨by decide, by decide⟩ ⟨g4, g5⟩, by simp, by simp [prD]⟩
            · simp
              refine op_draw hl (by omega) (by omega) fun gd k s g0 g1 => ?_
              simp
              refine op_draw hl (by omega) (by omega) fun gi k s g2 g3 => ?_
              simp
              refine op_pick g2 (by simp; omega) fun x hx => ?_
              have hx : ∃ g : Int, x = .int g ∧ 0 ≤ g ∧ g ≤ 9 := by
                simp at hx
                rcases hx with rfl | rfl | rfl
                · exact ⟨_, rfl, by omega, by omega⟩
                · exact ⟨_, rfl, by omega, by omega⟩
                · exact ⟨_, rfl, by omega, by omega⟩
              obtain ⟨g, rfl, g4, g5⟩ := hx
              try simp
              exact ⟨by omega, ps ++ [⟨kd, whom, some_, g⟩], fin _ _ _ ⟨q0, q1⟩ ⟨s0, by show some_ ≤ 9999; omega⟩ ⟨g4, g5⟩, by simp, by simp [prD]⟩
      · have b2f : b2 = false := by
          cases b2
          · rfl
          · exact absurd (bk rfl) (by decide)
        subst b2f
        simp [n1]
        refine op_draw hl (by omega) (by omega) fun whom k s q0 q1 => ?_
        simp [n2, hW]
        refine ⟨by omega, ?_⟩
        refine op_draw hl (by split <;> omega) (by split <;> omega) fun some_ k s s0 s1 => ?_
        have s1 : some_ < 9999 := by split at s1 <;> omega
        simp [n3]
        cases b3
        · simp
          refine op_draw hl (by omega) (by omega) fun gd k s g0 g1 => ?_
          simp
          refine op_draw hl (by omega) (by omega) fun gi k s g2 g3 => ?_
          simp
          refine op_pick g2 (by simp; omega) fun x hx => ?_
          have hx : ∃ g : Int, x = .int g ∧ 0 ≤ g ∧ g ≤ 9 := by
            simp at hx
            rcases hx with rfl | rfl | rfl
            · exact ⟨_, rfl, by omega, by omega⟩
            · exact ⟨_, rfl, by omega, by omega⟩
            · exact ⟨_, rfl, by omega, by omega⟩
          obtain ⟨g, rfl, g4, g5⟩ := hx
          try simp
          exact ⟨by omega, ps ++ [⟨kd, whom, 0, g⟩], fin _ _ _ ⟨q0, q1⟩ ⟨by decide, by decide⟩ ⟨g4, g5⟩, by simp, by simp [prD]⟩
        · simp
          refine op_draw hl (by omega) (by omega) fun gd k s g0 g1 => ?_
          simp
          refine op_draw hl (by omega) (by omega) fun gi k s g2 g3 => ?_
          simp
          refine op_pick g2 (by simp; omega) fun x hx => ?_
          have hx : ∃ g : Int, x = .int g ∧ 0 ≤ g ∧ g ≤ 9 := by
            simp at hx
            rcases hx with rfl | rfl | rfl
            · exact ⟨_, rfl, by omega, by omega⟩
            · exact ⟨_, rfl, by omega, by omega⟩
            · exact ⟨_, rfl, by omega, by omega⟩
          obtain ⟨g, rfl, g4, g5⟩ := hx
          try simp
          exact ⟨by omega, ps ++ [⟨kd, whom, some_, g⟩], fin _ _ _ ⟨q0, q1⟩ ⟨s0, by show some_ ≤ 9999; omega⟩ ⟨g4, g5⟩, by simp, by simp [prD]⟩
    · obtain ⟨ps, k, s, x7, x9, x10, x11, x12, x13, h1, h2, rfl⟩ := hI
      have h2 : ps.length = m := by simpa using h2
      simp
      exact h rs ps k s ⟨legs, by omega, by omega, hn1, hn, by omega, hr, h1⟩
end Lw_k83
namespace Lw_k83
open PySem PySem.Spec PyProof.Rows L2 Vw
def ruL (r : Ru) : D := .list [.str r.w, .tuple (r.t.map .int)]
def prL (p : Pr) : D := .list [.str p.k, .int p.w, .int p.m, .int p.g]
theorem repN_map {α : Type} (g : α → D) (n : Nat) (l : List α) : repN n (l.map g) = ((List.replicate n l).flatten).map g := by
  unfold repN
  rw [List.map_flatten, List.map_replicate]
theorem cut_map {α : Type} (g : α → D) (l : List α) (lo hi : Option Int) : ∃ l' : List α, Vw.cutD (l.map g) lo hi = l'.map g ∧ l'.length ≤ l.length := by
  unfold Vw.cutD
  rw [← List.map_drop, ← List.map_take]
  refine ⟨_, rfl, ?_⟩
  rw [List.length_take, List.length_drop]
  omega
theorem lrep_d {l : List D} {k : Int} : lrepD (.list l) (.int k) = if -(2 ^ 63) ≤ k ∧ k < 2 ^ 63 ∧ lenOk (l.length * k.toNat) = true then some (.list (repN k.toNat l)) else none := rfl
theorem lrep_len {l : List D} {n : Nat} (h : l.length ≤ 100000) (hn : n ≤ 100) : lrepD (.list l) (.int (n : Int)) = some (.list (repN n l)) := by
  have hm : l.length * n ≤ 100000 * 100 := Nat.mul_le_mul h hn
  have e : (if -(2 ^ 63) ≤ (n : Int) ∧ (n : Int) < 2 ^ 63 ∧ lenOk (l.length * (n : Int).toNat) = true then some (PyData.list (repN (n : Int).toNat l)) else none) = some (PyData.list (repN (n : Int).toNat l)) := if_pos ⟨by omega, by omega, lenOkI.mpr (by rw [Int.toNat_natCast]; omega)⟩
  rw [lrep_d, e, Int.toNat_natCast]
def Tl : Ss := .cons (.ret (.tup (.cons (.b1 .tup (.e (.comp (.b1 .tup (.e (.v 8))) (.n 8) (.o (.e (.v 3))) .no [8]))) (.cons (.b1 .tup (.e (.comp (.b1 .tup (.e (.v 8))) (.n 8) (.o (.e (.v 4))) .no [8]))) .nil)))) .nil
theorem sp_tail {rs : List Ru} {ps : List Pr} {x0 x1 x2 x5 x6 x7 x8 : Option D} {K : Po} (hr : rs.length ≤ 100000) (hp : ps.length ≤ 100000) (h : K.R (raceD rs ps) [x0, x1, x2, some (.list (rs.map ruL)), some (.list (ps.map prL)), x5, x6, x7, none]) : Wp cf__law_spoilt Tl [x0, x1, x2, some (.list (rs.map ruL)), some (.list (ps.map prL)), x5, x6, x7, x8] K := by
  unfold Tl
  simp
  refine Ev.of (comp_y (l := rs) (g := ruL) (gives_l' (by simp)) ruD rfl (by omega) fun r hr => ?_) ?_
  · unfold ruL
    simp [ruD]
  simp
  refine Ev.of (comp_y (l := ps) (g := prL) (gives_l' (by simp)) prD rfl (by omega) fun r hr => ?_) ?_
  · unfold prL
    simp [prD]
  simp
  exact h
structure Ok (N M T : Nat) (rs : List Ru) (ps : List Pr) : Prop where
  n : rs.length ≤ N
  m : ps.length ≤ M
  t : ∀ r ∈ rs, r.t.length ≤ T
  l : ∀ p ∈ ps, LayS p.k
theorem op_spoilt {ns : List Int} (hl : ns.length ≤ 63) {k s : Int} {N M T : Nat} (hN : N ≤ 5000) (hM : M ≤ 500) (hT : T ≤ 500) {rs : List Ru} {ps : List Pr} (ok : Ok N M T rs ps) {Q : D × List D → Prop} (h : ∀ rs' ps' k s, Ok (N * 13) (M + 9) (T + 9) rs' ps' → Q (raceD rs' ps', [stt k s, sc ns, raceD rs ps])) : Op (fn__law_spoilt [stt k s, sc ns, raceD rs ps]) Q := by
  refine fn_op (c := cf__law_spoilt) (ps := sg__law_spoilt.ps) (n := 9) (b := ir__law_spoilt) (ds := [stt k s, sc ns, raceD rs ps]) ?_
  obtain ⟨on, om, ot, ol⟩ := ok
  have tl : ∀ {rs : List Ru} {ps : List Pr} {x0 x1 x2 x5 x6 x7 x8 : Option D} {K : Po} (hr : rs.length ≤ 100000) (hp : ps.length ≤ 100000) (h : K.R (raceD rs ps) [x0, x1, x2, some (.list (rs.map ruL)), some (.list (ps.map prL)), x5, x6, x7, none]), Wp cf__law_spoilt Tl [x0, x1, x2, some (.list (rs.map ruL)), some (.list (ps.map prL)), x5, x6, x7, x8] K := sp_tail
  have eT : Ss.cons (.ret (.tup (.cons (.b1 .tup (.e (.comp (.b1 .tup (.e (.v 8))) (.n 8) (.o (.e (.v 3))) .no [8]))) (.cons (.b1 .tup (.e (.comp (.b1 .tup (.e (.v 8))) (.n 8) (.o (.e (.v 4))) .no [8]))) .nil)))) .nil = Tl := rfl
  unfold ir__law_spoilt
  rw [eT]
  generalize Tl = TT at *
  have i0 : ixD (raceD rs ps) (.int 0) = some (.tuple (rs.map ruD)) := rfl
  have i1 : ixD (raceD rs ps) (.int 1) = some (.tuple (ps.map prD)) := rfl
  simp [i0, i1]
  refine Ev.of (comp_y (l := rs) (g := ruD) (gives_l' (by simp [i0])) ruL rfl (by omega) fun r hr => ?_) ?_
  · unfold ruL
    simp [ruD]
  simp
  refine Ev.of (comp_y (l := ps) (g := prD) (gives_l' (by simp [i1])) prL rfl (by omega) fun r hr => ?_) ?_
  · unfold prL
    simp [prD]
  simp
  refine op_draw hl (by omega) (by omega) fun kd k s q0 q1 => ?_
  simp
  have c0 : ∀ {p q : Prop}, p → (rs ≠ [] → q) → Br (decide (kd = 0)) p (Br rs.isEmpty p q) := fun h1 h2 => by
    rw [Br_dec]
    refine ⟨fun h => h1, fun _ => ?_⟩
    cases hz : rs.isEmpty with
    | true => exact Br_true.mpr h1
    | false => exact Br_false.mpr (h2 fun e => by rw [e] at hz; simp at hz)
  have rl : ∀ n (hn : n < rs.length), ixL (rs.map ruL) (.int (n : Int)) = some (ruL rs[n]) := fun n hn => ixL_at (by rw [List.getElem?_map, List.getElem?_eq_getElem hn]; rfl)
  have rx : ∀ n (hn : n < rs.length), (rs.map ruL)[n]? = some (ruL rs[n]) := fun n hn => by rw [List.getElem?_map, List.getElem?_eq_getElem hn]; rfl
  have u1 : ∀ r : Ru, ixD (ruL r) (.int 1) = some (.tuple (r.t.map .int)) := fun r => rfl
  have ul : ∀ r : Ru, lD (ruL r) = some [.str r.w, .tuple (r.t.map .int)] := fun r => rfl
  have us : ∀ n r, (rs.map ruL).set n (.list [.str r.w, .tuple (r.t.map .int)]) = (rs.set n r).map ruL := fun n r => by rw [List.map_set]; rfl
  have oks : ∀ n r, r.t.length ≤ T + 9 → Ok (N * 13) (M + 9) (T + 9) (rs.set n r) ps := fun n r hr => ⟨by rw [List.length_set]; omega, by omega, fun x hx => by
    rcases List.mem_or_eq_of_mem_set hx with hx | rfl
    · have := ot x hx; omega
    · exact hr, ol⟩
  have x20 : ixN 2 0 = some 0 := rfl
  have x21 : ixN 2 1 = some 1 := rfl
  have t9 : trepD (.tuple [.int 1]) (.int 9) = some (.tuple ((List.replicate 9 (1 : Int)).map .int)) := rfl
  have ct : ∀ (t : List Int) lo hi, t.length ≤ T → ∃ t' : List Int, Vw.cutD (t.map .int) lo hi = t'.map .int ∧ t'.length ≤ T := fun t lo hi ht => by
    obtain ⟨t', e, hl⟩ := cut_map PyData.int t lo hi
    exact ⟨t', e, by omega⟩
  refine c0 ?_ fun hne => ?_
  · obtain ⟨l13, r13, g13, m13⟩ : ∃ l : List Ru, lrepD (.list (rs.map ruL)) (.int 13) = some (.list (l.map ruL)) ∧ l.length ≤ N * 13 ∧ ∀ r ∈ l, r ∈ rs := ⟨(List.replicate 13 rs).flatten, by rw [← repN_map]; exact lrep_len (n := 13) (by simp; omega) (by omega), by simp; omega, by simp⟩
    obtain ⟨l1, c1, g1, m1⟩ : ∃ l : List Ru, Vw.cutD (rs.map ruL) none (some 1) = l.map ruL ∧ l.length ≤ N * 13 ∧ ∀ r ∈ l, r ∈ rs := ⟨rs.take 1, by rw [List.map_take]; exact cut_to _ 1, by simp; omega, fun r hr => List.mem_of_mem_take hr⟩
    simp only [r13, c1, Op_some]
    refine op_draw hl (by omega) (by omega) fun v k s v0 v1 => ?_
    simp
    refine op_pick v0 (by simp; omega) fun x hx => ?_
    have hx : ∃ rs' : List Ru, x = .list (rs'.map ruL) ∧ rs'.length ≤ N * 13 ∧ ∀ r ∈ rs', r ∈ rs := by
      simp only [List.mem_cons, List.not_mem_nil, or_false] at hx
      rcases hx with rfl | rfl | rfl
      · exact ⟨[], rfl, by simp, by simp⟩
      · exact ⟨_, rfl, g13, m13⟩
      · exact ⟨_, rfl, g1, m1⟩
    obtain ⟨rs', rfl, g1, g2⟩ := hx
    exact tl (by omega) (by omega) ⟨_, rfl, h _ _ _ _ ⟨g1, by omega, fun r hr => by have := ot r (g2 r hr); omega, ol⟩⟩
  have hpos : 0 < rs.length := List.length_pos_iff.mpr hne
  rw [Br_dec]
  refine ⟨fun _ => ?_, fun _ => ?_⟩
  · refine op_draw hl (by omega) (by omega) fun v k s v0 v1 => ?_
    simp
    refine op_pick v0 (by simp; omega) fun x hx => ?_
    have hx : ∃ w : Str, x = .str w := by
      simp at hx
      rcases hx with rfl | rfl | rfl <;> exact ⟨_, rfl⟩
    obtain ⟨w, rfl⟩ := hx
    try simp
    refine op_draw hl (by omega) (by omega) fun v k s v0 v1 => ?_
    obtain ⟨n, rfl⟩ : ∃ n : Nat, v = n := ⟨v.toNat, by omega⟩
    have hn : n < rs.length := by omega
    simp only [rx n hn, ul, Op_some]
    simp [hn, rx n hn, ul, x20]
    rw [us n ⟨w, rs[n].t⟩]
    exact tl (by simp; omega) (by omega) ⟨_, rfl, h _ _ _ _ (oks _ _ (by have := ot rs[n] (List.getElem_mem hn); show rs[n].t.length ≤ T + 9; omega))⟩
  rw [Br_dec]
  refine ⟨fun _ => ?_, fun _ => ?_⟩
  · refine op_draw hl (by omega) (by omega) fun v k s v0 v1 => ?_
    obtain ⟨n, rfl⟩ : ∃ n : Nat, v = n := ⟨v.toNat, by omega⟩
    have hn : n < rs.length := by omega
    have htl := ot rs[n] (List.getElem_mem hn)
    obtain ⟨t1, e1, ht1⟩ := ct rs[n].t (some 1) none htl
    simp [rl n hn, u1, t9, e1]
    refine ⟨by omega, ?_⟩
    refine op_draw hl (by omega) (by omega) fun v k s v0 v1 => ?_
    simp
    refine op_pick v0 (by simp; omega) fun x hx => ?_
    have hx : ∃ t : List Int, x = .tuple (t.map .int) ∧ t.length ≤ T + 9 := by
      simp only [List.mem_cons, List.not_mem_nil, or_false] at hx
      rcases hx with rfl | rfl | rfl | rfl
      · exact ⟨[], rfl, by simp⟩
      · exact ⟨rs[n].t ++ [1], by simp, by simp; omega⟩
      · exact ⟨List.replicate 9 1, rfl, by simp⟩
      · exact ⟨t1, rfl, by omega⟩
    obtain ⟨t, rfl, ht⟩ := hx
    simp [hn, rx n hn, ul, x21]
    rw [us n ⟨rs[n].w, t⟩]
    exact tl (by simp; omega) (by omega) ⟨_, rfl, h _ _ _ _ (oks _ _ ht)⟩
  rw [Br_dec]
  refine ⟨fun _ => ?_, fun _ => ?_⟩
  · refine op_draw hl (by omega) (by omega) fun v k s v0 v1 => ?_
    obtain ⟨n, rfl⟩ : ∃ n : Nat, v = n := ⟨v.toNat, by omega⟩
    have hn : n < rs.length := by omega
    have htl := ot rs[n] (List.getElem_mem hn)
    obtain ⟨t1, e1, ht1⟩ := ct rs[n].t none (some ((rs[n].t.length : Int) - 1)) htl
    simp [rl n hn, u1, e1]
    refine op_draw hl (by omega) (by omega) fun v k s v0 v1 => ?_
    simp
    refine op_pick v0 (by simp; omega) fun x hx => ?_
    have hx : ∃ x' : Int, x = .int x' := by
      simp only [List.mem_cons, List.not_mem_nil, or_false] at hx
      rcases hx with rfl | rfl | rfl <;> exact ⟨_, rfl⟩
    obtain ⟨x', rfl⟩ := hx
    simp [hn, rx n hn, ul, x21]
    refine ⟨by omega, ?_⟩
    have e2 : t1.map PyData.int ++ [.int x'] = (t1 ++ [x']).map .int := by simp
    rw [e2, us n ⟨rs[n].w, t1 ++ [x']⟩]
    exact tl (by simp; omega) (by omega) ⟨_, rfl, h _ _ _ _ (oks _ _ (by simp; omega))⟩
  rw [Br_dec]
  refine ⟨fun _ => ?_, fun _ => ?_⟩
  · refine op_draw hl (by omega) (by omega) fun v k s v0 v1 => ?_
    simp
    refine op_pick v0 (by simp; omega) fun x hx => ?_
    have hx : ∃ n : Nat, x = .int n ∧ n ≤ 9 := by
      simp only [List.mem_cons, List.not_mem_nil, or_false] at hx
      rcases hx with rfl | rfl | rfl
      · exact ⟨1, rfl, by omega⟩
      · exact ⟨8, rfl, by omega⟩
      · exact ⟨9, rfl, by omega⟩
    obtain ⟨n, rfl, hn⟩ := hx
    have r1 : lrepD (.list [.list [.str (W "out"), .int 0, .int 0, .int 0]]) (.int (n : Int)) = some (.list ((List.replicate n (⟨W "out", 0, 0, 0⟩ : Pr)).map prL)) := by
      rw [lrep1 (by omega), List.map_replicate]
      congr 2
      rw [List.eq_replicate_iff]
      simp
      exact fun _ _ => rfl
    simp [r1]
    refine ⟨by omega, ?_⟩
    have e2 : ps.map prL ++ List.replicate n (prL ⟨W "out", 0, 0, 0⟩) = (ps ++ List.replicate n (⟨W "out", 0, 0, 0⟩ : Pr)).map prL := by simp
    rw [e2]
    exact tl (by omega) (by simp; omega) ⟨_, rfl, h _ _ _ _ ⟨by omega, by simp; omega, fun r hr => by have := ot r hr; omega, fun p hp => by
      rcases List.mem_append.mp hp with hp | hp
      · exact ol p hp
      · rw [(List.mem_replicate.mp hp).2]
        exact lay_K5 (by simp [K5])⟩⟩
  have px : ∀ n (hn : n < ps.length), (ps.map prL)[n]? = some (prL ps[n]) := fun n hn => by rw [List.getElem?_map, List.getElem?_eq_getElem hn]; rfl
  have pl : ∀ r : Pr, lD (prL r) = some [.str r.k, .int r.w, .int r.m, .int r.g] := fun r => rfl
  have pu : ∀ n (r : Pr), (ps.map prL).set n (.list [.str r.k, .int r.w, .int r.m, .int r.g]) = (ps.set n r).map prL := fun n r => by rw [List.map_set]; rfl
  have okp : ∀ n (r : Pr), LayS r.k → Ok (N * 13) (M + 9) (T + 9) rs (ps.set n r) := fun n r hr => ⟨by omega, by rw [List.length_set]; omega, fun x hx => by have := ot x hx; omega, fun x hx => by
    rcases List.mem_or_eq_of_mem_set hx with hx | rfl
    · exact ol x hx
    · exact hr⟩
  cases hz : ps.isEmpty with
  | true =>
    simp
    exact tl (by omega) (by omega) ⟨_, rfl, h _ _ _ _ ⟨by omega, by omega, fun x hx => by have := ot x hx; omega, ol⟩⟩
  | false =>
  have hpp : 0 < ps.length := List.length_pos_iff.mpr fun e => by rw [e] at hz; simp at hz
  simp
  refine op_draw hl (by omega) (by omega) fun v k s v0 v1 => ?_
  obtain ⟨n, rfl⟩ : ∃ n : Nat, v = n := ⟨v.toNat, by omega⟩
  have hn : n < ps.length := by omega
  simp
  refine op_draw hl (by omega) (by omega) fun pc k s v0 v1 => ?_
  have hpc : pc = 0 ∨ pc = 1 ∨ pc = 2 ∨ pc = 3 := by omega
  rcases hpc with rfl | rfl | rfl | rfl
  · have p0 : ixL [PyData.list [.str (W "in"), .str (W "void"), .str (W "less")], .list [.int (-1), .int 12, .int 8], .list [.int (-1), .int 10000, .int 1], .list [.int (-1), .int 10, .int 9]] (.int 0) = some (.list [.str (W "in"), .str (W "void"), .str (W "less")]) := rfl
    simp [p0]
    refine op_draw hl (by omega) (by omega) fun v k s v0 v1 => ?_
    simp
    refine op_pick v0 (by simp; omega) fun x hx => ?_
    have hx : ∃ w : Str, x = .str w ∧ LayS w := by
      simp only [List.mem_cons, List.not_mem_nil, or_false] at hx
      rcases hx with rfl | rfl | rfl
      · exact ⟨_, rfl, by unfold LayS; decide +kernel⟩
      · exact ⟨_, rfl, by unfold LayS; decide +kernel⟩
      · exact ⟨_, rfl, by unfold LayS; decide +kernel⟩
    obtain ⟨w, rfl, hw⟩ := hx
    have y0 : ixN 4 0 = some 0 := rfl
    simp [hn, px n hn, pl, y0]
    rw [pu n ⟨w, ps[n].w, ps[n].m, ps[n].g⟩]
    exact tl (by omega) (by simp; omega) ⟨_, rfl, h _ _ _ _ (okp _ _ hw)⟩
  · have p1 : ixL [PyData.list [.str (W "in"), .str (W "void"), .str (W "less")], .list [.int (-1), .int 12, .int 8], .list [.int (-1), .int 10000, .int 1], .list [.int (-1), .int 10, .int 9]] (.int 1) = some (.list [.int (-1), .int 12, .int 8]) := rfl
    simp [p1]
    refine op_draw hl (by omega) (by omega) fun v k s v0 v1 => ?_
    simp
    refine op_pick v0 (by simp; omega) fun x hx => ?_
    have hx : ∃ w : Int, x = .int w := by
      simp only [List.mem_cons, List.not_mem_nil, or_false] at hx
      rcases hx with rfl | rfl | rfl <;> exact ⟨_, rfl⟩
    obtain ⟨w, rfl⟩ := hx
    have y1 : ixN 4 1 = some 1 := rfl
    simp [hn, px n hn, pl, y1]
    rw [pu n ⟨ps[n].k, w, ps[n].m, ps[n].g⟩]
    exact tl (by omega) (by simp; omega) ⟨_, rfl, h _ _ _ _ (okp _ _ (ol ps[n] (List.getElem_mem hn)))⟩
  · have p2 : ixL [PyData.list [.str (W "in"), .str (W "void"), .str (W "less")], .list [.int (-1), .int 12, .int 8], .list [.int (-1), .int 10000, .int 1], .list [.int (-1), .int 10, .int 9]] (.int 2) = some (.list [.int (-1), .int 10000, .int 1]) := rfl
    simp [p2]
    refine op_draw hl (by omega) (by omega) fun v k s v0 v1 => ?_
    simp
    refine op_pick v0 (by simp; omega) fun x hx => ?_
    have hx : ∃ w : Int, x = .int w := by
      simp only [List.mem_cons, List.not_mem_nil, or_false] at hx
      rcases hx with rfl | rfl | rfl <;> exact ⟨_, rfl⟩
    obtain ⟨w, rfl⟩ := hx
    have y2 : ixN 4 2 = some 2 := rfl
    simp [hn, px n hn, pl, y2]
    rw [pu n ⟨ps[n].k, ps[n].w, w, ps[n].g⟩]
    exact tl (by omega) (by simp; omega) ⟨_, rfl, h _ _ _ _ (okp _ _ (ol ps[n] (List.getElem_mem hn)))⟩
  · have p3 : ixL [PyData.list [.str (W "in"), .str (W "void"), .str (W "less")], .list [.int (-1), .int 12, .int 8], .list [.int (-1), .int 10000, .int 1], .list [.int (-1), .int 10, .int 9]] (.int 3) = some (.list [.int (-1), .int 10, .int 9]) := rfl
    simp [p3]
    refine op_draw hl (by omega) (by omega) fun v k s v0 v1 => ?_
    simp
    refine op_pick v0 (by simp; omega) fun x hx => ?_
    have hx : ∃ w : Int, x = .int w := by
      simp only [List.mem_cons, List.not_mem_nil, or_false] at hx
      rcases hx with rfl | rfl | rfl <;> exact ⟨_, rfl⟩
    obtain ⟨w, rfl⟩ := hx
    have y3 : ixN 4 3 = some 3 := rfl
    simp [hn, px n hn, pl, y3]
    rw [pu n ⟨ps[n].k, ps[n].w, ps[n].m, w⟩]
    exact tl (by omega) (by simp; omega) ⟨_, rfl, h _ _ _ _ (okp _ _ (ol ps[n] (List.getElem_mem hn)))⟩
end Lw_k83
namespace Lw_k83
open PySem PySem.Spec PyProof.Rows L2 Vw
def JL (ns : List Int) (ρ : Rho) : Prop := ∃ k s x2 x3 x4 x6 x7 x8 x9, ρ = [some (sc ns), some (stt k s), x2, x3, x4, none, x6, x7, x8, x9]
theorem Right.ok {rs : List Ru} {ps : List Pr} (h : Right rs ps) : Ok 12 8 8 rs ps := by
  have hl := h.lay
  obtain ⟨legs, l1, l8, r1, r12, p8, hr, hp⟩ := h
  exact ⟨r12, p8, fun r hr' => by have := (hr r hr').2.1; omega, hl⟩
theorem b8_ok {ns : List Int} (hl : ns.length ≤ 63) {rs : List Ru} {ps : List Pr} (ok : Ok 12 8 8 rs ps) {k s : Int} {x2 x4 x5 x6 x7 x8 x9 : Option D} {K : Po} (hK : ∀ k s x3 x8, K.N [some (sc ns), some (stt k s), x2, x3, x4, x5, x6, x7, x8, x9]) : Wp cf_law tl_law_1b_8 [some (sc ns), some (stt k s), x2, some (raceD rs ps), x4, x5, x6, x7, x8, x9] K := by
  unfold tl_law_1b_8
  simp
  refine for_m (gives_r1s (n := 2) (by omega) (by simp)) (fun i ρ => ∃ rs ps k s x8, Ok (12 * 13 ^ i) (8 + 9 * i) (8 + 9 * i) rs ps ∧ ρ = [some (sc ns), some (stt k s), x2, some (raceD rs ps), x4, x5, x6, x7, x8, x9]) ⟨rs, ps, k, s, x8, ok, rfl⟩ (fun i hi ρ hI => ?_) fun ρ hI => ?_
  · obtain ⟨rs, ps, k, s, x8, ok, rfl⟩ := hI
    have hi : i < 2 := by simpa using hi
    have p13 : 13 ^ i ≤ 13 ^ 1 := Nat.pow_le_pow_right (by omega) (by omega)
    unfold tl_law_1b_8b_0
    simp
    refine op_spoilt hl (by omega) (by omega) (by omega) ok fun rs' ps' k s ok' => ?_
    have e1 : 12 * 13 ^ i * 13 = 12 * 13 ^ (i + 1) := by rw [Nat.pow_succ]; omega
    have e2 : 8 + 9 * i + 9 = 8 + 9 * (i + 1) := by omega
    rw [e1, e2] at ok'
    have p14 : 13 ^ (i + 1) ≤ 13 ^ 2 := Nat.pow_le_pow_right (by omega) (by omega)
    have n1 := ok'.n
    have n2 := ok'.m
    unfold tl_law_1b_8b_1
    simp [due_ok rs' ps' (by omega) (by omega) ok'.l, told_ok rs' ps' (by omega) (by omega) ok'.l, exact_bad (lay_chk rs' ps')]
    unfold tl_law_1b_8b_2
    simp
    exact ⟨rs', ps', ok', rfl⟩
  · obtain ⟨rs, ps, k, s, x8, ok, rfl⟩ := hI
    unfold tl_law_1b_9
    simp
    exact hK _ _ _ _
def J7 (ns : List Int) (rs : List Ru) (ps : List Pr) (x2 x5 x6 : Option D) (ρ : Rho) : Prop := ∃ k s x7 x8 x9, ρ = [some (sc ns), some (stt k s), x2, some (raceD rs ps), some (psD ps), x5, x6, x7, x8, x9]
theorem b7_ok {ns : List Int} (hl : ns.length ≤ 63) {rs : List Ru} {ps : List Pr} (ok : Ok 12 8 8 rs ps) {k s : Int} {x2 x5 x6 x7 x8 x9 : Option D} {K : Po} (hK : ∀ k s x3 x7 x8 x9, K.N [some (sc ns), some (stt k s), x2, x3, some (psD ps), x5, x6, x7, x8, x9]) : Wp cf_law tl_law_1b_7 [some (sc ns), some (stt k s), x2, some (raceD rs ps), some (psD ps), x5, x6, x7, x8, x9] K := by
  have lnp : b1D .len (psD ps) = some (.int ps.length) := by unfold psD; simp
  have om := ok.m
  unfold tl_law_1b_7
  simp
  refine for_m (gives_r1s (n := 4) (by omega) (by simp)) (fun _ ρ => J7 ns rs ps x2 x5 x6 ρ) ⟨k, s, x7, x8, x9, rfl⟩ (fun i hi ρ hI => ?_) fun ρ hI => ?_
  · obtain ⟨k, s, x7, x8, x9, rfl⟩ := hI
    have hi : i < 4 := by simpa using hi
    have rest : ∀ (B : Rho → Prop) (g : List Int) (k s : Int) x8 x9, g.length ≤ 5 → Wp cf_law tl_law_1b_7b_2 [some (sc ns), some (stt k s), x2, some (raceD rs ps), some (psD ps), x5, x6, some (rwD g), x8, x9] { K with N := fun ρ => J7 ns rs ps x2 x5 x6 ρ, C := fun ρ => J7 ns rs ps x2 x5 x6 ρ, B := B } := fun B g k s x8 x9 hg => by
      unfold tl_law_1b_7b_2
      simp [goes_ok ps g (by omega) (by omega), legal_ok rs ps g (by omega) (by omega), exact_ok (Dn_bool (n := 3))]
      unfold tl_law_1b_7b_3
      simp
      exact ⟨_, _, _, _, _, rfl⟩
    unfold tl_law_1b_7b_0
    simp
    have hE : Ev cf_law (.call (PySem.Str.ofString "_law_draw") (.io 1 (.fr (.v 0) (.fr (.k (.int 5)) .nil)))) [some (sc ns), some (stt k s), x2, some (raceD rs ps), some (psD ps), x5, x6, x7, some (.int (i : Nat)), x9] fun x ρ1 => ∃ (n : Nat) (k s : Int), n < 5 ∧ x = .int (n : Int) ∧ ρ1 = [some (sc ns), some (stt k s), x2, some (raceD rs ps), some (psD ps), x5, x6, x7, some (.int (i : Nat)), x9] := by
      simp
      refine op_draw hl (by omega) (by omega) fun d1 k s d0 d2 => ?_
      simp
      exact ⟨d1.toNat, by omega, by omega⟩
    obtain ⟨⟨x, ρ1⟩, e1, n, k, s, hn, rfl, rfl⟩ := hE
    refine comp_I (gives_r1 ⟨_, e1, rfl, rfl⟩ (by omega)) (fun d => ∃ i : Int, d = .int i) (fun ρ => ∃ k s, ρ = [some (sc ns), some (stt k s), x2, some (raceD rs ps), some (psD ps), x5, x6, x7, some (.int (i : Nat)), none]) ⟨k, s, rfl⟩ (by simp; omega) (fun j hj ρ hJ => ?_) fun ds ρ hdl hds hJ => ?_
    · obtain ⟨k, s, rfl⟩ := hJ
      simp [lnp]
      refine op_draw hl (by omega) (by omega) fun v k s v0 v1 => ?_
      simp
      refine op_draw hl (by omega) (by omega) fun v k s v0 v1 => ?_
      simp
    · obtain ⟨k, s, rfl⟩ := hJ
      obtain ⟨g, rfl⟩ := ints_of hds
      have hgl : g.length ≤ 5 := by simp at hdl; omega
      unfold tl_law_1b_7b_1
      simp
      rw [Br_dec]
      refine ⟨fun _ => ?_, fun _ => rest _ g _ _ _ _ hgl⟩
      simp [sort_ints]
      exact rest _ _ _ _ _ _ (by rw [leI_perm.length_eq]; exact hgl)
  · obtain ⟨k, s, x7, x8, x9, rfl⟩ := hI
    exact b8_ok hl ok fun _ _ _ _ => hK _ _ _ _ _ _
theorem b4_ok {ns : List Int} {rs : List Ru} {ps : List Pr} (hp : ps.length ≤ 8) {x1 x2 x6 x7 x8 x9 : Option D} {K : Po} (hK : ∀ x6 x7 x9, Wp cf_law tl_law_1b_5 [some (sc ns), x1, x2, some (raceD rs ps), some (psD ps), some (.list ((dueL ps ps.length).map rwD)), x6, x7, x8, x9] K) : Wp cf_law tl_law_1b_4 [some (sc ns), x1, x2, some (raceD rs ps), some (psD ps), some (.list []), x6, x7, x8, x9] K := by
  have lnp : b1D .len (psD ps) = some (.int ps.length) := by unfold psD; simp
  have p8 : 2 ^ ps.length ≤ 2 ^ 8 := Nat.pow_le_pow_right (by omega) (by omega)
  unfold tl_law_1b_4
  simp
  refine for_m (gives_r1s (n := 2 ^ ps.length) (by omega) (by simp [lnp]; omega)) (fun i ρ => ∃ x6 x7 x9, ρ = [some (sc ns), x1, x2, some (raceD rs ps), some (psD ps), some (.list ((((List.range i).map (gk ps.length)).filter (goes ps)).map rwD)), x6, x7, x8, x9]) ⟨x6, x7, x9, rfl⟩ (fun i hi ρ hI => ?_) fun ρ hI => ?_
  · obtain ⟨x6, x7, x9, rfl⟩ := hI
    have hi : i < 2 ^ ps.length := by simpa using hi
    have es : ((List.range (i + 1)).map (gk ps.length)).filter (goes ps) = ((List.range i).map (gk ps.length)).filter (goes ps) ++ (if goes ps (gk ps.length i) = true then [gk ps.length i] else []) := by
      rw [List.range_succ, List.map_append, List.filter_append]
      congr 1
      simp [List.filter_cons]
    rw [es]
    have hdl : (((List.range i).map (gk ps.length)).filter (goes ps)).length ≤ i := by
      refine Nat.le_trans (List.length_filter_le _ _) ?_
      simp
    generalize ((List.range i).map (gk ps.length)).filter (goes ps) = L at *
    unfold tl_law_1b_4b_0
    simp
    refine Ev.of (comp_m (l := List.range ps.length) (gives_r1s (n := ps.length) (by omega) (by simp [lnp])) (fun j => Nat.testBit i j) (fun j => .int (j : Nat)) rfl (by simp; omega) fun j hj => ?_) ?_
    · have eb : decide (Builtin.bitAnd ((i : Int) / 2 ^ j) 1 = 1) = i.testBit j := by
        rw [bitAnd_m1, Nat.testBit_eq_decide_div_mod_eq]
        have e : ((i : Int) / 2 ^ j) % 2 = ((i / 2 ^ j % 2 : Nat) : Int) := by simp
        rw [e]
        by_cases h : i / 2 ^ j % 2 = 1
        · rw [h]; rfl
        · rw [decide_eq_false h]
          exact decide_eq_false (by omega)
      simp [eb]
      cases i.testBit j <;> simp
    · have eg : PyData.list (((List.range ps.length).filter fun j => Nat.testBit i j).map fun j => .int (j : Nat)) = rwD (gk ps.length i) := by
        unfold gk
        unfold rwD
        rw [List.map_map]
        rfl
      rw [eg]
      have hgl := gk_len ps.length i
      generalize gk ps.length i = g at *
      unfold tl_law_1b_4b_1
      simp [goes_ok ps g (by omega) (by omega)]
      cases goes ps g with
      | true =>
        unfold tl_law_1b_4b_2
        simp
        omega
      | false =>
        unfold tl_law_1b_4b_2
        simp
  · obtain ⟨x6, x7, x9, rfl⟩ := hI
    have h := hK x6 x7 x9
    have e : dueL ps ps.length = (((List.range (List.range (2 ^ ps.length)).length).map (gk ps.length)).filter (goes ps)) := by rw [List.length_range]; rfl
    rw [e] at h
    exact h
theorem worlds_dn {l : List (List Int)} (hl : l.length ≤ 1000) (h : ∀ g ∈ l, g.length ≤ 1000) : Dn 3 (.list ((srtR l).map rwD)) := by
  have hp : (srtR l).Perm l := List.mergeSort_perm _ _
  refine Dn_list (by rw [List.length_map, hp.length_eq]; omega) fun x hx => ?_
  obtain ⟨g, hg, rfl⟩ := List.mem_map.mp hx
  have := h g (hp.mem_iff.mp hg)
  refine Dn_list (by simp; omega) fun x hx => ?_
  obtain ⟨i, _, rfl⟩ := List.mem_map.mp hx
  exact Dn_int
theorem body_ok {ns : List Int} (hl : ns.length ≤ 63) {ρ : Rho} (hI : JL ns ρ) {i : Nat} {K : Po} (hK : ∀ ρ, JL ns ρ → K.N ρ) : Wp cf_law tl_law_1b_0 (put ρ 2 (.int (i : Nat))) K := by
  obtain ⟨k, s, x2, x3, x4, x6, x7, x8, x9, rfl⟩ := hI
  unfold tl_law_1b_0
  simp
  refine op_race hl fun rs ps k s hR => ?_
  have hok := hR.ok
  have p8 := hok.m
  have r12 := hok.n
  have hc := right_chk hR
  unfold tl_law_1b_1
  simp [told_ok rs ps (by omega) (by omega) hok.l, hc]
  have ib : badD none = .none := rfl
  have ip : ixD (raceD rs ps) (.int 1) = some (psD ps) := rfl
  simp [ib]
  unfold tl_law_1b_2
  simp [ip]
  unfold tl_law_1b_3
  simp
  refine b4_ok p8 fun x6 x7 x9 => ?_
  have d8 : (dueL ps ps.length).length ≤ 2 ^ 8 := Nat.le_trans (dueL_len ps ps.length) (Nat.pow_le_pow_right (by omega) p8)
  have hdn := worlds_dn (l := dueL ps ps.length) (by omega) fun g hg => by have := dueL_row hg; omega
  have fin : ∀ k s x2 x6 x7 x8 x9, Wp cf_law tl_law_1b_7 [some (sc ns), some (stt k s), x2, some (raceD rs ps), some (psD ps), some (.list ((dueL ps ps.length).map rwD)), x6, x7, x8, x9] ⟨fun ρ => K.N (ρ.set 5 none), fun d ρ => K.R d (ρ.set 5 none), fun ρ => K.B (ρ.set 5 none), fun ρ => K.C (ρ.set 5 none), fun x fs ρ => K.X x fs (ρ.set 5 none)⟩ := fun k s x2 x6 x7 x8 x9 => b7_ok hl hok fun k s x3 x7 x8 x9 => hK _ ⟨_, _, _, _, _, _, _, _, _, rfl⟩
  have hw := worlds_ok rs ps p8
  generalize dueL ps ps.length = L at *
  unfold tl_law_1b_5
  simp
  unfold tl_law_1b_6
  have es : (L.mergeSort fun a b => W.dataLe false id (rwD a) (rwD b)) = srtR L := rfl
  simp [hw, sort_rows, es, exact_ok hdn]
  rw [Br_dec]
  exact ⟨fun _ => fin _ _ _ _ _ _ _, fun _ => fin _ _ _ _ _ _ _⟩
theorem law_data (ns : List Int) (hl : ns.length ≤ 63) : ∃ o, fn_law [.list (ns.map .int)] = some (.bool true, o) := by
  refine ⟨[sc ns], ?_⟩
  refine fn_by (c := cf_law) (ps := sg_law.ps) (n := 10) (b := ir_law) (ds := [sc ns]) ?_
  rw [tl_law]
  unfold tl_law_0
  simp
  unfold tl_law_1
  simp
  refine for_m (gives_r1s (n := 4) (by omega) (by simp)) (fun _ ρ => JL ns ρ) ⟨0, 0, none, none, none, none, none, none, none, rfl⟩ (fun i hi ρ hI => ?_) fun ρ hI => ?_
  · exact ⟨_, by simp; rfl, body_ok hl hI fun ρ h => h⟩
  · obtain ⟨k, s, x2, x3, x4, x6, x7, x8, x9, rfl⟩ := hI
    unfold tl_law_2
    simp
end Lw_k83
namespace Lw_k83
open PySem PySem.Spec PyProof.Rows L2 Vw
/-! ### what the top has written; the law's own head -/
theorem all_mk {l : PySem.W.OpenLaw} {w : World} {K : PySem.W.Frag} {h : Heap} {mg : Str → Option Value} {fa : Addr} (X : K.In h) (G : h.Ns mainGlobals mg) (hfa : mg "law" = some (.ref fa))
    {f0 : Addr} {od0 an0 : Option Addr} {sl0 : Array (Option Value)} {oc0 kV0 dc0 pm0 cd0 ct0 : Value} {f1 : Addr} {od1 an1 : Option Addr} {sl1 : Array (Option Value)} {oc1 kV1 dc1 pm1 cd1 ct1 : Value} {f2 : Addr} {od2 an2 : Option Addr} {sl2 : Array (Option Value)} {oc2 kV2 dc2 pm2 cd2 ct2 : Value} {f3 : Addr} {od3 an3 : Option Addr} {sl3 : Array (Option Value)} {oc3 kV3 dc3 pm3 cd3 ct3 : Value} {f4 : Addr} {od4 an4 : Option Addr} {sl4 : Array (Option Value)} {oc4 kV4 dc4 pm4 cd4 ct4 : Value} {f5 : Addr} {od5 an5 : Option Addr} {sl5 : Array (Option Value)} {oc5 kV5 dc5 pm5 cd5 ct5 : Value} {f6 : Addr} {od6 an6 : Option Addr} {sl6 : Array (Option Value)} {oc6 kV6 dc6 pm6 cd6 ct6 : Value} {f7 : Addr} {od7 an7 : Option Addr} {sl7 : Array (Option Value)} {oc7 kV7 dc7 pm7 cd7 ct7 : Value} {f8 : Addr} {od8 an8 : Option Addr} {sl8 : Array (Option Value)} {oc8 kV8 dc8 pm8 cd8 ct8 : Value} {f9 : Addr} {od9 an9 : Option Addr} {sl9 : Array (Option Value)} {oc9 kV9 dc9 pm9 cd9 ct9 : Value} {f10 : Addr} {od10 an10 : Option Addr} {sl10 : Array (Option Value)} {oc10 kV10 dc10 pm10 cd10 ct10 : Value} {f11 : Addr} {od11 an11 : Option Addr} {sl11 : Array (Option Value)} {oc11 kV11 dc11 pm11 cd11 ct11 : Value} {f12 : Addr} {od12 an12 : Option Addr} {sl12 : Array (Option Value)} {oc12 kV12 dc12 pm12 cd12 ct12 : Value} {t_MOST_LEGS : Tok} {t_MOST_PROTESTS : Tok} {t_MOST_RUNNERS : Tok} {nm_0 q_0 : Str} {C_0 N_0 W_0 fI_0 cda_0 cc_0 : Addr} {bs_0 : List Value} {sn_0 : List Str} {sub_0 : List Value} {ab_0 : Bool} {col_0 : Option Bool} {dd_0 od_0 an_0 cdd_0 cld_0 : Option Addr} {m0_0 m1_0 m2_0 m3_0 m5_0 : Option Value} {oc_0 doc_0 pm_0 kV_0 ct_0 ccl_0 cl_0 : Value} {osl_0 ccs_0 csl_0 : Array (Option Value)} {vs_0 : Array Value} {tf_0 : Tok} {V_0 : Addr}
    (a0 : PySem.W.nsIn K mainGlobals (PySem.Str.ofString "_law_refill") = some (some (.ref f0))) (l0 : K.lookup f0 = some ⟨oc0, od0, .func (PySem.W.fnOf (PySem.Str.ofString "_law_refill") (PySem.Str.ofString "_law_refill") (defArgs (topS 13)) (defBody (topS 13)) (defScope (topS 13)) .none kV0 dc0 pm0 an0 cd0 ct0), sl0⟩) (c0 : PySem.W.codeIn K cd0 (PySem.Str.ofString "_law_refill") = true) (k0 : PySem.W.keepIn K (.ref f0) = true)
    (a1 : PySem.W.nsIn K mainGlobals (PySem.Str.ofString "_law_draw") = some (some (.ref f1))) (l1 : K.lookup f1 = some ⟨oc1, od1, .func (PySem.W.fnOf (PySem.Str.ofString "_law_draw") (PySem.Str.ofString "_law_draw") (defArgs (topS 14)) (defBody (topS 14)) (defScope (topS 14)) .none kV1 dc1 pm1 an1 cd1 ct1), sl1⟩) (c1 : PySem.W.codeIn K cd1 (PySem.Str.ofString "_law_draw") = true) (k1 : PySem.W.keepIn K (.ref f1) = true)
    (a2 : PySem.W.nsIn K mainGlobals (PySem.Str.ofString "_law_race") = some (some (.ref f2))) (l2 : K.lookup f2 = some ⟨oc2, od2, .func (PySem.W.fnOf (PySem.Str.ofString "_law_race") (PySem.Str.ofString "_law_race") (defArgs (topS 16)) (defBody (topS 16)) (defScope (topS 16)) .none kV2 dc2 pm2 an2 cd2 ct2), sl2⟩) (c2 : PySem.W.codeIn K cd2 (PySem.Str.ofString "_law_race") = true) (k2 : PySem.W.keepIn K (.ref f2) = true)
    (a3 : PySem.W.nsIn K mainGlobals (PySem.Str.ofString "require") = some (some (.ref f3))) (l3 : K.lookup f3 = some ⟨oc3, od3, .func (PySem.W.fnOf (PySem.Str.ofString "require") (PySem.Str.ofString "require") (defArgs (topS 8)) (defBody (topS 8)) (defScope (topS 8)) .none kV3 dc3 pm3 an3 cd3 ct3), sl3⟩) (c3 : PySem.W.codeIn K cd3 (PySem.Str.ofString "require") = true) (k3 : PySem.W.keepIn K (.ref f3) = true)
    (a4 : PySem.W.nsIn K mainGlobals (PySem.Str.ofString "check_race") = some (some (.ref f4))) (l4 : K.lookup f4 = some ⟨oc4, od4, .func (PySem.W.fnOf (PySem.Str.ofString "check_race") (PySem.Str.ofString "check_race") (defArgs (topS 9)) (defBody (topS 9)) (defScope (topS 9)) .none kV4 dc4 pm4 an4 cd4 ct4), sl4⟩) (c4 : PySem.W.codeIn K cd4 (PySem.Str.ofString "check_race") = true) (k4 : PySem.W.keepIn K (.ref f4) = true)
    (a5 : PySem.W.nsIn K mainGlobals (PySem.Str.ofString "_law_told") = some (some (.ref f5))) (l5 : K.lookup f5 = some ⟨oc5, od5, .func (PySem.W.fnOf (PySem.Str.ofString "_law_told") (PySem.Str.ofString "_law_told") (defArgs (topS 18)) (defBody (topS 18)) (defScope (topS 18)) .none kV5 dc5 pm5 an5 cd5 ct5), sl5⟩) (c5 : PySem.W.codeIn K cd5 (PySem.Str.ofString "_law_told") = true) (k5 : PySem.W.keepIn K (.ref f5) = true)
    (a6 : PySem.W.nsIn K mainGlobals (PySem.Str.ofString "_law_goes") = some (some (.ref f6))) (l6 : K.lookup f6 = some ⟨oc6, od6, .func (PySem.W.fnOf (PySem.Str.ofString "_law_goes") (PySem.Str.ofString "_law_goes") (defArgs (topS 20)) (defBody (topS 20)) (defScope (topS 20)) .none kV6 dc6 pm6 an6 cd6 ct6), sl6⟩) (c6 : PySem.W.codeIn K cd6 (PySem.Str.ofString "_law_goes") = true) (k6 : PySem.W.keepIn K (.ref f6) = true)
    (a7 : PySem.W.nsIn K mainGlobals (PySem.Str.ofString "_law_spoilt") = some (some (.ref f7))) (l7 : K.lookup f7 = some ⟨oc7, od7, .func (PySem.W.fnOf (PySem.Str.ofString "_law_spoilt") (PySem.Str.ofString "_law_spoilt") (defArgs (topS 19)) (defBody (topS 19)) (defScope (topS 19)) .none kV7 dc7 pm7 an7 cd7 ct7), sl7⟩) (c7 : PySem.W.codeIn K cd7 (PySem.Str.ofString "_law_spoilt") = true) (k7 : PySem.W.keepIn K (.ref f7) = true)
    (a8 : PySem.W.nsIn K mainGlobals (PySem.Str.ofString "_law_exact") = some (some (.ref f8))) (l8 : K.lookup f8 = some ⟨oc8, od8, .func (PySem.W.fnOf (PySem.Str.ofString "_law_exact") (PySem.Str.ofString "_law_exact") (defArgs (topS 15)) (defBody (topS 15)) (defScope (topS 15)) .none kV8 dc8 pm8 an8 cd8 ct8), sl8⟩) (c8 : PySem.W.codeIn K cd8 (PySem.Str.ofString "_law_exact") = true) (k8 : PySem.W.keepIn K (.ref f8) = true)
    (a9 : PySem.W.nsIn K mainGlobals (PySem.Str.ofString "legal") = some (some (.ref f9))) (l9 : K.lookup f9 = some ⟨oc9, od9, .func (PySem.W.fnOf (PySem.Str.ofString "legal") (PySem.Str.ofString "legal") (defArgs (topS 10)) (defBody (topS 10)) (defScope (topS 10)) .none kV9 dc9 pm9 an9 cd9 ct9), sl9⟩) (c9 : PySem.W.codeIn K cd9 (PySem.Str.ofString "legal") = true) (k9 : PySem.W.keepIn K (.ref f9) = true)
    (a10 : PySem.W.nsIn K mainGlobals (PySem.Str.ofString "worlds") = some (some (.ref f10))) (l10 : K.lookup f10 = some ⟨oc10, od10, .func (PySem.W.fnOf (PySem.Str.ofString "worlds") (PySem.Str.ofString "worlds") (defArgs (topS 11)) (defBody (topS 11)) (defScope (topS 11)) .none kV10 dc10 pm10 an10 cd10 ct10), sl10⟩) (c10 : PySem.W.codeIn K cd10 (PySem.Str.ofString "worlds") = true) (k10 : PySem.W.keepIn K (.ref f10) = true)
    (a11 : PySem.W.nsIn K mainGlobals (PySem.Str.ofString "_law_due") = some (some (.ref f11))) (l11 : K.lookup f11 = some ⟨oc11, od11, .func (PySem.W.fnOf (PySem.Str.ofString "_law_due") (PySem.Str.ofString "_law_due") (defArgs (topS 17)) (defBody (topS 17)) (defScope (topS 17)) .none kV11 dc11 pm11 an11 cd11 ct11), sl11⟩) (c11 : PySem.W.codeIn K cd11 (PySem.Str.ofString "_law_due") = true) (k11 : PySem.W.keepIn K (.ref f11) = true)
    (a12 : PySem.W.nsIn K mainGlobals (PySem.Str.ofString "law") = some (some (.ref f12))) (l12 : K.lookup f12 = some ⟨oc12, od12, .func (PySem.W.fnOf (PySem.Str.ofString "law") (PySem.Str.ofString "law") (defArgs (topS 21)) (defBody (topS 21)) (defScope (topS 21)) .none kV12 dc12 pm12 an12 cd12 ct12), sl12⟩) (c12 : PySem.W.codeIn K cd12 (PySem.Str.ofString "law") = true) (k12 : PySem.W.keepIn K (.ref f12) = true)
    (w_MOST_LEGS : PySem.W.nsIn K mainGlobals (PySem.Str.ofString "MOST_LEGS") = some (some (.int 8 t_MOST_LEGS)))
    (w_MOST_PROTESTS : PySem.W.nsIn K mainGlobals (PySem.Str.ofString "MOST_PROTESTS") = some (some (.int 8 t_MOST_PROTESTS)))
    (w_MOST_RUNNERS : PySem.W.nsIn K mainGlobals (PySem.Str.ofString "MOST_RUNNERS") = some (some (.int 12 t_MOST_RUNNERS)))
    (z_KINDS : kGloB K (PySem.Str.ofString "KINDS") (.tuple [(.str (PySem.Str.ofString "back") : D), (.str (PySem.Str.ofString "out") : D), (.str (PySem.Str.ofString "less") : D), (.str (PySem.Str.ofString "more") : D), (.str (PySem.Str.ofString "void") : D)] : D) = true)
    (aC0 : PySem.W.nsIn K mainGlobals (PySem.Str.ofString "RaceError") = some (some (.ref C_0))) (xL0 : K.lookup C_0 = some (excClassObj nm_0 q_0 C_0 N_0 bs_0 [.ref W_0, .type "ValueError", .type "Exception", .type "BaseException", .type "object"] true sn_0 sub_0 ab_0 col_0 dd_0 m0_0 m1_0 m2_0 m3_0 m5_0 "ValueError.__new__")) (sa0 : PySem.W.findIn K (.ref C_0) "__setattr__" = some (some (.builtin "object.__setattr__"))) (ga0 : PySem.W.findIn K (.ref C_0) "__getattribute__" = some (some (.builtin "BaseException.__getattribute__"))) (gg0 : PySem.W.findIn K (.ref C_0) "__getattr__" = some none) (na0 : PySem.W.findIn K (.ref C_0) "rule" = some none) (nb0 : PySem.W.findIn K (.ref C_0) "index" = some none) (kC0 : PySem.W.keepIn K (.ref C_0) = true) (eC0 : PySem.W.subIn K (.ref C_0) (.type "BaseException") = some true) (vC0 : PySem.W.subIn K (.ref C_0) (.type "ValueError") = some true) (yC0 : PySem.W.typeIn K (.ref C_0) = some (.type "type")) (su0 : PySem.W.ks_superIn K C_0 C_0 "__init__" = some (some (.builtin "ValueError.__init__"))) (op0 : PySem.W.nsIn K PySem.cStatics "thirdparty.any" = some none) (sl0 : PySem.W.mroIn K C_0 (.ref C_0) = some true) (hC0 : PySem.W.hasDictIn K C_0 = true) (iC0 : PySem.W.isClsIn K C_0 = true) (sC0 : PySem.W.subIn K (.ref C_0) (.ref C_0) = some true) (xa0 : PySem.W.findIn K (.ref C_0) "__class__" = some (some (.builtin "object.__class__"))) (xb0 : PySem.W.specialIn K (.builtin "object.__class__") "__get__" = some (some (.builtin "getset_descriptor.__get__"))) (xc0 : PySem.W.takesIn K (.builtin "object.__class__") = some true) (xd0 : PySem.W.mroIn K C_0 (.type "object") = some true) (fI0 : PySem.W.findIn K (.ref C_0) "__init__" = some (some (.ref fI_0))) (tI0 : PySem.W.typeIn K (.ref fI_0) = some (.type "function")) (lI0 : K.lookup fI_0 = some ⟨oc_0, od_0, .func (PySem.W.ksFn "__init__" (PySem.Str.ofString "RaceError.__init__") (defArgs (cin 2)) (defBody (cin 2)) (defScope (cin 2)) .none kV_0 doc_0 pm_0 an_0 (.ref cda_0) ct_0 cc_0), osl_0⟩) (kI0 : PySem.W.codeIn K (.ref cda_0) (PySem.Str.ofString "RaceError.__init__") = true) (lc0 : K.lookup cda_0 = some ⟨ccl_0, cdd_0, .fields vs_0, ccs_0⟩) (vf0 : vs_0[2]? = some (.str l.prog.main.file tf_0)) (lx0 : K.lookup cc_0 = some ⟨cl_0, cld_0, .cell (some (.ref C_0)), csl_0⟩)
    (aV0 : PySem.W.nsIn K mainGlobals (PySem.Str.ofString "WayError") = some (some (.ref V_0)))
    (kI0x : PySem.W.kitOne K (.ref C_0) (.ref V_0) = some true)
    (hsup : PySem.W.nsIn K mainGlobals "super" = some none) (htop : (l.prog.main.scope.names.lookup ("super" : Str)).isSome = false)
    (y4 : (tabOf K f4).isSome = true)
    (y9 : (tabOf K f9).isSome = true)
    (zb : (blAll.all fun x => isSN (PySem.W.nsIn K mainGlobals x)) = true) (nl : K.all noListB = true) :
    ∃ fd : FuncData, (∀ (s : Shared) (v : Value), BindsTo s fd ⟨[v], []⟩ [("script", v)]) ∧ ∀ base : Heap, K.In base → base.Ns mainGlobals mg → (∀ p ∈ tabsK K, GxR.TabB base mg p.1 p.2) → FnOk l.prog w K mg base CX0 20 fa fd ["script"] (spLaw K) := by
  have e := hfa.symm.trans (PySem.W.mg_of X G a12)
  cases e
  have hbl := bl_all X G zb
  have F0 := fun_mk (st := (topS 13)) l0 c0 k0
  have b0 := F0.binds (ps := [(PySem.Str.ofString "script"), (PySem.Str.ofString "k")]) fun _ _ _ _ _ _ us hl => match us, hl with | [_, _], _ => rfl
  have F1 := fun_mk (st := (topS 14)) l1 c1 k1
  have b1 := F1.binds (ps := [(PySem.Str.ofString "state"), (PySem.Str.ofString "script"), (PySem.Str.ofString "size")]) fun _ _ _ _ _ _ us hl => match us, hl with | [_, _, _], _ => rfl
  have F2 := fun_mk (st := (topS 16)) l2 c2 k2
  have b2 := F2.binds (ps := [(PySem.Str.ofString "state"), (PySem.Str.ofString "script"), (PySem.Str.ofString "many"), (PySem.Str.ofString "protests")]) fun _ _ _ _ _ _ us hl => match us, hl with | [_, _, _, _], _ => rfl
  have F3 := fun_mk (st := (topS 8)) l3 c3 k3
  have b3 := F3.binds (ps := [(PySem.Str.ofString "holds"), (PySem.Str.ofString "rule"), (PySem.Str.ofString "index")]) fun _ _ _ _ _ _ us hl => match us, hl with | [_, _, _], _ => rfl
  have F4 := fun_mk (st := (topS 9)) l4 c4 k4
  have b4 := F4.binds (ps := [(PySem.Str.ofString "race")]) fun _ _ _ _ _ _ us hl => match us, hl with | [_], _ => rfl
  have F5 := fun_mk (st := (topS 18)) l5 c5 k5
  have b5 := F5.binds (ps := [(PySem.Str.ofString "race")]) fun _ _ _ _ _ _ us hl => match us, hl with | [_], _ => rfl
  have F6 := fun_mk (st := (topS 20)) l6 c6 k6
  have b6 := F6.binds (ps := [(PySem.Str.ofString "protests"), (PySem.Str.ofString "granted")]) fun _ _ _ _ _ _ us hl => match us, hl with | [_, _], _ => rfl
  have F7 := fun_mk (st := (topS 19)) l7 c7 k7
  have b7 := F7.binds (ps := [(PySem.Str.ofString "state"), (PySem.Str.ofString "script"), (PySem.Str.ofString "race")]) fun _ _ _ _ _ _ us hl => match us, hl with | [_, _, _], _ => rfl
  have F8 := fun_mk (st := (topS 15)) l8 c8 k8
  have b8 := F8.binds (ps := [(PySem.Str.ofString "first"), (PySem.Str.ofString "second")]) fun _ _ _ _ _ _ us hl => match us, hl with | [_, _], _ => rfl
  have F9 := fun_mk (st := (topS 10)) l9 c9 k9
  have b9 := F9.binds (ps := [(PySem.Str.ofString "race"), (PySem.Str.ofString "granted")]) fun _ _ _ _ _ _ us hl => match us, hl with | [_, _], _ => rfl
  have F10 := fun_mk (st := (topS 11)) l10 c10 k10
  have b10 := F10.binds (ps := [(PySem.Str.ofString "race")]) fun _ _ _ _ _ _ us hl => match us, hl with | [_], _ => rfl
  have F11 := fun_mk (st := (topS 17)) l11 c11 k11
  have b11 := F11.binds (ps := [(PySem.Str.ofString "race")]) fun _ _ _ _ _ _ us hl => match us, hl with | [_], _ => rfl
  have F12 := fun_mk (st := (topS 21)) l12 c12 k12
  have b12 := F12.binds (ps := [(PySem.Str.ofString "script")]) fun _ _ _ _ _ _ us hl => match us, hl with | [_], _ => rfl
  refine ⟨PySem.W.fnOf (PySem.Str.ofString "law") (PySem.Str.ofString "law") (defArgs (topS 21)) (defBody (topS 21)) (defScope (topS 21)) .none kV12 dc12 pm12 an12 cd12 ct12, fun s v => .of_eq rfl, fun base _ _ hTB => ?_⟩
  have T_0 : Ve.ErrT K C_0 := ⟨⟨_, _, _, _, _, _, _, _, _, _, _, _, _, _, _, xL0, rfl⟩, sa0, kC0, eC0, vC0, yC0, su0, op0, sl0⟩
  have Q_RaceError : KlsAt l.prog K mg (PySem.Str.ofString "RaceError") := ⟨C_0, ⟨T_0, na0, nb0, htop, ⟨fI_0, _, _, _, _, _, _, _, _, _, _, _, _, _, _, _, _, _, rfl, ⟨fI0, tI0, ⟨_, _, _, _, _, _, _, _, _, cda_0, cc_0, _, _, vs_0, _, tf_0, _, _, _, lI0, kI0, lc0, vf0, lx0⟩⟩⟩⟩, PySem.W.mg_of X G aC0, PySem.W.mg_none_of X G hsup, exm_own eC0 iC0 yC0 sC0, ⟨ga0, gg0, eC0, hC0⟩, ⟨iC0, xa0, xb0, xc0, xd0⟩⟩
  have P_RaceError_WayError : IsP (PySem.Str.ofString "RaceError") (PySem.Str.ofString "WayError") true K mg := ⟨C_0, V_0, PySem.W.mg_of X G aC0, PySem.W.mg_of X G aV0, kI0x⟩
  have G0 : FnOk l.prog w K mg base CX0 4 _ _ _ (spI K sg__law_refill fn__law_refill) := ok__law_refill (Φ := cf__law_refill) (k := 3) F0 hbl
  have G1 : FnOk l.prog w K mg base CX0 8 _ _ _ (spI K sg__law_draw fn__law_draw) := ok__law_draw (Φ := cf__law_draw) (k := 7) F1 hbl (callee G0 rfl (by decide) (PySem.W.mg_of X G a0) k0 b0)
  have G2 : FnOk l.prog w K mg base CX0 12 _ _ _ (spI K sg__law_race fn__law_race) := ok__law_race (Φ := cf__law_race) (k := 11) F2 hbl (callee G1 rfl (by decide) (PySem.W.mg_of X G a1) k1 b1)
  have G3 : FnOk l.prog w K mg base (L2.CX l.prog w) 6 _ _ _ (spX mg K sg_require fn_require) := ok_require (Φ := cf_require) (k := 5) F3 hbl Q_RaceError (by decide)
  have G4 : FnOk l.prog w K mg base (L2.CX l.prog w) 10 _ _ _ (spX mg K sg_check_race fn_check_race) := ok_check_race (Φ := cf_check_race) (k := 9) F4 hbl ⟨by decide, tab_of l4 y4 hTB⟩ (gdat_of X G z_KINDS) (fun p hp => by simp only [List.mem_cons, List.not_mem_nil, or_false] at hp; rcases hp with rfl | rfl | rfl; exact ⟨t_MOST_RUNNERS, PySem.W.mg_of X G w_MOST_RUNNERS⟩; exact ⟨t_MOST_LEGS, PySem.W.mg_of X G w_MOST_LEGS⟩; exact ⟨t_MOST_PROTESTS, PySem.W.mg_of X G w_MOST_PROTESTS⟩) (calleeX G3 rfl (by decide) (PySem.W.mg_of X G a3) k3 b3)
  have G5 : FnOk l.prog w K mg base CX0 14 _ _ _ (spI K sg__law_told fn__law_told) := ok__law_told (Φ := cf__law_told) (k := 13) F5 hbl Q_RaceError (by decide) P_RaceError_WayError (calleeX G4 rfl (by decide) (PySem.W.mg_of X G a4) k4 b4)
  have G6 : FnOk l.prog w K mg base CX0 4 _ _ _ (spI K sg__law_goes fn__law_goes) := ok__law_goes (Φ := cf__law_goes) (k := 3) F6 hbl
  have G7 : FnOk l.prog w K mg base CX0 12 _ _ _ (spI K sg__law_spoilt fn__law_spoilt) := ok__law_spoilt (Φ := cf__law_spoilt) (k := 11) F7 hbl (callee G1 rfl (by decide) (PySem.W.mg_of X G a1) k1 b1)
  have G8_1 : FnOk l.prog w K mg base CX0 4 _ _ _ (spI K sg__law_exact fn__law_exact_1) := ok__law_exact (Φ := cf__law_exact_1) (k := 3) F8 hbl (callee0 rfl (by decide) (PySem.W.mg_of X G a8) k8 b8)
  have G8_2 : FnOk l.prog w K mg base CX0 8 _ _ _ (spI K sg__law_exact fn__law_exact_2) := ok__law_exact (Φ := cf__law_exact_2) (k := 7) F8 hbl (callee G8_1 rfl (by decide) (PySem.W.mg_of X G a8) k8 b8)
  have G8_3 : FnOk l.prog w K mg base CX0 12 _ _ _ (spI K sg__law_exact fn__law_exact_3) := ok__law_exact (Φ := cf__law_exact_3) (k := 11) F8 hbl (callee G8_2 rfl (by decide) (PySem.W.mg_of X G a8) k8 b8)
  have G8_4 : FnOk l.prog w K mg base CX0 16 _ _ _ (spI K sg__law_exact fn__law_exact_4) := ok__law_exact (Φ := cf__law_exact_4) (k := 15) F8 hbl (callee G8_3 rfl (by decide) (PySem.W.mg_of X G a8) k8 b8)
  have G8 : FnOk l.prog w K mg base CX0 16 _ _ _ (spI K sg__law_exact fn__law_exact) := G8_4
  have G9 : FnOk l.prog w K mg base CX0 4 _ _ _ (spI K sg_legal fn_legal) := ok_legal (Φ := cf_legal) (k := 3) F9 hbl ⟨by decide, tab_of l9 y9 hTB⟩
  have G10 : FnOk l.prog w K mg base CX0 8 _ _ _ (spI K sg_worlds fn_worlds) := ok_worlds (Φ := cf_worlds) (k := 7) F10 hbl (callee G9 rfl (by decide) (PySem.W.mg_of X G a9) k9 b9)
  have G11 : FnOk l.prog w K mg base CX0 4 _ _ _ (spI K sg__law_due fn__law_due) := ok__law_due (Φ := cf__law_due) (k := 3) F11 hbl
  have G12 : FnOk l.prog w K mg base CX0 20 _ _ _ (spI K sg_law fn_law) := ok_law (Φ := cf_law) (k := 19) F12 hbl (callee G2 rfl (by decide) (PySem.W.mg_of X G a2) k2 b2) (callee G5 rfl (by decide) (PySem.W.mg_of X G a5) k5 b5) (callee G6 rfl (by decide) (PySem.W.mg_of X G a6) k6 b6) (callee G8 rfl (by decide) (PySem.W.mg_of X G a8) k8 b8) (callee G10 rfl (by decide) (PySem.W.mg_of X G a10) k10 b10) (callee G1 rfl (by decide) (PySem.W.mg_of X G a1) k1 b1) (callee G9 rfl (by decide) (PySem.W.mg_of X G a9) k9 b9) (callee G7 rfl (by decide) (PySem.W.mg_of X G a7) k7 b7) (callee G11 rfl (by decide) (PySem.W.mg_of X G a11) k11 b11)
  exact FnOk.imp G12 (law_imp nl law_data)
end Lw_k83
open PySem PySem.W PyProof.Rows
set_option maxHeartbeats 0 in
theorem PySem.Challenge.cw_brackenway_k83_rules_of_races_holds : PySem.Challenge.rw_brackenway_k83_rules_of_races.Holds := by
  w_on; o_law; k_head; (case hw => w_witness2)
  k_fill
  refine Vw.walk_ofV (l := PySem.Challenge.rw_brackenway_k83_rules_of_races) (n := 63) (k := 20) (x := "script") (CX := fun _ => L2.CX0) (sp := fun w => Vw.spLaw _) rfl (by decide) rfl ⟨rfl, by decide, by decide⟩ (fun w h Y => PySem.W.kIn_of Y) ?O ?F (fun _ _ a ns hl _ ht hS => ⟨a, ns, rfl, hS, hl, ht, fun _ => rfl⟩) (fun _ _ _ _ _ h => h)
  case O => intro w; kernel_rfl
  case F =>
    intro w mg fa h KX G hmg
    refine' Lw_k83.all_mk KX G hmg ?a0 ?l0 ?c0 ?k0 ?a1 ?l1 ?c1 ?k1 ?a2 ?l2 ?c2 ?k2 ?a3 ?l3 ?c3 ?k3 ?a4 ?l4 ?c4 ?k4 ?a5 ?l5 ?c5 ?k5 ?a6 ?l6 ?c6 ?k6 ?a7 ?l7 ?c7 ?k7 ?a8 ?l8 ?c8 ?k8 ?a9 ?l9 ?c9 ?k9 ?a10 ?l10 ?c10 ?k10 ?a11 ?l11 ?c11 ?k11 ?a12 ?l12 ?c12 ?k12 ?w_MOST_LEGS ?w_MOST_PROTESTS ?w_MOST_RUNNERS ?aC0 ?xL0 ?sa0 ?ga0 ?gg0 ?na0 ?nb0 ?kC0 ?eC0 ?vC0 ?yC0 ?su0 ?op0 ?sl0 ?hC0 ?iC0 ?sC0 ?xa0 ?xb0 ?xc0 ?xd0 ?fI0 ?tI0 ?lI0 ?kI0 ?lc0 ?vf0 ?lx0 ?aV0 ?kI0x ?z_KINDS ?hsup ?htop ?y4 ?y9 ?zb ?nl
    (case a0 => k_is); (case l0 => k_is); (case c0 => k_is); (case k0 => k_is); (case a1 => k_is); (case l1 => k_is); (case c1 => k_is); (case k1 => k_is); (case a2 => k_is); (case l2 => k_is); (case c2 => k_is); (case k2 => k_is); (case a3 => k_is); (case l3 => k_is); (case c3 => k_is); (case k3 => k_is); (case a4 => k_is); (case l4 => k_is); (case c4 => k_is); (case k4 => k_is); (case a5 => k_is); (case l5 => k_is); (case c5 => k_is); (case k5 => k_is); (case a6 => k_is); (case l6 => k_is); (case c6 => k_is); (case k6 => k_is); (case a7 => k_is); (case l7 => k_is); (case c7 => k_is); (case k7 => k_is); (case a8 => k_is); (case l8 => k_is); (case c8 => k_is); (case k8 => k_is); (case a9 => k_is); (case l9 => k_is); (case c9 => k_is); (case k9 => k_is); (case a10 => k_is); (case l10 => k_is); (case c10 => k_is); (case k10 => k_is); (case a11 => k_is); (case l11 => k_is); (case c11 => k_is); (case k11 => k_is); (case a12 => k_is); (case l12 => k_is); (case c12 => k_is); (case k12 => k_is); (case w_MOST_LEGS => k_is); (case w_MOST_PROTESTS => k_is); (case w_MOST_RUNNERS => k_is); (case aC0 => first | k_is | rfl | kernel_rfl); (case xL0 => first | k_is | rfl | kernel_rfl); (case sa0 => first | k_is | rfl | kernel_rfl); (case ga0 => first | k_is | rfl | kernel_rfl); (case gg0 => first | k_is | rfl | kernel_rfl); (case na0 => first | k_is | rfl | kernel_rfl); (case nb0 => first | k_is | rfl | kernel_rfl); (case kC0 => first | k_is | rfl | kernel_rfl); (case eC0 => first | k_is | rfl | kernel_rfl); (case vC0 => first | k_is | rfl | kernel_rfl); (case yC0 => first | k_is | rfl | kernel_rfl); (case su0 => first | k_is | rfl | kernel_rfl); (case op0 => first | k_is | rfl | kernel_rfl); (case sl0 => first | k_is | rfl | kernel_rfl); (case hC0 => first | k_is | rfl | kernel_rfl); (case iC0 => first | k_is | rfl | kernel_rfl); (case sC0 => first | k_is | rfl | kernel_rfl); (case xa0 => first | k_is | rfl | kernel_rfl); (case xb0 => first | k_is | rfl | kernel_rfl); (case xc0 => first | k_is | rfl | kernel_rfl); (case xd0 => first | k_is | rfl | kernel_rfl); (case fI0 => first | k_is | rfl | kernel_rfl); (case tI0 => first | k_is | rfl | kernel_rfl); (case lI0 => first | k_is | rfl | kernel_rfl); (case kI0 => first | k_is | rfl | kernel_rfl); (case lc0 => first | k_is | rfl | kernel_rfl); (case vf0 => first | k_is | rfl | kernel_rfl); (case lx0 => first | k_is | rfl | kernel_rfl); (case aV0 => first | k_is | rfl | kernel_rfl); (case kI0x => first | k_is | rfl | kernel_rfl); (case z_KINDS => kernel_rfl); (case hsup => first | k_is | rfl | kernel_rfl); (case htop => first | rfl | kernel_rfl); (case y4 => first | rfl | kernel_rfl); (case y9 => first | rfl | kernel_rfl); (case zb => kernel_rfl); (case nl => kernel_rfl)
