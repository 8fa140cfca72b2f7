import PyProof.Rows.All
import Wide.All
import OpenK.AllK
import Wide.FinOn
import HandS.ForMost
import HandS.Exc
import HandS.TryOnly
import HandS.ExcOwn
import HandS.ExcField
import HandS.WordsExc
import KE.KExcSuper
import KE.KExcIs
import KE.KIsAll
import HandS.RaiseMore
import HandS.Star
import HandS.IsInst
import HandS.Codes
import HandS.NoneIn
import HandS.Steps
import HandS.Evl
import HandS.ExcIs
import HandS.Deep
import HandS.Defaults
import PySem.Challenge.RW_movedname_k03_rules_refused
set_option Elab.async false
set_option linter.all false
set_option maxRecDepth 100000
set_option maxHeartbeats 4000000
/-! # Own errors of the program: `class X(Base): def __init__(self, a): super().__init__(a); self.a = a` -/
namespace MnX
open PySem PySem.W PySem.Calls PyProof.Rows PySem.HandSPX
/-- the parameters, the body, the scope of such an __init__ -/
def iA (a : Str) (p1 p2 : Pos) : Arguments := { posonlyargs := [], args := [{ arg := "self", annotation := none, pos := p1 }, { arg := a, annotation := none, pos := p2 }], vararg := none, kwonlyargs := [], kw_defaults := [], kwarg := none, defaults := [] }
def iB (a : Str) (q0 q1 q2 q3 q4 q5 r0 r1 r2 r3 : Pos) : List Stmt :=
  [.Expr (.Call (.Attribute (.Call (.Name "super" q0) [] [] q1) "__init__" q2) [.Name a q3] [] q4) q5,
   .Assign [.Attribute (.Name "self" r0) a r1] (.Name a r2) r3]
def iS (a : Str) : Scope := { kind := .function, names := [(PySem.Str.ofString "self", .local), (a, .local), (PySem.Str.ofString "__class__", .free), (PySem.Str.ofString "super", .globalImplicit)], isGenerator := false, isCoroutine := false, more := [] }

/-- the super call stands on one line -/
def PlainSup (a : Str) (q0 q1 q2 q3 q4 : Pos) : Prop := ∀ env : Env, eval (.Call (.Attribute (.Call (.Name "super" q0) [] [] q1) "__init__" q2) [.Name a q3] [] q4) env = (do
      let ov ← attributeBase (.Call (.Name "super" q0) [] [] q1) "__init__" env (eval (.Call (.Name "super" q0) [] [] q1) env)
      standAt q2.atName
      let (f, first) ← holding [ov] (getMethod ov "__init__" (do return (← importBound (.Call (.Name "super" q0) [] [] q1) env).getD true))
      callWith q4 f first (backTo q4 (starEach [.Name a q3] env)) [])
theorem plain_tst : PlainSup "word" ⟨7, 8, 7, 13⟩ ⟨7, 8, 7, 15⟩ ⟨7, 8, 7, 24⟩ ⟨7, 25, 7, 29⟩ ⟨7, 8, 7, 30⟩ := fun _ => rfl
/-- what the written part says of the class at C (named cn, its one argument a) and of its __init__ at fI -/
structure SupTxt (prog : Program) (K : Frag) (mg : Str → Option Value) (cn qual a : Str) (C fI : Addr) : Prop where
  gC : mg cn = some (.ref C)
  noS : mg "super" = none
  cls : ∃ nm q N bs bm sn sub ab col dd k0 k1 k2 k3 k5, K.lookup C = some (excClassObj nm q C N bs bm true sn sub ab col dd k0 k1 k2 k3 k5 "ValueError.__new__") ∧ refsVE bm = true
  sup : ks_superIn K C C "__init__" = some (some (.builtin "ValueError.__init__"))
  sa : findIn K (.ref C) "__setattr__" = some (some (.builtin "object.__setattr__"))
  noN : findIn K (.ref C) a = some none
  iC : findIn K (.ref C) "__init__" = some (some (.ref fI))
  tC : typeIn K (.ref fI) = some (.type "function")
  kC : keepIn K (.ref C) = true
  subV : subIn K (.ref C) (.type "ValueError") = some true
  subC : mroIn K C (.ref C) = some true
  opq : nsIn K cStatics "thirdparty.any" = some none
  exC : subIn K (.ref C) (.type "BaseException") = some true
  tyC : typeIn K (.ref C) = some (.type "type")
  htop : (prog.main.scope.names.lookup ("super" : Str)).isSome = false
  fn : ∃ (oc : Value) (od : Option Addr) (doc pm : Value) (an : Option Addr) (cda cc : Addr) (ct : Value) (osl : Array (Option Value)) (p1 p2 q0 q1 q2 q3 q4 q5 r0 r1 r2 r3 : Pos)
    (ccl : Value) (cdd : Option Addr) (vs : Array Value) (ccs : Array (Option Value)) (file : Str) (tf : Tok) (cl : Value) (cld : Option Addr) (csl : Array (Option Value)),
    K.lookup fI = some ⟨oc, od, .func (ksFn "__init__" qual (iA a p1 p2) (iB a q0 q1 q2 q3 q4 q5 r0 r1 r2 r3) (iS a) .none .none doc pm an (.ref cda) ct cc), osl⟩ ∧ codeIn K (.ref cda) qual = true ∧
    K.lookup cda = some ⟨ccl, cdd, .fields vs, ccs⟩ ∧ vs[2]? = some (.str file tf) ∧ ((prog.main.file : Str) == file) = true ∧
    K.lookup cc = some ⟨cl, cld, .cell (some (.ref C)), csl⟩ ∧ PlainSup a q0 q1 q2 q3 q4
/-- the word a is an ordinary name -/
structure OkN (a : Str) : Prop where
  self : (a == ("self" : Str)) = false
  cls : (a == ("__class__" : Str)) = false
  sup : (a == ("super" : Str)) = false
  dbg : (a == ("__debug__" : Str)) = false
  bnd : ∀ (qual : Str) (p1 p2 q0 q1 q2 q3 q4 q5 r0 r1 r2 r3 : Pos) (doc pm : Value) (an : Option Addr) (cda cc : Addr) (ct : Value) (x : Addr) (v : Value),
    bindArgs (ksFn "__init__" qual (iA a p1 p2) (iB a q0 q1 q2 q3 q4 q5 r0 r1 r2 r3) (iS a) .none .none doc pm an (.ref cda) ct cc) ⟨[.ref x, v], []⟩ = pure [((PySem.Str.ofString "self" : Str), .ref x), (a, v)]
theorem okn_word : OkN "word" := ⟨by decide, by decide, by decide, by decide, fun _ _ _ _ _ _ _ _ _ _ _ _ _ _ _ _ _ _ _ _ _ => rfl⟩
theorem okn_at : OkN "at" := ⟨by decide, by decide, by decide, by decide, fun _ _ _ _ _ _ _ _ _ _ _ _ _ _ _ _ _ _ _ _ _ => rfl⟩

/-- what __init__ leaves of a fresh exception at x -/
structure InitEnd (h h' : Heap) (a : Str) (x C dx t1 : Addr) (v : Value) : Prop where
  keep : ∀ b o, b ≠ x → h.get? b = some o → h'.get? b = some o
  obj : h'.get? x = some { cls := .ref C, dict := some dx, data := .fields #[.ref t1, .none, .none, .none, .bool false, .none] }
  dbig : h.objs.size ≤ dx
  dne : dx ≠ x
  ns : h'.Ns1 dx (fun y => if y = a then some v else none)
/-- a made one -/
structure OwnMade (h h' : Heap) (a : Str) (e C d : Addr) (v : Value) : Prop where
  keep : ∀ b o, h.get? b = some o → h'.get? b = some o
  new : h.objs.size ≤ e
  obj : ∃ oe vs, h'.get? e = some oe ∧ oe.cls = .ref C ∧ oe.dict = some d ∧ oe.data = .fields vs ∧ vs[1]? = some .none
  dbig : h.objs.size ≤ d
  dne : d ≠ e
  ns : h'.Ns1 d (fun y => if y = a then some v else none)

section
variable {prog : Program} {w : World} {A : Around} {E : Value → Shared → Prop} {R : Result → Shared → Prop} {s : Shared} {K : Frag} {mg mb : Str → Option Value} {C fI : Addr} {cn qual a : Str}

/-- the bound built-in __init__ called on an exception that has no dict yet -/
theorem call_mw {h : Heap} {g : Array GenState} {d : Drawn} {t : Nat} {os : OsState} {u e t0 : Addr} {rest : List Value} {nm q : Str} {N : Addr} {bs bm : List Value} {hdct : Bool} {sn : List Str} {sub : List Value} {ab : Bool} {col : Option Bool} {dd : Option Addr} {k0 k1 k2 k3 k5 : Option Value} {Q : Value → Shared → Prop}
    (hC : h.get? C = some (excClassObj nm q C N bs bm hdct sn sub ab col dd k0 k1 k2 k3 k5 "ValueError.__new__")) (he : h.get? e = some (excO C t0)) (hu : h.get? u = some (kxs_mw "ValueError.__init__" e)) (hrest : rest.length ≤ sizeLine)
    (hq : ∀ h' t1, (∀ b o, b ≠ e → h.get? b = some o → h'.get? b = some o) → h'.get? e = some (excO C t1) → Q .none ⟨h', g, d, t, os⟩) :
    wpAny (model prog w) A (call (.ref u) rest) Q E ⟨h, g, d, t, os⟩ := by
  refine wpAny_call (codeAny_of_tree ?_)
  show wpAny _ A.in1 (callAny (.ref u) ⟨rest, []⟩) _ _ _
  simp only [callAny]
  refine wpAny_bind (wpAny_load hu ?_)
  simp only [kxs_mw, show (Value.type "method-wrapper" == Value.type "method" || Value.type "method-wrapper" == Value.type "builtin_function_or_method" || Value.type "method-wrapper" == Value.type "method-wrapper") = true by decide, if_true]
  refine KFB.if_so (by decide) ?_
  refine wpAny_bind (check_bound_init PySem.F.excBase_ValueError.toExcCallFacts hC he rfl ?_)
  refine wpAny_bind (wpAny_pure (wpAny_pure ?_))
  refine ⟨plainId_quiet PySem.F.excBase_ValueError.init.plain _, codeAny_builtin PySem.F.excBase_ValueError.initEntry ?_⟩
  exact exc_init_tree (cls := .ref C) (t0 := t0) (dv := none) (c2 := .none) (c3 := .none) (b4 := .bool false) he hrest fun h' k e' _ => hq h' _ k e'
end
end MnX
namespace MnX
open PySem PySem.W PySem.Calls PyProof.Rows PySem.HandSPX
section
variable {prog : Program} {w : World} {A : Around} {E : Value → Shared → Prop} {R : Result → Shared → Prop} {s : Shared} {K : Frag} {mg mb : Str → Option Value} {C fI : Addr} {cn qual a : Str}
theorem lk_self {a : Str} : (iS a).names.lookup ("self" : Str) = some .local := rfl
theorem lk_a {a : Str} (o : OkN a) : (iS a).names.lookup a = some .local := by
  show (match a == ("self" : Str) with | true => some NameKind.local | false => (match a == a with | true => some NameKind.local | false => _)) = _
  rw [o.self, beq_self_eq_true]
theorem lk_cls {a : Str} (o : OkN a) : (iS a).names.lookup ("__class__" : Str) = some .free := by
  have e : (("__class__" : Str) == a) = false := by
    rw [Bool.eq_false_iff]
    intro h
    have h2 := o.cls
    rw [beq_iff_eq] at h
    rw [← h] at h2
    simp at h2
  show (match ("__class__" : Str) == ("self" : Str) with | true => some NameKind.local | false => (match ("__class__" : Str) == a with | true => some NameKind.local | false => some NameKind.free)) = _
  rw [e, show (("__class__" : Str) == ("self" : Str)) = false by decide]
theorem lk_sup {a : Str} (o : OkN a) : (iS a).names.lookup ("super" : Str) = some .globalImplicit := by
  have e : (("super" : Str) == a) = false := by
    rw [Bool.eq_false_iff]
    intro h
    have h2 := o.sup
    rw [beq_iff_eq] at h
    rw [← h] at h2
    simp at h2
  show (match ("super" : Str) == ("self" : Str) with | true => some NameKind.local | false => (match ("super" : Str) == a with | true => some NameKind.local | false => (match ("super" : Str) == ("__class__" : Str) with | true => some NameKind.free | false => some NameKind.globalImplicit))) = _
  rw [e, show (("super" : Str) == ("self" : Str)) = false by decide, show (("super" : Str) == ("__class__" : Str)) = false by decide]
theorem one_size (v : Value) : [v].length ≤ sizeLine := by
  rw [sizeLine_eq]
  exact (by decide : 1 ≤ 16777216)

theorem low_init (T : SupTxt prog K mg cn qual a C fI) (o : OkN a) {x t0 : Addr} {v : Value} (X : K.In s.heap) (G : s.heap.Ns mainGlobals mg) (GB : s.heap.Ns builtinsNs mb) (hb : ∀ y : Str, y ≠ "__name__" → mb y = bootBuiltins y)
    (hlim : s.heap.NoLimit) (hx : s.heap.get? x = some (excO C t0)) (hnx : K.lookup x = none) (hroom : A.depth < recursionLimit)
    (hq : ∀ h' tk dx t1, InitEnd s.heap h' a x C dx t1 v → R (.ok (.ret .none)) { s with heap := h', toks := tk }) :
    codeAny (model prog w) A (.call (.ref fI) ⟨[.ref x, v], []⟩) R s := by
  obtain ⟨oc, od, doc, pm, an, cda, cc, ct, osl, p1, p2, q0, q1, q2, q3, q4, q5, r0, r1, r2, r3, ccl, cdd, vs, ccs, file, tf, cl, cld, csl, ho, hcd, hcode, hvs, hfile, hcell, hpl⟩ := T.fn
  obtain ⟨nm, q, N, bs, bm, sn, sub, ab, col, dd, k0, k1, k2, k3, k5, hC, hbm⟩ := T.cls
  have hcl : clsIn K C = some { name := nm, bases := bs, mro := .ref C :: bm, ns := N, qualname := q, hasDict := true, slotNames := sn, subclasses := sub, abstract := ab, collection := col, hasDel := false } := by unfold clsIn; rw [hC] <;> rfl
  refine ks_codeAny_call_defAt (fd := ksFn "__init__" qual (iA a p1 p2) (iB a q0 q1 q2 q3 q4 q5 r0 r1 r2 r3) (iS a) .none .none doc pm an (.ref cda) ct cc) (body := iB a q0 q1 q2 q3 q4 q5 r0 r1 r2 r3) (binds := [("self", .ref x), (a, v)])
    hroom (X _ _ ho) rfl hlim (codeRec_of X hcd) rfl (BindsTo.of_eq (o.bnd _ _ _ _ _ _ _ _ _ _ _ _ _ _ _ _ _ _ _ _ _)) (fun y hy => ?_) (fun y hy => ?_) (fun h₁ hns hk₁ => ?_) rfl rfl rfl
  · rcases List.mem_cons.mp hy with rfl | hy
    · intro z; cases z
    rcases List.mem_cons.mp hy with rfl | hy
    · intro z; cases z
    rcases List.mem_cons.mp hy with rfl | hy
    · intro z; cases z
    rcases List.mem_cons.mp hy with rfl | hy
    · intro z; cases z
    · cases hy
  · rcases List.mem_cons.mp hy with rfl | hy
    · exact lk_self
    rcases List.mem_cons.mp hy with rfl | hy
    · exact lk_a o
    · cases hy
  have X₁ : K.In h₁ := X.keeps hk₁
  have hx₁ := hk₁ _ _ hx
  have hC₁ : h₁.get? C = _ := X₁ _ _ hC
  have I : InstAt h₁ x (excO C t0) C none := ⟨hx₁, rfl, rfl, trivial⟩
  have hvS : (fun y => List.lookup y [((PySem.Str.ofString "self" : Str), Value.ref x), (a, v)].reverse) ("self" : Str) = some (.ref x) := by
    show (match ("self" : Str) == a with | true => some v | false => _) = _
    rw [show (("self" : Str) == a) = false by rw [Bool.eq_false_iff]; intro h; have h2 := o.self; rw [beq_iff_eq] at h; rw [← h] at h2; simp at h2]
    rfl
  have hvA : (fun y => List.lookup y [((PySem.Str.ofString "self" : Str), Value.ref x), (a, v)].reverse) a = some v := by
    show (match a == a with | true => some v | false => _) = _
    rw [beq_self_eq_true]
  refine ks_wpAt_execs_cons (ks_wpAt_Expr_any (ks_wpAt_MethodCall ?_ (hpl _)))
  refine ks_wpAt_super_base (lk_sup o) (lk_cls o) (by decide) rfl (X₁ _ _ ho) rfl rfl rfl (X₁ _ _ hcode) rfl hvs hfile T.htop ?_
  refine ks_loadName_global rfl (lk_sup o) (loadGlobal_builtin (G.keeps hk₁) T.noS (GB.keeps hk₁) ((hb _ (by decide +kernel)).trans (show bootBuiltins "super" = some (.type "super") by first | boot_by_name | rfl | kernel_rfl)) ⟨rfl, ?_⟩)
  refine wpAny_loadName_free rfl (lk_cls o) rfl ⟨_, X₁ _ _ hcell, rfl⟩ ?_
  refine wpAny_loadName_local rfl lk_self hns hvS ?_
  refine ks_wpAny_isType_cls hC₁ rfl ⟨rfl, ?_⟩
  refine ks_wpAny_call_super hC₁ rfl I.at_ I.cls (fun c e => by cases e) (looks_mroIn X₁ T.subC) (fun h₂ e₂ k₂ => ?_)
  have so₂ := e₂
  have hC₂ := k₂ _ _ hC₁
  have X₂ : K.In h₂ := X₁.keeps k₂
  have hx₂ := k₂ _ _ hx₁
  have I₂ : InstAt h₂ x (excO C t0) C none := ⟨hx₂, rfl, rfl, trivial⟩
  have hns₂ := hns.keeps k₂
  have hxC : x ≠ C := by
    rintro rfl
    rw [hx₂] at hC₂
    cases hC₂
  have hsup : alongIn K "__init__" (((Value.ref C :: bm).dropWhile (· != .ref C)).drop 1) = some (some (.builtin "ValueError.__init__")) := by
    have z := T.sup
    unfold ks_superIn at z
    rw [hcl] at z
    exact z
  refine kxs_getMethod kxs_ValueError so₂ (looks_opaque X₂ T.opq) (l₀ := Value.ref C :: bm) ?_ rfl X₂ hsup (I₂.type.andThen (looks_subIn X₂ T.subV)) hxC (by decide) ?_
  · exact fun A Q E s k q => wpAny_bind ((looks_clsIn X₂ hcl) A _ E s k (wpAny_pure q))
  have hu : (h₂.push (kxs_mw "ValueError.__init__" x)).get? h₂.objs.size = some (kxs_mw "ValueError.__init__" x) := Heap.get?_push_at rfl rfl
  have k₃ : ∀ b o, h₂.get? b = some o → (h₂.push (kxs_mw "ValueError.__init__" x)).get? b = some o := fun b o e => Heap.get?_push_of_some _ e
  refine kxs_callWith (i := "ValueError.__init__") (x := x) rfl (evalArgs_plain ?_)
  refine Calls.spliced_cons (wpAny_Name (wpAny_loadName_local rfl (lk_a o) (hns₂.keeps k₃) hvA ?_) o.dbg)
  refine Calls.spliced_nil ⟨hu, ?_⟩
  refine call_mw (k₃ _ _ hC₂) (k₃ _ _ hx₂) hu (one_size v) fun h₄ t1 k₄ hx₄ => ?_
  -- self.a = a
  have nL : s.heap.objs.size ≠ x := Nat.ne_of_gt (Heap.lt_size hx)
  have k₅ : ∀ b o, b ≠ x → h₂.get? b = some o → h₄.get? b = some o := fun b o hb e => k₄ b o hb (k₃ b o e)
  have X₄ : K.In h₄ := fun b o e => k₅ b o (fun z => by rw [z, hnx] at e; cases e) (X₂ b o e)
  have nL₂ : h₂.objs.size ≠ x := Nat.ne_of_gt (Heap.lt_size hx₂)
  have hns₄ : h₄.Ns s.heap.objs.size (fun y => List.lookup y [((PySem.Str.ofString "self" : Str), Value.ref x), (a, v)].reverse) := by
    obtain ⟨oL, es, ep, hL, r⟩ := hns₂
    exact ⟨oL, es, ep, k₅ _ _ nL hL, r⟩
  refine ks_wpAt_execs_cons (wpAt_of_wpAny ?_)
  refine plainObj_wpAny_Assign_Attribute ?_
  refine wpAny_Name (wpAny_loadName_local rfl (lk_a o) hns₄ hvA ?_) o.dbg
  refine wpAny_Name (wpAny_loadName_local rfl lk_self hns₄ hvS ?_) (by decide)
  refine set_plain X₄ (ox := excO C t1) (od := none) ⟨hx₄, rfl, rfl, trivial⟩ T.sa ?_
  refine exc_osa X₄ hx₄ hcl (show refsVE (.ref C :: bm) = true from hbm) rfl T.noN (fun h₆ tk₆ dx k₆ dn dne hx₆ hn₆ => ?_)
  refine wpAt_of_wpAny (wpAny_execs_nil ?_)
  have hz : s.heap.objs.size ≤ h₄.objs.size := Nat.le_of_lt (show s.heap.objs.size < h₄.objs.size from hns₄.lt)
  exact hq h₆ tk₆ dx t1 ⟨fun b o hb e => k₆ b o hb (k₅ b o hb (k₂ b o (hk₁ b o e))), hx₆, Nat.le_trans hz dn, dne, hn₆⟩

theorem low_made (T : SupTxt prog K mg cn qual a C fI) (o : OkN a) {v : Value} (X : K.In s.heap) (G : s.heap.Ns mainGlobals mg) (GB : s.heap.Ns builtinsNs mb) (hb : ∀ y : Str, y ≠ "__name__" → mb y = bootBuiltins y)
    (hlim : s.heap.NoLimit) (hroom : A.depth + 1 < recursionLimit)
    (hq : ∀ h' tk e d, OwnMade s.heap h' a e C d v → R (.ok (.ret (.ref e))) { s with heap := h', toks := tk }) :
    codeAny (model prog w) A (.call (.ref C) ⟨[v], []⟩) R s := by
  obtain ⟨nm, q, N, bs, bm, sn, sub, ab, col, dd, k0, k1, k2, k3, k5, hC, hbm⟩ := T.cls
  obtain ⟨hp, g, dr, tk, os⟩ := s
  have k : ∀ b o, hp.get? b = some o → ((hp.push (kdv_tup [v])).push (excO C hp.objs.size)).get? b = some o := fun b o e => Heap.get?_push_of_some _ (Heap.get?_push_of_some _ e)
  have hget : ((hp.push (kdv_tup [v])).push (excO C hp.objs.size)).get? (hp.objs.size + 1) = some (excO C hp.objs.size) := by heap_get
  have hnx : K.lookup (hp.objs.size + 1) = none := by
    cases e : K.lookup (hp.objs.size + 1) with
    | none => rfl
    | some o =>
      have z : hp.get? (hp.objs.size + 1) = some o := X _ _ e
      exact absurd (Nat.lt_of_succ_lt (Heap.lt_size z)) (Nat.lt_irrefl _)
  refine call_own F.excBase_ValueError (fun X => refsVE_contains X bm hbm) (X _ _ hC) (looks_findIn X T.iC) (fun self => bind_fn X self T.tC) (one_size v) ?_
  refine low_init (s := ⟨(hp.push (kdv_tup [v])).push (excO C hp.objs.size), g, dr, tk, os⟩) T o (X.keeps k) (G.keeps k) (GB.keeps k) hb (hlim.keeps k) hget hnx ?_ fun h' tk' dx t1 ⟨k', hx, dn, dne, hns⟩ => ?_
  · show A.depth + 1 < recursionLimit
    exact hroom
  · have old : ∀ b o, hp.get? b = some o → h'.get? b = some o := fun b o e => k' b o (Nat.ne_of_lt (Nat.lt_succ_of_lt (Heap.lt_size e))) (k b o e)
    have z : hp.objs.size + 1 + 1 ≤ dx := by
      first
        | (simpa only [Heap.size_push] using dn)
        | exact dn
        | (have q := dn; rw [Heap.size_push, Heap.size_push] at q; exact q)
    exact ⟨rfl, hq h' tk' (hp.objs.size + 1) dx ⟨old, Nat.le_succ _, ⟨_, _, hx, rfl, rfl, rfl, rfl⟩, Nat.le_trans (Nat.le_trans (Nat.le_succ _) (Nat.le_succ _)) z, dne, hns⟩⟩
end
end MnX
namespace L2
open PySem PySem.Spec PyProof.Rows
theorem relO_one {a : Str} {v : V} {v' : Value} (r : RelV v v') (f : Str) : RelO (List.lookup f [(a, v)]) (if f = a then some v' else none) := by
  by_cases hw : f = a
  · subst hw
    rw [if_pos rfl]
    have q : List.lookup f [(f, v)] = some v := by simp [List.lookup]
    rw [q]
    exact r
  · rw [if_neg hw]
    have qw : (f == a) = false := by simpa using hw
    have q2 : List.lookup f [(a, v)] = none := by simp [List.lookup, qw]
    rw [q2]
    trivial
section
variable {X : Cx} {C fI : Addr} {cn qual a : Str}
/-- cn(e), the class at C with its one field a -/
def tMkS (C : Addr) (a : Str) (ta : TA) : St → Hp → XK → Prop := fun σ H Q => ta σ H fun vs H1 => ∃ v, vs = [v] ∧ ∀ d, H1 d = none → Q (.ref C) (some d) (upd H1 d (.xd [(a, v)]))
theorem pmk_sup {e : Expr} {ta : TA} {p pos : Pos} {k : Nat} (T : MnX.SupTxt X.prog X.K X.mg cn qual a C fI) (o : MnX.OkN a) (hr : Room k X.A) (ha : PA X [e] ta) (hg : Gl X cn) (hdb : (cn == ("__debug__" : Str)) = false := by decide)
    (he : starEach (e :: []) X.env = (false, eval e X.env) :: starEach [] X.env := by rfl) (hpl : (backTo pos (starEach [] X.env)).any (·.1) = false := by rfl) :
    PMk X (.Call (.Name cn p) [e] [] pos) (tMkS C a ta) := by
  intro pins s σ H Q I h
  refine wpAny_Call_Name_kw (ld_glob I hg T.gC ?_ hdb)
  refine PySem.W.callWith_K (h₀ := X.base) I.ok.mod.kin T.kC (thn (ha.run pos pins s σ H _ I h) fun us s1 hh => ?_) he hpl
  obtain ⟨vs, H1, I1, r1, v, ev, q1⟩ := hh
  subst ev
  refine ⟨I1.kIn, ?_⟩
  cases r1 with
  | cons rv rn =>
    rename_i v' us'
    cases rn
    show wpAny _ _ (call (.ref C) [v']) _ _ _
    have hlim := I1.nolimit
    have G := I1.mod.glob.keeps I1.bk
    obtain ⟨mb, GB, hb⟩ := I1.mod.blt
    have GB' := GB.keeps I1.bk
    obtain ⟨hp, g, dr, tk, os⟩ := s1
    refine wpAny_call (MnX.low_made T o I1.kIn G GB' hb hlim (by have := hr.dp; omega) fun h' tk' e d M => ?_)
    show MkP X pins σ Q (.ref e) ⟨h', g, dr, tk', os⟩
    obtain ⟨oe, fv, hoe, hc, hd, hdat, h1⟩ := M.obj
    have hns := M.ns
    obtain ⟨G', g1, g2⟩ := restrict h' fun b => decide (b ≠ e)
    have gk : ∀ b, b ≠ e → G'.get? b = h'.get? b := fun b hb => g1 b (decide_eq_true hb)
    have ge : G'.get? e = none := g2 e (by simp)
    have old : ∀ b o, hp.get? b = some o → G'.get? b = some o := fun b o q => (gk b (Nat.ne_of_lt (Nat.lt_of_lt_of_le (Heap.lt_size q) M.new))).trans (M.keep b o q)
    have ob : ObjOk X.prog X.w (upd H1 d (.xd [(a, v)])) G' d (.xd [(a, v)]) :=
      ⟨_, hns.at (fun o q => (gk d M.dne).trans q), fun f => relO_one rv f⟩
    have J : Inv X pins σ (upd H1 d (.xd [(a, v)])) ⟨G', g, dr, tk', os⟩ := I1.laid (t' := tk') old M.dbig ob
    refine ⟨e, oe, fv, ⟨G', g, dr, tk', os⟩, _, .ref C, some d, rfl, J, fun b o q => ?_, ge, hoe, ⟨hc, hd⟩, hdat, h1, ?_, rfl, I1.bare, raises_own T.exC T.tyC, q1 d (I1.hok.fresh M.dbig)⟩
    · by_cases hb : b = e
      · have q' : G'.get? b = some o := q
        rw [hb, ge] at q'; cases q'
      · exact (gk b hb).symm.trans q
    · rw [upd_ne (Ne.symm M.dne)]
      exact I1.hok.fresh M.new
/-- raise cn(e) -/
theorem ps_raiseS {e : Expr} {ta : TA} {W : WX} {p pos pos2 : Pos} {k : Nat} (hc : X.calm = true) (T : MnX.SupTxt X.prog X.K X.mg cn qual a C fI) (o : MnX.OkN a) (hr : Room k X.A) (tk : Takes X W) (ha : PA X [e] ta) (hg : Gl X cn := by rfl) (hdb : (cn == ("__debug__" : Str)) = false := by decide)
    (he : starEach (e :: []) X.env = (false, eval e X.env) :: starEach [] X.env := by rfl) (hpl : (backTo pos (starEach [] X.env)).any (·.1) = false := by rfl) :
    PS X (.Raise (some (.Call (.Name cn p) [e] [] pos)) none pos2) (fun _ σ H => tMkS C a ta σ H fun cls d H' => W cls d σ H') := ps_raise hc tk (pmk_sup T o hr ha hg hdb he hpl)
/-- isinstance(e, c), e the exception that the suite holds at a0, its own dict dd -/
def rIsD (K : PySem.W.Frag) (D a0 : Addr) (cls : Value) (d : Option Addr) : List V → Hp → VK → Prop := fun xs H Q => ∃ (c : V) (cv : Value) (b : Bool) (dd : Addr) (fs : List (Str × V)), cls = .ref D ∧ d = some dd ∧ xs = [.ref a0, c] ∧ (∀ u, RelV c u → u = cv) ∧ H dd = some (.xd fs) ∧ PySem.W.kitOne K (.ref D) cv = some b ∧ Q (.bl b) H
structure ExcD (K : PySem.W.Frag) (D : Addr) : Prop where
  hc : (PySem.W.clsIn K D).isSome = true
  hg : PySem.W.findIn K (.ref D) "__getattribute__" = some (some (.builtin "BaseException.__getattribute__"))
  hk : PySem.W.findIn K (.ref D) "__getattr__" = some none
  hs : PySem.W.subIn K (.ref D) (.type "BaseException") = some true
  ha : PySem.W.findIn K (.ref D) "__class__" = some (some (.builtin "object.__class__"))
  hn : PySem.W.specialIn K (.builtin "object.__class__") "__get__" = some (some (.builtin "getset_descriptor.__get__"))
  ht : PySem.W.takesIn K (.builtin "object.__class__") = some true
  hm : PySem.W.mroIn K D (.type "object") = some true
theorem call_isD {a0 D : Addr} {oe : Obj} {cls : Value} {d : Option Addr} {pn : List (Addr × Obj)} (C : ExcD X.K D) (hz : Zc cls d oe) (hf : ∃ vs, oe.data = .fields vs) : CallR (X.suite a0 ((a0, oe) :: pn)) (.builtin "isinstance") (rIsD X.K D a0 cls d) := by
  intro pins s σ H xs us Q I r h
  obtain ⟨c, cv, b, dd, fs, rfl, rfl, rfl, hcv, hdd, e, q⟩ := h
  cases r with
  | cons rx rr =>
    cases rr with
    | cons rt rr =>
      cases rr
      cases rx
      have ec := hcv _ rt
      subst ec
      obtain ⟨hget, _⟩ := I.pin (a0, oe) (List.mem_append.mpr (.inl List.mem_cons_self))
      obtain ⟨vs, hv⟩ := hf
      have hx : ObjOk X.prog X.w H s.heap dd (.xd fs) := I.hok dd _ hdd
      obtain ⟨mA, hns, hr⟩ := hx
      obtain ⟨od, ho, hl⟩ := lookIn_ns hns
      have J : PySem.W.InstAt s.heap a0 oe D (some od) := by
        obtain ⟨oc, odi, oda, osl⟩ := oe
        obtain ⟨h1, h2⟩ := hz
        dsimp only at h1 h2 hv
        subst h1 h2 hv
        exact ⟨hget, rfl, rfl, ho⟩
      exact PySem.W.kia_one (PySem.W.kitx_exc C.hc C.hg C.hk C.hs C.ha C.hn C.ht C.hm) I.kIn J e (fun z => nomatch z) fun tk => ⟨.bl b, H, I.kept (t' := tk) fun _ _ z => z, rfl, q⟩
end
end L2
namespace L2
open PySem PySem.Spec PyProof.Rows
section
variable {X : Cx}
/-- repr of None, of a bool, of a text -/
def reprV : V → Str
  | .non => "None"
  | .bl b => if b then "True" else "False"
  | .str x => reprText x
  | _ => Str.empty
theorem call_reprS : CallR X (.builtin "repr") (fun xs H Q => ∃ x, xs = [x] ∧ (x = .non ∨ (∃ b, x = .bl b) ∨ ∃ s, x = .str s ∧ (reprText s).length ≤ sizeLine) ∧ Q (.str (reprV x)) H) := by
  intro pins s σ H xs us Q I r h
  obtain ⟨x, rfl, hx, q⟩ := h
  obtain ⟨u, rfl, ru⟩ := vals1 r
  rcases hx with rfl | ⟨b, rfl⟩ | ⟨z, rfl, hz⟩
  · cases (show u = Value.none from ru)
    exact PySem.P.repr_of_none ⟨.str _, H, I.tok _, ⟨_, rfl⟩, q⟩
  · cases (show u = Value.bool b from ru)
    exact PySem.P.repr_of_bool ⟨.str _, H, I.tok _, ⟨_, rfl⟩, q⟩
  · obtain ⟨t, rfl⟩ := (show ∃ t, u = Value.str z t from ru)
    exact PySem.P.repr_of_str ⟨.str _, H, I.tok _, ⟨_, rfl⟩, q⟩ hz
/-- str of an int, of a text -/
def StrV (x : V) (t : Str) : Prop := (∃ i : Int, x = .int i ∧ i.natAbs.log2 < 1920 ∧ t = Str.ofString (toString i)) ∨ x = .str t
theorem call_str2 : CallR X (.type "str") (fun xs H Q => ∃ x t, xs = [x] ∧ StrV x t ∧ Q (.str t) H) := by
  intro pins s σ H xs us Q I r h
  obtain ⟨x, t, rfl, h, q⟩ := h
  rcases h with ⟨i, rfl, hi, rfl⟩ | rfl
  · exact call_str_int pins s σ H _ us Q I r ⟨i, rfl, hi, q⟩
  · exact SkE.call_str_str pins s σ H _ us Q I r ⟨t, rfl, q⟩
end
/-! ### new objects, told by what they leave -/
theorem Same.nw {H : Hp} {p : Addr} {o : HO} (hp : H p = none) : Same H (upd H p o) := fun b u e => by rw [upd_ne (ne_of_none e hp)]; exact e
/-- a new tuple, a new list -/
def NewT (xs : List V) (H : Hp) (Q : VK) : Prop := ∀ p H2, H p = none → Same H H2 → H2 p = some (.tup xs) → Q (.ref p) H2
def NewL (xs : List V) (H : Hp) (Q : VK) : Prop := ∀ p H2, H p = none → Same H H2 → H2 p = some (.lst xs) → Q (.ref p) H2
theorem NewT.at {xs : List V} {H : Hp} {Q : VK} (n : NewT xs H Q) : ∀ p, H p = none → Q (.ref p) (upd H p (.tup xs)) := fun p hp => n p _ hp (Same.nw hp) upd_same
theorem NewL.at {xs : List V} {H : Hp} {Q : VK} (n : NewL xs H Q) : ∀ p, H p = none → Q (.ref p) (upd H p (.lst xs)) := fun p hp => n p _ hp (Same.nw hp) upd_same
def tTupN (t : TA) : TE := fun σ H Q => t σ H fun xs H1 => xs.length ≤ sizeLine ∧ NewT xs H1 Q
def tLstN (t : TA) : TE := fun σ H Q => t σ H fun xs H1 => xs.length ≤ sizeLine ∧ NewL xs H1 Q
section
variable {X : Cx} {es : List Expr} {t : TA} {pos : Pos}
theorem pe_tupN {x1} (h : PA X es t) : PE X (.Tuple es x1 pos) (tTupN t) := ⟨fun pins s σ H Q I hq => by
  refine wpAny_Tuple_spliced (thn (h.run pos pins s σ H _ I hq) fun us s1 ⟨xs, H1, I1, r, z, q⟩ => ⟨by rw [← r.length]; exact z, ?_⟩)
  have hf : H1 s1.heap.objs.size = none := I1.hok.fresh (Nat.le_refl _)
  exact ⟨.ref s1.heap.objs.size, upd H1 s1.heap.objs.size (.tup xs), I1.laid (t' := s1.toks) (fun b u e => Heap.get?_push_of_some _ e) (Nat.le_refl _) ⟨z, us, r, ⟨_, Heap.get?_push_size _ rfl, rfl, _, rfl⟩⟩, rfl, q.at _ hf⟩⟩
theorem pe_lstN (h : PA X es t) : PE X (.List es pos) (tLstN t) := ⟨fun pins s σ H Q I hq => by
  refine wpAny_List_spliced (thn (h.run pos pins s σ H _ I hq) fun us s1 ⟨xs, H1, I1, r, z, q⟩ => ⟨by rw [← r.length]; exact z, ?_⟩)
  have hf : H1 s1.heap.objs.size = none := I1.hok.fresh (Nat.le_refl _)
  exact ⟨.ref s1.heap.objs.size, upd H1 s1.heap.objs.size (.lst xs), I1.laid (t' := s1.toks) (fun b u e => Heap.get?_push_of_some _ e) (Nat.le_refl _) ⟨z, us, 0, r, Heap.get?_push_size _ rfl⟩, rfl, q.at _ hf⟩⟩
theorem CallR.imp {f : Value} {r r' : List V → Hp → VK → Prop} (h : CallR X f r) (i : ∀ xs H Q, r' xs H Q → r xs H Q) : CallR X f r' := fun pins s σ H xs us Q I rv q => h pins s σ H xs us Q I rv (i _ _ _ q)
theorem call_listN : CallR X (.type "list") (fun xs H Q => ∃ p ys, xs = [.ref p] ∧ (SqL X.K H p ys ∨ SqT X.K H p ys) ∧ NewL ys H Q) := CallR.imp call_list_of fun xs H Q ⟨p, ys, e, h, n⟩ => ⟨p, ys, e, h, n.at⟩
/-- tuple of a list -/
theorem call_tupleN : CallR X (.type "tuple") (fun xs H Q => ∃ p ys, xs = [.ref p] ∧ SqL X.K H p ys ∧ NewT ys H Q) := CallR.imp call_tuple_of fun xs H Q ⟨p, ys, e, h, n⟩ => ⟨p, ys, e, .inl ⟨h, n.at⟩⟩
end
/-! ### defs that may raise, packed -/
structure Cl (P : Program) (w : World) (K : PySem.W.Frag) (mg : Str → Option Value) (base : Heap) (k : Nat) (x : Str) (sp : Sp) : Prop where
  ex : ∃ (f : Addr) (fd : FuncData) (ps : List Str), FnOk P w K mg base (L2.CX P w) k f fd ps sp ∧ mg x = some (.ref f) ∧ PySem.W.keepIn K (.ref f) = true ∧ Binds K fd ps []
theorem Cl.mono {P : Program} {w : World} {K : PySem.W.Frag} {mg : Str → Option Value} {base : Heap} {j k : Nat} {x : Str} {sp : Sp} (c : Cl P w K mg base j x sp) (h : j ≤ k) : Cl P w K mg base k x sp := by
  obtain ⟨f, fd, ps, F, r⟩ := c.ex
  exact ⟨f, fd, ps, F.mono h, r⟩
/-- where a def stands -/
structure At (K : PySem.W.Frag) (mg : Str → Option Value) (x : Str) (st : Stmt) (f : Addr) (fd : FuncData) : Prop where
  fn : Fun K x x st f fd
  mgf : mg x = some (.ref f)
section
variable {X : Cx} {k j : Nat} {x : Str} {sp : Sp} {p pos : Pos} {e : Expr} {es : List Expr} {t : TA}
theorem pe_bty (n : String) (hg : Gl X x) (hm : X.mg x = none) (hv : bootBuiltins x = some (.type n)) (hn : x ≠ "__name__" := by decide) (hd : (x == ("__debug__" : Str)) = false := by decide) : PE X (.Name x pos) (tC (.ty n)) := pe_bltn hg hm hv rfl hn hd
theorem pe_gc {v : V} (hg : Gl X x) (h : ∃ u, X.mg x = some u ∧ RelV v u) (hd : (x == ("__debug__" : Str)) = false := by decide) : PE X (.Name x pos) (tC v) := by
  obtain ⟨u, hm, r⟩ := h
  exact pe_glob hg hm r hd
/-- a call that lets nothing out -/
theorem pe_k0 (c : Cl X.prog X.w X.K X.mg X.base k x sp) (hr : Room j X.A) (hk : k ≤ j) (hg : Gl X x) (ha : PA X (e :: es) t)
    (hdb : (x == ("__debug__" : Str)) = false := by decide) (he : starEach (e :: es) X.env = (false, eval e X.env) :: starEach es X.env := by rfl) (hpl : (backTo pos (starEach es X.env)).any (·.1) = false := by rfl) :
    PE X (.Call (.Name x p) (e :: es) [] pos) (tCall sp [] E0 t) := by
  obtain ⟨f, fd, ps, F, hm, kp, b⟩ := c.ex
  exact pe_call F (hr.mono hk) hg hm kp b .nil passL ha hdb he hpl
theorem pe_k0n (c : Cl X.prog X.w X.K X.mg X.base k x sp) (hr : Room j X.A) (hk : k ≤ j) (hg : Gl X x) (hdb : (x == ("__debug__" : Str)) = false := by decide) :
    PE X (.Call (.Name x p) [] [] pos) (tCall sp [] E0 tNil) := by
  obtain ⟨f, fd, ps, F, hm, kp, b⟩ := c.ex
  exact pe_call0 F (hr.mono hk) hg hm kp b .nil passL hdb
/-- a call whose error is handed on: W, what is wished of it here -/
theorem pe_kE {E : XK} {W : WX} (c : Cl X.prog X.w X.K X.mg X.base k x sp) (tk : Takes X W) (hW : ∀ cls d σ H, E cls d H → W cls d σ H) (hr : Room j X.A) (hk : k ≤ j) (hg : Gl X x) (ha : PA X (e :: es) t)
    (hdb : (x == ("__debug__" : Str)) = false := by decide) (he : starEach (e :: es) X.env = (false, eval e X.env) :: starEach es X.env := by rfl) (hpl : (backTo pos (starEach es X.env)).any (·.1) = false := by rfl) :
    PE X (.Call (.Name x p) (e :: es) [] pos) (tCall sp [] E t) := by
  obtain ⟨f, fd, ps, F, hm, kp, b⟩ := c.ex
  exact pe_call F (hr.mono hk) hg hm kp b .nil (passes_call tk hW) ha hdb he hpl
end
section
variable {σ : St} {H : Hp} {D : Ends} {c : TT} {t u rest : TS} {b : Bool}
/-- an if whose test comes to b, the heap as it was -/
theorem seq_if (b : Bool) (h : ∀ Q : Bool → Hp → Prop, Q b H → c σ H Q) (h1 : b = true → t { D with nx := rest D } σ H) (h2 : b = false → u { D with nx := rest D } σ H) : tSeq (tIfS c t u) rest D σ H := by
  refine h _ ?_
  show if b = true then _ else _
  cases b with
  | true => exact h1 rfl
  | false => exact h2 rfl
theorem seq_when (b : Bool) (h : ∀ Q : Bool → Hp → Prop, Q b H → c σ H Q) (h1 : b = true → t { D with nx := rest D } σ H) (h2 : b = false → rest D σ H) : tSeq (tIfS c t tNext) rest D σ H := seq_if b h h1 h2
theorem one_if (b : Bool) (h : ∀ Q : Bool → Hp → Prop, Q b H → c σ H Q) (h1 : b = true → t D σ H) (h2 : b = false → u D σ H) : tIfS c t u D σ H := by
  refine h _ ?_
  show if b = true then _ else _
  cases b with
  | true => exact h1 rfl
  | false => exact h2 rfl
/-- the same where the test makes objects -/
theorem seq_ifX (b : Bool) (R : Hp → Prop) (h : ∀ Q : Bool → Hp → Prop, (∀ H', R H' → Q b H') → c σ H Q) (h1 : b = true → ∀ H', R H' → t { D with nx := rest D } σ H') (h2 : b = false → ∀ H', R H' → u { D with nx := rest D } σ H') : tSeq (tIfS c t u) rest D σ H := by
  refine h _ fun H' r => ?_
  show if b = true then _ else _
  cases b with
  | true => exact h1 rfl H' r
  | false => exact h2 rfl H' r
theorem seq_whenX (b : Bool) (R : Hp → Prop) (h : ∀ Q : Bool → Hp → Prop, (∀ H', R H' → Q b H') → c σ H Q) (h1 : b = true → ∀ H', R H' → t { D with nx := rest D } σ H') (h2 : b = false → ∀ H', R H' → rest D σ H') : tSeq (tIfS c t tNext) rest D σ H := seq_ifX b R h h1 h2
theorem two_fits : 2 ≤ sizeLine := by rw [sizeLine_eq]; decide
theorem fits (n : Nat) (h : n ≤ 10000 := by decide) : n ≤ sizeLine := Nat.le_trans h (by rw [sizeLine_eq]; decide)
theorem iteB {b : Bool} {A B : Prop} (h1 : b = true → A) (h2 : b = false → B) : if b = true then A else B := by
  cases b with
  | true => exact iteT (h1 rfl)
  | false => exact iteF (h2 rfl)
theorem iteNB {b : Bool} {A B : Prop} (h1 : b = false → A) (h2 : b = true → B) : if (!b) = true then A else B := by
  cases b with
  | true => exact iteF (h2 rfl)
  | false => exact iteT (h1 rfl)
end
end L2
namespace Mn
open PySem L2
/-! ### the box of draws -/
def BoxAt (H : Hp) (b : Addr) : Prop := ∃ w s c : Int, H b = some (.lst [.int w, .int s, .int c])
/-- all but b stands; b is a box -/
structure Bx (b : Addr) (H H' : Hp) : Prop where
  keep : ∀ a o, a ≠ b → H a = some o → H' a = some o
  box : BoxAt H' b
theorem Bx.trans {b : Addr} {H H1 H2 : Hp} (x : Bx b H H1) (y : Bx b H1 H2) : Bx b H H2 := ⟨fun a o n h => y.keep a o n (x.keep a o n h), y.box⟩
theorem Bx.refl {b : Addr} {H : Hp} (h : BoxAt H b) : Bx b H H := ⟨fun _ _ _ h => h, h⟩
theorem Bx.new {b p : Addr} {o : HO} {H : Hp} (h : BoxAt H b) (hp : H p = none) : Bx b H (upd H p o) := by
  obtain ⟨w, s, c, h⟩ := h
  exact ⟨fun a u _ q => by rw [upd_ne (ne_of_none q hp)]; exact q, w, s, c, by rw [upd_ne (ne_of_none h hp)]; exact h⟩
theorem Bx.put {b : Addr} {w s c : Int} {H : Hp} : Bx b H (upd H b (.lst [.int w, .int s, .int c])) := ⟨fun a u n q => by rw [upd_ne n]; exact q, w, s, c, upd_same⟩
theorem Bx.free {b p : Addr} {H H' : Hp} (x : Bx b H H') (hb : BoxAt H b) (h : H' p = none) : H p = none := by
  cases q : H p with
  | none => rfl
  | some o =>
    by_cases e : p = b
    · obtain ⟨_, _, _, z⟩ := x.box
      rw [e, z] at h
      cases h
    · rw [x.keep p o e q] at h
      cases h
theorem box_ne {H : Hp} {a b : Addr} (h : BoxAt H b) (hn : H a = none) : a ≠ b := by
  rintro rfl
  obtain ⟨_, _, _, z⟩ := h
  rw [z] at hn
  cases hn
theorem Bx.lst {b l : Addr} {H H' : Hp} {K : PySem.W.Frag} {xs : List V} (x : Bx b H H') (n : l ≠ b) (h : SqL K H l xs) : SqL K H' l xs := by
  rcases h with (h | ⟨o, h⟩) | h
  · exact .inl (.inl (x.keep _ _ n h))
  · exact .inl (.inr ⟨o, x.keep _ _ n h⟩)
  · exact .inr h
theorem Bx.tup {b l : Addr} {H H' : Hp} {K : PySem.W.Frag} {xs : List V} (x : Bx b H H') (n : l ≠ b) (h : SqT K H l xs) : SqT K H' l xs := by
  rcases h with (h | ⟨o, h⟩) | h
  · exact .inl (.inl (x.keep _ _ n h))
  · exact .inl (.inr ⟨o, x.keep _ _ n h⟩)
  · exact .inr h
theorem Bx.of_same {b : Addr} {H H' : Hp} (hb : BoxAt H b) (e : Same H H') : Bx b H H' := by
  obtain ⟨w, s, c, h⟩ := hb
  exact ⟨fun a o _ q => e a o q, w, s, c, e _ _ h⟩
theorem BoxAt.same {b : Addr} {H H' : Hp} (hb : BoxAt H b) (e : Same H H') : BoxAt H' b := (Bx.of_same hb e).box
/-- take: a number from 0 to many - 1 -/
def spTake : Sp := fun vs H Q _ => ∃ (b : Addr) (n : Int), vs = [.ref b, .int n] ∧ 0 < n ∧ n < 1000000 ∧ BoxAt H b ∧ ∀ d H', 0 ≤ d → d < n → Bx b H H' → Q (.int d) H'
/-- pick: one of a list -/
def spPick (K : PySem.W.Frag) : Sp := fun vs H Q _ => ∃ (b l : Addr) (xs : List V), vs = [.ref b, .ref l] ∧ BoxAt H b ∧ l ≠ b ∧ SqL K H l xs ∧ 0 < xs.length ∧ xs.length < 1000000 ∧ ∀ (i : Nat) (x : V) (H' : Hp), xs[i]? = some x → Bx b H H' → Q x H'
/-- box: a new one for a cell of the script -/
def spBox (K : PySem.W.Frag) : Sp := fun vs H Q _ => ∃ (a : Addr) (ns : List Int) (k : Int), vs = [.ref a, .int k] ∧ SqL K H a (ns.map V.int) ∧ ns.length ≤ 1000 ∧ 0 ≤ k ∧ k ≤ 1000 ∧ ∀ p H', H p = none → Same H H' → BoxAt H' p → Q (.ref p) H'
end Mn
namespace L2
open PySem PySem.Spec PyProof.Rows
section
variable {X : Cx} {CX : CXT} {k : Nat} {f C : Addr} {fd : FuncData} {ps : List Str} {sp : Sp} {dvs : List V} {ds : List Value} {E : St → XK} {x : Str} {p pos : Pos} {e : Expr} {es : List Expr} {t : TA}
/-- C(e, ..) where what is raised is wished for at the caller's slots -/
def tMakeS (C : Addr) (sp : Sp) (dvs : List V) (E : St → XK) (t : TA) : TE := fun σ H Q => t σ H fun vs H1 => ∀ x dx, H1 x = none → H1 dx = none → dx ≠ x →
  sp (.ref x :: (vs ++ dvs)) (upd (upd H1 dx (.own x)) x (.ins C dx [])) (fun v H2 => v = .non ∧ Q (.ref x) H2) (E σ)
theorem run_makeS {pins : List (Addr × Obj)} {σ : St} {H : Hp} {s : Shared} {Q : VK} {us : List Value} {vs : List V} (M : Mk X.K C f) (F : FnOk X.prog X.w X.K X.mg X.base CX k f fd ps sp) (hr : Room (k + 1) X.A) (hb : Binds X.K fd ps ds) (hd : Vals dvs ds)
    (hx : PassesAt CX X σ (E σ)) (I : Inv X pins σ H s) (r : Vals vs us)
    (h : ∀ x dx, H x = none → H dx = none → dx ≠ x → sp (.ref x :: (vs ++ dvs)) (upd (upd H dx (.own x)) x (.ins C dx [])) (fun v H2 => v = .non ∧ Q (.ref x) H2) (E σ)) :
    wpAny (model X.prog X.w) X.A (call (.ref C) us) (EP X pins σ Q) X.xe s := by
  have hq := h (s.heap.objs.size + 1) s.heap.objs.size (I.hok.fresh (Nat.le_succ _)) (I.hok.fresh (Nat.le_refl _)) (Nat.ne_of_lt (Nat.lt_succ_self _))
  have I2 := Inv.made (C := C) I
  have r2 : Vals (V.ref (s.heap.objs.size + 1) :: (vs ++ dvs)) (Value.ref (s.heap.objs.size + 1) :: (us ++ ds)) := .cons rfl (r.append hd)
  have hl : (Value.ref (s.heap.objs.size + 1) :: us ++ ds).length = ps.length := by
    have e := r2.length
    rw [F.len _ _ _ _ hq] at e
    exact e.symm
  refine wpAny_call (make_map (f := f) I.kIn M.makes M.init (beq_iff_eq.mp M.fn) (codeAny_mono (F.run _ X.stack _ _ ⟨Value.ref (s.heap.objs.size + 1) :: us, []⟩ (Value.ref (s.heap.objs.size + 1) :: (us ++ ds)) _ _ (E σ) (hr.make C us [])
    (I2.env0.make C us []) (hb _ (Value.ref (s.heap.objs.size + 1) :: us) I2.kIn hl) r2 hq) fun r s' hq' => ?_))
  cases r with
  | error e => exact hx pins _ _ e s' I2 hq'
  | ok fl =>
    cases fl with
    | ret u =>
      obtain ⟨v, H', I3, rv, ev, q3⟩ := I2.after hq'
      subst ev
      exact ⟨rv, ⟨V.ref (s.heap.objs.size + 1), H', I3, rfl, q3⟩⟩
    | next => exact False.elim hq'
    | brk => exact False.elim hq'
    | cont => exact False.elim hq'
theorem pe_makeS (M : Mk X.K C f) (F : FnOk X.prog X.w X.K X.mg X.base CX k f fd ps sp) (hr : Room (k + 1) X.A) (hg : Gl X x) (hm : X.mg x = some (.ref C)) (hb : Binds X.K fd ps ds) (hd : Vals dvs ds) (hx : ∀ σ, PassesAt CX X σ (E σ))
    (ha : PA X (e :: es) t) (hdb : (x == ("__debug__" : Str)) = false := by decide) (he : starEach (e :: es) X.env = (false, eval e X.env) :: starEach es X.env := by rfl) (hpl : (backTo pos (starEach es X.env)).any (·.1) = false := by rfl) :
    PE X (.Call (.Name x p) (e :: es) [] pos) (tMakeS C sp dvs E t) := by
  refine ⟨fun pins s σ H Q I h => ?_⟩
  refine wpAny_Call_Name_kw (ld_glob I hg hm ?_ hdb)
  refine PySem.W.callWith_K (h₀ := X.base) I.ok.mod.kin M.kp (thn (ha.run pos pins s σ H _ I h) fun us s1 ⟨vs, H1, I1, r, q⟩ => ⟨I1.kIn, ?_⟩) he hpl
  exact run_makeS M F hr hb hd (hx σ) I1 r q
end
/-! ### classes of the program, packed: the class x stands at C, its __init__ keeps sp -/
structure Mc (P : Program) (w : World) (K : PySem.W.Frag) (mg : Str → Option Value) (base : Heap) (k : Nat) (x : Str) (C : Addr) (n : Nat) (sp : Sp) (dvs : List V) : Prop where
  ex : ∃ (f : Addr) (fd : FuncData) (ps : List Str) (ds : List Value), Mk K C f ∧ FnOk P w K mg base (L2.CX P w) k f fd ps sp ∧ mg x = some (.ref C) ∧ Binds K fd ps ds ∧ Vals dvs ds
section
variable {X : Cx} {k j n : Nat} {C : Addr} {x : Str} {sp : Sp} {dvs : List V} {p pos : Pos} {e : Expr} {es : List Expr} {t : TA}
theorem pe_cm0 (c : Mc X.prog X.w X.K X.mg X.base k x C n sp dvs) (hr : Room j X.A) (hk : k + 1 ≤ j) (hg : Gl X x) (ha : PA X (e :: es) t)
    (hdb : (x == ("__debug__" : Str)) = false := by decide) (he : starEach (e :: es) X.env = (false, eval e X.env) :: starEach es X.env := by rfl) (hpl : (backTo pos (starEach es X.env)).any (·.1) = false := by rfl) :
    PE X (.Call (.Name x p) (e :: es) [] pos) (tMake C sp dvs E0 t) := by
  obtain ⟨f, fd, ps, ds, M, F, hm, b, d⟩ := c.ex
  exact pe_make M F (hr.mono hk) hg hm b d passL ha hdb he hpl
theorem pe_cm0n (c : Mc X.prog X.w X.K X.mg X.base k x C n sp dvs) (hr : Room j X.A) (hk : k + 1 ≤ j) (hg : Gl X x) (hdb : (x == ("__debug__" : Str)) = false := by decide) :
    PE X (.Call (.Name x p) [] [] pos) (tMake C sp dvs E0 tNil) := by
  obtain ⟨f, fd, ps, ds, M, F, hm, b, d⟩ := c.ex
  exact pe_make0 M F (hr.mono hk) hg hm b d passL hdb
theorem pe_cmE {E : XK} {W : WX} (c : Mc X.prog X.w X.K X.mg X.base k x C n sp dvs) (tk : Takes X W) (hW : ∀ cls d σ H, E cls d H → W cls d σ H) (hr : Room j X.A) (hk : k + 1 ≤ j) (hg : Gl X x) (ha : PA X (e :: es) t)
    (hdb : (x == ("__debug__" : Str)) = false := by decide) (he : starEach (e :: es) X.env = (false, eval e X.env) :: starEach es X.env := by rfl) (hpl : (backTo pos (starEach es X.env)).any (·.1) = false := by rfl) :
    PE X (.Call (.Name x p) (e :: es) [] pos) (tMake C sp dvs E t) := by
  obtain ⟨f, fd, ps, ds, M, F, hm, b, d⟩ := c.ex
  exact pe_make M F (hr.mono hk) hg hm b d (passes_call tk hW) ha hdb he hpl
/-- in a try's body -/
theorem pe_cmS {W : WX} (c : Mc X.prog X.w X.K X.mg X.base k x C n sp dvs) (tk : Takes X W) (hr : Room j X.A) (hk : k + 1 ≤ j) (hg : Gl X x) (ha : PA X (e :: es) t)
    (hdb : (x == ("__debug__" : Str)) = false := by decide) (he : starEach (e :: es) X.env = (false, eval e X.env) :: starEach es X.env := by rfl) (hpl : (backTo pos (starEach es X.env)).any (·.1) = false := by rfl) :
    PE X (.Call (.Name x p) (e :: es) [] pos) (tMakeS C sp dvs (WE W) t) := by
  obtain ⟨f, fd, ps, ds, M, F, hm, b, d⟩ := c.ex
  exact pe_makeS M F (hr.mono hk) hg hm b d (fun σ => passAt tk σ) ha hdb he hpl
end
end L2
namespace Mn
open PySem L2
theorem log_ok {i : Int} (h : i.natAbs ≤ 1000000) : i.natAbs.log2 < 1920 := by
  by_cases h0 : i.natAbs = 0
  · rw [h0]; decide
  · exact (Nat.log2_lt h0).mpr (Nat.lt_of_le_of_lt h (Nat.lt_of_lt_of_le (m := 2 ^ 20) (by decide) (Nat.pow_le_pow_right (by decide) (by omega))))
theorem str_int_len {i : Int} (h : i.natAbs ≤ 1000000) : (Str.ofString (toString i)).length ≤ 10 := by
  rw [ofString_length]
  exact int_text_length_le10 (k := 9) (by decide) (Nat.lt_of_le_of_lt h (by decide))
/-! ### any values -/
def AnyV (H : Hp) : V → Prop
  | .non => True
  | .bl _ => True
  | .int i => i.natAbs ≤ 1000
  | .str s => s.length ≤ 1000
  | .ref a => (∃ xs, H a = some (.lst xs)) ∨ ∃ xs, H a = some (.tup xs)
  | _ => False
theorem AnyV.bx {b : Addr} {H H' : Hp} (x : Bx b H H') {v : V} (h : AnyV H v) : AnyV H' v := by
  cases v with
  | ref a =>
    by_cases e : a = b
    · subst e
      obtain ⟨w, s, c, z⟩ := x.box
      exact .inl ⟨_, z⟩
    · rcases h with ⟨xs, h⟩ | ⟨xs, h⟩
      · exact .inl ⟨xs, x.keep _ _ e h⟩
      · exact .inr ⟨xs, x.keep _ _ e h⟩
  | _ => exact h
theorem AnyV.same {H H' : Hp} (x : Same H H') {v : V} (h : AnyV H v) : AnyV H' v := by
  cases v with
  | ref a =>
    rcases h with ⟨xs, h⟩ | ⟨xs, h⟩
    · exact .inl ⟨xs, x _ _ h⟩
    · exact .inr ⟨xs, x _ _ h⟩
  | _ => exact h
/-- a list is changed -/
theorem AnyV.upd {H : Hp} {l : Addr} {xs ys : List V} (hl : H l = some (.lst xs)) {v : V} (h : AnyV H v) : AnyV (upd H l (.lst ys)) v := by
  cases v with
  | ref a =>
    by_cases e : a = l
    · subst e
      exact .inl ⟨ys, upd_same⟩
    · rcases h with ⟨zs, h⟩ | ⟨zs, h⟩
      · exact .inl ⟨zs, by rw [upd_ne e]; exact h⟩
      · exact .inr ⟨zs, by rw [upd_ne e]; exact h⟩
  | _ => exact h
theorem AnyV.new {H : Hp} {p : Addr} {o : HO} (hp : H p = none) {v : V} (h : AnyV H v) : AnyV (L2.upd H p o) v := h.same fun a u q => by rw [upd_ne (ne_of_none q hp)]; exact q
def isB : V → Bool
  | .bl _ => true
  | _ => false
def isI : V → Bool
  | .int _ => true
  | _ => false
def isS : V → Bool
  | .str _ => true
  | _ => false
def isR : V → Bool
  | .ref _ => true
  | _ => false
/-- what isinstance asks of any value -/
structure TyA (K : PySem.W.Frag) (H : Hp) (v : V) (t : Value) : Prop where
  ty : TyX K H v t
  int : PySem.W.kitOne K t (.type "int") = some (isI v || isB v)
  bool : PySem.W.kitOne K t (.type "bool") = some (isB v)
  str : PySem.W.kitOne K t (.type "str") = some (isS v)
  seq : PySem.W.kitAny K t [.type "list", .type "tuple"] = some (isR v)
theorem kitAny_ty {K : PySem.W.Frag} {a : String} {r : Bool} {bs : List String} (h : ∀ b ∈ bs, kitB a b = some false) (hr : r = false) : PySem.W.kitAny K (.type a) (bs.map Value.type) = some r := by
  subst hr
  induction bs with
  | nil => rfl
  | cons b bs ih => exact kitAny_cons (kit_ty (h b List.mem_cons_self)) (fun _ => ih fun c hc => h c (List.mem_cons_of_mem _ hc)) fun z => nomatch z
theorem tyA {K : PySem.W.Frag} {H : Hp} {v : V} (h : AnyV H v) : ∃ t, TyA K H v t := by
  cases v with
  | non => exact ⟨_, .base .non, kit_ty (by decide +kernel), kit_ty (by decide +kernel), kit_ty (by decide +kernel), kitAny_ty (bs := ["list", "tuple"]) (by decide +kernel) rfl⟩
  | bl b => exact ⟨_, .base (.bl b), kit_ty (a := "bool") (b := "int") (r := true) (by decide +kernel), kit_ty (a := "bool") (b := "bool") (r := true) (by decide +kernel), kit_ty (a := "bool") (b := "str") (r := false) (by decide +kernel), kitAny_ty (bs := ["list", "tuple"]) (by decide +kernel) rfl⟩
  | int i => exact ⟨_, .base (.int i), kit_ty (a := "int") (b := "int") (r := true) (by decide +kernel), kit_ty (a := "int") (b := "bool") (r := false) (by decide +kernel), kit_ty (a := "int") (b := "str") (r := false) (by decide +kernel), kitAny_ty (bs := ["list", "tuple"]) (by decide +kernel) rfl⟩
  | str s => exact ⟨_, .base (.str s), kit_ty (a := "str") (b := "int") (r := false) (by decide +kernel), kit_ty (a := "str") (b := "bool") (r := false) (by decide +kernel), kit_ty (a := "str") (b := "str") (r := true) (by decide +kernel), kitAny_ty (bs := ["list", "tuple"]) (by decide +kernel) rfl⟩
  | ref a =>
    rcases h with ⟨xs, h⟩ | ⟨xs, h⟩
    · exact ⟨_, .base (.lst h), kit_ty (a := "list") (b := "int") (r := false) (by decide +kernel), kit_ty (a := "list") (b := "bool") (r := false) (by decide +kernel), kit_ty (a := "list") (b := "str") (r := false) (by decide +kernel), kitAny_cons (kit_ty (b := "list") (r := true) (by decide +kernel)) (fun z => nomatch z) fun _ => rfl⟩
    · exact ⟨_, .base (.tup h), kit_ty (a := "tuple") (b := "int") (r := false) (by decide +kernel), kit_ty (a := "tuple") (b := "bool") (r := false) (by decide +kernel), kit_ty (a := "tuple") (b := "str") (r := false) (by decide +kernel), kitAny_cons (kit_ty (b := "list") (r := false) (by decide +kernel)) (fun _ => kitAny_cons (kit_ty (b := "tuple") (r := true) (by decide +kernel)) (fun z => nomatch z) fun _ => rfl) fun z => nomatch z⟩
  | byt b => exact h.elim
  | flt b => exact h.elim
  | ty n => exact h.elim
end Mn
namespace K03
open PySem PySem.Spec PyProof.Rows L2 Mn
def topS (i : Nat) : Stmt := PySem.Challenge.pw_movedname_k03_rules_refused.main.body.getD i (.Pass ⟨0, 0, 0, 0⟩)
structure TxtT (K : PySem.W.Frag) (mg : Str → Option Value) : Prop where
  b_isinstance : mg "isinstance" = none
  b_int : mg "int" = none
  b_bool : mg "bool" = none
  b_str : mg "str" = none
  b_len : mg "len" = none
  b_abs : mg "abs" = none
section
variable {P : Program} {w : World} {K : PySem.W.Frag} {mg : Str → Option Value} {base : Heap}
abbrev s_law_take : Stmt := topS 20
abbrev N_law_take : List Str := ["_law_box_here", "_law_many", "_law_digit", "_law_near"]
theorem sc_law_take : FnScope N_law_take ["_law_box_here", "_law_many"] (defScope s_law_take) := ⟨rfl, rfl, rfl, by decide +kernel, rfl, by decide +kernel, by decide +kernel⟩
theorem ok_take {f : Addr} {fd : FuncData} (F : At K mg "_law_take" s_law_take f fd) (T : TxtT K mg) : FnOk P w K mg base (L2.CX P w) 1 f fd ["_law_box_here", "_law_many"] spTake := by
  refine F.fn.okX sc_law_take (fun vs H Q E h => ?_) (fun cdv A outer s H vs Q E hr h => ?_)
  · obtain ⟨b, n, rfl, _⟩ := h
    rfl
  · obtain ⟨b, n, rfl, n0, n1, ⟨w0, s0, c0, hb⟩, k⟩ := h
    refine ⟨_, (pss_cons (ps_if (pt_cmpR op_gt (pe_ix ix_list (pv 0) pe_int (fun _ _ => rfl)) pe_int (nomark _)) (pss_cons (ps_set (i := 2) sc_law_take.nd rfl (Or.inl rfl) (pe_op op_modN (pe_callTy call_int1 rfl T.b_int (by decide +kernel) (pa_cons (pe_ix ix_list (pv 0) pe_int (fun _ _ => rfl)) pa_nil)) (pv 1)))
  (pss_cons (ps_asg (pe_op op_fdivN (pe_ix ix_list (pv 0) pe_int (fun _ _ => rfl)) (pv 1)) (pg_sub (pv 0) pe_int set_list))
  (pss_one (ps_ret (pv 2))))) pss_nil)
  (pss_cons (ps_asg (pe_op op_add (pe_ix ix_list (pv 0) pe_int (fun _ _ => rfl)) pe_int) (pg_sub (pv 0) pe_int set_list))
  (pss_cons (ps_set (i := 3) sc_law_take.nd rfl (Or.inl rfl) (pe_op op_modN (pe_callTy call_int1 rfl T.b_int (by decide +kernel) (pa_cons (pe_op op_mul (pe_op op_add (pe_ix ix_list (pv 0) pe_int (fun _ _ => rfl)) (pe_op op_mul pe_int (pe_ix ix_list (pv 0) pe_int (fun _ _ => rfl)))) pe_int) pa_nil)) pe_int))
  (pss_cons (ps_asg (pe_op op_add (pe_op op_modN (pe_callTy call_int1 rfl T.b_int (by decide +kernel) (pa_cons (pe_op op_add (pe_op op_mul (pv 3) pe_int) pe_int) pa_nil)) pe_int) pe_int) (pg_sub (pv 0) pe_int set_list))
  (pss_one (ps_ret (pe_op op_modN (pe_callTy call_int1 rfl T.b_int (by decide +kernel) (pa_cons (pe_op op_fdivN (pe_op op_add (pe_op op_mul (pv 3) pe_int) (pe_ix ix_list (pv 0) pe_int (fun _ _ => rfl))) pe_int) pa_nil)) (pv 1)))))))), ?_⟩
    -- if box[0] > 0
    refine ⟨_, rfl, b, _, 0, _, rfl, rfl, SqL.of hb, rfl, _, _, rfl, rfl, _, rfl, ?_⟩
    refine ite2 (fun h0 => ?_) (fun h0 => ?_)
    · refine ⟨_, rfl, b, _, 0, _, rfl, rfl, SqL.of hb, rfl, .inl ⟨_, rfl, _, rfl, _, _, rfl, rfl, (by omega), ?_⟩⟩
      refine ⟨_, rfl, b, _, 0, _, rfl, rfl, SqL.of hb, rfl, _, rfl, _, _, rfl, rfl, ⟨by omega, by omega⟩, ?_⟩
      refine ⟨_, rfl, b, _, 0, 0, rfl, rfl, hb, rfl, ?_⟩
      refine ⟨_, rfl, ?_⟩
      exact k _ _ (Int.fmod_nonneg_of_pos _ n0) (Int.fmod_lt_of_pos _ n0) Bx.put
    · -- box[2] = box[2] + 1
      refine ⟨_, rfl, b, _, 2, _, rfl, rfl, SqL.of hb, rfl, _, _, rfl, rfl, _, rfl, _, _, 2, 2, rfl, rfl, hb, rfl, ?_⟩
      -- near
      refine ⟨_, rfl, b, _, 1, _, rfl, rfl, SqL.of upd_same, rfl, _, rfl, b, _, 2, _, rfl, rfl, SqL.of upd_same, rfl, _, _, rfl, rfl, .inl ⟨by decide, by decide⟩, _, _, rfl, rfl, _, _, rfl, rfl, .inr ⟨by decide, by decide⟩, .inl ⟨_, rfl, _, _, rfl, rfl, (by show (2147483647 : Int) ≠ 0; decide), ?_⟩⟩
      -- box[1]
      refine ⟨_, rfl, _, _, rfl, rfl, .inr ⟨by decide, by decide⟩, _, _, rfl, rfl, .inl ⟨_, rfl, _, _, rfl, rfl, (by show (2147483629 : Int) ≠ 0; decide), _, _, rfl, rfl, _, rfl, _, _, 1, 1, rfl, rfl, upd_same, rfl, ?_⟩⟩
      rw [upd_upd]
      refine ⟨_, rfl, _, _, rfl, rfl, .inr ⟨by decide, by decide⟩, _, rfl, b, _, 1, _, rfl, rfl, SqL.of upd_same, rfl, _, _, rfl, rfl, _, _, rfl, rfl, ⟨by decide, by decide⟩, .inl ⟨_, rfl, _, rfl, _, _, rfl, rfl, (by omega), ?_⟩⟩
      exact k _ _ (Int.fmod_nonneg_of_pos _ n0) (Int.fmod_lt_of_pos _ n0) Bx.put
abbrev s_law_pick : Stmt := topS 21
abbrev N_law_pick : List Str := ["_law_box_here", "_law_some"]
theorem sc_law_pick : FnScope N_law_pick ["_law_box_here", "_law_some"] (defScope s_law_pick) := ⟨rfl, rfl, rfl, by decide +kernel, rfl, by decide +kernel, by decide +kernel⟩
theorem ok_pick {f : Addr} {fd : FuncData} (F : At K mg "_law_pick" s_law_pick f fd) (T : TxtT K mg) (G_take : Cl P w K mg base 1 "_law_take" spTake) : FnOk P w K mg base (L2.CX P w) 2 f fd ["_law_box_here", "_law_some"] (spPick K) := by
  refine F.fn.okX sc_law_pick (fun vs H Q E h => ?_) (fun cdv A outer s H vs Q E hr h => ?_)
  · obtain ⟨b, l, xs, rfl, _⟩ := h
    rfl
  · obtain ⟨b, l, xs, rfl, hb, hn, hl, x0, x1, k⟩ := h
    refine ⟨_, (pss_one (ps_ret (pe_ix ix_list (pv 1) (pe_k0 G_take hr (by decide) rfl (pa_cons (pv 0) (pa_cons (pe_callB call_len rfl T.b_len (by decide +kernel) (pa_cons (pv 1) pa_nil)) pa_nil))) (fun _ _ => rfl)))), ?_⟩
    refine ⟨_, rfl, _, rfl, _, rfl, _, xs.length, rfl, .inl ⟨_, hl, rfl⟩, b, _, rfl, by omega, by omega, hb, fun d H' d0 d1 bx => ?_⟩
    obtain ⟨j, rfl⟩ := Int.eq_ofNat_of_zero_le d0
    have hj : j < xs.length := by omega
    refine ⟨l, xs, j, xs[j], rfl, rfl, bx.lst hn hl, atI_nat (List.getElem?_eq_getElem hj), ?_⟩
    exact k j _ H' (List.getElem?_eq_getElem hj) bx
end
end K03
namespace K03
open PySem PySem.Spec PyProof.Rows L2 Mn
/-- the texts -/
def wNever : V := .str "never"
def okAsks : V → Bool
  | .str s => inV (.str s) [.str "never", .str "always"]
  | .int i => decide (1 ≤ i)
  | _ => false
def okWay : V → Bool
  | .str s => inV (.str s) [.str "direct", .str "store", .str "either"]
  | _ => false
/-- the argument that is refused first -/
def due (a w h s : V) : Option Str := if okAsks a then (if okWay w then (if isB h then (if isB s then none else some "shares") else some "holds") else some "way") else some "asks"
def dueV (a w h s : V) : V := match due a w h s with
  | some x => .str x
  | none => .non
structure Txt (P : Program) (K : PySem.W.Frag) (mg : Str → Option Value) (CR IR fIR aW aA : Addr) : Prop where
  b_isinstance : mg "isinstance" = none
  b_int : mg "int" = none
  b_bool : mg "bool" = none
  b_str : mg "str" = none
  b_list : mg "list" = none
  b_tuple : mg "tuple" = none
  b_len : mg "len" = none
  b_abs : mg "abs" = none
  b_max : mg "max" = none
  b_min : mg "min" = none
  b_range : mg "range" = none
  b_repr : mg "repr" = none
  g_WORDS : ∃ u, mg "WORDS" = some u ∧ RelV (.ref aW) u
  WORDS : ∀ H, SqT K H aW [.str "never", .str "always"]
  g_ALL_WAYS : ∃ u, mg "ALL_WAYS" = some u ∧ RelV (.ref aA) u
  ALL_WAYS : ∀ H, SqT K H aA [.str "direct", .str "store", .str "either"]
  g_HOLDS : ∃ u, mg "HOLDS" = some u ∧ RelV (.str "holds") u
  g_SHARES : ∃ u, mg "SHARES" = some u ∧ RelV (.str "shares") u
  x_InvalidRule : MnX.SupTxt P K mg "InvalidRule" "InvalidRule.__init__" "word" IR fIR
  cl : Cls K CR
  n_asks : NoAttr K CR "asks"
  n_way : NoAttr K CR "way"
  n_holds : NoAttr K CR "holds"
  n_shares : NoAttr K CR "shares"
  n_text : NoAttr K CR "text"
/-! ### promises -/
def spIsInt : Sp := fun vs H Q _ => ∃ x, vs = [x] ∧ AnyV H x ∧ Q (.bl (isI x)) H
def spIsWord (K : PySem.W.Frag) : Sp := fun vs H Q _ => ∃ (x : V) (p : Addr) (ws : List V), vs = [x, .ref p] ∧ AnyV H x ∧ SqT K H p ws ∧ ws.all flatV = true ∧ Q (.bl (isS x && inV x ws)) H
/-- Rule(asks, way, holds, shares) -/
def spInit (C IR : Addr) : Sp := fun vs H Q E => ∃ (x dx : Addr) (a w h s : V), vs = [.ref x, a, w, h, s] ∧ H x = some (.ins C dx []) ∧ AnyV H a ∧ AnyV H w ∧ AnyV H h ∧ AnyV H s ∧
  (∀ wd, due a w h s = some wd → ∀ d, H d = none → E (.ref IR) (some d) (upd H d (.xd [("word", .str wd)]))) ∧
  (due a w h s = none → ∀ H' t, (∀ b o, b ≠ x → H b = some o → H' b = some o) → H' x = some (.ins C dx [("asks", a), ("way", w), ("holds", h), ("shares", s), ("text", .str t)]) → Q .non H')
section
variable {P : Program} {w : World} {K : PySem.W.Frag} {mg : Str → Option Value} {base : Heap} {CR IR fIR aW aA : Addr}
abbrev s_is_integer : Stmt := topS 8
abbrev N_is_integer : List Str := ["value"]
theorem sc_is_integer : FnScope N_is_integer ["value"] (defScope s_is_integer) := ⟨rfl, rfl, rfl, by decide +kernel, rfl, by decide +kernel, by decide +kernel⟩
theorem ok_is_integer {f : Addr} {fd : FuncData} (F : At K mg "is_integer" s_is_integer f fd) (T : Txt P K mg CR IR fIR aW aA) : FnOk P w K mg base (L2.CX P w) 1 f fd ["value"] spIsInt := by
  refine F.fn.okX sc_is_integer (fun vs H Q E h => ?_) (fun cdv A outer s H vs Q E hr h => ?_)
  · obtain ⟨x, rfl, _⟩ := h
    rfl
  · obtain ⟨x, rfl, hx, k⟩ := h
    obtain ⟨t, ty⟩ := tyA (K := K) hx
    refine ⟨_, (pss_one (ps_ret (pe_and (pe_callB call_isi rfl T.b_isinstance (by decide +kernel) (pa_cons (pv 0) (pa_cons (pe_bty "int" rfl T.b_int (by decide +kernel)) pa_nil))) (pe_one (pe_not (pe_callB call_isi rfl T.b_isinstance (by decide +kernel) (pa_cons (pv 0) (pa_cons (pe_bty "bool" rfl T.b_bool (by decide +kernel)) pa_nil)))))))), ?_⟩
    refine ⟨_, rfl, _, _, t, _, _, rfl, .ty "int", ty.ty, ty.int, _, rfl, ?_⟩
    refine ite2 (fun h0 => ?_) (fun h0 => ?_)
    · refine ⟨_, rfl, _, _, t, _, _, rfl, .ty "bool", ty.ty, ty.bool, _, rfl, ?_⟩
      have e : (!isB x) = isI x := by cases x <;> first | rfl | cases h0
      rw [e]
      exact k
    · have e : false = isI x := by cases x <;> first | rfl | exact (h0 rfl).elim
      rw [e]
      exact k
abbrev s_is_word : Stmt := topS 9
abbrev N_is_word : List Str := ["value", "words"]
theorem sc_is_word : FnScope N_is_word ["value", "words"] (defScope s_is_word) := ⟨rfl, rfl, rfl, by decide +kernel, rfl, by decide +kernel, by decide +kernel⟩
theorem ok_is_word {f : Addr} {fd : FuncData} (F : At K mg "is_word" s_is_word f fd) (T : Txt P K mg CR IR fIR aW aA) : FnOk P w K mg base (L2.CX P w) 1 f fd ["value", "words"] (spIsWord K) := by
  refine F.fn.okX sc_is_word (fun vs H Q E h => ?_) (fun cdv A outer s H vs Q E hr h => ?_)
  · obtain ⟨x, p, ws, rfl, _⟩ := h
    rfl
  · obtain ⟨x, p, ws, rfl, hx, hp, hw, k⟩ := h
    obtain ⟨t, ty⟩ := tyA (K := K) hx
    refine ⟨_, (pss_one (ps_ret (pe_and (pe_callB call_isi rfl T.b_isinstance (by decide +kernel) (pa_cons (pv 0) (pa_cons (pe_bty "str" rfl T.b_str (by decide +kernel)) pa_nil))) (pe_one (pe_cmpR op_in_seq (pv 0) (pv 1) (by rfl)))))), ?_⟩
    refine ⟨_, rfl, _, _, t, _, _, rfl, .ty "str", ty.ty, ty.str, _, rfl, ?_⟩
    refine ite2 (fun h0 => ?_) (fun h0 => ?_)
    · refine ⟨_, rfl, _, rfl, p, ws, rfl, .inr hp, ?_, hw, ?_⟩
      · cases x <;> first | rfl | cases h0
      · rw [h0] at k
        exact k
    · rw [Bool.not_eq_true] at h0
      rw [h0] at k
      exact k
end
end K03
namespace K03
open PySem PySem.Spec PyProof.Rows L2 Mn StX
theorem due_asks {a w h s : V} (e : okAsks a = false) : due a w h s = some "asks" := by unfold due; rw [e]; rfl
theorem due_way {a w h s : V} (e : okAsks a = true) (e2 : okWay w = false) : due a w h s = some "way" := by unfold due; rw [e, e2]; rfl
theorem due_holds {a w h s : V} (e : okAsks a = true) (e2 : okWay w = true) (e3 : isB h = false) : due a w h s = some "holds" := by unfold due; rw [e, e2, e3]; rfl
theorem due_shares {a w h s : V} (e : okAsks a = true) (e2 : okWay w = true) (e3 : isB h = true) (e4 : isB s = false) : due a w h s = some "shares" := by unfold due; rw [e, e2, e3, e4]; rfl
theorem due_none {a w h s : V} (e : okAsks a = true) (e2 : okWay w = true) (e3 : isB h = true) (e4 : isB s = true) : due a w h s = none := by unfold due; rw [e, e2, e3, e4]; rfl
theorem okAsks_eq {a : V} : okAsks a = ((isS a && inV a [.str "never", .str "always"]) || (match a with | .int i => decide (1 ≤ i) | _ => false)) := by
  cases a <;> first | rfl | exact (Bool.or_false _).symm
theorem okWay_eq {a : V} : okWay a = (isS a && inV a [.str "direct", .str "store", .str "either"]) := by
  cases a <;> rfl
section
variable {P : Program} {w : World} {K : PySem.W.Frag} {mg : Str → Option Value} {base : Heap} {CR IR fIR aW aA : Addr}
abbrev s_Rule___init__ : Stmt := inClass (topS 17) 0
abbrev N_Rule___init__ : List Str := ["self", "asks", "way", "holds", "shares", "more", "word", "is_so"]
theorem sc_Rule___init__ : FnScope N_Rule___init__ ["self", "asks", "way", "holds", "shares"] (defScope s_Rule___init__) := ⟨rfl, rfl, rfl, by decide +kernel, rfl, by decide +kernel, by decide +kernel⟩
theorem ok_init {f : Addr} {fd : FuncData} {dvs : List V} {kws : List (Str × V)} (F : FunD K "__init__" "Rule.__init__" (defArgs s_Rule___init__) (defBody s_Rule___init__) (defScope s_Rule___init__) dvs kws f fd) (T : Txt P K mg CR IR fIR aW aA)
    (G_is_integer : Cl P w K mg base 1 "is_integer" spIsInt) (G_is_word : Cl P w K mg base 1 "is_word" (spIsWord K)) : FnOk P w K mg base (L2.CX P w) 3 f fd ["self", "asks", "way", "holds", "shares"] (spInit CR IR) := by
  refine F.ok sc_Rule___init__ (fun vs H Q E h => ?_) (fun cdv A outer s H vs Q E hr h => ?_)
  · obtain ⟨x, dx, a, w, h, s, rfl, _⟩ := h
    rfl
  · obtain ⟨x, dx, a, wy, hd, sh, rfl, hx, hA, hW, hH, hS, kE, kQ⟩ := h
    obtain ⟨tH, tyH⟩ := tyA (K := K) hH
    obtain ⟨tS, tyS⟩ := tyA (K := K) hS
    refine ⟨_, (pss_cons (ps_if (PW.pt (pw_and (pt_not (pt_val (pe_k0 (G_is_word) hr (by omega) rfl (pa_cons (pv 1) (pa_cons (pe_gc rfl T.g_WORDS) pa_nil))))) (pw_and1 (PW.pt (pw_or (pt_not (pt_val (pe_k0 (G_is_integer) hr (by omega) rfl (pa_cons (pv 1) pa_nil)))) (pw_or1 (pt_cmpR op_lt (pv 1) pe_int (nomark _)))))))) (pss_one (ps_raiseS rfl T.x_InvalidRule MnX.okn_word hr (takes_of rfl rfl rfl rfl) (pa_cons pe_str pa_nil))) pss_nil)
  (pss_cons (ps_if (pt_not (pt_val (pe_k0 (G_is_word) hr (by omega) rfl (pa_cons (pv 2) (pa_cons (pe_gc rfl T.g_ALL_WAYS) pa_nil))))) (pss_one (ps_raiseS rfl T.x_InvalidRule MnX.okn_word hr (takes_of rfl rfl rfl rfl) (pa_cons pe_str pa_nil))) pss_nil)
  (pss_cons (ps_if (pt_not (pt_val (pe_callB call_isi rfl T.b_isinstance (by decide +kernel) (pa_cons (pv 3) (pa_cons (pe_bty "bool" rfl T.b_bool (by decide +kernel)) pa_nil))))) (pss_one (ps_raiseS rfl T.x_InvalidRule MnX.okn_word hr (takes_of rfl rfl rfl rfl) (pa_cons pe_str pa_nil))) pss_nil)
  (pss_cons (ps_if (pt_not (pt_val (pe_callB call_isi rfl T.b_isinstance (by decide +kernel) (pa_cons (pv 4) (pa_cons (pe_bty "bool" rfl T.b_bool (by decide +kernel)) pa_nil))))) (pss_one (ps_raiseS rfl T.x_InvalidRule MnX.okn_word hr (takes_of rfl rfl rfl rfl) (pa_cons pe_str pa_nil))) pss_nil)
  (pss_cons (ps_fld (pv 0) (pv 1) rfl)
  (pss_cons (ps_fld (pv 0) (pv 2) rfl)
  (pss_cons (ps_fld (pv 0) (pv 3) rfl)
  (pss_cons (ps_fld (pv 0) (pv 4) rfl)
  (pss_cons (ps_setLc (i := 5) (own := [("word", 6), ("is_so", 7)]) (g := gTup K 2 (gCons (gName 6) (gCons (gName 7) gNil))) rfl sc_Rule___init__.nd rfl rfl (sw_true rfl rfl rfl (by decide +kernel)) (pi_tup (pe_tupN (pa_cons (pe_tupN (pa_cons (pe_gc rfl T.g_HOLDS) (pa_cons (pv 3) pa_nil))) (pa_cons (pe_tupN (pa_cons (pe_gc rfl T.g_SHARES) (pa_cons (pv 4) pa_nil))) pa_nil)))) (blkOk_by (own := [("word", 6), ("is_so", 7)]) (N := N_Rule___init__) (sc := defScope s_Rule___init__) (by decide +kernel)) (fun _ _ _ _ _ => (pg_tup rfl (pgs_cons (pg_name (i := 6) sc_Rule___init__.nd rfl (Or.inl rfl)) (pgs_cons (pg_name (i := 7) sc_Rule___init__.nd rfl (Or.inl rfl)) pgs_nil)))) (fun _ _ _ _ _ => (pts_one (pt_val (pv 7)))) (fun _ _ _ _ _ => (pv 6)))
  (pss_one (ps_fld (pv 0) (pe_join pe_str (pe_lstN (pa_cons pe_str (pa_cons (pe_callTy call_str2 rfl T.b_str (by decide +kernel) (pa_cons (pv 1) pa_nil)) (pa_cons pe_str (pa_cons (pv 2) (pa_star (pv 5) pa_nil))))))) rfl))))))))))), ?_⟩
    -- if not is_word(asks, WORDS) and (not is_integer(asks) or asks < 1)
    refine seq_when (!okAsks a) (fun R q => ?_) (fun e => ?_) (fun e => ?_)
    · refine ⟨_, rfl, a, aW, _, rfl, hA, T.WORDS _, rfl, _, rfl, ?_⟩
      refine iteNB (fun e1 => ?_) (fun e1 => ?_)
      · refine ⟨_, rfl, a, rfl, hA, _, rfl, ?_⟩
        refine iteNB (fun e2 => ?_) (fun e2 => ?_)
        · have z : okAsks a = false := by rw [okAsks_eq, e1]; cases a <;> first | rfl | cases e2
          rw [z] at q
          exact q
        · cases a with
          | int i =>
            refine ⟨_, rfl, _, _, rfl, rfl, _, rfl, ?_⟩
            have z : (!okAsks (V.int i)) = decide (i < 1) := by
              show (!decide (1 ≤ i)) = decide (i < 1)
              by_cases h1 : 1 ≤ i
              · rw [decide_eq_true h1, decide_eq_false (by omega)]; rfl
              · rw [decide_eq_false h1, decide_eq_true (by omega)]; rfl
            rw [z] at q
            exact q
          | _ => cases e2
      · have z : okAsks a = true := by rw [okAsks_eq, e1]; rfl
        rw [z] at q
        exact q
    · refine ⟨_, rfl, fun d hd0 => kE _ (due_asks (by simpa using e)) d hd0⟩
    have eA : okAsks a = true := by simpa using e
    -- if not is_word(way, ALL_WAYS)
    refine seq_when (!okWay wy) (fun R q => ?_) (fun e => ?_) (fun e => ?_)
    · refine ⟨_, rfl, wy, aA, _, rfl, hW, T.ALL_WAYS _, rfl, _, rfl, ?_⟩
      rw [okWay_eq] at q
      exact q
    · refine ⟨_, rfl, fun d hd0 => kE _ (due_way eA (by simpa using e)) d hd0⟩
    have eW : okWay wy = true := by simpa using e
    -- holds, shares
    refine seq_when (!isB hd) (fun R q => ?_) (fun e => ?_) (fun e => ?_)
    · exact ⟨_, rfl, _, _, tH, _, _, rfl, .ty "bool", tyH.ty, tyH.bool, _, rfl, q⟩
    · refine ⟨_, rfl, fun d hd0 => kE _ (due_holds eA eW (by simpa using e)) d hd0⟩
    have eH : isB hd = true := by simpa using e
    refine seq_when (!isB sh) (fun R q => ?_) (fun e => ?_) (fun e => ?_)
    · exact ⟨_, rfl, _, _, tS, _, _, rfl, .ty "bool", tyS.ty, tyS.bool, _, rfl, q⟩
    · refine ⟨_, rfl, fun d hd0 => kE _ (due_shares eA eW eH (by simpa using e)) d hd0⟩
    have eS : isB sh = true := by simpa using e
    have k0 := kQ (due_none eA eW eH eS)
    obtain ⟨bh, rfl⟩ : ∃ b, hd = .bl b := by cases hd <;> first | exact ⟨_, rfl⟩ | cases eH
    obtain ⟨bs, rfl⟩ : ∃ b, sh = .bl b := by cases sh <;> first | exact ⟨_, rfl⟩ | cases eS
    -- self.asks = asks ..
    refine ⟨_, rfl, _, rfl, x, CR, dx, _, rfl, hx, T.cl, T.n_asks, (by decide), ?_⟩
    refine ⟨_, rfl, _, rfl, x, CR, dx, _, rfl, upd_same, T.cl, T.n_way, (by show (1 : Nat) < 1000; decide), ?_⟩
    rw [upd_upd]
    refine ⟨_, rfl, _, rfl, x, CR, dx, _, rfl, upd_same, T.cl, T.n_holds, (by show (2 : Nat) < 1000; decide), ?_⟩
    rw [upd_upd]
    refine ⟨_, rfl, _, rfl, x, CR, dx, _, rfl, upd_same, T.cl, T.n_shares, (by show (3 : Nat) < 1000; decide), ?_⟩
    rw [upd_upd]
    have ef : putF "shares" (V.bl bs) (putF "holds" (V.bl bh) (putF "way" wy (putF "asks" a []))) = ([("asks", a), ("way", wy), ("holds", .bl bh), ("shares", .bl bs)] : List (Str × V)) := rfl
    rw [ef]
    -- more = [..]
    generalize hHx : upd H x (HO.ins CR dx ([("asks", a), ("way", wy), ("holds", V.bl bh), ("shares", V.bl bs)] : List (Str × V))) = Hx
    have hxx : Hx x = some (.ins CR dx ([("asks", a), ("way", wy), ("holds", V.bl bh), ("shares", V.bl bs)] : List (Str × V))) := by rw [← hHx, upd_same]
    have hox : ∀ b o, b ≠ x → H b = some o → Hx b = some o := fun b o nb e => by rw [← hHx, upd_ne nb]; exact e
    refine ⟨_, rfl, two_fits, fun p1 H1 n1 s1 h1 => ⟨_, rfl, two_fits, fun p2 H2 n2 s2 h2 => ⟨two_fits, fun p3 Hc n3 s3 h3 => ⟨p3, rfl, ⟨_, SqT.of h3⟩, fun DD nD => ?_⟩⟩⟩⟩
    have h1 : Hc p1 = some (.tup [.str "holds", .bl bh]) := s3 _ _ (s2 _ _ h1)
    have h2 : Hc p2 = some (.tup [.str "shares", .bl bs]) := s3 _ _ h2
    have sc : Same Hx Hc := (s1.trans s2).trans s3
    refine lc_tup (xs := [.ref p1, .ref p2]) (fun i H' => ∃ ws : List Str, H' DD = some (.lst (ws.map V.str)) ∧ ws.length ≤ i ∧ (∀ s ∈ ws, s.length ≤ 6) ∧ ∀ b o, b ≠ DD → Hc b = some o → H' b = some o) ⟨[], upd_same, Nat.le_refl _, by simp, fun b o n e => by rw [upd_ne n]; exact e⟩ (fun i H' _ p => ?_) (fun i y H' hi p => ?_) (fun H' p => ?_)
    · obtain ⟨ws, q1, q2, q3, q4⟩ := p
      exact SqT.of (q4 _ _ (fun z => by rw [z, nD] at h3; cases h3) h3)
    · obtain ⟨ws, q1, q2, q3, q4⟩ := p
      have g1 := q4 _ _ (fun z => by rw [z, nD] at h1; cases h1) h1
      have g2 := q4 _ _ (fun z => by rw [z, nD] at h2; cases h2) h2
      obtain ⟨t, b, pt, ht, hp, rfl⟩ : ∃ (t : Str) (b : Bool) (pt : Addr), t.length ≤ 6 ∧ H' pt = some (.tup [.str t, .bl b]) ∧ y = .ref pt := by
        match i, hi with
        | 0, hi => exact ⟨"holds", bh, p1, by decide, g1, (Option.some.inj hi).symm⟩
        | 1, hi => exact ⟨"shares", bs, p2, by decide, g2, (Option.some.inj hi).symm⟩
        | i + 2, hi => simp at hi
      have hil : i < 2 := (List.getElem?_eq_some_iff.mp hi).1
      refine ⟨_, _, rfl, SqT.of hp, rfl, _, _, rfl, _, _, rfl, rfl, rfl, _, rfl, _, rfl, ?_⟩
      refine iteB (fun e => ?_) (fun e => ?_)
      · refine ⟨_, rfl, _, q1, Nat.lt_of_lt_of_le (m := 1000) (by rw [List.length_map]; omega) (fits 1000), ws ++ [t], by rw [upd_same, List.map_append]; rfl, by rw [List.length_append]; exact Nat.succ_le_succ q2, fun s hs => ?_, fun b o n e => by rw [upd_ne n]; exact q4 b o n e⟩
        rcases List.mem_append.mp hs with hs | hs
        · exact q3 s hs
        · rw [List.mem_singleton.mp hs]; exact ht
      · exact ⟨ws, q1, Nat.le_succ_of_le q2, q3, q4⟩
    · -- self.text = ..
      obtain ⟨ws, q1, q2, q3, q4⟩ := p
      have hx' : H' x = _ := q4 _ _ (ne_of_none (sc _ _ hxx) nD) (sc _ _ hxx)
      obtain ⟨wv, rfl⟩ : ∃ t, wy = .str t := by cases wy <;> first | exact ⟨_, rfl⟩ | cases eW
      have hww : wv.length ≤ 1000 := hW
      have q2' : ws.length ≤ 2 := q2
      -- the text of asks
      obtain ⟨ta, hta, hcall⟩ : ∃ ta : Str, ta.length ≤ 1000 ∧ StrV a ta := by
        cases a with
        | int i =>
          have hi : i.natAbs ≤ 1000 := hA
          exact ⟨Str.ofString (toString i), Nat.le_trans (str_int_len (by omega)) (by decide), .inl ⟨i, rfl, log_ok (by omega), rfl⟩⟩
        | str t =>
          have ht : t.length ≤ 1000 := hA
          exact ⟨t, ht, .inr rfl⟩
        | _ => cases eA
      refine ⟨⟨_, rfl⟩, _, rfl, a, ta, rfl, hcall, _, rfl, _, rfl, _, _, rfl, .inr (SqL.of q1), ?_, fun pl Hl nl sl hl => ?_⟩
      · simp only [List.length_cons, List.length_append, List.length_map, List.length_nil]
        exact fits 1000 |> Nat.le_trans (by omega)
      · refine ⟨_, pl, Str.ofString "asks" :: ta :: Str.ofString "by" :: wv :: ws, rfl, rfl, .inl (SqL.of (by rw [hl, List.append_nil]; rfl)), ?_, ?_⟩
        · have hs : ∀ l : List Str, (∀ s ∈ l, s.length ≤ 6) → (l.map (·.length)).sum ≤ 6 * l.length := by
            intro l
            induction l with
            | nil => intro _; exact Nat.le_refl _
            | cons a l ih =>
              intro h
              have h1 := h a List.mem_cons_self
              have h2 := ih fun s hs => h s (List.mem_cons_of_mem _ hs)
              rw [List.map_cons, List.sum_cons, List.length_cons]
              omega
          have h6 := hs ws q3
          have e4 : (Str.ofString "asks").length = 4 := rfl
          have e2 : (Str.ofString "by").length = 2 := rfl
          have e1 : (Str.ofString " ").length = 1 := rfl
          simp only [List.map_cons, List.sum_cons, List.length_cons, e4, e2, e1]
          have q2' : ws.length ≤ 2 := q2
          omega
        · refine ⟨_, rfl, x, CR, dx, _, rfl, sl _ _ hx', T.cl, T.n_text, (by show (4 : Nat) < 1000; decide), ?_⟩
          refine k0 _ _ (fun b o nb e => ?_) (by rw [upd_same]; rfl)
          rw [upd_ne nb]
          have e1 := sc _ _ (hox b o nb e)
          exact sl _ _ (q4 _ _ (ne_of_none e1 nD) e1)
end
end K03
namespace K03
open PySem PySem.Spec PyProof.Rows L2 Mn StX
section
variable {P : Program} {w : World} {K : PySem.W.Frag} {mg : Str → Option Value} {base : Heap} {CR IR fIR aW aA : Addr}
abbrev s_law_box : Stmt := topS 19
abbrev N_law_box : List Str := ["_law_script", "_law_k", "_law_cell", "_law_seed", "_law_wide"]
theorem sc_law_box : FnScope N_law_box ["_law_script", "_law_k"] (defScope s_law_box) := ⟨rfl, rfl, rfl, by decide +kernel, rfl, by decide +kernel, by decide +kernel⟩
theorem at_fmod {n : Nat} (k : Int) (h : 0 < n) : ∃ j : Nat, j < n ∧ k.fmod (n : Int) = (j : Int) := by
  have h1 := Int.fmod_nonneg_of_pos k (b := (n : Int)) (by omega)
  have h2 := Int.fmod_lt_of_pos k (b := (n : Int)) (by omega)
  obtain ⟨j, e⟩ := Int.eq_ofNat_of_zero_le h1
  exact ⟨j, by omega, e⟩
theorem ok_box {f : Addr} {fd : FuncData} (F : At K mg "_law_box" s_law_box f fd) (T : Txt P K mg CR IR fIR aW aA) : FnOk P w K mg base (L2.CX P w) 1 f fd ["_law_script", "_law_k"] (spBox K) := by
  refine F.fn.okX sc_law_box (fun vs H Q E h => ?_) (fun cdv A outer s H vs Q E hr h => ?_)
  · obtain ⟨a, ns, k, rfl, _⟩ := h
    rfl
  · obtain ⟨a, ns, k, rfl, hS, hl, k0, k1, kQ⟩ := h
    obtain ⟨j, rfl⟩ := Int.eq_ofNat_of_zero_le k0
    refine ⟨_, (pss_cons (ps_set (i := 2) sc_law_box.nd rfl (Or.inl rfl) (pe_op op_add (pe_op op_mul pe_int (pv 1)) pe_int))
  (Evl.pss_cut (ps_if (pt_cmpR op_lt (pv 1) (pe_callB call_len rfl T.b_len (by decide +kernel) (pa_cons (pv 0) pa_nil)) (nomark _)) (pss_one (ps_set (i := 2) sc_law_box.nd rfl (Or.inl rfl) (pe_callB call_abs rfl T.b_abs (by decide +kernel) (pa_cons (pe_callTy call_int1 rfl T.b_int (by decide +kernel) (pa_cons (pe_ix ix_list (pv 0) (pv 1) (fun _ _ => rfl)) pa_nil)) pa_nil)))) (pss_one (ps_if (pt_cmpR op_gt (pe_callB call_len rfl T.b_len (by decide +kernel) (pa_cons (pv 0) pa_nil)) pe_int (nomark _)) (pss_one (ps_set (i := 2) sc_law_box.nd rfl (Or.inl rfl) (pe_op op_add (pv 2) (pe_op op_mul (pe_op op_modN (pe_callTy call_int1 rfl T.b_int (by decide +kernel) (pa_cons (pe_ix ix_list (pv 0) (pe_op op_modN (pe_callTy call_int1 rfl T.b_int (by decide +kernel) (pa_cons (pv 1) pa_nil)) (pe_callB call_len rfl T.b_len (by decide +kernel) (pa_cons (pv 0) pa_nil))) (fun _ _ => rfl)) pa_nil)) pe_int) pe_int)))) pss_nil)))
  (pss_cons (ps_set (i := 3) sc_law_box.nd rfl (Or.inl rfl) (pe_op op_add (pe_op op_modN (pe_callTy call_int1 rfl T.b_int (by decide +kernel) (pa_cons (pe_op op_add (pe_op op_add (pe_op op_mul (pe_op op_modN (pe_callTy call_int1 rfl T.b_int (by decide +kernel) (pa_cons (pv 2) pa_nil)) pe_int) pe_int) (pe_op op_mul pe_int (pv 1))) pe_int) pa_nil)) pe_int) pe_int))
  (pss_cons (ps_set (i := 4) sc_law_box.nd rfl (Or.inl rfl) (pe_ifExp (pt_cmpR op_ge (pv 2) (pe_op op_pow pe_int pe_int) (nomark _)) (pv 2) pe_int))
  (pss_one (ps_ret (pe_lstN (pa_cons (pv 4) (pa_cons (pv 3) (pa_cons pe_int pa_nil)))))))))), ?_⟩
    refine ⟨_, rfl, _, _, rfl, rfl, .inl ⟨by decide, by decide⟩, _, _, rfl, rfl, ?_⟩
    refine ⟨fun σ H' => H' = H ∧ ∃ c : Int, σ = [some (.ref a), some (.int j), some (.int c), none, none], ?_, ?_⟩
    · refine ⟨_, rfl, _, rfl, _, _, rfl, .inl ⟨_, hS, rfl⟩, _, _, rfl, rfl, _, rfl, ?_⟩
      refine iteB (fun e => ?_) (fun e => ?_)
      · have hj : j < ns.length := by
          have z := of_decide_eq_true e
          rw [List.length_map] at z
          omega
        exact ⟨_, rfl, _, rfl, a, _, j, .int ns[j], rfl, rfl, hS, atI_nat (by rw [List.getElem?_map, List.getElem?_eq_getElem hj]; rfl), .inl ⟨_, rfl, _, rfl, rfl, _, rfl⟩⟩
      · refine ⟨_, rfl, _, _, rfl, .inl ⟨_, hS, rfl⟩, _, _, rfl, rfl, _, rfl, ?_⟩
        refine iteB (fun e => ?_) (fun e => ?_)
        · have hn : 0 < ns.length := by
            have z := of_decide_eq_true e
            rw [List.length_map] at z
            omega
          obtain ⟨i, hi, ei⟩ := at_fmod (j : Int) hn
          refine ⟨_, rfl, _, rfl, _, rfl, .inl ⟨_, rfl, _, rfl, _, _, rfl, .inl ⟨_, hS, rfl⟩, _, _, rfl, rfl, ?_, ?_⟩⟩
          · rw [List.length_map]; omega
          · refine ⟨a, _, (i : Int), .int ns[i], rfl, by rw [List.length_map]; exact congrArg V.int ei, hS, atI_nat (by rw [List.getElem?_map, List.getElem?_eq_getElem hi]; rfl), .inl ⟨_, rfl, _, _, rfl, rfl, (by show (2147483629 : Int) ≠ 0; decide), _, _, rfl, rfl, .inr ⟨by decide, by decide⟩, _, _, rfl, rfl, rfl, _, rfl⟩⟩
        · exact ⟨rfl, _, rfl⟩
    · rintro σ H' ⟨rfl, c, rfl⟩
      refine ⟨_, rfl, .inl ⟨_, rfl, _, _, rfl, rfl, (by show (2147483629 : Int) ≠ 0; decide), _, _, rfl, rfl, .inr ⟨by decide, by decide⟩, _, rfl, _, _, rfl, rfl, .inl ⟨by decide, by decide⟩, _, _, rfl, rfl, _, _, rfl, rfl, .inl ⟨_, rfl, _, _, rfl, rfl, (by show (2147483629 : Int) ≠ 0; decide), _, _, rfl, rfl, ?_⟩⟩⟩
      refine ⟨_, rfl, _, _, rfl, rfl, ⟨by decide, by decide, by decide⟩, _, _, rfl, rfl, _, rfl, ?_⟩
      refine iteB (fun e => ?_) (fun e => ?_)
      · refine ⟨_, rfl, _, rfl, _, rfl, fits 3, fun p H2 np e hp => ?_⟩
        exact kQ p H2 np e ⟨_, _, _, hp⟩
      · refine ⟨_, rfl, _, rfl, fits 3, fun p H2 np e hp => ?_⟩
        exact kQ p H2 np e ⟨_, _, _, hp⟩
/-- a drawn rule -/
def spRule : Sp := fun vs H Q _ => ∃ b, vs = [.ref b] ∧ BoxAt H b ∧ ∀ t a wy h s H', Bx b H H' → t ≠ b → H t = none → H' t = some (.tup [a, wy, .bl h, .bl s]) → okAsks a = true → okWay wy = true → AnyV H' a → AnyV H' wy → Q (.ref t) H'
abbrev s_law_rule : Stmt := topS 22
abbrev N_law_rule : List Str := ["_law_box_here", "_law_asks"]
theorem sc_law_rule : FnScope N_law_rule ["_law_box_here"] (defScope s_law_rule) := ⟨rfl, rfl, rfl, by decide +kernel, rfl, by decide +kernel, by decide +kernel⟩
theorem ok_rule {f : Addr} {fd : FuncData} (F : At K mg "_law_rule" s_law_rule f fd) (T : Txt P K mg CR IR fIR aW aA) (G_law_take : Cl P w K mg base 1 "_law_take" spTake) (G_law_pick : Cl P w K mg base 2 "_law_pick" (spPick K)) : FnOk P w K mg base (L2.CX P w) 3 f fd ["_law_box_here"] spRule := by
  refine F.fn.okX sc_law_rule (fun vs H Q E h => ?_) (fun cdv A outer s H vs Q E hr h => ?_)
  · obtain ⟨b, rfl, _⟩ := h
    rfl
  · obtain ⟨b, rfl, hb, kQ⟩ := h
    refine ⟨_, (pss_cons (ps_set (i := 1) sc_law_rule.nd rfl (Or.inl rfl) (pe_k0 (G_law_pick) hr (by omega) rfl (pa_cons (pv 0) (pa_cons (pe_lstN (pa_cons pe_str (pa_cons pe_str (pa_cons pe_int (pa_cons pe_int (pa_cons pe_int pa_nil)))))) pa_nil))))
  (pss_one (ps_ret (pe_tupN (pa_cons (pv 1) (pa_cons (pe_k0 (G_law_pick) hr (by omega) rfl (pa_cons (pv 0) (pa_cons (pe_lstN (pa_cons pe_str (pa_cons pe_str (pa_cons pe_str pa_nil)))) pa_nil))) (pa_cons (pe_cmpR op_eq (pe_k0 (G_law_take) hr (by omega) rfl (pa_cons (pv 0) (pa_cons pe_int pa_nil))) pe_int (nomark _)) (pa_cons (pe_cmpR op_eq (pe_k0 (G_law_take) hr (by omega) rfl (pa_cons (pv 0) (pa_cons pe_int pa_nil))) pe_int (nomark _)) pa_nil)))))))), ?_⟩
    refine ⟨_, rfl, fits 5, fun p1 H1 n1 e1 h1 => ?_⟩
    have b1 := Bx.of_same hb e1
    refine ⟨b, p1, _, rfl, b1.box, box_ne hb n1, SqL.of h1, by decide, by decide, fun i x H2 hx b2 => ?_⟩
    have hxo : okAsks x = true ∧ ∀ H, AnyV H x := by
      match i, hx with
      | 0, hx => cases Option.some.inj hx; exact ⟨by decide +kernel, fun _ => (by show Str.length _ ≤ 1000; decide +kernel)⟩
      | 1, hx => cases Option.some.inj hx; exact ⟨by decide +kernel, fun _ => (by show Str.length _ ≤ 1000; decide +kernel)⟩
      | 2, hx => cases Option.some.inj hx; exact ⟨by decide +kernel, fun _ => (by show Int.natAbs _ ≤ 1000; decide +kernel)⟩
      | 3, hx => cases Option.some.inj hx; exact ⟨by decide +kernel, fun _ => (by show Int.natAbs _ ≤ 1000; decide +kernel)⟩
      | 4, hx => cases Option.some.inj hx; exact ⟨by decide +kernel, fun _ => (by show Int.natAbs _ ≤ 1000; decide +kernel)⟩
      | i + 5, hx => simp at hx
    refine ⟨_, rfl, _, rfl, fits 3, fun p3 H3 n3 e3 h3 => ?_⟩
    refine ⟨b, p3, _, rfl, b2.box.same e3, box_ne b2.box n3, SqL.of h3, by decide, by decide, fun j y H4 hy b4 => ?_⟩
    have hyo : okWay y = true ∧ ∀ H, AnyV H y := by
      match j, hy with
      | 0, hy => cases Option.some.inj hy; exact ⟨by decide +kernel, fun _ => (by show Str.length _ ≤ 1000; decide +kernel)⟩
      | 1, hy => cases Option.some.inj hy; exact ⟨by decide +kernel, fun _ => (by show Str.length _ ≤ 1000; decide +kernel)⟩
      | 2, hy => cases Option.some.inj hy; exact ⟨by decide +kernel, fun _ => (by show Str.length _ ≤ 1000; decide +kernel)⟩
      | j + 3, hy => simp at hy
    refine ⟨_, rfl, b, 3, rfl, by decide, by decide, b4.box, fun d1 H5 _ _ b5 => ⟨rfl, _, rfl, b, 3, rfl, by decide, by decide, b5.box, fun d2 H6 _ _ b6 => ⟨rfl, fits 4, fun t H7 n7 e7 h7 => ?_⟩⟩⟩
    have bb : Bx b H H6 := b1.trans (b2.trans ((Bx.of_same b2.box e3).trans (b4.trans (b5.trans b6))))
    exact kQ t _ _ _ _ H7 (bb.trans (Bx.of_same bb.box e7)) (box_ne bb.box n7) (bb.free hb n7) h7 hxo.1 hyo.1 (hxo.2 _) (hyo.2 _)
end
end K03
namespace K03
open PySem PySem.Spec PyProof.Rows L2 Mn StX
/-- any value, lists nested n deep -/
def spAny (n : Int) : Sp := fun vs H Q _ => ∃ b, vs = [.ref b, .int n] ∧ BoxAt H b ∧ ∀ v H', Bx b H H' → AnyV H' v → Q v H'
def spNone : Sp := fun _ _ _ _ => False
section
variable {P : Program} {w : World} {K : PySem.W.Frag} {mg : Str → Option Value} {base : Heap} {CR IR fIR aW aA : Addr}
theorem fn_none {CX : CXT} {f : Addr} {fd : FuncData} {ps : List Str} {k : Nat} : FnOk P w K mg base CX k f fd ps spNone := ⟨fun _ _ _ _ h => h.elim, fun _ _ _ _ _ _ _ _ _ _ _ _ _ h => h.elim⟩
theorem any_mem {H : Hp} {xs : List V} {i : Nat} {x : V} (h : xs[i]? = some x) (a : ∀ y ∈ xs, AnyV H y) : AnyV H x := a x (List.mem_of_getElem? h)
abbrev s_law_any : Stmt := topS 23
abbrev N_law_any : List Str := ["_law_box_here", "_law_deep_here", "_law_form", "_law_some", "_law_words", "_law_plain", "_law_k"]
theorem sc_law_any : FnScope N_law_any ["_law_box_here", "_law_deep_here"] (defScope s_law_any) := ⟨rfl, rfl, rfl, by decide +kernel, rfl, by decide +kernel, by decide +kernel⟩
theorem any_step {f : Addr} {fd : FuncData} (F : At K mg "_law_any" s_law_any f fd) (T : Txt P K mg CR IR fIR aW aA) (G_law_take : Cl P w K mg base 1 "_law_take" spTake) (G_law_pick : Cl P w K mg base 2 "_law_pick" (spPick K))
    (n : Nat) (sp' : Sp) (G_law_any : Cl P w K mg base (n + 2) "_law_any" sp') (hs : 0 < n → sp' = spAny ((n : Int) - 1)) : FnOk P w K mg base (L2.CX P w) (n + 3) f fd ["_law_box_here", "_law_deep_here"] (spAny n) := by
  refine F.fn.okX sc_law_any (fun vs H Q E h => ?_) (fun cdv A outer s H vs Q E hr h => ?_)
  · obtain ⟨b, rfl, _⟩ := h
    rfl
  · obtain ⟨b, rfl, hb, kQ⟩ := h
    refine ⟨_, (pss_cons (ps_set (i := 2) sc_law_any.nd rfl (Or.inl rfl) (pe_k0 (G_law_take) hr (by omega) rfl (pa_cons (pv 0) (pa_cons pe_int pa_nil))))
  (pss_cons (ps_if (PW.pt (pw_and (pt_cmpR op_lt (pv 2) pe_int (nomark _)) (pw_and1 (pt_cmpR op_gt (pv 1) pe_int (nomark _))))) (pss_cons (ps_setLc (i := 3) (own := [("_law_k", 6)]) (g := gName 6) rfl sc_law_any.nd rfl rfl (sw_true rfl rfl rfl (by decide +kernel)) (pi_range1 rfl T.b_range (pa_cons (pe_k0 (G_law_take) hr (by omega) rfl (pa_cons (pv 0) (pa_cons pe_int pa_nil))) pa_nil)) (blkOk_by (own := [("_law_k", 6)]) (N := N_law_any) (sc := defScope s_law_any) (by decide +kernel)) (fun _ _ _ _ _ => (pg_name (i := 6) sc_law_any.nd rfl (Or.inl rfl))) (fun _ _ _ _ _ => pts_nil) (fun _ _ _ _ _ => (pe_k0 (G_law_any) hr (by omega) rfl (pa_cons (pv 0) (pa_cons (pe_op op_sub (pv 1) pe_int) pa_nil)))))
  (pss_one (ps_ret (pe_ifExp (pt_cmpR op_lt (pv 2) pe_int (nomark _)) (pv 3) (pe_callTy call_tupleN rfl T.b_tuple (by decide +kernel) (pa_cons (pv 3) pa_nil)))))) pss_nil)
  (pss_cons (ps_set (i := 4) sc_law_any.nd rfl (Or.inl rfl) (pe_lstN (pa_cons pe_str (pa_cons pe_str (pa_cons pe_str (pa_cons pe_str (pa_cons pe_str (pa_cons pe_str (pa_cons pe_str (pa_cons pe_str (pa_cons pe_str (pa_cons pe_str (pa_cons pe_str (pa_cons pe_str (pa_cons pe_str pa_nil)))))))))))))))
  (pss_cons (ps_set (i := 5) sc_law_any.nd rfl (Or.inl rfl) (pe_lstN (pa_cons pe_non (pa_cons pe_bl (pa_cons pe_bl (pa_cons pe_int (pa_cons pe_int (pa_cons pe_int (pa_cons (pe_op op_sub pe_int pe_int) (pa_cons pe_int (pa_cons (pe_lstN (pa_cons pe_str pa_nil)) (pa_cons (pe_tupN (pa_cons pe_str pa_nil)) (pa_cons (pe_tupN (pa_cons pe_str (pa_cons pe_int pa_nil))) (pa_cons pe_int pa_nil))))))))))))))
  (pss_one (ps_ret (pe_ifExp (pt_cmpR op_lt (pv 2) pe_int (nomark _)) (pe_k0 (G_law_pick) hr (by omega) rfl (pa_cons (pv 0) (pa_cons (pv 4) pa_nil))) (pe_k0 (G_law_pick) hr (by omega) rfl (pa_cons (pv 0) (pa_cons (pv 5) pa_nil)))))))))), ?_⟩
    refine ⟨_, rfl, b, 14, rfl, by decide, by decide, hb, fun fm H1 f0 f1 b1 => ?_⟩
    -- if form < 4 and deep > 0
    dsimp only [gName]
    refine seq_when (decide (fm < 4) && decide (0 < (n : Int))) (fun R q => ?_) (fun e => ?_) (fun e => ?_)
    · refine ⟨_, rfl, _, _, rfl, rfl, _, rfl, ?_⟩
      refine iteB (fun e => ?_) (fun e => ?_)
      · refine ⟨_, rfl, _, _, rfl, rfl, _, rfl, ?_⟩
        rw [e] at q
        exact q
      · rw [e] at q
        exact q
    · rw [Bool.and_eq_true] at e
      have hn : 0 < n := by have := of_decide_eq_true e.2; omega
      refine ⟨_, rfl, b, 3, rfl, by decide, by decide, b1.box, fun m H2 m0 m1 b2 => ⟨m, rfl, by omega, by omega, fun D nD => ?_⟩⟩
      have nb : D ≠ b := box_ne b2.box nD
      refine lc_range (lo := 0) (n := m.toNat) (fun i H' => ∃ acc, H' D = some (.lst acc) ∧ acc.length ≤ i ∧ Bx b (upd H2 D (.lst [])) (upd H' D (.lst []))) ⟨[], upd_same, Nat.le_refl _, by rw [upd_upd]; exact Bx.refl (b2.box.same (Same.nw nD))⟩ (fun i H' hi p => ?_) (fun H' p => ?_)
      · obtain ⟨acc, q1, q2, q3⟩ := p
        have hb' : BoxAt H' b := by
          obtain ⟨x, y, z, h⟩ := q3.box
          rw [upd_ne (Ne.symm nb)] at h
          exact ⟨x, y, z, h⟩
        refine ⟨rfl, ?_⟩
        rw [hs hn]
        dsimp only [tYes, gName]
        rw [if_pos rfl]
        refine ⟨_, rfl, _, rfl, _, _, rfl, rfl, b, rfl, hb', fun v H4 b4 hv => ⟨acc, b4.keep _ _ nb q1, Nat.lt_of_le_of_lt (m := 3) (by omega) (Nat.lt_of_lt_of_le (m := 1000) (by decide) (fits 1000)), acc ++ [v], upd_same, by rw [List.length_append]; exact Nat.succ_le_succ q2, ?_⟩⟩
        rw [upd_upd]
        refine ⟨fun a o na h => ?_, ?_⟩
        · have h2 := q3.keep a o na h
          by_cases ha : a = D
          · subst ha
            rw [upd_same] at h2
            rw [upd_same]
            exact h2
          · rw [upd_ne ha] at h2
            rw [upd_ne ha]
            exact b4.keep _ _ na h2
        · obtain ⟨x, y, z, h⟩ := b4.box
          exact ⟨x, y, z, by rw [upd_ne (Ne.symm nb)]; exact h⟩
      · obtain ⟨acc, q1, q2, q3⟩ := p
        have hb' : BoxAt H' b := by
          obtain ⟨x, y, z, h⟩ := q3.box
          rw [upd_ne (Ne.symm nb)] at h
          exact ⟨x, y, z, h⟩
        have bb : Bx b H2 H' := by
          refine ⟨fun a o na h => ?_, hb'⟩
          have ha : a ≠ D := ne_of_none h nD
          have h2 := q3.keep a o na (by rw [upd_ne ha]; exact h)
          rw [upd_ne ha] at h2
          exact h2
        refine ⟨_, rfl, _, _, rfl, rfl, _, rfl, ?_⟩
        refine iteB (fun e => ?_) (fun e => ?_)
        · exact ⟨_, rfl, kQ _ _ (b1.trans (b2.trans bb)) (.inl ⟨acc, q1⟩)⟩
        · refine ⟨_, rfl, D, acc, rfl, SqL.of q1, fun t H5 n5 e5 h5 => ?_⟩
          exact kQ _ _ ((b1.trans (b2.trans bb)).trans (Bx.of_same hb' e5)) (.inr ⟨_, h5⟩)
    -- the words, the plain ones
    refine ⟨fits 13, fun p1 H2 n2 e2 h2 => ?_⟩
    have b2 := b1.trans (Bx.of_same b1.box e2)
    refine ⟨_, _, rfl, rfl, fits 1, fun p2 H3 n3 e3 h3 => ⟨fits 1, fun p3 H4 n4 e4 h4 => ⟨fits 2, fun p4 H5 n5 e5 h5 => ⟨fits 12, fun p5 H6 n6 e6 h6 => ?_⟩⟩⟩⟩
    have e26 : Same H2 H6 := ((e3.trans e4).trans e5).trans e6
    have b6 := b2.trans (Bx.of_same b2.box e26)
    have w6 : H6 p1 = _ := e26 _ _ h2
    have nb5 : p5 ≠ b := box_ne (b2.box.same ((e3.trans e4).trans e5)) n6
    have nb1 : p1 ≠ b := box_ne b1.box n2
    refine ⟨_, rfl, _, _, rfl, rfl, _, rfl, ?_⟩
    refine iteB (fun e => ?_) (fun e => ?_)
    · refine ⟨_, rfl, _, rfl, b, p1, _, rfl, b6.box, nb1, SqL.of w6, by decide, by decide, fun i x H7 hx b7 => ?_⟩
      refine kQ _ _ (b6.trans b7) (any_mem hx ?_)
      intro y hy
      simp only [List.mem_cons, List.not_mem_nil, or_false] at hy
      rcases hy with rfl | rfl | rfl | rfl | rfl | rfl | rfl | rfl | rfl | rfl | rfl | rfl | rfl <;> (show Str.length _ ≤ 1000; decide +kernel)
    · refine ⟨_, rfl, _, rfl, b, p5, _, rfl, b6.box, nb5, SqL.of h6, Nat.zero_lt_succ _, (by show (12 : Nat) < 1000000; decide), fun i x H7 hx b7 => ?_⟩
      refine kQ _ _ (b6.trans b7) (AnyV.bx b7 (any_mem hx ?_))
      intro y hy
      simp only [List.mem_cons, List.not_mem_nil, or_false] at hy
      rcases hy with rfl | rfl | rfl | rfl | rfl | rfl | rfl | rfl | rfl | rfl | rfl | rfl <;> first
        | exact .inl ⟨_, e6 _ _ (e5 _ _ (e4 _ _ h3))⟩
        | exact .inr ⟨_, e6 _ _ (e5 _ _ h4)⟩
        | exact .inr ⟨_, e6 _ _ h5⟩
        | trivial
        | (show Int.natAbs _ ≤ 1000; decide +kernel)
theorem any_all {f : Addr} {fd : FuncData} (F : At K mg "_law_any" s_law_any f fd) (b : Binds K fd ["_law_box_here", "_law_deep_here"] []) (T : Txt P K mg CR IR fIR aW aA) (G_law_take : Cl P w K mg base 1 "_law_take" spTake) (G_law_pick : Cl P w K mg base 2 "_law_pick" (spPick K)) :
    ∀ n : Nat, FnOk P w K mg base (L2.CX P w) (n + 3) f fd ["_law_box_here", "_law_deep_here"] (spAny n)
  | 0 => any_step F T G_law_take G_law_pick 0 spNone ⟨f, fd, _, fn_none, F.mgf, F.fn.kp, b⟩ fun h => absurd h (Nat.lt_irrefl _)
  | n + 1 => any_step F T G_law_take G_law_pick (n + 1) (spAny n) ⟨f, fd, _, any_all F b T G_law_take G_law_pick n, F.mgf, F.fn.kp, b⟩ fun _ => by
    have e : ((n + 1 : Nat) : Int) - 1 = (n : Int) := by omega
    rw [e]
end
end K03
namespace K03
open PySem PySem.Spec PyProof.Rows L2 Mn StX
structure Txt2 (K : PySem.W.Frag) (mg : Str → Option Value) (IR ME IH : Addr) : Prop where
  g_MoveError : ∃ u, mg "MoveError" = some u ∧ RelV (.ref ME) u
  g_InvalidHouse : ∃ u, mg "InvalidHouse" = some u ∧ RelV (.ref IH) u
  isME : PySem.W.kitOne K (.ref IR) (.ref ME) = some true
  isIH : PySem.W.kitOne K (.ref IR) (.ref IH) = some false
  exD : ExcD K IR
  xf : XfC K IR
  exm : PySem.W.exmOne K (.ref IR) (.ref IR) = some true
/-- the word with which Rule refuses a list of four -/
def spRefused (K : PySem.W.Frag) : Sp := fun vs H Q _ => ∃ (l : Addr) (a wy h s : V), vs = [.ref l] ∧ SqL K H l [a, wy, h, s] ∧ AnyV H a ∧ AnyV H wy ∧ AnyV H h ∧ AnyV H s ∧ ∀ H', Same H H' → Q (dueV a wy h s) H'
def spDeep : Sp := fun vs H Q _ => ∃ b, vs = [.ref b] ∧ BoxAt H b ∧ ∀ v H', Bx b H H' → AnyV H' v → Q v H'
section
variable {P : Program} {w : World} {K : PySem.W.Frag} {mg : Str → Option Value} {base : Heap} {CR IR fIR aW aA ME IH : Addr}
abbrev s_law_due : Stmt := topS 24
abbrev N_law_due : List Str := ["_law_told", "_law_asks", "_law_way", "_law_is_holding", "_law_is_sharing", "_law_is_whole"]
theorem sc_law_due : FnScope N_law_due ["_law_told"] (defScope s_law_due) := ⟨rfl, rfl, rfl, by decide +kernel, rfl, by decide +kernel, by decide +kernel⟩
theorem ok_due {f : Addr} {fd : FuncData} (F : At K mg "_law_due" s_law_due f fd) (T : Txt P K mg CR IR fIR aW aA) : FnOk P w K mg base (L2.CX P w) 1 f fd ["_law_told"] (spRefused K) := by
  refine F.fn.okX sc_law_due (fun vs H Q E h => ?_) (fun cdv A outer s H vs Q E hr h => ?_)
  · obtain ⟨l, a, wy, h, s, rfl, _⟩ := h
    rfl
  · obtain ⟨l, a, wy, hd, sh, rfl, hl, hA, hW, hH, hS, kQ⟩ := h
    obtain ⟨tA, tyA'⟩ := tyA (K := K) hA
    obtain ⟨tW, tyW⟩ := tyA (K := K) hW
    obtain ⟨tH, tyH⟩ := tyA (K := K) hH
    obtain ⟨tS, tyS⟩ := tyA (K := K) hS
    have tyH' : ∀ H', Same H H' → AnyV H' hd := fun H' e => hH.same e
    refine ⟨_, (pss_cons (ps_asg (pv 0) (pg_unl rfl (pgs_cons (pg_name (i := 1) sc_law_due.nd rfl (Or.inl rfl)) (pgs_cons (pg_name (i := 2) sc_law_due.nd rfl (Or.inl rfl)) (pgs_cons (pg_name (i := 3) sc_law_due.nd rfl (Or.inl rfl)) (pgs_cons (pg_name (i := 4) sc_law_due.nd rfl (Or.inl rfl)) pgs_nil))))))
  (Evl.pss_cut (ps_set (i := 5) sc_law_due.nd rfl (Or.inl rfl) (pe_and (pe_callB call_isi rfl T.b_isinstance (by decide +kernel) (pa_cons (pv 1) (pa_cons (pe_bty "int" rfl T.b_int (by decide +kernel)) pa_nil))) (pe_and (pe_not (pe_callB call_isi rfl T.b_isinstance (by decide +kernel) (pa_cons (pv 1) (pa_cons (pe_bty "bool" rfl T.b_bool (by decide +kernel)) pa_nil)))) (pe_one (pe_cmpR op_gt (pv 1) pe_int (nomark _))))))
  (pss_cons (ps_if (PW.pt (pw_and (pt_not (pt_val (pv 5))) (pw_and1 (PW.pt (pw_or (pt_not (pt_val (pe_callB call_isi rfl T.b_isinstance (by decide +kernel) (pa_cons (pv 1) (pa_cons (pe_bty "str" rfl T.b_str (by decide +kernel)) pa_nil))))) (pw_or1 (pt_cmpR op_notIn_seq (pv 1) (pe_tupN (pa_cons pe_str (pa_cons pe_str pa_nil))) (by rfl)))))))) (pss_one (ps_ret pe_str)) pss_nil)
  (pss_cons (ps_if (PW.pt (pw_or (pt_not (pt_val (pe_callB call_isi rfl T.b_isinstance (by decide +kernel) (pa_cons (pv 2) (pa_cons (pe_bty "str" rfl T.b_str (by decide +kernel)) pa_nil))))) (pw_or1 (pt_cmpR op_notIn_seq (pv 2) (pe_tupN (pa_cons pe_str (pa_cons pe_str (pa_cons pe_str pa_nil)))) (by rfl))))) (pss_one (ps_ret pe_str)) pss_nil)
  (pss_cons (ps_if (pt_not (pt_val (pe_callB call_isi rfl T.b_isinstance (by decide +kernel) (pa_cons (pv 3) (pa_cons (pe_bty "bool" rfl T.b_bool (by decide +kernel)) pa_nil))))) (pss_one (ps_ret pe_str)) pss_nil)
  (pss_one (ps_ret (pe_ifExp (pt_val (pe_callB call_isi rfl T.b_isinstance (by decide +kernel) (pa_cons (pv 4) (pa_cons (pe_bty "bool" rfl T.b_bool (by decide +kernel)) pa_nil)))) pe_non pe_str)))))))), ?_⟩
    refine ⟨_, rfl, l, _, rfl, hl, rfl, _, _, rfl, _, _, rfl, _, _, rfl, _, _, rfl, rfl, ?_⟩
    -- is_whole
    refine ⟨fun σ H' => H' = H ∧ σ = [some (.ref l), some a, some wy, some hd, some sh, some (.bl (match a with | .int i => decide (0 < i) | _ => false))], ?_, ?_⟩
    · refine ⟨_, rfl, _, _, tA, _, _, rfl, .ty "int", tyA'.ty, tyA'.int, _, rfl, ?_⟩
      refine iteB (fun e => ?_) (fun e => ?_)
      · refine ⟨_, rfl, _, _, tA, _, _, rfl, .ty "bool", tyA'.ty, tyA'.bool, _, rfl, _, rfl, ?_⟩
        cases a with
        | int i => exact ⟨_, rfl, _, _, rfl, rfl, rfl, rfl⟩
        | bl b => exact ⟨rfl, rfl⟩
        | _ => cases e
      · cases a with
        | int i => cases e
        | _ => exact ⟨rfl, rfl⟩
    rintro σ H' ⟨rfl, rfl⟩
    -- asks
    refine seq_whenX (!okAsks a) (Same H') (fun R q => ?_) (fun e H1 s1 => ?_) (fun e H1 s1 => ?_)
    · refine ⟨_, rfl, _, rfl, ?_⟩
      refine iteNB (fun e => ?_) (fun e => ?_)
      · refine ⟨_, rfl, _, _, tA, _, _, rfl, .ty "str", tyA'.ty, tyA'.str, _, rfl, ?_⟩
        refine iteNB (fun e2 => ?_) (fun e2 => ?_)
        · have z : okAsks a = false := by
            cases a with
            | int i => exact decide_eq_false (fun h => by have z2 := of_decide_eq_false e; omega)
            | str s => cases e2
            | _ => rfl
          rw [z] at q
          exact q H' (Same.refl _)
        · cases a with
          | str s =>
            refine ⟨_, rfl, fits 2, fun p H2 np e3 hp => ⟨p, _, rfl, .inr (SqT.of hp), rfl, rfl, _, rfl, q H2 e3⟩⟩
          | _ => cases e2
      · have z : okAsks a = true := by
          cases a with
          | int i => exact decide_eq_true (by have z2 := of_decide_eq_true e; omega)
          | _ => cases e
        rw [z] at q
        exact q H' (Same.refl _)
    · have z := kQ H1 s1
      unfold dueV at z
      rw [due_asks (by simpa using e)] at z
      exact z
    have eA : okAsks a = true := by simpa using e
    have hW1 := hW.same s1
    obtain ⟨tW, tyW⟩ := tyA (K := K) hW1
    refine seq_whenX (!okWay wy) (Same H1) (fun R q => ?_) (fun e H2 s2 => ?_) (fun e H2 s2 => ?_)
    · refine ⟨_, rfl, _, _, tW, _, _, rfl, .ty "str", tyW.ty, tyW.str, _, rfl, ?_⟩
      refine iteNB (fun e2 => ?_) (fun e2 => ?_)
      · have z : okWay wy = false := by cases wy <;> first | rfl | cases e2
        rw [z] at q
        exact q H1 (Same.refl _)
      · cases wy with
        | str s => exact ⟨_, rfl, fits 3, fun p H2 np e3 hp => ⟨p, _, rfl, .inr (SqT.of hp), rfl, rfl, _, rfl, q H2 e3⟩⟩
        | _ => cases e2
    · have z := kQ H2 (s1.trans s2)
      unfold dueV at z
      rw [due_way eA (by simpa using e)] at z
      exact z
    have eW : okWay wy = true := by simpa using e
    have s02 := s1.trans s2
    obtain ⟨tH, tyH⟩ := tyA (K := K) (hH.same s02)
    obtain ⟨tS, tyS⟩ := tyA (K := K) (hS.same s02)
    have z := kQ H2 s02
    unfold dueV at z
    refine seq_when (!isB hd) (fun R q => ?_) (fun e => ?_) (fun e => ?_)
    · exact ⟨_, rfl, _, _, tH, _, _, rfl, .ty "bool", tyH.ty, tyH.bool, _, rfl, q⟩
    · rw [due_holds eA eW (by simpa using e)] at z
      exact z
    have eH : isB hd = true := by simpa using e
    refine ⟨_, rfl, _, _, tS, _, _, rfl, .ty "bool", tyS.ty, tyS.bool, _, rfl, ?_⟩
    refine iteB (fun e => ?_) (fun e => ?_)
    · rw [due_none eA eW eH e] at z
      exact z
    · rw [due_shares eA eW eH e] at z
      exact z
def t_tb (K : PySem.W.Frag) (CR IR : Addr) : WX → TS := fun W => tDrop (tMakeS CR (spInit CR IR) [] (WE W) (tCons (tOp (rIxL K) (tVar 0) (tC (.int 0))) (tCons (tOp (rIxL K) (tVar 0) (tC (.int 1))) (tCons (tOp (rIxL K) (tVar 0) (tC (.int 2))) (tCons (tOp (rIxL K) (tVar 0) (tC (.int 3))) tNil)))))
def t_ts (K : PySem.W.Frag) (IR ME IH : Addr) : Addr → Value → Option Addr → TS := fun a cls d => tAsg (tIf (tAnd (tB (tCB (rIsD K IR a cls d) (tCons (tVar 2) (tCons (tC (.ref ME)) tNil)))) (tNot (tB (tCB (rIsD K IR a cls d) (tCons (tVar 2) (tCons (tC (.ref IH)) tNil)))))) (tXf a cls d IR "word" (tVar 2)) (tC (.str "other"))) (gName 1)
abbrev s_law_refused : Stmt := topS 25
abbrev N_law_refused : List Str := ["_law_told", "_law_found", "e"]
theorem sc_law_refused : FnScope N_law_refused ["_law_told"] (defScope s_law_refused) := ⟨rfl, rfl, rfl, by decide +kernel, rfl, by decide +kernel, by decide +kernel⟩
theorem ok_refused {f : Addr} {fd : FuncData} (F : At K mg "_law_refused" s_law_refused f fd) (T : Txt P K mg CR IR fIR aW aA) (U : Txt2 K mg IR ME IH) (G_Rule : Mc P w K mg base 3 "Rule" CR 5 (spInit CR IR) []) : FnOk P w K mg base (L2.CX P w) 5 f fd ["_law_told"] (spRefused K) := by
  refine F.fn.okX sc_law_refused (fun vs H Q E h => ?_) (fun cdv A outer s H vs Q E hr h => ?_)
  · obtain ⟨l, a, wy, h, s, rfl, _⟩ := h
    rfl
  · obtain ⟨l, a, wy, hd, sh, rfl, hl, hA, hW, hH, hS, kQ⟩ := h
    refine ⟨_, (pss_cons (ps_set (i := 1) sc_law_refused.nd rfl (Or.inl rfl) pe_non)
  (pss_cons (ps_try_as (i := 2) (tb := t_tb K CR IR) (ts := t_ts K IR ME IH) (Wout := fun _ _ _ _ => False) rfl rfl sc_law_refused.nd rfl rfl ⟨rfl, by decide, Or.inl T.x_InvalidRule.gC⟩ takes0
    (fun W pn xe tk _ => (pss_one (ps_expr (pe_cmS G_Rule tk hr (by omega) rfl (pa_cons (pe_ix ix_list (pv 0) pe_int (fun _ _ => rfl)) (pa_cons (pe_ix ix_list (pv 0) pe_int (fun _ _ => rfl)) (pa_cons (pe_ix ix_list (pv 0) pe_int (fun _ _ => rfl)) (pa_cons (pe_ix ix_list (pv 0) pe_int (fun _ _ => rfl)) pa_nil))))))))
    (fun a oe cls d pn hz hf => (pss_one (ps_set (i := 1) sc_law_refused.nd rfl (Or.inl rfl) (pe_ifExp (PW.pt (pw_and (pt_val (pe_callB (call_isD U.exD hz hf) rfl T.b_isinstance (by decide +kernel) (pa_cons (pv 2) (pa_cons (pe_gc rfl U.g_MoveError) pa_nil)))) (pw_and1 (pt_not (pt_val (pe_callB (call_isD U.exD hz hf) rfl T.b_isinstance (by decide +kernel) (pa_cons (pv 2) (pa_cons (pe_gc rfl U.g_InvalidHouse) pa_nil)))))))) (pe_xf U.xf T.x_InvalidRule.noN hz hf (pv 2)) pe_str)))))
  (pss_one (ps_ret (pv 1))))), ?_⟩
    refine ⟨_, rfl, l, _, 0, a, rfl, rfl, hl, rfl, _, rfl, l, _, 1, wy, rfl, rfl, hl, rfl, _, rfl, l, _, 2, hd, rfl, rfl, hl, rfl, _, rfl, l, _, 3, sh, rfl, rfl, hl, rfl, ?_⟩
    intro x dx nx ndx nex
    have s0 : Same H (upd (upd H dx (.own x)) x (.ins CR dx [])) := fun b o e => by
      rw [upd_ne (ne_of_none e nx), upd_ne (ne_of_none e ndx)]
      exact e
    refine ⟨x, dx, a, wy, hd, sh, rfl, upd_same, hA.same s0, hW.same s0, hH.same s0, hS.same s0, fun wd hwd d nd => ?_, fun hn H' t k1 k2 => ?_⟩
    · refine ⟨true, U.exm, fun _ a0 na0 => ?_, fun q => nomatch q⟩
      refine ⟨_, rfl, _, _, _, d, _, rfl, rfl, rfl, (fun u hu => hu), upd_same, U.isME, _, rfl, ?_⟩
      refine iteT ⟨_, rfl, _, _, _, d, _, rfl, rfl, rfl, (fun u hu => hu), upd_same, U.isIH, _, rfl, ?_⟩
      refine iteT ⟨_, rfl, rfl, rfl, d, _, _, rfl, upd_same, rfl, _, rfl, ?_⟩
      have z := kQ _ (s0.trans (Same.nw (o := .xd [("word", .str wd)]) nd))
      unfold dueV at z
      rw [hwd] at z
      exact z
    · refine ⟨rfl, _, rfl, ?_⟩
      have z := kQ H' fun b o e => k1 b o (ne_of_none e nx) (s0 b o e)
      unfold dueV at z
      rw [hn] at z
      exact z
end
end K03
namespace K03
open PySem PySem.Spec PyProof.Rows L2 Mn StX
def spLaw (K : PySem.W.Frag) : Sp := fun vs H Q _ => ∃ (a : Addr) (ns : List Int), vs = [.ref a] ∧ SqL K H a (ns.map V.int) ∧ ns.length ≤ 63 ∧ ∀ H', Q (.bl true) H'
theorem due_cases (a w h s : V) : due a w h s = none ∨ due a w h s = some "asks" ∨ due a w h s = some "way" ∨ due a w h s = some "holds" ∨ due a w h s = some "shares" := by
  unfold due
  cases okAsks a <;> cases okWay w <;> cases isB h <;> cases isB s <;> simp
theorem due_repr (a w h s : V) : dueV a w h s = .non ∨ (∃ b, dueV a w h s = .bl b) ∨ ∃ t, dueV a w h s = .str t ∧ (reprText t).length ≤ sizeLine := by
  unfold dueV
  rcases due_cases a w h s with e | e | e | e | e <;> rw [e]
  · exact .inl rfl
  · exact .inr (.inr ⟨_, rfl, Nat.le_trans (m := 100) (by decide +kernel) (fits 100)⟩)
  · exact .inr (.inr ⟨_, rfl, Nat.le_trans (m := 100) (by decide +kernel) (fits 100)⟩)
  · exact .inr (.inr ⟨_, rfl, Nat.le_trans (m := 100) (by decide +kernel) (fits 100)⟩)
  · exact .inr (.inr ⟨_, rfl, Nat.le_trans (m := 100) (by decide +kernel) (fits 100)⟩)
section
variable {P : Program} {w : World} {K : PySem.W.Frag} {mg : Str → Option Value} {base : Heap} {CR IR fIR aW aA ME IH : Addr}
abbrev s_law_deep : Stmt := topS 26
abbrev N_law_deep : List Str := ["_law_box_here", "_law_found", "_law_turn"]
theorem sc_law_deep : FnScope N_law_deep ["_law_box_here"] (defScope s_law_deep) := ⟨rfl, rfl, rfl, by decide +kernel, rfl, by decide +kernel, by decide +kernel⟩
theorem ok_deep {f : Addr} {fd : FuncData} (F : At K mg "_law_deep" s_law_deep f fd) (T : Txt P K mg CR IR fIR aW aA) (G_law_take : Cl P w K mg base 1 "_law_take" spTake) (G_law_any : Cl P w K mg base 3 "_law_any" (spAny 0)) : FnOk P w K mg base (L2.CX P w) 4 f fd ["_law_box_here"] spDeep := by
  refine F.fn.okX sc_law_deep (fun vs H Q E h => ?_) (fun cdv A outer s H vs Q E hr h => ?_)
  · obtain ⟨b, rfl, _⟩ := h
    rfl
  · obtain ⟨b, rfl, hb, kQ⟩ := h
    refine ⟨_, (pss_cons (ps_set (i := 1) sc_law_deep.nd rfl (Or.inl rfl) (pe_k0 (G_law_any) hr (by omega) rfl (pa_cons (pv 0) (pa_cons pe_int pa_nil))))
  (pss_cons (ps_set (i := 1) sc_law_deep.nd rfl (Or.inl rfl) (pe_ifExp (pt_val (pe_callB call_isiT rfl T.b_isinstance (by decide +kernel) (pa_cons (pv 1) (pa_cons (pe_tupN (pa_cons (pe_bty "list" rfl T.b_list (by decide +kernel)) (pa_cons (pe_bty "tuple" rfl T.b_tuple (by decide +kernel)) pa_nil))) pa_nil)))) pe_int (pv 1)))
  (pss_cons (ps_for (passes_of rfl) rfl (pi_range1 rfl T.b_range (pa_cons pe_int pa_nil)) (pg_name (i := 2) sc_law_deep.nd rfl (Or.inl rfl))
  (pss_one (ps_set (i := 1) sc_law_deep.nd rfl (Or.inl rfl) (pe_ifExp (pt_cmpR op_eq (pe_k0 (G_law_take) hr (by omega) rfl (pa_cons (pv 0) (pa_cons pe_int pa_nil))) pe_int (nomark _)) (pe_lstN (pa_cons (pv 1) pa_nil)) (pe_tupN (pa_cons (pv 1) pa_nil))))))
  (pss_one (ps_ret (pv 1)))))), ?_⟩
    refine ⟨_, rfl, b, rfl, hb, fun v H1 b1 hv => ?_⟩
    refine ⟨_, rfl, fits 2, fun p H2 np e2 hp => ?_⟩
    have hv' := hv.same e2
    obtain ⟨t, ty⟩ := tyA (K := K) hv'
    have b2 := b1.trans (Bx.of_same b1.box e2)
    refine ⟨v, p, _, t, _, _, rfl, hp, .cons (.ty "list") (.cons (.ty "tuple") .nil), ty.ty, ty.seq, _, rfl, ?_⟩
    suffices hmain : ∀ v : V, AnyV H2 v → ∀ (D : Ends), D.nx = (fun σ' H' => tRet (tVar 1) { nx := fun _ H' => Q .non H', rt := Q } σ' H') → D.rt = Q →
        tFor (iRng1 (tCons (tC (V.int 8)) tNil)) (gName 2) (tAsg (tIf (tTest (tOp rEq (tCall spTake [] E0 (tCons (tVar 0) (tCons (tC (V.int 2)) tNil))) (tC (V.int 0)))) (tLstN (tCons (tVar 1) tNil)) (tTupN (tCons (tVar 1) tNil))) (gName 1)) D
          [some (.ref b), some v, none] H2 by
      refine iteB (fun e => ?_) (fun e => ?_)
      · exact hmain (.int 0) (by show Int.natAbs _ ≤ 1000; decide) _ rfl rfl
      · exact ⟨_, rfl, hmain v hv' _ rfl rfl⟩
    intro v hv D hD1 hD2
    refine ⟨8, rfl, by decide, by decide, for_range (lo := 0) (n := 8) (fun i σ H' => ∃ (v : V) (x : Option V), σ = [some (.ref b), some v, x] ∧ Bx b H H' ∧ AnyV H' v) ⟨v, none, rfl, b2, hv⟩ (fun i σ H' hi p => ?_) (fun σ H' p => ?_)⟩
    · obtain ⟨v, x, rfl, q1, q2⟩ := p
      refine ⟨_, rfl, b, 2, rfl, by decide, by decide, q1.box, fun d H3 _ _ b3 => ⟨rfl, _, rfl, ?_⟩⟩
      refine iteB (fun e => ?_) (fun e => ?_)
      · exact ⟨_, rfl, fits 1, fun p H4 n4 e4 h4 => ⟨_, _, rfl, (q1.trans b3).trans (Bx.of_same b3.box e4), .inl ⟨_, h4⟩⟩⟩
      · exact ⟨_, rfl, fits 1, fun p H4 n4 e4 h4 => ⟨_, _, rfl, (q1.trans b3).trans (Bx.of_same b3.box e4), .inr ⟨_, h4⟩⟩⟩
    · obtain ⟨v, x, rfl, q1, q2⟩ := p
      rw [hD1]
      exact ⟨_, rfl, kQ _ _ q1 q2⟩
end
end K03
namespace K03
open PySem PySem.Spec PyProof.Rows L2 Mn StX
section
variable {P : Program} {w : World} {K : PySem.W.Frag} {mg : Str → Option Value} {base : Heap} {CR IR fIR aW aA ME IH : Addr}
/-- the list of four that the law holds -/
def Told (H : Hp) (l : Addr) : Prop := ∃ a wy h s, H l = some (.lst [a, wy, h, s]) ∧ AnyV H a ∧ AnyV H wy ∧ AnyV H h ∧ AnyV H s
theorem Told.bx {b l : Addr} {H H' : Hp} (n : l ≠ b) (x : Bx b H H') (t : Told H l) : Told H' l := by
  obtain ⟨a, wy, h, s, e, h1, h2, h3, h4⟩ := t
  exact ⟨a, wy, h, s, x.keep _ _ n e, h1.bx x, h2.bx x, h3.bx x, h4.bx x⟩
/-- all but b and l stands -/
def Old (H0 : Hp) (H : Hp) : Prop := ∀ a o, H0 a = some o → H a = some o
theorem told_set {H : Hp} {l : Addr} {v : V} (t : Told H l) (hv : AnyV H v) (j : Nat) : ∃ xs, H l = some (.lst xs) ∧ xs.length = 4 ∧ Told (upd H l (.lst (xs.set j v))) l := by
  obtain ⟨a, wy, h, s, e, h1, h2, h3, h4⟩ := t
  refine ⟨_, e, rfl, ?_⟩
  match j with
  | 0 => exact ⟨_, _, _, _, upd_same, hv.upd e, h2.upd e, h3.upd e, h4.upd e⟩
  | 1 => exact ⟨_, _, _, _, upd_same, h1.upd e, hv.upd e, h3.upd e, h4.upd e⟩
  | 2 => exact ⟨_, _, _, _, upd_same, h1.upd e, h2.upd e, hv.upd e, h4.upd e⟩
  | 3 => exact ⟨_, _, _, _, upd_same, h1.upd e, h2.upd e, h3.upd e, hv.upd e⟩
  | j + 4 => exact ⟨_, _, _, _, upd_same, h1.upd e, h2.upd e, h3.upd e, h4.upd e⟩
abbrev s_law : Stmt := topS 27
abbrev N_law : List Str := ["_law_script", "_law_k", "_law_box_here", "_law_turn", "_law_told", "_law_more", "_law_odd"]
theorem sc_law : FnScope N_law ["_law_script"] (defScope s_law) := ⟨rfl, rfl, rfl, by decide +kernel, rfl, by decide +kernel, by decide +kernel⟩
theorem ok_law {f : Addr} {fd : FuncData} (F : At K mg "law" s_law f fd) (T : Txt P K mg CR IR fIR aW aA) (G_law_take : Cl P w K mg base 1 "_law_take" spTake) (G_law_pick : Cl P w K mg base 2 "_law_pick" (spPick K))
    (G_law_box : Cl P w K mg base 1 "_law_box" (spBox K)) (G_law_rule : Cl P w K mg base 3 "_law_rule" spRule) (G_law_any : Cl P w K mg base 6 "_law_any" (spAny 3)) (G_law_deep : Cl P w K mg base 4 "_law_deep" spDeep)
    (G_law_refused : Cl P w K mg base 5 "_law_refused" (spRefused K)) (G_law_due : Cl P w K mg base 1 "_law_due" (spRefused K)) : FnOk P w K mg base (L2.CX P w) 7 f fd ["_law_script"] (spLaw K) := by
  refine F.fn.okX sc_law (fun vs H Q E h => ?_) (fun cdv A outer s H0 vs Q E hr h => ?_)
  · obtain ⟨a, ns, rfl, _⟩ := h
    rfl
  · obtain ⟨a, ns, rfl, hS, hlen, kQ⟩ := h
    refine ⟨_, (pss_cons (ps_for (passes_of rfl) rfl (pi_range1 rfl T.b_range (pa_cons (pe_callB (call_max2 rfl) rfl T.b_max (by decide +kernel) (pa_cons pe_int (pa_cons (pe_callB (call_min2 rfl) rfl T.b_min (by decide +kernel) (pa_cons pe_int (pa_cons (pe_callB call_len rfl T.b_len (by decide +kernel) (pa_cons (pv 0) pa_nil)) pa_nil))) pa_nil))) pa_nil)) (pg_name (i := 1) sc_law.nd rfl (Or.inl rfl))
  (pss_cons (ps_set (i := 2) sc_law.nd rfl (Or.inl rfl) (pe_k0 (G_law_box) hr (by omega) rfl (pa_cons (pv 0) (pa_cons (pv 1) pa_nil))))
  (pss_one (ps_for (passes_of rfl) rfl (pi_range1 rfl T.b_range (pa_cons pe_int pa_nil)) (pg_name (i := 3) sc_law.nd rfl (Or.inl rfl))
  (pss_cons (ps_set (i := 4) sc_law.nd rfl (Or.inl rfl) (pe_callTy call_listN rfl T.b_list (by decide +kernel) (pa_cons (pe_k0 (G_law_rule) hr (by omega) rfl (pa_cons (pv 2) pa_nil)) pa_nil)))
  (pss_cons (ps_if (pt_cmpR op_notN (pe_k0 (G_law_refused) hr (by omega) rfl (pa_cons (pv 4) pa_nil)) pe_non (nomark _)) (pss_one (ps_ret pe_bl)) pss_nil)
  (pss_cons (ps_for (passes_of rfl) rfl (pi_range1 rfl T.b_range (pa_cons (pe_k0 (G_law_take) hr (by omega) rfl (pa_cons (pv 2) (pa_cons pe_int pa_nil))) pa_nil)) (pg_name (i := 5) sc_law.nd rfl (Or.inl rfl))
  (pss_cons (ps_set (i := 6) sc_law.nd rfl (Or.inl rfl) (pe_lstN (pa_cons (pe_k0 (G_law_any) hr (by omega) rfl (pa_cons (pv 2) (pa_cons pe_int pa_nil))) (pa_cons (pe_k0 (G_law_deep) hr (by omega) rfl (pa_cons (pv 2) pa_nil)) (pa_cons pe_int (pa_cons (pe_op op_sub pe_int pe_int) (pa_cons pe_bl (pa_cons pe_non (pa_cons pe_str (pa_cons pe_str (pa_cons pe_str (pa_cons pe_int (pa_cons pe_bl pa_nil)))))))))))))
  (pss_one (ps_asg (pe_k0 (G_law_pick) hr (by omega) rfl (pa_cons (pv 2) (pa_cons (pv 6) pa_nil))) (pg_sub (pv 4) (pe_k0 (G_law_take) hr (by omega) rfl (pa_cons (pv 2) (pa_cons pe_int pa_nil))) set_list)))))
  (pss_one (ps_if (pt_cmpR op_ne (pe_callB call_reprS rfl T.b_repr (by decide +kernel) (pa_cons (pe_k0 (G_law_refused) hr (by omega) rfl (pa_cons (pv 4) pa_nil)) pa_nil)) (pe_callB call_reprS rfl T.b_repr (by decide +kernel) (pa_cons (pe_k0 (G_law_due) hr (by omega) rfl (pa_cons (pv 4) pa_nil)) pa_nil)) (nomark _)) (pss_one (ps_ret pe_bl)) pss_nil)))))))))
  (pss_one (ps_ret (pe_and (pe_cmpR op_eq (pe_k0 (G_law_refused) hr (by omega) rfl (pa_cons (pe_lstN (pa_cons pe_int (pa_cons pe_int (pa_cons pe_int (pa_cons pe_int pa_nil))))) pa_nil)) pe_str (nomark _)) (pe_one (pe_cmpR op_eq (pe_k0 (G_law_refused) hr (by omega) rfl (pa_cons (pe_lstN (pa_cons pe_str (pa_cons pe_str (pa_cons pe_int (pa_cons pe_int pa_nil))))) pa_nil)) pe_str (nomark _))))))), ?_⟩
    refine ⟨_, rfl, _, _, rfl, .inl ⟨_, hS, rfl⟩, _, _, rfl, _, _, rfl, ?_⟩
    generalize hn : (if (if ((ns.map V.int).length : Int) < 5 then ((ns.map V.int).length : Int) else 5) > 1 then (if ((ns.map V.int).length : Int) < 5 then ((ns.map V.int).length : Int) else 5) else 1) = n
    have hn5 : 0 ≤ n ∧ n ≤ 1000 := by
      subst hn
      rw [List.length_map]
      split <;> split <;> omega
    refine ⟨n, rfl, by omega, by omega, for_range (lo := 0) (n := n.toNat) (fun i σ H => Same H0 H ∧ ∃ x1 x2 x3 x4 x5 x6, σ = [some (.ref a), x1, x2, x3, x4, x5, x6]) ⟨Same.refl _, _, _, _, _, _, _, rfl⟩ (fun i σ H hi p => ?_) (fun σ H p => ?_)⟩
    · obtain ⟨s0, x1, x2, x3, x4, x5, x6, rfl⟩ := p
      refine ⟨_, rfl, _, rfl, a, ns, _, rfl, s0.seq hS, by omega, by omega, by omega, fun b H1 nb s1 hb => ?_⟩
      have s01 := s0.trans s1
      have nb0 : H0 b = none := s0.free nb
      refine ⟨10, rfl, by decide, by decide, for_range (lo := 0) (n := 10) (fun j σ H => Same H0 H ∧ BoxAt H b ∧ ∃ x3 x4 x5 x6, σ = [some (.ref a), some (.int (0 + (i : Int))), some (.ref b), x3, x4, x5, x6]) ⟨s01, hb, _, _, _, _, rfl⟩ (fun j σ H hj p => ?_) (fun σ H p => ?_)⟩
      · obtain ⟨s0, hb, x3, x4, x5, x6, rfl⟩ := p
        -- told = list(rule(box))
        refine ⟨_, rfl, b, rfl, hb, fun t ra rw' rh rs H2 b2 tb tn ht oA oW aA' aW' => ?_⟩
        refine ⟨t, _, rfl, .inr (SqT.of ht), fun l H3 nl s3 hl => ?_⟩
        have nb0' : ∀ c o, H0 c = some o → c ≠ b := fun c o e => ne_of_none e nb0
        have s2 : Same H0 H2 := fun c o e => b2.keep c o (nb0' c o e) (s0 c o e)
        have s03 := s2.trans s3
        have lb : l ≠ b := box_ne b2.box nl
        have nl0 : H0 l = none := s2.free nl
        refine ⟨_, rfl, l, ra, rw', .bl rh, .bl rs, rfl, SqL.of hl, aA'.same s3, aW'.same s3, trivial, trivial, fun H4 s4 => ⟨rfl, _, rfl, ?_⟩⟩
        have e0 : dueV ra rw' (.bl rh) (.bl rs) = .non := by unfold dueV; rw [due_none oA oW rfl rfl]
        rw [e0]
        refine iteF ?_
        have hb4 : BoxAt H4 b := (b2.box.same s3).same s4
        have s04 := s03.trans s4
        have t4 : Told H4 l := ⟨_, _, _, _, s4 _ _ hl, (aA'.same s3).same s4, (aW'.same s3).same s4, trivial, trivial⟩
        refine ⟨_, rfl, b, 3, rfl, by decide, by decide, hb4, fun m H5 m0 m1 b5 => ⟨m, rfl, by omega, by omega, for_range (lo := 0) (n := m.toNat) (fun i' σ H => Same H0 H ∧ BoxAt H b ∧ Told H l ∧ ∃ x5 x6, σ = [some (.ref a), some (.int (0 + (i : Int))), some (.ref b), some (.int (0 + (j : Int))), some (.ref l), x5, x6])
          ⟨fun c o e => b5.keep c o (nb0' c o e) (s04 c o e), b5.box, t4.bx lb b5, _, _, rfl⟩ (fun i' σ H hi' p => ?_) (fun σ H p => ?_)⟩⟩
        · obtain ⟨s0, hb, tl, x5, x6, rfl⟩ := p
          refine ⟨_, rfl, b, rfl, hb, fun v1 H6 b6 av1 => ⟨_, rfl, b, rfl, b6.box, fun v2 H7 b7 av2 => ⟨_, _, rfl, rfl, fits 11, fun p H8 n8 e8 h8 => ?_⟩⟩⟩
          have b78 := b7.trans (Bx.of_same b7.box e8)
          have pb : p ≠ b := box_ne b7.box n8
          refine ⟨_, rfl, _, rfl, b, p, _, rfl, b78.box, pb, SqL.of h8, Nat.zero_lt_succ _, (by show (11 : Nat) < 1000000; decide), fun iy y H9 hy b9 => ?_⟩
          have b89 := b78.trans b9
          have ay : AnyV H9 y := AnyV.bx b9 (any_mem hy fun z hz => by
            simp only [List.mem_cons, List.not_mem_nil, or_false] at hz
            rcases hz with rfl | rfl | rfl | rfl | rfl | rfl | rfl | rfl | rfl | rfl | rfl <;> first
              | exact av1.bx b78
              | exact av2.same e8
              | trivial
              | (show Int.natAbs _ ≤ 1000; decide +kernel)
              | (show Str.length _ ≤ 1000; decide +kernel))
          refine ⟨_, rfl, _, rfl, b, 4, rfl, by decide, by decide, b9.box, fun d H10 d0 d1 b10 => ?_⟩
          have bb := b6.trans (b89.trans b10)
          obtain ⟨dn, rfl⟩ := Int.eq_ofNat_of_zero_le d0
          obtain ⟨xs, hx, hl4, tn⟩ := told_set (tl.bx lb bb) (ay.bx b10) dn
          refine ⟨l, xs, (dn : Int), dn, rfl, rfl, hx, ?_, ?_⟩
          · unfold ixN
            rw [if_pos (by omega), if_pos (by omega)]
            rfl
          · refine ⟨fun c o e => ?_, ?_, tn, _, _, rfl⟩
            · have cl : c ≠ l := ne_of_none e nl0
              rw [upd_ne cl]
              exact bb.keep c o (nb0' c o e) (s0 c o e)
            · obtain ⟨q1, q2, q3, q⟩ := bb.box
              exact ⟨q1, q2, q3, by rw [upd_ne (Ne.symm lb)]; exact q⟩
        · obtain ⟨s0, hb, ⟨ta, tw, th, ts, tl, t1, t2, t3, t4⟩, x5, x6, rfl⟩ := p
          refine ⟨_, rfl, l, ta, tw, th, ts, rfl, SqL.of tl, t1, t2, t3, t4, fun H6 s6 => ⟨_, rfl, due_repr _ _ _ _, ?_⟩⟩
          refine ⟨_, rfl, l, ta, tw, th, ts, rfl, SqL.of (s6 _ _ tl), t1.same s6, t2.same s6, t3.same s6, t4.same s6, fun H7 s7 => ⟨_, rfl, due_repr _ _ _ _, ?_⟩⟩
          refine ⟨rfl, _, rfl, iteNS rfl ?_⟩
          exact ⟨(s0.trans s6).trans s7, (hb.same s6).same s7, _, _, _, _, rfl⟩
      · obtain ⟨s0, hb, x3, x4, x5, x6, rfl⟩ := p
        exact ⟨s0, _, _, _, _, _, _, rfl⟩
    · obtain ⟨s0, x1, x2, x3, x4, x5, x6, rfl⟩ := p
      refine ⟨fits 4, fun p1 H1 n1 e1 h1 => ⟨p1, _, _, _, _, rfl, SqL.of h1, (by show Int.natAbs _ ≤ 1000; decide), (by show Int.natAbs _ ≤ 1000; decide), (by show Int.natAbs _ ≤ 1000; decide), (by show Int.natAbs _ ≤ 1000; decide), fun H2 e2 => ?_⟩⟩
      refine ⟨rfl, _, rfl, ?_⟩
      refine ite2 (fun _ => ?_) (fun e => (e (by decide +kernel)).elim)
      refine ⟨fits 4, fun p2 H3 n3 e3 h3 => ⟨p2, _, _, _, _, rfl, SqL.of h3, (by show Str.length _ ≤ 1000; decide +kernel), (by show Str.length _ ≤ 1000; decide +kernel), (by show Int.natAbs _ ≤ 1000; decide), (by show Int.natAbs _ ≤ 1000; decide), fun H4 e4 => ?_⟩⟩
      refine ⟨rfl, ?_⟩
      have z := kQ H4
      have e : decide (dueV (.str "always") (.str "store") (.int 0) (.int 0) = .str "holds") = true := by decide +kernel
      rw [e]
      exact z
end
end K03
namespace K03
open PySem PySem.Spec PyProof.Rows L2 Mn StX
theorem cx_false {P : Program} {w : World} {H : Hp} {s : Shared} {e : Value} {s' : Shared} (h : L2.CX P w [] H s (fun _ _ _ => False) e s') : False := by
  obtain ⟨_, _, _, _, _, _, _, _, _, _, _, _, z⟩ := h
  exact z.elim
theorem all_mk {l : PySem.W.OpenLaw} {w : World} {K : PySem.W.Frag} {h : Heap} {mg : Str → Option Value} {fa : Addr} (X : K.In h) (G : h.Ns mainGlobals mg) (hfa : mg "law" = some (.ref fa)) (htop : (l.prog.main.scope.names.lookup ("super" : Str)).isSome = false) (hfile : ((l.prog.main.file : Str) == ("/claim/cut.py" : Str)) = true)
    {f1 : Addr} {o2 o3 : Option Addr} {s4 : Array (Option Value)} {v5 v6 v7 v8 v9 v10 : Value} {f11 : Addr} {o12 o13 : Option Addr} {s14 : Array (Option Value)} {v15 v16 v17 v18 v19 v20 : Value} {f21 : Addr} {o22 o23 : Option Addr} {s24 : Array (Option Value)} {v25 v26 v27 v28 v29 v30 : Value} {f31 : Addr} {o32 o33 : Option Addr} {s34 : Array (Option Value)} {v35 v36 v37 v38 v39 v40 : Value} {f41 : Addr} {o42 o43 : Option Addr} {s44 : Array (Option Value)} {v45 v46 v47 v48 v49 v50 : Value} {f51 : Addr} {o52 o53 : Option Addr} {s54 : Array (Option Value)} {v55 v56 v57 v58 v59 v60 : Value} {f61 : Addr} {o62 o63 : Option Addr} {s64 : Array (Option Value)} {v65 v66 v67 v68 v69 v70 : Value} {f71 : Addr} {o72 o73 : Option Addr} {s74 : Array (Option Value)} {v75 v76 v77 v78 v79 v80 : Value} {f81 : Addr} {o82 o83 : Option Addr} {s84 : Array (Option Value)} {v85 v86 v87 v88 v89 v90 : Value} {f91 : Addr} {o92 o93 : Option Addr} {s94 : Array (Option Value)} {v95 v96 v97 v98 v99 v100 : Value} {f101 : Addr} {o102 o103 : Option Addr} {s104 : Array (Option Value)} {v105 v106 v107 v108 v109 v110 : Value} {a111 : Addr} {k112 : Tok} {k113 : Tok} {o114 : Option Addr} {s115 : Array (Option Value)} {n116 : Nat} {a117 : Addr} {k118 : Tok} {k119 : Tok} {k120 : Tok} {o121 : Option Addr} {s122 : Array (Option Value)} {n123 : Nat} {k124 : Tok} {k125 : Tok} {CR : Addr} {f126 : Addr} {o127 o128 : Option Addr} {s129 : Array (Option Value)} {v130 v131 v132 v133 v134 v135 : Value} {t136 : Addr} {k137 : Tok} {o138 : Option Addr} {s139 : Array (Option Value)} {n140 : Nat} {v141 : Value} {IR : Addr} {f142 f143 f144 : Addr} {w145 w146 : Str} {N147 : Addr} {b148 b149 b150 : List Value} {w151 : List Str} {q152 : Bool} {q153 : Option Bool} {o154 : Option Addr} {m155 m156 m157 m158 m159 : Option Value} {v160 v161 v162 v163 v164 v165 : Value} {o166 o167 o168 o169 : Option Addr} {s170 s171 s172 : Array (Option Value)} {vs173 : Array Value} {k174 : Tok} {ME IH : Addr}
    (zb_isinstance : PySem.W.nsIn K mainGlobals "isinstance" = some none)
    (zb_int : PySem.W.nsIn K mainGlobals "int" = some none)
    (zb_bool : PySem.W.nsIn K mainGlobals "bool" = some none)
    (zb_str : PySem.W.nsIn K mainGlobals "str" = some none)
    (zb_list : PySem.W.nsIn K mainGlobals "list" = some none)
    (zb_tuple : PySem.W.nsIn K mainGlobals "tuple" = some none)
    (zb_len : PySem.W.nsIn K mainGlobals "len" = some none)
    (zb_abs : PySem.W.nsIn K mainGlobals "abs" = some none)
    (zb_max : PySem.W.nsIn K mainGlobals "max" = some none)
    (zb_min : PySem.W.nsIn K mainGlobals "min" = some none)
    (zb_range : PySem.W.nsIn K mainGlobals "range" = some none)
    (zb_repr : PySem.W.nsIn K mainGlobals "repr" = some none)
    (zb_super : PySem.W.nsIn K mainGlobals "super" = some none)
    (a_is_integer : PySem.W.nsIn K mainGlobals "is_integer" = some (some (.ref f1)))
    (l_is_integer : K.lookup f1 = some ⟨v5, o2, .func (PySem.W.fnOf "is_integer" "is_integer" (defArgs s_is_integer) (defBody s_is_integer) (defScope s_is_integer) .none v6 v7 v8 o3 v9 v10), s4⟩)
    (c_is_integer : PySem.W.codeIn K v9 "is_integer" = true)
    (k_is_integer : PySem.W.keepIn K (.ref f1) = true)
    (a_is_word : PySem.W.nsIn K mainGlobals "is_word" = some (some (.ref f11)))
    (l_is_word : K.lookup f11 = some ⟨v15, o12, .func (PySem.W.fnOf "is_word" "is_word" (defArgs s_is_word) (defBody s_is_word) (defScope s_is_word) .none v16 v17 v18 o13 v19 v20), s14⟩)
    (c_is_word : PySem.W.codeIn K v19 "is_word" = true)
    (k_is_word : PySem.W.keepIn K (.ref f11) = true)
    (a_law_box : PySem.W.nsIn K mainGlobals "_law_box" = some (some (.ref f21)))
    (l_law_box : K.lookup f21 = some ⟨v25, o22, .func (PySem.W.fnOf "_law_box" "_law_box" (defArgs s_law_box) (defBody s_law_box) (defScope s_law_box) .none v26 v27 v28 o23 v29 v30), s24⟩)
    (c_law_box : PySem.W.codeIn K v29 "_law_box" = true)
    (k_law_box : PySem.W.keepIn K (.ref f21) = true)
    (a_law_take : PySem.W.nsIn K mainGlobals "_law_take" = some (some (.ref f31)))
    (l_law_take : K.lookup f31 = some ⟨v35, o32, .func (PySem.W.fnOf "_law_take" "_law_take" (defArgs s_law_take) (defBody s_law_take) (defScope s_law_take) .none v36 v37 v38 o33 v39 v40), s34⟩)
    (c_law_take : PySem.W.codeIn K v39 "_law_take" = true)
    (k_law_take : PySem.W.keepIn K (.ref f31) = true)
    (a_law_pick : PySem.W.nsIn K mainGlobals "_law_pick" = some (some (.ref f41)))
    (l_law_pick : K.lookup f41 = some ⟨v45, o42, .func (PySem.W.fnOf "_law_pick" "_law_pick" (defArgs s_law_pick) (defBody s_law_pick) (defScope s_law_pick) .none v46 v47 v48 o43 v49 v50), s44⟩)
    (c_law_pick : PySem.W.codeIn K v49 "_law_pick" = true)
    (k_law_pick : PySem.W.keepIn K (.ref f41) = true)
    (a_law_rule : PySem.W.nsIn K mainGlobals "_law_rule" = some (some (.ref f51)))
    (l_law_rule : K.lookup f51 = some ⟨v55, o52, .func (PySem.W.fnOf "_law_rule" "_law_rule" (defArgs s_law_rule) (defBody s_law_rule) (defScope s_law_rule) .none v56 v57 v58 o53 v59 v60), s54⟩)
    (c_law_rule : PySem.W.codeIn K v59 "_law_rule" = true)
    (k_law_rule : PySem.W.keepIn K (.ref f51) = true)
    (a_law_any : PySem.W.nsIn K mainGlobals "_law_any" = some (some (.ref f61)))
    (l_law_any : K.lookup f61 = some ⟨v65, o62, .func (PySem.W.fnOf "_law_any" "_law_any" (defArgs s_law_any) (defBody s_law_any) (defScope s_law_any) .none v66 v67 v68 o63 v69 v70), s64⟩)
    (c_law_any : PySem.W.codeIn K v69 "_law_any" = true)
    (k_law_any : PySem.W.keepIn K (.ref f61) = true)
    (a_law_due : PySem.W.nsIn K mainGlobals "_law_due" = some (some (.ref f71)))
    (l_law_due : K.lookup f71 = some ⟨v75, o72, .func (PySem.W.fnOf "_law_due" "_law_due" (defArgs s_law_due) (defBody s_law_due) (defScope s_law_due) .none v76 v77 v78 o73 v79 v80), s74⟩)
    (c_law_due : PySem.W.codeIn K v79 "_law_due" = true)
    (k_law_due : PySem.W.keepIn K (.ref f71) = true)
    (a_law_refused : PySem.W.nsIn K mainGlobals "_law_refused" = some (some (.ref f81)))
    (l_law_refused : K.lookup f81 = some ⟨v85, o82, .func (PySem.W.fnOf "_law_refused" "_law_refused" (defArgs s_law_refused) (defBody s_law_refused) (defScope s_law_refused) .none v86 v87 v88 o83 v89 v90), s84⟩)
    (c_law_refused : PySem.W.codeIn K v89 "_law_refused" = true)
    (k_law_refused : PySem.W.keepIn K (.ref f81) = true)
    (a_law_deep : PySem.W.nsIn K mainGlobals "_law_deep" = some (some (.ref f91)))
    (l_law_deep : K.lookup f91 = some ⟨v95, o92, .func (PySem.W.fnOf "_law_deep" "_law_deep" (defArgs s_law_deep) (defBody s_law_deep) (defScope s_law_deep) .none v96 v97 v98 o93 v99 v100), s94⟩)
    (c_law_deep : PySem.W.codeIn K v99 "_law_deep" = true)
    (k_law_deep : PySem.W.keepIn K (.ref f91) = true)
    (a_law : PySem.W.nsIn K mainGlobals "law" = some (some (.ref f101)))
    (l_law : K.lookup f101 = some ⟨v105, o102, .func (PySem.W.fnOf "law" "law" (defArgs s_law) (defBody s_law) (defScope s_law) .none v106 v107 v108 o103 v109 v110), s104⟩)
    (c_law : PySem.W.codeIn K v109 "law" = true)
    (k_law : PySem.W.keepIn K (.ref f101) = true)
    (g_WORDS : PySem.W.nsIn K mainGlobals "WORDS" = some (some (.ref a111)))
    (t_WORDS : K.lookup a111 = some ⟨.type "tuple", o114, .seq #[.str "never" k112, .str "always" k113] n116, s115⟩)
    (g_ALL_WAYS : PySem.W.nsIn K mainGlobals "ALL_WAYS" = some (some (.ref a117)))
    (t_ALL_WAYS : K.lookup a117 = some ⟨.type "tuple", o121, .seq #[.str "direct" k118, .str "store" k119, .str "either" k120] n123, s122⟩)
    (g_HOLDS : PySem.W.nsIn K mainGlobals "HOLDS" = some (some (.str "holds" k124)))
    (g_SHARES : PySem.W.nsIn K mainGlobals "SHARES" = some (some (.str "shares" k125)))
    (g_Rule : PySem.W.nsIn K mainGlobals "Rule" = some (some (.ref CR)))
    (pg_Rule : PySem.W.plainGet K CR Str.empty = true)
    (hd_Rule : PySem.W.hasDictIn K CR = true)
    (po_Rule : PySem.W.plainOver K CR = true)
    (sa_Rule : PySem.W.findIn K (.ref CR) "__setattr__" = some (some (.builtin "object.__setattr__")))
    (mk_Rule : PySem.W.makesIn K CR = true)
    (kc_Rule : PySem.W.keepIn K (.ref CR) = true)
    (n_CR_asks : PySem.W.findIn K (.ref CR) "asks" = some none)
    (n_CR_way : PySem.W.findIn K (.ref CR) "way" = some none)
    (n_CR_holds : PySem.W.findIn K (.ref CR) "holds" = some none)
    (n_CR_shares : PySem.W.findIn K (.ref CR) "shares" = some none)
    (n_CR_text : PySem.W.findIn K (.ref CR) "text" = some none)
    (a_Rule___init__ : PySem.W.findIn K (.ref CR) "__init__" = some (some (.ref f126)))
    (i_Rule___init__ : PySem.W.isFn K (.ref f126) = true)
    (l_Rule___init__ : K.lookup f126 = some ⟨v130, o127, .func (PySem.W.fnOf "__init__" "Rule.__init__" (defArgs s_Rule___init__) (defBody s_Rule___init__) (defScope s_Rule___init__) (.ref t136) v131 v132 v133 o128 v134 v135), s129⟩)
    (c_Rule___init__ : PySem.W.codeIn K v134 "Rule.__init__" = true)
    (k_Rule___init__ : PySem.W.keepIn K (.ref f126) = true)
    (d_Rule___init__ : K.lookup t136 = some ⟨v141, o138, .seq #[.str "direct" k137, .bool false, .bool false] n140, s139⟩)
    (g_InvalidRule : PySem.W.nsIn K mainGlobals "InvalidRule" = some (some (.ref IR)))
    (xl_InvalidRule : K.lookup IR = some (excClassObj w145 w146 IR N147 b148 b149 true w151 b150 q152 q153 o154 m155 m156 m157 m158 m159 "ValueError.__new__"))
    (xr_InvalidRule : PySem.HandSPX.refsVE b149 = true)
    (xs_InvalidRule : PySem.W.ks_superIn K IR IR "__init__" = some (some (.builtin "ValueError.__init__")))
    (sa_InvalidRule : PySem.W.findIn K (.ref IR) "__setattr__" = some (some (.builtin "object.__setattr__")))
    (nn_InvalidRule : PySem.W.findIn K (.ref IR) "word" = some none)
    (ic_InvalidRule : PySem.W.findIn K (.ref IR) "__init__" = some (some (.ref f142)))
    (tc_InvalidRule : PySem.W.typeIn K (.ref f142) = some (.type "function"))
    (kc_InvalidRule : PySem.W.keepIn K (.ref IR) = true)
    (sv_InvalidRule : PySem.W.subIn K (.ref IR) (.type "ValueError") = some true)
    (sc_InvalidRule : PySem.W.mroIn K IR (.ref IR) = some true)
    (ex_InvalidRule : PySem.W.subIn K (.ref IR) (.type "BaseException") = some true)
    (ty_InvalidRule : PySem.W.typeIn K (.ref IR) = some (.type "type"))
    (fn_InvalidRule : K.lookup f142 = some ⟨v160, o166, .func (PySem.W.ksFn "__init__" "InvalidRule.__init__" (MnX.iA "word" ⟨6, 17, 6, 21⟩ ⟨6, 23, 6, 27⟩) (MnX.iB "word" ⟨7, 8, 7, 13⟩ ⟨7, 8, 7, 15⟩ ⟨7, 8, 7, 24⟩ ⟨7, 25, 7, 29⟩ ⟨7, 8, 7, 30⟩ ⟨7, 8, 7, 30⟩ ⟨8, 8, 8, 12⟩ ⟨8, 8, 8, 17⟩ ⟨8, 20, 8, 24⟩ ⟨8, 8, 8, 24⟩) (MnX.iS "word") .none .none v161 v162 o167 (.ref f143) v163 f144), s170⟩)
    (cd_InvalidRule : PySem.W.codeIn K (.ref f143) "InvalidRule.__init__" = true)
    (co_InvalidRule : K.lookup f143 = some ⟨v164, o168, .fields vs173, s171⟩)
    (fi_InvalidRule : vs173[2]? = some (.str "/claim/cut.py" k174))
    (ce_InvalidRule : K.lookup f144 = some ⟨v165, o169, .cell (some (.ref IR)), s172⟩)
    (opq : PySem.W.nsIn K PySem.cStatics "thirdparty.any" = some none)
    (g_ME : PySem.W.nsIn K mainGlobals "MoveError" = some (some (.ref ME)))
    (g_IH : PySem.W.nsIn K mainGlobals "InvalidHouse" = some (some (.ref IH)))
    (isME : PySem.W.kitOne K (.ref IR) (.ref ME) = some true)
    (isIH : PySem.W.kitOne K (.ref IR) (.ref IH) = some false)
    (xc : PySem.W.isClsIn K IR = true)
    (xga : PySem.W.findIn K (.ref IR) "__getattribute__" = some (some (.builtin "BaseException.__getattribute__")))
    (xgg : PySem.W.findIn K (.ref IR) "__getattr__" = some none)
    (xac : PySem.W.findIn K (.ref IR) "__class__" = some (some (.builtin "object.__class__")))
    (xan : PySem.W.specialIn K (.builtin "object.__class__") "__get__" = some (some (.builtin "getset_descriptor.__get__")))
    (xat : PySem.W.takesIn K (.builtin "object.__class__") = some true)
    (xam : PySem.W.mroIn K IR (.type "object") = some true)
    (xhd : PySem.W.hasDictIn K IR = true)
    (xex : PySem.W.subIn K (.ref IR) (.ref IR) = some true) :
    ∃ fd : FuncData, (∀ (s : Shared) (v : Value), BindsTo s fd ⟨[v], []⟩ [("_law_script", v)]) ∧ ∀ base : Heap, K.In base → base.Ns mainGlobals mg → FnOk l.prog w K mg base (L2.CX l.prog w) 7 fa fd ["_law_script"] (spLaw K) := by
  have e := hfa.symm.trans (PySem.W.mg_of X G a_law)
  cases e
  have XI : MnX.SupTxt l.prog K mg "InvalidRule" "InvalidRule.__init__" "word" IR f142 := ⟨PySem.W.mg_of X G g_InvalidRule, PySem.W.mg_none_of X G zb_super, ⟨_, _, _, _, _, _, _, _, _, _, _, _, _, _, _, xl_InvalidRule, xr_InvalidRule⟩, xs_InvalidRule, sa_InvalidRule, nn_InvalidRule, ic_InvalidRule, tc_InvalidRule, kc_InvalidRule, sv_InvalidRule, sc_InvalidRule, opq, ex_InvalidRule, ty_InvalidRule, htop, ⟨_, _, _, _, _, _, _, _, _, ⟨6, 17, 6, 21⟩, ⟨6, 23, 6, 27⟩, ⟨7, 8, 7, 13⟩, ⟨7, 8, 7, 15⟩, ⟨7, 8, 7, 24⟩, ⟨7, 25, 7, 29⟩, ⟨7, 8, 7, 30⟩, ⟨7, 8, 7, 30⟩, ⟨8, 8, 8, 12⟩, ⟨8, 8, 8, 17⟩, ⟨8, 20, 8, 24⟩, ⟨8, 8, 8, 24⟩, _, _, _, _, _, _, _, _, _, fn_InvalidRule, cd_InvalidRule, co_InvalidRule, fi_InvalidRule, hfile, ce_InvalidRule, fun _ => rfl⟩⟩
  have T : Txt l.prog K mg CR IR f142 a111 a117 := { b_isinstance := PySem.W.mg_none_of X G zb_isinstance, b_int := PySem.W.mg_none_of X G zb_int, b_bool := PySem.W.mg_none_of X G zb_bool, b_str := PySem.W.mg_none_of X G zb_str, b_list := PySem.W.mg_none_of X G zb_list, b_tuple := PySem.W.mg_none_of X G zb_tuple, b_len := PySem.W.mg_none_of X G zb_len, b_abs := PySem.W.mg_none_of X G zb_abs, b_max := PySem.W.mg_none_of X G zb_max, b_min := PySem.W.mg_none_of X G zb_min, b_range := PySem.W.mg_none_of X G zb_range, b_repr := PySem.W.mg_none_of X G zb_repr, g_WORDS := ⟨_, PySem.W.mg_of X G g_WORDS, rfl⟩, WORDS := fun _ => .inr ⟨_, _, _, t_WORDS, rfl, rfl, fits 2, .cons ⟨_, rfl⟩ (.cons ⟨_, rfl⟩ .nil)⟩, g_ALL_WAYS := ⟨_, PySem.W.mg_of X G g_ALL_WAYS, rfl⟩, ALL_WAYS := fun _ => .inr ⟨_, _, _, t_ALL_WAYS, rfl, rfl, fits 3, .cons ⟨_, rfl⟩ (.cons ⟨_, rfl⟩ (.cons ⟨_, rfl⟩ .nil))⟩, g_HOLDS := ⟨_, PySem.W.mg_of X G g_HOLDS, _, rfl⟩, g_SHARES := ⟨_, PySem.W.mg_of X G g_SHARES, _, rfl⟩, x_InvalidRule := XI, cl := ⟨pg_Rule, hd_Rule, po_Rule, sa_Rule⟩, n_asks := n_CR_asks, n_way := n_CR_way, n_holds := n_CR_holds, n_shares := n_CR_shares, n_text := n_CR_text }
  have U : Txt2 K mg IR ME IH := ⟨⟨_, PySem.W.mg_of X G g_ME, rfl⟩, ⟨_, PySem.W.mg_of X G g_IH, rfl⟩, isME, isIH, ⟨xc, xga, xgg, ex_InvalidRule, xac, xan, xat, xam⟩, ⟨xga, xgg, ex_InvalidRule, xhd⟩, PySem.W.exm_ref ex_InvalidRule xhd ty_InvalidRule xex⟩
  have b_is_integer := (fun_mk (st := s_is_integer) l_is_integer c_is_integer k_is_integer).binds (ps := ["value"]) fun _ _ _ _ _ _ us hl => match us, hl with | [_], _ => rfl
  have b_is_word := (fun_mk (st := s_is_word) l_is_word c_is_word k_is_word).binds (ps := ["value", "words"]) fun _ _ _ _ _ _ us hl => match us, hl with | [_, _], _ => rfl
  have b_law_box := (fun_mk (st := s_law_box) l_law_box c_law_box k_law_box).binds (ps := ["_law_script", "_law_k"]) fun _ _ _ _ _ _ us hl => match us, hl with | [_, _], _ => rfl
  have b_law_take := (fun_mk (st := s_law_take) l_law_take c_law_take k_law_take).binds (ps := ["_law_box_here", "_law_many"]) fun _ _ _ _ _ _ us hl => match us, hl with | [_, _], _ => rfl
  have b_law_pick := (fun_mk (st := s_law_pick) l_law_pick c_law_pick k_law_pick).binds (ps := ["_law_box_here", "_law_some"]) fun _ _ _ _ _ _ us hl => match us, hl with | [_, _], _ => rfl
  have b_law_rule := (fun_mk (st := s_law_rule) l_law_rule c_law_rule k_law_rule).binds (ps := ["_law_box_here"]) fun _ _ _ _ _ _ us hl => match us, hl with | [_], _ => rfl
  have b_law_any := (fun_mk (st := s_law_any) l_law_any c_law_any k_law_any).binds (ps := ["_law_box_here", "_law_deep_here"]) fun _ _ _ _ _ _ us hl => match us, hl with | [_, _], _ => rfl
  have b_law_due := (fun_mk (st := s_law_due) l_law_due c_law_due k_law_due).binds (ps := ["_law_told"]) fun _ _ _ _ _ _ us hl => match us, hl with | [_], _ => rfl
  have b_law_refused := (fun_mk (st := s_law_refused) l_law_refused c_law_refused k_law_refused).binds (ps := ["_law_told"]) fun _ _ _ _ _ _ us hl => match us, hl with | [_], _ => rfl
  have b_law_deep := (fun_mk (st := s_law_deep) l_law_deep c_law_deep k_law_deep).binds (ps := ["_law_box_here"]) fun _ _ _ _ _ _ us hl => match us, hl with | [_], _ => rfl
  have b_law := (fun_mk (st := s_law) l_law c_law k_law).binds (ps := ["_law_script"]) fun _ _ _ _ _ _ us hl => match us, hl with | [_], _ => rfl
  have FI : FunD K "__init__" "Rule.__init__" (defArgs s_Rule___init__) (defBody s_Rule___init__) (defScope s_Rule___init__) [.str "direct", .bl false, .bl false] [] f126 _ := ⟨⟨_, _, _, _, _, _, _, _, _, _, rfl, l_Rule___init__, c_Rule___init__, .inr ⟨List.cons_ne_nil _ _, _, _, _, _, rfl, d_Rule___init__, rfl, .cons ⟨_, rfl⟩ (.cons rfl (.cons rfl .nil))⟩, .inl rfl⟩, k_Rule___init__⟩
  obtain ⟨ds, vd, bI⟩ := FI.binds1 (ps := ["self", "asks", "way", "holds", "shares"]) 5 3 (List.cons_ne_nil _ _) rfl fun T kV doc pm an cdv ct us its hu hi => match us, hu, its, hi with | [_, _, _, _, _], _, [_, _, _], _ => ⟨_, rfl, rfl⟩
  refine ⟨PySem.W.fnOf "law" "law" (defArgs s_law) (defBody s_law) (defScope s_law) .none v106 v107 v108 o103 v109 v110, fun s v => .of_eq rfl, fun base KB GB => ?_⟩
  have G1 : Cl l.prog w K mg base 1 "_law_take" spTake := ⟨_, _, _, ok_take ⟨fun_mk (st := s_law_take) l_law_take c_law_take k_law_take, PySem.W.mg_of X G a_law_take⟩ ⟨T.b_isinstance, T.b_int, T.b_bool, T.b_str, T.b_len, T.b_abs⟩, PySem.W.mg_of X G a_law_take, k_law_take, b_law_take⟩
  have G2 : Cl l.prog w K mg base 2 "_law_pick" (spPick K) := ⟨_, _, _, ok_pick ⟨fun_mk (st := s_law_pick) l_law_pick c_law_pick k_law_pick, PySem.W.mg_of X G a_law_pick⟩ ⟨T.b_isinstance, T.b_int, T.b_bool, T.b_str, T.b_len, T.b_abs⟩ G1, PySem.W.mg_of X G a_law_pick, k_law_pick, b_law_pick⟩
  have G3 : Cl l.prog w K mg base 1 "_law_box" (spBox K) := ⟨_, _, _, ok_box ⟨fun_mk (st := s_law_box) l_law_box c_law_box k_law_box, PySem.W.mg_of X G a_law_box⟩ T, PySem.W.mg_of X G a_law_box, k_law_box, b_law_box⟩
  have G4 : Cl l.prog w K mg base 3 "_law_rule" spRule := ⟨_, _, _, ok_rule ⟨fun_mk (st := s_law_rule) l_law_rule c_law_rule k_law_rule, PySem.W.mg_of X G a_law_rule⟩ T G1 G2, PySem.W.mg_of X G a_law_rule, k_law_rule, b_law_rule⟩
  have G5 : ∀ n : Nat, Cl l.prog w K mg base (n + 3) "_law_any" (spAny n) := fun n => ⟨_, _, _, any_all ⟨fun_mk (st := s_law_any) l_law_any c_law_any k_law_any, PySem.W.mg_of X G a_law_any⟩ b_law_any T G1 G2 n, PySem.W.mg_of X G a_law_any, k_law_any, b_law_any⟩
  have G6 : Cl l.prog w K mg base 4 "_law_deep" spDeep := ⟨_, _, _, ok_deep ⟨fun_mk (st := s_law_deep) l_law_deep c_law_deep k_law_deep, PySem.W.mg_of X G a_law_deep⟩ T G1 (G5 0), PySem.W.mg_of X G a_law_deep, k_law_deep, b_law_deep⟩
  have G7 : Cl l.prog w K mg base 1 "is_integer" spIsInt := ⟨_, _, _, ok_is_integer ⟨fun_mk (st := s_is_integer) l_is_integer c_is_integer k_is_integer, PySem.W.mg_of X G a_is_integer⟩ T, PySem.W.mg_of X G a_is_integer, k_is_integer, b_is_integer⟩
  have G8 : Cl l.prog w K mg base 1 "is_word" (spIsWord K) := ⟨_, _, _, ok_is_word ⟨fun_mk (st := s_is_word) l_is_word c_is_word k_is_word, PySem.W.mg_of X G a_is_word⟩ T, PySem.W.mg_of X G a_is_word, k_is_word, b_is_word⟩
  have GR : Mc l.prog w K mg base 3 "Rule" CR 5 (spInit CR IR) [] := ⟨_, _, _, ds, ⟨mk_Rule, a_Rule___init__, i_Rule___init__, kc_Rule⟩, ok_init FI T G7 G8, PySem.W.mg_of X G g_Rule, bI, vd⟩
  have G9 : Cl l.prog w K mg base 5 "_law_refused" (spRefused K) := ⟨_, _, _, ok_refused ⟨fun_mk (st := s_law_refused) l_law_refused c_law_refused k_law_refused, PySem.W.mg_of X G a_law_refused⟩ T U GR, PySem.W.mg_of X G a_law_refused, k_law_refused, b_law_refused⟩
  have G10 : Cl l.prog w K mg base 1 "_law_due" (spRefused K) := ⟨_, _, _, ok_due ⟨fun_mk (st := s_law_due) l_law_due c_law_due k_law_due, PySem.W.mg_of X G a_law_due⟩ T, PySem.W.mg_of X G a_law_due, k_law_due, b_law_due⟩
  exact ok_law ⟨fun_mk (st := s_law) l_law c_law k_law, PySem.W.mg_of X G a_law⟩ T G1 G2 G3 G4 (G5 3) G6 G9 G10
end K03
open PySem PySem.W PyProof.Rows
set_option maxRecDepth 100000 in
set_option maxHeartbeats 0 in
theorem PySem.Challenge.cw_movedname_k03_rules_refused_holds : PySem.Challenge.rw_movedname_k03_rules_refused.Holds := by
  w_on; o_law; k_head; (case hw => w_witness2)
  k_fill
  refine L2.walk_of (l := PySem.Challenge.rw_movedname_k03_rules_refused) (n := 63) (k := 7) (x := "_law_script") (CX := fun w => L2.CX PySem.Challenge.pw_movedname_k03_rules_refused w) (sp := fun w => K03.spLaw _) rfl (by decide) rfl ⟨rfl, by decide, by decide⟩ (fun w h Y => PySem.W.kIn_of Y) ?F (fun _ _ a ns hl _ hS => ⟨a, ns, rfl, hS, hl, fun _ => rfl⟩) (fun _ _ _ _ _ z => K03.cx_false z)
  case F =>
    intro w mg fa h KX G hmg
    refine' K03.all_mk (l := PySem.Challenge.rw_movedname_k03_rules_refused) KX G hmg (by decide +kernel) (by decide +kernel) ?zb_isinstance ?zb_int ?zb_bool ?zb_str ?zb_list ?zb_tuple ?zb_len ?zb_abs ?zb_max ?zb_min ?zb_range ?zb_repr ?zb_super ?a_is_integer ?l_is_integer ?c_is_integer ?k_is_integer ?a_is_word ?l_is_word ?c_is_word ?k_is_word ?a_law_box ?l_law_box ?c_law_box ?k_law_box ?a_law_take ?l_law_take ?c_law_take ?k_law_take ?a_law_pick ?l_law_pick ?c_law_pick ?k_law_pick ?a_law_rule ?l_law_rule ?c_law_rule ?k_law_rule ?a_law_any ?l_law_any ?c_law_any ?k_law_any ?a_law_due ?l_law_due ?c_law_due ?k_law_due ?a_law_refused ?l_law_refused ?c_law_refused ?k_law_refused ?a_law_deep ?l_law_deep ?c_law_deep ?k_law_deep ?a_law ?l_law ?c_law ?k_law ?g_WORDS ?t_WORDS ?g_ALL_WAYS ?t_ALL_WAYS ?g_HOLDS ?g_SHARES ?g_Rule ?pg_Rule ?hd_Rule ?po_Rule ?sa_Rule ?mk_Rule ?kc_Rule ?n_CR_asks ?n_CR_way ?n_CR_holds ?n_CR_shares ?n_CR_text ?a_Rule___init__ ?i_Rule___init__ ?l_Rule___init__ ?c_Rule___init__ ?k_Rule___init__ ?d_Rule___init__ ?g_InvalidRule ?xl_InvalidRule ?xr_InvalidRule ?xs_InvalidRule ?sa_InvalidRule ?nn_InvalidRule ?ic_InvalidRule ?tc_InvalidRule ?kc_InvalidRule ?sv_InvalidRule ?sc_InvalidRule ?ex_InvalidRule ?ty_InvalidRule ?fn_InvalidRule ?cd_InvalidRule ?co_InvalidRule ?fi_InvalidRule ?ce_InvalidRule ?opq ?g_ME ?g_IH ?isME ?isIH ?xc ?xga ?xgg ?xac ?xan ?xat ?xam ?xhd ?xex
    (case zb_isinstance => k_is)
    (case zb_int => k_is)
    (case zb_bool => k_is)
    (case zb_str => k_is)
    (case zb_list => k_is)
    (case zb_tuple => k_is)
    (case zb_len => k_is)
    (case zb_abs => k_is)
    (case zb_max => k_is)
    (case zb_min => k_is)
    (case zb_range => k_is)
    (case zb_repr => k_is)
    (case zb_super => k_is)
    (case a_is_integer => k_is)
    (case l_is_integer => k_is)
    (case c_is_integer => k_is)
    (case k_is_integer => k_is)
    (case a_is_word => k_is)
    (case l_is_word => k_is)
    (case c_is_word => k_is)
    (case k_is_word => k_is)
    (case a_law_box => k_is)
    (case l_law_box => k_is)
    (case c_law_box => k_is)
    (case k_law_box => k_is)
    (case a_law_take => k_is)
    (case l_law_take => k_is)
    (case c_law_take => k_is)
    (case k_law_take => k_is)
    (case a_law_pick => k_is)
    (case l_law_pick => k_is)
    (case c_law_pick => k_is)
    (case k_law_pick => k_is)
    (case a_law_rule => k_is)
    (case l_law_rule => k_is)
    (case c_law_rule => k_is)
    (case k_law_rule => k_is)
    (case a_law_any => k_is)
    (case l_law_any => k_is)
    (case c_law_any => k_is)
    (case k_law_any => k_is)
    (case a_law_due => k_is)
    (case l_law_due => k_is)
    (case c_law_due => k_is)
    (case k_law_due => k_is)
    (case a_law_refused => k_is)
    (case l_law_refused => k_is)
    (case c_law_refused => k_is)
    (case k_law_refused => k_is)
    (case a_law_deep => k_is)
    (case l_law_deep => k_is)
    (case c_law_deep => k_is)
    (case k_law_deep => k_is)
    (case a_law => k_is)
    (case l_law => k_is)
    (case c_law => k_is)
    (case k_law => k_is)
    (case g_WORDS => k_is)
    (case t_WORDS => k_is)
    (case g_ALL_WAYS => k_is)
    (case t_ALL_WAYS => k_is)
    (case g_HOLDS => k_is)
    (case g_SHARES => k_is)
    (case g_Rule => k_is)
    (case pg_Rule => k_is)
    (case hd_Rule => k_is)
    (case po_Rule => k_is)
    (case sa_Rule => k_is)
    (case mk_Rule => k_is)
    (case kc_Rule => k_is)
    (case n_CR_asks => k_is)
    (case n_CR_way => k_is)
    (case n_CR_holds => k_is)
    (case n_CR_shares => k_is)
    (case n_CR_text => k_is)
    (case a_Rule___init__ => k_is)
    (case i_Rule___init__ => k_is)
    (case l_Rule___init__ => k_is)
    (case c_Rule___init__ => k_is)
    (case k_Rule___init__ => k_is)
    (case d_Rule___init__ => k_is)
    (case g_InvalidRule => k_is)
    (case xl_InvalidRule => k_is)
    (case xr_InvalidRule => decide +kernel)
    (case xs_InvalidRule => ks_is)
    (case sa_InvalidRule => k_is)
    (case nn_InvalidRule => k_is)
    (case ic_InvalidRule => k_is)
    (case tc_InvalidRule => k_is)
    (case kc_InvalidRule => k_is)
    (case sv_InvalidRule => k_is)
    (case sc_InvalidRule => k_is)
    (case ex_InvalidRule => k_is)
    (case ty_InvalidRule => k_is)
    (case fn_InvalidRule => k_is)
    (case cd_InvalidRule => k_is)
    (case co_InvalidRule => k_is)
    (case fi_InvalidRule => rfl)
    (case ce_InvalidRule => k_is)
    (case opq => k_is)
    (case g_ME => k_is)
    (case g_IH => k_is)
    (case isME => kit_is)
    (case isIH => kit_is)
    (case xc => k_is)
    (case xga => k_is)
    (case xgg => k_is)
    (case xac => k_is)
    (case xan => k_is)
    (case xat => k_is)
    (case xam => k_is)
    (case xhd => k_is)
    (case xex => first | rfl | k_is)
#print axioms PySem.Challenge.cw_movedname_k03_rules_refused_holds
