import PyProof.Rows.All
import Wide.All
import OpenK.AllK
import Wide.FinOn
import HandS.ForMost
import HandS.Exc
import HandS.TryOnly
import HandS.ExcOwn
import HandS.ExcField
import HandS.WordsExc
import KE.KExcSuper
import KE.KExcIs
import KE.KIsAll
import HandS.RaiseMore
import HandS.Star
import HandS.IsInst
import HandS.Codes
import HandS.NoneIn
import HandS.Steps
import HandS.Evl
import HandS.ExcIs
import HandS.Deep
import HandS.Defaults
import HandS.Dict
import HandS.More
import HandS.FStr
import HandS.Lambda
import HandS.EndOwn
import KE.KParD
import KE.KCallOwn
import KE.KNestM
import PySem.Challenge.RW_movedname_k05_houses_refused
set_option Elab.async false
set_option linter.all false
set_option maxRecDepth 100000
set_option maxHeartbeats 4000000
/-! # Own errors of the program: `class X(Base): def __init__(self, a): super().__init__(a); self.a = a` -/
namespace MnX
open PySem PySem.W PySem.Calls PyProof.Rows PySem.HandSPX
/-- the parameters, the body, the scope of such an __init__ -/
def iA (a : Str) (p1 p2 : Pos) : Arguments := { posonlyargs := [], args := [{ arg := "self", annotation := none, pos := p1 }, { arg := a, annotation := none, pos := p2 }], vararg := none, kwonlyargs := [], kw_defaults := [], kwarg := none, defaults := [] }
def iB (a : Str) (q0 q1 q2 q3 q4 q5 r0 r1 r2 r3 : Pos) : List Stmt :=
  [.Expr (.Call (.Attribute (.Call (.Name "super" q0) [] [] q1) "__init__" q2) [.Name a q3] [] q4) q5,
   .Assign [.Attribute (.Name "self" r0) a r1] (.Name a r2) r3]
def iS (a : Str) : Scope := { kind := .function, names := [(PySem.Str.ofString "self", .local), (a, .local), (PySem.Str.ofString "__class__", .free), (PySem.Str.ofString "super", .globalImplicit)], isGenerator := false, isCoroutine := false, more := [] }

/-- the super call stands on one line -/
def PlainSup (a : Str) (q0 q1 q2 q3 q4 : Pos) : Prop := ∀ env : Env, eval (.Call (.Attribute (.Call (.Name "super" q0) [] [] q1) "__init__" q2) [.Name a q3] [] q4) env = (do
      let ov ← attributeBase (.Call (.Name "super" q0) [] [] q1) "__init__" env (eval (.Call (.Name "super" q0) [] [] q1) env)
      standAt q2.atName
      let (f, first) ← holding [ov] (getMethod ov "__init__" (do return (← importBound (.Call (.Name "super" q0) [] [] q1) env).getD true))
      callWith q4 f first (backTo q4 (starEach [.Name a q3] env)) [])
theorem plain_tst : PlainSup "word" ⟨7, 8, 7, 13⟩ ⟨7, 8, 7, 15⟩ ⟨7, 8, 7, 24⟩ ⟨7, 25, 7, 29⟩ ⟨7, 8, 7, 30⟩ := fun _ => rfl
/-- what the written part says of the class at C (named cn, its one argument a) and of its __init__ at fI -/
structure SupTxt (prog : Program) (K : Frag) (mg : Str → Option Value) (cn qual a : Str) (C fI : Addr) : Prop where
  gC : mg cn = some (.ref C)
  noS : mg "super" = none
  cls : ∃ nm q N bs bm sn sub ab col dd k0 k1 k2 k3 k5, K.lookup C = some (excClassObj nm q C N bs bm true sn sub ab col dd k0 k1 k2 k3 k5 "ValueError.__new__") ∧ refsVE bm = true
  sup : ks_superIn K C C "__init__" = some (some (.builtin "ValueError.__init__"))
  sa : findIn K (.ref C) "__setattr__" = some (some (.builtin "object.__setattr__"))
  noN : findIn K (.ref C) a = some none
  iC : findIn K (.ref C) "__init__" = some (some (.ref fI))
  tC : typeIn K (.ref fI) = some (.type "function")
  kC : keepIn K (.ref C) = true
  subV : subIn K (.ref C) (.type "ValueError") = some true
  subC : mroIn K C (.ref C) = some true
  opq : nsIn K cStatics "thirdparty.any" = some none
  exC : subIn K (.ref C) (.type "BaseException") = some true
  tyC : typeIn K (.ref C) = some (.type "type")
  htop : (prog.main.scope.names.lookup ("super" : Str)).isSome = false
  fn : ∃ (oc : Value) (od : Option Addr) (doc pm : Value) (an : Option Addr) (cda cc : Addr) (ct : Value) (osl : Array (Option Value)) (p1 p2 q0 q1 q2 q3 q4 q5 r0 r1 r2 r3 : Pos)
    (ccl : Value) (cdd : Option Addr) (vs : Array Value) (ccs : Array (Option Value)) (file : Str) (tf : Tok) (cl : Value) (cld : Option Addr) (csl : Array (Option Value)),
    K.lookup fI = some ⟨oc, od, .func (ksFn "__init__" qual (iA a p1 p2) (iB a q0 q1 q2 q3 q4 q5 r0 r1 r2 r3) (iS a) .none .none doc pm an (.ref cda) ct cc), osl⟩ ∧ codeIn K (.ref cda) qual = true ∧
    K.lookup cda = some ⟨ccl, cdd, .fields vs, ccs⟩ ∧ vs[2]? = some (.str file tf) ∧ ((prog.main.file : Str) == file) = true ∧
    K.lookup cc = some ⟨cl, cld, .cell (some (.ref C)), csl⟩ ∧ PlainSup a q0 q1 q2 q3 q4
/-- the word a is an ordinary name -/
structure OkN (a : Str) : Prop where
  self : (a == ("self" : Str)) = false
  cls : (a == ("__class__" : Str)) = false
  sup : (a == ("super" : Str)) = false
  dbg : (a == ("__debug__" : Str)) = false
  bnd : ∀ (qual : Str) (p1 p2 q0 q1 q2 q3 q4 q5 r0 r1 r2 r3 : Pos) (doc pm : Value) (an : Option Addr) (cda cc : Addr) (ct : Value) (x : Addr) (v : Value),
    bindArgs (ksFn "__init__" qual (iA a p1 p2) (iB a q0 q1 q2 q3 q4 q5 r0 r1 r2 r3) (iS a) .none .none doc pm an (.ref cda) ct cc) ⟨[.ref x, v], []⟩ = pure [((PySem.Str.ofString "self" : Str), .ref x), (a, v)]
theorem okn_word : OkN "word" := ⟨by decide, by decide, by decide, by decide, fun _ _ _ _ _ _ _ _ _ _ _ _ _ _ _ _ _ _ _ _ _ => rfl⟩
theorem okn_at : OkN "at" := ⟨by decide, by decide, by decide, by decide, fun _ _ _ _ _ _ _ _ _ _ _ _ _ _ _ _ _ _ _ _ _ => rfl⟩

/-- what __init__ leaves of a fresh exception at x -/
structure InitEnd (h h' : Heap) (a : Str) (x C dx t1 : Addr) (v : Value) : Prop where
  keep : ∀ b o, b ≠ x → h.get? b = some o → h'.get? b = some o
  obj : h'.get? x = some { cls := .ref C, dict := some dx, data := .fields #[.ref t1, .none, .none, .none, .bool false, .none] }
  dbig : h.objs.size ≤ dx
  dne : dx ≠ x
  ns : h'.Ns1 dx (fun y => if y = a then some v else none)
/-- a made one -/
structure OwnMade (h h' : Heap) (a : Str) (e C d : Addr) (v : Value) : Prop where
  keep : ∀ b o, h.get? b = some o → h'.get? b = some o
  new : h.objs.size ≤ e
  obj : ∃ oe vs, h'.get? e = some oe ∧ oe.cls = .ref C ∧ oe.dict = some d ∧ oe.data = .fields vs ∧ vs[1]? = some .none
  dbig : h.objs.size ≤ d
  dne : d ≠ e
  ns : h'.Ns1 d (fun y => if y = a then some v else none)

section
variable {prog : Program} {w : World} {A : Around} {E : Value → Shared → Prop} {R : Result → Shared → Prop} {s : Shared} {K : Frag} {mg mb : Str → Option Value} {C fI : Addr} {cn qual a : Str}

/-- the bound built-in __init__ called on an exception that has no dict yet -/
theorem call_mw {h : Heap} {g : Array GenState} {d : Drawn} {t : Nat} {os : OsState} {u e t0 : Addr} {rest : List Value} {nm q : Str} {N : Addr} {bs bm : List Value} {hdct : Bool} {sn : List Str} {sub : List Value} {ab : Bool} {col : Option Bool} {dd : Option Addr} {k0 k1 k2 k3 k5 : Option Value} {Q : Value → Shared → Prop}
    (hC : h.get? C = some (excClassObj nm q C N bs bm hdct sn sub ab col dd k0 k1 k2 k3 k5 "ValueError.__new__")) (he : h.get? e = some (excO C t0)) (hu : h.get? u = some (kxs_mw "ValueError.__init__" e)) (hrest : rest.length ≤ sizeLine)
    (hq : ∀ h' t1, (∀ b o, b ≠ e → h.get? b = some o → h'.get? b = some o) → h'.get? e = some (excO C t1) → Q .none ⟨h', g, d, t, os⟩) :
    wpAny (model prog w) A (call (.ref u) rest) Q E ⟨h, g, d, t, os⟩ := by
  refine wpAny_call (codeAny_of_tree ?_)
  show wpAny _ A.in1 (callAny (.ref u) ⟨rest, []⟩) _ _ _
  simp only [callAny]
  refine wpAny_bind (wpAny_load hu ?_)
  simp only [kxs_mw, show (Value.type "method-wrapper" == Value.type "method" || Value.type "method-wrapper" == Value.type "builtin_function_or_method" || Value.type "method-wrapper" == Value.type "method-wrapper") = true by decide, if_true]
  refine KFB.if_so (by decide) ?_
  refine wpAny_bind (check_bound_init PySem.F.excBase_ValueError.toExcCallFacts hC he rfl ?_)
  refine wpAny_bind (wpAny_pure (wpAny_pure ?_))
  refine ⟨plainId_quiet PySem.F.excBase_ValueError.init.plain _, codeAny_builtin PySem.F.excBase_ValueError.initEntry ?_⟩
  exact exc_init_tree (cls := .ref C) (t0 := t0) (dv := none) (c2 := .none) (c3 := .none) (b4 := .bool false) he hrest fun h' k e' _ => hq h' _ k e'
end
end MnX
namespace MnX
open PySem PySem.W PySem.Calls PyProof.Rows PySem.HandSPX
section
variable {prog : Program} {w : World} {A : Around} {E : Value → Shared → Prop} {R : Result → Shared → Prop} {s : Shared} {K : Frag} {mg mb : Str → Option Value} {C fI : Addr} {cn qual a : Str}
theorem lk_self {a : Str} : (iS a).names.lookup ("self" : Str) = some .local := rfl
theorem lk_a {a : Str} (o : OkN a) : (iS a).names.lookup a = some .local := by
  show (match a == ("self" : Str) with | true => some NameKind.local | false => (match a == a with | true => some NameKind.local | false => _)) = _
  rw [o.self, beq_self_eq_true]
theorem lk_cls {a : Str} (o : OkN a) : (iS a).names.lookup ("__class__" : Str) = some .free := by
  have e : (("__class__" : Str) == a) = false := by
    rw [Bool.eq_false_iff]
    intro h
    have h2 := o.cls
    rw [beq_iff_eq] at h
    rw [← h] at h2
    simp at h2
  show (match ("__class__" : Str) == ("self" : Str) with | true => some NameKind.local | false => (match ("__class__" : Str) == a with | true => some NameKind.local | false => some NameKind.free)) = _
  rw [e, show (("__class__" : Str) == ("self" : Str)) = false by decide]
theorem lk_sup {a : Str} (o : OkN a) : (iS a).names.lookup ("super" : Str) = some .globalImplicit := by
  have e : (("super" : Str) == a) = false := by
    rw [Bool.eq_false_iff]
    intro h
    have h2 := o.sup
    rw [beq_iff_eq] at h
    rw [← h] at h2
    simp at h2
  show (match ("super" : Str) == ("self" : Str) with | true => some NameKind.local | false => (match ("super" : Str) == a with | true => some NameKind.local | false => (match ("super" : Str) == ("__class__" : Str) with | true => some NameKind.free | false => some NameKind.globalImplicit))) = _
  rw [e, show (("super" : Str) == ("self" : Str)) = false by decide, show (("super" : Str) == ("__class__" : Str)) = false by decide]
theorem one_size (v : Value) : [v].length ≤ sizeLine := by
  rw [sizeLine_eq]
  exact (by decide : 1 ≤ 16777216)

theorem low_init (T : SupTxt prog K mg cn qual a C fI) (o : OkN a) {x t0 : Addr} {v : Value} (X : K.In s.heap) (G : s.heap.Ns mainGlobals mg) (GB : s.heap.Ns builtinsNs mb) (hb : ∀ y : Str, y ≠ "__name__" → mb y = bootBuiltins y)
    (hlim : s.heap.NoLimit) (hx : s.heap.get? x = some (excO C t0)) (hnx : K.lookup x = none) (hroom : A.depth < recursionLimit)
    (hq : ∀ h' tk dx t1, InitEnd s.heap h' a x C dx t1 v → R (.ok (.ret .none)) { s with heap := h', toks := tk }) :
    codeAny (model prog w) A (.call (.ref fI) ⟨[.ref x, v], []⟩) R s := by
  obtain ⟨oc, od, doc, pm, an, cda, cc, ct, osl, p1, p2, q0, q1, q2, q3, q4, q5, r0, r1, r2, r3, ccl, cdd, vs, ccs, file, tf, cl, cld, csl, ho, hcd, hcode, hvs, hfile, hcell, hpl⟩ := T.fn
  obtain ⟨nm, q, N, bs, bm, sn, sub, ab, col, dd, k0, k1, k2, k3, k5, hC, hbm⟩ := T.cls
  have hcl : clsIn K C = some { name := nm, bases := bs, mro := .ref C :: bm, ns := N, qualname := q, hasDict := true, slotNames := sn, subclasses := sub, abstract := ab, collection := col, hasDel := false } := by unfold clsIn; rw [hC] <;> rfl
  refine ks_codeAny_call_defAt (fd := ksFn "__init__" qual (iA a p1 p2) (iB a q0 q1 q2 q3 q4 q5 r0 r1 r2 r3) (iS a) .none .none doc pm an (.ref cda) ct cc) (body := iB a q0 q1 q2 q3 q4 q5 r0 r1 r2 r3) (binds := [("self", .ref x), (a, v)])
    hroom (X _ _ ho) rfl hlim (codeRec_of X hcd) rfl (BindsTo.of_eq (o.bnd _ _ _ _ _ _ _ _ _ _ _ _ _ _ _ _ _ _ _ _ _)) (fun y hy => ?_) (fun y hy => ?_) (fun h₁ hns hk₁ => ?_) rfl rfl rfl
  · rcases List.mem_cons.mp hy with rfl | hy
    · intro z; cases z
    rcases List.mem_cons.mp hy with rfl | hy
    · intro z; cases z
    rcases List.mem_cons.mp hy with rfl | hy
    · intro z; cases z
    rcases List.mem_cons.mp hy with rfl | hy
    · intro z; cases z
    · cases hy
  · rcases List.mem_cons.mp hy with rfl | hy
    · exact lk_self
    rcases List.mem_cons.mp hy with rfl | hy
    · exact lk_a o
    · cases hy
  have X₁ : K.In h₁ := X.keeps hk₁
  have hx₁ := hk₁ _ _ hx
  have hC₁ : h₁.get? C = _ := X₁ _ _ hC
  have I : InstAt h₁ x (excO C t0) C none := ⟨hx₁, rfl, rfl, trivial⟩
  have hvS : (fun y => List.lookup y [((PySem.Str.ofString "self" : Str), Value.ref x), (a, v)].reverse) ("self" : Str) = some (.ref x) := by
    show (match ("self" : Str) == a with | true => some v | false => _) = _
    rw [show (("self" : Str) == a) = false by rw [Bool.eq_false_iff]; intro h; have h2 := o.self; rw [beq_iff_eq] at h; rw [← h] at h2; simp at h2]
    rfl
  have hvA : (fun y => List.lookup y [((PySem.Str.ofString "self" : Str), Value.ref x), (a, v)].reverse) a = some v := by
    show (match a == a with | true => some v | false => _) = _
    rw [beq_self_eq_true]
  refine ks_wpAt_execs_cons (ks_wpAt_Expr_any (ks_wpAt_MethodCall ?_ (hpl _)))
  refine ks_wpAt_super_base (lk_sup o) (lk_cls o) (by decide) rfl (X₁ _ _ ho) rfl rfl rfl (X₁ _ _ hcode) rfl hvs hfile T.htop ?_
  refine ks_loadName_global rfl (lk_sup o) (loadGlobal_builtin (G.keeps hk₁) T.noS (GB.keeps hk₁) ((hb _ (by decide +kernel)).trans (show bootBuiltins "super" = some (.type "super") by first | boot_by_name | rfl | kernel_rfl)) ⟨rfl, ?_⟩)
  refine wpAny_loadName_free rfl (lk_cls o) rfl ⟨_, X₁ _ _ hcell, rfl⟩ ?_
  refine wpAny_loadName_local rfl lk_self hns hvS ?_
  refine ks_wpAny_isType_cls hC₁ rfl ⟨rfl, ?_⟩
  refine ks_wpAny_call_super hC₁ rfl I.at_ I.cls (fun c e => by cases e) (looks_mroIn X₁ T.subC) (fun h₂ e₂ k₂ => ?_)
  have so₂ := e₂
  have hC₂ := k₂ _ _ hC₁
  have X₂ : K.In h₂ := X₁.keeps k₂
  have hx₂ := k₂ _ _ hx₁
  have I₂ : InstAt h₂ x (excO C t0) C none := ⟨hx₂, rfl, rfl, trivial⟩
  have hns₂ := hns.keeps k₂
  have hxC : x ≠ C := by
    rintro rfl
    rw [hx₂] at hC₂
    cases hC₂
  have hsup : alongIn K "__init__" (((Value.ref C :: bm).dropWhile (· != .ref C)).drop 1) = some (some (.builtin "ValueError.__init__")) := by
    have z := T.sup
    unfold ks_superIn at z
    rw [hcl] at z
    exact z
  refine kxs_getMethod kxs_ValueError so₂ (looks_opaque X₂ T.opq) (l₀ := Value.ref C :: bm) ?_ rfl X₂ hsup (I₂.type.andThen (looks_subIn X₂ T.subV)) hxC (by decide) ?_
  · exact fun A Q E s k q => wpAny_bind ((looks_clsIn X₂ hcl) A _ E s k (wpAny_pure q))
  have hu : (h₂.push (kxs_mw "ValueError.__init__" x)).get? h₂.objs.size = some (kxs_mw "ValueError.__init__" x) := Heap.get?_push_at rfl rfl
  have k₃ : ∀ b o, h₂.get? b = some o → (h₂.push (kxs_mw "ValueError.__init__" x)).get? b = some o := fun b o e => Heap.get?_push_of_some _ e
  refine kxs_callWith (i := "ValueError.__init__") (x := x) rfl (evalArgs_plain ?_)
  refine Calls.spliced_cons (wpAny_Name (wpAny_loadName_local rfl (lk_a o) (hns₂.keeps k₃) hvA ?_) o.dbg)
  refine Calls.spliced_nil ⟨hu, ?_⟩
  refine call_mw (k₃ _ _ hC₂) (k₃ _ _ hx₂) hu (one_size v) fun h₄ t1 k₄ hx₄ => ?_
  -- self.a = a
  have nL : s.heap.objs.size ≠ x := Nat.ne_of_gt (Heap.lt_size hx)
  have k₅ : ∀ b o, b ≠ x → h₂.get? b = some o → h₄.get? b = some o := fun b o hb e => k₄ b o hb (k₃ b o e)
  have X₄ : K.In h₄ := fun b o e => k₅ b o (fun z => by rw [z, hnx] at e; cases e) (X₂ b o e)
  have nL₂ : h₂.objs.size ≠ x := Nat.ne_of_gt (Heap.lt_size hx₂)
  have hns₄ : h₄.Ns s.heap.objs.size (fun y => List.lookup y [((PySem.Str.ofString "self" : Str), Value.ref x), (a, v)].reverse) := by
    obtain ⟨oL, es, ep, hL, r⟩ := hns₂
    exact ⟨oL, es, ep, k₅ _ _ nL hL, r⟩
  refine ks_wpAt_execs_cons (wpAt_of_wpAny ?_)
  refine plainObj_wpAny_Assign_Attribute ?_
  refine wpAny_Name (wpAny_loadName_local rfl (lk_a o) hns₄ hvA ?_) o.dbg
  refine wpAny_Name (wpAny_loadName_local rfl lk_self hns₄ hvS ?_) (by decide)
  refine set_plain X₄ (ox := excO C t1) (od := none) ⟨hx₄, rfl, rfl, trivial⟩ T.sa ?_
  refine exc_osa X₄ hx₄ hcl (show refsVE (.ref C :: bm) = true from hbm) rfl T.noN (fun h₆ tk₆ dx k₆ dn dne hx₆ hn₆ => ?_)
  refine wpAt_of_wpAny (wpAny_execs_nil ?_)
  have hz : s.heap.objs.size ≤ h₄.objs.size := Nat.le_of_lt (show s.heap.objs.size < h₄.objs.size from hns₄.lt)
  exact hq h₆ tk₆ dx t1 ⟨fun b o hb e => k₆ b o hb (k₅ b o hb (k₂ b o (hk₁ b o e))), hx₆, Nat.le_trans hz dn, dne, hn₆⟩

theorem low_made (T : SupTxt prog K mg cn qual a C fI) (o : OkN a) {v : Value} (X : K.In s.heap) (G : s.heap.Ns mainGlobals mg) (GB : s.heap.Ns builtinsNs mb) (hb : ∀ y : Str, y ≠ "__name__" → mb y = bootBuiltins y)
    (hlim : s.heap.NoLimit) (hroom : A.depth + 1 < recursionLimit)
    (hq : ∀ h' tk e d, OwnMade s.heap h' a e C d v → R (.ok (.ret (.ref e))) { s with heap := h', toks := tk }) :
    codeAny (model prog w) A (.call (.ref C) ⟨[v], []⟩) R s := by
  obtain ⟨nm, q, N, bs, bm, sn, sub, ab, col, dd, k0, k1, k2, k3, k5, hC, hbm⟩ := T.cls
  obtain ⟨hp, g, dr, tk, os⟩ := s
  have k : ∀ b o, hp.get? b = some o → ((hp.push (kdv_tup [v])).push (excO C hp.objs.size)).get? b = some o := fun b o e => Heap.get?_push_of_some _ (Heap.get?_push_of_some _ e)
  have hget : ((hp.push (kdv_tup [v])).push (excO C hp.objs.size)).get? (hp.objs.size + 1) = some (excO C hp.objs.size) := by heap_get
  have hnx : K.lookup (hp.objs.size + 1) = none := by
    cases e : K.lookup (hp.objs.size + 1) with
    | none => rfl
    | some o =>
      have z : hp.get? (hp.objs.size + 1) = some o := X _ _ e
      exact absurd (Nat.lt_of_succ_lt (Heap.lt_size z)) (Nat.lt_irrefl _)
  refine call_own F.excBase_ValueError (fun X => refsVE_contains X bm hbm) (X _ _ hC) (looks_findIn X T.iC) (fun self => bind_fn X self T.tC) (one_size v) ?_
  refine low_init (s := ⟨(hp.push (kdv_tup [v])).push (excO C hp.objs.size), g, dr, tk, os⟩) T o (X.keeps k) (G.keeps k) (GB.keeps k) hb (hlim.keeps k) hget hnx ?_ fun h' tk' dx t1 ⟨k', hx, dn, dne, hns⟩ => ?_
  · show A.depth + 1 < recursionLimit
    exact hroom
  · have old : ∀ b o, hp.get? b = some o → h'.get? b = some o := fun b o e => k' b o (Nat.ne_of_lt (Nat.lt_succ_of_lt (Heap.lt_size e))) (k b o e)
    have z : hp.objs.size + 1 + 1 ≤ dx := by
      first
        | (simpa only [Heap.size_push] using dn)
        | exact dn
        | (have q := dn; rw [Heap.size_push, Heap.size_push] at q; exact q)
    exact ⟨rfl, hq h' tk' (hp.objs.size + 1) dx ⟨old, Nat.le_succ _, ⟨_, _, hx, rfl, rfl, rfl, rfl⟩, Nat.le_trans (Nat.le_trans (Nat.le_succ _) (Nat.le_succ _)) z, dne, hns⟩⟩
end
end MnX
namespace L2
open PySem PySem.Spec PyProof.Rows
theorem relO_one {a : Str} {v : V} {v' : Value} (r : RelV v v') (f : Str) : RelO (List.lookup f [(a, v)]) (if f = a then some v' else none) := by
  by_cases hw : f = a
  · subst hw
    rw [if_pos rfl]
    have q : List.lookup f [(f, v)] = some v := by simp [List.lookup]
    rw [q]
    exact r
  · rw [if_neg hw]
    have qw : (f == a) = false := by simpa using hw
    have q2 : List.lookup f [(a, v)] = none := by simp [List.lookup, qw]
    rw [q2]
    trivial
section
variable {X : Cx} {C fI : Addr} {cn qual a : Str}
/-- cn(e), the class at C with its one field a -/
def tMkS (C : Addr) (a : Str) (ta : TA) : St → Hp → XK → Prop := fun σ H Q => ta σ H fun vs H1 => ∃ v, vs = [v] ∧ ∀ d, H1 d = none → Q (.ref C) (some d) (upd H1 d (.xd [(a, v)]))
theorem pmk_sup {e : Expr} {ta : TA} {p pos : Pos} {k : Nat} (T : MnX.SupTxt X.prog X.K X.mg cn qual a C fI) (o : MnX.OkN a) (hr : Room k X.A) (ha : PA X [e] ta) (hg : Gl X cn) (hdb : (cn == ("__debug__" : Str)) = false := by decide)
    (he : starEach (e :: []) X.env = (false, eval e X.env) :: starEach [] X.env := by rfl) (hpl : (backTo pos (starEach [] X.env)).any (·.1) = false := by rfl) :
    PMk X (.Call (.Name cn p) [e] [] pos) (tMkS C a ta) := by
  intro pins s σ H Q I h
  refine wpAny_Call_Name_kw (ld_glob I hg T.gC ?_ hdb)
  refine PySem.W.callWith_K (h₀ := X.base) I.ok.mod.kin T.kC (thn (ha.run pos pins s σ H _ I h) fun us s1 hh => ?_) he hpl
  obtain ⟨vs, H1, I1, r1, v, ev, q1⟩ := hh
  subst ev
  refine ⟨I1.kIn, ?_⟩
  cases r1 with
  | cons rv rn =>
    rename_i v' us'
    cases rn
    show wpAny _ _ (call (.ref C) [v']) _ _ _
    have hlim := I1.nolimit
    have G := I1.mod.glob.keeps I1.bk
    obtain ⟨mb, GB, hb⟩ := I1.mod.blt
    have GB' := GB.keeps I1.bk
    obtain ⟨hp, g, dr, tk, os⟩ := s1
    refine wpAny_call (MnX.low_made T o I1.kIn G GB' hb hlim (by have := hr.dp; omega) fun h' tk' e d M => ?_)
    show MkP X pins σ Q (.ref e) ⟨h', g, dr, tk', os⟩
    obtain ⟨oe, fv, hoe, hc, hd, hdat, h1⟩ := M.obj
    have hns := M.ns
    obtain ⟨G', g1, g2⟩ := restrict h' fun b => decide (b ≠ e)
    have gk : ∀ b, b ≠ e → G'.get? b = h'.get? b := fun b hb => g1 b (decide_eq_true hb)
    have ge : G'.get? e = none := g2 e (by simp)
    have old : ∀ b o, hp.get? b = some o → G'.get? b = some o := fun b o q => (gk b (Nat.ne_of_lt (Nat.lt_of_lt_of_le (Heap.lt_size q) M.new))).trans (M.keep b o q)
    have ob : ObjOk X.prog X.w (upd H1 d (.xd [(a, v)])) G' d (.xd [(a, v)]) :=
      ⟨_, hns.at (fun o q => (gk d M.dne).trans q), fun f => relO_one rv f⟩
    have J : Inv X pins σ (upd H1 d (.xd [(a, v)])) ⟨G', g, dr, tk', os⟩ := I1.laid (t' := tk') old M.dbig ob
    refine ⟨e, oe, fv, ⟨G', g, dr, tk', os⟩, _, .ref C, some d, rfl, J, fun b o q => ?_, ge, hoe, ⟨hc, hd⟩, hdat, h1, ?_, rfl, I1.bare, raises_own T.exC T.tyC, q1 d (I1.hok.fresh M.dbig)⟩
    · by_cases hb : b = e
      · have q' : G'.get? b = some o := q
        rw [hb, ge] at q'; cases q'
      · exact (gk b hb).symm.trans q
    · rw [upd_ne (Ne.symm M.dne)]
      exact I1.hok.fresh M.new
/-- raise cn(e) -/
theorem ps_raiseS {e : Expr} {ta : TA} {W : WX} {p pos pos2 : Pos} {k : Nat} (hc : X.calm = true) (T : MnX.SupTxt X.prog X.K X.mg cn qual a C fI) (o : MnX.OkN a) (hr : Room k X.A) (tk : Takes X W) (ha : PA X [e] ta) (hg : Gl X cn := by rfl) (hdb : (cn == ("__debug__" : Str)) = false := by decide)
    (he : starEach (e :: []) X.env = (false, eval e X.env) :: starEach [] X.env := by rfl) (hpl : (backTo pos (starEach [] X.env)).any (·.1) = false := by rfl) :
    PS X (.Raise (some (.Call (.Name cn p) [e] [] pos)) none pos2) (fun _ σ H => tMkS C a ta σ H fun cls d H' => W cls d σ H') := ps_raise hc tk (pmk_sup T o hr ha hg hdb he hpl)
/-- isinstance(e, c), e the exception that the suite holds at a0, its own dict dd -/
def rIsD (K : PySem.W.Frag) (D a0 : Addr) (cls : Value) (d : Option Addr) : List V → Hp → VK → Prop := fun xs H Q => ∃ (c : V) (cv : Value) (b : Bool) (dd : Addr) (fs : List (Str × V)), cls = .ref D ∧ d = some dd ∧ xs = [.ref a0, c] ∧ (∀ u, RelV c u → u = cv) ∧ H dd = some (.xd fs) ∧ PySem.W.kitOne K (.ref D) cv = some b ∧ Q (.bl b) H
structure ExcD (K : PySem.W.Frag) (D : Addr) : Prop where
  hc : (PySem.W.clsIn K D).isSome = true
  hg : PySem.W.findIn K (.ref D) "__getattribute__" = some (some (.builtin "BaseException.__getattribute__"))
  hk : PySem.W.findIn K (.ref D) "__getattr__" = some none
  hs : PySem.W.subIn K (.ref D) (.type "BaseException") = some true
  ha : PySem.W.findIn K (.ref D) "__class__" = some (some (.builtin "object.__class__"))
  hn : PySem.W.specialIn K (.builtin "object.__class__") "__get__" = some (some (.builtin "getset_descriptor.__get__"))
  ht : PySem.W.takesIn K (.builtin "object.__class__") = some true
  hm : PySem.W.mroIn K D (.type "object") = some true
theorem call_isD {a0 D : Addr} {oe : Obj} {cls : Value} {d : Option Addr} {pn : List (Addr × Obj)} (C : ExcD X.K D) (hz : Zc cls d oe) (hf : ∃ vs, oe.data = .fields vs) : CallR (X.suite a0 ((a0, oe) :: pn)) (.builtin "isinstance") (rIsD X.K D a0 cls d) := by
  intro pins s σ H xs us Q I r h
  obtain ⟨c, cv, b, dd, fs, rfl, rfl, rfl, hcv, hdd, e, q⟩ := h
  cases r with
  | cons rx rr =>
    cases rr with
    | cons rt rr =>
      cases rr
      cases rx
      have ec := hcv _ rt
      subst ec
      obtain ⟨hget, _⟩ := I.pin (a0, oe) (List.mem_append.mpr (.inl List.mem_cons_self))
      obtain ⟨vs, hv⟩ := hf
      have hx : ObjOk X.prog X.w H s.heap dd (.xd fs) := I.hok dd _ hdd
      obtain ⟨mA, hns, hr⟩ := hx
      obtain ⟨od, ho, hl⟩ := lookIn_ns hns
      have J : PySem.W.InstAt s.heap a0 oe D (some od) := by
        obtain ⟨oc, odi, oda, osl⟩ := oe
        obtain ⟨h1, h2⟩ := hz
        dsimp only at h1 h2 hv
        subst h1 h2 hv
        exact ⟨hget, rfl, rfl, ho⟩
      exact PySem.W.kia_one (PySem.W.kitx_exc C.hc C.hg C.hk C.hs C.ha C.hn C.ht C.hm) I.kIn J e (fun z => nomatch z) fun tk => ⟨.bl b, H, I.kept (t' := tk) fun _ _ z => z, rfl, q⟩
end
end L2
namespace L2
open PySem PySem.Spec PyProof.Rows
section
variable {X : Cx}
/-- repr of None, of a bool, of a text -/
def reprV : V → Str
  | .non => "None"
  | .bl b => if b then "True" else "False"
  | .str x => reprText x
  | _ => Str.empty
theorem call_reprS : CallR X (.builtin "repr") (fun xs H Q => ∃ x, xs = [x] ∧ (x = .non ∨ (∃ b, x = .bl b) ∨ ∃ s, x = .str s ∧ (reprText s).length ≤ sizeLine) ∧ Q (.str (reprV x)) H) := by
  intro pins s σ H xs us Q I r h
  obtain ⟨x, rfl, hx, q⟩ := h
  obtain ⟨u, rfl, ru⟩ := vals1 r
  rcases hx with rfl | ⟨b, rfl⟩ | ⟨z, rfl, hz⟩
  · cases (show u = Value.none from ru)
    exact PySem.P.repr_of_none ⟨.str _, H, I.tok _, ⟨_, rfl⟩, q⟩
  · cases (show u = Value.bool b from ru)
    exact PySem.P.repr_of_bool ⟨.str _, H, I.tok _, ⟨_, rfl⟩, q⟩
  · obtain ⟨t, rfl⟩ := (show ∃ t, u = Value.str z t from ru)
    exact PySem.P.repr_of_str ⟨.str _, H, I.tok _, ⟨_, rfl⟩, q⟩ hz
/-- str of an int, of a text -/
def StrV (x : V) (t : Str) : Prop := (∃ i : Int, x = .int i ∧ i.natAbs.log2 < 1920 ∧ t = Str.ofString (toString i)) ∨ x = .str t
theorem call_str2 : CallR X (.type "str") (fun xs H Q => ∃ x t, xs = [x] ∧ StrV x t ∧ Q (.str t) H) := by
  intro pins s σ H xs us Q I r h
  obtain ⟨x, t, rfl, h, q⟩ := h
  rcases h with ⟨i, rfl, hi, rfl⟩ | rfl
  · exact call_str_int pins s σ H _ us Q I r ⟨i, rfl, hi, q⟩
  · exact SkE.call_str_str pins s σ H _ us Q I r ⟨t, rfl, q⟩
end
/-! ### new objects, told by what they leave -/
theorem Same.nw {H : Hp} {p : Addr} {o : HO} (hp : H p = none) : Same H (upd H p o) := fun b u e => by rw [upd_ne (ne_of_none e hp)]; exact e
/-- a new tuple, a new list -/
def NewT (xs : List V) (H : Hp) (Q : VK) : Prop := ∀ p H2, H p = none → Same H H2 → H2 p = some (.tup xs) → Q (.ref p) H2
def NewL (xs : List V) (H : Hp) (Q : VK) : Prop := ∀ p H2, H p = none → Same H H2 → H2 p = some (.lst xs) → Q (.ref p) H2
theorem NewT.at {xs : List V} {H : Hp} {Q : VK} (n : NewT xs H Q) : ∀ p, H p = none → Q (.ref p) (upd H p (.tup xs)) := fun p hp => n p _ hp (Same.nw hp) upd_same
theorem NewL.at {xs : List V} {H : Hp} {Q : VK} (n : NewL xs H Q) : ∀ p, H p = none → Q (.ref p) (upd H p (.lst xs)) := fun p hp => n p _ hp (Same.nw hp) upd_same
def tTupN (t : TA) : TE := fun σ H Q => t σ H fun xs H1 => xs.length ≤ sizeLine ∧ NewT xs H1 Q
def tLstN (t : TA) : TE := fun σ H Q => t σ H fun xs H1 => xs.length ≤ sizeLine ∧ NewL xs H1 Q
section
variable {X : Cx} {es : List Expr} {t : TA} {pos : Pos}
theorem pe_tupN {x1} (h : PA X es t) : PE X (.Tuple es x1 pos) (tTupN t) := ⟨fun pins s σ H Q I hq => by
  refine wpAny_Tuple_spliced (thn (h.run pos pins s σ H _ I hq) fun us s1 ⟨xs, H1, I1, r, z, q⟩ => ⟨by rw [← r.length]; exact z, ?_⟩)
  have hf : H1 s1.heap.objs.size = none := I1.hok.fresh (Nat.le_refl _)
  exact ⟨.ref s1.heap.objs.size, upd H1 s1.heap.objs.size (.tup xs), I1.laid (t' := s1.toks) (fun b u e => Heap.get?_push_of_some _ e) (Nat.le_refl _) ⟨z, us, r, ⟨_, Heap.get?_push_size _ rfl, rfl, _, rfl⟩⟩, rfl, q.at _ hf⟩⟩
theorem pe_lstN (h : PA X es t) : PE X (.List es pos) (tLstN t) := ⟨fun pins s σ H Q I hq => by
  refine wpAny_List_spliced (thn (h.run pos pins s σ H _ I hq) fun us s1 ⟨xs, H1, I1, r, z, q⟩ => ⟨by rw [← r.length]; exact z, ?_⟩)
  have hf : H1 s1.heap.objs.size = none := I1.hok.fresh (Nat.le_refl _)
  exact ⟨.ref s1.heap.objs.size, upd H1 s1.heap.objs.size (.lst xs), I1.laid (t' := s1.toks) (fun b u e => Heap.get?_push_of_some _ e) (Nat.le_refl _) ⟨z, us, 0, r, Heap.get?_push_size _ rfl⟩, rfl, q.at _ hf⟩⟩
theorem CallR.imp {f : Value} {r r' : List V → Hp → VK → Prop} (h : CallR X f r) (i : ∀ xs H Q, r' xs H Q → r xs H Q) : CallR X f r' := fun pins s σ H xs us Q I rv q => h pins s σ H xs us Q I rv (i _ _ _ q)
theorem call_listN : CallR X (.type "list") (fun xs H Q => ∃ p ys, xs = [.ref p] ∧ (SqL X.K H p ys ∨ SqT X.K H p ys) ∧ NewL ys H Q) := CallR.imp call_list_of fun xs H Q ⟨p, ys, e, h, n⟩ => ⟨p, ys, e, h, n.at⟩
/-- tuple of a list -/
theorem call_tupleN : CallR X (.type "tuple") (fun xs H Q => ∃ p ys, xs = [.ref p] ∧ SqL X.K H p ys ∧ NewT ys H Q) := CallR.imp call_tuple_of fun xs H Q ⟨p, ys, e, h, n⟩ => ⟨p, ys, e, .inl ⟨h, n.at⟩⟩
end
/-! ### defs that may raise, packed -/
structure Cl (P : Program) (w : World) (K : PySem.W.Frag) (mg : Str → Option Value) (base : Heap) (k : Nat) (x : Str) (sp : Sp) : Prop where
  ex : ∃ (f : Addr) (fd : FuncData) (ps : List Str), FnOk P w K mg base (L2.CX P w) k f fd ps sp ∧ mg x = some (.ref f) ∧ PySem.W.keepIn K (.ref f) = true ∧ Binds K fd ps []
theorem Cl.mono {P : Program} {w : World} {K : PySem.W.Frag} {mg : Str → Option Value} {base : Heap} {j k : Nat} {x : Str} {sp : Sp} (c : Cl P w K mg base j x sp) (h : j ≤ k) : Cl P w K mg base k x sp := by
  obtain ⟨f, fd, ps, F, r⟩ := c.ex
  exact ⟨f, fd, ps, F.mono h, r⟩
/-- where a def stands -/
structure At (K : PySem.W.Frag) (mg : Str → Option Value) (x : Str) (st : Stmt) (f : Addr) (fd : FuncData) : Prop where
  fn : Fun K x x st f fd
  mgf : mg x = some (.ref f)
section
variable {X : Cx} {k j : Nat} {x : Str} {sp : Sp} {p pos : Pos} {e : Expr} {es : List Expr} {t : TA}
theorem pe_bty (n : String) (hg : Gl X x) (hm : X.mg x = none) (hv : bootBuiltins x = some (.type n)) (hn : x ≠ "__name__" := by decide) (hd : (x == ("__debug__" : Str)) = false := by decide) : PE X (.Name x pos) (tC (.ty n)) := pe_bltn hg hm hv rfl hn hd
theorem pe_gc {v : V} (hg : Gl X x) (h : ∃ u, X.mg x = some u ∧ RelV v u) (hd : (x == ("__debug__" : Str)) = false := by decide) : PE X (.Name x pos) (tC v) := by
  obtain ⟨u, hm, r⟩ := h
  exact pe_glob hg hm r hd
/-- a call that lets nothing out -/
theorem pe_k0 (c : Cl X.prog X.w X.K X.mg X.base k x sp) (hr : Room j X.A) (hk : k ≤ j) (hg : Gl X x) (ha : PA X (e :: es) t)
    (hdb : (x == ("__debug__" : Str)) = false := by decide) (he : starEach (e :: es) X.env = (false, eval e X.env) :: starEach es X.env := by rfl) (hpl : (backTo pos (starEach es X.env)).any (·.1) = false := by rfl) :
    PE X (.Call (.Name x p) (e :: es) [] pos) (tCall sp [] E0 t) := by
  obtain ⟨f, fd, ps, F, hm, kp, b⟩ := c.ex
  exact pe_call F (hr.mono hk) hg hm kp b .nil passL ha hdb he hpl
theorem pe_k0n (c : Cl X.prog X.w X.K X.mg X.base k x sp) (hr : Room j X.A) (hk : k ≤ j) (hg : Gl X x) (hdb : (x == ("__debug__" : Str)) = false := by decide) :
    PE X (.Call (.Name x p) [] [] pos) (tCall sp [] E0 tNil) := by
  obtain ⟨f, fd, ps, F, hm, kp, b⟩ := c.ex
  exact pe_call0 F (hr.mono hk) hg hm kp b .nil passL hdb
/-- a call whose error is handed on: W, what is wished of it here -/
theorem pe_kE {E : XK} {W : WX} (c : Cl X.prog X.w X.K X.mg X.base k x sp) (tk : Takes X W) (hW : ∀ cls d σ H, E cls d H → W cls d σ H) (hr : Room j X.A) (hk : k ≤ j) (hg : Gl X x) (ha : PA X (e :: es) t)
    (hdb : (x == ("__debug__" : Str)) = false := by decide) (he : starEach (e :: es) X.env = (false, eval e X.env) :: starEach es X.env := by rfl) (hpl : (backTo pos (starEach es X.env)).any (·.1) = false := by rfl) :
    PE X (.Call (.Name x p) (e :: es) [] pos) (tCall sp [] E t) := by
  obtain ⟨f, fd, ps, F, hm, kp, b⟩ := c.ex
  exact pe_call F (hr.mono hk) hg hm kp b .nil (passes_call tk hW) ha hdb he hpl
end
section
variable {σ : St} {H : Hp} {D : Ends} {c : TT} {t u rest : TS} {b : Bool}
/-- an if whose test comes to b, the heap as it was -/
theorem seq_if (b : Bool) (h : ∀ Q : Bool → Hp → Prop, Q b H → c σ H Q) (h1 : b = true → t { D with nx := rest D } σ H) (h2 : b = false → u { D with nx := rest D } σ H) : tSeq (tIfS c t u) rest D σ H := by
  refine h _ ?_
  show if b = true then _ else _
  cases b with
  | true => exact h1 rfl
  | false => exact h2 rfl
theorem seq_when (b : Bool) (h : ∀ Q : Bool → Hp → Prop, Q b H → c σ H Q) (h1 : b = true → t { D with nx := rest D } σ H) (h2 : b = false → rest D σ H) : tSeq (tIfS c t tNext) rest D σ H := seq_if b h h1 h2
theorem one_if (b : Bool) (h : ∀ Q : Bool → Hp → Prop, Q b H → c σ H Q) (h1 : b = true → t D σ H) (h2 : b = false → u D σ H) : tIfS c t u D σ H := by
  refine h _ ?_
  show if b = true then _ else _
  cases b with
  | true => exact h1 rfl
  | false => exact h2 rfl
/-- the same where the test makes objects -/
theorem seq_ifX (b : Bool) (R : Hp → Prop) (h : ∀ Q : Bool → Hp → Prop, (∀ H', R H' → Q b H') → c σ H Q) (h1 : b = true → ∀ H', R H' → t { D with nx := rest D } σ H') (h2 : b = false → ∀ H', R H' → u { D with nx := rest D } σ H') : tSeq (tIfS c t u) rest D σ H := by
  refine h _ fun H' r => ?_
  show if b = true then _ else _
  cases b with
  | true => exact h1 rfl H' r
  | false => exact h2 rfl H' r
theorem seq_whenX (b : Bool) (R : Hp → Prop) (h : ∀ Q : Bool → Hp → Prop, (∀ H', R H' → Q b H') → c σ H Q) (h1 : b = true → ∀ H', R H' → t { D with nx := rest D } σ H') (h2 : b = false → ∀ H', R H' → rest D σ H') : tSeq (tIfS c t tNext) rest D σ H := seq_ifX b R h h1 h2
theorem two_fits : 2 ≤ sizeLine := by rw [sizeLine_eq]; decide
theorem fits (n : Nat) (h : n ≤ 10000 := by decide) : n ≤ sizeLine := Nat.le_trans h (by rw [sizeLine_eq]; decide)
theorem iteB {b : Bool} {A B : Prop} (h1 : b = true → A) (h2 : b = false → B) : if b = true then A else B := by
  cases b with
  | true => exact iteT (h1 rfl)
  | false => exact iteF (h2 rfl)
theorem iteNB {b : Bool} {A B : Prop} (h1 : b = false → A) (h2 : b = true → B) : if (!b) = true then A else B := by
  cases b with
  | true => exact iteF (h2 rfl)
  | false => exact iteT (h1 rfl)
end
end L2
namespace Mn
open PySem L2
/-- no built-in's name is taken by the module -/
structure TB (mg : Str → Option Value) : Prop where
  b_isinstance : mg "isinstance" = none
  b_int : mg "int" = none
  b_bool : mg "bool" = none
  b_str : mg "str" = none
  b_list : mg "list" = none
  b_tuple : mg "tuple" = none
  b_len : mg "len" = none
  b_abs : mg "abs" = none
  b_max : mg "max" = none
  b_min : mg "min" = none
  b_range : mg "range" = none
  b_repr : mg "repr" = none
  b_sorted : mg "sorted" = none
  b_all : mg "all" = none
  b_any : mg "any" = none
  b_enumerate : mg "enumerate" = none
  b_zip : mg "zip" = none
  b_dict : mg "dict" = none
  b_set : mg "set" = none
  b_sum : mg "sum" = none
/-! ### the box of draws -/
def BoxAt (H : Hp) (b : Addr) : Prop := ∃ w s c : Int, H b = some (.lst [.int w, .int s, .int c])
/-- all but b stands; b is a box -/
structure Bx (b : Addr) (H H' : Hp) : Prop where
  keep : ∀ a o, a ≠ b → H a = some o → H' a = some o
  box : BoxAt H' b
theorem Bx.trans {b : Addr} {H H1 H2 : Hp} (x : Bx b H H1) (y : Bx b H1 H2) : Bx b H H2 := ⟨fun a o n h => y.keep a o n (x.keep a o n h), y.box⟩
theorem Bx.refl {b : Addr} {H : Hp} (h : BoxAt H b) : Bx b H H := ⟨fun _ _ _ h => h, h⟩
theorem Bx.new {b p : Addr} {o : HO} {H : Hp} (h : BoxAt H b) (hp : H p = none) : Bx b H (upd H p o) := by
  obtain ⟨w, s, c, h⟩ := h
  exact ⟨fun a u _ q => by rw [upd_ne (ne_of_none q hp)]; exact q, w, s, c, by rw [upd_ne (ne_of_none h hp)]; exact h⟩
theorem Bx.put {b : Addr} {w s c : Int} {H : Hp} : Bx b H (upd H b (.lst [.int w, .int s, .int c])) := ⟨fun a u n q => by rw [upd_ne n]; exact q, w, s, c, upd_same⟩
theorem Bx.free {b p : Addr} {H H' : Hp} (x : Bx b H H') (hb : BoxAt H b) (h : H' p = none) : H p = none := by
  cases q : H p with
  | none => rfl
  | some o =>
    by_cases e : p = b
    · obtain ⟨_, _, _, z⟩ := x.box
      rw [e, z] at h
      cases h
    · rw [x.keep p o e q] at h
      cases h
theorem box_ne {H : Hp} {a b : Addr} (h : BoxAt H b) (hn : H a = none) : a ≠ b := by
  rintro rfl
  obtain ⟨_, _, _, z⟩ := h
  rw [z] at hn
  cases hn
theorem Bx.lst {b l : Addr} {H H' : Hp} {K : PySem.W.Frag} {xs : List V} (x : Bx b H H') (n : l ≠ b) (h : SqL K H l xs) : SqL K H' l xs := by
  rcases h with (h | ⟨o, h⟩) | h
  · exact .inl (.inl (x.keep _ _ n h))
  · exact .inl (.inr ⟨o, x.keep _ _ n h⟩)
  · exact .inr h
theorem Bx.tup {b l : Addr} {H H' : Hp} {K : PySem.W.Frag} {xs : List V} (x : Bx b H H') (n : l ≠ b) (h : SqT K H l xs) : SqT K H' l xs := by
  rcases h with (h | ⟨o, h⟩) | h
  · exact .inl (.inl (x.keep _ _ n h))
  · exact .inl (.inr ⟨o, x.keep _ _ n h⟩)
  · exact .inr h
theorem Bx.of_same {b : Addr} {H H' : Hp} (hb : BoxAt H b) (e : Same H H') : Bx b H H' := by
  obtain ⟨w, s, c, h⟩ := hb
  exact ⟨fun a o _ q => e a o q, w, s, c, e _ _ h⟩
theorem BoxAt.same {b : Addr} {H H' : Hp} (hb : BoxAt H b) (e : Same H H') : BoxAt H' b := (Bx.of_same hb e).box
/-- take: a number from 0 to many - 1 -/
def spTake : Sp := fun vs H Q _ => ∃ (b : Addr) (n : Int), vs = [.ref b, .int n] ∧ 0 < n ∧ n < 1000000 ∧ BoxAt H b ∧ ∀ d H', 0 ≤ d → d < n → Bx b H H' → Q (.int d) H'
/-- pick: one of a list -/
def spPick (K : PySem.W.Frag) : Sp := fun vs H Q _ => ∃ (b l : Addr) (xs : List V), vs = [.ref b, .ref l] ∧ BoxAt H b ∧ l ≠ b ∧ SqL K H l xs ∧ 0 < xs.length ∧ xs.length < 1000000 ∧ ∀ (i : Nat) (x : V) (H' : Hp), xs[i]? = some x → Bx b H H' → Q x H'
/-- box: a new one for a cell of the script -/
def spBox (K : PySem.W.Frag) : Sp := fun vs H Q _ => ∃ (a : Addr) (ns : List Int) (k : Int), vs = [.ref a, .int k] ∧ SqL K H a (ns.map V.int) ∧ ns.length ≤ 1000 ∧ 0 ≤ k ∧ k ≤ 1000 ∧ ∀ p H', H p = none → Same H H' → BoxAt H' p → Q (.ref p) H'
end Mn
namespace L2
open PySem PySem.Spec PyProof.Rows
section
variable {X : Cx} {CX : CXT} {k : Nat} {f C : Addr} {fd : FuncData} {ps : List Str} {sp : Sp} {dvs : List V} {ds : List Value} {E : St → XK} {x : Str} {p pos : Pos} {e : Expr} {es : List Expr} {t : TA}
/-- C(e, ..) where what is raised is wished for at the caller's slots -/
def tMakeS (C : Addr) (sp : Sp) (dvs : List V) (E : St → XK) (t : TA) : TE := fun σ H Q => t σ H fun vs H1 => ∀ x dx, H1 x = none → H1 dx = none → dx ≠ x →
  sp (.ref x :: (vs ++ dvs)) (upd (upd H1 dx (.own x)) x (.ins C dx [])) (fun v H2 => v = .non ∧ Q (.ref x) H2) (E σ)
theorem run_makeS {pins : List (Addr × Obj)} {σ : St} {H : Hp} {s : Shared} {Q : VK} {us : List Value} {vs : List V} (M : Mk X.K C f) (F : FnOk X.prog X.w X.K X.mg X.base CX k f fd ps sp) (hr : Room (k + 1) X.A) (hb : Binds X.K fd ps ds) (hd : Vals dvs ds)
    (hx : PassesAt CX X σ (E σ)) (I : Inv X pins σ H s) (r : Vals vs us)
    (h : ∀ x dx, H x = none → H dx = none → dx ≠ x → sp (.ref x :: (vs ++ dvs)) (upd (upd H dx (.own x)) x (.ins C dx [])) (fun v H2 => v = .non ∧ Q (.ref x) H2) (E σ)) :
    wpAny (model X.prog X.w) X.A (call (.ref C) us) (EP X pins σ Q) X.xe s := by
  have hq := h (s.heap.objs.size + 1) s.heap.objs.size (I.hok.fresh (Nat.le_succ _)) (I.hok.fresh (Nat.le_refl _)) (Nat.ne_of_lt (Nat.lt_succ_self _))
  have I2 := Inv.made (C := C) I
  have r2 : Vals (V.ref (s.heap.objs.size + 1) :: (vs ++ dvs)) (Value.ref (s.heap.objs.size + 1) :: (us ++ ds)) := .cons rfl (r.append hd)
  have hl : (Value.ref (s.heap.objs.size + 1) :: us ++ ds).length = ps.length := by
    have e := r2.length
    rw [F.len _ _ _ _ hq] at e
    exact e.symm
  refine wpAny_call (make_map (f := f) I.kIn M.makes M.init (beq_iff_eq.mp M.fn) (codeAny_mono (F.run _ X.stack _ _ ⟨Value.ref (s.heap.objs.size + 1) :: us, []⟩ (Value.ref (s.heap.objs.size + 1) :: (us ++ ds)) _ _ (E σ) (hr.make C us [])
    (I2.env0.make C us []) (hb _ (Value.ref (s.heap.objs.size + 1) :: us) I2.kIn hl) r2 hq) fun r s' hq' => ?_))
  cases r with
  | error e => exact hx pins _ _ e s' I2 hq'
  | ok fl =>
    cases fl with
    | ret u =>
      obtain ⟨v, H', I3, rv, ev, q3⟩ := I2.after hq'
      subst ev
      exact ⟨rv, ⟨V.ref (s.heap.objs.size + 1), H', I3, rfl, q3⟩⟩
    | next => exact False.elim hq'
    | brk => exact False.elim hq'
    | cont => exact False.elim hq'
theorem pe_makeS (M : Mk X.K C f) (F : FnOk X.prog X.w X.K X.mg X.base CX k f fd ps sp) (hr : Room (k + 1) X.A) (hg : Gl X x) (hm : X.mg x = some (.ref C)) (hb : Binds X.K fd ps ds) (hd : Vals dvs ds) (hx : ∀ σ, PassesAt CX X σ (E σ))
    (ha : PA X (e :: es) t) (hdb : (x == ("__debug__" : Str)) = false := by decide) (he : starEach (e :: es) X.env = (false, eval e X.env) :: starEach es X.env := by rfl) (hpl : (backTo pos (starEach es X.env)).any (·.1) = false := by rfl) :
    PE X (.Call (.Name x p) (e :: es) [] pos) (tMakeS C sp dvs E t) := by
  refine ⟨fun pins s σ H Q I h => ?_⟩
  refine wpAny_Call_Name_kw (ld_glob I hg hm ?_ hdb)
  refine PySem.W.callWith_K (h₀ := X.base) I.ok.mod.kin M.kp (thn (ha.run pos pins s σ H _ I h) fun us s1 ⟨vs, H1, I1, r, q⟩ => ⟨I1.kIn, ?_⟩) he hpl
  exact run_makeS M F hr hb hd (hx σ) I1 r q
end
/-! ### classes of the program, packed: the class x stands at C, its __init__ keeps sp -/
structure Mc (P : Program) (w : World) (K : PySem.W.Frag) (mg : Str → Option Value) (base : Heap) (k : Nat) (x : Str) (C : Addr) (n : Nat) (sp : Sp) (dvs : List V) : Prop where
  ex : ∃ (f : Addr) (fd : FuncData) (ps : List Str) (ds : List Value), Mk K C f ∧ FnOk P w K mg base (L2.CX P w) k f fd ps sp ∧ mg x = some (.ref C) ∧ Binds K fd ps ds ∧ Vals dvs ds
section
variable {X : Cx} {k j n : Nat} {C : Addr} {x : Str} {sp : Sp} {dvs : List V} {p pos : Pos} {e : Expr} {es : List Expr} {t : TA}
theorem pe_cm0 (c : Mc X.prog X.w X.K X.mg X.base k x C n sp dvs) (hr : Room j X.A) (hk : k + 1 ≤ j) (hg : Gl X x) (ha : PA X (e :: es) t)
    (hdb : (x == ("__debug__" : Str)) = false := by decide) (he : starEach (e :: es) X.env = (false, eval e X.env) :: starEach es X.env := by rfl) (hpl : (backTo pos (starEach es X.env)).any (·.1) = false := by rfl) :
    PE X (.Call (.Name x p) (e :: es) [] pos) (tMake C sp dvs E0 t) := by
  obtain ⟨f, fd, ps, ds, M, F, hm, b, d⟩ := c.ex
  exact pe_make M F (hr.mono hk) hg hm b d passL ha hdb he hpl
theorem pe_cm0n (c : Mc X.prog X.w X.K X.mg X.base k x C n sp dvs) (hr : Room j X.A) (hk : k + 1 ≤ j) (hg : Gl X x) (hdb : (x == ("__debug__" : Str)) = false := by decide) :
    PE X (.Call (.Name x p) [] [] pos) (tMake C sp dvs E0 tNil) := by
  obtain ⟨f, fd, ps, ds, M, F, hm, b, d⟩ := c.ex
  exact pe_make0 M F (hr.mono hk) hg hm b d passL hdb
theorem pe_cmE {E : XK} {W : WX} (c : Mc X.prog X.w X.K X.mg X.base k x C n sp dvs) (tk : Takes X W) (hW : ∀ cls d σ H, E cls d H → W cls d σ H) (hr : Room j X.A) (hk : k + 1 ≤ j) (hg : Gl X x) (ha : PA X (e :: es) t)
    (hdb : (x == ("__debug__" : Str)) = false := by decide) (he : starEach (e :: es) X.env = (false, eval e X.env) :: starEach es X.env := by rfl) (hpl : (backTo pos (starEach es X.env)).any (·.1) = false := by rfl) :
    PE X (.Call (.Name x p) (e :: es) [] pos) (tMake C sp dvs E t) := by
  obtain ⟨f, fd, ps, ds, M, F, hm, b, d⟩ := c.ex
  exact pe_make M F (hr.mono hk) hg hm b d (passes_call tk hW) ha hdb he hpl
/-- in a try's body -/
theorem pe_cmS {W : WX} (c : Mc X.prog X.w X.K X.mg X.base k x C n sp dvs) (tk : Takes X W) (hr : Room j X.A) (hk : k + 1 ≤ j) (hg : Gl X x) (ha : PA X (e :: es) t)
    (hdb : (x == ("__debug__" : Str)) = false := by decide) (he : starEach (e :: es) X.env = (false, eval e X.env) :: starEach es X.env := by rfl) (hpl : (backTo pos (starEach es X.env)).any (·.1) = false := by rfl) :
    PE X (.Call (.Name x p) (e :: es) [] pos) (tMakeS C sp dvs (WE W) t) := by
  obtain ⟨f, fd, ps, ds, M, F, hm, b, d⟩ := c.ex
  exact pe_makeS M F (hr.mono hk) hg hm b d (fun σ => passAt tk σ) ha hdb he hpl
end
end L2
namespace Mn
open PySem L2
theorem log_ok {i : Int} (h : i.natAbs ≤ 1000000) : i.natAbs.log2 < 1920 := by
  by_cases h0 : i.natAbs = 0
  · rw [h0]; decide
  · exact (Nat.log2_lt h0).mpr (Nat.lt_of_le_of_lt h (Nat.lt_of_lt_of_le (m := 2 ^ 20) (by decide) (Nat.pow_le_pow_right (by decide) (by omega))))
theorem str_int_len {i : Int} (h : i.natAbs ≤ 1000000) : (Str.ofString (toString i)).length ≤ 10 := by
  rw [ofString_length]
  exact int_text_length_le10 (k := 9) (by decide) (Nat.lt_of_le_of_lt h (by decide))
/-! ### any values -/
def AnyV (H : Hp) : V → Prop
  | .non => True
  | .bl _ => True
  | .int i => i.natAbs ≤ 1000
  | .str s => s.length ≤ 1000
  | .ref a => (∃ xs, H a = some (.lst xs)) ∨ ∃ xs, H a = some (.tup xs)
  | _ => False
theorem AnyV.bx {b : Addr} {H H' : Hp} (x : Bx b H H') {v : V} (h : AnyV H v) : AnyV H' v := by
  cases v with
  | ref a =>
    by_cases e : a = b
    · subst e
      obtain ⟨w, s, c, z⟩ := x.box
      exact .inl ⟨_, z⟩
    · rcases h with ⟨xs, h⟩ | ⟨xs, h⟩
      · exact .inl ⟨xs, x.keep _ _ e h⟩
      · exact .inr ⟨xs, x.keep _ _ e h⟩
  | _ => exact h
theorem AnyV.same {H H' : Hp} (x : Same H H') {v : V} (h : AnyV H v) : AnyV H' v := by
  cases v with
  | ref a =>
    rcases h with ⟨xs, h⟩ | ⟨xs, h⟩
    · exact .inl ⟨xs, x _ _ h⟩
    · exact .inr ⟨xs, x _ _ h⟩
  | _ => exact h
/-- a list is changed -/
theorem AnyV.upd {H : Hp} {l : Addr} {xs ys : List V} (hl : H l = some (.lst xs)) {v : V} (h : AnyV H v) : AnyV (upd H l (.lst ys)) v := by
  cases v with
  | ref a =>
    by_cases e : a = l
    · subst e
      exact .inl ⟨ys, upd_same⟩
    · rcases h with ⟨zs, h⟩ | ⟨zs, h⟩
      · exact .inl ⟨zs, by rw [upd_ne e]; exact h⟩
      · exact .inr ⟨zs, by rw [upd_ne e]; exact h⟩
  | _ => exact h
theorem AnyV.new {H : Hp} {p : Addr} {o : HO} (hp : H p = none) {v : V} (h : AnyV H v) : AnyV (L2.upd H p o) v := h.same fun a u q => by rw [upd_ne (ne_of_none q hp)]; exact q
def isB : V → Bool
  | .bl _ => true
  | _ => false
def isI : V → Bool
  | .int _ => true
  | _ => false
def isS : V → Bool
  | .str _ => true
  | _ => false
def isR : V → Bool
  | .ref _ => true
  | _ => false
/-- what isinstance asks of any value -/
structure TyA (K : PySem.W.Frag) (H : Hp) (v : V) (t : Value) : Prop where
  ty : TyX K H v t
  int : PySem.W.kitOne K t (.type "int") = some (isI v || isB v)
  bool : PySem.W.kitOne K t (.type "bool") = some (isB v)
  str : PySem.W.kitOne K t (.type "str") = some (isS v)
  seq : PySem.W.kitAny K t [.type "list", .type "tuple"] = some (isR v)
theorem kitAny_ty {K : PySem.W.Frag} {a : String} {r : Bool} {bs : List String} (h : ∀ b ∈ bs, kitB a b = some false) (hr : r = false) : PySem.W.kitAny K (.type a) (bs.map Value.type) = some r := by
  subst hr
  induction bs with
  | nil => rfl
  | cons b bs ih => exact kitAny_cons (kit_ty (h b List.mem_cons_self)) (fun _ => ih fun c hc => h c (List.mem_cons_of_mem _ hc)) fun z => nomatch z
theorem tyA {K : PySem.W.Frag} {H : Hp} {v : V} (h : AnyV H v) : ∃ t, TyA K H v t := by
  cases v with
  | non => exact ⟨_, .base .non, kit_ty (by decide +kernel), kit_ty (by decide +kernel), kit_ty (by decide +kernel), kitAny_ty (bs := ["list", "tuple"]) (by decide +kernel) rfl⟩
  | bl b => exact ⟨_, .base (.bl b), kit_ty (a := "bool") (b := "int") (r := true) (by decide +kernel), kit_ty (a := "bool") (b := "bool") (r := true) (by decide +kernel), kit_ty (a := "bool") (b := "str") (r := false) (by decide +kernel), kitAny_ty (bs := ["list", "tuple"]) (by decide +kernel) rfl⟩
  | int i => exact ⟨_, .base (.int i), kit_ty (a := "int") (b := "int") (r := true) (by decide +kernel), kit_ty (a := "int") (b := "bool") (r := false) (by decide +kernel), kit_ty (a := "int") (b := "str") (r := false) (by decide +kernel), kitAny_ty (bs := ["list", "tuple"]) (by decide +kernel) rfl⟩
  | str s => exact ⟨_, .base (.str s), kit_ty (a := "str") (b := "int") (r := false) (by decide +kernel), kit_ty (a := "str") (b := "bool") (r := false) (by decide +kernel), kit_ty (a := "str") (b := "str") (r := true) (by decide +kernel), kitAny_ty (bs := ["list", "tuple"]) (by decide +kernel) rfl⟩
  | ref a =>
    rcases h with ⟨xs, h⟩ | ⟨xs, h⟩
    · exact ⟨_, .base (.lst h), kit_ty (a := "list") (b := "int") (r := false) (by decide +kernel), kit_ty (a := "list") (b := "bool") (r := false) (by decide +kernel), kit_ty (a := "list") (b := "str") (r := false) (by decide +kernel), kitAny_cons (kit_ty (b := "list") (r := true) (by decide +kernel)) (fun z => nomatch z) fun _ => rfl⟩
    · exact ⟨_, .base (.tup h), kit_ty (a := "tuple") (b := "int") (r := false) (by decide +kernel), kit_ty (a := "tuple") (b := "bool") (r := false) (by decide +kernel), kit_ty (a := "tuple") (b := "str") (r := false) (by decide +kernel), kitAny_cons (kit_ty (b := "list") (r := false) (by decide +kernel)) (fun _ => kitAny_cons (kit_ty (b := "tuple") (r := true) (by decide +kernel)) (fun z => nomatch z) fun _ => rfl) fun z => nomatch z⟩
  | byt b => exact h.elim
  | flt b => exact h.elim
  | ty n => exact h.elim
end Mn
namespace L2
open PySem PySem.Spec PyProof.Rows
/-! ### d.update(o), both with keys that are ints and texts -/
def rUpdate : V → List V → Hp → VK → Prop := fun x vs H Q => ∃ d o kvs more, x = .ref d ∧ vs = [.ref o] ∧ H d = some (.dK kvs) ∧ H o = some (.dK more) ∧ d ≠ o ∧ kvs.length + more.length ≤ sizeLine ∧ Q .non (upd H d (.dK (mergeK kvs more)))
theorem mt_update {X : Cx} : MtM X "dict.update" rUpdate := by
  intro pins s σ H x vs v us Q I rx rv h
  obtain ⟨d, o, kvs, more, rfl, rfl, hd, ho, ne, hz, q⟩ := h
  cases rx
  obtain ⟨u, rfl, ru⟩ := rv.one
  cases ru
  obtain ⟨_, hd1, vs1, r1, d1⟩ := dk_of I.hok hd
  obtain ⟨_, hd2, vs2, r2, d2⟩ := dk_of I.hok ho
  refine call_meetsIn PySem.F.slot_dict_update d1.typeIs PySem.F.entry_dict_update (PySem.F.args_dict_update_2 _ _) (meets_dict_update (mixKind X.prog X.w) d o ne hd2) ⟨vs1, vs2, d1, d2, by rw [← r1.length, ← r2.length]; exact hz, fun h' e1 e2 hs => ?_⟩
  have he : ∃ q, h'.get? d = some q := let ⟨q, _, _, hq, _⟩ := e1; ⟨q, hq⟩
  refine ⟨.non, _, d_write I (by rw [hd]; exact True.intro) hs he (dk_new ?_ hd1 (r2.merge r1) e1), rfl, q⟩
  exact Nat.le_trans (length_mergeK more kvs) hz
/-! ### str(o) by the class's own __str__ -/
theorem call_strO {X : Cx} {C f : Addr} {fd : FuncData} {ps : List Str} {sp : Sp} {k j : Nat} (F : FnOk X.prog X.w X.K X.mg X.base (L2.CX X.prog X.w) k f fd ps sp) (hb : Binds X.K fd ps []) (hs : PySem.W.findIn X.K (.ref C) "__str__" = some (some (.ref f))) (hf : PySem.W.isFn X.K (.ref f) = true) (hr : Room j X.A) (hk : k + 2 ≤ j) :
    CallR X (.type "str") (fun xs H Q => ∃ a dx fs, xs = [.ref a] ∧ H a = some (.ins C dx fs) ∧ sp [.ref a] H (fun v H1 => (∃ t, v = .str t) ∧ Q v H1) E0) := by
  intro pins s σ H xs us Q I rv h
  obtain ⟨a, dx, fs, rfl, ha, q⟩ := h
  obtain ⟨u, rfl, ru⟩ := rv.one
  cases ru
  obtain ⟨mA, O, r, _, _, _⟩ := ins_get I.hok ha
  obtain ⟨od, hod, _⟩ := lookIn_ns O.ns
  have hr2 : Room k X.A.in1.in1 := Room.in1 (Room.in1 (hr.mono hk))
  refine PySem.W.kso_call (x := a) (C := C) (ox := PySem.W.instObj C dx) (od := some od) hr2.units0 I.kIn ⟨O.obj, rfl, rfl, hod⟩ hs hf ?_
  refine wpAny_call (codeAny_mono (F.run X.A.in1.in1 X.stack s H ⟨[.ref a], []⟩ [.ref a] [.ref a] _ E0 hr2 I.env0.in1.in1 (hb s [.ref a] I.kIn (F.len _ _ _ _ q)) (.cons rfl .nil) q) fun r s' hq => ?_)
  cases r with
  | error e =>
    obtain ⟨_, _, _, _, _, _, _, _, _, _, _, _, z⟩ := hq
    exact z.elim
  | ok fl =>
    cases fl with
    | ret u =>
      obtain ⟨v, H', I3, rv, ⟨t, ev⟩, q3⟩ := I.after hq
      subst ev
      obtain ⟨tk, eu⟩ := (show ∃ t', u = Value.str t t' from rv)
      subst eu
      exact ⟨.str t, H', I3, ⟨tk, rfl⟩, q3⟩
    | next => exact False.elim hq
    | brk => exact False.elim hq
    | cont => exact False.elim hq
/-! ### a def with **kw, called by keywords -/
section
variable {prog : Program} {w : World} {A : Around} {E : Value → Shared → Prop}
theorem nsSet_dict {s : Shared} {d : Addr} {es : List DictEntry} {n : Nat} {k : Str} {v : Value} {Q : Unit → Shared → Prop} (D : s.heap.get? d = some (PySem.W.dictOf es n))
    (hs : ∀ e ∈ es, e.key.isStr k = false) (hr : ∀ e ∈ es, e.refKey = false)
    (h : ∀ h', Heap.SameBut d s.heap h' → h'.get? d = some (PySem.W.dictOf (es ++ [⟨PyData.keyHash w.params k, .str k s.toks, v⟩]) (n + 1)) → Q () { s with heap := h', toks := s.toks + 1 }) :
    wpAny (model prog w) A (nsSet d k v) Q E s := by
  have e1 : es.any (·.key.isStr k) = false := by
    cases q : es.any (·.key.isStr k) with
    | false => rfl
    | true => obtain ⟨e, he, z⟩ := List.any_eq_true.mp q; rw [hs e he] at z; cases z
  have e2 : es.any (·.refKey) = false := by
    cases q : es.any (·.refKey) with
    | false => rfl
    | true => obtain ⟨e, he, z⟩ := List.any_eq_true.mp q; rw [hr e he] at z; cases z
  have e : Obj.putName k (PyData.keyHash w.params k) (.str k s.toks) v (PySem.W.dictOf es n) = PySem.W.dictOf (es ++ [⟨PyData.keyHash w.params k, .str k s.toks, v⟩]) (n + 1) := by
    rw [PySem.W.putName_dict, PySem.W.putL_new hs]
    show PySem.W.dictOf _ (if es.any (·.key.isStr k) then n else n + 1) = _
    rw [e1, if_neg Bool.false_ne_true]
  have c : aRefKeyMayBeTheName k es.toArray = false := by
    rw [aRefKeyMayBeTheName_at, ← Array.any_toList, ← Array.any_toList]
    show (!es.any (·.key.isStr k) && es.any (·.refKey)) = false
    rw [e2, Bool.and_false]
  unfold nsSet
  refine wpAny_bind (wpAny_bind (wpAny_askSetting (wpAny_pure (wpAny_bind (wpAny_mkText (wpAny_bind (wpAny_loadPart D ?_)))))))
  dsimp only
  rw [c]
  refine wpAny_updatePart D (h _ (Heap.SameBut.update ..) ?_)
  show (s.heap.update d (Obj.putName k (PyData.keyHash w.params k) (.str k s.toks) v)).get? d = _
  rw [Heap.get?_update_self _ D (by rw [e] <;> rfl), e]
theorem kw_fill {d : Addr} {Q : PUnit → Shared → Prop} : ∀ (ex : List (Str × Value)) (s : Shared) (es : List DictEntry) (n : Nat), s.heap.get? d = some (PySem.W.dictOf es n) →
    (∀ e ∈ es, ∀ x ∈ ex, e.key.isStr x.1 = false) → (∀ e ∈ es, e.refKey = false) → (ex.map (·.1)).Nodup →
    (∀ h', Heap.SameBut d s.heap h' → h'.get? d = some (PySem.W.dictOf (es ++ PySem.W.kwEs w.params s.toks ex) (n + ex.length)) → Q ⟨⟩ { s with heap := h', toks := s.toks + ex.length }) →
    wpAny (model prog w) A (forIn ex PUnit.unit fun x _ => (nsSet d x.1 x.2 >>= fun _ => pure (ForInStep.yield PUnit.unit))) Q E s
  | [], s, es, n, D, _, _, _, h => by
    rw [List.forIn_nil]
    refine wpAny_pure (h s.heap (Heap.SameBut.refl _ _) ?_)
    show s.heap.get? d = some (PySem.W.dictOf (es ++ []) n)
    rw [List.append_nil]
    exact D
  | x :: r, s, es, n, D, hs, hr, hn, h => by
    obtain ⟨hn1, hn2⟩ := List.nodup_cons.mp (show (x.1 :: r.map (·.1)).Nodup from hn)
    rw [List.forIn_cons]
    refine wpAny_bind (wpAny_bind (nsSet_dict D (fun e he => hs e he x (.head _)) hr fun h' S1 D' => wpAny_pure ?_))
    show wpAny (model prog w) A (forIn r PUnit.unit fun x _ => (nsSet d x.1 x.2 >>= fun _ => pure (ForInStep.yield PUnit.unit))) Q E { s with heap := h', toks := s.toks + 1 }
    refine kw_fill r { s with heap := h', toks := s.toks + 1 } _ _ D' (fun e he y hy => ?_) (fun e he => ?_) hn2 fun h'' S2 D'' => ?_
    · rcases List.mem_append.mp he with he | he
      · exact hs e he y (.tail _ hy)
      · obtain rfl := List.mem_singleton.mp he
        show (x.1 == y.1) = false
        exact beq_eq_false_iff_ne.mpr fun q => hn1 (by rw [q]; exact List.mem_map_of_mem hy)
    · rcases List.mem_append.mp he with he | he
      · exact hr e he
      · obtain rfl := List.mem_singleton.mp he
        rfl
    · have z := h h'' ⟨S2.1.trans S1.1, fun b hb => (S2.2 b hb).trans (S1.2 b hb)⟩ (by
        rw [List.append_assoc] at D''
        have e : n + (x :: r).length = n + 1 + r.length := by rw [List.length_cons]; omega
        rw [e]
        exact D'')
      have e : s.toks + (x :: r).length = s.toks + 1 + r.length := by rw [List.length_cons]; omega
      rw [e] at z
      exact z
theorem kw_dict {h : Heap} {d : Addr} {n t : Nat} {ks : List Str} {zs : List V} {ws : List Value} (D : h.get? d = some (PySem.W.dictOf (PySem.W.kwEs w.params t (ks.zip ws)) n)) (hn : ks.Nodup) (hl : ws.length = ks.length) (rv : Vals zs ws) :
    ∃ vs, KV ((ks.map Sum.inr).zip zs) vs ∧ h.DictOf (mixKind prog w) d vs := by
  have key : ∀ (ks : List Str) (zs : List V) (ws : List Value) (t : Nat), Vals zs ws → ws.length = ks.length → ∃ vs : List (Key × Value), KV ((ks.map Sum.inr).zip zs) vs ∧ vs.map (·.1) = ks.map Sum.inr ∧ Pairs (mixKind prog w) (PySem.W.kwEs w.params t (ks.zip ws)) vs ∧
      ∀ e ∈ PySem.W.kwEs w.params t (ks.zip ws), ∃ k, (mixKind prog w).is k e.key = true ∧ e.hash = (mixKind prog w).hash k := by
    intro ks
    induction ks with
    | nil =>
      intro zs ws t r hl
      cases ws with
      | nil => exact ⟨[], by cases r; exact .nil, rfl, .nil, fun e he => by cases he⟩
      | cons a b => cases hl
    | cons k ks ih =>
      intro zs ws t r hl
      cases r with
      | nil => cases hl
      | @cons z u zs ws hz hr =>
        obtain ⟨vs, a1, a2, a3, a4⟩ := ih zs ws (t + 1) hr (Nat.succ.inj hl)
        refine ⟨(.inr k, u) :: vs, .cons ⟨rfl, hz⟩ a1, by rw [List.map_cons, List.map_cons, a2], .cons (mixKind_str prog w k t) rfl a3, fun e he => ?_⟩
        rcases List.mem_cons.mp he with rfl | he
        · exact ⟨.inr k, mixKind_str prog w k t, rfl⟩
        · exact a4 e he
  obtain ⟨vs, a1, a2, a3, a4⟩ := key ks zs ws t rv hl
  refine ⟨vs, a1, _, _, _, D, ⟨rfl, rfl, rfl⟩, rfl, fun e he => a4 e (by simpa using he), by simpa using a3, ?_⟩
  rw [a2]
  exact List.pairwise_map.mpr (hn.imp fun h q => h (Sum.inr.inj q))
end

/-- a promise by positional values and those of keywords, however they are bound -/
def FnKw (P : Program) (w : World) (K : PySem.W.Frag) (mg : Str → Option Value) (base : Heap) (CX : CXT) (k : Nat) (f : Addr) (ks : List Str) (sp : Sp) : Prop :=
  ∀ (A : Around) (outer : List Env) (s : Shared) (H : Hp) (us ws : List Value) (vs zs : List V) (Q : VK) (E : XK), Room k A → Env0 P w K mg base A outer s H → Vals vs us → Vals zs ws → zs.length = ks.length → sp (vs ++ zs) H Q E →
    codeAny (model P w) A (.call (.ref f) ⟨us, ks.zip ws⟩) (CR CX outer P w H s Q E) s
section
variable {P : Program} {w : World} {K : PySem.W.Frag} {mg : Str → Option Value} {base : Heap} {A : Around} {outer : List Env} {s : Shared} {H : Hp}
theorem env0_new {h' : Heap} {t : Nat} {u : HO} (e0 : Env0 P w K mg base A outer s H) (kp : ∀ b x, s.heap.get? b = some x → h'.get? b = some x) (sz : s.heap.objs.size ≤ h'.objs.size) (new : ObjOk P w (upd H s.heap.objs.size u) h' s.heap.objs.size u) :
    Env0 P w K mg base A outer { s with heap := h', toks := t } (upd H s.heap.objs.size u) := by
  refine ⟨e0.frames, e0.mod, fun b x e => ⟨kp b x (e0.bs b x e).1, ?_⟩, Nat.le_trans e0.bsz sz, Heap.FunFrames.of_keeps (fun b x e _ => ⟨x, kp b x e, rfl⟩) e0.funs, fun b hb => ?_, e0.hok.laid kp (Nat.le_refl _) new, e0.bare⟩
  · rw [upd_ne (Nat.ne_of_lt (Heap.lt_size (e0.bs b x e).1))]
    exact (e0.bs b x e).2
  · obtain ⟨_, x, hx, _⟩ := e0.funs.mem hb
    rw [upd_ne (Nat.ne_of_lt (Heap.lt_size hx))]
    exact e0.frf b hb
end
section
variable {CX : CXT} {P : Program} {w : World} {K : PySem.W.Frag} {mg : Str → Option Value} {base : Heap} {k : Nat} {f : Addr} {name qual : Str} {params : Arguments} {body : List Stmt} {scope : Scope} {dV kV doc pm cdv ct oc : Value} {an od : Option Addr}
  {osl : Array (Option Value)} {N ps : List Str} {sp : Sp}
/-- def f(a, .., **d), called by keywords that are none of its own -/
theorem fn_kw {pd : Str} {ks : List Str} (lk : K.lookup f = some ⟨oc, od, .func (PySem.W.fnOf name qual params body scope dV kV doc pm an cdv ct), osl⟩) (hcd : PySem.W.codeIn K cdv qual = true) (S : FnScope N (ps ++ [pd]) scope) (hCX : StX.CXUp CX) (hn : ks.Nodup) (hkz : ks.length ≤ 1000)
    (hb : ∀ us ws : List Value, us.length = ps.length → ws.length = ks.length → bindArgs (PySem.W.fnOf name qual params body scope dV kV doc pm an cdv ct) ⟨us, ks.zip ws⟩ =
      ((alloc ({ cls := .type "dict", data := .dict #[] } : Obj) : Sem Addr) >>= fun d => forIn (ks.zip ws) PUnit.unit (fun x _ => (nsSet d x.1 x.2 >>= fun _ => pure (ForInStep.yield PUnit.unit))) >>= fun _ => pure (ps.zip us ++ [(pd, Value.ref d)])))
    (hbody : ∀ (A : Around) (outer : List Env) (s : Shared) (H : Hp) (vs : List V) (Q : VK) (E : XK), Room k (A.deeper (envOfC qual scope s.heap.objs.size f cdv)) → sp vs H Q E →
      ∃ t, PSs (cxOf CX P w K mg base N qual scope f cdv A outer s H E) body t ∧ t { nx := fun _ H' => Q .non H', rt := Q } (start N vs) H) :
    FnKw P w K mg base CX (k + 1) f ks (fun vs H Q E => ∃ ws zs, vs = ws ++ zs ∧ ws.length = ps.length ∧ zs.length = ks.length ∧ ∀ d, H d = Option.none → sp (ws ++ [V.ref d]) (upd H d (.dK ((ks.map Sum.inr).zip zs))) Q E) := by
  intro A outer s H us ws vs zs Q E hr e0 r rz hlz hsp
  obtain ⟨vs', zs', ev, hl, hl2, hq⟩ := hsp
  obtain ⟨rfl, rfl⟩ : vs = vs' ∧ zs = zs' := by
    have e1 : (vs ++ zs).length = (vs' ++ zs').length := by rw [ev]
    rw [List.length_append, List.length_append] at e1
    exact List.append_inj ev (by omega)
  have hn0 : H s.heap.objs.size = Option.none := e0.hok.fresh (Nat.le_refl _)
  have hl1 : us.length = ps.length := by rw [← r.length]; exact hl
  have hl3 : ws.length = ks.length := by rw [← rz.length]; exact hl2
  refine StX.run_bnd lk hcd S hr e0 (G := fun xs H2 => ∃ d, H d = Option.none ∧ xs = vs ++ [V.ref d] ∧ H2 = upd H d (.dK ((ks.map Sum.inr).zip zs))) (fun A' Ex Q' h => ?_) fun s2 H2 xs ⟨d, hd, ex, eH⟩ hr' => ?_
  · rw [hb us ws hl1 hl3]
    have D0 : (s.heap.push ({ cls := .type "dict", data := .dict #[] } : Obj)).get? s.heap.objs.size = some (PySem.W.dictOf [] 0) := Heap.get?_push_size _ rfl
    refine wpAny_bind (wpAny_alloc (wpAny_bind (kw_fill (ks.zip ws) _ [] 0 D0 (by simp) (by simp) ?_ fun h' S1 D' => wpAny_pure ?_)))
    · rw [List.map_fst_zip (by omega)]
      exact hn
    have kp : ∀ b o, s.heap.get? b = some o → h'.get? b = some o := fun b o e => by
      rw [S1.2 b (Nat.ne_of_lt (Heap.lt_size e))]
      exact Heap.get?_push_of_some _ e
    have sz : s.heap.objs.size ≤ h'.objs.size := by
      rw [S1.1, Heap.size_push]
      exact Nat.le_succ _
    obtain ⟨xs, rel, dd⟩ := kw_dict (prog := P) (n := 0 + (ks.zip ws).length) D' hn hl3 rz
    have new : ObjOk P w (upd H s.heap.objs.size (.dK ((ks.map Sum.inr).zip zs))) h' s.heap.objs.size (.dK ((ks.map Sum.inr).zip zs)) := by
      refine dk_new ?_ (beq_eq_false_iff_ne.mpr (Nat.ne_of_gt (StX.env0_big e0))) rel dd
      rw [List.length_zip, List.length_map]
      exact Nat.le_trans (Nat.min_le_left _ _) (Nat.le_trans hkz (by rw [sizeLine_eq]; decide))
    have un : Un (frs outer) [] H (upd H s.heap.objs.size (.dK ((ks.map Sum.inr).zip zs))) s.heap h' := Un.laid kp (Nat.le_refl _) hn0
    have z := h { s with heap := h', toks := s.toks + (ks.zip ws).length } _ (vs ++ [V.ref s.heap.objs.size]) (us ++ [Value.ref s.heap.objs.size]) (env0_new e0 kp sz new) un rfl (fun e s' => hCX outer s H _ _ E e s' un kp rfl) (r.append (.cons rfl .nil))
      (by rw [List.length_append, List.length_append, hl] <;> rfl) ⟨_, hn0, rfl, rfl⟩
    rw [List.zip_append hl1.symm] at z
    exact z
  · subst ex eH
    exact hbody A outer s2 _ _ Q E hr' (hq d hd)
end
def tMethKw (C : Addr) (m : Str) (sp : Sp) (E : XK) (ta : TE) (tk : TA) : TE := fun σ H Q => ta σ H fun x H1 => ∃ a dx fs, x = .ref a ∧ H1 a = some (.ins C dx fs) ∧ fs.lookup m = none ∧ tk σ H1 fun zs H2 => sp (V.ref a :: zs) H2 Q E
section
variable {X : Cx} {CX : CXT} {k : Nat} {C g : Addr} {m : Str} {ks : List Str} {sp : Sp} {E : XK} {o : Expr} {ta : TE} {tk : TA} {apos pos : Pos} {kws : List Keyword}
/-- o.m(k = v, ..) -/
theorem pe_methKw {pl : Sem Bool} (he : PE X o ta) (c : Cls X.K C) (hm : Meth X.K C m g) (F : FnKw X.prog X.w X.K X.mg X.base CX k g ks sp) (hlen : ∀ vs H Q E, sp vs H Q E → vs.length = ks.length + 1) (hr : Room k X.A) (hx : Passes CX X E) (hkw : PK X kws tk)
    (hall : (backToKw pos (keywordEach kws X.env)).all (·.1.isSome) = true := by rfl) (hks : (backToKw pos (keywordEach kws X.env)).filterMap (·.1) = ks := by rfl)
    (hpl : ((backTo pos (starEach [] X.env)).any (·.1) || (backToKw pos (keywordEach kws X.env)).any (·.1.isNone)) = false := by rfl)
    (ht : eval (.Call (.Attribute o m apos) [] kws pos) X.env = (do
      let ov ← eval o X.env
      standAt apos.atName
      let (f, first) ← holding [ov] (getMethod ov m pl)
      callWith pos f first (backTo pos (starEach [] X.env)) (backToKw pos (keywordEach kws X.env))) := by rfl) :
    PE X (.Call (.Attribute o m apos) [] kws pos) (tMethKw C m sp E ta tk) := by
  refine ⟨fun pins s σ H Q I h => ?_⟩
  refine PySem.W.methodCall_KW (pl := pl) (thn (he.run pins s σ H _ I h) fun u s1 ⟨x, H1, I1, rx, a, dx, fs, ex, ea, l, q⟩ => ?_) ht
  subst ex
  obtain rfl : u = Value.ref a := rx
  refine getmeth_ok I1 ea c hm l ?_
  refine PySem.W.callWith_KW0 (first := [.ref a]) (h₀ := X.base) I1.ok.mod.kin hm.kp hall (thn (hkw.run pos pins s1 σ H1 _ I1 q) fun ws s2 ⟨zs, H2, I2, rz, q2⟩ => ⟨I2.kIn, ?_⟩) hpl
  rw [hks]
  have l2 : zs.length = ks.length := by
    have z := hlen _ _ _ _ q2
    rw [List.length_cons] at z
    omega
  refine wpAny_call (codeAny_mono (F X.A X.stack s2 H2 [.ref a] ws [.ref a] zs Q E hr I2.env0 (.cons rfl .nil) rz l2 q2) fun r s' hq => ?_)
  cases r with
  | error e => exact hx pins σ H2 s2 e s' I2 hq
  | ok fl =>
    cases fl with
    | ret u => exact I2.after hq
    | next => exact False.elim hq
    | brk => exact False.elim hq
    | cont => exact False.elim hq
end
end L2
namespace Mn
open PySem PySem.Spec PyProof.Rows L2
theorem house_text (a b t : Str) : Txt.join " " ["keep", a, "wait", b, t] = (((((Str.empty ++ "keep ") ++ a) ++ " wait ") ++ b) ++ " ") ++ t := by
  rw [TL.join_eq]
  show ("keep" : Str) ++ " " ++ (a ++ " " ++ (("wait" : Str) ++ " " ++ (b ++ " " ++ t))) = _
  have e1 : Str.empty ++ ("keep " : Str) = ("keep" : Str) ++ (" " : Str) := by decide +kernel
  have e2 : (" wait " : Str) = (" " : Str) ++ (("wait" : Str) ++ (" " : Str)) := by decide +kernel
  rw [e1, e2]
  simp only [Str.append_assoc]
theorem join_len (sep : Str) (ws : List Str) : (Txt.join sep ws).length ≤ (ws.map (·.length)).sum + ws.length * sep.length := by
  rw [TL.join_eq]
  induction ws with
  | nil => exact Nat.zero_le _
  | cons x r ih =>
    cases r with
    | nil =>
      show x.length ≤ _
      simp only [List.map_cons, List.sum_cons]
      omega
    | cons y r =>
      show (x ++ sep ++ Str.join sep (y :: r)).length ≤ _
      have e : (x ++ sep ++ Str.join sep (y :: r)).length = x.length + sep.length + (Str.join sep (y :: r)).length := by simp [Str.length_append]
      rw [e]
      simp only [List.map_cons, List.sum_cons, List.length_cons] at ih ⊢
      rw [Nat.add_mul, Nat.one_mul]
      omega
end Mn
namespace Mn
open PySem PySem.Spec PyProof.Rows L2
/-- a class of the program whose things are asked for their type -/
structure OwnC (K : PySem.W.Frag) (C : Addr) : Prop where
  cl : Cls K C
  ha : PySem.W.findIn K (.ref C) "__class__" = some (some (.builtin "object.__class__"))
  hn : PySem.W.specialIn K (.builtin "object.__class__") "__get__" = some (some (.builtin "getset_descriptor.__get__"))
  ht : PySem.W.takesIn K (.builtin "object.__class__") = some true
  hm : PySem.W.mroIn K C (.type "object") = some true
theorem OwnC.ty {K : PySem.W.Frag} {C : Addr} (o : OwnC K C) {H : Hp} {a dx : Addr} {fs : List (Str × V)} (e : H a = some (.ins C dx fs)) : TyX K H (.ref a) (.ref C) := .base (.ins e o.cl o.ha o.hn o.ht o.hm)
/-! ### texts of rules and houses -/
def strT : V → Str
  | .str s => s
  | .int i => Str.ofString (toString i)
  | _ => Str.empty
def moreN (h s : Bool) : Nat → List Str
  | 0 => []
  | 1 => if h then ["holds"] else []
  | _ => (if h then [("holds" : Str)] else []) ++ (if s then [("shares" : Str)] else [])
def ruleText (a w : V) (h s : Bool) : Str := Txt.join " " ([("asks" : Str), strT a, ("by" : Str), strT w] ++ moreN h s 2)
def houseText (k w : Int) (t : Str) : Str := (((((Str.empty ++ "keep ") ++ Str.ofString (toString k)) ++ " wait ") ++ Str.ofString (toString w)) ++ " ") ++ t
def okAsks : V → Bool
  | .str s => inV (.str s) [.str "never", .str "always"]
  | .int i => decide (1 ≤ i)
  | _ => false
def okWay : V → Bool
  | .str s => inV (.str s) [.str "direct", .str "store", .str "either"]
  | _ => false
theorem okWay_eq {a : V} : okWay a = (isS a && inV a [.str "direct", .str "store", .str "either"]) := by
  cases a <;> rfl
theorem inV_str {s : Str} {ws : List Str} (h : inV (.str s) (ws.map V.str) = true) : s ∈ ws := by
  induction ws with
  | nil => cases h
  | cons x r ih =>
    have h' : (eqV (.str x) (.str s) || inV (.str s) (r.map V.str)) = true := h
    rcases Bool.or_eq_true_iff.mp h' with z | z
    · have z' : (x == s) = true := z
      rw [beq_iff_eq] at z'
      exact z' ▸ List.mem_cons_self
    · exact List.mem_cons_of_mem _ (ih z)
theorem strT_asks {a : V} (h : okAsks a = true) {H : Hp} (hA : AnyV H a) : (strT a).length ≤ 10 := by
  cases a with
  | int i =>
    have hi : i.natAbs ≤ 1000 := hA
    exact str_int_len (by omega)
  | str s =>
    have h' : inV (.str s) [.str "never", .str "always"] = true := h
    have z := inV_str (ws := ["never", "always"]) h'
    simp only [List.mem_cons, List.not_mem_nil, or_false] at z
    rcases z with rfl | rfl <;> decide
  | _ => cases h
theorem strT_way {a : V} (h : okWay a = true) : (strT a).length ≤ 10 := by
  cases a with
  | str s =>
    have h' : inV (.str s) [.str "direct", .str "store", .str "either"] = true := h
    have z := inV_str (ws := ["direct", "store", "either"]) h'
    simp only [List.mem_cons, List.not_mem_nil, or_false] at z
    rcases z with rfl | rfl | rfl <;> decide
  | _ => cases h
theorem moreN_len (h s : Bool) (i : Nat) : (moreN h s i).length ≤ 2 ∧ ((moreN h s i).map (·.length)).sum ≤ 11 := by
  have key : ∀ h s : Bool, (∀ i : Fin 3, (moreN h s i).length ≤ 2 ∧ ((moreN h s i).map (·.length)).sum ≤ 11) := by decide
  match i with
  | 0 => exact key h s 0
  | 1 => exact key h s 1
  | i + 2 => exact key h s 2
theorem ruleText_len {a w : V} (h1 : okAsks a = true) {H : Hp} (hA : AnyV H a) (h2 : okWay w = true) (h s : Bool) : (ruleText a w h s).length ≤ 50 := by
  have l1 := strT_asks h1 hA
  have l2 := strT_way h2
  have l3 := moreN_len h s 2
  refine Nat.le_trans (join_len _ _) ?_
  have e4 : (Str.ofString "asks").length = 4 := rfl
  have e2 : (Str.ofString "by").length = 2 := rfl
  have e1 : (Str.ofString " ").length = 1 := rfl
  simp only [List.cons_append, List.nil_append, List.map_cons, List.sum_cons, List.length_cons, e4, e2, e1]
  omega
/-- one of two new lists -/
theorem iteNewL {b : Bool} {xs ys : List V} {H : Hp} {Q : VK} (hx : xs.length ≤ sizeLine) (hy : ys.length ≤ sizeLine) (h : ∀ p H', H p = none → Same H H' → H' p = some (.lst (if b then xs else ys)) → Q (.ref p) H') :
    if b = true then (xs.length ≤ sizeLine ∧ NewL xs H Q) else (ys.length ≤ sizeLine ∧ NewL ys H Q) := by
  cases b with
  | true => exact ⟨hx, fun p H' n s e => h p H' n s e⟩
  | false => exact ⟨hy, fun p H' n s e => h p H' n s e⟩
end Mn
namespace K05
open PySem PySem.Spec PyProof.Rows L2 Mn StX
def topS (i : Nat) : Stmt := PySem.Challenge.pw_movedname_k05_houses_refused.main.body.getD i (.Pass ⟨0, 0, 0, 0⟩)
/-- any value, lists nested n deep -/
def spAny (n : Int) : Sp := fun vs H Q _ => ∃ b, vs = [.ref b, .int n] ∧ BoxAt H b ∧ ∀ v H', Bx b H H' → AnyV H' v → Q v H'
def spNone : Sp := fun _ _ _ _ => False
def spDeep : Sp := fun vs H Q _ => ∃ b, vs = [.ref b] ∧ BoxAt H b ∧ ∀ v H', Bx b H H' → AnyV H' v → Q v H'
section
variable {P : Program} {w : World} {K : PySem.W.Frag} {mg : Str → Option Value} {base : Heap}
abbrev s_law_take : Stmt := topS 23
abbrev N_law_take : List Str := ["_law_box_here", "_law_many", "_law_digit", "_law_near"]
theorem sc_law_take : FnScope N_law_take ["_law_box_here", "_law_many"] (defScope s_law_take) := ⟨rfl, rfl, rfl, by decide +kernel, rfl, by decide +kernel, by decide +kernel⟩
theorem ok_take {f : Addr} {fd : FuncData} (F : At K mg "_law_take" s_law_take f fd) (T : TB mg) : FnOk P w K mg base (L2.CX P w) 1 f fd ["_law_box_here", "_law_many"] spTake := by
  refine F.fn.okX sc_law_take (fun vs H Q E h => ?_) (fun cdv A outer s H vs Q E hr h => ?_)
  · obtain ⟨b, n, rfl, _⟩ := h
    rfl
  · obtain ⟨b, n, rfl, n0, n1, ⟨w0, s0, c0, hb⟩, k⟩ := h
    refine ⟨_, (pss_cons (ps_if (pt_cmpR op_gt (pe_ix ix_list (pv 0) pe_int (fun _ _ => rfl)) pe_int (nomark _)) (pss_cons (ps_set (i := 2) sc_law_take.nd rfl (Or.inl rfl) (pe_op op_modN (pe_callTy call_int1 rfl T.b_int (by decide +kernel) (pa_cons (pe_ix ix_list (pv 0) pe_int (fun _ _ => rfl)) pa_nil)) (pv 1)))
  (pss_cons (ps_asg (pe_op op_fdivN (pe_ix ix_list (pv 0) pe_int (fun _ _ => rfl)) (pv 1)) (pg_sub (pv 0) pe_int set_list))
  (pss_one (ps_ret (pv 2))))) pss_nil)
  (pss_cons (ps_asg (pe_op op_add (pe_ix ix_list (pv 0) pe_int (fun _ _ => rfl)) pe_int) (pg_sub (pv 0) pe_int set_list))
  (pss_cons (ps_set (i := 3) sc_law_take.nd rfl (Or.inl rfl) (pe_op op_modN (pe_callTy call_int1 rfl T.b_int (by decide +kernel) (pa_cons (pe_op op_mul (pe_op op_add (pe_ix ix_list (pv 0) pe_int (fun _ _ => rfl)) (pe_op op_mul pe_int (pe_ix ix_list (pv 0) pe_int (fun _ _ => rfl)))) pe_int) pa_nil)) pe_int))
  (pss_cons (ps_asg (pe_op op_add (pe_op op_modN (pe_callTy call_int1 rfl T.b_int (by decide +kernel) (pa_cons (pe_op op_add (pe_op op_mul (pv 3) pe_int) pe_int) pa_nil)) pe_int) pe_int) (pg_sub (pv 0) pe_int set_list))
  (pss_one (ps_ret (pe_op op_modN (pe_callTy call_int1 rfl T.b_int (by decide +kernel) (pa_cons (pe_op op_fdivN (pe_op op_add (pe_op op_mul (pv 3) pe_int) (pe_ix ix_list (pv 0) pe_int (fun _ _ => rfl))) pe_int) pa_nil)) (pv 1)))))))), ?_⟩
    -- if box[0] > 0
    refine ⟨_, rfl, b, _, 0, _, rfl, rfl, SqL.of hb, rfl, _, _, rfl, rfl, _, rfl, ?_⟩
    refine ite2 (fun h0 => ?_) (fun h0 => ?_)
    · refine ⟨_, rfl, b, _, 0, _, rfl, rfl, SqL.of hb, rfl, .inl ⟨_, rfl, _, rfl, _, _, rfl, rfl, (by omega), ?_⟩⟩
      refine ⟨_, rfl, b, _, 0, _, rfl, rfl, SqL.of hb, rfl, _, rfl, _, _, rfl, rfl, ⟨by omega, by omega⟩, ?_⟩
      refine ⟨_, rfl, b, _, 0, 0, rfl, rfl, hb, rfl, ?_⟩
      refine ⟨_, rfl, ?_⟩
      exact k _ _ (Int.fmod_nonneg_of_pos _ n0) (Int.fmod_lt_of_pos _ n0) Bx.put
    · -- box[2] = box[2] + 1
      refine ⟨_, rfl, b, _, 2, _, rfl, rfl, SqL.of hb, rfl, _, _, rfl, rfl, _, rfl, _, _, 2, 2, rfl, rfl, hb, rfl, ?_⟩
      -- near
      refine ⟨_, rfl, b, _, 1, _, rfl, rfl, SqL.of upd_same, rfl, _, rfl, b, _, 2, _, rfl, rfl, SqL.of upd_same, rfl, _, _, rfl, rfl, .inl ⟨by decide, by decide⟩, _, _, rfl, rfl, _, _, rfl, rfl, .inr ⟨by decide, by decide⟩, .inl ⟨_, rfl, _, _, rfl, rfl, (by show (2147483647 : Int) ≠ 0; decide), ?_⟩⟩
      -- box[1]
      refine ⟨_, rfl, _, _, rfl, rfl, .inr ⟨by decide, by decide⟩, _, _, rfl, rfl, .inl ⟨_, rfl, _, _, rfl, rfl, (by show (2147483629 : Int) ≠ 0; decide), _, _, rfl, rfl, _, rfl, _, _, 1, 1, rfl, rfl, upd_same, rfl, ?_⟩⟩
      rw [upd_upd]
      refine ⟨_, rfl, _, _, rfl, rfl, .inr ⟨by decide, by decide⟩, _, rfl, b, _, 1, _, rfl, rfl, SqL.of upd_same, rfl, _, _, rfl, rfl, _, _, rfl, rfl, ⟨by decide, by decide⟩, .inl ⟨_, rfl, _, rfl, _, _, rfl, rfl, (by omega), ?_⟩⟩
      exact k _ _ (Int.fmod_nonneg_of_pos _ n0) (Int.fmod_lt_of_pos _ n0) Bx.put
abbrev s_law_pick : Stmt := topS 24
abbrev N_law_pick : List Str := ["_law_box_here", "_law_some"]
theorem sc_law_pick : FnScope N_law_pick ["_law_box_here", "_law_some"] (defScope s_law_pick) := ⟨rfl, rfl, rfl, by decide +kernel, rfl, by decide +kernel, by decide +kernel⟩
theorem ok_pick {f : Addr} {fd : FuncData} (F : At K mg "_law_pick" s_law_pick f fd) (T : TB mg) (G_law_take : Cl P w K mg base 1 "_law_take" spTake) : FnOk P w K mg base (L2.CX P w) 2 f fd ["_law_box_here", "_law_some"] (spPick K) := by
  refine F.fn.okX sc_law_pick (fun vs H Q E h => ?_) (fun cdv A outer s H vs Q E hr h => ?_)
  · obtain ⟨b, l, xs, rfl, _⟩ := h
    rfl
  · obtain ⟨b, l, xs, rfl, hb, hn, hl, x0, x1, k⟩ := h
    refine ⟨_, (pss_one (ps_ret (pe_ix ix_list (pv 1) (pe_k0 (G_law_take) hr (by omega) rfl (pa_cons (pv 0) (pa_cons (pe_callB call_len rfl T.b_len (by decide +kernel) (pa_cons (pv 1) pa_nil)) pa_nil))) (fun _ _ => rfl)))), ?_⟩
    refine ⟨_, rfl, _, rfl, _, rfl, _, xs.length, rfl, .inl ⟨_, hl, rfl⟩, b, _, rfl, by omega, by omega, hb, fun d H' d0 d1 bx => ?_⟩
    obtain ⟨j, rfl⟩ := Int.eq_ofNat_of_zero_le d0
    have hj : j < xs.length := by omega
    refine ⟨l, xs, j, xs[j], rfl, rfl, bx.lst hn hl, atI_nat (List.getElem?_eq_getElem hj), ?_⟩
    exact k j _ H' (List.getElem?_eq_getElem hj) bx
abbrev s_law_box : Stmt := topS 22
abbrev N_law_box : List Str := ["_law_script", "_law_k", "_law_cell", "_law_seed", "_law_wide"]
theorem sc_law_box : FnScope N_law_box ["_law_script", "_law_k"] (defScope s_law_box) := ⟨rfl, rfl, rfl, by decide +kernel, rfl, by decide +kernel, by decide +kernel⟩
theorem at_fmod {n : Nat} (k : Int) (h : 0 < n) : ∃ j : Nat, j < n ∧ k.fmod (n : Int) = (j : Int) := by
  have h1 := Int.fmod_nonneg_of_pos k (b := (n : Int)) (by omega)
  have h2 := Int.fmod_lt_of_pos k (b := (n : Int)) (by omega)
  obtain ⟨j, e⟩ := Int.eq_ofNat_of_zero_le h1
  exact ⟨j, by omega, e⟩
theorem ok_box {f : Addr} {fd : FuncData} (F : At K mg "_law_box" s_law_box f fd) (T : TB mg) : FnOk P w K mg base (L2.CX P w) 1 f fd ["_law_script", "_law_k"] (spBox K) := by
  refine F.fn.okX sc_law_box (fun vs H Q E h => ?_) (fun cdv A outer s H vs Q E hr h => ?_)
  · obtain ⟨a, ns, k, rfl, _⟩ := h
    rfl
  · obtain ⟨a, ns, k, rfl, hS, hl, k0, k1, kQ⟩ := h
    obtain ⟨j, rfl⟩ := Int.eq_ofNat_of_zero_le k0
    refine ⟨_, (pss_cons (ps_set (i := 2) sc_law_box.nd rfl (Or.inl rfl) (pe_op op_add (pe_op op_mul pe_int (pv 1)) pe_int))
  (Evl.pss_cut (ps_if (pt_cmpR op_lt (pv 1) (pe_callB call_len rfl T.b_len (by decide +kernel) (pa_cons (pv 0) pa_nil)) (nomark _)) (pss_one (ps_set (i := 2) sc_law_box.nd rfl (Or.inl rfl) (pe_callB call_abs rfl T.b_abs (by decide +kernel) (pa_cons (pe_callTy call_int1 rfl T.b_int (by decide +kernel) (pa_cons (pe_ix ix_list (pv 0) (pv 1) (fun _ _ => rfl)) pa_nil)) pa_nil)))) (pss_one (ps_if (pt_cmpR op_gt (pe_callB call_len rfl T.b_len (by decide +kernel) (pa_cons (pv 0) pa_nil)) pe_int (nomark _)) (pss_one (ps_set (i := 2) sc_law_box.nd rfl (Or.inl rfl) (pe_op op_add (pv 2) (pe_op op_mul (pe_op op_modN (pe_callTy call_int1 rfl T.b_int (by decide +kernel) (pa_cons (pe_ix ix_list (pv 0) (pe_op op_modN (pe_callTy call_int1 rfl T.b_int (by decide +kernel) (pa_cons (pv 1) pa_nil)) (pe_callB call_len rfl T.b_len (by decide +kernel) (pa_cons (pv 0) pa_nil))) (fun _ _ => rfl)) pa_nil)) pe_int) pe_int)))) pss_nil)))
  (pss_cons (ps_set (i := 3) sc_law_box.nd rfl (Or.inl rfl) (pe_op op_add (pe_op op_modN (pe_callTy call_int1 rfl T.b_int (by decide +kernel) (pa_cons (pe_op op_add (pe_op op_add (pe_op op_mul (pe_op op_modN (pe_callTy call_int1 rfl T.b_int (by decide +kernel) (pa_cons (pv 2) pa_nil)) pe_int) pe_int) (pe_op op_mul pe_int (pv 1))) pe_int) pa_nil)) pe_int) pe_int))
  (pss_cons (ps_set (i := 4) sc_law_box.nd rfl (Or.inl rfl) (pe_ifExp (pt_cmpR op_ge (pv 2) (pe_op op_pow pe_int pe_int) (nomark _)) (pv 2) pe_int))
  (pss_one (ps_ret (pe_lstN (pa_cons (pv 4) (pa_cons (pv 3) (pa_cons pe_int pa_nil)))))))))), ?_⟩
    refine ⟨_, rfl, _, _, rfl, rfl, .inl ⟨by decide, by decide⟩, _, _, rfl, rfl, ?_⟩
    refine ⟨fun σ H' => H' = H ∧ ∃ c : Int, σ = [some (.ref a), some (.int j), some (.int c), none, none], ?_, ?_⟩
    · refine ⟨_, rfl, _, rfl, _, _, rfl, .inl ⟨_, hS, rfl⟩, _, _, rfl, rfl, _, rfl, ?_⟩
      refine iteB (fun e => ?_) (fun e => ?_)
      · have hj : j < ns.length := by
          have z := of_decide_eq_true e
          rw [List.length_map] at z
          omega
        exact ⟨_, rfl, _, rfl, a, _, j, .int ns[j], rfl, rfl, hS, atI_nat (by rw [List.getElem?_map, List.getElem?_eq_getElem hj]; rfl), .inl ⟨_, rfl, _, rfl, rfl, _, rfl⟩⟩
      · refine ⟨_, rfl, _, _, rfl, .inl ⟨_, hS, rfl⟩, _, _, rfl, rfl, _, rfl, ?_⟩
        refine iteB (fun e => ?_) (fun e => ?_)
        · have hn : 0 < ns.length := by
            have z := of_decide_eq_true e
            rw [List.length_map] at z
            omega
          obtain ⟨i, hi, ei⟩ := at_fmod (j : Int) hn
          refine ⟨_, rfl, _, rfl, _, rfl, .inl ⟨_, rfl, _, rfl, _, _, rfl, .inl ⟨_, hS, rfl⟩, _, _, rfl, rfl, ?_, ?_⟩⟩
          · rw [List.length_map]; omega
          · refine ⟨a, _, (i : Int), .int ns[i], rfl, by rw [List.length_map]; exact congrArg V.int ei, hS, atI_nat (by rw [List.getElem?_map, List.getElem?_eq_getElem hi]; rfl), .inl ⟨_, rfl, _, _, rfl, rfl, (by show (2147483629 : Int) ≠ 0; decide), _, _, rfl, rfl, .inr ⟨by decide, by decide⟩, _, _, rfl, rfl, rfl, _, rfl⟩⟩
        · exact ⟨rfl, _, rfl⟩
    · rintro σ H' ⟨rfl, c, rfl⟩
      refine ⟨_, rfl, .inl ⟨_, rfl, _, _, rfl, rfl, (by show (2147483629 : Int) ≠ 0; decide), _, _, rfl, rfl, .inr ⟨by decide, by decide⟩, _, rfl, _, _, rfl, rfl, .inl ⟨by decide, by decide⟩, _, _, rfl, rfl, _, _, rfl, rfl, .inl ⟨_, rfl, _, _, rfl, rfl, (by show (2147483629 : Int) ≠ 0; decide), _, _, rfl, rfl, ?_⟩⟩⟩
      refine ⟨_, rfl, _, _, rfl, rfl, ⟨by decide, by decide, by decide⟩, _, _, rfl, rfl, _, rfl, ?_⟩
      refine iteB (fun e => ?_) (fun e => ?_)
      · refine ⟨_, rfl, _, rfl, _, rfl, fits 3, fun p H2 np e hp => ?_⟩
        exact kQ p H2 np e ⟨_, _, _, hp⟩
      · refine ⟨_, rfl, _, rfl, fits 3, fun p H2 np e hp => ?_⟩
        exact kQ p H2 np e ⟨_, _, _, hp⟩
theorem fn_none {CX : CXT} {f : Addr} {fd : FuncData} {ps : List Str} {k : Nat} : FnOk P w K mg base CX k f fd ps spNone := ⟨fun _ _ _ _ h => h.elim, fun _ _ _ _ _ _ _ _ _ _ _ _ _ h => h.elim⟩
theorem any_mem {H : Hp} {xs : List V} {i : Nat} {x : V} (h : xs[i]? = some x) (a : ∀ y ∈ xs, AnyV H y) : AnyV H x := a x (List.mem_of_getElem? h)
abbrev s_law_any : Stmt := topS 30
abbrev N_law_any : List Str := ["_law_box_here", "_law_deep_here", "_law_form", "_law_some", "_law_words", "_law_plain", "_law_k"]
theorem sc_law_any : FnScope N_law_any ["_law_box_here", "_law_deep_here"] (defScope s_law_any) := ⟨rfl, rfl, rfl, by decide +kernel, rfl, by decide +kernel, by decide +kernel⟩
theorem any_step {f : Addr} {fd : FuncData} (F : At K mg "_law_any" s_law_any f fd) (T : TB mg) (G_law_take : Cl P w K mg base 1 "_law_take" spTake) (G_law_pick : Cl P w K mg base 2 "_law_pick" (spPick K))
    (n : Nat) (sp' : Sp) (G_law_any : Cl P w K mg base (n + 2) "_law_any" sp') (hs : 0 < n → sp' = spAny ((n : Int) - 1)) : FnOk P w K mg base (L2.CX P w) (n + 3) f fd ["_law_box_here", "_law_deep_here"] (spAny n) := by
  refine F.fn.okX sc_law_any (fun vs H Q E h => ?_) (fun cdv A outer s H vs Q E hr h => ?_)
  · obtain ⟨b, rfl, _⟩ := h
    rfl
  · obtain ⟨b, rfl, hb, kQ⟩ := h
    refine ⟨_, (pss_cons (ps_set (i := 2) sc_law_any.nd rfl (Or.inl rfl) (pe_k0 (G_law_take) hr (by omega) rfl (pa_cons (pv 0) (pa_cons pe_int pa_nil))))
  (pss_cons (ps_if (PW.pt (pw_and (pt_cmpR op_lt (pv 2) pe_int (nomark _)) (pw_and1 (pt_cmpR op_gt (pv 1) pe_int (nomark _))))) (pss_cons (ps_setLc (i := 3) (own := [("_law_k", 6)]) (g := gName 6) rfl sc_law_any.nd rfl rfl (sw_true rfl rfl rfl (by decide +kernel)) (pi_range1 rfl T.b_range (pa_cons (pe_k0 (G_law_take) hr (by omega) rfl (pa_cons (pv 0) (pa_cons pe_int pa_nil))) pa_nil)) (blkOk_by (own := [("_law_k", 6)]) (N := N_law_any) (sc := defScope s_law_any) (by decide +kernel)) (fun _ _ _ _ _ => (pg_name (i := 6) sc_law_any.nd rfl (Or.inl rfl))) (fun _ _ _ _ _ => pts_nil) (fun _ _ _ _ _ => (pe_k0 (G_law_any) hr (by omega) rfl (pa_cons (pv 0) (pa_cons (pe_op op_sub (pv 1) pe_int) pa_nil)))))
  (pss_one (ps_ret (pe_ifExp (pt_cmpR op_lt (pv 2) pe_int (nomark _)) (pv 3) (pe_callTy call_tupleN rfl T.b_tuple (by decide +kernel) (pa_cons (pv 3) pa_nil)))))) pss_nil)
  (pss_cons (ps_set (i := 4) sc_law_any.nd rfl (Or.inl rfl) (pe_lstN (pa_cons pe_str (pa_cons pe_str (pa_cons pe_str (pa_cons pe_str (pa_cons pe_str (pa_cons pe_str (pa_cons pe_str (pa_cons pe_str (pa_cons pe_str (pa_cons pe_str (pa_cons pe_str (pa_cons pe_str (pa_cons pe_str pa_nil)))))))))))))))
  (pss_cons (ps_set (i := 5) sc_law_any.nd rfl (Or.inl rfl) (pe_lstN (pa_cons pe_non (pa_cons pe_bl (pa_cons pe_bl (pa_cons pe_int (pa_cons pe_int (pa_cons pe_int (pa_cons (pe_op op_sub pe_int pe_int) (pa_cons pe_int (pa_cons (pe_lstN (pa_cons pe_str pa_nil)) (pa_cons (pe_tupN (pa_cons pe_str pa_nil)) (pa_cons (pe_tupN (pa_cons pe_str (pa_cons pe_int pa_nil))) (pa_cons pe_int pa_nil))))))))))))))
  (pss_one (ps_ret (pe_ifExp (pt_cmpR op_lt (pv 2) pe_int (nomark _)) (pe_k0 (G_law_pick) hr (by omega) rfl (pa_cons (pv 0) (pa_cons (pv 4) pa_nil))) (pe_k0 (G_law_pick) hr (by omega) rfl (pa_cons (pv 0) (pa_cons (pv 5) pa_nil)))))))))), ?_⟩
    refine ⟨_, rfl, b, 14, rfl, by decide, by decide, hb, fun fm H1 f0 f1 b1 => ?_⟩
    -- if form < 4 and deep > 0
    dsimp only [gName]
    refine seq_when (decide (fm < 4) && decide (0 < (n : Int))) (fun R q => ?_) (fun e => ?_) (fun e => ?_)
    · refine ⟨_, rfl, _, _, rfl, rfl, _, rfl, ?_⟩
      refine iteB (fun e => ?_) (fun e => ?_)
      · refine ⟨_, rfl, _, _, rfl, rfl, _, rfl, ?_⟩
        rw [e] at q
        exact q
      · rw [e] at q
        exact q
    · rw [Bool.and_eq_true] at e
      have hn : 0 < n := by have := of_decide_eq_true e.2; omega
      refine ⟨_, rfl, b, 3, rfl, by decide, by decide, b1.box, fun m H2 m0 m1 b2 => ⟨m, rfl, by omega, by omega, fun D nD => ?_⟩⟩
      have nb : D ≠ b := box_ne b2.box nD
      refine lc_range (lo := 0) (n := m.toNat) (fun i H' => ∃ acc, H' D = some (.lst acc) ∧ acc.length ≤ i ∧ Bx b (upd H2 D (.lst [])) (upd H' D (.lst []))) ⟨[], upd_same, Nat.le_refl _, by rw [upd_upd]; exact Bx.refl (b2.box.same (Same.nw nD))⟩ (fun i H' hi p => ?_) (fun H' p => ?_)
      · obtain ⟨acc, q1, q2, q3⟩ := p
        have hb' : BoxAt H' b := by
          obtain ⟨x, y, z, h⟩ := q3.box
          rw [upd_ne (Ne.symm nb)] at h
          exact ⟨x, y, z, h⟩
        refine ⟨rfl, ?_⟩
        rw [hs hn]
        dsimp only [tYes, gName]
        rw [if_pos rfl]
        refine ⟨_, rfl, _, rfl, _, _, rfl, rfl, b, rfl, hb', fun v H4 b4 hv => ⟨acc, b4.keep _ _ nb q1, Nat.lt_of_le_of_lt (m := 3) (by omega) (Nat.lt_of_lt_of_le (m := 1000) (by decide) (fits 1000)), acc ++ [v], upd_same, by rw [List.length_append]; exact Nat.succ_le_succ q2, ?_⟩⟩
        rw [upd_upd]
        refine ⟨fun a o na h => ?_, ?_⟩
        · have h2 := q3.keep a o na h
          by_cases ha : a = D
          · subst ha
            rw [upd_same] at h2
            rw [upd_same]
            exact h2
          · rw [upd_ne ha] at h2
            rw [upd_ne ha]
            exact b4.keep _ _ na h2
        · obtain ⟨x, y, z, h⟩ := b4.box
          exact ⟨x, y, z, by rw [upd_ne (Ne.symm nb)]; exact h⟩
      · obtain ⟨acc, q1, q2, q3⟩ := p
        have hb' : BoxAt H' b := by
          obtain ⟨x, y, z, h⟩ := q3.box
          rw [upd_ne (Ne.symm nb)] at h
          exact ⟨x, y, z, h⟩
        have bb : Bx b H2 H' := by
          refine ⟨fun a o na h => ?_, hb'⟩
          have ha : a ≠ D := ne_of_none h nD
          have h2 := q3.keep a o na (by rw [upd_ne ha]; exact h)
          rw [upd_ne ha] at h2
          exact h2
        refine ⟨_, rfl, _, _, rfl, rfl, _, rfl, ?_⟩
        refine iteB (fun e => ?_) (fun e => ?_)
        · exact ⟨_, rfl, kQ _ _ (b1.trans (b2.trans bb)) (.inl ⟨acc, q1⟩)⟩
        · refine ⟨_, rfl, D, acc, rfl, SqL.of q1, fun t H5 n5 e5 h5 => ?_⟩
          exact kQ _ _ ((b1.trans (b2.trans bb)).trans (Bx.of_same hb' e5)) (.inr ⟨_, h5⟩)
    -- the words, the plain ones
    refine ⟨fits 13, fun p1 H2 n2 e2 h2 => ?_⟩
    have b2 := b1.trans (Bx.of_same b1.box e2)
    refine ⟨_, _, rfl, rfl, fits 1, fun p2 H3 n3 e3 h3 => ⟨fits 1, fun p3 H4 n4 e4 h4 => ⟨fits 2, fun p4 H5 n5 e5 h5 => ⟨fits 12, fun p5 H6 n6 e6 h6 => ?_⟩⟩⟩⟩
    have e26 : Same H2 H6 := ((e3.trans e4).trans e5).trans e6
    have b6 := b2.trans (Bx.of_same b2.box e26)
    have w6 : H6 p1 = _ := e26 _ _ h2
    have nb5 : p5 ≠ b := box_ne (b2.box.same ((e3.trans e4).trans e5)) n6
    have nb1 : p1 ≠ b := box_ne b1.box n2
    refine ⟨_, rfl, _, _, rfl, rfl, _, rfl, ?_⟩
    refine iteB (fun e => ?_) (fun e => ?_)
    · refine ⟨_, rfl, _, rfl, b, p1, _, rfl, b6.box, nb1, SqL.of w6, by decide, by decide, fun i x H7 hx b7 => ?_⟩
      refine kQ _ _ (b6.trans b7) (any_mem hx ?_)
      intro y hy
      simp only [List.mem_cons, List.not_mem_nil, or_false] at hy
      rcases hy with rfl | rfl | rfl | rfl | rfl | rfl | rfl | rfl | rfl | rfl | rfl | rfl | rfl <;> (show Str.length _ ≤ 1000; decide +kernel)
    · refine ⟨_, rfl, _, rfl, b, p5, _, rfl, b6.box, nb5, SqL.of h6, Nat.zero_lt_succ _, (by show (12 : Nat) < 1000000; decide), fun i x H7 hx b7 => ?_⟩
      refine kQ _ _ (b6.trans b7) (AnyV.bx b7 (any_mem hx ?_))
      intro y hy
      simp only [List.mem_cons, List.not_mem_nil, or_false] at hy
      rcases hy with rfl | rfl | rfl | rfl | rfl | rfl | rfl | rfl | rfl | rfl | rfl | rfl <;> first
        | exact .inl ⟨_, e6 _ _ (e5 _ _ (e4 _ _ h3))⟩
        | exact .inr ⟨_, e6 _ _ (e5 _ _ h4)⟩
        | exact .inr ⟨_, e6 _ _ h5⟩
        | trivial
        | (show Int.natAbs _ ≤ 1000; decide +kernel)
theorem any_all {f : Addr} {fd : FuncData} (F : At K mg "_law_any" s_law_any f fd) (b : Binds K fd ["_law_box_here", "_law_deep_here"] []) (T : TB mg) (G_law_take : Cl P w K mg base 1 "_law_take" spTake) (G_law_pick : Cl P w K mg base 2 "_law_pick" (spPick K)) :
    ∀ n : Nat, FnOk P w K mg base (L2.CX P w) (n + 3) f fd ["_law_box_here", "_law_deep_here"] (spAny n)
  | 0 => any_step F T G_law_take G_law_pick 0 spNone ⟨f, fd, _, fn_none, F.mgf, F.fn.kp, b⟩ fun h => absurd h (Nat.lt_irrefl _)
  | n + 1 => any_step F T G_law_take G_law_pick (n + 1) (spAny n) ⟨f, fd, _, any_all F b T G_law_take G_law_pick n, F.mgf, F.fn.kp, b⟩ fun _ => by
    have e : ((n + 1 : Nat) : Int) - 1 = (n : Int) := by omega
    rw [e]
abbrev s_law_deep : Stmt := topS 34
abbrev N_law_deep : List Str := ["_law_box_here", "_law_found", "_law_turn"]
theorem sc_law_deep : FnScope N_law_deep ["_law_box_here"] (defScope s_law_deep) := ⟨rfl, rfl, rfl, by decide +kernel, rfl, by decide +kernel, by decide +kernel⟩
theorem ok_deep {f : Addr} {fd : FuncData} (F : At K mg "_law_deep" s_law_deep f fd) (T : TB mg) (G_law_take : Cl P w K mg base 1 "_law_take" spTake) (G_law_any : Cl P w K mg base 3 "_law_any" (spAny 0)) : FnOk P w K mg base (L2.CX P w) 4 f fd ["_law_box_here"] spDeep := by
  refine F.fn.okX sc_law_deep (fun vs H Q E h => ?_) (fun cdv A outer s H vs Q E hr h => ?_)
  · obtain ⟨b, rfl, _⟩ := h
    rfl
  · obtain ⟨b, rfl, hb, kQ⟩ := h
    refine ⟨_, (pss_cons (ps_set (i := 1) sc_law_deep.nd rfl (Or.inl rfl) (pe_k0 (G_law_any) hr (by omega) rfl (pa_cons (pv 0) (pa_cons pe_int pa_nil))))
  (pss_cons (ps_set (i := 1) sc_law_deep.nd rfl (Or.inl rfl) (pe_ifExp (pt_val (pe_callB call_isiT rfl T.b_isinstance (by decide +kernel) (pa_cons (pv 1) (pa_cons (pe_tupN (pa_cons (pe_bty "list" rfl T.b_list (by decide +kernel)) (pa_cons (pe_bty "tuple" rfl T.b_tuple (by decide +kernel)) pa_nil))) pa_nil)))) pe_int (pv 1)))
  (pss_cons (ps_for (passes_of rfl) rfl (pi_range1 rfl T.b_range (pa_cons pe_int pa_nil)) (pg_name (i := 2) sc_law_deep.nd rfl (Or.inl rfl))
  (pss_one (ps_set (i := 1) sc_law_deep.nd rfl (Or.inl rfl) (pe_ifExp (pt_cmpR op_eq (pe_k0 (G_law_take) hr (by omega) rfl (pa_cons (pv 0) (pa_cons pe_int pa_nil))) pe_int (nomark _)) (pe_lstN (pa_cons (pv 1) pa_nil)) (pe_tupN (pa_cons (pv 1) pa_nil))))))
  (pss_one (ps_ret (pv 1)))))), ?_⟩
    refine ⟨_, rfl, b, rfl, hb, fun v H1 b1 hv => ?_⟩
    refine ⟨_, rfl, fits 2, fun p H2 np e2 hp => ?_⟩
    have hv' := hv.same e2
    obtain ⟨t, ty⟩ := tyA (K := K) hv'
    have b2 := b1.trans (Bx.of_same b1.box e2)
    refine ⟨v, p, _, t, _, _, rfl, hp, .cons (.ty "list") (.cons (.ty "tuple") .nil), ty.ty, ty.seq, _, rfl, ?_⟩
    suffices hmain : ∀ v : V, AnyV H2 v → ∀ (D : Ends), D.nx = (fun σ' H' => tRet (tVar 1) { nx := fun _ H' => Q .non H', rt := Q } σ' H') → D.rt = Q →
        tFor (iRng1 (tCons (tC (V.int 8)) tNil)) (gName 2) (tAsg (tIf (tTest (tOp rEq (tCall spTake [] E0 (tCons (tVar 0) (tCons (tC (V.int 2)) tNil))) (tC (V.int 0)))) (tLstN (tCons (tVar 1) tNil)) (tTupN (tCons (tVar 1) tNil))) (gName 1)) D
          [some (.ref b), some v, none] H2 by
      refine iteB (fun e => ?_) (fun e => ?_)
      · exact hmain (.int 0) (by show Int.natAbs _ ≤ 1000; decide) _ rfl rfl
      · exact ⟨_, rfl, hmain v hv' _ rfl rfl⟩
    intro v hv D hD1 hD2
    refine ⟨8, rfl, by decide, by decide, for_range (lo := 0) (n := 8) (fun i σ H' => ∃ (v : V) (x : Option V), σ = [some (.ref b), some v, x] ∧ Bx b H H' ∧ AnyV H' v) ⟨v, none, rfl, b2, hv⟩ (fun i σ H' hi p => ?_) (fun σ H' p => ?_)⟩
    · obtain ⟨v, x, rfl, q1, q2⟩ := p
      refine ⟨_, rfl, b, 2, rfl, by decide, by decide, q1.box, fun d H3 _ _ b3 => ⟨rfl, _, rfl, ?_⟩⟩
      refine iteB (fun e => ?_) (fun e => ?_)
      · exact ⟨_, rfl, fits 1, fun p H4 n4 e4 h4 => ⟨_, _, rfl, (q1.trans b3).trans (Bx.of_same b3.box e4), .inl ⟨_, h4⟩⟩⟩
      · exact ⟨_, rfl, fits 1, fun p H4 n4 e4 h4 => ⟨_, _, rfl, (q1.trans b3).trans (Bx.of_same b3.box e4), .inr ⟨_, h4⟩⟩⟩
    · obtain ⟨v, x, rfl, q1, q2⟩ := p
      rw [hD1]
      exact ⟨_, rfl, kQ _ _ q1 q2⟩
end
end K05
namespace K05
open PySem PySem.Spec PyProof.Rows L2 Mn StX
structure Txt (P : Program) (K : PySem.W.Frag) (mg : Str → Option Value) (CR CH IH fIH aW aA : Addr) : Prop extends TB mg where
  g_WORDS : ∃ u, mg "WORDS" = some u ∧ RelV (.ref aW) u
  WORDS : ∀ H, SqT K H aW [.str "never", .str "always"]
  g_ALL_WAYS : ∃ u, mg "ALL_WAYS" = some u ∧ RelV (.ref aA) u
  ALL_WAYS : ∀ H, SqT K H aA [.str "direct", .str "store", .str "either"]
  g_HOLDS : ∃ u, mg "HOLDS" = some u ∧ RelV (.str "holds") u
  g_SHARES : ∃ u, mg "SHARES" = some u ∧ RelV (.str "shares") u
  g_Rule : ∃ u, mg "Rule" = some u ∧ RelV (.ref CR) u
  x_InvalidHouse : MnX.SupTxt P K mg "InvalidHouse" "InvalidHouse.__init__" "word" IH fIH
  oR : OwnC K CR
  oH : OwnC K CH
  n_asks : NoAttr K CR "asks"
  n_way : NoAttr K CR "way"
  n_holds : NoAttr K CR "holds"
  n_shares : NoAttr K CR "shares"
  n_text : NoAttr K CR "text"
  m_keep : NoAttr K CH "keep"
  m_wait : NoAttr K CH "wait"
  m_rule : NoAttr K CH "rule"
  m_text : NoAttr K CH "text"
  ri : PySem.W.kitOne K (.ref CR) (.type "int") = some false
  rb : PySem.W.kitOne K (.ref CR) (.type "bool") = some false
  rr : PySem.W.kitOne K (.ref CR) (.ref CR) = some true
  hi : PySem.W.kitOne K (.ref CH) (.type "int") = some false
  hb : PySem.W.kitOne K (.ref CH) (.type "bool") = some false
  hr : PySem.W.kitOne K (.ref CH) (.ref CR) = some false
  r_non : PySem.W.kitOne K (.type "NoneType") (.ref CR) = some false
  r_bool : PySem.W.kitOne K (.type "bool") (.ref CR) = some false
  r_int : PySem.W.kitOne K (.type "int") (.ref CR) = some false
  r_str : PySem.W.kitOne K (.type "str") (.ref CR) = some false
  r_list : PySem.W.kitOne K (.type "list") (.ref CR) = some false
  r_tuple : PySem.W.kitOne K (.type "tuple") (.ref CR) = some false
/-- a value that may stand as an argument: any value, a house, or a rule with its text -/
inductive KindO (CR CH : Addr) (H : Hp) : V → Option Str → Prop where
  | any {v : V} (h : AnyV H v) : KindO CR CH H v none
  | house {a dx : Addr} {fs : List (Str × V)} (h : H a = some (.ins CH dx fs)) : KindO CR CH H (.ref a) none
  | rule {a dx : Addr} {fs : List (Str × V)} {t : Str} (h : H a = some (.ins CR dx fs)) (l : fs.lookup ("text" : Str) = some (V.str t)) (z : t.length ≤ 100) : KindO CR CH H (.ref a) (some t)
def isNum : V → Bool
  | .int i => decide (0 ≤ i)
  | _ => false
/-- what isinstance asks of such a value -/
structure TyO (K : PySem.W.Frag) (CR : Addr) (H : Hp) (v : V) (o : Option Str) (t : Value) : Prop where
  ty : TyX K H v t
  int : PySem.W.kitOne K t (.type "int") = some (isI v || isB v)
  bool : PySem.W.kitOne K t (.type "bool") = some (isB v)
  rule : PySem.W.kitOne K t (.ref CR) = some o.isSome
section
variable {P : Program} {w : World} {K : PySem.W.Frag} {mg : Str → Option Value} {base : Heap} {CR CH IH fIH aW aA : Addr} {H H' : Hp} {v : V} {o : Option Str}
theorem KindO.ext (k : KindO CR CH H v o) (h : ∀ a u, H a = some u → (∃ C dx fs, u = .ins C dx fs) → H' a = some u) (ha : AnyV H v → AnyV H' v) : KindO CR CH H' v o := by
  cases k with
  | any x => exact .any (ha x)
  | house x => exact .house (h _ _ x ⟨_, _, _, rfl⟩)
  | rule x l z => exact .rule (h _ _ x ⟨_, _, _, rfl⟩) l z
theorem KindO.same (k : KindO CR CH H v o) (e : Same H H') : KindO CR CH H' v o := k.ext (fun a u h _ => e a u h) fun x => x.same e
theorem KindO.bx {b : Addr} (k : KindO CR CH H v o) (hb : BoxAt H b) (x : Bx b H H') : KindO CR CH H' v o := k.ext (fun a u h ⟨C, dx, fs, e⟩ => x.keep a u (fun q => by
  obtain ⟨_, _, _, z⟩ := hb
  rw [q, z, e] at h
  cases h) h) fun y => y.bx x
theorem KindO.upd {l : Addr} {xs ys : List V} (k : KindO CR CH H v o) (hl : H l = some (.lst xs)) : KindO CR CH (upd H l (.lst ys)) v o := k.ext (fun a u h ⟨C, dx, fs, e⟩ => by
  rw [upd_ne]
  · exact h
  · intro q
    rw [q, hl, e] at h
    cases h) fun y => y.upd hl
theorem tyO (T : Txt P K mg CR CH IH fIH aW aA) (k : KindO CR CH H v o) : ∃ t, TyO K CR H v o t := by
  cases k with
  | any h =>
    cases v with
    | non => exact ⟨_, .base .non, kit_ty (by decide +kernel), kit_ty (by decide +kernel), T.r_non⟩
    | bl b => exact ⟨_, .base (.bl b), kit_ty (a := "bool") (b := "int") (r := true) (by decide +kernel), kit_ty (a := "bool") (b := "bool") (r := true) (by decide +kernel), T.r_bool⟩
    | int i => exact ⟨_, .base (.int i), kit_ty (a := "int") (b := "int") (r := true) (by decide +kernel), kit_ty (a := "int") (b := "bool") (r := false) (by decide +kernel), T.r_int⟩
    | str s => exact ⟨_, .base (.str s), kit_ty (a := "str") (b := "int") (r := false) (by decide +kernel), kit_ty (a := "str") (b := "bool") (r := false) (by decide +kernel), T.r_str⟩
    | ref a =>
      rcases h with ⟨xs, h⟩ | ⟨xs, h⟩
      · exact ⟨_, .base (.lst h), kit_ty (a := "list") (b := "int") (r := false) (by decide +kernel), kit_ty (a := "list") (b := "bool") (r := false) (by decide +kernel), T.r_list⟩
      · exact ⟨_, .base (.tup h), kit_ty (a := "tuple") (b := "int") (r := false) (by decide +kernel), kit_ty (a := "tuple") (b := "bool") (r := false) (by decide +kernel), T.r_tuple⟩
    | byt b => exact h.elim
    | flt b => exact h.elim
    | ty n => exact h.elim
  | house h => exact ⟨_, T.oH.ty h, T.hi, T.hb, T.hr⟩
  | rule h => exact ⟨_, T.oR.ty h, T.ri, T.rb, T.rr⟩
/-! ### words.py -/
def spIsInt (CR CH : Addr) : Sp := fun vs H Q _ => ∃ x o, vs = [x] ∧ KindO CR CH H x o ∧ Q (.bl (isI x)) H
def spIsNum (CR CH : Addr) : Sp := fun vs H Q _ => ∃ x o, vs = [x] ∧ KindO CR CH H x o ∧ Q (.bl (isNum x)) H
def spIsWord (K : PySem.W.Frag) : Sp := fun vs H Q _ => ∃ (x : V) (p : Addr) (ws : List V), vs = [x, .ref p] ∧ AnyV H x ∧ SqT K H p ws ∧ ws.all flatV = true ∧ Q (.bl (isS x && inV x ws)) H
abbrev s_is_integer : Stmt := topS 8
abbrev N_is_integer : List Str := ["value"]
theorem sc_is_integer : FnScope N_is_integer ["value"] (defScope s_is_integer) := ⟨rfl, rfl, rfl, by decide +kernel, rfl, by decide +kernel, by decide +kernel⟩
theorem ok_is_integer {f : Addr} {fd : FuncData} (F : At K mg "is_integer" s_is_integer f fd) (T : Txt P K mg CR CH IH fIH aW aA) : FnOk P w K mg base (L2.CX P w) 1 f fd ["value"] (spIsInt CR CH) := by
  refine F.fn.okX sc_is_integer (fun vs H Q E h => ?_) (fun cdv A outer s H vs Q E hr h => ?_)
  · obtain ⟨x, o, rfl, _⟩ := h
    rfl
  · obtain ⟨x, o, rfl, hx, k⟩ := h
    obtain ⟨t, ty⟩ := tyO T hx
    refine ⟨_, (pss_one (ps_ret (pe_and (pe_callB call_isi rfl T.b_isinstance (by decide +kernel) (pa_cons (pv 0) (pa_cons (pe_bty "int" rfl T.b_int (by decide +kernel)) pa_nil))) (pe_one (pe_not (pe_callB call_isi rfl T.b_isinstance (by decide +kernel) (pa_cons (pv 0) (pa_cons (pe_bty "bool" rfl T.b_bool (by decide +kernel)) pa_nil)))))))), ?_⟩
    refine ⟨_, rfl, _, _, t, _, _, rfl, .ty "int", ty.ty, ty.int, _, rfl, ?_⟩
    refine ite2 (fun h0 => ?_) (fun h0 => ?_)
    · refine ⟨_, rfl, _, _, t, _, _, rfl, .ty "bool", ty.ty, ty.bool, _, rfl, ?_⟩
      have e : (!isB x) = isI x := by cases x <;> first | rfl | cases h0
      rw [e]
      exact k
    · have e : false = isI x := by cases x <;> first | rfl | exact (h0 rfl).elim
      rw [e]
      exact k
abbrev s_is_number : Stmt := topS 9
abbrev N_is_number : List Str := ["value"]
theorem sc_is_number : FnScope N_is_number ["value"] (defScope s_is_number) := ⟨rfl, rfl, rfl, by decide +kernel, rfl, by decide +kernel, by decide +kernel⟩
theorem ok_is_number {f : Addr} {fd : FuncData} (F : At K mg "is_number" s_is_number f fd) (T : Txt P K mg CR CH IH fIH aW aA) (G_is_integer : Cl P w K mg base 1 "is_integer" (spIsInt CR CH)) : FnOk P w K mg base (L2.CX P w) 2 f fd ["value"] (spIsNum CR CH) := by
  refine F.fn.okX sc_is_number (fun vs H Q E h => ?_) (fun cdv A outer s H vs Q E hr h => ?_)
  · obtain ⟨x, o, rfl, _⟩ := h
    rfl
  · obtain ⟨x, o, rfl, hx, k⟩ := h
    refine ⟨_, (pss_one (ps_ret (pe_and (pe_k0 (G_is_integer) hr (by omega) rfl (pa_cons (pv 0) pa_nil)) (pe_one (pe_cmpR op_ge (pv 0) pe_int (nomark _)))))), ?_⟩
    refine ⟨_, rfl, x, o, rfl, hx, _, rfl, ?_⟩
    refine ite2 (fun h0 => ?_) (fun h0 => ?_)
    · cases x with
      | int i => exact ⟨_, rfl, _, _, rfl, rfl, k⟩
      | _ => cases h0
    · have e : false = isNum x := by cases x <;> first | rfl | exact (h0 rfl).elim
      rw [e]
      exact k
abbrev s_is_word : Stmt := topS 10
abbrev N_is_word : List Str := ["value", "words"]
theorem sc_is_word : FnScope N_is_word ["value", "words"] (defScope s_is_word) := ⟨rfl, rfl, rfl, by decide +kernel, rfl, by decide +kernel, by decide +kernel⟩
theorem ok_is_word {f : Addr} {fd : FuncData} (F : At K mg "is_word" s_is_word f fd) (T : Txt P K mg CR CH IH fIH aW aA) : FnOk P w K mg base (L2.CX P w) 1 f fd ["value", "words"] (spIsWord K) := by
  refine F.fn.okX sc_is_word (fun vs H Q E h => ?_) (fun cdv A outer s H vs Q E hr h => ?_)
  · obtain ⟨x, p, ws, rfl, _⟩ := h
    rfl
  · obtain ⟨x, p, ws, rfl, hx, hp, hw, k⟩ := h
    obtain ⟨t, ty⟩ := tyA (K := K) hx
    refine ⟨_, (pss_one (ps_ret (pe_and (pe_callB call_isi rfl T.b_isinstance (by decide +kernel) (pa_cons (pv 0) (pa_cons (pe_bty "str" rfl T.b_str (by decide +kernel)) pa_nil))) (pe_one (pe_cmpR op_in_seq (pv 0) (pv 1) (by rfl)))))), ?_⟩
    refine ⟨_, rfl, _, _, t, _, _, rfl, .ty "str", ty.ty, ty.str, _, rfl, ?_⟩
    refine ite2 (fun h0 => ?_) (fun h0 => ?_)
    · refine ⟨_, rfl, _, rfl, p, ws, rfl, .inr hp, ?_, hw, ?_⟩
      · cases x <;> first | rfl | cases h0
      · rw [h0] at k
        exact k
    · rw [Bool.not_eq_true] at h0
      rw [h0] at k
      exact k
end
end K05
namespace K05
open PySem PySem.Spec PyProof.Rows L2 Mn StX
/-- Rule(asks, way, holds, shares), all right -/
def spInit (C : Addr) : Sp := fun vs H Q _ => ∃ (x dx : Addr) (a w : V) (h s : Bool), vs = [.ref x, a, w, .bl h, .bl s] ∧ H x = some (.ins C dx []) ∧ AnyV H a ∧ AnyV H w ∧ okAsks a = true ∧ okWay w = true ∧
  ∀ H', (∀ b o, b ≠ x → H b = some o → H' b = some o) → H' x = some (.ins C dx [("asks", a), ("way", w), ("holds", .bl h), ("shares", .bl s), ("text", .str (ruleText a w h s))]) → Q .non H'
section
variable {P : Program} {w : World} {K : PySem.W.Frag} {mg : Str → Option Value} {base : Heap} {CR CH IH fIH aW aA : Addr}
theorem strV_of {a : V} (h : okAsks a = true) {H : Hp} (hA : AnyV H a) : StrV a (strT a) := by
  cases a with
  | int i =>
    have hi : i.natAbs ≤ 1000 := hA
    exact .inl ⟨i, rfl, log_ok (by omega), rfl⟩
  | str t => exact .inr rfl
  | _ => cases h
abbrev s_Rule___init__ : Stmt := inClass (topS 18) 0
abbrev N_Rule___init__ : List Str := ["self", "asks", "way", "holds", "shares", "more", "word", "is_so"]
theorem sc_Rule___init__ : FnScope N_Rule___init__ ["self", "asks", "way", "holds", "shares"] (defScope s_Rule___init__) := ⟨rfl, rfl, rfl, by decide +kernel, rfl, by decide +kernel, by decide +kernel⟩
theorem ok_init {f : Addr} {fd : FuncData} {dvs : List V} {kws : List (Str × V)} (F : FunD K "__init__" "Rule.__init__" (defArgs s_Rule___init__) (defBody s_Rule___init__) (defScope s_Rule___init__) dvs kws f fd) (T : Txt P K mg CR CH IH fIH aW aA)
    (G_is_integer : Cl P w K mg base 1 "is_integer" (spIsInt CR CH)) (G_is_word : Cl P w K mg base 1 "is_word" (spIsWord K)) : FnOk P w K mg base (L2.CX P w) 3 f fd ["self", "asks", "way", "holds", "shares"] (spInit CR) := by
  refine F.ok sc_Rule___init__ (fun vs H Q E h => ?_) (fun cdv A outer s H vs Q E hr h => ?_)
  · obtain ⟨x, dx, a, w, h, s, rfl, _⟩ := h
    rfl
  · obtain ⟨x, dx, a, wy, bh, bs, rfl, hx, hA, hW, eA, eW, k0⟩ := h
    refine ⟨_, (pss_cons (ps_if (PW.pt (pw_and (pt_not (pt_val (pe_k0 (G_is_word) hr (by omega) rfl (pa_cons (pv 1) (pa_cons (pe_gc rfl T.g_WORDS) pa_nil))))) (pw_and1 (PW.pt (pw_or (pt_not (pt_val (pe_k0 (G_is_integer) hr (by omega) rfl (pa_cons (pv 1) pa_nil)))) (pw_or1 (pt_cmpR op_lt (pv 1) pe_int (nomark _)))))))) (pss_one ps_never) pss_nil)
  (pss_cons (ps_if (pt_not (pt_val (pe_k0 (G_is_word) hr (by omega) rfl (pa_cons (pv 2) (pa_cons (pe_gc rfl T.g_ALL_WAYS) pa_nil))))) (pss_one ps_never) pss_nil)
  (pss_cons (ps_if (pt_not (pt_val (pe_callB call_isi rfl T.b_isinstance (by decide +kernel) (pa_cons (pv 3) (pa_cons (pe_bty "bool" rfl T.b_bool (by decide +kernel)) pa_nil))))) (pss_one ps_never) pss_nil)
  (pss_cons (ps_if (pt_not (pt_val (pe_callB call_isi rfl T.b_isinstance (by decide +kernel) (pa_cons (pv 4) (pa_cons (pe_bty "bool" rfl T.b_bool (by decide +kernel)) pa_nil))))) (pss_one ps_never) pss_nil)
  (pss_cons (ps_fld (pv 0) (pv 1) rfl)
  (pss_cons (ps_fld (pv 0) (pv 2) rfl)
  (pss_cons (ps_fld (pv 0) (pv 3) rfl)
  (pss_cons (ps_fld (pv 0) (pv 4) rfl)
  (pss_cons (ps_setLc (i := 5) (own := [("word", 6), ("is_so", 7)]) (g := gTup K 2 (gCons (gName 6) (gCons (gName 7) gNil))) rfl sc_Rule___init__.nd rfl rfl (sw_true rfl rfl rfl (by decide +kernel)) (pi_tup (pe_tupN (pa_cons (pe_tupN (pa_cons (pe_gc rfl T.g_HOLDS) (pa_cons (pv 3) pa_nil))) (pa_cons (pe_tupN (pa_cons (pe_gc rfl T.g_SHARES) (pa_cons (pv 4) pa_nil))) pa_nil)))) (blkOk_by (own := [("word", 6), ("is_so", 7)]) (N := N_Rule___init__) (sc := defScope s_Rule___init__) (by decide +kernel)) (fun _ _ _ _ _ => (pg_tup rfl (pgs_cons (pg_name (i := 6) sc_Rule___init__.nd rfl (Or.inl rfl)) (pgs_cons (pg_name (i := 7) sc_Rule___init__.nd rfl (Or.inl rfl)) pgs_nil)))) (fun _ _ _ _ _ => (pts_one (pt_val (pv 7)))) (fun _ _ _ _ _ => (pv 6)))
  (pss_one (ps_fld (pv 0) (pe_join pe_str (pe_lstN (pa_cons pe_str (pa_cons (pe_callTy call_str2 rfl T.b_str (by decide +kernel) (pa_cons (pv 1) pa_nil)) (pa_cons pe_str (pa_cons (pv 2) (pa_star (pv 5) pa_nil))))))) rfl))))))))))), ?_⟩
    refine seq_when false (fun R q => ?_) (fun e => ?_) (fun e => ?_)
    · refine ⟨_, rfl, a, aW, _, rfl, hA, T.WORDS _, rfl, _, rfl, ?_⟩
      refine iteNB (fun e1 => ?_) (fun e1 => ?_)
      · refine ⟨_, rfl, a, none, rfl, .any hA, _, rfl, ?_⟩
        cases a with
        | int i =>
          refine iteNB (fun e2 => by cases e2) (fun e2 => ?_)
          refine ⟨_, rfl, _, _, rfl, rfl, _, rfl, ?_⟩
          have z : decide (i < 1) = false := decide_eq_false (fun h => by
            have z2 := of_decide_eq_true eA
            omega)
          rw [z]
          exact q
        | str t =>
          have z : inV (.str t) [.str "never", .str "always"] = true := eA
          have e1' : inV (.str t) [.str "never", .str "always"] = false := e1
          rw [z] at e1'
          cases e1'
        | _ => cases eA
      · exact q
    · cases e
    refine seq_when false (fun R q => ?_) (fun e => ?_) (fun e => ?_)
    · refine ⟨_, rfl, wy, aA, _, rfl, hW, T.ALL_WAYS _, rfl, _, rfl, ?_⟩
      rw [okWay_eq] at eW
      rw [eW]
      exact q
    · cases e
    refine seq_when false (fun R q => ?_) (fun e => ?_) (fun e => ?_)
    · exact ⟨_, rfl, _, _, _, _, true, rfl, .ty "bool", .base (.bl bh), kit_ty (a := "bool") (b := "bool") (r := true) (by decide +kernel), _, rfl, q⟩
    · cases e
    refine seq_when false (fun R q => ?_) (fun e => ?_) (fun e => ?_)
    · exact ⟨_, rfl, _, _, _, _, true, rfl, .ty "bool", .base (.bl bs), kit_ty (a := "bool") (b := "bool") (r := true) (by decide +kernel), _, rfl, q⟩
    · cases e
    -- self.asks = asks ..
    refine ⟨_, rfl, _, rfl, x, CR, dx, _, rfl, hx, T.oR.cl, T.n_asks, (by decide), ?_⟩
    refine ⟨_, rfl, _, rfl, x, CR, dx, _, rfl, upd_same, T.oR.cl, T.n_way, (by show (1 : Nat) < 1000; decide), ?_⟩
    rw [upd_upd]
    refine ⟨_, rfl, _, rfl, x, CR, dx, _, rfl, upd_same, T.oR.cl, T.n_holds, (by show (2 : Nat) < 1000; decide), ?_⟩
    rw [upd_upd]
    refine ⟨_, rfl, _, rfl, x, CR, dx, _, rfl, upd_same, T.oR.cl, T.n_shares, (by show (3 : Nat) < 1000; decide), ?_⟩
    rw [upd_upd]
    have ef : putF "shares" (V.bl bs) (putF "holds" (V.bl bh) (putF "way" wy (putF "asks" a []))) = ([("asks", a), ("way", wy), ("holds", .bl bh), ("shares", .bl bs)] : List (Str × V)) := rfl
    rw [ef]
    generalize hHx : upd H x (HO.ins CR dx ([("asks", a), ("way", wy), ("holds", V.bl bh), ("shares", V.bl bs)] : List (Str × V))) = Hx
    have hxx : Hx x = some (.ins CR dx ([("asks", a), ("way", wy), ("holds", V.bl bh), ("shares", V.bl bs)] : List (Str × V))) := by rw [← hHx, upd_same]
    have hox : ∀ b o, b ≠ x → H b = some o → Hx b = some o := fun b o nb e => by rw [← hHx, upd_ne nb]; exact e
    refine ⟨_, rfl, two_fits, fun p1 H1 n1 s1 h1 => ⟨_, rfl, two_fits, fun p2 H2 n2 s2 h2 => ⟨two_fits, fun p3 Hc n3 s3 h3 => ⟨p3, rfl, ⟨_, SqT.of h3⟩, fun DD nD => ?_⟩⟩⟩⟩
    have h1 : Hc p1 = some (.tup [.str "holds", .bl bh]) := s3 _ _ (s2 _ _ h1)
    have h2 : Hc p2 = some (.tup [.str "shares", .bl bs]) := s3 _ _ h2
    have sc : Same Hx Hc := (s1.trans s2).trans s3
    refine lc_tup (xs := [.ref p1, .ref p2]) (fun i H' => H' DD = some (.lst ((moreN bh bs i).map V.str)) ∧ ∀ b o, b ≠ DD → Hc b = some o → H' b = some o) ⟨upd_same, fun b o n e => by rw [upd_ne n]; exact e⟩ (fun i H' _ p => ?_) (fun i y H' hi p => ?_) (fun H' p => ?_)
    · obtain ⟨q1, q4⟩ := p
      exact SqT.of (q4 _ _ (fun z => by rw [z, nD] at h3; cases h3) h3)
    · obtain ⟨q1, q4⟩ := p
      have g1 := q4 _ _ (fun z => by rw [z, nD] at h1; cases h1) h1
      have g2 := q4 _ _ (fun z => by rw [z, nD] at h2; cases h2) h2
      match i, hi with
      | 0, hi =>
        obtain rfl : V.ref p1 = y := Option.some.inj hi
        refine ⟨_, _, rfl, SqT.of g1, rfl, _, _, rfl, _, _, rfl, rfl, rfl, _, rfl, _, rfl, ?_⟩
        cases bh with
        | true => exact ⟨_, rfl, _, q1, by show 0 < _; exact fits 1000 |> Nat.lt_of_lt_of_le (by decide), by rw [upd_same]; rfl, fun b o n e => by rw [upd_ne n]; exact q4 b o n e⟩
        | false => exact ⟨q1, q4⟩
      | 1, hi =>
        obtain rfl : V.ref p2 = y := Option.some.inj hi
        refine ⟨_, _, rfl, SqT.of g2, rfl, _, _, rfl, _, _, rfl, rfl, rfl, _, rfl, _, rfl, ?_⟩
        have l1 := (moreN_len bh bs 1).1
        have en : ∀ c d : Bool, (if d then moreN c d 1 ++ [("shares" : Str)] else moreN c d 1) = moreN c d 2 := by decide
        cases bs with
        | true =>
          refine ⟨_, rfl, _, q1, by rw [List.length_map]; exact fits 1000 |> Nat.lt_of_lt_of_le (by omega), ?_, fun b o n e => by rw [upd_ne n]; exact q4 b o n e⟩
          rw [upd_same]
          show some (HO.lst ((moreN bh true 1).map V.str ++ [V.str "shares"])) = some (.lst ((moreN bh true 2).map V.str))
          rw [← en bh true]
          simp
        | false =>
          refine ⟨?_, q4⟩
          rw [q1, ← show moreN bh false 1 = moreN bh false (1 + 1) from en bh false]
      | i + 2, hi => simp at hi
    · obtain ⟨q1, q4⟩ := p
      have hx' : H' x = _ := q4 _ _ (ne_of_none (sc _ _ hxx) nD) (sc _ _ hxx)
      obtain ⟨wv, rfl⟩ : ∃ t, wy = .str t := by cases wy <;> first | exact ⟨_, rfl⟩ | cases eW
      have l1 := strT_asks eA hA
      have l2 := strT_way eW
      have l2' : wv.length ≤ 10 := l2
      have l3 := moreN_len bh bs 2
      refine ⟨⟨_, rfl⟩, _, rfl, a, strT a, rfl, strV_of eA hA, _, rfl, _, rfl, _, _, rfl, .inr (SqL.of q1), ?_, fun pl Hl nl sl hl => ?_⟩
      · simp only [List.length_cons, List.length_append, List.length_map, List.length_nil]
        exact fits 1000 |> Nat.le_trans (by
          have l4 : (moreN bh bs (0 + 1 + 1)).length ≤ 2 := l3.1
          omega)
      · refine ⟨_, pl, Str.ofString "asks" :: strT a :: Str.ofString "by" :: wv :: moreN bh bs 2, rfl, rfl, .inl (SqL.of (by rw [hl, List.append_nil]; rfl)), ?_, ?_⟩
        · have e4 : (Str.ofString "asks").length = 4 := rfl
          have e2 : (Str.ofString "by").length = 2 := rfl
          have e1 : (Str.ofString " ").length = 1 := rfl
          simp only [List.map_cons, List.sum_cons, List.length_cons, e4, e2, e1]
          omega
        · refine ⟨_, rfl, x, CR, dx, _, rfl, sl _ _ hx', T.oR.cl, T.n_text, (by show (4 : Nat) < 1000; decide), ?_⟩
          refine k0 _ (fun b o nb e => ?_) (by rw [upd_same]; rfl)
          rw [upd_ne nb]
          have e1 := sc _ _ (hox b o nb e)
          exact sl _ _ (q4 _ _ (ne_of_none e1 nD) e1)
end
end K05
namespace K05
open PySem PySem.Spec PyProof.Rows L2 Mn StX
/-- the argument of a house that is refused first -/
def due (k w : V) (o : Option Str) : Option Str := if isNum k then (if isNum w then (if o.isSome then none else some "rule") else some "wait") else some "keep"
def dueV (k w : V) (o : Option Str) : V := match due k w o with
  | some x => .str x
  | none => .non
theorem due_keep {k w : V} {o : Option Str} (e : isNum k = false) : due k w o = some "keep" := by unfold due; rw [e]; rfl
theorem due_wait {k w : V} {o : Option Str} (e : isNum k = true) (e2 : isNum w = false) : due k w o = some "wait" := by unfold due; rw [e, e2]; rfl
theorem due_rule {k w : V} {o : Option Str} (e : isNum k = true) (e2 : isNum w = true) (e3 : o.isSome = false) : due k w o = some "rule" := by unfold due; rw [e, e2, e3]; rfl
theorem due_none {k w : V} {o : Option Str} (e : isNum k = true) (e2 : isNum w = true) (e3 : o.isSome = true) : due k w o = none := by unfold due; rw [e, e2, e3]; rfl
/-- a made house's fields -/
def houseF (k w r : V) (t : Str) : List (Str × V) := [("keep", k), ("wait", w), ("rule", r), ("text", .str (match k, w with | .int i, .int j => houseText i j t | _, _ => Str.empty))]
/-- House(keep, wait, rule) -/
def spHouse (CR CH IH : Addr) : Sp := fun vs H Q E => ∃ (x dx : Addr) (k w r : V) (o1 o2 o : Option Str), vs = [.ref x, k, w, r] ∧ H x = some (.ins CH dx []) ∧ KindO CR CH H k o1 ∧ KindO CR CH H w o2 ∧ KindO CR CH H r o ∧ (isNum k = true → AnyV H k) ∧ (isNum w = true → AnyV H w) ∧
  (∀ wd, due k w o = some wd → ∀ d, H d = none → E (.ref IH) (some d) (upd H d (.xd [("word", .str wd)]))) ∧
  (∀ t, due k w o = none → o = some t → ∀ H', (∀ b u, b ≠ x → H b = some u → H' b = some u) → H' x = some (.ins CH dx (houseF k w r t)) → Q .non H')
theorem isNum_int {k : V} (h : isNum k = true) : ∃ i : Int, k = .int i := by
  cases k <;> first | exact ⟨_, rfl⟩ | cases h
section
variable {P : Program} {w : World} {K : PySem.W.Frag} {mg : Str → Option Value} {base : Heap} {CR CH IH fIH aW aA : Addr}
abbrev s_House___init__ : Stmt := inClass (topS 20) 0
abbrev N_House___init__ : List Str := ["self", "keep", "wait", "rule"]
theorem sc_House___init__ : FnScope N_House___init__ ["self", "keep", "wait", "rule"] (defScope s_House___init__) := ⟨rfl, rfl, rfl, by decide +kernel, rfl, by decide +kernel, by decide +kernel⟩
theorem ok_house {f : Addr} {fd : FuncData} (F : Fun K "__init__" "House.__init__" s_House___init__ f fd) (T : Txt P K mg CR CH IH fIH aW aA) (G_is_number : Cl P w K mg base 2 "is_number" (spIsNum CR CH)) :
    FnOk P w K mg base (L2.CX P w) 3 f fd ["self", "keep", "wait", "rule"] (spHouse CR CH IH) := by
  refine F.okX sc_House___init__ (fun vs H Q E h => ?_) (fun cdv A outer s H vs Q E hr h => ?_)
  · obtain ⟨x, dx, k, w, r, o1, o2, o, rfl, _⟩ := h
    rfl
  · obtain ⟨x, dx, k, wt, r, o1, o2, o, rfl, hx, hk, hw, hrr, aK, aWt, kE, kQ⟩ := h
    obtain ⟨tR, tyR⟩ := tyO T hrr
    refine ⟨_, (pss_cons (ps_if (pt_not (pt_val (pe_k0 (G_is_number) hr (by omega) rfl (pa_cons (pv 1) pa_nil)))) (pss_one (ps_raiseS rfl T.x_InvalidHouse MnX.okn_word hr (takes_of rfl rfl rfl rfl) (pa_cons pe_str pa_nil))) pss_nil)
  (pss_cons (ps_if (pt_not (pt_val (pe_k0 (G_is_number) hr (by omega) rfl (pa_cons (pv 2) pa_nil)))) (pss_one (ps_raiseS rfl T.x_InvalidHouse MnX.okn_word hr (takes_of rfl rfl rfl rfl) (pa_cons pe_str pa_nil))) pss_nil)
  (pss_cons (ps_if (pt_not (pt_val (pe_callB call_isi rfl T.b_isinstance (by decide +kernel) (pa_cons (pv 3) (pa_cons (pe_gc rfl T.g_Rule) pa_nil))))) (pss_one (ps_raiseS rfl T.x_InvalidHouse MnX.okn_word hr (takes_of rfl rfl rfl rfl) (pa_cons pe_str pa_nil))) pss_nil)
  (pss_cons (ps_fld (pv 0) (pv 1) rfl)
  (pss_cons (ps_fld (pv 0) (pv 2) rfl)
  (pss_cons (ps_fld (pv 0) (pv 3) rfl)
  (pss_one (ps_fld (pv 0) (pe_joined (PJ.cons pe_str (PJ.cons (pe_fmt (pv 1)) (PJ.cons pe_str (PJ.cons (pe_fmt (pv 2)) (PJ.cons pe_str (PJ.cons (pe_fmt (pe_fld (pv 3) rfl)) PJ.nil))))))) rfl)))))))), ?_⟩
    refine seq_when (!isNum k) (fun R q => ?_) (fun e => ?_) (fun e => ?_)
    · exact ⟨_, rfl, k, o1, rfl, hk, _, rfl, q⟩
    · exact ⟨_, rfl, fun d hd0 => kE _ (due_keep (by simpa using e)) d hd0⟩
    have eK : isNum k = true := by simpa using e
    refine seq_when (!isNum wt) (fun R q => ?_) (fun e => ?_) (fun e => ?_)
    · exact ⟨_, rfl, wt, o2, rfl, hw, _, rfl, q⟩
    · exact ⟨_, rfl, fun d hd0 => kE _ (due_wait eK (by simpa using e)) d hd0⟩
    have eW : isNum wt = true := by simpa using e
    refine seq_when (!o.isSome) (fun R q => ?_) (fun e => ?_) (fun e => ?_)
    · exact ⟨_, rfl, _, _, tR, _, _, rfl, .own CR, tyR.ty, tyR.rule, _, rfl, q⟩
    · exact ⟨_, rfl, fun d hd0 => kE _ (due_rule eK eW (by simpa using e)) d hd0⟩
    have eO : o.isSome = true := by simpa using e
    have aK := aK eK
    have aWt := aWt eW
    obtain ⟨i, rfl⟩ := isNum_int eK
    obtain ⟨j, rfl⟩ := isNum_int eW
    cases hrr with
    | any => cases eO
    | house => cases eO
    | @rule ar dr fr t har lar zt =>
      have k0 := kQ t (due_none eK eW eO) rfl
      have nx : ar ≠ x := fun e => by
        rw [e, hx] at har
        cases har
        cases lar
      refine ⟨_, rfl, _, rfl, x, CH, dx, _, rfl, hx, T.oH.cl, T.m_keep, (by decide), ?_⟩
      refine ⟨_, rfl, _, rfl, x, CH, dx, _, rfl, upd_same, T.oH.cl, T.m_wait, (by show (1 : Nat) < 1000; decide), ?_⟩
      rw [upd_upd]
      refine ⟨_, rfl, _, rfl, x, CH, dx, _, rfl, upd_same, T.oH.cl, T.m_rule, (by show (2 : Nat) < 1000; decide), ?_⟩
      rw [upd_upd]
      have hi : i.natAbs ≤ 1000 := aK
      have hj : j.natAbs ≤ 1000 := aWt
      have li : (Str.ofString (toString i)).length ≤ 10 := str_int_len (by omega)
      have lj : (Str.ofString (toString j)).length ≤ 10 := str_int_len (by omega)
      have big : (1000 : Nat) ≤ sizeLine := fits 1000
      have L : ∀ a b : Str, (a ++ b).length = a.length + b.length := Str.length_append
      have e0 : Str.empty.length = 0 := rfl
      have e5 : (Str.ofString "keep ").length = 5 := rfl
      have e6 : (Str.ofString " wait ").length = 6 := rfl
      have e1 : (Str.ofString " ").length = 1 := rfl
      refine ⟨_, rfl, ?_, _, rfl, .inr ⟨i, rfl, log_ok (by omega), _, rfl, ?_, _, rfl, ?_, _, rfl, .inr ⟨j, rfl, log_ok (by omega), _, rfl, ?_, _, rfl, ?_, _, rfl, ar, CR, dr, fr, _, rfl, (by rw [upd_ne nx]; exact har), T.oR.cl, T.n_text, lar, .inl ⟨t, rfl, by omega, _, rfl, ?_, _, rfl, x, CH, dx, _, rfl, upd_same, T.oH.cl, T.m_text, (by show (3 : Nat) < 1000; decide), ?_⟩⟩⟩⟩
      · rw [L]; omega
      · rw [L, L]; omega
      · rw [L, L, L]; omega
      · rw [L, L, L, L]; omega
      · rw [L, L, L, L, L]; omega
      · rw [L, L, L, L, L, L]; omega
      · rw [upd_upd]
        refine k0 _ (fun b u nb e => by rw [upd_ne nb]; exact e) (by rw [upd_same]; rfl)
end
end K05
namespace K05
open PySem PySem.Spec PyProof.Rows L2 Mn StX
theorem units1 {k : Nat} {A : Around} (r : Room k A) : A.units + 1 < cLine := by have := r.units; omega
abbrev kwRKW : List Str := ["rule", "keep", "wait"]
/-- but's body: self, others -/
def spButB (CR CH IH : Addr) : Sp := fun vs H Q E => ∃ (x dx d : Addr) (fs : List (Str × V)) (k0 w0 r0 k w r : V) (o1 o2 o : Option Str), vs = [.ref x, .ref d] ∧ H x = some (.ins CH dx fs) ∧ fs.lookup ("keep" : Str) = some k0 ∧ fs.lookup ("wait" : Str) = some w0 ∧ fs.lookup ("rule" : Str) = some r0 ∧
  H d = some (.dK [(.inr "rule", r), (.inr "keep", k), (.inr "wait", w)]) ∧ KindO CR CH H k o1 ∧ KindO CR CH H w o2 ∧ KindO CR CH H r o ∧ (isNum k = true → AnyV H k) ∧ (isNum w = true → AnyV H w) ∧
  (∀ wd, due k w o = some wd → ∀ H1 e, Same H H1 → H1 e = none → E (.ref IH) (some e) (upd H1 e (.xd [("word", .str wd)]))) ∧
  (∀ t, due k w o = none → o = some t → ∀ H' a da, Same H H' → H a = none → H' a = some (.ins CH da (houseF k w r t)) → Q (.ref a) H')
/-- good.but(rule = r, keep = k, wait = w) -/
def spBut (CR CH IH : Addr) : Sp := fun vs H Q E => ∃ (x dx : Addr) (fs : List (Str × V)) (k0 w0 r0 k w r : V) (o1 o2 o : Option Str), vs = [.ref x, r, k, w] ∧ H x = some (.ins CH dx fs) ∧ fs.lookup ("keep" : Str) = some k0 ∧ fs.lookup ("wait" : Str) = some w0 ∧ fs.lookup ("rule" : Str) = some r0 ∧
  KindO CR CH H k o1 ∧ KindO CR CH H w o2 ∧ KindO CR CH H r o ∧ (isNum k = true → AnyV H k) ∧ (isNum w = true → AnyV H w) ∧
  (∀ wd, due k w o = some wd → ∀ H1 e, Same H H1 → H1 e = none → E (.ref IH) (some e) (upd H1 e (.xd [("word", .str wd)]))) ∧
  (∀ t, due k w o = none → o = some t → ∀ H' a da, Same H H' → H a = none → H' a = some (.ins CH da (houseF k w r t)) → Q (.ref a) H')
/-- str(house) -/
def spStr (CH : Addr) : Sp := fun vs H Q _ => ∃ (x dx : Addr) (fs : List (Str × V)) (t : Str), vs = [.ref x] ∧ H x = some (.ins CH dx fs) ∧ fs.lookup ("text" : Str) = some (V.str t) ∧ t.length ≤ 1000 ∧ Q (.str t) H
section
variable {P : Program} {w : World} {K : PySem.W.Frag} {mg : Str → Option Value} {base : Heap} {CR CH IH fIH aW aA : Addr}
abbrev s_House_but : Stmt := inClass (topS 20) 2
abbrev N_House_but : List Str := ["self", "others", "told"]
theorem sc_House_but : FnScope N_House_but ["self", "others"] (defScope s_House_but) := ⟨rfl, rfl, rfl, by decide +kernel, rfl, by decide +kernel, by decide +kernel⟩
theorem but_body {f : Addr} {cdv : Value} (T : Txt P K mg CR CH IH fIH aW aA) (G_House : Mc P w K mg base 3 "House" CH 4 (spHouse CR CH IH) []) (A : Around) (outer : List Env) (s : Shared) (H : Hp) (vs : List V) (Q : VK) (E : XK)
    (hr : Room 4 (A.deeper (envOfC "House.but" (defScope s_House_but) s.heap.objs.size f cdv))) (h : spButB CR CH IH vs H Q E) :
    ∃ t, PSs (cxOf (L2.CX P w) P w K mg base N_House_but "House.but" (defScope s_House_but) f cdv A outer s H E) (defBody s_House_but) t ∧ t { nx := fun _ H' => Q .non H', rt := Q } (L2.start N_House_but vs) H := by
  obtain ⟨x, dx, d, fs, k0, w0, r0, k, w, r, o1, o2, o, rfl, hx, lk, lw, lr, hd, hk, hw, hrr, aK, aW', kE, kQ⟩ := h
  have hu := units1 hr
  refine ⟨_, (pss_cons (ps_set (i := 2) sc_House_but.nd rfl (Or.inl rfl) (pe_disp (pps_cons pe_str (pe_fld (pv 0) rfl) (pps_cons pe_str (pe_fld (pv 0) rfl) (pps_cons pe_str (pe_fld (pv 0) rfl) pps_nil))) (by rfl) (by rfl) (fun z => by cases z) (by decide)))
  (pss_cons (ps_expr (pe_bm PySem.F.plainAttrs_dict PySem.F.slot_dict_update PySem.F.type_dict_update mt_update (pv 2) (pa_cons (pv 1) pa_nil)))
  (pss_one (ps_ret (pe_cmE G_House (takes_of rfl rfl rfl rfl) (fun _ _ _ _ h => h) hr (by omega) rfl (pa_cons (pe_dget hu (pv 2) pe_str (fun _ _ => rfl)) (pa_cons (pe_dget hu (pv 2) pe_str (fun _ _ => rfl)) (pa_cons (pe_dget hu (pv 2) pe_str (fun _ _ => rfl)) pa_nil)))))))), ?_⟩
  refine fun p np => ⟨_, rfl, x, CH, dx, fs, k0, rfl, by rw [upd_ne (ne_of_none hx np)]; exact hx, T.oH.cl, T.m_keep, lk, _, rfl, x, CH, dx, fs, w0, rfl, by rw [upd_ne (ne_of_none hx np)]; exact hx, T.oH.cl, T.m_wait, lw, _, rfl, x, CH, dx, fs, r0, rfl, by rw [upd_ne (ne_of_none hx np)]; exact hx, T.oH.cl, T.m_rule, lr, upd_same, [(.inr "keep", k0), (.inr "wait", w0), (.inr "rule", r0)], rfl, (by show (3 : Nat) ≤ 15; decide), ?_⟩
  rw [upd_upd]
  have em : mergeK [] [((.inr "keep" : Key), k0), (.inr "wait", w0), (.inr "rule", r0)] = [(.inr "keep", k0), (.inr "wait", w0), (.inr "rule", r0)] := rfl
  rw [em]
  have npd : d ≠ p := ne_of_none hd np
  refine ⟨_, rfl, .inr (.inr (.inl ⟨rfl, .inl ⟨_, upd_same⟩⟩)), _, rfl, p, d, [((.inr "keep" : Key), k0), (.inr "wait", w0), (.inr "rule", r0)], [((.inr "rule" : Key), r), (.inr "keep", k), (.inr "wait", w)], rfl, rfl, upd_same, by rw [upd_ne npd]; exact hd, Ne.symm npd, fits 6, ?_⟩
  rw [upd_upd]
  have em2 : mergeK [((.inr "keep" : Key), k0), (.inr "wait", w0), (.inr "rule", r0)] [((.inr "rule" : Key), r), (.inr "keep", k), (.inr "wait", w)] = [(.inr "keep", k), (.inr "wait", w), (.inr "rule", r)] := rfl
  rw [em2]
  have hp : upd H p (.dK [((.inr "keep" : Key), k), (.inr "wait", w), (.inr "rule", r)]) p = some (.dK [((.inr "keep" : Key), k), (.inr "wait", w), (.inr "rule", r)]) := upd_same
  generalize eHp : upd H p (.dK [((.inr "keep" : Key), k), (.inr "wait", w), (.inr "rule", r)]) = Hp at hp ⊢
  have s1 : Same H Hp := by rw [← eHp]; exact Same.nw np
  refine ⟨_, rfl, p, k, rfl, .inl ⟨_, .inr "keep", .inl hp, rfl, rfl⟩, _, rfl, p, w, rfl, .inl ⟨_, .inr "wait", .inl hp, rfl, rfl⟩, _, rfl, p, r, rfl, .inl ⟨_, .inr "rule", .inl hp, rfl, rfl⟩, fun y dy ny ndy nxy => ?_⟩
  have s2 : Same Hp (upd (upd Hp dy (.own y)) y (.ins CH dy [])) := fun b o e => by
    rw [upd_ne (ne_of_none e ny), upd_ne (ne_of_none e ndy)]
    exact e
  have s12 := s1.trans s2
  refine ⟨y, dy, k, w, r, o1, o2, o, rfl, upd_same, hk.same s12, hw.same s12, hrr.same s12, fun e => (aK e).same s12, fun e => (aW' e).same s12, fun wd hwd e ne => ?_, fun t hn ho H' k1 k2 => ?_⟩
  · exact kE wd hwd _ e s12 ne
  · exact ⟨rfl, kQ t hn ho H' y dy (fun b u e => k1 b u (ne_of_none (s1 _ _ e) ny) (s12 _ _ e)) (s1.free ny) k2⟩
theorem ok_but {f : Addr} {oc kV doc pm cdv ct : Value} {od an : Option Addr} {osl : Array (Option Value)} (T : Txt P K mg CR CH IH fIH aW aA) (G_House : Mc P w K mg base 3 "House" CH 4 (spHouse CR CH IH) [])
    (lk : K.lookup f = some ⟨oc, od, .func (PySem.W.fnOf "but" "House.but" (defArgs s_House_but) (defBody s_House_but) (defScope s_House_but) .none kV doc pm an cdv ct), osl⟩) (hcd : PySem.W.codeIn K cdv "House.but" = true) :
    FnKw P w K mg base (L2.CX P w) 5 f kwRKW (spBut CR CH IH) := by
  have F := fn_kw (ps := ["self"]) (pd := "others") (ks := kwRKW) (k := 4) (N := N_House_but) (base := base) (mg := mg) (w := w) (P := P) (sp := spButB CR CH IH) (CX := L2.CX P w) lk hcd sc_House_but cxUp (by decide) (by decide)
    (fun us ws hu hw => match us, hu, ws, hw with | [_], _, [_, _, _], _ => rfl) (fun A outer s H vs Q E hr h => but_body T G_House A outer s H vs Q E hr h)
  intro A outer s H us ws vs zs Q E hr e0 rv rz hl h
  refine F A outer s H us ws vs zs Q E hr e0 rv rz hl ?_
  obtain ⟨x, dx, fs, k0, w0, r0, k, w, r, o1, o2, o, e, hx, l1, l2, l3, hk, hw, hrr, aK, aW, kE, kQ⟩ := h
  obtain ⟨z1, z2, z3, rfl⟩ : ∃ a b c, zs = [a, b, c] := match zs, hl with | [a, b, c], _ => ⟨a, b, c, rfl⟩
  obtain ⟨rfl, e2⟩ : vs = [V.ref x] ∧ [z1, z2, z3] = [r, k, w] := List.append_inj' e rfl
  cases e2
  refine ⟨[.ref x], [r, k, w], rfl, rfl, rfl, fun d nd => ?_⟩
  have s1 : Same H (upd H d (.dK ((kwRKW.map Sum.inr).zip [r, k, w]))) := Same.nw nd
  exact ⟨x, dx, d, fs, k0, w0, r0, k, w, r, o1, o2, o, rfl, s1 _ _ hx, l1, l2, l3, upd_same, hk.same s1, hw.same s1, hrr.same s1, fun e => (aK e).same s1, fun e => (aW e).same s1, fun wd hwd H1 e q ne => kE wd hwd H1 e (s1.trans q) ne,
    fun t hn ho H' a da q na ha => kQ t hn ho H' a da (s1.trans q) (s1.free na) ha⟩
abbrev s_House___str__ : Stmt := inClass (topS 20) 4
abbrev N_House___str__ : List Str := ["self"]
theorem sc_House___str__ : FnScope N_House___str__ ["self"] (defScope s_House___str__) := ⟨rfl, rfl, rfl, by decide +kernel, rfl, by decide +kernel, by decide +kernel⟩
theorem ok_str {f : Addr} {fd : FuncData} (F : Fun K "__str__" "House.__str__" s_House___str__ f fd) (T : Txt P K mg CR CH IH fIH aW aA) : FnOk P w K mg base (L2.CX P w) 1 f fd ["self"] (spStr CH) := by
  refine F.okX sc_House___str__ (fun vs H Q E h => ?_) (fun cdv A outer s H vs Q E hr h => ?_)
  · obtain ⟨x, dx, fs, t, rfl, _⟩ := h
    rfl
  · obtain ⟨x, dx, fs, t, rfl, hx, l, z, k⟩ := h
    refine ⟨_, (pss_one (ps_ret (pe_joined1 (pe_fmt (pe_fld (pv 0) rfl))))), ?_⟩
    exact ⟨_, rfl, x, CH, dx, fs, _, rfl, hx, T.oH.cl, T.m_text, l, .inl ⟨t, rfl, Nat.le_trans z (fits 1000), k⟩⟩
end
end K05
namespace K05
open PySem PySem.Spec PyProof.Rows L2 Mn StX
section
variable {P : Program} {w : World} {K : PySem.W.Frag} {mg : Str → Option Value} {base : Heap} {CR CH IH fIH aW aA : Addr}
/-- a drawn rule -/
def spRule : Sp := fun vs H Q _ => ∃ b, vs = [.ref b] ∧ BoxAt H b ∧ ∀ t a wy h s H', Bx b H H' → t ≠ b → H t = none → H' t = some (.tup [a, wy, .bl h, .bl s]) → okAsks a = true → okWay wy = true → AnyV H' a → AnyV H' wy → Q (.ref t) H'
abbrev s_law_rule : Stmt := topS 25
abbrev N_law_rule : List Str := ["_law_box_here", "_law_asks"]
theorem sc_law_rule : FnScope N_law_rule ["_law_box_here"] (defScope s_law_rule) := ⟨rfl, rfl, rfl, by decide +kernel, rfl, by decide +kernel, by decide +kernel⟩
theorem ok_rule {f : Addr} {fd : FuncData} (F : At K mg "_law_rule" s_law_rule f fd) (T : TB mg) (G_law_take : Cl P w K mg base 1 "_law_take" spTake) (G_law_pick : Cl P w K mg base 2 "_law_pick" (spPick K)) : FnOk P w K mg base (L2.CX P w) 3 f fd ["_law_box_here"] spRule := by
  refine F.fn.okX sc_law_rule (fun vs H Q E h => ?_) (fun cdv A outer s H vs Q E hr h => ?_)
  · obtain ⟨b, rfl, _⟩ := h
    rfl
  · obtain ⟨b, rfl, hb, kQ⟩ := h
    refine ⟨_, (pss_cons (ps_set (i := 1) sc_law_rule.nd rfl (Or.inl rfl) (pe_k0 (G_law_pick) hr (by omega) rfl (pa_cons (pv 0) (pa_cons (pe_lstN (pa_cons pe_str (pa_cons pe_str (pa_cons pe_int (pa_cons pe_int (pa_cons pe_int pa_nil)))))) pa_nil))))
  (pss_one (ps_ret (pe_tupN (pa_cons (pv 1) (pa_cons (pe_k0 (G_law_pick) hr (by omega) rfl (pa_cons (pv 0) (pa_cons (pe_lstN (pa_cons pe_str (pa_cons pe_str (pa_cons pe_str pa_nil)))) pa_nil))) (pa_cons (pe_cmpR op_eq (pe_k0 (G_law_take) hr (by omega) rfl (pa_cons (pv 0) (pa_cons pe_int pa_nil))) pe_int (nomark _)) (pa_cons (pe_cmpR op_eq (pe_k0 (G_law_take) hr (by omega) rfl (pa_cons (pv 0) (pa_cons pe_int pa_nil))) pe_int (nomark _)) pa_nil)))))))), ?_⟩
    refine ⟨_, rfl, fits 5, fun p1 H1 n1 e1 h1 => ?_⟩
    have b1 := Bx.of_same hb e1
    refine ⟨b, p1, _, rfl, b1.box, box_ne hb n1, SqL.of h1, by decide, by decide, fun i x H2 hx b2 => ?_⟩
    have hxo : okAsks x = true ∧ ∀ H, AnyV H x := by
      match i, hx with
      | 0, hx => cases Option.some.inj hx; exact ⟨by decide +kernel, fun _ => (by show Str.length _ ≤ 1000; decide +kernel)⟩
      | 1, hx => cases Option.some.inj hx; exact ⟨by decide +kernel, fun _ => (by show Str.length _ ≤ 1000; decide +kernel)⟩
      | 2, hx => cases Option.some.inj hx; exact ⟨by decide +kernel, fun _ => (by show Int.natAbs _ ≤ 1000; decide +kernel)⟩
      | 3, hx => cases Option.some.inj hx; exact ⟨by decide +kernel, fun _ => (by show Int.natAbs _ ≤ 1000; decide +kernel)⟩
      | 4, hx => cases Option.some.inj hx; exact ⟨by decide +kernel, fun _ => (by show Int.natAbs _ ≤ 1000; decide +kernel)⟩
      | i + 5, hx => simp at hx
    refine ⟨_, rfl, _, rfl, fits 3, fun p3 H3 n3 e3 h3 => ?_⟩
    refine ⟨b, p3, _, rfl, b2.box.same e3, box_ne b2.box n3, SqL.of h3, by decide, by decide, fun j y H4 hy b4 => ?_⟩
    have hyo : okWay y = true ∧ ∀ H, AnyV H y := by
      match j, hy with
      | 0, hy => cases Option.some.inj hy; exact ⟨by decide +kernel, fun _ => (by show Str.length _ ≤ 1000; decide +kernel)⟩
      | 1, hy => cases Option.some.inj hy; exact ⟨by decide +kernel, fun _ => (by show Str.length _ ≤ 1000; decide +kernel)⟩
      | 2, hy => cases Option.some.inj hy; exact ⟨by decide +kernel, fun _ => (by show Str.length _ ≤ 1000; decide +kernel)⟩
      | j + 3, hy => simp at hy
    refine ⟨_, rfl, b, 3, rfl, by decide, by decide, b4.box, fun d1 H5 _ _ b5 => ⟨rfl, _, rfl, b, 3, rfl, by decide, by decide, b5.box, fun d2 H6 _ _ b6 => ⟨rfl, fits 4, fun t H7 n7 e7 h7 => ?_⟩⟩⟩
    have bb : Bx b H H6 := b1.trans (b2.trans ((Bx.of_same b2.box e3).trans (b4.trans (b5.trans b6))))
    exact kQ t _ _ _ _ H7 (bb.trans (Bx.of_same bb.box e7)) (box_ne bb.box n7) (bb.free hb n7) h7 hxo.1 hyo.1 (hxo.2 _) (hyo.2 _)

/-- the text of a drawn rule -/
def spRuleText : Sp := fun vs H Q _ => ∃ (t : Addr) (a wy : V) (h s : Bool), vs = [.ref t] ∧ H t = some (.tup [a, wy, .bl h, .bl s]) ∧ okAsks a = true ∧ okWay wy = true ∧ AnyV H a ∧ AnyV H wy ∧ ∀ H', Same H H' → Q (.str (ruleText a wy h s)) H'
abbrev s_law_rule_text : Stmt := topS 26
abbrev N_law_rule_text : List Str := ["_law_manner", "_law_more"]
theorem sc_law_rule_text : FnScope N_law_rule_text ["_law_manner"] (defScope s_law_rule_text) := ⟨rfl, rfl, rfl, by decide +kernel, rfl, by decide +kernel, by decide +kernel⟩
theorem ok_rule_text {f : Addr} {fd : FuncData} (F : At K mg "_law_rule_text" s_law_rule_text f fd) (T : TB mg) : FnOk P w K mg base (L2.CX P w) 1 f fd ["_law_manner"] spRuleText := by
  refine F.fn.okX sc_law_rule_text (fun vs H Q E h => ?_) (fun cdv A outer s H vs Q E hr h => ?_)
  · obtain ⟨t, a, wy, h, s, rfl, _⟩ := h
    rfl
  · obtain ⟨t, a, wy, bh, bs, rfl, ht, eA, eW, hA, hW, kQ⟩ := h
    refine ⟨_, (pss_cons (ps_set (i := 1) sc_law_rule_text.nd rfl (Or.inl rfl) (pe_ifExp (pt_val (pe_ix ix_tup (pv 0) pe_int (fun _ _ => rfl))) (pe_lstN (pa_cons pe_str pa_nil)) (pe_lstN pa_nil)))
  (pss_one (ps_ret (pe_join pe_str (pe_op op_cat (pe_op op_cat (pe_lstN (pa_cons pe_str (pa_cons (pe_callTy call_str2 rfl T.b_str (by decide +kernel) (pa_cons (pe_ix ix_tup (pv 0) pe_int (fun _ _ => rfl)) pa_nil)) (pa_cons pe_str (pa_cons (pe_ix ix_tup (pv 0) pe_int (fun _ _ => rfl)) pa_nil))))) (pv 1)) (pe_ifExp (pt_val (pe_ix ix_tup (pv 0) pe_int (fun _ _ => rfl))) (pe_lstN (pa_cons pe_str pa_nil)) (pe_lstN pa_nil))))))), ?_⟩
    have l1 := strT_asks eA hA
    have l2 := strT_way eW
    obtain ⟨wv, rfl⟩ : ∃ t, wy = .str t := by cases wy <;> first | exact ⟨_, rfl⟩ | cases eW
    have l2' : wv.length ≤ 10 := l2
    have l3 := moreN_len bh bs 2
    have e4 : (Str.ofString "asks").length = 4 := rfl
    have e2 : (Str.ofString "by").length = 2 := rfl
    have e1 : (Str.ofString " ").length = 1 := rfl
    have big : (1000 : Nat) ≤ sizeLine := fits 1000
    refine ⟨_, rfl, t, _, 2, _, rfl, rfl, SqT.of ht, rfl, _, rfl, ?_⟩
    refine iteNewL (xs := [.str "holds"]) (ys := []) (fits 1) (fits 0) fun p1 H1 n1 s1 h1 => ?_
    have ht1 := s1 _ _ ht
    have hl1 : (if bh then [V.str "holds"] else []).length ≤ 1 := by cases bh <;> decide
    refine ⟨⟨_, rfl⟩, _, rfl, t, _, 0, _, rfl, rfl, SqT.of ht1, rfl, a, strT a, rfl, strV_of eA hA, _, rfl, t, _, 1, _, rfl, rfl, SqT.of ht1, rfl, fits 4, fun p2 H2 n2 s2 h2 => ⟨_, rfl, _, _, _, _, rfl, rfl, h2, s2 _ _ h1, ?_, fun p3 n3 => ?_⟩⟩
    · show 4 + _ ≤ _
      omega
    have s3 : Same H2 (upd H2 p3 (.lst ([V.str "asks", V.str (strT a), V.str "by", V.str wv] ++ (if bh then [V.str "holds"] else [])))) := Same.nw n3
    have h3 : upd H2 p3 (.lst ([V.str "asks", V.str (strT a), V.str "by", V.str wv] ++ (if bh then [V.str "holds"] else []))) p3 = _ := upd_same
    generalize eH3 : upd H2 p3 (.lst ([V.str "asks", V.str (strT a), V.str "by", V.str wv] ++ (if bh then [V.str "holds"] else []))) = H3 at s3 h3 ⊢
    have s13 := (s1.trans s2).trans s3
    refine ⟨_, rfl, t, _, 3, _, rfl, rfl, SqT.of (s13 _ _ ht), rfl, _, rfl, ?_⟩
    refine iteNewL (xs := [.str "shares"]) (ys := []) (fits 1) (fits 0) fun p4 H4 n4 s4 h4 => ?_
    refine ⟨_, _, _, _, rfl, rfl, s4 _ _ h3, h4, ?_, fun p5 n5 => ⟨_, p5, Str.ofString "asks" :: strT a :: Str.ofString "by" :: wv :: moreN bh bs 2, rfl, rfl, .inl (SqL.of ?_), ?_, ?_⟩⟩
    · have hl4 : (if bs then [V.str "shares"] else []).length ≤ 1 := by cases bs <;> decide
      rw [List.length_append]
      show 4 + _ + _ ≤ _
      omega
    · rw [upd_same]
      cases bh <;> cases bs <;> rfl
    · simp only [List.map_cons, List.sum_cons, List.length_cons, e4, e2, e1]
      omega
    · exact kQ _ ((s13.trans s4).trans (Same.nw n5))
/-- a drawn house -/
def spDHouse : Sp := fun vs H Q _ => ∃ b, vs = [.ref b] ∧ BoxAt H b ∧ ∀ t (k w : Int) tr a wy h s H', Bx b H H' → t ≠ b → H t = none → 0 ≤ k → k < 4 → 0 ≤ w → w < 7 → H' t = some (.tup [.int k, .int w, .ref tr]) → H' tr = some (.tup [a, wy, .bl h, .bl s]) → okAsks a = true → okWay wy = true → AnyV H' a → AnyV H' wy → Q (.ref t) H'
abbrev s_law_house : Stmt := topS 27
abbrev N_law_house : List Str := ["_law_box_here"]
theorem sc_law_house : FnScope N_law_house ["_law_box_here"] (defScope s_law_house) := ⟨rfl, rfl, rfl, by decide +kernel, rfl, by decide +kernel, by decide +kernel⟩
theorem ok_dhouse {f : Addr} {fd : FuncData} (F : At K mg "_law_house" s_law_house f fd) (T : TB mg) (G_law_take : Cl P w K mg base 1 "_law_take" spTake) (G_law_rule : Cl P w K mg base 3 "_law_rule" spRule) : FnOk P w K mg base (L2.CX P w) 4 f fd ["_law_box_here"] spDHouse := by
  refine F.fn.okX sc_law_house (fun vs H Q E h => ?_) (fun cdv A outer s H vs Q E hr h => ?_)
  · obtain ⟨b, rfl, _⟩ := h
    rfl
  · obtain ⟨b, rfl, hb, kQ⟩ := h
    refine ⟨_, (pss_one (ps_ret (pe_tupN (pa_cons (pe_k0 (G_law_take) hr (by omega) rfl (pa_cons (pv 0) (pa_cons pe_int pa_nil))) (pa_cons (pe_k0 (G_law_take) hr (by omega) rfl (pa_cons (pv 0) (pa_cons pe_int pa_nil))) (pa_cons (pe_k0 (G_law_rule) hr (by omega) rfl (pa_cons (pv 0) pa_nil)) pa_nil)))))), ?_⟩
    refine ⟨_, rfl, b, 4, rfl, by decide, by decide, hb, fun k H1 k0 k1 b1 => ⟨_, rfl, b, 7, rfl, by decide, by decide, b1.box, fun wt H2 w0 w1 b2 => ⟨_, rfl, b, rfl, b2.box, fun tr a wy h s H3 b3 nb nn ht oA oW aA aW => ⟨fits 3, fun t H4 n4 s4 h4 => ?_⟩⟩⟩⟩
    have bb := b1.trans (b2.trans b3)
    exact kQ t k wt tr a wy h s H4 (bb.trans (Bx.of_same bb.box s4)) (box_ne bb.box n4) (bb.free hb n4) k0 k1 w0 w1 h4 (s4 _ _ ht) oA oW (aA.same s4) (aW.same s4)
def spHouseText : Sp := fun vs H Q _ => ∃ (t tr : Addr) (k w : Int) (a wy : V) (h s : Bool), vs = [.ref t] ∧ 0 ≤ k ∧ k < 4 ∧ 0 ≤ w ∧ w < 7 ∧ H t = some (.tup [.int k, .int w, .ref tr]) ∧ H tr = some (.tup [a, wy, .bl h, .bl s]) ∧ okAsks a = true ∧ okWay wy = true ∧ AnyV H a ∧ AnyV H wy ∧
  ∀ H', Same H H' → Q (.str (houseText k w (ruleText a wy h s))) H'
abbrev s_law_house_text : Stmt := topS 28
abbrev N_law_house_text : List Str := ["_law_ground"]
theorem sc_law_house_text : FnScope N_law_house_text ["_law_ground"] (defScope s_law_house_text) := ⟨rfl, rfl, rfl, by decide +kernel, rfl, by decide +kernel, by decide +kernel⟩
theorem ok_house_text {f : Addr} {fd : FuncData} (F : At K mg "_law_house_text" s_law_house_text f fd) (T : TB mg) (G_law_rule_text : Cl P w K mg base 1 "_law_rule_text" spRuleText) : FnOk P w K mg base (L2.CX P w) 2 f fd ["_law_ground"] spHouseText := by
  refine F.fn.okX sc_law_house_text (fun vs H Q E h => ?_) (fun cdv A outer s H vs Q E hr h => ?_)
  · obtain ⟨t, tr, k, w, a, wy, h, s, rfl, _⟩ := h
    rfl
  · obtain ⟨t, tr, k, w, a, wy, h, s, rfl, k0, k1, w0, w1, ht, htr, oA, oW, aA, aW, kQ⟩ := h
    refine ⟨_, (pss_one (ps_ret (pe_join pe_str (pe_lstN (pa_cons pe_str (pa_cons (pe_callTy call_str2 rfl T.b_str (by decide +kernel) (pa_cons (pe_ix ix_tup (pv 0) pe_int (fun _ _ => rfl)) pa_nil)) (pa_cons pe_str (pa_cons (pe_callTy call_str2 rfl T.b_str (by decide +kernel) (pa_cons (pe_ix ix_tup (pv 0) pe_int (fun _ _ => rfl)) pa_nil)) (pa_cons (pe_k0 (G_law_rule_text) hr (by omega) rfl (pa_cons (pe_ix ix_tup (pv 0) pe_int (fun _ _ => rfl)) pa_nil)) pa_nil))))))))), ?_⟩
    have lt := ruleText_len oA aA oW h s
    have lk : (Str.ofString (toString k)).length ≤ 10 := str_int_len (by omega)
    have lw : (Str.ofString (toString w)).length ≤ 10 := str_int_len (by omega)
    refine ⟨⟨_, rfl⟩, _, rfl, t, _, 0, _, rfl, rfl, SqT.of ht, rfl, .int k, Str.ofString (toString k), rfl, .inl ⟨k, rfl, log_ok (by omega), rfl⟩, _, rfl, t, _, 1, _, rfl, rfl, SqT.of ht, rfl, .int w, Str.ofString (toString w), rfl, .inl ⟨w, rfl, log_ok (by omega), rfl⟩,
      _, rfl, t, _, 2, _, rfl, rfl, SqT.of ht, rfl, tr, a, wy, h, s, rfl, htr, oA, oW, aA, aW, fun H1 s1 => ⟨fits 5, fun p H2 n2 s2 h2 => ⟨_, p, [Str.ofString "keep", Str.ofString (toString k), Str.ofString "wait", Str.ofString (toString w), ruleText a wy h s], rfl, rfl, .inl (SqL.of h2), ?_, ?_⟩⟩⟩
    · have e4 : (Str.ofString "keep").length = 4 := rfl
      have e2 : (Str.ofString "wait").length = 4 := rfl
      have e1 : (Str.ofString " ").length = 1 := rfl
      simp only [List.map_cons, List.map_nil, List.sum_cons, List.sum_nil, List.length_cons, List.length_nil, e4, e2, e1]
      omega
    · rw [house_text]
      exact kQ H2 (s1.trans s2)
/-- Rule(..) of a drawn rule -/
def spRuleOf (CR : Addr) : Sp := fun vs H Q _ => ∃ (t : Addr) (a wy : V) (h s : Bool), vs = [.ref t] ∧ H t = some (.tup [a, wy, .bl h, .bl s]) ∧ okAsks a = true ∧ okWay wy = true ∧ AnyV H a ∧ AnyV H wy ∧
  ∀ H' x dx, Same H H' → H x = none → H' x = some (.ins CR dx [("asks", a), ("way", wy), ("holds", .bl h), ("shares", .bl s), ("text", .str (ruleText a wy h s))]) → Q (.ref x) H'
abbrev s_law_rule_of : Stmt := topS 29
abbrev N_law_rule_of : List Str := ["_law_manner"]
theorem sc_law_rule_of : FnScope N_law_rule_of ["_law_manner"] (defScope s_law_rule_of) := ⟨rfl, rfl, rfl, by decide +kernel, rfl, by decide +kernel, by decide +kernel⟩
theorem ok_rule_of {f : Addr} {fd : FuncData} (F : At K mg "_law_rule_of" s_law_rule_of f fd) (T : TB mg) (G_Rule : Mc P w K mg base 3 "Rule" CR 5 (spInit CR) []) : FnOk P w K mg base (L2.CX P w) 5 f fd ["_law_manner"] (spRuleOf CR) := by
  refine F.fn.okX sc_law_rule_of (fun vs H Q E h => ?_) (fun cdv A outer s H vs Q E hr h => ?_)
  · obtain ⟨t, a, wy, h, s, rfl, _⟩ := h
    rfl
  · obtain ⟨t, a, wy, bh, bs, rfl, ht, eA, eW, hA, hW, kQ⟩ := h
    refine ⟨_, (pss_one (ps_ret (pe_cm0 (G_Rule) hr (by omega) rfl (pa_cons (pe_ix ix_tup (pv 0) pe_int (fun _ _ => rfl)) (pa_cons (pe_ix ix_tup (pv 0) pe_int (fun _ _ => rfl)) (pa_cons (pe_ix ix_tup (pv 0) pe_int (fun _ _ => rfl)) (pa_cons (pe_ix ix_tup (pv 0) pe_int (fun _ _ => rfl)) pa_nil))))))), ?_⟩
    refine ⟨_, rfl, t, _, 0, _, rfl, rfl, SqT.of ht, rfl, _, rfl, t, _, 1, _, rfl, rfl, SqT.of ht, rfl, _, rfl, t, _, 2, _, rfl, rfl, SqT.of ht, rfl, _, rfl, t, _, 3, _, rfl, rfl, SqT.of ht, rfl, fun x dx nx ndx nex => ?_⟩
    have s0 : Same H (upd (upd H dx (.own x)) x (.ins CR dx [])) := fun b o e => by
      rw [upd_ne (ne_of_none e nx), upd_ne (ne_of_none e ndx)]
      exact e
    exact ⟨x, dx, a, wy, bh, bs, rfl, upd_same, hA.same s0, hW.same s0, eA, eW, fun H' k1 k2 => ⟨rfl, kQ H' x dx (fun b u e => k1 b u (ne_of_none e nx) (s0 _ _ e)) nx k2⟩⟩
/-- the law's own look at a number -/
abbrev s_law_is_number : Stmt := topS 31
abbrev N_law_is_number : List Str := ["_law_value"]
theorem sc_law_is_number : FnScope N_law_is_number ["_law_value"] (defScope s_law_is_number) := ⟨rfl, rfl, rfl, by decide +kernel, rfl, by decide +kernel, by decide +kernel⟩
theorem ok_lnum {f : Addr} {fd : FuncData} (F : At K mg "_law_is_number" s_law_is_number f fd) (T : Txt P K mg CR CH IH fIH aW aA) : FnOk P w K mg base (L2.CX P w) 1 f fd ["_law_value"] (spIsNum CR CH) := by
  refine F.fn.okX sc_law_is_number (fun vs H Q E h => ?_) (fun cdv A outer s H vs Q E hr h => ?_)
  · obtain ⟨x, o, rfl, _⟩ := h
    rfl
  · obtain ⟨x, o, rfl, hx, k⟩ := h
    obtain ⟨t, ty⟩ := tyO T hx
    refine ⟨_, (pss_one (ps_ret (pe_and (pe_callB call_isi rfl T.b_isinstance (by decide +kernel) (pa_cons (pv 0) (pa_cons (pe_bty "int" rfl T.b_int (by decide +kernel)) pa_nil))) (pe_and (pe_not (pe_callB call_isi rfl T.b_isinstance (by decide +kernel) (pa_cons (pv 0) (pa_cons (pe_bty "bool" rfl T.b_bool (by decide +kernel)) pa_nil)))) (pe_one (pe_cmpR op_ge (pv 0) pe_int (nomark _))))))), ?_⟩
    refine ⟨_, rfl, _, _, t, _, _, rfl, .ty "int", ty.ty, ty.int, _, rfl, ?_⟩
    refine ite2 (fun h0 => ?_) (fun h0 => ?_)
    · refine ⟨_, rfl, _, _, t, _, _, rfl, .ty "bool", ty.ty, ty.bool, _, rfl, _, rfl, ?_⟩
      cases x with
      | int i => exact ⟨_, rfl, _, _, rfl, rfl, k⟩
      | bl b => exact k
      | _ => cases h0
    · have e : false = isNum x := by cases x <;> first | rfl | exact (h0 rfl).elim
      rw [e]
      exact k
/-- the list of three that the law holds -/
def spDue (K : PySem.W.Frag) (CR CH : Addr) : Sp := fun vs H Q _ => ∃ (l : Addr) (k w r : V) (o1 o2 o : Option Str), vs = [.ref l] ∧ SqL K H l [k, w, r] ∧ KindO CR CH H k o1 ∧ KindO CR CH H w o2 ∧ KindO CR CH H r o ∧ Q (dueV k w o) H
abbrev s_law_due : Stmt := topS 32
abbrev N_law_due : List Str := ["_law_told"]
theorem sc_law_due : FnScope N_law_due ["_law_told"] (defScope s_law_due) := ⟨rfl, rfl, rfl, by decide +kernel, rfl, by decide +kernel, by decide +kernel⟩
theorem ok_due {f : Addr} {fd : FuncData} (F : At K mg "_law_due" s_law_due f fd) (T : Txt P K mg CR CH IH fIH aW aA) (G_law_is_number : Cl P w K mg base 1 "_law_is_number" (spIsNum CR CH)) : FnOk P w K mg base (L2.CX P w) 2 f fd ["_law_told"] (spDue K CR CH) := by
  refine F.fn.okX sc_law_due (fun vs H Q E h => ?_) (fun cdv A outer s H vs Q E hr h => ?_)
  · obtain ⟨l, k, w, r, o1, o2, o, rfl, _⟩ := h
    rfl
  · obtain ⟨l, k, wt, r, o1, o2, o, rfl, hl, hk, hw, hrr, kQ⟩ := h
    obtain ⟨tR, tyR⟩ := tyO T hrr
    refine ⟨_, (pss_cons (ps_if (pt_not (pt_val (pe_k0 (G_law_is_number) hr (by omega) rfl (pa_cons (pe_ix ix_list (pv 0) pe_int (fun _ _ => rfl)) pa_nil)))) (pss_one (ps_ret pe_str)) pss_nil)
  (pss_cons (ps_if (pt_not (pt_val (pe_k0 (G_law_is_number) hr (by omega) rfl (pa_cons (pe_ix ix_list (pv 0) pe_int (fun _ _ => rfl)) pa_nil)))) (pss_one (ps_ret pe_str)) pss_nil)
  (pss_one (ps_ret (pe_ifExp (pt_val (pe_callB call_isi rfl T.b_isinstance (by decide +kernel) (pa_cons (pe_ix ix_list (pv 0) pe_int (fun _ _ => rfl)) (pa_cons (pe_gc rfl T.g_Rule) pa_nil)))) pe_non pe_str))))), ?_⟩
    unfold dueV at kQ
    refine seq_when (!isNum k) (fun R q => ?_) (fun e => ?_) (fun e => ?_)
    · exact ⟨_, rfl, l, _, 0, _, rfl, rfl, hl, rfl, k, o1, rfl, hk, _, rfl, q⟩
    · rw [due_keep (by simpa using e)] at kQ
      exact kQ
    have eK : isNum k = true := by simpa using e
    refine seq_when (!isNum wt) (fun R q => ?_) (fun e => ?_) (fun e => ?_)
    · exact ⟨_, rfl, l, _, 1, _, rfl, rfl, hl, rfl, wt, o2, rfl, hw, _, rfl, q⟩
    · rw [due_wait eK (by simpa using e)] at kQ
      exact kQ
    have eW : isNum wt = true := by simpa using e
    refine ⟨_, rfl, l, _, 2, _, rfl, rfl, hl, rfl, _, _, tR, _, _, rfl, .own CR, tyR.ty, tyR.rule, _, rfl, ?_⟩
    refine iteB (fun e => ?_) (fun e => ?_)
    · rw [due_none eK eW e] at kQ
      exact kQ
    · rw [due_rule eK eW e] at kQ
      exact kQ
end
end K05
namespace K05
open PySem PySem.Spec PyProof.Rows L2 Mn StX LamX
structure Txt2 (K : PySem.W.Frag) (mg : Str → Option Value) (IH ME IR : Addr) : Prop where
  g_MoveError : ∃ u, mg "MoveError" = some u ∧ RelV (.ref ME) u
  g_InvalidRule : ∃ u, mg "InvalidRule" = some u ∧ RelV (.ref IR) u
  isME : PySem.W.kitOne K (.ref IH) (.ref ME) = some true
  isIR : PySem.W.kitOne K (.ref IH) (.ref IR) = some false
  exD : ExcD K IH
  xf : XfC K IH
  exm : PySem.W.exmOne K (.ref IH) (.ref IH) = some true
/-- what _law_refused makes of the work it is given -/
def TTref (IH : Addr) : (XK → Hp → VK → Prop) → Hp → VK → Prop := fun tl H Q =>
  tl (fun cls d H' => cls = .ref IH ∧ ∃ d' wd, d = some d' ∧ H' d' = some (.xd [("word", .str wd)]) ∧ Q (.str wd) H') H (fun _ H' => ∃ x, some (some V.non) = some (some x) ∧ Q x H')
def t_ts (K : PySem.W.Frag) (IH ME IR : Addr) : Addr → Value → Option Addr → TS := fun a cls d => tAsg (tIf (tAnd (tB (tCB (rIsD K IH a cls d) (tCons (tVar 2) (tCons (tC (.ref ME)) tNil)))) (tNot (tB (tCB (rIsD K IH a cls d) (tCons (tVar 2) (tCons (tC (.ref IR)) tNil)))))) (tXf a cls d IH "word" (tVar 2)) (tC (.str "other"))) (gName 1)
theorem takes_len {X : Cx} {W : WX} (t : L2.Takes X W) : L2.Takes X (fun c d σ H => σ.length = X.N.length → W c d σ H) := fun u s' ⟨a, B, sI, pins, σ, H, cls, d, e, I, nb, up, sky, na, os, ag, w⟩ => t u s' ⟨a, B, sI, pins, σ, H, cls, d, e, I, nb, up, sky, na, os, ag, w I.len⟩
abbrev s_law_refused : Stmt := topS 33
abbrev N_law_refused : List Str := ["_law_work", "_law_found", "e"]
theorem sc_law_refused : FnScope N_law_refused ["_law_work"] (defScope s_law_refused) := ⟨rfl, rfl, rfl, by decide +kernel, rfl, by decide +kernel, by decide +kernel⟩
theorem refused_gives {X : Cx} {CR CH IH fIH aW aA ME IR g : Addr} {q : Str} {cdg : Value} (T : Txt X.prog X.K X.mg CR CH IH fIH aW aA) (U : Txt2 X.K X.mg IH ME IR) :
    GivesTo X N_law_refused "_law_refused" (defScope s_law_refused) g cdg (defBody s_law_refused) "_law_work" q (TTref IH) := by
  intro f c' s H Q tl act hc h
  refine ⟨_, (pss_cons (ps_set (i := 1) sc_law_refused.nd rfl (Or.inl rfl) pe_non)
   (pss_cons (ps_try_as (X := (cxOf C8.CX0 X.prog X.w X.K X.mg X.base N_law_refused "_law_refused" (defScope s_law_refused) g cdg X.A X.stack s H C8.E0).nox) (i := 2)
      (tb := fun W D σ H => ∃ Ech : XK, (∀ cls d σ' H', Ech cls d H' → σ'.length = 3 → W cls d σ' H') ∧ σ[0]? = some (some (.ref f)) ∧ H c' = some (CodeO c' q) ∧ tl Ech H (fun _ H1 => D.nx σ H1)) (ts := t_ts X.K IH ME IR) (Wout := fun _ _ _ _ => False)
      rfl rfl sc_law_refused.nd rfl rfl ⟨rfl, by decide, Or.inl T.x_InvalidHouse.gC⟩ LamX.takes0 (fun W pn xe tk _ => ?_)
      (fun a oe cls d pn hz hf => (pss_one (ps_set (i := 1) sc_law_refused.nd rfl (Or.inl rfl) (pe_ifExp (PW.pt (pw_and (pt_val (pe_callB (call_isD U.exD hz hf) rfl T.b_isinstance (by decide +kernel) (pa_cons (pv 2) (pa_cons (pe_gc rfl U.g_MoveError) pa_nil)))) (pw_and1 (pt_not (pt_val (pe_callB (call_isD U.exD hz hf) rfl T.b_isinstance (by decide +kernel) (pa_cons (pv 2) (pa_cons (pe_gc rfl U.g_InvalidRule) pa_nil)))))))) (pe_xf U.xf T.x_InvalidHouse.noN hz hf (pv 2)) pe_str)))))
   (pss_one (ps_ret (pv 1))))), ?_⟩
  · refine ⟨fun pins s' σ H' D I h' => ?_⟩
    obtain ⟨Ech, hW, h1, h2, h3⟩ := h'
    exact (pss_one (ps_expr (act (fun c d σ H => σ.length = 3 → W c d σ H) pn xe Ech _ _ (takes_len tk) hW))).run pins s' σ H' D I ⟨h1, h2, h3⟩
  · refine ⟨(fun cls d H' => cls = .ref IH ∧ ∃ d' wd, d = some d' ∧ H' d' = some (.xd [("word", .str wd)]) ∧ Q (.str wd) H'), ?_, rfl, hc, h⟩
    · rintro cls d σ' H' ⟨rfl, d', wd, rfl, hd, hQ⟩ hl
      obtain ⟨v0, v1, v2, rfl⟩ : ∃ a b c, σ' = [a, b, c] := match σ', hl with | [a, b, c], _ => ⟨a, b, c, rfl⟩
      refine ⟨true, U.exm, fun _ a0 na0 => ?_, fun q => nomatch q⟩
      refine ⟨_, rfl, _, _, _, d', _, rfl, rfl, rfl, (fun u hu => hu), hd, U.isME, _, rfl, ?_⟩
      refine iteT ⟨_, rfl, _, _, _, d', _, rfl, rfl, rfl, (fun u hu => hu), hd, U.isIR, _, rfl, ?_⟩
      refine iteT ⟨_, rfl, rfl, rfl, d', _, _, rfl, hd, rfl, _, rfl, ?_⟩
      exact hQ
end K05
namespace K05
open PySem PySem.Spec PyProof.Rows L2 Mn StX LamX
abbrev qLam : Str := (("law" : Str) ++ ".<locals>.") ++ "<lambda>"
def spLaw (K : PySem.W.Frag) (P0 : Addr) : Sp := fun vs H Q _ => ∃ (a : Addr) (ns : List Int), vs = [.ref a] ∧ H P0 = some (.tbl #[]) ∧ SqL K H a (ns.map V.int) ∧ ns.length ≤ 63 ∧ ∀ H', Q (.bl true) H'
/-- all but lists and tables stand -/
theorem nl_tabs {P0 : Addr} {q : Str} {H H' : Hp} (t : Tabs [(P0, q)] H) (k : ∀ a u, H a = some u → (∀ xs, u ≠ .lst xs) → H' a = some u) : Tabs [(P0, q)] H' := fun p hp => by
  obtain ⟨ps, h1, h2, h3⟩ := t p hp
  refine ⟨ps, k _ _ h1 (fun xs z => by cases z), h2, fun pos cv hc => ?_⟩
  obtain ⟨c, e1, e2⟩ := h3 pos cv hc
  exact ⟨c, e1, k _ _ e2 (fun xs z => by unfold CodeO at z; cases z)⟩
/-- nothing but a table stood at b -/
def NewN (H0 : Hp) (b : Addr) : Prop := ∀ o, H0 b = some o → (∀ ps, o ≠ .tbl ps) → False
theorem extN_new {H0 H : Hp} {b : Addr} (e : ExtN H0 H) (n : H b = none) : NewN H0 b := fun o h q => by
  rw [e _ _ h q] at n
  cases n
theorem extN_seq {K : PySem.W.Frag} {H H' : Hp} {l : Addr} {xs : List V} (e : ExtN H H') (h : SqL K H l xs) : SqL K H' l xs := by
  rcases h with (h | ⟨o, h⟩) | h
  · exact .inl (.inl (e _ _ h fun _ z => by cases z))
  · exact .inl (.inr ⟨o, e _ _ h fun _ z => by cases z⟩)
  · exact .inr h
/-- what stands in the law's loops -/
structure TI (P0 b : Addr) (H0 H : Hp) : Prop where
  ext : ExtN H0 H
  tab : Tabs [(P0, qLam)] H
  box : BoxAt H b
theorem not_tbl_lst {xs : List V} {ps : Array Value} : HO.lst xs ≠ .tbl ps := fun z => by cases z
theorem TI.same {P0 b : Addr} {H0 H H' : Hp} (t : TI P0 b H0 H) (s : Same H H') : TI P0 b H0 H' := ⟨t.ext.trans (ExtN.of s), t.tab.ext s, t.box.same s⟩
theorem TI.bx {P0 b : Addr} {H0 H H' : Hp} (t : TI P0 b H0 H) (nb : NewN H0 b) (s : Bx b H H') : TI P0 b H0 H' :=
  ⟨fun c o e n => s.keep c o (fun q => nb o (q ▸ e) n) (t.ext c o e n), nl_tabs t.tab fun a u e n => s.keep a u (fun q => by
    obtain ⟨x, y, z, h⟩ := t.box
    rw [q, h] at e
    exact n _ (Option.some.inj e).symm) e, s.box⟩
theorem TI.upd {P0 b l : Addr} {H0 H : Hp} {xs ys : List V} (t : TI P0 b H0 H) (hl : H l = some (.lst xs)) (n0 : NewN H0 l) (nb : l ≠ b) : TI P0 b H0 (upd H l (.lst ys)) :=
  ⟨fun c o e n => by rw [upd_ne (fun q => n0 o (by rw [← q]; exact e) n)]; exact t.ext c o e n, nl_tabs t.tab fun a u e n => by
    rw [upd_ne]
    · exact e
    · intro q
      rw [q, hl] at e
      exact n _ (Option.some.inj e).symm, by
    obtain ⟨x, y, z, h⟩ := t.box
    exact ⟨x, y, z, by rw [upd_ne (Ne.symm nb)]; exact h⟩⟩
theorem TI.extN {P0 b : Addr} {H0 H H' : Hp} (t : TI P0 b H0 H) (e : ExtN H H') (t' : Tabs [(P0, qLam)] H') : TI P0 b H0 H' := ⟨t.ext.trans e, t', by
  obtain ⟨x, y, z, h⟩ := t.box
  exact ⟨x, y, z, e _ _ h fun ps => not_tbl_lst⟩⟩
section
variable {P : Program} {w : World} {K : PySem.W.Frag} {mg : Str → Option Value} {base : Heap} {CR CH IH fIH aW aA ME IR : Addr}
theorem KindO.num {H : Hp} {v : V} {o : Option Str} (k : KindO CR CH H v o) (h : isNum v = true) : AnyV H v := by
  cases k with
  | any x => exact x
  | house => cases h
  | rule => cases h
theorem any_extN {H H' : Hp} (e : ExtN H H') {v : V} (h : AnyV H v) : AnyV H' v := by
  cases v with
  | ref a =>
    rcases h with ⟨xs, h⟩ | ⟨xs, h⟩
    · exact .inl ⟨xs, e _ _ h fun _ => not_tbl_lst⟩
    · exact .inr ⟨xs, e _ _ h fun _ z => by cases z⟩
  | _ => exact h
theorem KindO.extN {H H' : Hp} {v : V} {o : Option Str} (k : KindO CR CH H v o) (e : ExtN H H') : KindO CR CH H' v o := k.ext (fun a u h ⟨C, dx, fs, z⟩ => e a u h fun ps y => by rw [z] at y; cases y) fun x => any_extN e x
/-- the list of three that the law holds -/
def Told (CR CH : Addr) (H : Hp) (l : Addr) : Prop := ∃ k w r o1 o2 o, H l = some (.lst [k, w, r]) ∧ KindO CR CH H k o1 ∧ KindO CR CH H w o2 ∧ KindO CR CH H r o
theorem Told.bx {b l : Addr} {H H' : Hp} (n : l ≠ b) (hb : BoxAt H b) (x : Bx b H H') (t : Told CR CH H l) : Told CR CH H' l := by
  obtain ⟨k, w, r, o1, o2, o, e, h1, h2, h3⟩ := t
  exact ⟨k, w, r, o1, o2, o, x.keep _ _ n e, h1.bx hb x, h2.bx hb x, h3.bx hb x⟩
theorem Told.same {l : Addr} {H H' : Hp} (x : Same H H') (t : Told CR CH H l) : Told CR CH H' l := by
  obtain ⟨k, w, r, o1, o2, o, e, h1, h2, h3⟩ := t
  exact ⟨k, w, r, o1, o2, o, x _ _ e, h1.same x, h2.same x, h3.same x⟩
theorem told_set {H : Hp} {l : Addr} {v : V} {ov : Option Str} (t : Told CR CH H l) (hv : KindO CR CH H v ov) (j : Nat) : ∃ xs, H l = some (.lst xs) ∧ xs.length = 3 ∧ Told CR CH (upd H l (.lst (xs.set j v))) l := by
  obtain ⟨k, w, r, o1, o2, o, e, h1, h2, h3⟩ := t
  refine ⟨_, e, rfl, ?_⟩
  match j with
  | 0 => exact ⟨_, _, _, _, _, _, upd_same, hv.upd e, h2.upd e, h3.upd e⟩
  | 1 => exact ⟨_, _, _, _, _, _, upd_same, h1.upd e, hv.upd e, h3.upd e⟩
  | 2 => exact ⟨_, _, _, _, _, _, upd_same, h1.upd e, h2.upd e, hv.upd e⟩
  | j + 3 => exact ⟨_, _, _, _, _, _, upd_same, h1.upd e, h2.upd e, h3.upd e⟩
/-- what is known of a turn's drawn house behind it -/
def Fx (CH : Addr) (H : Hp) (x4 x5 x6 x8 : Option V) : Prop := ∃ (k w : Int) (tr g dg ar : Addr) (a wy : V) (h s : Bool), x4 = some (.int k) ∧ x5 = some (.int w) ∧ x6 = some (.ref tr) ∧ x8 = some (.ref g) ∧ 0 ≤ k ∧ k < 4 ∧ 0 ≤ w ∧ w < 7 ∧
  H tr = some (.tup [a, wy, .bl h, .bl s]) ∧ okAsks a = true ∧ okWay wy = true ∧ (∀ H, AnyV H a) ∧ (∀ H, AnyV H wy) ∧ H g = some (.ins CH dg (houseF (.int k) (.int w) (.ref ar) (ruleText a wy h s)))
theorem Fx.keep {H H' : Hp} {x4 x5 x6 x8 : Option V} (f : Fx CH H x4 x5 x6 x8) (e : ∀ a u, H a = some u → (∀ xs, u ≠ .lst xs) → (∀ ps, u ≠ .tbl ps) → H' a = some u) : Fx CH H' x4 x5 x6 x8 := by
  obtain ⟨k, w, tr, g, dg, ar, a, wy, h, s, e1, e2, e3, e4, k0, k1, w0, w1, ht, oA, oW, aA, aW, hg⟩ := f
  exact ⟨k, w, tr, g, dg, ar, a, wy, h, s, e1, e2, e3, e4, k0, k1, w0, w1, e _ _ ht (fun xs z => by cases z) (fun xs z => by cases z), oA, oW, aA, aW, e _ _ hg (fun xs z => by cases z) (fun xs z => by cases z)⟩
theorem Fx.same {H H' : Hp} {x4 x5 x6 x8 : Option V} (f : Fx CH H x4 x5 x6 x8) (e : Same H H') : Fx CH H' x4 x5 x6 x8 := f.keep fun a u h _ _ => e a u h
theorem Fx.bx {b : Addr} {H H' : Hp} {x4 x5 x6 x8 : Option V} (f : Fx CH H x4 x5 x6 x8) (hb : BoxAt H b) (e : Bx b H H') : Fx CH H' x4 x5 x6 x8 := f.keep fun a u h n _ => e.keep a u (fun q => by
  obtain ⟨x, y, z, hh⟩ := hb
  rw [q, hh] at h
  exact n _ (Option.some.inj h).symm) h
theorem Fx.upd {l : Addr} {xs ys : List V} {H : Hp} {x4 x5 x6 x8 : Option V} (f : Fx CH H x4 x5 x6 x8) (hl : H l = some (.lst xs)) : Fx CH (upd H l (.lst ys)) x4 x5 x6 x8 := f.keep fun a u h n _ => by
  rw [upd_ne]
  · exact h
  · intro q
    rw [q, hl] at h
    exact n _ (Option.some.inj h).symm
theorem Fx.extN {H H' : Hp} {x4 x5 x6 x8 : Option V} (f : Fx CH H x4 x5 x6 x8) (e : ExtN H H') : Fx CH H' x4 x5 x6 x8 := f.keep fun a u h _ n => e a u h n
theorem due_repr (k w : V) (o : Option Str) : dueV k w o = .non ∨ (∃ b, dueV k w o = .bl b) ∨ ∃ t, dueV k w o = .str t ∧ (reprText t).length ≤ sizeLine := by
  unfold dueV due
  cases isNum k <;> cases isNum w <;> cases o.isSome <;> first
    | exact .inl rfl
    | exact .inr (.inr ⟨_, rfl, Nat.le_trans (show _ ≤ 1000 by decide +kernel) (fits 1000)⟩)
theorem but_len : ∀ vs H Q E, spBut CR CH IH vs H Q E → vs.length = kwRKW.length + 1 := fun vs H Q E h => by
  obtain ⟨x, dx, fs, k0, w0, r0, k, w, r, o1, o2, o, rfl, _⟩ := h
  rfl
theorem any_asks {a : V} (h : okAsks a = true) {H H' : Hp} (x : AnyV H a) : AnyV H' a := by
  cases a <;> first | exact x | cases h
theorem any_way {a : V} (h : okWay a = true) {H H' : Hp} (x : AnyV H a) : AnyV H' a := by
  cases a <;> first | exact x | cases h
theorem lam1_ok {H : Hp} {l : Addr} {k w r : V} {o1 o2 o : Option Str} {σ : L2.St} {Qc : VK} (hσ : σ[7]? = some (some (.ref l))) (hl : H l = some (.lst [k, w, r])) (hk : KindO CR CH H k o1) (hw : KindO CR CH H w o2) (hr : KindO CR CH H r o) (h : ∀ H', Same H H' → Qc (dueV k w o) H') :
    TTref IH (fun E H' Q' => tMake CH (spHouse CR CH IH) [] E (tCons (tOp (rIxL K) (tVar 7) (tC (.int 0))) (tCons (tOp (rIxL K) (tVar 7) (tC (.int 1))) (tCons (tOp (rIxL K) (tVar 7) (tC (.int 2))) tNil))) σ H' Q') H Qc := by
  refine ⟨_, hσ, l, _, 0, _, rfl, rfl, SqL.of hl, rfl, _, hσ, l, _, 1, _, rfl, rfl, SqL.of hl, rfl, _, hσ, l, _, 2, _, rfl, rfl, SqL.of hl, rfl, fun y dy ny ndy nyd => ?_⟩
  have s2 : Same H (upd (upd H dy (.own y)) y (.ins CH dy [])) := fun b u e => by
    rw [upd_ne (ne_of_none e ny), upd_ne (ne_of_none e ndy)]
    exact e
  refine ⟨y, dy, k, w, r, o1, o2, o, rfl, upd_same, hk.same s2, hw.same s2, hr.same s2, (hk.same s2).num, (hw.same s2).num, fun wd hwd d nd => ⟨rfl, d, wd, rfl, upd_same, ?_⟩, fun t hn ho H' k1 k2 => ⟨rfl, _, rfl, ?_⟩⟩
  · have z := h _ (s2.trans (Same.nw nd (o := .xd [("word", .str wd)])))
    unfold dueV at z
    rw [hwd] at z
    exact z
  · have z := h H' fun b u e => k1 b u (ne_of_none e ny) (s2 _ _ e)
    unfold dueV at z
    rw [hn] at z
    exact z
theorem lam2_ok {H : Hp} {l g dg : Addr} {k w r k0 w0 r0 : V} {t0 : Str} {o1 o2 o : Option Str} {σ : L2.St} {Qc : VK} (hσ : σ[7]? = some (some (.ref l))) (hσ8 : σ[8]? = some (some (.ref g))) (hg : H g = some (.ins CH dg (houseF k0 w0 r0 t0))) (hl : H l = some (.lst [k, w, r])) (hk : KindO CR CH H k o1) (hw : KindO CR CH H w o2) (hr : KindO CR CH H r o) (h : ∀ H', Same H H' → Qc (dueV k w o) H') :
    TTref IH (fun E H' Q' => tMethKw CH "but" (spBut CR CH IH) E (tVar 8) (tCons (tOp (rIxL K) (tVar 7) (tC (.int 2))) (tCons (tOp (rIxL K) (tVar 7) (tC (.int 0))) (tCons (tOp (rIxL K) (tVar 7) (tC (.int 1))) tNil))) σ H' Q') H Qc := by
  refine ⟨_, hσ8, g, dg, _, rfl, hg, rfl, _, hσ, l, _, 2, _, rfl, rfl, SqL.of hl, rfl, _, hσ, l, _, 0, _, rfl, rfl, SqL.of hl, rfl, _, hσ, l, _, 1, _, rfl, rfl, SqL.of hl, rfl, ?_⟩
  refine ⟨g, dg, _, k0, w0, r0, k, w, r, o1, o2, o, rfl, hg, rfl, rfl, rfl, hk, hw, hr, hk.num, hw.num, fun wd hwd H1 d s1 nd => ⟨rfl, d, wd, rfl, upd_same, ?_⟩, fun t hn ho H' a da s1 na ha => ⟨_, rfl, ?_⟩⟩
  · have z := h _ (s1.trans (Same.nw nd (o := .xd [("word", .str wd)])))
    unfold dueV at z
    rw [hwd] at z
    exact z
  · have z := h H' s1
    unfold dueV at z
    rw [hn] at z
    exact z
theorem houseText_len {k w : Int} {t : Str} (k0 : 0 ≤ k) (k1 : k < 4) (w0 : 0 ≤ w) (w1 : w < 7) (h : t.length ≤ 100) : (houseText k w t).length ≤ 1000 := by
  have li : (Str.ofString (toString k)).length ≤ 10 := str_int_len (by omega)
  have lj : (Str.ofString (toString w)).length ≤ 10 := str_int_len (by omega)
  have L : ∀ a b : Str, (a ++ b).length = a.length + b.length := Str.length_append
  have e0 : Str.empty.length = 0 := rfl
  have e5 : (Str.ofString "keep ").length = 5 := rfl
  have e6 : (Str.ofString " wait ").length = 6 := rfl
  have e1 : (Str.ofString " ").length = 1 := rfl
  unfold houseText
  rw [L, L, L, L, L, L]
  omega
abbrev s_law : Stmt := topS 35
abbrev N_law : List Str := ["_law_script", "_law_k", "_law_box_here", "_law_turn", "_law_keep_one", "_law_wait_one", "_law_rule_one", "_law_told", "_law_good", "_law_more", "_law_odd"]
theorem sc_law : FnScope N_law ["_law_script"] (defScope s_law) := ⟨rfl, rfl, rfl, by decide +kernel, rfl, by decide +kernel, by decide +kernel⟩
theorem ok_law {f g c0 P0 fB fS : Addr} {oc dV kV doc pm ct oc1 kV1 dV1 doc1 pm1 cd1 ct1 : Value} {od an od1 an1 : Option Addr} {osl osl1 : Array (Option Value)} {fdS : FuncData}
    (T : Txt P K mg CR CH IH fIH aW aA) (U : Txt2 K mg IH ME IR)
    (lk : K.lookup f = some ⟨oc, od, .func (PySem.W.fnOf "law" "law" (defArgs s_law) (defBody s_law) (defScope s_law) dV kV doc pm an (.ref c0) ct), osl⟩) (hcd : PySem.W.codeIn K (.ref c0) "law" = true)
    (mgR : mg "_law_refused" = some (.ref g)) (kpR : PySem.W.keepIn K (.ref g) = true) (lkR : K.lookup g = some ⟨oc1, od1, .func (PySem.W.fnOf "_law_refused" "_law_refused" (defArgs s_law_refused) (defBody s_law_refused) (defScope s_law_refused) dV1 kV1 doc1 pm1 an1 cd1 ct1), osl1⟩) (cdR : PySem.W.codeIn K cd1 "_law_refused" = true)
    (bR : Binds K (PySem.W.fnOf "_law_refused" "_law_refused" (defArgs s_law_refused) (defBody s_law_refused) (defScope s_law_refused) dV1 kV1 doc1 pm1 an1 cd1 ct1) ["_law_work"] []) (TBc : TabB base mg c0 P0)
    (hmB : Meth K CH "but" fB) (F_but : FnKw P w K mg base (L2.CX P w) 5 fB kwRKW (spBut CR CH IH)) (F_str : FnOk P w K mg base (L2.CX P w) 1 fS fdS ["self"] (spStr CH)) (b_str : Binds K fdS ["self"] []) (s_at : PySem.W.findIn K (.ref CH) "__str__" = some (some (.ref fS))) (s_fn : PySem.W.isFn K (.ref fS) = true)
    (G_House : Mc P w K mg base 3 "House" CH 4 (spHouse CR CH IH) []) (G_law_take : Cl P w K mg base 1 "_law_take" spTake) (G_law_pick : Cl P w K mg base 2 "_law_pick" (spPick K))
    (G_law_box : Cl P w K mg base 1 "_law_box" (spBox K)) (G_law_house : Cl P w K mg base 4 "_law_house" spDHouse) (G_law_any : Cl P w K mg base 6 "_law_any" (spAny 3)) (G_law_deep : Cl P w K mg base 4 "_law_deep" spDeep)
    (G_law_rule_of : Cl P w K mg base 5 "_law_rule_of" (spRuleOf CR)) (G_law_house_text : Cl P w K mg base 2 "_law_house_text" spHouseText) (G_law_due : Cl P w K mg base 2 "_law_due" (spDue K CR CH)) :
    FnOk P w K mg base (L2.CX P w) 8 f (PySem.W.fnOf "law" "law" (defArgs s_law) (defBody s_law) (defScope s_law) dV kV doc pm an (.ref c0) ct) ["_law_script"] (spLaw K P0) := by
  refine fn_of lk hcd sc_law (fun vs H Q E h => ?_) (fun A outer s H0 vs Q E hr h => ?_)
  · obtain ⟨a, ns, rfl, _⟩ := h
    rfl
  · obtain ⟨a, ns, rfl, hP, hS, hlen, kQ⟩ := h
    refine ⟨_, (pss_cons (ps_for (passes_of rfl) rfl (pi_range1 rfl T.b_range (pa_cons (pe_callB (call_max2 rfl) rfl T.b_max (by decide +kernel) (pa_cons pe_int (pa_cons (pe_callB (call_min2 rfl) rfl T.b_min (by decide +kernel) (pa_cons pe_int (pa_cons (pe_callB call_len rfl T.b_len (by decide +kernel) (pa_cons (pv 0) pa_nil)) pa_nil))) pa_nil))) pa_nil)) (pg_name (i := 1) sc_law.nd rfl (Or.inl rfl))
  (pss_cons (ps_set (i := 2) sc_law.nd rfl (Or.inl rfl) (pe_k0 (G_law_box) hr (by omega) rfl (pa_cons (pv 0) (pa_cons (pv 1) pa_nil))))
  (pss_cons (ps_for (passes_of rfl) rfl (pi_range1 rfl T.b_range (pa_cons pe_int pa_nil)) (pg_name (i := 3) sc_law.nd rfl (Or.inl rfl))
  (pss_cons (ps_asg (pe_k0 (G_law_house) hr (by omega) rfl (pa_cons (pv 2) pa_nil)) (pg_tup rfl (pgs_cons (pg_name (i := 4) sc_law.nd rfl (Or.inl rfl)) (pgs_cons (pg_name (i := 5) sc_law.nd rfl (Or.inl rfl)) (pgs_cons (pg_name (i := 6) sc_law.nd rfl (Or.inl rfl)) pgs_nil)))))
  (pss_cons (ps_set (i := 7) sc_law.nd rfl (Or.inr rfl) (pe_lstN (pa_cons (pv 4) (pa_cons (pv 5) (pa_cons (pe_k0 (G_law_rule_of) hr (by omega) rfl (pa_cons (pv 6) pa_nil)) pa_nil)))))
  (pss_cons (ps_set (i := 8) sc_law.nd rfl (Or.inr rfl) (pe_cm0 (G_House) hr (by omega) rfl (pa_cons (pe_ix ix_list (pv 7) pe_int (fun _ _ => rfl)) (pa_cons (pe_ix ix_list (pv 7) pe_int (fun _ _ => rfl)) (pa_cons (pe_ix ix_list (pv 7) pe_int (fun _ _ => rfl)) pa_nil)))))
  (pss_cons (ps_for (passes_of rfl) rfl (pi_range1 rfl T.b_range (pa_cons (pe_k0 (G_law_take) hr (by omega) rfl (pa_cons (pv 2) (pa_cons pe_int pa_nil))) pa_nil)) (pg_name (i := 9) sc_law.nd rfl (Or.inl rfl))
  (pss_cons (ps_set (i := 10) sc_law.nd rfl (Or.inl rfl) (pe_lstN (pa_cons (pe_k0 (G_law_any) hr (by omega) rfl (pa_cons (pv 2) (pa_cons pe_int pa_nil))) (pa_cons (pe_k0 (G_law_deep) hr (by omega) rfl (pa_cons (pv 2) pa_nil)) (pa_cons (pe_op op_sub pe_int pe_int) (pa_cons pe_bl (pa_cons pe_non (pa_cons pe_str (pa_cons pe_str (pa_cons (pv 8) pa_nil))))))))))
  (pss_one (ps_asg (pe_k0 (G_law_pick) hr (by omega) rfl (pa_cons (pv 2) (pa_cons (pv 10) pa_nil))) (pg_sub (pv 7) (pe_k0 (G_law_take) hr (by omega) rfl (pa_cons (pv 2) (pa_cons pe_int pa_nil))) set_list)))))
  (pss_cons (ps_if (pt_cmpR op_ne (pe_callB call_reprS rfl T.b_repr (by decide +kernel) (pa_cons (pe_lamcall (T := [(P0, qLam)]) (TT := TTref IH) (k := 5) (t := fun E => tMake CH (spHouse CR CH IH) [] E (tCons (tOp (rIxL K) (tVar 7) (tC (.int 0))) (tCons (tOp (rIxL K) (tVar 7) (tC (.int 1))) (tCons (tOp (rIxL K) (tVar 7) (tC (.int 2))) tNil)))) (Ng := N_law_refused) (c := c0) (P := P0) (a := "_law_work") rfl mgR kpR lkR cdR bR sc_law_refused rfl (Or.inl rfl) (refused_gives T U) TBc rfl (List.mem_singleton.mpr rfl) (fun p hp _ => (congrArg Prod.snd (List.mem_singleton.mp hp)).trans rfl) (hr.mono (by omega)) (lamS_by (sc := defScope s_law) (by decide +kernel)) rfl (fun _ _ _ _ _ => rfl) (fun A outer s H E f c' hr2 => pe_cmE G_House (takes_of rfl rfl rfl rfl) (fun _ _ _ _ h => h) hr2 (by omega) rfl (pa_cons (pe_ix ix_list (pv 7) pe_int (fun _ _ => rfl)) (pa_cons (pe_ix ix_list (pv 7) pe_int (fun _ _ => rfl)) (pa_cons (pe_ix ix_list (pv 7) pe_int (fun _ _ => rfl)) pa_nil))))) pa_nil)) (pe_callB call_reprS rfl T.b_repr (by decide +kernel) (pa_cons (pe_k0 (G_law_due) hr (by omega) rfl (pa_cons (pv 7) pa_nil)) pa_nil)) (nomark _)) (pss_one (ps_ret pe_bl)) pss_nil)
  (pss_one (ps_if (pt_cmpR op_ne (pe_callB call_reprS rfl T.b_repr (by decide +kernel) (pa_cons (pe_lamcall (T := [(P0, qLam)]) (TT := TTref IH) (k := 5) (t := fun E => tMethKw CH "but" (spBut CR CH IH) E (tVar 8) (tCons (tOp (rIxL K) (tVar 7) (tC (.int 2))) (tCons (tOp (rIxL K) (tVar 7) (tC (.int 0))) (tCons (tOp (rIxL K) (tVar 7) (tC (.int 1))) tNil)))) (Ng := N_law_refused) (c := c0) (P := P0) (a := "_law_work") rfl mgR kpR lkR cdR bR sc_law_refused rfl (Or.inl rfl) (refused_gives T U) TBc rfl (List.mem_singleton.mpr rfl) (fun p hp _ => (congrArg Prod.snd (List.mem_singleton.mp hp)).trans rfl) (hr.mono (by omega)) (lamS_by (sc := defScope s_law) (by decide +kernel)) rfl (fun _ _ _ _ _ => rfl) (fun A outer s H E f c' hr2 => pe_methKw (ks := kwRKW) (pv 8) T.oH.cl hmB F_but but_len (hr2.mono (by omega)) (passes_call (takes_of rfl rfl rfl rfl) (fun _ _ _ _ h => h)) (pk_cons (pe_ix ix_list (pv 7) pe_int (fun _ _ => rfl)) (pk_cons (pe_ix ix_list (pv 7) pe_int (fun _ _ => rfl)) (pk_cons (pe_ix ix_list (pv 7) pe_int (fun _ _ => rfl)) pk_nil))))) pa_nil)) (pe_callB call_reprS rfl T.b_repr (by decide +kernel) (pa_cons (pe_k0 (G_law_due) hr (by omega) rfl (pa_cons (pv 7) pa_nil)) pa_nil)) (nomark _)) (pss_one (ps_ret pe_bl)) pss_nil))))))))
  (pss_one (ps_if (pt_cmpR op_ne (pe_callTy (call_strO F_str b_str s_at s_fn hr (by omega)) rfl T.b_str (by decide +kernel) (pa_cons (pv 8) pa_nil)) (pe_k0 (G_law_house_text) hr (by omega) rfl (pa_cons (pe_tupN (pa_cons (pv 4) (pa_cons (pv 5) (pa_cons (pv 6) pa_nil)))) pa_nil)) (nomark _)) (pss_one (ps_ret pe_bl)) pss_nil)))))
  (pss_one (ps_ret pe_bl))), ?_⟩
    refine ⟨_, rfl, _, _, rfl, .inl ⟨_, hS, rfl⟩, _, _, rfl, _, _, rfl, ?_⟩
    generalize hn : (if (if ((ns.map V.int).length : Int) < 5 then ((ns.map V.int).length : Int) else 5) > 1 then (if ((ns.map V.int).length : Int) < 5 then ((ns.map V.int).length : Int) else 5) else 1) = n
    have hn5 : 0 ≤ n ∧ n ≤ 1000 := by
      subst hn
      rw [List.length_map]
      split <;> split <;> omega
    have hT0 : Tabs [(P0, qLam)] H0 := fun p hp => by
      rw [List.mem_singleton.mp hp]
      exact TabS.nil hP
    refine ⟨n, rfl, by omega, by omega, for_range (lo := 0) (n := n.toNat) (fun i σ H => ExtN H0 H ∧ Tabs [(P0, qLam)] H ∧ ∃ x1 x2 x3 x4 x5 x6 x7 x8 x9 x10, σ = [some (.ref a), x1, x2, x3, x4, x5, x6, x7, x8, x9, x10]) ⟨ExtN.refl _, hT0, _, _, _, _, _, _, _, _, _, _, rfl⟩ (fun i σ H hi p => ?_) (fun σ H p => ?_)⟩
    · obtain ⟨s0, tt, x1, x2, x3, x4, x5, x6, x7, x8, x9, x10, rfl⟩ := p
      refine ⟨_, rfl, _, rfl, a, ns, _, rfl, extN_seq s0 hS, by omega, by omega, by omega, fun b H1 nb s1 hb => ?_⟩
      have nb0 : NewN H0 b := extN_new s0 nb
      have ti1 : TI P0 b H0 H1 := ⟨s0.trans (ExtN.of s1), tt.ext s1, hb⟩
      refine ⟨8, rfl, by decide, by decide, for_range (lo := 0) (n := 8) (fun j σ H => TI P0 b H0 H ∧ ∃ x3 x4 x5 x6 x7 x8 x9 x10, σ = [some (.ref a), some (.int (0 + (i : Int))), some (.ref b), x3, x4, x5, x6, x7, x8, x9, x10] ∧ (0 < j → Fx CH H x4 x5 x6 x8)) ⟨ti1, _, _, _, _, _, _, _, _, rfl, fun z => absurd z (Nat.lt_irrefl _)⟩ (fun j σ H hj p => ?_) (fun σ H p => ?_)⟩
      · obtain ⟨ti, x3, x4, x5, x6, x7, x8, x9, x10, rfl, _⟩ := p
        refine ⟨_, rfl, b, rfl, ti.box, fun t k wt tr ra rw' rh rs H2 b2 tb tn k0 k1 w0 w1 ht htr oA oW aA' aW' => ?_⟩
        have ti2 := ti.bx nb0 b2
        refine ⟨t, _, rfl, SqT.of ht, rfl, _, _, rfl, _, _, rfl, _, _, rfl, rfl, ?_⟩
        refine ⟨_, rfl, _, rfl, _, rfl, tr, ra, rw', rh, rs, rfl, htr, oA, oW, aA', aW', fun H3 ar dar s3 nar har => ⟨fits 3, fun l H4 nl s4 hl => ?_⟩⟩
        have s34 := s3.trans s4
        have ti4 := (ti2.same s3).same s4
        have nl0 : NewN H0 l := extN_new (ti2.same s3).ext nl
        have lb : l ≠ b := box_ne (ti2.same s3).box nl
        have lt := ruleText_len oA aA' oW rh rs
        have hk4 : KindO CR CH H4 (.int k) none := .any (by show Int.natAbs _ ≤ 1000; omega)
        have hw4 : KindO CR CH H4 (.int wt) none := .any (by show Int.natAbs _ ≤ 1000; omega)
        have hr4 : KindO CR CH H4 (.ref ar) (some (ruleText ra rw' rh rs)) := .rule (s4 _ _ har) rfl (by omega)
        refine ⟨_, rfl, l, _, 0, _, rfl, rfl, SqL.of hl, rfl, _, rfl, l, _, 1, _, rfl, rfl, SqL.of hl, rfl, _, rfl, l, _, 2, _, rfl, rfl, SqL.of hl, rfl, fun g dg ng ndg nge => ?_⟩
        have sg : Same H4 (upd (upd H4 dg (.own g)) g (.ins CH dg [])) := fun c u e => by
          rw [upd_ne (ne_of_none e ng), upd_ne (ne_of_none e ndg)]
          exact e
        have dn : due (.int k) (.int wt) (some (ruleText ra rw' rh rs)) = none := due_none (decide_eq_true k0) (decide_eq_true w0) rfl
        refine ⟨g, dg, _, _, _, _, _, _, rfl, upd_same, hk4.same sg, hw4.same sg, hr4.same sg, (hk4.same sg).num, (hw4.same sg).num, fun wd hwd => (by rw [dn] at hwd; cases hwd), fun t' hn ho H5 q1 q2 => ⟨rfl, ?_⟩⟩
        obtain rfl : ruleText ra rw' rh rs = t' := Option.some.inj ho
        have s45 : Same H4 H5 := fun c u e => q1 c u (ne_of_none e ng) (sg _ _ e)
        have ti5 := ti4.same s45
        have told5 : Told CR CH H5 l := ⟨_, _, _, _, _, _, s45 _ _ hl, hk4.same s45, hw4.same s45, hr4.same s45⟩
        have fx5 : Fx CH H5 (some (.int k)) (some (.int wt)) (some (.ref tr)) (some (.ref g)) := ⟨k, wt, tr, g, dg, ar, ra, rw', rh, rs, rfl, rfl, rfl, rfl, k0, k1, w0, w1, s45 _ _ (s34 _ _ htr), oA, oW, fun _ => any_asks oA aA', fun _ => any_way oW aW', q2⟩
        refine ⟨_, rfl, b, 3, rfl, by decide, by decide, ti5.box, fun m H6 m0 m1 b6 => ⟨m, rfl, by omega, by omega, for_range (lo := 0) (n := m.toNat) (fun i' σ H => TI P0 b H0 H ∧ Told CR CH H l ∧ Fx CH H (some (.int k)) (some (.int wt)) (some (.ref tr)) (some (.ref g)) ∧
            ∃ x9 x10, σ = [some (.ref a), some (.int (0 + (i : Int))), some (.ref b), some (.int (0 + (j : Int))), some (.int k), some (.int wt), some (.ref tr), some (.ref l), some (.ref g), x9, x10])
          ⟨ti5.bx nb0 b6, told5.bx lb ti5.box b6, fx5.bx ti5.box b6, _, _, rfl⟩ (fun i' σ H hi' p => ?_) (fun σ H p => ?_)⟩⟩
        · obtain ⟨ti, tl, fx, x9, x10, rfl⟩ := p
          refine ⟨_, rfl, b, rfl, ti.box, fun v1 H7 b7 av1 => ⟨_, rfl, b, rfl, b7.box, fun v2 H8 b8 av2 => ⟨_, _, rfl, rfl, _, rfl, fits 8, fun p H9 n9 s9 h9 => ?_⟩⟩⟩
          have ti8 := (ti.bx nb0 b7).bx nb0 b8
          have ti9 := ti8.same s9
          have fx9 := ((fx.bx ti.box b7).bx b7.box b8).same s9
          have tl9 := ((tl.bx lb ti.box b7).bx lb b7.box b8).same s9
          have pb : p ≠ b := box_ne b8.box n9
          refine ⟨_, rfl, _, rfl, b, p, _, rfl, ti9.box, pb, SqL.of h9, Nat.zero_lt_succ _, (by show (8 : Nat) < 1000000; decide), fun iy y H10 hy b10 => ?_⟩
          have ay : KindO CR CH H9 y none := by
            have hm : y ∈ _ := List.mem_of_getElem? hy
            simp only [List.mem_cons, List.not_mem_nil, or_false] at hm
            rcases hm with rfl | rfl | rfl | rfl | rfl | rfl | rfl | rfl
            · exact .any ((av1.bx b8).same s9)
            · exact .any (av2.same s9)
            · exact .any (by show Int.natAbs _ ≤ 1000; decide)
            · exact .any trivial
            · exact .any trivial
            · exact .any (by show Str.length _ ≤ 1000; decide +kernel)
            · exact .any (by show Str.length _ ≤ 1000; decide +kernel)
            · obtain ⟨_, _, _, g', dg', _, _, _, _, _, _, _, _, e4, _, _, _, _, _, _, _, _, _, hg⟩ := fx9
              cases e4
              exact .house hg
          refine ⟨_, rfl, _, rfl, b, 3, rfl, by decide, by decide, b10.box, fun d H11 d0 d1 b11 => ?_⟩
          obtain ⟨dn', rfl⟩ := Int.eq_ofNat_of_zero_le d0
          have ti10 := ti9.bx nb0 b10
          have ti11 := ti10.bx nb0 b11
          have fx11 := (fx9.bx ti9.box b10).bx b10.box b11
          obtain ⟨xs, hx, hl4, tn⟩ := told_set ((tl9.bx lb ti9.box b10).bx lb b10.box b11) ((ay.bx ti9.box b10).bx b10.box b11) dn'
          refine ⟨l, xs, (dn' : Int), dn', rfl, rfl, hx, ?_, ?_⟩
          · unfold ixN
            rw [if_pos (by omega), if_pos (by omega)]
            rfl
          · exact ⟨ti11.upd hx nl0 lb, tn, fx11.upd hx, _, _, rfl⟩
        · obtain ⟨ti, ⟨k', w', r', o1, o2, o, hl6, hk6, hw6, hr6⟩, fx, x9, x10, rfl⟩ := p
          refine ⟨ti.tab, fun H7 eN T7 => lam1_ok rfl (eN _ _ hl6 fun _ => not_tbl_lst) (hk6.extN eN) (hw6.extN eN) (hr6.extN eN) fun H8 s8 => ⟨_, rfl, due_repr _ _ _, ?_⟩⟩
          have ti8 := (ti.extN eN T7).same s8
          have hl8 := s8 _ _ (eN _ _ hl6 fun _ => not_tbl_lst)
          have hk8 := (hk6.extN eN).same s8
          have hw8 := (hw6.extN eN).same s8
          have hr8 := (hr6.extN eN).same s8
          have fx8 := (fx.extN eN).same s8
          refine ⟨_, rfl, l, _, _, _, _, _, _, rfl, SqL.of hl8, hk8, hw8, hr8, _, rfl, due_repr _ _ _, ?_⟩
          refine ⟨rfl, _, rfl, iteNS rfl ?_⟩
          obtain ⟨k9, w9, tr9, g9, dg9, ar9, a9, wy9, h9, s9, e1, e2, e3, e4, r9⟩ := fx8
          cases e1
          cases e2
          cases e3
          cases e4
          have hg8 := r9.2.2.2.2.2.2.2.2.2
          refine ⟨ti8.tab, fun H10 eM T10 => lam2_ok rfl rfl (eM _ _ hg8 fun _ z => by cases z) (eM _ _ hl8 fun _ => not_tbl_lst) (hk8.extN eM) (hw8.extN eM) (hr8.extN eM) fun H11 s11 => ⟨_, rfl, due_repr _ _ _, ?_⟩⟩
          refine ⟨_, rfl, l, _, _, _, _, _, _, rfl, SqL.of (s11 _ _ (eM _ _ hl8 fun _ => not_tbl_lst)), (hk8.extN eM).same s11, (hw8.extN eM).same s11, (hr8.extN eM).same s11, _, rfl, due_repr _ _ _, ?_⟩
          refine ⟨rfl, _, rfl, iteNS rfl ?_⟩
          have fx8 : Fx CH H8 (some (.int k)) (some (.int wt)) (some (.ref tr)) (some (.ref g)) := ⟨k, wt, tr, g, dg9, ar9, a9, wy9, h9, s9, rfl, rfl, rfl, rfl, r9⟩
          exact ⟨(ti8.extN eM T10).same s11, _, _, _, _, _, _, _, _, rfl, fun _ => (fx8.extN eM).same s11⟩
      · obtain ⟨ti, x3, x4, x5, x6, x7, x8, x9, x10, rfl, fx⟩ := p
        obtain ⟨k, wt, tr, g, dg, ar, ra, rw', rh, rs, rfl, rfl, rfl, rfl, k0, k1, w0, w1, htr, oA, oW, aA, aW, hg⟩ := fx (by decide)
        have lt := ruleText_len oA (aA H) oW rh rs
        refine ⟨_, rfl, g, dg, _, rfl, hg, g, dg, _, houseText k wt (ruleText ra rw' rh rs), rfl, hg, rfl, ?_, ⟨_, rfl⟩, ?_⟩
        · exact houseText_len k0 k1 w0 w1 (by omega)
        refine ⟨_, rfl, _, rfl, _, rfl, fits 3, fun q H2 nq sq hq => ⟨q, tr, k, wt, ra, rw', rh, rs, rfl, k0, k1, w0, w1, hq, sq _ _ htr, oA, oW, aA _, aW _, fun H3 s3 => ⟨rfl, _, rfl, iteNS rfl ?_⟩⟩⟩
        exact ⟨(ti.ext.trans (ExtN.of sq)).trans (ExtN.of s3), (ti.tab.ext sq).ext s3, _, _, _, _, _, _, _, _, _, _, rfl⟩
    · obtain ⟨s0, tt, x1, x2, x3, x4, x5, x6, x7, x8, x9, x10, rfl⟩ := p
      exact kQ H
end
end K05
namespace K05
open PySem PySem.Spec PyProof.Rows L2 Mn StX LamX
theorem cx_false {P : Program} {w : World} {H : Hp} {s : Shared} {e : Value} {s' : Shared} (h : L2.CX P w [] H s (fun _ _ _ => False) e s') : False := by
  obtain ⟨_, _, _, _, _, _, _, _, _, _, _, _, z⟩ := h
  exact z.elim
theorem all_mk {l : PySem.W.OpenLaw} {w : World} {K : PySem.W.Frag} {h : Heap} {mg : Str → Option Value} {fa : Addr} (X : K.In h) (G : h.Ns mainGlobals mg) (hfa : mg "law" = some (.ref fa)) (own : OwnTab K fa h) (htop : (l.prog.main.scope.names.lookup ("super" : Str)).isSome = false) (hfile : ((l.prog.main.file : Str) == ("/claim/cut.py" : Str)) = true)
    {f1 : Addr} {o2 o3 : Option Addr} {s4 : Array (Option Value)} {v5 v6 v7 v8 v9 v10 : Value} {f11 : Addr} {o12 o13 : Option Addr} {s14 : Array (Option Value)} {v15 v16 v17 v18 v19 v20 : Value} {f21 : Addr} {o22 o23 : Option Addr} {s24 : Array (Option Value)} {v25 v26 v27 v28 v29 v30 : Value} {f31 : Addr} {o32 o33 : Option Addr} {s34 : Array (Option Value)} {v35 v36 v37 v38 v39 v40 : Value} {f41 : Addr} {o42 o43 : Option Addr} {s44 : Array (Option Value)} {v45 v46 v47 v48 v49 v50 : Value} {f51 : Addr} {o52 o53 : Option Addr} {s54 : Array (Option Value)} {v55 v56 v57 v58 v59 v60 : Value} {f61 : Addr} {o62 o63 : Option Addr} {s64 : Array (Option Value)} {v65 v66 v67 v68 v69 v70 : Value} {f71 : Addr} {o72 o73 : Option Addr} {s74 : Array (Option Value)} {v75 v76 v77 v78 v79 v80 : Value} {f81 : Addr} {o82 o83 : Option Addr} {s84 : Array (Option Value)} {v85 v86 v87 v88 v89 v90 : Value} {f91 : Addr} {o92 o93 : Option Addr} {s94 : Array (Option Value)} {v95 v96 v97 v98 v99 v100 : Value} {f101 : Addr} {o102 o103 : Option Addr} {s104 : Array (Option Value)} {v105 v106 v107 v108 v109 v110 : Value} {f111 : Addr} {o112 o113 : Option Addr} {s114 : Array (Option Value)} {v115 v116 v117 v118 v119 v120 : Value} {f121 : Addr} {o122 o123 : Option Addr} {s124 : Array (Option Value)} {v125 v126 v127 v128 v129 v130 : Value} {f131 : Addr} {o132 o133 : Option Addr} {s134 : Array (Option Value)} {v135 v136 v137 v138 v139 v140 : Value} {f141 : Addr} {o142 o143 : Option Addr} {s144 : Array (Option Value)} {v145 v146 v147 v148 v149 v150 : Value} {f151 : Addr} {o152 o153 : Option Addr} {s154 : Array (Option Value)} {v155 v156 v157 v158 v159 v160 : Value} {la c0 P0 : Addr} {lod lan lcd : Option Addr} {lsl lcs : Array (Option Value)} {loc lkV ldc lpm lct lcc : Value} {lvs : Array Value} {a161 : Addr} {k162 : Tok} {k163 : Tok} {o164 : Option Addr} {s165 : Array (Option Value)} {n166 : Nat} {a167 : Addr} {k168 : Tok} {k169 : Tok} {k170 : Tok} {o171 : Option Addr} {s172 : Array (Option Value)} {n173 : Nat} {k174 : Tok} {k175 : Tok} {CR : Addr} {CH : Addr} {f176 : Addr} {o177 o178 : Option Addr} {s179 : Array (Option Value)} {v180 v181 v182 v183 v184 v185 : Value} {t186 : Addr} {k187 : Tok} {o188 : Option Addr} {s189 : Array (Option Value)} {n190 : Nat} {v191 : Value} {f192 : Addr} {o193 o194 : Option Addr} {s195 : Array (Option Value)} {v196 v197 v198 v199 v200 v201 : Value} {f202 : Addr} {o203 o204 : Option Addr} {s205 : Array (Option Value)} {v206 v207 v208 v209 v210 v211 : Value} {f212 : Addr} {o213 o214 : Option Addr} {s215 : Array (Option Value)} {v216 v217 v218 v219 v220 v221 : Value} {IH : Addr} {f222 f223 f224 : Addr} {w225 w226 : Str} {N227 : Addr} {b228 b229 b230 : List Value} {w231 : List Str} {q232 : Bool} {q233 : Option Bool} {o234 : Option Addr} {m235 m236 m237 m238 m239 : Option Value} {v240 v241 v242 v243 v244 v245 : Value} {o246 o247 o248 o249 : Option Addr} {s250 s251 s252 : Array (Option Value)} {vs253 : Array Value} {k254 : Tok} {ME IR : Addr}
    (zb_isinstance : PySem.W.nsIn K mainGlobals "isinstance" = some none)
    (zb_int : PySem.W.nsIn K mainGlobals "int" = some none)
    (zb_bool : PySem.W.nsIn K mainGlobals "bool" = some none)
    (zb_str : PySem.W.nsIn K mainGlobals "str" = some none)
    (zb_list : PySem.W.nsIn K mainGlobals "list" = some none)
    (zb_tuple : PySem.W.nsIn K mainGlobals "tuple" = some none)
    (zb_len : PySem.W.nsIn K mainGlobals "len" = some none)
    (zb_abs : PySem.W.nsIn K mainGlobals "abs" = some none)
    (zb_max : PySem.W.nsIn K mainGlobals "max" = some none)
    (zb_min : PySem.W.nsIn K mainGlobals "min" = some none)
    (zb_range : PySem.W.nsIn K mainGlobals "range" = some none)
    (zb_repr : PySem.W.nsIn K mainGlobals "repr" = some none)
    (zb_sorted : PySem.W.nsIn K mainGlobals "sorted" = some none)
    (zb_all : PySem.W.nsIn K mainGlobals "all" = some none)
    (zb_any : PySem.W.nsIn K mainGlobals "any" = some none)
    (zb_enumerate : PySem.W.nsIn K mainGlobals "enumerate" = some none)
    (zb_zip : PySem.W.nsIn K mainGlobals "zip" = some none)
    (zb_dict : PySem.W.nsIn K mainGlobals "dict" = some none)
    (zb_set : PySem.W.nsIn K mainGlobals "set" = some none)
    (zb_sum : PySem.W.nsIn K mainGlobals "sum" = some none)
    (zb_super : PySem.W.nsIn K mainGlobals "super" = some none)
    (a_is_integer : PySem.W.nsIn K mainGlobals "is_integer" = some (some (.ref f1)))
    (l_is_integer : K.lookup f1 = some ⟨v5, o2, .func (PySem.W.fnOf "is_integer" "is_integer" (defArgs s_is_integer) (defBody s_is_integer) (defScope s_is_integer) .none v6 v7 v8 o3 v9 v10), s4⟩)
    (c_is_integer : PySem.W.codeIn K v9 "is_integer" = true)
    (k_is_integer : PySem.W.keepIn K (.ref f1) = true)
    (a_is_number : PySem.W.nsIn K mainGlobals "is_number" = some (some (.ref f11)))
    (l_is_number : K.lookup f11 = some ⟨v15, o12, .func (PySem.W.fnOf "is_number" "is_number" (defArgs s_is_number) (defBody s_is_number) (defScope s_is_number) .none v16 v17 v18 o13 v19 v20), s14⟩)
    (c_is_number : PySem.W.codeIn K v19 "is_number" = true)
    (k_is_number : PySem.W.keepIn K (.ref f11) = true)
    (a_is_word : PySem.W.nsIn K mainGlobals "is_word" = some (some (.ref f21)))
    (l_is_word : K.lookup f21 = some ⟨v25, o22, .func (PySem.W.fnOf "is_word" "is_word" (defArgs s_is_word) (defBody s_is_word) (defScope s_is_word) .none v26 v27 v28 o23 v29 v30), s24⟩)
    (c_is_word : PySem.W.codeIn K v29 "is_word" = true)
    (k_is_word : PySem.W.keepIn K (.ref f21) = true)
    (a_law_box : PySem.W.nsIn K mainGlobals "_law_box" = some (some (.ref f31)))
    (l_law_box : K.lookup f31 = some ⟨v35, o32, .func (PySem.W.fnOf "_law_box" "_law_box" (defArgs s_law_box) (defBody s_law_box) (defScope s_law_box) .none v36 v37 v38 o33 v39 v40), s34⟩)
    (c_law_box : PySem.W.codeIn K v39 "_law_box" = true)
    (k_law_box : PySem.W.keepIn K (.ref f31) = true)
    (a_law_take : PySem.W.nsIn K mainGlobals "_law_take" = some (some (.ref f41)))
    (l_law_take : K.lookup f41 = some ⟨v45, o42, .func (PySem.W.fnOf "_law_take" "_law_take" (defArgs s_law_take) (defBody s_law_take) (defScope s_law_take) .none v46 v47 v48 o43 v49 v50), s44⟩)
    (c_law_take : PySem.W.codeIn K v49 "_law_take" = true)
    (k_law_take : PySem.W.keepIn K (.ref f41) = true)
    (a_law_pick : PySem.W.nsIn K mainGlobals "_law_pick" = some (some (.ref f51)))
    (l_law_pick : K.lookup f51 = some ⟨v55, o52, .func (PySem.W.fnOf "_law_pick" "_law_pick" (defArgs s_law_pick) (defBody s_law_pick) (defScope s_law_pick) .none v56 v57 v58 o53 v59 v60), s54⟩)
    (c_law_pick : PySem.W.codeIn K v59 "_law_pick" = true)
    (k_law_pick : PySem.W.keepIn K (.ref f51) = true)
    (a_law_rule : PySem.W.nsIn K mainGlobals "_law_rule" = some (some (.ref f61)))
    (l_law_rule : K.lookup f61 = some ⟨v65, o62, .func (PySem.W.fnOf "_law_rule" "_law_rule" (defArgs s_law_rule) (defBody s_law_rule) (defScope s_law_rule) .none v66 v67 v68 o63 v69 v70), s64⟩)
    (c_law_rule : PySem.W.codeIn K v69 "_law_rule" = true)
    (k_law_rule : PySem.W.keepIn K (.ref f61) = true)
    (a_law_rule_text : PySem.W.nsIn K mainGlobals "_law_rule_text" = some (some (.ref f71)))
    (l_law_rule_text : K.lookup f71 = some ⟨v75, o72, .func (PySem.W.fnOf "_law_rule_text" "_law_rule_text" (defArgs s_law_rule_text) (defBody s_law_rule_text) (defScope s_law_rule_text) .none v76 v77 v78 o73 v79 v80), s74⟩)
    (c_law_rule_text : PySem.W.codeIn K v79 "_law_rule_text" = true)
    (k_law_rule_text : PySem.W.keepIn K (.ref f71) = true)
    (a_law_house : PySem.W.nsIn K mainGlobals "_law_house" = some (some (.ref f81)))
    (l_law_house : K.lookup f81 = some ⟨v85, o82, .func (PySem.W.fnOf "_law_house" "_law_house" (defArgs s_law_house) (defBody s_law_house) (defScope s_law_house) .none v86 v87 v88 o83 v89 v90), s84⟩)
    (c_law_house : PySem.W.codeIn K v89 "_law_house" = true)
    (k_law_house : PySem.W.keepIn K (.ref f81) = true)
    (a_law_house_text : PySem.W.nsIn K mainGlobals "_law_house_text" = some (some (.ref f91)))
    (l_law_house_text : K.lookup f91 = some ⟨v95, o92, .func (PySem.W.fnOf "_law_house_text" "_law_house_text" (defArgs s_law_house_text) (defBody s_law_house_text) (defScope s_law_house_text) .none v96 v97 v98 o93 v99 v100), s94⟩)
    (c_law_house_text : PySem.W.codeIn K v99 "_law_house_text" = true)
    (k_law_house_text : PySem.W.keepIn K (.ref f91) = true)
    (a_law_rule_of : PySem.W.nsIn K mainGlobals "_law_rule_of" = some (some (.ref f101)))
    (l_law_rule_of : K.lookup f101 = some ⟨v105, o102, .func (PySem.W.fnOf "_law_rule_of" "_law_rule_of" (defArgs s_law_rule_of) (defBody s_law_rule_of) (defScope s_law_rule_of) .none v106 v107 v108 o103 v109 v110), s104⟩)
    (c_law_rule_of : PySem.W.codeIn K v109 "_law_rule_of" = true)
    (k_law_rule_of : PySem.W.keepIn K (.ref f101) = true)
    (a_law_any : PySem.W.nsIn K mainGlobals "_law_any" = some (some (.ref f111)))
    (l_law_any : K.lookup f111 = some ⟨v115, o112, .func (PySem.W.fnOf "_law_any" "_law_any" (defArgs s_law_any) (defBody s_law_any) (defScope s_law_any) .none v116 v117 v118 o113 v119 v120), s114⟩)
    (c_law_any : PySem.W.codeIn K v119 "_law_any" = true)
    (k_law_any : PySem.W.keepIn K (.ref f111) = true)
    (a_law_is_number : PySem.W.nsIn K mainGlobals "_law_is_number" = some (some (.ref f121)))
    (l_law_is_number : K.lookup f121 = some ⟨v125, o122, .func (PySem.W.fnOf "_law_is_number" "_law_is_number" (defArgs s_law_is_number) (defBody s_law_is_number) (defScope s_law_is_number) .none v126 v127 v128 o123 v129 v130), s124⟩)
    (c_law_is_number : PySem.W.codeIn K v129 "_law_is_number" = true)
    (k_law_is_number : PySem.W.keepIn K (.ref f121) = true)
    (a_law_due : PySem.W.nsIn K mainGlobals "_law_due" = some (some (.ref f131)))
    (l_law_due : K.lookup f131 = some ⟨v135, o132, .func (PySem.W.fnOf "_law_due" "_law_due" (defArgs s_law_due) (defBody s_law_due) (defScope s_law_due) .none v136 v137 v138 o133 v139 v140), s134⟩)
    (c_law_due : PySem.W.codeIn K v139 "_law_due" = true)
    (k_law_due : PySem.W.keepIn K (.ref f131) = true)
    (a_law_refused : PySem.W.nsIn K mainGlobals "_law_refused" = some (some (.ref f141)))
    (l_law_refused : K.lookup f141 = some ⟨v145, o142, .func (PySem.W.fnOf "_law_refused" "_law_refused" (defArgs s_law_refused) (defBody s_law_refused) (defScope s_law_refused) .none v146 v147 v148 o143 v149 v150), s144⟩)
    (c_law_refused : PySem.W.codeIn K v149 "_law_refused" = true)
    (k_law_refused : PySem.W.keepIn K (.ref f141) = true)
    (a_law_deep : PySem.W.nsIn K mainGlobals "_law_deep" = some (some (.ref f151)))
    (l_law_deep : K.lookup f151 = some ⟨v155, o152, .func (PySem.W.fnOf "_law_deep" "_law_deep" (defArgs s_law_deep) (defBody s_law_deep) (defScope s_law_deep) .none v156 v157 v158 o153 v159 v160), s154⟩)
    (c_law_deep : PySem.W.codeIn K v159 "_law_deep" = true)
    (k_law_deep : PySem.W.keepIn K (.ref f151) = true)
    (a_law : PySem.W.nsIn K mainGlobals "law" = some (some (.ref la)))
    (l_law : K.lookup la = some ⟨loc, lod, .func (PySem.W.fnOf "law" "law" (defArgs s_law) (defBody s_law) (defScope s_law) .none lkV ldc lpm lan (.ref c0) lct), lsl⟩)
    (c_law : PySem.W.codeIn K (.ref c0) "law" = true)
    (l_c0 : K.lookup c0 = some ⟨lcc, lcd, .fields lvs, lcs⟩)
    (l_v11 : lvs[11]? = some (.ref P0))
    (l_P0 : K.lookup P0 = none)
    (l_hd : PySem.W.codeHdIn K c0 P0 = true)
    (g_WORDS : PySem.W.nsIn K mainGlobals "WORDS" = some (some (.ref a161)))
    (t_WORDS : K.lookup a161 = some ⟨.type "tuple", o164, .seq #[.str "never" k162, .str "always" k163] n166, s165⟩)
    (g_ALL_WAYS : PySem.W.nsIn K mainGlobals "ALL_WAYS" = some (some (.ref a167)))
    (t_ALL_WAYS : K.lookup a167 = some ⟨.type "tuple", o171, .seq #[.str "direct" k168, .str "store" k169, .str "either" k170] n173, s172⟩)
    (g_HOLDS : PySem.W.nsIn K mainGlobals "HOLDS" = some (some (.str "holds" k174)))
    (g_SHARES : PySem.W.nsIn K mainGlobals "SHARES" = some (some (.str "shares" k175)))
    (g_Rule : PySem.W.nsIn K mainGlobals "Rule" = some (some (.ref CR)))
    (pg_Rule : PySem.W.plainGet K CR Str.empty = true)
    (hd_Rule : PySem.W.hasDictIn K CR = true)
    (po_Rule : PySem.W.plainOver K CR = true)
    (sa_Rule : PySem.W.findIn K (.ref CR) "__setattr__" = some (some (.builtin "object.__setattr__")))
    (mk_Rule : PySem.W.makesIn K CR = true)
    (kc_Rule : PySem.W.keepIn K (.ref CR) = true)
    (n_CR_asks : PySem.W.findIn K (.ref CR) "asks" = some none)
    (n_CR_way : PySem.W.findIn K (.ref CR) "way" = some none)
    (n_CR_holds : PySem.W.findIn K (.ref CR) "holds" = some none)
    (n_CR_shares : PySem.W.findIn K (.ref CR) "shares" = some none)
    (n_CR_text : PySem.W.findIn K (.ref CR) "text" = some none)
    (oc_CR : PySem.W.findIn K (.ref CR) "__class__" = some (some (.builtin "object.__class__")))
    (om_CR : PySem.W.mroIn K CR (.type "object") = some true)
    (g_House : PySem.W.nsIn K mainGlobals "House" = some (some (.ref CH)))
    (pg_House : PySem.W.plainGet K CH Str.empty = true)
    (hd_House : PySem.W.hasDictIn K CH = true)
    (po_House : PySem.W.plainOver K CH = true)
    (sa_House : PySem.W.findIn K (.ref CH) "__setattr__" = some (some (.builtin "object.__setattr__")))
    (mk_House : PySem.W.makesIn K CH = true)
    (kc_House : PySem.W.keepIn K (.ref CH) = true)
    (n_CH_keep : PySem.W.findIn K (.ref CH) "keep" = some none)
    (n_CH_wait : PySem.W.findIn K (.ref CH) "wait" = some none)
    (n_CH_rule : PySem.W.findIn K (.ref CH) "rule" = some none)
    (n_CH_text : PySem.W.findIn K (.ref CH) "text" = some none)
    (oc_CH : PySem.W.findIn K (.ref CH) "__class__" = some (some (.builtin "object.__class__")))
    (om_CH : PySem.W.mroIn K CH (.type "object") = some true)
    (a_Rule___init__ : PySem.W.findIn K (.ref CR) "__init__" = some (some (.ref f176)))
    (i_Rule___init__ : PySem.W.isFn K (.ref f176) = true)
    (l_Rule___init__ : K.lookup f176 = some ⟨v180, o177, .func (PySem.W.fnOf "__init__" "Rule.__init__" (defArgs s_Rule___init__) (defBody s_Rule___init__) (defScope s_Rule___init__) (.ref t186) v181 v182 v183 o178 v184 v185), s179⟩)
    (c_Rule___init__ : PySem.W.codeIn K v184 "Rule.__init__" = true)
    (k_Rule___init__ : PySem.W.keepIn K (.ref f176) = true)
    (d_Rule___init__ : K.lookup t186 = some ⟨v191, o188, .seq #[.str "direct" k187, .bool false, .bool false] n190, s189⟩)
    (a_House___init__ : PySem.W.findIn K (.ref CH) "__init__" = some (some (.ref f192)))
    (i_House___init__ : PySem.W.isFn K (.ref f192) = true)
    (l_House___init__ : K.lookup f192 = some ⟨v196, o193, .func (PySem.W.fnOf "__init__" "House.__init__" (defArgs s_House___init__) (defBody s_House___init__) (defScope s_House___init__) .none v197 v198 v199 o194 v200 v201), s195⟩)
    (c_House___init__ : PySem.W.codeIn K v200 "House.__init__" = true)
    (k_House___init__ : PySem.W.keepIn K (.ref f192) = true)
    (a_House_but : PySem.W.findIn K (.ref CH) "but" = some (some (.ref f202)))
    (i_House_but : PySem.W.isFn K (.ref f202) = true)
    (l_House_but : K.lookup f202 = some ⟨v206, o203, .func (PySem.W.fnOf "but" "House.but" (defArgs s_House_but) (defBody s_House_but) (defScope s_House_but) .none v207 v208 v209 o204 v210 v211), s205⟩)
    (c_House_but : PySem.W.codeIn K v210 "House.but" = true)
    (k_House_but : PySem.W.keepIn K (.ref f202) = true)
    (a_House___str__ : PySem.W.findIn K (.ref CH) "__str__" = some (some (.ref f212)))
    (i_House___str__ : PySem.W.isFn K (.ref f212) = true)
    (l_House___str__ : K.lookup f212 = some ⟨v216, o213, .func (PySem.W.fnOf "__str__" "House.__str__" (defArgs s_House___str__) (defBody s_House___str__) (defScope s_House___str__) .none v217 v218 v219 o214 v220 v221), s215⟩)
    (c_House___str__ : PySem.W.codeIn K v220 "House.__str__" = true)
    (k_House___str__ : PySem.W.keepIn K (.ref f212) = true)
    (g_InvalidHouse : PySem.W.nsIn K mainGlobals "InvalidHouse" = some (some (.ref IH)))
    (xl_InvalidHouse : K.lookup IH = some (excClassObj w225 w226 IH N227 b228 b229 true w231 b230 q232 q233 o234 m235 m236 m237 m238 m239 "ValueError.__new__"))
    (xr_InvalidHouse : PySem.HandSPX.refsVE b229 = true)
    (xs_InvalidHouse : PySem.W.ks_superIn K IH IH "__init__" = some (some (.builtin "ValueError.__init__")))
    (sa_InvalidHouse : PySem.W.findIn K (.ref IH) "__setattr__" = some (some (.builtin "object.__setattr__")))
    (nn_InvalidHouse : PySem.W.findIn K (.ref IH) "word" = some none)
    (ic_InvalidHouse : PySem.W.findIn K (.ref IH) "__init__" = some (some (.ref f222)))
    (tc_InvalidHouse : PySem.W.typeIn K (.ref f222) = some (.type "function"))
    (kc_InvalidHouse : PySem.W.keepIn K (.ref IH) = true)
    (sv_InvalidHouse : PySem.W.subIn K (.ref IH) (.type "ValueError") = some true)
    (sc_InvalidHouse : PySem.W.mroIn K IH (.ref IH) = some true)
    (ex_InvalidHouse : PySem.W.subIn K (.ref IH) (.type "BaseException") = some true)
    (ty_InvalidHouse : PySem.W.typeIn K (.ref IH) = some (.type "type"))
    (fn_InvalidHouse : K.lookup f222 = some ⟨v240, o246, .func (PySem.W.ksFn "__init__" "InvalidHouse.__init__" (MnX.iA "word" ⟨11, 17, 11, 21⟩ ⟨11, 23, 11, 27⟩) (MnX.iB "word" ⟨12, 8, 12, 13⟩ ⟨12, 8, 12, 15⟩ ⟨12, 8, 12, 24⟩ ⟨12, 25, 12, 29⟩ ⟨12, 8, 12, 30⟩ ⟨12, 8, 12, 30⟩ ⟨13, 8, 13, 12⟩ ⟨13, 8, 13, 17⟩ ⟨13, 20, 13, 24⟩ ⟨13, 8, 13, 24⟩) (MnX.iS "word") .none .none v241 v242 o247 (.ref f223) v243 f224), s250⟩)
    (cd_InvalidHouse : PySem.W.codeIn K (.ref f223) "InvalidHouse.__init__" = true)
    (co_InvalidHouse : K.lookup f223 = some ⟨v244, o248, .fields vs253, s251⟩)
    (fi_InvalidHouse : vs253[2]? = some (.str "/claim/cut.py" k254))
    (ce_InvalidHouse : K.lookup f224 = some ⟨v245, o249, .cell (some (.ref IH)), s252⟩)
    (opq : PySem.W.nsIn K PySem.cStatics "thirdparty.any" = some none)
    (g_ME : PySem.W.nsIn K mainGlobals "MoveError" = some (some (.ref ME)))
    (g_IR : PySem.W.nsIn K mainGlobals "InvalidRule" = some (some (.ref IR)))
    (isME : PySem.W.kitOne K (.ref IH) (.ref ME) = some true)
    (isIR : PySem.W.kitOne K (.ref IH) (.ref IR) = some false)
    (ri : PySem.W.kitOne K (.ref CR) (.type "int") = some false)
    (rb : PySem.W.kitOne K (.ref CR) (.type "bool") = some false)
    (rr : PySem.W.kitOne K (.ref CR) (.ref CR) = some true)
    (hi : PySem.W.kitOne K (.ref CH) (.type "int") = some false)
    (hb : PySem.W.kitOne K (.ref CH) (.type "bool") = some false)
    (hr : PySem.W.kitOne K (.ref CH) (.ref CR) = some false)
    (r_non : PySem.W.kitOne K (.type "NoneType") (.ref CR) = some false)
    (r_bool : PySem.W.kitOne K (.type "bool") (.ref CR) = some false)
    (r_int : PySem.W.kitOne K (.type "int") (.ref CR) = some false)
    (r_str : PySem.W.kitOne K (.type "str") (.ref CR) = some false)
    (r_list : PySem.W.kitOne K (.type "list") (.ref CR) = some false)
    (r_tuple : PySem.W.kitOne K (.type "tuple") (.ref CR) = some false)
    (xc : PySem.W.isClsIn K IH = true)
    (xga : PySem.W.findIn K (.ref IH) "__getattribute__" = some (some (.builtin "BaseException.__getattribute__")))
    (xgg : PySem.W.findIn K (.ref IH) "__getattr__" = some none)
    (xac : PySem.W.findIn K (.ref IH) "__class__" = some (some (.builtin "object.__class__")))
    (xan : PySem.W.specialIn K (.builtin "object.__class__") "__get__" = some (some (.builtin "getset_descriptor.__get__")))
    (xat : PySem.W.takesIn K (.builtin "object.__class__") = some true)
    (xam : PySem.W.mroIn K IH (.type "object") = some true)
    (xhd : PySem.W.hasDictIn K IH = true)
    (xex : PySem.W.subIn K (.ref IH) (.ref IH) = some true) :
    LawAtS l w K (L2.CX l.prog w) 8 63 "_law_script" mg fa h := by
  have e := hfa.symm.trans (PySem.W.mg_of X G a_law)
  cases e
  have XI : MnX.SupTxt l.prog K mg "InvalidHouse" "InvalidHouse.__init__" "word" IH f222 := ⟨PySem.W.mg_of X G g_InvalidHouse, PySem.W.mg_none_of X G zb_super, ⟨_, _, _, _, _, _, _, _, _, _, _, _, _, _, _, xl_InvalidHouse, xr_InvalidHouse⟩, xs_InvalidHouse, sa_InvalidHouse, nn_InvalidHouse, ic_InvalidHouse, tc_InvalidHouse, kc_InvalidHouse, sv_InvalidHouse, sc_InvalidHouse, opq, ex_InvalidHouse, ty_InvalidHouse, htop, ⟨_, _, _, _, _, _, _, _, _, ⟨11, 17, 11, 21⟩, ⟨11, 23, 11, 27⟩, ⟨12, 8, 12, 13⟩, ⟨12, 8, 12, 15⟩, ⟨12, 8, 12, 24⟩, ⟨12, 25, 12, 29⟩, ⟨12, 8, 12, 30⟩, ⟨12, 8, 12, 30⟩, ⟨13, 8, 13, 12⟩, ⟨13, 8, 13, 17⟩, ⟨13, 20, 13, 24⟩, ⟨13, 8, 13, 24⟩, _, _, _, _, _, _, _, _, _, fn_InvalidHouse, cd_InvalidHouse, co_InvalidHouse, fi_InvalidHouse, hfile, ce_InvalidHouse, fun _ => rfl⟩⟩
  have T : Txt l.prog K mg CR CH IH f222 a161 a167 := { b_isinstance := PySem.W.mg_none_of X G zb_isinstance, b_int := PySem.W.mg_none_of X G zb_int, b_bool := PySem.W.mg_none_of X G zb_bool, b_str := PySem.W.mg_none_of X G zb_str, b_list := PySem.W.mg_none_of X G zb_list, b_tuple := PySem.W.mg_none_of X G zb_tuple, b_len := PySem.W.mg_none_of X G zb_len, b_abs := PySem.W.mg_none_of X G zb_abs, b_max := PySem.W.mg_none_of X G zb_max, b_min := PySem.W.mg_none_of X G zb_min, b_range := PySem.W.mg_none_of X G zb_range, b_repr := PySem.W.mg_none_of X G zb_repr, b_sorted := PySem.W.mg_none_of X G zb_sorted, b_all := PySem.W.mg_none_of X G zb_all, b_any := PySem.W.mg_none_of X G zb_any, b_enumerate := PySem.W.mg_none_of X G zb_enumerate, b_zip := PySem.W.mg_none_of X G zb_zip, b_dict := PySem.W.mg_none_of X G zb_dict, b_set := PySem.W.mg_none_of X G zb_set, b_sum := PySem.W.mg_none_of X G zb_sum, g_WORDS := ⟨_, PySem.W.mg_of X G g_WORDS, rfl⟩, WORDS := fun _ => .inr ⟨_, _, _, t_WORDS, rfl, rfl, fits 2, .cons ⟨_, rfl⟩ (.cons ⟨_, rfl⟩ .nil)⟩, g_ALL_WAYS := ⟨_, PySem.W.mg_of X G g_ALL_WAYS, rfl⟩, ALL_WAYS := fun _ => .inr ⟨_, _, _, t_ALL_WAYS, rfl, rfl, fits 3, .cons ⟨_, rfl⟩ (.cons ⟨_, rfl⟩ (.cons ⟨_, rfl⟩ .nil))⟩, g_HOLDS := ⟨_, PySem.W.mg_of X G g_HOLDS, _, rfl⟩, g_SHARES := ⟨_, PySem.W.mg_of X G g_SHARES, _, rfl⟩, g_Rule := ⟨_, PySem.W.mg_of X G g_Rule, rfl⟩, x_InvalidHouse := XI, oR := ⟨⟨pg_Rule, hd_Rule, po_Rule, sa_Rule⟩, oc_CR, xan, xat, om_CR⟩, oH := ⟨⟨pg_House, hd_House, po_House, sa_House⟩, oc_CH, xan, xat, om_CH⟩, n_asks := n_CR_asks, n_way := n_CR_way, n_holds := n_CR_holds, n_shares := n_CR_shares, n_text := n_CR_text, m_keep := n_CH_keep, m_wait := n_CH_wait, m_rule := n_CH_rule, m_text := n_CH_text, ri := ri, rb := rb, rr := rr, hi := hi, hb := hb, hr := hr, r_non := r_non, r_bool := r_bool, r_int := r_int, r_str := r_str, r_list := r_list, r_tuple := r_tuple }
  have TB0 : TB mg := T.toTB
  have U : Txt2 K mg IH ME IR := ⟨⟨_, PySem.W.mg_of X G g_ME, rfl⟩, ⟨_, PySem.W.mg_of X G g_IR, rfl⟩, isME, isIR, ⟨xc, xga, xgg, ex_InvalidHouse, xac, xan, xat, xam⟩, ⟨xga, xgg, ex_InvalidHouse, xhd⟩, PySem.W.exm_ref ex_InvalidHouse xhd ty_InvalidHouse xex⟩
  have b_is_integer := (fun_mk (st := s_is_integer) l_is_integer c_is_integer k_is_integer).binds (ps := ["value"]) fun _ _ _ _ _ _ us hl => match us, hl with | [_], _ => rfl
  have b_is_number := (fun_mk (st := s_is_number) l_is_number c_is_number k_is_number).binds (ps := ["value"]) fun _ _ _ _ _ _ us hl => match us, hl with | [_], _ => rfl
  have b_is_word := (fun_mk (st := s_is_word) l_is_word c_is_word k_is_word).binds (ps := ["value", "words"]) fun _ _ _ _ _ _ us hl => match us, hl with | [_, _], _ => rfl
  have b_law_box := (fun_mk (st := s_law_box) l_law_box c_law_box k_law_box).binds (ps := ["_law_script", "_law_k"]) fun _ _ _ _ _ _ us hl => match us, hl with | [_, _], _ => rfl
  have b_law_take := (fun_mk (st := s_law_take) l_law_take c_law_take k_law_take).binds (ps := ["_law_box_here", "_law_many"]) fun _ _ _ _ _ _ us hl => match us, hl with | [_, _], _ => rfl
  have b_law_pick := (fun_mk (st := s_law_pick) l_law_pick c_law_pick k_law_pick).binds (ps := ["_law_box_here", "_law_some"]) fun _ _ _ _ _ _ us hl => match us, hl with | [_, _], _ => rfl
  have b_law_rule := (fun_mk (st := s_law_rule) l_law_rule c_law_rule k_law_rule).binds (ps := ["_law_box_here"]) fun _ _ _ _ _ _ us hl => match us, hl with | [_], _ => rfl
  have b_law_rule_text := (fun_mk (st := s_law_rule_text) l_law_rule_text c_law_rule_text k_law_rule_text).binds (ps := ["_law_manner"]) fun _ _ _ _ _ _ us hl => match us, hl with | [_], _ => rfl
  have b_law_house := (fun_mk (st := s_law_house) l_law_house c_law_house k_law_house).binds (ps := ["_law_box_here"]) fun _ _ _ _ _ _ us hl => match us, hl with | [_], _ => rfl
  have b_law_house_text := (fun_mk (st := s_law_house_text) l_law_house_text c_law_house_text k_law_house_text).binds (ps := ["_law_ground"]) fun _ _ _ _ _ _ us hl => match us, hl with | [_], _ => rfl
  have b_law_rule_of := (fun_mk (st := s_law_rule_of) l_law_rule_of c_law_rule_of k_law_rule_of).binds (ps := ["_law_manner"]) fun _ _ _ _ _ _ us hl => match us, hl with | [_], _ => rfl
  have b_law_any := (fun_mk (st := s_law_any) l_law_any c_law_any k_law_any).binds (ps := ["_law_box_here", "_law_deep_here"]) fun _ _ _ _ _ _ us hl => match us, hl with | [_, _], _ => rfl
  have b_law_is_number := (fun_mk (st := s_law_is_number) l_law_is_number c_law_is_number k_law_is_number).binds (ps := ["_law_value"]) fun _ _ _ _ _ _ us hl => match us, hl with | [_], _ => rfl
  have b_law_due := (fun_mk (st := s_law_due) l_law_due c_law_due k_law_due).binds (ps := ["_law_told"]) fun _ _ _ _ _ _ us hl => match us, hl with | [_], _ => rfl
  have b_law_refused := (fun_mk (st := s_law_refused) l_law_refused c_law_refused k_law_refused).binds (ps := ["_law_work"]) fun _ _ _ _ _ _ us hl => match us, hl with | [_], _ => rfl
  have b_law_deep := (fun_mk (st := s_law_deep) l_law_deep c_law_deep k_law_deep).binds (ps := ["_law_box_here"]) fun _ _ _ _ _ _ us hl => match us, hl with | [_], _ => rfl
  have b_J := (fun_mk (st := s_House___init__) l_House___init__ c_House___init__ k_House___init__).binds (ps := ["self", "keep", "wait", "rule"]) fun _ _ _ _ _ _ us hl => match us, hl with | [_, _, _, _], _ => rfl
  have b_S := (fun_mk (st := s_House___str__) l_House___str__ c_House___str__ k_House___str__).binds (ps := ["self"]) fun _ _ _ _ _ _ us hl => match us, hl with | [_], _ => rfl
  have FI : FunD K "__init__" "Rule.__init__" (defArgs s_Rule___init__) (defBody s_Rule___init__) (defScope s_Rule___init__) [.str "direct", .bl false, .bl false] [] f176 _ := ⟨⟨_, _, _, _, _, _, _, _, _, _, rfl, l_Rule___init__, c_Rule___init__, .inr ⟨List.cons_ne_nil _ _, _, _, _, _, rfl, d_Rule___init__, rfl, .cons ⟨_, rfl⟩ (.cons rfl (.cons rfl .nil))⟩, .inl rfl⟩, k_Rule___init__⟩
  obtain ⟨ds, vd, bI⟩ := FI.binds1 (ps := ["self", "asks", "way", "holds", "shares"]) 5 3 (List.cons_ne_nil _ _) rfl fun T kV doc pm an cdv ct us its hu hi => match us, hu, its, hi with | [_, _, _, _, _], _, [_, _, _], _ => ⟨_, rfl, rfl⟩
  refine ⟨PySem.W.fnOf "law" "law" (defArgs s_law) (defBody s_law) (defScope s_law) .none lkV ldc lpm lan (.ref c0) lct, [(c0, P0)], spLaw K P0, fun p hp => ?_, fun p hp => ?_, fun p hp => ?_, fun s u => .of_eq rfl, fun H a ns hl _ hP hS => ⟨a, ns, rfl, hP (c0, P0) List.mem_cons_self, hS, hl, fun _ => rfl⟩, fun base KB GB TBs => ?_⟩
  · rw [List.mem_singleton.mp hp]
    exact own _ _ _ _ _ _ _ _ l_law rfl rfl l_c0 l_v11
  · rw [List.mem_singleton.mp hp]
    exact l_P0
  · rw [List.mem_singleton.mp hp]
    exact PySem.W.codeHd_of_K X l_hd
  have G1 : Cl l.prog w K mg base 1 "_law_take" (spTake) := ⟨_, _, _, ok_take ⟨fun_mk (st := s_law_take) l_law_take c_law_take k_law_take, PySem.W.mg_of X G a_law_take⟩ TB0, PySem.W.mg_of X G a_law_take, k_law_take, b_law_take⟩
  have G2 : Cl l.prog w K mg base 2 "_law_pick" (spPick K) := ⟨_, _, _, ok_pick ⟨fun_mk (st := s_law_pick) l_law_pick c_law_pick k_law_pick, PySem.W.mg_of X G a_law_pick⟩ TB0 G1, PySem.W.mg_of X G a_law_pick, k_law_pick, b_law_pick⟩
  have G3 : Cl l.prog w K mg base 1 "_law_box" (spBox K) := ⟨_, _, _, ok_box ⟨fun_mk (st := s_law_box) l_law_box c_law_box k_law_box, PySem.W.mg_of X G a_law_box⟩ TB0, PySem.W.mg_of X G a_law_box, k_law_box, b_law_box⟩
  have G4 : Cl l.prog w K mg base 3 "_law_rule" (spRule) := ⟨_, _, _, ok_rule ⟨fun_mk (st := s_law_rule) l_law_rule c_law_rule k_law_rule, PySem.W.mg_of X G a_law_rule⟩ TB0 G1 G2, PySem.W.mg_of X G a_law_rule, k_law_rule, b_law_rule⟩
  have G5 : ∀ n : Nat, Cl l.prog w K mg base (n + 3) "_law_any" (spAny n) := fun n => ⟨_, _, _, any_all ⟨fun_mk (st := s_law_any) l_law_any c_law_any k_law_any, PySem.W.mg_of X G a_law_any⟩ b_law_any TB0 G1 G2 n, PySem.W.mg_of X G a_law_any, k_law_any, b_law_any⟩
  have G6 : Cl l.prog w K mg base 4 "_law_deep" (spDeep) := ⟨_, _, _, ok_deep ⟨fun_mk (st := s_law_deep) l_law_deep c_law_deep k_law_deep, PySem.W.mg_of X G a_law_deep⟩ TB0 G1 (G5 0), PySem.W.mg_of X G a_law_deep, k_law_deep, b_law_deep⟩
  have G7 : Cl l.prog w K mg base 1 "is_integer" (spIsInt CR CH) := ⟨_, _, _, ok_is_integer ⟨fun_mk (st := s_is_integer) l_is_integer c_is_integer k_is_integer, PySem.W.mg_of X G a_is_integer⟩ T, PySem.W.mg_of X G a_is_integer, k_is_integer, b_is_integer⟩
  have G7b : Cl l.prog w K mg base 2 "is_number" (spIsNum CR CH) := ⟨_, _, _, ok_is_number ⟨fun_mk (st := s_is_number) l_is_number c_is_number k_is_number, PySem.W.mg_of X G a_is_number⟩ T G7, PySem.W.mg_of X G a_is_number, k_is_number, b_is_number⟩
  have G8 : Cl l.prog w K mg base 1 "is_word" (spIsWord K) := ⟨_, _, _, ok_is_word ⟨fun_mk (st := s_is_word) l_is_word c_is_word k_is_word, PySem.W.mg_of X G a_is_word⟩ T, PySem.W.mg_of X G a_is_word, k_is_word, b_is_word⟩
  have GR : Mc l.prog w K mg base 3 "Rule" CR 5 (spInit CR) [] := ⟨_, _, _, ds, ⟨mk_Rule, a_Rule___init__, i_Rule___init__, kc_Rule⟩, ok_init FI T G7 G8, PySem.W.mg_of X G g_Rule, bI, vd⟩
  have GH : Mc l.prog w K mg base 3 "House" CH 4 (spHouse CR CH IH) [] := ⟨_, _, _, [], ⟨mk_House, a_House___init__, i_House___init__, kc_House⟩, ok_house (fun_mk (st := s_House___init__) l_House___init__ c_House___init__ k_House___init__) T G7b, PySem.W.mg_of X G g_House, b_J, .nil⟩
  have G9 : Cl l.prog w K mg base 1 "_law_rule_text" (spRuleText) := ⟨_, _, _, ok_rule_text ⟨fun_mk (st := s_law_rule_text) l_law_rule_text c_law_rule_text k_law_rule_text, PySem.W.mg_of X G a_law_rule_text⟩ TB0, PySem.W.mg_of X G a_law_rule_text, k_law_rule_text, b_law_rule_text⟩
  have G10 : Cl l.prog w K mg base 4 "_law_house" (spDHouse) := ⟨_, _, _, ok_dhouse ⟨fun_mk (st := s_law_house) l_law_house c_law_house k_law_house, PySem.W.mg_of X G a_law_house⟩ TB0 G1 G4, PySem.W.mg_of X G a_law_house, k_law_house, b_law_house⟩
  have G11 : Cl l.prog w K mg base 2 "_law_house_text" (spHouseText) := ⟨_, _, _, ok_house_text ⟨fun_mk (st := s_law_house_text) l_law_house_text c_law_house_text k_law_house_text, PySem.W.mg_of X G a_law_house_text⟩ TB0 G9, PySem.W.mg_of X G a_law_house_text, k_law_house_text, b_law_house_text⟩
  have G12 : Cl l.prog w K mg base 5 "_law_rule_of" (spRuleOf CR) := ⟨_, _, _, ok_rule_of ⟨fun_mk (st := s_law_rule_of) l_law_rule_of c_law_rule_of k_law_rule_of, PySem.W.mg_of X G a_law_rule_of⟩ TB0 GR, PySem.W.mg_of X G a_law_rule_of, k_law_rule_of, b_law_rule_of⟩
  have G13 : Cl l.prog w K mg base 1 "_law_is_number" (spIsNum CR CH) := ⟨_, _, _, ok_lnum ⟨fun_mk (st := s_law_is_number) l_law_is_number c_law_is_number k_law_is_number, PySem.W.mg_of X G a_law_is_number⟩ T, PySem.W.mg_of X G a_law_is_number, k_law_is_number, b_law_is_number⟩
  have G14 : Cl l.prog w K mg base 2 "_law_due" (spDue K CR CH) := ⟨_, _, _, ok_due ⟨fun_mk (st := s_law_due) l_law_due c_law_due k_law_due, PySem.W.mg_of X G a_law_due⟩ T G13, PySem.W.mg_of X G a_law_due, k_law_due, b_law_due⟩
  have FB := ok_but (base := base) (w := w) (P := l.prog) (mg := mg) T GH l_House_but c_House_but
  have FS := ok_str (base := base) (w := w) (P := l.prog) (mg := mg) (fun_mk (st := s_House___str__) l_House___str__ c_House___str__ k_House___str__) T
  exact ok_law T U l_law c_law (PySem.W.mg_of X G a_law_refused) k_law_refused l_law_refused c_law_refused b_law_refused (TBs (c0, P0) List.mem_cons_self) ⟨a_House_but, i_House_but, k_House_but⟩ FB FS b_S a_House___str__ i_House___str__ GH G1 G2 G3 G10 (G5 3) G6 G12 G11 G14
end K05
open PySem PySem.W PyProof.Rows
set_option maxRecDepth 100000 in
set_option maxHeartbeats 0 in
theorem PySem.Challenge.cw_movedname_k05_houses_refused_holds : PySem.Challenge.rw_movedname_k05_houses_refused.Holds := by
  w_on; o_law; k_head; (case hw => w_witness2)
  k_fill
  refine LamX.walk_ofOwn (l := PySem.Challenge.rw_movedname_k05_houses_refused) (n := 63) (k := 8) (x := "_law_script") (CX := fun w => L2.CX PySem.Challenge.pw_movedname_k05_houses_refused w) rfl (by decide) rfl ⟨rfl, by decide, by decide⟩ (by decide +kernel) (fun w h Y => Y.1) ?F (fun _ _ _ _ _ z => K05.cx_false z)
  case F =>
    intro w mg fa h Y KX G hmg own
    refine' K05.all_mk (l := PySem.Challenge.rw_movedname_k05_houses_refused) KX G hmg own (by decide +kernel) (by decide +kernel) ?zb_isinstance ?zb_int ?zb_bool ?zb_str ?zb_list ?zb_tuple ?zb_len ?zb_abs ?zb_max ?zb_min ?zb_range ?zb_repr ?zb_sorted ?zb_all ?zb_any ?zb_enumerate ?zb_zip ?zb_dict ?zb_set ?zb_sum ?zb_super ?a_is_integer ?l_is_integer ?c_is_integer ?k_is_integer ?a_is_number ?l_is_number ?c_is_number ?k_is_number ?a_is_word ?l_is_word ?c_is_word ?k_is_word ?a_law_box ?l_law_box ?c_law_box ?k_law_box ?a_law_take ?l_law_take ?c_law_take ?k_law_take ?a_law_pick ?l_law_pick ?c_law_pick ?k_law_pick ?a_law_rule ?l_law_rule ?c_law_rule ?k_law_rule ?a_law_rule_text ?l_law_rule_text ?c_law_rule_text ?k_law_rule_text ?a_law_house ?l_law_house ?c_law_house ?k_law_house ?a_law_house_text ?l_law_house_text ?c_law_house_text ?k_law_house_text ?a_law_rule_of ?l_law_rule_of ?c_law_rule_of ?k_law_rule_of ?a_law_any ?l_law_any ?c_law_any ?k_law_any ?a_law_is_number ?l_law_is_number ?c_law_is_number ?k_law_is_number ?a_law_due ?l_law_due ?c_law_due ?k_law_due ?a_law_refused ?l_law_refused ?c_law_refused ?k_law_refused ?a_law_deep ?l_law_deep ?c_law_deep ?k_law_deep ?a_law ?l_law ?c_law ?l_c0 ?l_v11 ?l_P0 ?l_hd ?g_WORDS ?t_WORDS ?g_ALL_WAYS ?t_ALL_WAYS ?g_HOLDS ?g_SHARES ?g_Rule ?pg_Rule ?hd_Rule ?po_Rule ?sa_Rule ?mk_Rule ?kc_Rule ?n_CR_asks ?n_CR_way ?n_CR_holds ?n_CR_shares ?n_CR_text ?oc_CR ?om_CR ?g_House ?pg_House ?hd_House ?po_House ?sa_House ?mk_House ?kc_House ?n_CH_keep ?n_CH_wait ?n_CH_rule ?n_CH_text ?oc_CH ?om_CH ?a_Rule___init__ ?i_Rule___init__ ?l_Rule___init__ ?c_Rule___init__ ?k_Rule___init__ ?d_Rule___init__ ?a_House___init__ ?i_House___init__ ?l_House___init__ ?c_House___init__ ?k_House___init__ ?a_House_but ?i_House_but ?l_House_but ?c_House_but ?k_House_but ?a_House___str__ ?i_House___str__ ?l_House___str__ ?c_House___str__ ?k_House___str__ ?g_InvalidHouse ?xl_InvalidHouse ?xr_InvalidHouse ?xs_InvalidHouse ?sa_InvalidHouse ?nn_InvalidHouse ?ic_InvalidHouse ?tc_InvalidHouse ?kc_InvalidHouse ?sv_InvalidHouse ?sc_InvalidHouse ?ex_InvalidHouse ?ty_InvalidHouse ?fn_InvalidHouse ?cd_InvalidHouse ?co_InvalidHouse ?fi_InvalidHouse ?ce_InvalidHouse ?opq ?g_ME ?g_IR ?isME ?isIR ?ri ?rb ?rr ?hi ?hb ?hr ?r_non ?r_bool ?r_int ?r_str ?r_list ?r_tuple ?xc ?xga ?xgg ?xac ?xan ?xat ?xam ?xhd ?xex
    (case zb_isinstance => k_is)
    (case zb_int => k_is)
    (case zb_bool => k_is)
    (case zb_str => k_is)
    (case zb_list => k_is)
    (case zb_tuple => k_is)
    (case zb_len => k_is)
    (case zb_abs => k_is)
    (case zb_max => k_is)
    (case zb_min => k_is)
    (case zb_range => k_is)
    (case zb_repr => k_is)
    (case zb_sorted => k_is)
    (case zb_all => k_is)
    (case zb_any => k_is)
    (case zb_enumerate => k_is)
    (case zb_zip => k_is)
    (case zb_dict => k_is)
    (case zb_set => k_is)
    (case zb_sum => k_is)
    (case zb_super => k_is)
    (case a_is_integer => k_is)
    (case l_is_integer => k_is)
    (case c_is_integer => k_is)
    (case k_is_integer => k_is)
    (case a_is_number => k_is)
    (case l_is_number => k_is)
    (case c_is_number => k_is)
    (case k_is_number => k_is)
    (case a_is_word => k_is)
    (case l_is_word => k_is)
    (case c_is_word => k_is)
    (case k_is_word => k_is)
    (case a_law_box => k_is)
    (case l_law_box => k_is)
    (case c_law_box => k_is)
    (case k_law_box => k_is)
    (case a_law_take => k_is)
    (case l_law_take => k_is)
    (case c_law_take => k_is)
    (case k_law_take => k_is)
    (case a_law_pick => k_is)
    (case l_law_pick => k_is)
    (case c_law_pick => k_is)
    (case k_law_pick => k_is)
    (case a_law_rule => k_is)
    (case l_law_rule => k_is)
    (case c_law_rule => k_is)
    (case k_law_rule => k_is)
    (case a_law_rule_text => k_is)
    (case l_law_rule_text => k_is)
    (case c_law_rule_text => k_is)
    (case k_law_rule_text => k_is)
    (case a_law_house => k_is)
    (case l_law_house => k_is)
    (case c_law_house => k_is)
    (case k_law_house => k_is)
    (case a_law_house_text => k_is)
    (case l_law_house_text => k_is)
    (case c_law_house_text => k_is)
    (case k_law_house_text => k_is)
    (case a_law_rule_of => k_is)
    (case l_law_rule_of => k_is)
    (case c_law_rule_of => k_is)
    (case k_law_rule_of => k_is)
    (case a_law_any => k_is)
    (case l_law_any => k_is)
    (case c_law_any => k_is)
    (case k_law_any => k_is)
    (case a_law_is_number => k_is)
    (case l_law_is_number => k_is)
    (case c_law_is_number => k_is)
    (case k_law_is_number => k_is)
    (case a_law_due => k_is)
    (case l_law_due => k_is)
    (case c_law_due => k_is)
    (case k_law_due => k_is)
    (case a_law_refused => k_is)
    (case l_law_refused => k_is)
    (case c_law_refused => k_is)
    (case k_law_refused => k_is)
    (case a_law_deep => k_is)
    (case l_law_deep => k_is)
    (case c_law_deep => k_is)
    (case k_law_deep => k_is)
    (case a_law => k_is)
    (case l_law => k_is)
    (case c_law => k_is)
    (case l_c0 => k_is)
    (case l_v11 => rfl)
    (case l_P0 => first | rfl | k_is)
    (case l_hd => first | k_is | rfl | decide +kernel)
    (case g_WORDS => k_is)
    (case t_WORDS => k_is)
    (case g_ALL_WAYS => k_is)
    (case t_ALL_WAYS => k_is)
    (case g_HOLDS => k_is)
    (case g_SHARES => k_is)
    (case g_Rule => k_is)
    (case pg_Rule => k_is)
    (case hd_Rule => k_is)
    (case po_Rule => k_is)
    (case sa_Rule => k_is)
    (case mk_Rule => k_is)
    (case kc_Rule => k_is)
    (case n_CR_asks => k_is)
    (case n_CR_way => k_is)
    (case n_CR_holds => k_is)
    (case n_CR_shares => k_is)
    (case n_CR_text => k_is)
    (case oc_CR => k_is)
    (case om_CR => k_is)
    (case g_House => k_is)
    (case pg_House => k_is)
    (case hd_House => k_is)
    (case po_House => k_is)
    (case sa_House => k_is)
    (case mk_House => k_is)
    (case kc_House => k_is)
    (case n_CH_keep => k_is)
    (case n_CH_wait => k_is)
    (case n_CH_rule => k_is)
    (case n_CH_text => k_is)
    (case oc_CH => k_is)
    (case om_CH => k_is)
    (case a_Rule___init__ => k_is)
    (case i_Rule___init__ => k_is)
    (case l_Rule___init__ => k_is)
    (case c_Rule___init__ => k_is)
    (case k_Rule___init__ => k_is)
    (case d_Rule___init__ => k_is)
    (case a_House___init__ => k_is)
    (case i_House___init__ => k_is)
    (case l_House___init__ => k_is)
    (case c_House___init__ => k_is)
    (case k_House___init__ => k_is)
    (case a_House_but => k_is)
    (case i_House_but => k_is)
    (case l_House_but => k_is)
    (case c_House_but => k_is)
    (case k_House_but => k_is)
    (case a_House___str__ => k_is)
    (case i_House___str__ => k_is)
    (case l_House___str__ => k_is)
    (case c_House___str__ => k_is)
    (case k_House___str__ => k_is)
    (case g_InvalidHouse => k_is)
    (case xl_InvalidHouse => k_is)
    (case xr_InvalidHouse => decide +kernel)
    (case xs_InvalidHouse => ks_is)
    (case sa_InvalidHouse => k_is)
    (case nn_InvalidHouse => k_is)
    (case ic_InvalidHouse => k_is)
    (case tc_InvalidHouse => k_is)
    (case kc_InvalidHouse => k_is)
    (case sv_InvalidHouse => k_is)
    (case sc_InvalidHouse => k_is)
    (case ex_InvalidHouse => k_is)
    (case ty_InvalidHouse => k_is)
    (case fn_InvalidHouse => k_is)
    (case cd_InvalidHouse => k_is)
    (case co_InvalidHouse => k_is)
    (case fi_InvalidHouse => rfl)
    (case ce_InvalidHouse => k_is)
    (case opq => k_is)
    (case g_ME => k_is)
    (case g_IR => k_is)
    (case isME => kit_is)
    (case isIR => kit_is)
    (case ri => kit_is)
    (case rb => kit_is)
    (case rr => kit_is)
    (case hi => kit_is)
    (case hb => kit_is)
    (case hr => kit_is)
    (case r_non => kit_is)
    (case r_bool => kit_is)
    (case r_int => kit_is)
    (case r_str => kit_is)
    (case r_list => kit_is)
    (case r_tuple => kit_is)
    (case xc => k_is)
    (case xga => k_is)
    (case xgg => k_is)
    (case xac => k_is)
    (case xan => k_is)
    (case xat => k_is)
    (case xam => k_is)
    (case xhd => k_is)
    (case xex => first | rfl | k_is)
#print axioms PySem.Challenge.cw_movedname_k05_houses_refused_holds
