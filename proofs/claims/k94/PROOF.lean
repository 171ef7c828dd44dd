import PyProof.Rows.All
import Wide.All
import OpenK.AllK
import Wide.FinOn
import PyProof.EqAt
import PyProof.EqKinds
import PyProof.TupleCall
import KE.KExcSuper
import HandS.Base
import HandS.Call
import HandS.List
import HandS.Exc
import HandS.ExcSuper
import HandS.ExcIs
import KE.KExcIs
import HandS.ExcInit
import HandS.ExcValue
import HandS.Dict
import HandS.Ends
import HandS.Defaults
import HandS.ForMost
import HandS.Zip
import HandS.Conv
import HandS.Evl
import HandS.TupMul
import HandS.Steps
import HandS.HeadHook1
import HandS.HeadHook2
import HandS.HeadHook3
import HandS.HeadHook4
import HandS.More
import HandS.Words
import HandS.WordsExc
import HandS.Head0
import HandS.Head1
import HandS.Head2
import HandS.HeadEnd
import KE.KStateDown
import PySem.Challenge.RW_nobodyrather_k94_every_error_by_itself
section
set_option Elab.async false
set_option linter.all false
set_option maxRecDepth 100000
set_option maxHeartbeats 4000000
/-! An error class whose __init__ says super().__init__(value); self.value = value, and classes below it: made. -/
namespace Fe
open PySem PySem.Spec PySem.W PySem.Calls PyProof.Rows

/-! ### the text of __init__ -/
def iA (p1 p2 : Pos) : Arguments := { posonlyargs := [], args := [{ arg := "self", annotation := none, pos := p1 }, { arg := "value", annotation := none, pos := p2 }], vararg := none, kwonlyargs := [], kw_defaults := [], kwarg := none, defaults := [] }
def iB (l : Nat) (p0 p1 : Pos) (c2 : Nat × Nat) (p3 : Pos) (c4 : Nat × Nat) (p5 q1 q2 q3 q4 : Pos) : List Stmt :=
  [.Expr (.Call (.Attribute (.Call (.Name "super" p0) [] [] p1) "__init__" ⟨l, c2.1, l, c2.2⟩) [.Name "value" p3] [] ⟨l, c4.1, l, c4.2⟩) p5, .Assign [.Attribute (.Name "self" q1) "value" q2] (.Name "value" q3) q4]
def iS : Scope := { kind := .function, names := [(PySem.Str.ofString "self", .local), (PySem.Str.ofString "value", .local), (PySem.Str.ofString "__class__", .free), (PySem.Str.ofString "super", .globalImplicit)], isGenerator := false, isCoroutine := false, more := [] }
abbrev iFn (q : Str) (l : Nat) (p1 p2 r0 r1 : Pos) (c2 : Nat × Nat) (r3 : Pos) (c4 : Nat × Nat) (r5 q1 q2 q3 q4 : Pos) (kV doc pm : Value) (an : Option Addr) (cda : Addr) (ct : Value) (cc : Addr) : FuncData :=
  ksFn "__init__" q (iA p1 p2) (iB l r0 r1 c2 r3 c4 r5 q1 q2 q3 q4) iS .none kV doc pm an (.ref cda) ct cc

/-- what the written part says of the first class, at D, and of its __init__, at fI -/
structure FeD (P : Program) (K : Frag) (mg : Str → Option Value) (D fI : Addr) : Prop where
  fn : ∃ (oc : Value) (od : Option Addr) (osl : Array (Option Value)) (q : Str) (l : Nat) (p1 p2 r0 r1 : Pos) (c2 : Nat × Nat) (r3 : Pos) (c4 : Nat × Nat) (r5 q1 q2 q3 q4 : Pos) (kV doc pm : Value) (an : Option Addr) (cda : Addr) (ct : Value) (cc : Addr)
      (ccl : Value) (cdd : Option Addr) (vs : Array Value) (ccs : Array (Option Value)) (file : Str) (tf : Tok) (cl : Value) (cld : Option Addr) (csl : Array (Option Value)),
    K.lookup fI = some ⟨oc, od, .func (iFn q l p1 p2 r0 r1 c2 r3 c4 r5 q1 q2 q3 q4 kV doc pm an cda ct cc), osl⟩ ∧ codeIn K (.ref cda) q = true ∧
    K.lookup cda = some ⟨ccl, cdd, .fields vs, ccs⟩ ∧ vs[2]? = some (.str file tf) ∧ ((P.main.file : Str) == file) = true ∧ K.lookup cc = some ⟨cl, cld, .cell (some (.ref D)), csl⟩
  hD : (clsIn K D).isSome = true
  sup : mg "super" = none
  st : nsIn K cStatics "thirdparty.any" = some none
  top : (P.main.scope.names.lookup ("super" : Str)).isSome = false
  tI : typeIn K (.ref fI) = some (.type "function")
  gO : specialIn K (.builtin "object.__class__") "__get__" = some (some (.builtin "getset_descriptor.__get__"))
  tO : takesIn K (.builtin "object.__class__") = some true

/-- .. of a class at C, D itself or one below it -/
structure FeC (K : Frag) (D fI C : Addr) : Prop where
  cls : ∃ nm q N bs bm sn sub ab col dd k0 k1 k2 k3 k5, K.lookup C = some (excClassObj nm q C N bs bm true sn sub ab col dd k0 k1 k2 k3 k5 "ValueError.__new__") ∧ HandSPX.refsVE bm = true
  sa : findIn K (.ref C) "__setattr__" = some (some (.builtin "object.__setattr__"))
  iC : findIn K (.ref C) "__init__" = some (some (.ref fI))
  kC : keepIn K (.ref C) = true
  noV : findIn K (.ref C) "value" = some none
  sup : ks_superIn K C D "__init__" = some (some (.builtin "ValueError.__init__"))
  subD : mroIn K C (.ref D) = some true
  subV : subIn K (.ref C) (.type "ValueError") = some true
  exC : subIn K (.ref C) (.type "BaseException") = some true
  tyC : typeIn K (.ref C) = some (.type "type")
  ga : findIn K (.ref C) "__getattribute__" = some (some (.builtin "BaseException.__getattribute__"))
  gg : findIn K (.ref C) "__getattr__" = some none
  hd : hasDictIn K C = true
  hc : findIn K (.ref C) "__class__" = some (some (.builtin "object.__class__"))
  ho : mroIn K C (.type "object") = some true

section
variable {prog : Program} {w : World} {A : Around} {E : Value → Shared → Prop} {h : Heap} {g : Array GenState} {d : Drawn} {t : Nat} {os : OsState}
variable {nm q : Str} {C N : Addr} {bs bm : List Value} {hdct : Bool} {sn : List Str} {sub : List Value} {ab : Bool} {col : Option Bool} {dd : Option Addr} {k0 k1 k2 k3 k5 : Option Value}
/-- the bound ValueError.__init__ is called -/
theorem call_bw {u e t0 : Addr} {rest : List Value} {Q : Value → Shared → Prop}
    (hC : h.get? C = some (excClassObj nm q C N bs bm hdct sn sub ab col dd k0 k1 k2 k3 k5 "ValueError.__new__")) (he : h.get? e = some (HandSPX.excO C t0)) (hu : h.get? u = some (kxs_mw "ValueError.__init__" e)) (hrest : rest.length ≤ sizeLine)
    (hq : ∀ h' t1, (∀ b o, b ≠ e → h.get? b = some o → h'.get? b = some o) → h'.get? e = some (HandSPX.excO C t1) → Q .none ⟨h', g, d, t, os⟩) :
    wpAny (model prog w) A (call (.ref u) rest) Q E ⟨h, g, d, t, os⟩ := by
  refine wpAny_call (codeAny_of_tree ?_)
  show wpAny _ A.in1 (callAny (.ref u) ⟨rest, []⟩) _ _ _
  simp only [callAny]
  refine wpAny_bind (wpAny_load hu ?_)
  simp only [kxs_mw, show (Value.type "method-wrapper" == Value.type "method" || Value.type "method-wrapper" == Value.type "builtin_function_or_method" || Value.type "method-wrapper" == Value.type "method-wrapper") = true by decide, if_true]
  refine W.KFB.if_so (by decide) ?_
  refine wpAny_bind (W.check_bound_init F.excBase_ValueError.toExcCallFacts hC he rfl ?_)
  refine wpAny_bind (wpAny_pure (wpAny_pure ?_))
  refine ⟨Code.quiet_builtin _ (by decide +kernel), codeAny_builtin F.excBase_ValueError.initEntry ?_⟩
  rw [Around.under_plainId F.excBase_ValueError.init.plain _]
  wp_walk
  refine hq _ h.objs.size (fun b o hb ho => ?_) ?_
  · rw [Heap.get?_update_other _ _ (Ne.symm hb)]
    exact Heap.get?_push_of_some _ ho
  · rw [Heap.get?_update_self _ (Heap.get?_push_of_some _ he) rfl]
    rfl
end

/-- what __init__ leaves of a fresh exception at x -/
structure InitEnd (h h' : Heap) (x C dx t1 : Addr) (v : Value) : Prop where
  keep : ∀ b o, b ≠ x → h.get? b = some o → h'.get? b = some o
  obj : h'.get? x = some { cls := .ref C, dict := some dx, data := .fields #[.ref t1, .none, .none, .none, .bool false, .none] }
  dbig : h.objs.size ≤ dx
  dne : dx ≠ x
  ns : h'.Ns1 dx (fun y => if y = "value" then some v else none)

section
variable {prog : Program} {w : World} {A : Around} {E : Value → Shared → Prop} {R : Result → Shared → Prop} {s : Shared} {K : Frag} {mg mb : Str → Option Value} {D C fI : Addr}
theorem ne_cls {h : Heap} {x : Addr} {o : Obj} {cd : ClassData} (X : K.In h) (hx : h.get? x = some o) (hn : notCls o = true) (hc : clsIn K C = some cd) : x ≠ C := by
  rintro rfl
  unfold clsIn at hc
  split at hc
  · rename_i c d cd' sl ho
    have e := X _ _ ho
    rw [hx] at e
    cases e
    exact Bool.noConfusion hn
  · cases hc
theorem one_size (v : Value) : [v].length ≤ sizeLine := by
  rw [sizeLine_eq]
  exact (by decide : 1 ≤ 16777216)
theorem loc_iS (a b : Value) : ∀ y ∈ ([("self", a), ("value", b)] : List (Str × Value)), iS.names.lookup y.1 = some .local := fun y hy => by
  rcases List.mem_cons.mp hy with rfl | hy
  · exact (show iS.names.lookup ("self" : Str) = some .local by decide +kernel)
  · rcases List.mem_cons.mp hy with rfl | hy
    · exact (show iS.names.lookup ("value" : Str) = some .local by decide +kernel)
    · cases hy
/-- a method's call on one line -/
theorem eval_mc (o : Expr) (name y : Str) (l : Nat) (a c : Nat × Nat) (p : Pos) (env : Env) : eval (.Call (.Attribute o name ⟨l, a.1, l, a.2⟩) [.Name y p] [] ⟨l, c.1, l, c.2⟩) env = (do
      let ov ← attributeBase o name env (eval o env)
      standAt (⟨l, a.1, l, a.2⟩ : Pos).atName
      let (f, first) ← holding [ov] (getMethod ov name (do return (← importBound o env).getD true))
      callWith ⟨l, c.1, l, c.2⟩ f first (backTo ⟨l, c.1, l, c.2⟩ (starEach [.Name y p] env)) []) := by
  rw [arm_eval_Call]
  have e : (l == l) = true := beq_self_eq_true l
  have f : methodCallForm 1 (backTo ⟨l, c.1, l, c.2⟩ (starEach [.Name y p] env)) (backToKw ⟨l, c.1, l, c.2⟩ (keywordEach [] env)) = true := by rfl
  show (attributeBase o name env (eval o env) >>= fun ov => standAt _ >>= fun _ => methodCall o name _ _ env ov 1 _ _) = _
  unfold methodCall calleeOf methodCallPos
  rw [f]
  simp only [e, Bool.not_true, Bool.false_or, if_true, pure_bind]
  rfl
theorem fe_init (TD : FeD prog K mg D fI) (T : FeC K D fI C) {x t0 : Addr} {v : Value} (X : K.In s.heap) (G : s.heap.Ns mainGlobals mg) (B : s.heap.Ns builtinsNs mb) (hB : mb "super" = some (.type "super")) (hlim : s.heap.NoLimit) (hx : s.heap.get? x = some (HandSPX.excO C t0)) (hnx : K.lookup x = none) (hroom : A.depth < recursionLimit)
    (hq : ∀ h' tk dx t1, InitEnd s.heap h' x C dx t1 v → R (.ok (.ret .none)) { s with heap := h', toks := tk }) :
    codeAny (model prog w) A (.call (.ref fI) ⟨[.ref x, v], []⟩) R s := by
  obtain ⟨oc, od, osl, q, l, p1, p2, r0, r1, c2, r3, c4, r5, q1, q2, q3, q4, kV, doc, pm, an, cda, ct, cc, ccl, cdd, vs, ccs, file, tf, cl, cld, csl, hf, hcd, hcode, hvs, hfile, hcell⟩ := TD.fn
  obtain ⟨nm, qn, N, bs, bm, sn, sub, ab, col, dd, k0, k1, k2, k3, k5, hC, hbm⟩ := T.cls
  have hcl : clsIn K C = some { name := nm, bases := bs, mro := .ref C :: bm, ns := N, qualname := qn, hasDict := true, slotNames := sn, subclasses := sub, abstract := ab, collection := col, hasDel := false } := by unfold clsIn; rw [hC] <;> rfl
  obtain ⟨cdD, hcD⟩ := Option.isSome_iff_exists.mp TD.hD
  have hxC : x ≠ C := ne_cls X hx rfl hcl
  obtain ⟨oD, hD1, hD2⟩ : ∃ oD, K.lookup D = some oD ∧ oD.data = .cls cdD := by
    have hcD' := hcD
    unfold clsIn at hcD'
    split at hcD'
    · rename_i c d cd' sl ho
      cases hcD'
      exact ⟨_, ho, rfl⟩
    · cases hcD'
  have hx0 := Heap.lt_size hx
  refine ks_codeAny_call_defAt (fd := iFn q l p1 p2 r0 r1 c2 r3 c4 r5 q1 q2 q3 q4 kV doc pm an cda ct cc) (body := iB l r0 r1 c2 r3 c4 r5 q1 q2 q3 q4) (binds := [("self", .ref x), ("value", v)]) hroom (X _ _ hf) rfl hlim (codeRec_of X hcd) rfl (BindsTo.of_eq (by first | rfl | with_unfolding_all rfl)) (show ∀ x ∈ iS.names, x.2 ≠ .cell by decide +kernel) (loc_iS (.ref x) v) (fun h₁ hns k => ?_)
  have X1 : K.In h₁ := X.keeps k
  have hL : s.heap.objs.size ≠ x := Nat.ne_of_gt hx0
  have G1 : h₁.Ns mainGlobals mg := G.keeps k
  have B1 : h₁.Ns builtinsNs mb := B.keeps k
  obtain ⟨hh, gg, dr, tk, os⟩ := s
  generalize hLL : hh.objs.size = L at *
  show _root_.PySem.wpAt _ _ (.func (iB l r0 r1 c2 r3 c4 r5 q1 q2 q3 q4) (ksEnv q iS L fI (.ref cda) cc)) (execs (iB l r0 r1 c2 r3 c4 r5 q1 q2 q3 q4) (ksEnv q iS L fI (.ref cda) cc)) _ _ _
  unfold iB
  refine ks_wpAt_execs_cons (ks_wpAt_Expr_any (ks_wpAt_MethodCall ?_ (eval_mc _ _ _ _ _ _ _ _)))
  refine ks_wpAt_super_base (env := ksEnv q iS L fI (.ref cda) cc) (show iS.names.lookup ("super" : Str) = some .globalImplicit by decide +kernel) (show iS.names.lookup ("__class__" : Str) = some .free by decide +kernel) (by decide +kernel) rfl (X1 _ _ hf) rfl rfl rfl (X1 _ _ hcode) rfl hvs hfile TD.top ?_
  have hx1 := k _ _ hx
  have hkk : iS.kind = .function := rfl
  refine ks_loadName_global rfl (show iS.names.lookup ("super" : Str) = some .globalImplicit by decide +kernel) (loadGlobal_builtin (env := ksEnv q iS L fI (.ref cda) cc) G1 TD.sup B1 hB ⟨rfl, ?_⟩)
  refine wpAny_loadName_free rfl (show iS.names.lookup ("__class__" : Str) = some .free by decide +kernel) rfl ⟨_, X1 _ _ hcell, rfl⟩ ?_
  refine wpAny_loadName_local (v := .ref x) rfl (show iS.names.lookup ("self" : Str) = some .local by decide +kernel) hns (by first | rfl | with_unfolding_all rfl | kernel_rfl) ?_
  refine ks_wpAny_isType_cls (X1 _ _ hD1) hD2 ⟨rfl, ?_⟩
  refine ks_wpAny_call_super (X1 _ _ hD1) hD2 hx1 rfl (fun c e => by cases e) (looks_mroIn X1 T.subD) (fun h2 e2 k2 => ?_)
  have X2 : K.In h2 := X1.keeps k2
  have hx2 := k2 _ _ hx1
  have I2 : InstAt h2 x (HandSPX.excO C t0) C none := ⟨hx2, rfl, rfl, trivial⟩
  have hI : Looks (model prog w) h2 (isInstance (.ref x) (.type "ValueError")) true := I2.type.andThen (looks_subIn X2 T.subV)
  have hal : alongIn K "__init__" (((Value.ref C :: bm).dropWhile (· != .ref D)).drop 1) = some (some (.builtin "ValueError.__init__")) := by
    have e := T.sup
    unfold ks_superIn at e
    rw [hcl] at e
    exact e
  refine kxs_getMethod kxs_ValueError e2 (looks_opaque X2 TD.st) (l₀ := .ref C :: bm) (fun A Q E s k q => wpAny_bind ((looks_clsIn X2 hcl) A _ E s k (wpAny_pure q))) rfl X2 hal hI hxC (by decide +kernel) ?_
  refine kxs_callWith (i := "ValueError.__init__") (x := x) rfl (evalArgs_plain ?_)
  have hso : h₁.objs.size < h2.objs.size := Heap.lt_size e2
  obtain ⟨oL, esL, epL, hoL, hrL⟩ := id hns
  have hu : ∀ b o, h2.get? b = some o → (h2.push (kxs_mw "ValueError.__init__" x)).get? b = some o := fun b o e => Heap.get?_push_of_some _ e
  have hns3 : (h2.push (kxs_mw "ValueError.__init__" x)).Ns L (fun y => List.lookup y [(Str.ofString "self", Value.ref x), (Str.ofString "value", v)].reverse) := ⟨oL, esL, epL, hu _ _ (k2 _ _ hoL), hrL⟩
  refine Calls.spliced_cons (ESX.ldL (v := v) hns3 (by first | rfl | with_unfolding_all rfl | kernel_rfl) ?_ rfl (show iS.names.lookup ("value" : Str) = some .local by decide +kernel))
  refine Calls.spliced_nil ⟨Heap.get?_push_at rfl rfl, ?_⟩
  refine call_bw (C := C) (e := x) (t0 := t0) (hu _ _ (X2 _ _ hC)) (hu _ _ hx2) (Heap.get?_push_at rfl rfl) (one_size v) (fun h4 t4 k4 hx4 => ?_)
  have hoL4 : h4.get? L = some oL := k4 _ _ hL (hu _ _ (k2 _ _ hoL))
  have hns4 : h4.Ns L (fun y => List.lookup y [(Str.ofString "self", Value.ref x), (Str.ofString "value", v)].reverse) := ⟨oL, esL, epL, hoL4, hrL⟩
  have hCx : C ≠ x := Ne.symm hxC
  have kx : ∀ b o, b ≠ x → hh.get? b = some o → h4.get? b = some o := fun b o hb e => k4 b o hb (hu _ _ (k2 _ _ (k _ _ e)))
  have X4 : K.In h4 := fun a o e => by
    refine k4 a o ?_ (hu _ _ (X2 a o e))
    rintro rfl
    rw [hnx] at e
    cases e
  show _root_.PySem.wpAt _ _ _ (execs _ _) _ _ _
  refine ks_wpAt_execs_cons (ks_wpAt_Assign_Attr ?_)
  refine wpAt_of_wpAny ?_
  refine ESX.ldL (s := ⟨h4, gg, dr, _, os⟩) (env := ksEnv q iS L fI (.ref cda) cc) (v := v) hns4 (by first | rfl | with_unfolding_all rfl | kernel_rfl) ?_ rfl (show iS.names.lookup ("value" : Str) = some .local by decide +kernel)
  refine ESX.ldL (s := ⟨h4, gg, dr, _, os⟩) (env := ksEnv q iS L fI (.ref cda) cc) (v := .ref x) hns4 (by first | rfl | with_unfolding_all rfl | kernel_rfl) ?_ rfl (show iS.names.lookup ("self" : Str) = some .local by decide +kernel)
  refine set_plain X4 (ox := HandSPX.excO C t4) (od := none) ⟨hx4, rfl, rfl, trivial⟩ T.sa ?_
  refine HandSPX.exc_osa X4 hx4 hcl (show HandSPX.refsVE (.ref C :: bm) = true from hbm) rfl T.noV (fun h5 tk5 dx k5 dn dne hx5 hn5 => ?_)
  show _root_.PySem.wpAt _ _ _ (execs _ _) _ _ _
  refine wpAt_of_wpAny (wpAny_execs_nil ?_)
  exact hq h5 tk5 dx t4 ⟨fun b o hb e => k5 b o hb (kx b o hb e), hx5, Nat.le_of_lt (Nat.lt_of_lt_of_le (by show hh.objs.size < h4.objs.size; rw [hLL]; exact Heap.lt_size hoL4) dn), dne, hn5⟩
/-- a made exception of the class at C, its dict at d -/
structure OwnMade (h h' : Heap) (e C d : Addr) (v : Value) : Prop where
  keep : ∀ b o, h.get? b = some o → h'.get? b = some o
  new : h.objs.size ≤ e
  obj : ∃ t1 : Addr, h'.get? e = some { cls := .ref C, dict := some d, data := .fields #[.ref t1, .none, .none, .none, .bool false, .none] }
  dbig : h.objs.size ≤ d
  dne : d ≠ e
  ns : h'.Ns1 d (fun y => if y = "value" then some v else none)
theorem fe_made (TD : FeD prog K mg D fI) (T : FeC K D fI C) {v : Value} (X : K.In s.heap) (G : s.heap.Ns mainGlobals mg) (B : s.heap.Ns builtinsNs mb) (hB : mb "super" = some (.type "super")) (hlim : s.heap.NoLimit) (hroom : A.depth + 1 < recursionLimit)
    (hq : ∀ h' tk e d, OwnMade s.heap h' e C d v → R (.ok (.ret (.ref e))) { s with heap := h', toks := tk }) :
    codeAny (model prog w) A (.call (.ref C) ⟨[v], []⟩) R s := by
  obtain ⟨nm, q, N, bs, bm, sn, sub, ab, col, dd, k0, k1, k2, k3, k5, hC, hbm⟩ := T.cls
  obtain ⟨hp, g, dr, tk, os⟩ := s
  have k : ∀ b o, hp.get? b = some o → ((hp.push (kdv_tup [v])).push (HandSPX.excO C hp.objs.size)).get? b = some o := fun b o e => Heap.get?_push_of_some _ (Heap.get?_push_of_some _ e)
  have hget : ((hp.push (kdv_tup [v])).push (HandSPX.excO C hp.objs.size)).get? (hp.objs.size + 1) = some (HandSPX.excO C hp.objs.size) := by heap_get
  have hnx : K.lookup (hp.objs.size + 1) = none := by
    cases e : K.lookup (hp.objs.size + 1) with
    | none => rfl
    | some o =>
      have z : hp.get? (hp.objs.size + 1) = some o := X _ _ e
      exact absurd (Nat.lt_of_succ_lt (Heap.lt_size z)) (Nat.lt_irrefl _)
  refine HandSPX.call_own F.excBase_ValueError (fun X => HandSPX.refsVE_contains X bm hbm) (X _ _ hC) (looks_findIn X T.iC) (fun self => bind_fn X self TD.tI) (one_size v) ?_
  refine fe_init (s := ⟨(hp.push (kdv_tup [v])).push (HandSPX.excO C hp.objs.size), g, dr, tk, os⟩) TD T (X.keeps k) (G.keeps k) (B.keeps k) hB (hlim.keeps k) hget hnx ?_ fun h' tk' dx t1 ⟨k', hx, dn, dne, hns⟩ => ?_
  · show A.depth + 1 < recursionLimit
    exact hroom
  · have old : ∀ b o, hp.get? b = some o → h'.get? b = some o := fun b o e => k' b o (Nat.ne_of_lt (Nat.lt_succ_of_lt (Heap.lt_size e))) (k b o e)
    have z : hp.objs.size + 1 + 1 ≤ dx := by
      first
        | (simpa only [Heap.size_push] using dn)
        | exact dn
        | (have q := dn; rw [Heap.size_push, Heap.size_push] at q; exact q)
    exact ⟨rfl, hq h' tk' (hp.objs.size + 1) dx ⟨old, Nat.le_succ _, ⟨t1, hx⟩, Nat.le_trans (Nat.le_trans (Nat.le_succ _) (Nat.le_succ _)) z, dne, hns⟩⟩
end
end Fe
end
section
set_option Elab.async false
set_option linter.all false
set_option maxRecDepth 100000
set_option maxHeartbeats 4000000
/-! Errors as values over the hand layer: made, asked for their class, their value read. -/
namespace Fe
open PySem PySem.Spec PyProof.Rows L2

section
variable {X : Cx} {D fI C : Addr} {x : Str} {e : Expr} {te : TE} {p pos : Pos}
/-- a made error, tracked: its dict at d, itself at a -/
def feH (H : Hp) (C a d : Addr) (v : V) : Hp := upd (upd H d (.xd [("value", v)])) a (exo a C (some d))
theorem relO_value {v : V} {v' : Value} (r : L2.RelV v v') (f : Str) : RelO (List.lookup f [(("value" : Str), v)]) (if f = "value" then some v' else none) := by
  by_cases hw : f = "value"
  · subst hw
    rw [if_pos rfl]
    have q : List.lookup ("value" : Str) [(("value" : Str), v)] = some v := by simp [List.lookup]
    rw [q]
    exact r
  · rw [if_neg hw]
    have qw : (f == ("value" : Str)) = false := by simpa using hw
    have q2 : List.lookup f [(("value" : Str), v)] = none := by simp [List.lookup, qw]
    rw [q2]
    trivial
/-- C(v) -/
theorem make_run {pins : List (Addr × Obj)} {σ : L2.St} {H : Hp} {s : Shared} {Q : VK} {v : V} {u : Value} (TD : FeD X.prog X.K X.mg D fI) (T : FeC X.K D fI C) (hr : Room 1 X.A) (I : Inv X pins σ H s) (r : L2.RelV v u)
    (h : ∀ a d, H a = none → H d = none → d ≠ a → Q (.ref a) (feH H C a d v)) : wpAny (model X.prog X.w) X.A (call (.ref C) [u]) (EP X pins σ Q) X.xe s := by
  have hlim := I.nolimit
  have G : s.heap.Ns mainGlobals X.mg := I.ok.mod.glob.keeps I.bk
  obtain ⟨mb, hb0, hb1⟩ := I.ok.mod.blt
  have B : s.heap.Ns builtinsNs mb := hb0.keeps I.bk
  have hB : mb "super" = some (.type "super") := (hb1 "super" (by decide +kernel)).trans (by decide +kernel)
  obtain ⟨hp, g, dr, tk, os⟩ := s
  refine wpAny_call (fe_made TD T I.kIn G B hB hlim (by have := hr.dp; omega) fun h' tk' e d M => ?_)
  obtain ⟨t1, hoe⟩ := M.obj
  have hns := M.ns
  obtain ⟨G', g1, g2⟩ := restrict h' fun b => decide (b ≠ e)
  have gk : ∀ b, b ≠ e → G'.get? b = h'.get? b := fun b hb => g1 b (decide_eq_true hb)
  have ge : G'.get? e = none := g2 e (by simp)
  have old : ∀ b o, hp.get? b = some o → G'.get? b = some o := fun b o q => (gk b (Nat.ne_of_lt (Nat.lt_of_lt_of_le (Heap.lt_size q) M.new))).trans (M.keep b o q)
  have ob : ObjOk X.prog X.w (upd H d (.xd [(("value" : Str), v)])) G' d (.xd [(("value" : Str), v)]) :=
    ⟨_, hns.at (fun o q => (gk d M.dne).trans q), fun f => relO_value r f⟩
  have J : Inv X pins σ (upd H d (.xd [(("value" : Str), v)])) ⟨G', g, dr, tk', os⟩ := I.laid (t' := tk') old M.dbig ob
  have hHe : H e = none := I.hok.fresh M.new
  have hHd : H d = none := I.hok.fresh M.dbig
  have J2 : Inv X pins σ (feH H C e d v) ⟨h', g, dr, tk', os⟩ := J.laidN (t' := tk') (fun b u q => by
    by_cases hb : b = e
    · have q' : G'.get? b = some u := q
      rw [hb, ge] at q'
      cases q'
    · exact (gk b hb).symm.trans q) ge (by rw [upd_ne (Ne.symm M.dne)]; exact hHe) (exo_ok hoe)
  exact ⟨.ref e, _, J2, rfl, h e d hHe hHd M.dne⟩
def tFe (C : Addr) (te : TE) : TE := fun σ H Q => te σ H fun v H1 => ∀ a d, H1 a = none → H1 d = none → d ≠ a → Q (.ref a) (feH H1 C a d v)
theorem pe_fe (TD : FeD X.prog X.K X.mg D fI) (T : FeC X.K D fI C) (hr : Room 1 X.A) (gC : X.mg x = some (.ref C)) (he : PE X e te) (hg : Gl X x := by rfl) (hs : starEach [e] X.env = (false, eval e X.env) :: starEach [] X.env := by rfl) (hdb : (x == ("__debug__" : Str)) = false := by decide +kernel) :
    PE X (.Call (.Name x p) [e] [] pos) (tFe C te) := by
  refine ⟨fun pins s σ H Q I h => ?_⟩
  refine wpAny_Call_Name_kw (ld_glob I hg gC ?_ hdb)
  refine PySem.W.callWith_K (h₀ := X.base) I.ok.mod.kin T.kC ?_ hs (by rfl)
  rw [hs]
  show wpAny _ _ (spliced ((false, eval e X.env) :: backTo pos (starEach [] X.env))) _ _ s
  refine Calls.spliced_cons (thn (he.run pins s σ H _ I h) fun u s1 ⟨v, H1, I1, r1, q1⟩ => ?_)
  refine Calls.spliced_nil ⟨I1.kIn, ?_⟩
  exact make_run TD T hr I1 r1 q1
/-- e.value -/
def tFeV (K : PySem.W.Frag) (D fI : Addr) (te : TE) : TE := fun σ H Q => te σ H fun x H1 => ∃ (a C d : Addr) (v : V), x = .ref a ∧ FeC K D fI C ∧ H1 a = some (exo a C (some d)) ∧ H1 d = some (.xd [("value", v)]) ∧ Q v H1
theorem pe_feV (he : PE X e te) (hb : attributeBase e "value" X.env (eval e X.env) = eval e X.env := by rfl) : PE X (.Attribute e "value" pos) (tFeV X.K D fI te) := by
  refine ⟨fun pins s σ H Q I h => ?_⟩
  refine attr_of hb (thn (he.run pins s σ H _ I h) fun u s1 hh => ?_)
  obtain ⟨x, H1, I1, rx, a, C, d, v, ex, T, ea, ed, q⟩ := hh
  subst ex
  obtain rfl : u = Value.ref a := rx
  obtain ⟨t1, ha⟩ := exo_at I1.hok ea
  have hx : ObjOk X.prog X.w H1 s1.heap d (.xd [(("value" : Str), v)]) := I1.hok d _ ed
  obtain ⟨mA, hns, hr⟩ := hx
  obtain ⟨od, ho, hl⟩ := lookIn_ns hns
  have l : List.lookup ("value" : Str) [(("value" : Str), v)] = some v := by simp [List.lookup]
  obtain ⟨u, hu, ru⟩ := RelO.some_of (v := v) (o := mA "value") (by rw [← l]; exact hr "value")
  have J : PySem.W.InstAt s1.heap a { cls := .ref C, dict := some d, data := .fields #[.ref t1, .none, .none, .none, .bool false, .none] } C (some od) := ⟨ha, rfl, rfl, ho⟩
  exact HandSPX.exc_get I1.kIn J T.ga T.gg T.exC (PySem.W.findObj_own T.hd T.noV rfl (by rw [hl, hu])) (handed_of ru) ⟨v, H1, I1.tok _, ru, q⟩
/-- isinstance(e, c) -/
def rFeIs (P : Program) (K : PySem.W.Frag) (mg : Str → Option Value) (D fI : Addr) : List V → Hp → VK → Prop := fun xs H Q => ∃ (a C d : Addr) (c : V) (cv : Value) (b : Bool), xs = [.ref a, c] ∧ FeD P K mg D fI ∧ FeC K D fI C ∧ H a = some (exo a C (some d)) ∧ (∀ u, L2.RelV c u → u = cv) ∧ PySem.W.kitOne K (.ref C) cv = some b ∧ (∃ fs, H d = some (.xd fs)) ∧ Q (.bl b) H
theorem call_feIs : CallR X (.builtin "isinstance") (rFeIs X.prog X.K X.mg D fI) := by
  intro pins s σ H xs us Q I r h
  obtain ⟨a, C, d, c, cv, b, rfl, TD, T, ea, hcv, e, ⟨fs, ed⟩, q⟩ := h
  cases r with
  | cons rx rr =>
    cases rr with
    | cons rt rr =>
      cases rr
      cases rx
      have ec := hcv _ rt
      subst ec
      obtain ⟨t1, ha⟩ := exo_at I.hok ea
      have hx : ObjOk X.prog X.w H s.heap d (.xd fs) := I.hok d _ ed
      obtain ⟨mA, hns, hr⟩ := hx
      obtain ⟨od, ho, hl⟩ := lookIn_ns hns
      have J : PySem.W.InstAt s.heap a { cls := .ref C, dict := some d, data := .fields #[.ref t1, .none, .none, .none, .bool false, .none] } C (some od) := ⟨ha, rfl, rfl, ho⟩
      obtain ⟨cd, hcd, _⟩ := PySem.W.any_some T.hd
      exact PySem.W.kia_one (PySem.W.kitx_exc (by rw [hcd]; rfl) T.ga T.gg T.exC T.hc TD.gO TD.tO T.ho) I.kIn J e (fun z => nomatch z) fun tk => ⟨.bl b, H, I.kept (t' := tk) fun _ _ z => z, rfl, q⟩
end
end Fe
end
section
set_option Elab.async false
set_option linter.all false
set_option maxRecDepth 100000
set_option maxHeartbeats 4000000
/-! repr of data, of dicts of plain things, where no repr is under way. -/
namespace Fe
open PySem PySem.Spec PyProof.Rows L2

def keyD : Key → PyData
  | .inl i => .int i
  | .inr x => .str x
def flatD : V → Option PyData
  | .non => some .none
  | .bl b => some (.bool b)
  | .int i => some (.int i)
  | .str x => some (.str x)
  | _ => none
/-- the pairs of a dict of plain things -/
def kvsD : List (Key × V) → Option (List (PyData × PyData))
  | [] => some []
  | (k, v) :: r => (flatD v).bind fun d => (kvsD r).map fun l => (keyD k, d) :: l
section
variable {X : Cx} {pins : List (Addr × Obj)} {σ : L2.St} {H : Hp} {s : Shared}
theorem flat_reads {h : Heap} {v : V} {u : Value} {d : PyData} (r : L2.RelV v u) (e : flatD v = some d) : Reads h u d [] := by
  cases v with
  | non =>
    cases e
    cases r
    exact .none
  | bl b =>
    cases e
    cases r
    exact .bool b
  | int i =>
    cases e
    obtain ⟨t, rfl⟩ := r
    exact .int i t
  | str x =>
    cases e
    obtain ⟨t, rfl⟩ := r
    exact .str x t
  | _ => cases e
theorem key_reads {h : Heap} {k : Key} {u : Value} (e : keyIs k u = true) : Reads h u (keyD k) [] := by
  rcases keyIs_shape e with ⟨i, t, rfl, rfl⟩ | ⟨x, t, rfl, rfl⟩
  · exact .int i t
  · exact .str x t
theorem kvs_reads {h : Heap} {P : Program} {w : World} : ∀ (kvs : List (Key × V)) (vs : List (Key × Value)) (es : List DictEntry) (ds : List (PyData × PyData)), KV kvs vs → Pairs (mixKind P w) es vs → kvsD kvs = some ds →
    ReadsAll h (es.map (·.key)) (ds.map (·.1)) [] ∧ ReadsAll h (es.map (·.val)) (ds.map (·.2)) []
  | [], _, _, ds, kv, p, e => by
    cases kv
    cases p
    cases e
    exact ⟨.nil, .nil⟩
  | (k, v) :: r, _, _, ds, kv, p, e => by
    cases kv with
    | cons r1 r2 =>
      cases p with
      | cons p1 p2 p3 =>
        have e1 : ((flatD v).bind fun d => (kvsD r).map fun l => (keyD k, d) :: l) = some ds := e
        cases e2 : flatD v with
        | none =>
          rw [e2] at e1
          cases e1
        | some d =>
          rw [e2] at e1
          have e3 : ((kvsD r).map fun l => (keyD k, d) :: l) = some ds := e1
          cases e4 : kvsD r with
          | none =>
            rw [e4] at e3
            cases e3
          | some l =>
            rw [e4] at e3
            cases e3
            obtain ⟨q1, q2⟩ := kvs_reads r _ _ l r2 p3 e4
            obtain ⟨k1, k2⟩ := r1
            dsimp only at k1 k2
            refine ⟨.cons (as := []) (bs := []) (key_reads (by rw [k1]; exact p1)) q1, .cons (as := []) (bs := []) ?_ q2⟩
            dsimp only
            rw [p2]
            exact flat_reads k2 e2
/-- repr(v): data without dicts, or a dict of plain things -/
def rRepr (K : PySem.W.Frag) : List V → Hp → VK → Prop := fun xs H Q => ∃ (v : V) (d : PyData), xs = [v] ∧ d.showable = true ∧ d.shown.length ≤ sizeLine ∧ d.depth ≤ 30 ∧
  ((Dp K H v d ∧ d.hasDict = false) ∨ ∃ (a : Addr) (kvs : List (Key × V)) (ds : List (PyData × PyData)), v = .ref a ∧ H a = some (.dK kvs) ∧ kvsD kvs = some ds ∧ d = .dict ds) ∧ Q (.str d.shown) H
theorem call_repr (hg : X.A.guards = some []) (hu : X.A.units + 64 < cLine) : CallR X (.builtin "repr") (rRepr X.K) := by
  intro pins s σ H xs us Q I r h
  obtain ⟨v, d, rfl, hs, hz, hd, hv, q⟩ := h
  obtain ⟨u, rfl, ru⟩ := vals1 r
  have fin : ∀ (h' : Heap) (t tk : Nat), (∀ b o, s.heap.get? b = some o → h'.get? b = some o) → EP X pins σ Q (.str d.shown t) { s with heap := h', toks := tk } := fun h' t tk k => ⟨.str d.shown, H, I.kept (t' := tk) k, ⟨t, rfl⟩, q⟩
  rcases hv with ⟨hv, hn⟩ | ⟨a, kvs, ds, rfl, ha, hk, rfl⟩
  · obtain ⟨as, rd⟩ := Dp.reads I d v u hv ru
    have ref : ∀ a, u = .ref a → wpAny (model X.prog X.w) X.A (call (.builtin "repr") [u]) (EP X pins σ Q) X.xe s := fun a e => by
      subst e
      exact repr_of_reads' (h₀ := s.heap) rd hs (PyData.noDict_hsm hn) hg (by omega) (fun _ _ z => z) (fun h' t tk k => fin h' t tk k) hz
    cases hv with
    | non =>
      cases ru
      exact PySem.P.repr_of_none (fin s.heap _ _ fun _ _ z => z)
    | bl b =>
      cases ru
      exact PySem.P.repr_of_bool (fin s.heap _ _ fun _ _ z => z)
    | int i =>
      obtain ⟨t, rfl⟩ := ru
      exact PySem.P.repr_of_int (of_decide_eq_true hs) (fin s.heap _ _ fun _ _ z => z)
    | str x =>
      obtain ⟨t, rfl⟩ := ru
      exact PySem.P.repr_of_str (fin s.heap _ _ fun _ _ z => z) hz
    | lst _ _ => exact ref _ ru
    | tup _ _ => exact ref _ ru
  · obtain rfl : u = .ref a := ru
    have ok : ObjOk X.prog X.w H s.heap a (.dK kvs) := I.hok a _ ha
    obtain ⟨z, nsys, vs, kv, o, es, ep, ho, hx, hdt, _, hp, _⟩ := ok
    obtain ⟨q1, q2⟩ := kvs_reads kvs vs es.toList ds kv hp hk
    have rd : Reads s.heap (.ref a) (.dict ds) (a :: [] ++ []) := .dict ho hx.1 hdt q1 q2
    exact repr_of_reads' (h₀ := s.heap) rd hs (fun _ hm => by
      have e : sysModules = a := by simpa using hm
      rw [← e] at nsys
      simp at nsys) hg (by omega) (fun _ _ z => z) (fun h' t tk k => fin h' t tk k) hz
end

/-! ### defs of which nothing but such code is asked where no repr is under way -/
structure FnOkG (P : Program) (w : World) (K : PySem.W.Frag) (mg : Str → Option Value) (base : Heap) (CX : CXT) (k : Nat) (f : Addr) (fd : FuncData) (ps : List Str) (sp : Sp) : Prop where
  len : ∀ vs H Q E, sp vs H Q E → vs.length = ps.length
  run : ∀ (A : Around) (outer : List Env) (s : Shared) (H : Hp) (args : Args) (us : List Value) (vs : List V) (Q : VK) (E : XK), Room k A → A.guards = some [] → Env0 P w K mg base A outer s H → BindsTo s fd args (ps.zip us) → Vals vs us → sp vs H Q E →
    codeAny (model P w) A (.call (.ref f) args) (CR CX outer P w H s Q E) s
theorem FnOkG.mono {P : Program} {w : World} {K : PySem.W.Frag} {mg : Str → Option Value} {base : Heap} {CX : CXT} {j k : Nat} {f : Addr} {fd : FuncData} {ps : List Str} {sp : Sp} (F : FnOkG P w K mg base CX j f fd ps sp) (h : j ≤ k) : FnOkG P w K mg base CX k f fd ps sp :=
  ⟨F.len, fun A outer s H args us vs Q E hr => F.run A outer s H args us vs Q E (hr.mono h)⟩
theorem FnOkG.of {P : Program} {w : World} {K : PySem.W.Frag} {mg : Str → Option Value} {base : Heap} {CX : CXT} {k : Nat} {f : Addr} {fd : FuncData} {ps : List Str} {sp : Sp} (F : FnOk P w K mg base CX k f fd ps sp) : FnOkG P w K mg base CX k f fd ps sp :=
  ⟨F.len, fun A outer s H args us vs Q E hr _ => F.run A outer s H args us vs Q E hr⟩
/-- such a def, by its body -/
theorem okG {P : Program} {w : World} {K : PySem.W.Frag} {mg : Str → Option Value} {base : Heap} {x qual : Str} {params : Arguments} {body : List Stmt} {scope : Scope} {dvs : List V} {kws : List (Str × V)} {f : Addr} {fd : FuncData} {CX : CXT} {N ps : List Str} {k : Nat} {sp : Sp}
    (F : FunD K x qual params body scope dvs kws f fd) (S : FnScope N ps scope) (len : ∀ vs H Q E, sp vs H Q E → vs.length = ps.length)
    (hb : ∀ (cdv : Value) (A : Around) (outer : List Env) (s : Shared) (H : Hp) (vs : List V) (Q : VK) (E : XK), Room k (A.deeper (envOfC qual scope s.heap.objs.size f cdv)) → (A.deeper (envOfC qual scope s.heap.objs.size f cdv)).guards = some [] → sp vs H Q E →
      ∃ t, PSs (cxOf CX P w K mg base N qual scope f cdv A outer s H E) body t ∧ t { nx := fun _ H' => Q .non H', rt := Q } (start N vs) H) : FnOkG P w K mg base CX (k + 1) f fd ps sp := by
  obtain ⟨oc, od, dV, kV, doc, pm, an, cdv, ct, osl, rfl, lk, hcd, _, _⟩ := F.ex
  refine ⟨len, fun A outer s H args us vs Q E hr hg e0 hbd r hsp => ?_⟩
  have hl := len _ _ _ _ hsp
  have up : ∀ b o, base.get? b = some o → s.heap.get? b = some o := fun b o e => (e0.bs b o e).1
  have KX : K.In s.heap := e0.mod.kin.keeps up
  have kinds : ∀ y ∈ ps.zip us, scope.names.lookup y.1 = some .local ∨ (scope.names.lookup y.1 = some .cell ∧ ((cellsFrom (s.heap.objs.size + 1) scope.names []).lookup y.1).isSome = true) := by
    rintro ⟨n, v⟩ hy
    cases S.par n (List.of_mem_zip hy).1 with
    | inl q => exact .inl q
    | inr q => exact .inr ⟨q, PySem.W.cellsFrom_some _ _ _ (.inl q)⟩
  refine codeAny_call_function hr.depth (KX _ _ lk) rfl S.co S.gen rfl (PySem.W.codeRec_of KX hcd) (hbd _ _ _ _ (wpAny_newFunctionEnv_cells S.kind kinds fun env he s1 z => ?_))
  subst he
  refine ⟨(e0.mod.nolimit.keeps up).keeps z.toInCall.keep, codeAny_func ?_⟩
  obtain ⟨t, ht, hq⟩ := hb cdv A outer s H vs Q E (hr.deeper _) hg hsp
  refine wpAny_mono (ht.run [] s1 (start N vs) H _ (inv_start S hr.hd e0 hl r z) hq) (fun fl s' hs => ?_) fun _ _ h => h
  cases fl with
  | ret u =>
    obtain ⟨v, σ', H', J, rv, q⟩ := hs
    exact ⟨v, H', J.os, J.bare, J.base, J.hok, rv, q⟩
  | next =>
    obtain ⟨σ', H', J, q⟩ := hs
    exact ⟨.non, H', J.os, J.bare, J.base, J.hok, rfl, q⟩
  | brk => exact hs.elim fun _ z => z.elim fun _ z => z.2.elim
  | cont => exact hs.elim fun _ z => z.elim fun _ z => z.2.elim
/-- the law's promise at the heap behind the top, the call at the claim's own place -/
theorem law_callG {P : Program} {w : World} {K : PySem.W.Frag} {mg mb : Str → Option Value} {CX : CXT} {k : Nat} {fa a : Addr} {fd : FuncData} {x : Str} {sp : Sp} {s₁ : Shared} {vs : List Value} {ns : List Int}
    (KX : K.In s₁.heap) (hns : s₁.heap.Ns mainGlobals mg) (hb : s₁.heap.Ns builtinsNs mb) (hbb : ∀ x : Str, x ≠ "__name__" → mb x = bootBuiltins x) (hlim : s₁.heap.NoLimit) (hg : s₁.gens = #[])
    (ha : s₁.heap.get? a = some { cls := .type "list", data := .seq vs.toArray }) (hi : IntsAre vs ns) (hl : ns.length ≤ sizeLine) (hr : Room k callerA)
    (F : ∀ base : Heap, K.In base → base.Ns mainGlobals mg → FnOkG P w K mg base CX k fa fd [x] sp) (hbind : ∀ (s : Shared) (u : Value), BindsTo s fd ⟨[u], []⟩ [(x, u)])
    (hsp : ∀ H : Hp, Only H → SqL K H a (ns.map V.int) → sp [.ref a] H (fun v _ => v = .bl true) fun _ _ _ => False)
    (hCX : ∀ H e s', CX [] H s₁ (fun _ _ _ => False) e s' → False) :
    codeAny (model P w) callerA (.call (.ref fa) ⟨[.ref a], []⟩) (fun r s' => r = .ok (.ret (.bool true)) ∧ OldK s₁.heap s'.heap ∧ s'.os = s₁.os ∧ AllBare s'.gens) s₁ := by
  have rv := vals_ints hi
  have lenV := hi.length
  suffices core : ∀ H : Hp, Only H → SqL K H a (ns.map V.int) → HOk P w H s₁.heap → (∀ b u, H b = some u → b = a ∧ K.lookup a = none) →
      codeAny (model P w) callerA (.call (.ref fa) ⟨[.ref a], []⟩) (fun r s' => r = .ok (.ret (.bool true)) ∧ OldK s₁.heap s'.heap ∧ s'.os = s₁.os ∧ AllBare s'.gens) s₁ by
    let o0 : Obj := { cls := .type "list", data := .seq vs.toArray }
    cases hk : K.lookup a with
    | some o =>
      have e := KX a o hk
      rw [ha] at e
      cases e
      exact core (fun _ => none) (fun _ => .inl rfl) (.inr ⟨_, vs.toArray, _, hk, rfl, rfl, rfl, by rw [List.size_toArray, lenV]; exact hl, by simpa using rv⟩) (fun _ _ z => nomatch z) fun _ _ z => nomatch z
    | none =>
      have at_ : ∀ b u, (if b = a then some (HO.frz o0 (.lst (ns.map V.int))) else none) = some u → b = a ∧ u = .frz o0 (.lst (ns.map V.int)) := fun b u z => by
        by_cases hb : b = a
        · rw [if_pos hb] at z
          exact ⟨hb, (Option.some.inj z).symm⟩
        · rw [if_neg hb] at z
          cases z
      refine core (fun b => if b = a then some (.frz o0 (.lst (ns.map V.int))) else none) (fun b => ?_) (.inl (.inr ⟨o0, if_pos rfl⟩)) (fun b u z => ?_) fun b u z => ⟨(at_ b u z).1, hk⟩
      · by_cases hb : b = a
        · exact .inr ⟨_, _, if_pos hb⟩
        · exact .inl (if_neg hb)
      · obtain ⟨rfl, rfl⟩ := at_ b u z
        exact ⟨ha, by rw [List.length_map]; exact hl, vs, _, rv, ha⟩
  intro H hO hS hok hA
  -- what is tracked is the script alone: the rest is the base
  have none_of : ∀ {b : Addr} {o : Obj}, s₁.heap.get? b = some o → (b = a → False) → H b = none := fun {b o} _ n => by
    cases q : H b with
    | none => rfl
    | some u => exact (n (hA b u q).1).elim
  have dict_ne : ∀ {b : Addr} {o : Obj} {es : Array DictEntry} {ep : Nat}, s₁.heap.get? b = some o → o.data = .dict es ep → b = a → False := fun {b o es ep} e d z => by
    rw [z, ha] at e
    cases e
    cases d
  have nsK : ∀ {b : Addr} {m : Str → Option Value}, s₁.heap.Ns b m → (hidT s₁.heap H).Ns b m := fun {b m} ⟨o, es, ep, e, d, r⟩ => ⟨o, es, ep, hidT_get e (none_of e (dict_ne e d)), d, r⟩
  have hKb : K.In (hidT s₁.heap H) := fun b o e => hidT_get (KX b o e) (by
    cases q : H b with
    | none => rfl
    | some u =>
      obtain ⟨z, n⟩ := hA b u q
      rw [z, n] at e
      cases e)
  have hM : Mod K mg (hidT s₁.heap H) := ⟨hKb, nsK hns, ⟨mb, nsK hb, hbb⟩, hlim.elim fun mc z => ⟨mc, nsK z.1, z.2⟩⟩
  have e0 : Env0 P w K mg (hidT s₁.heap H) callerA [] s₁ H := ⟨rfl, hM, fun b o e => of_hidT e, Nat.le_of_eq (hidT_size _ _), trivial, fun b hb => (List.not_mem_nil hb).elim, hok, .of_eq hg⟩
  refine codeAny_mono ((F _ hKb (nsK hns)).run callerA [] s₁ H ⟨[.ref a], []⟩ [.ref a] [.ref a] _ _ hr rfl e0 (hbind s₁ (.ref a)) (.cons rfl .nil) (hsp H hO hS)) fun r s' h => ?_
  match r, h with
  | .error e, h => exact (hCX H e s' h).elim
  | .ok (.ret u), ⟨v, H', os, bare, un, hok', r', q⟩ =>
    subst q
    obtain rfl : u = Value.bool true := r'
    refine ⟨rfl, OldK.of_keep fun b o e => ?_, os, bare⟩
    rcases hO b with z | ⟨ob, xs, z⟩
    · exact un.keep b o e z (fun y => (List.not_mem_nil y).elim) (fun y => (List.not_mem_nil y).elim)
    · obtain ⟨e1, _⟩ := hok b _ z
      obtain ⟨e2, _⟩ := hok' b _ (un.frzs b ob _ z)
      rw [e] at e1
      cases e1
      exact e2
/-- a law over a head by facts -/
theorem walk_G {l : PySem.W.OpenLaw} {n k : Nat} {q : Program} {loose : List Str} {XP : (Str → Option Value) → Heap → Prop} {YP : World → Heap → Prop} {d : DefRec} {CX : CXT} {x : Str}
    (hn : l.most = some n) (hn2 : n ≤ sizeLine) (hdf : d.params.defaults = []) (hr : Room k callerA)
    (F : ∀ (w : World) (mg : Str → Option Value) (fa : Addr) (h : Heap), YP w h → h.Ns mainGlobals mg → mg d.name = some (.ref fa) →
      ∃ (K : PySem.W.Frag) (fd : FuncData) (sp : Sp), K.In h ∧ (∀ (s : Shared) (u : Value), BindsTo s fd ⟨[u], []⟩ [(x, u)]) ∧
        (∀ (H : Hp) (a : Addr) (ns : List Int), ns.length ≤ n → Only H → SqL K H a (ns.map V.int) → sp [.ref a] H (fun v _ => v = .bl true) fun _ _ _ => False) ∧
        ∀ base : Heap, K.In base → base.Ns mainGlobals mg → FnOkG l.prog w K mg base CX k fa fd [x] sp)
    (hCX : ∀ (H : Hp) (s : Shared) (e : Value) (s' : Shared), CX [] H s (fun _ _ _ => False) e s' → False) :
    PySem.W.WalkO q loose XP YP l.row.toRowW d [] (fun f vs => PySem.call f vs) := by
  refine Att.attach_call hn hdf fun w s₀ s₁ mg mb fa o pm cd doc a vs ns G Y ho hd hcd hmg hobj hints hlen hg => ?_
  obtain ⟨K, fd, sp, KX, hb, hsp, hF⟩ := F w mg fa _ Y G.T.g hmg
  exact law_callG KX G.T.g G.T.b G.T.builtins G.T.nolimit hg hobj hints (Nat.le_trans hlen hn2) hr hF hb (fun H hO hS => hsp H a ns hlen hO hS) fun H e s' => hCX H s₁ e s'
end Fe
end
section
set_option Elab.async false
set_option linter.all false
set_option maxRecDepth 100000
set_option maxHeartbeats 4000000
/-! Words for readings, defs called by name, builtins unbound. -/
namespace Fe
open PySem PySem.Spec PyProof.Rows L2
open Evl (Ex)

/-! ### what stands as it was -/
/-- all but a stands as it was -/
def SameBut (a : Addr) (H H' : Hp) : Prop := ∀ q o, q ≠ a → H q = some o → H' q = some o
theorem SameBut.refl (a : Addr) (H : Hp) : SameBut a H H := fun _ _ _ e => e
theorem SameBut.trans {a : Addr} {H H1 H2 : Hp} (x : SameBut a H H1) (y : SameBut a H1 H2) : SameBut a H H2 := fun q o n e => y q o n (x q o n e)
theorem SameBut.upd {a : Addr} {H : Hp} {o : HO} : SameBut a H (upd H a o) := fun q u n e => by rw [upd_ne n]; exact e
theorem SameBut.new {a p : Addr} {H : Hp} {o : HO} (h : H p = none) : SameBut a H (L2.upd H p o) := fun q u _ e => by rw [upd_ne (ne_of_none e h)]; exact e
theorem Ex.but {a : Addr} {H H' : Hp} (h : Ex H H') : SameBut a H H' := fun q o _ e => h q o e

theorem but_l {K : PySem.W.Frag} {H H' : Hp} {a q : Addr} {xs : List V} (e : SameBut a H H') (n : q ≠ a) (h : SqL K H q xs) : SqL K H' q xs := by
  rcases h with (h | ⟨o, h⟩) | h
  · exact .inl (.inl (e q _ n h))
  · exact .inl (.inr ⟨o, e q _ n h⟩)
  · exact .inr h
theorem but_t {K : PySem.W.Frag} {H H' : Hp} {a q : Addr} {xs : List V} (e : SameBut a H H') (n : q ≠ a) (h : SqT K H q xs) : SqT K H' q xs := by
  rcases h with (h | ⟨o, h⟩) | h
  · exact .inl (.inl (e q _ n h))
  · exact .inl (.inr ⟨o, e q _ n h⟩)
  · exact .inr h
/-- the item at a place from 0 on -/
theorem at_nat {α : Type} {xs : List α} {i : Int} (h0 : 0 ≤ i) (h1 : i < xs.length) : ∃ x, x ∈ xs ∧ atI xs i = some x := by
  obtain ⟨m, rfl⟩ := Int.eq_ofNat_of_zero_le h0
  have hm : m < xs.length := by omega
  refine ⟨xs[m], List.getElem_mem hm, ?_⟩
  unfold atI ixN
  rw [if_pos (by omega), if_pos (by omega)]
  simp [hm]
/-! ### powers -/
def Cpw (i j : Int) : Prop := 0 ≤ j ∧ (Builtin.Int.intBits i : Int) * j ≤ 2 ^ 27
theorem op_powW {X : Cx} : OpR X (binaryOp .Pow) (rI Cpw fun i j => .int (i ^ j.toNat)) := opI fun _ _ _ _ _ _ _ hc q => pow_int hc.1 hc.2 q
theorem fm (z m : Int) (hm : 0 < m) : 0 ≤ z.fmod m ∧ z.fmod m < m := by
  rw [Int.fmod_eq_emod_of_nonneg z (by omega)]
  exact ⟨Int.emod_nonneg z (by omega), Int.emod_lt_of_pos z hm⟩
/-! ### the built-in names that the module leaves as they are -/
structure Bi (mg : Str → Option Value) : Prop where
  int : mg "int" = none
  len : mg "len" = none
  sum : mg "sum" = none
  abs : mg "abs" = none
  list : mg "list" = none
  range : mg "range" = none
  max : mg "max" = none
  min : mg "min" = none
  enumerate : mg "enumerate" = none
  zip : mg "zip" = none
  isinstance : mg "isinstance" = none
  repr : mg "repr" = none
  str : mg "str" = none
  tuple : mg "tuple" = none
  dict : mg "dict" = none
  set : mg "set" = none
  sorted : mg "sorted" = none
  all : mg "all" = none
  any : mg "any" = none
  bool : mg "bool" = none
  ord : mg "ord" = none
def biNames : List Str := ["int", "len", "sum", "abs", "list", "range", "max", "min", "enumerate", "zip", "isinstance", "repr", "str", "tuple", "dict", "set", "sorted", "all", "any", "bool", "ord"]
/-! ### a def of the module, by its name -/
structure Callee (P : Program) (w : World) (K : PySem.W.Frag) (mg : Str → Option Value) (base : Heap) (CX : CXT) (k : Nat) (x : Str) (ps : List Str) (sp : Sp) : Prop where
  ex : ∃ (f : Addr) (fd : FuncData), mg x = some (.ref f) ∧ PySem.W.keepIn K (.ref f) = true ∧ Binds K fd ps [] ∧ FnOk P w K mg base CX k f fd ps sp
section
variable {X : Cx} {CX : CXT} {k j : Nat} {ps : List Str} {sp : Sp} {E : XK} {x : Str} {p pos : Pos} {e : Expr} {es : List Expr} {t : TA}
/-- a def, a class of the module as a value -/
theorem pe_gref {a : Addr} (hg : Gl X x) (hm : X.mg x = some (.ref a)) (hd : (x == ("__debug__" : Str)) = false := by decide +kernel) : PE X (.Name x p) (tC (.ref a)) := pe_glob hg hm rfl hd
theorem pe_cal (C : Callee X.prog X.w X.K X.mg X.base CX k x ps sp) (hr : Room k X.A) (hx : Passes CX X E) (ha : PA X (e :: es) t) (hg : Gl X x := by rfl) (hdb : (x == ("__debug__" : Str)) = false := by decide +kernel)
    (he : starEach (e :: es) X.env = (false, eval e X.env) :: starEach es X.env := by rfl) (hpl : (backTo pos (starEach es X.env)).any (·.1) = false := by rfl) : PE X (.Call (.Name x p) (e :: es) [] pos) (tCall sp [] E t) := by
  obtain ⟨f, fd, hm, hk, hb, F⟩ := C.ex
  exact pe_call F hr hg hm hk hb .nil hx ha hdb he hpl
end
section
variable {P : Program} {w : World} {K : PySem.W.Frag} {mg : Str → Option Value} {base : Heap} {CX : CXT} {k : Nat} {x qual : Str} {params : Arguments} {body : List Stmt} {scope : Scope} {ps : List Str} {sp : Sp} {f : Addr} {fd : FuncData}
theorem callee_of (F : FunD K x qual params body scope [] [] f fd) (hm : mg x = some (.ref f)) (ok : FnOk P w K mg base CX k f fd ps sp)
    (h : ∀ (kV doc pm : Value) (an : Option Addr) (cdv ct : Value) (us : List Value), us.length = ps.length → bindArgs (PySem.W.fnOf x qual params body scope .none kV doc pm an cdv ct) ⟨us, []⟩ = pure (ps.zip us)) : Callee P w K mg base CX k x ps sp :=
  ⟨f, fd, hm, F.kp, F.bindsN h, ok⟩
end
end Fe
end
section
set_option Elab.async false
set_option linter.all false
set_option maxRecDepth 100000
set_option maxHeartbeats 4000000
/-! What repr shows, kept while the heap grows; loops over enumerate. -/
namespace Fe
open PySem PySem.Spec PyProof.Rows L2
open Evl (Ex)

section
variable {K : PySem.W.Frag} {H H' : Hp}
mutual
theorem dp_ex (e : Ex H H') : ∀ (d : PyData) (v : V), Dp K H v d → Dp K H' v d
  | .none, _, h => by
    cases h
    exact .non
  | .bool b, _, h => by
    cases h
    exact .bl b
  | .int i, _, h => by
    cases h
    exact .int i
  | .str x, _, h => by
    cases h
    exact .str x
  | .list ds, _, h => by
    cases h with
    | lst hs ha => exact .lst (Evl.ex_l e hs) (dps_ex e ds _ ha)
  | .tuple ds, _, h => by
    cases h with
    | tup hs ha => exact .tup (Evl.ex_t e hs) (dps_ex e ds _ ha)
  | .dict _, _, h => by cases h
theorem dps_ex (e : Ex H H') : ∀ (ds : List PyData) (vs : List V), DpAll K H vs ds → DpAll K H' vs ds
  | [], _, h => by
    cases h
    exact .nil
  | d :: ds, _, h => by
    cases h with
    | cons h1 h2 => exact .cons (dp_ex e d _ h1) (dps_ex e ds _ h2)
end
/-- repr can show v as d -/
def Sh (K : PySem.W.Frag) (H : Hp) (v : V) (d : PyData) : Prop := d.showable = true ∧ d.shown.length ≤ sizeLine ∧ d.depth ≤ 30 ∧
  ((Dp K H v d ∧ d.hasDict = false) ∨ ∃ (a : Addr) (kvs : List (Key × V)) (ds : List (PyData × PyData)), v = .ref a ∧ H a = some (.dK kvs) ∧ kvsD kvs = some ds ∧ d = .dict ds)
theorem Sh.ex {v : V} {d : PyData} (e : Ex H H') (h : Sh K H v d) : Sh K H' v d := by
  obtain ⟨h1, h2, h3, h4⟩ := h
  refine ⟨h1, h2, h3, ?_⟩
  rcases h4 with ⟨a, b⟩ | ⟨a, kvs, ds, e1, e2, e3, e4⟩
  · exact .inl ⟨dp_ex e d v a, b⟩
  · exact .inr ⟨a, kvs, ds, e1, e _ _ e2, e3, e4⟩
theorem q_repr {v : V} {d : PyData} {Q : VK} (h : Sh K H v d) (q : Q (.str d.shown) H) : rRepr K [v] H Q := ⟨v, d, rfl, h.1, h.2.1, h.2.2.1, h.2.2.2, q⟩
theorem ex_del {a : Addr} (e : SameBut a H H') : Ex (delH H a) H' := fun b o h => by
  unfold delH at h
  by_cases hb : b = a
  · rw [if_pos hb] at h
    cases h
  · rw [if_neg hb] at h
    exact e b o hb h
end
/-- for i, x in enumerate(xs), the pair unpacked into the slots i and j -/
theorem for_enum {K : PySem.W.Frag} {a : Addr} {xs : List V} {i j : Nat} {tb : TS} {D : Ends} {σ : L2.St} {H : Hp} (Pv : Nat → L2.St → Hp → Prop) (h0 : Pv 0 σ H) (hl : ∀ n σ H, n ≤ xs.length → Pv n σ H → SqL K H a xs)
    (hs : ∀ n x σ H T, xs[n]? = some x → Pv n σ H → H T = none → tb { D with nx := Pv (n + 1), ct := Pv (n + 1), bk := D.nx } ((σ.set i (some (.int (n : Nat)))).set j (some x)) (upd H T (.tup [.int (n : Nat), x])))
    (hd : ∀ σ H, Pv xs.length σ H → D.nx σ H) (t : TGs) (ht : ∀ n x σ H (Q : L2.St → Hp → Prop), Q ((σ.set i (some (.int (n : Nat)))).set j (some x)) H → t [.int (n : Nat), x] σ H Q) :
    ∃ W : Nat → Nat → L2.St → Hp → Prop, (∃ m, W 0 m σ H) ∧ ∀ n m σ H, W n m σ H →
      ((Ite K a).stop n H ∧ D.nx σ H) ∨ ((Ite K a).go n H ∧ ∃ N : L2.St → Hp → Prop, (∀ σ' H', N σ' H' → ∃ m', m' < m ∧ W (n + 1) m' σ' H') ∧ ∀ x H', (Ite K a).yld n H x H' → gTup K 2 t x σ H' fun σ2 H2 => tb { D with nx := N, ct := N, bk := D.nx } σ2 H2) := by
  refine ⟨fun n m σ H => m = xs.length - n ∧ n ≤ xs.length ∧ Pv n σ H, ⟨xs.length, by simp, Nat.zero_le _, h0⟩, ?_⟩
  rintro n m σ H ⟨rfl, hn, p⟩
  have q := hl n σ H hn p
  by_cases hlt : n < xs.length
  · refine .inr ⟨⟨xs, xs[n], q, by simp [hlt]⟩, Pv (n + 1), fun σ' H' p' => ⟨xs.length - (n + 1), by omega, rfl, hlt, p'⟩, fun x H' y => ?_⟩
    obtain ⟨T, z, rfl, hT, rfl, hz⟩ := y
    exact ⟨T, _, rfl, SqT.of upd_same, rfl, ht n z σ _ _ (hs n z σ H T (hz xs q) p hT)⟩
  · have e : n = xs.length := by omega
    subst e
    exact .inl ⟨⟨xs, q, Nat.le_refl _⟩, hd σ H p⟩
end Fe
end
section
set_option Elab.async false
set_option linter.all false
set_option maxRecDepth 100000
set_option maxHeartbeats 4000000
/-! A Hook that tells of error classes over one with super().__init__(value). -/
namespace Fe
open PySem PySem.Spec PySem.W PyProof.Rows L2
open He (ga ma eqO eqO_ok ba)

abbrev FnI : Type := Option (Str × Str × Arguments × FuncBody × Scope × Addr × List Str × Addr)
def fnI (K : Frag) (f : Addr) : FnI := match K.lookup f with
  | some ⟨_, _, .func fd, _⟩ => some (fd.name, fd.qualname, fd.params, fd.body, fd.scope, fd.globals, fd.closure.map (·.1), fd.builtins)
  | _ => none
def valI (q : Str) (st : Stmt) : FnI := some ("__init__", q, defArgs st, .stmts (defBody st), defScope st, mainGlobals, ["__class__"], builtinsNs)
def fileB (file : Str) (vs : Array Value) : Bool := match vs.toList with
  | _ :: _ :: .str z _ :: _ => file == z
  | _ => false
theorem fileB_ok {file : Str} {vs : Array Value} (h : fileB file vs = true) : ∃ z t, vs[2]? = some (.str z t) ∧ (file == z) = true := by
  unfold fileB at h
  split at h
  · rename_i a b z t r hv
    exact ⟨z, t, by rw [← Array.getElem?_toList, hv]; rfl, h⟩
  · cases h
def cellB (K : Frag) (D : Addr) (l : List (Str × Addr)) : Bool := match l with
  | [(_, cc)] => (match K.lookup cc with
    | some ⟨_, _, .cell (some (.ref d)), _⟩ => decide (d = D)
    | _ => false)
  | _ => false
theorem cellB_ok {K : Frag} {D : Addr} {l : List (Str × Addr)} (h : cellB K D l = true) : ∃ x cc cl cld csl, l = [(x, cc)] ∧ K.lookup cc = some ⟨cl, cld, .cell (some (.ref D)), csl⟩ := by
  unfold cellB at h
  split at h
  · rename_i x cc
    split at h
    · rename_i cl cld d csl hc
      have ed := of_decide_eq_true h
      subst ed
      exact ⟨x, cc, cl, cld, csl, rfl, hc⟩
    · cases h
  · cases h
def noneB : Value → Bool
  | .none => true
  | _ => false
theorem noneB_ok {v : Value} (h : noneB v = true) : v = .none := by
  cases v with
  | none => rfl
  | _ => cases h
/-- the code object of __init__, its cell -/
def initB (file : Str) (K : Frag) (q : Str) (D fI : Addr) : Bool := match K.lookup fI with
  | some ⟨_, _, .func fd, _⟩ => (match fd.code with
    | .ref cda => codeIn K (.ref cda) q && (match K.lookup cda with
      | some ⟨_, _, .fields vs, _⟩ => fileB file vs
      | _ => false)
    | _ => false) && (cellB K D fd.closure && noneB fd.defaults)
  | _ => false
def clsB (K : Frag) (C : Addr) (bm : List Value) : Bool := match K.lookup C with
  | some ⟨.type t, _, .cls cd, sl⟩ => decide (t = "type") && (decide (cd.mro = .ref C :: bm) && (cd.hasDict && (!cd.hasDel && (match sl.toList with
    | [_, _, _, _, some (.builtin n), _] => decide (n = "ValueError.__new__")
    | _ => false))))
  | _ => false
theorem clsB_ok {K : Frag} {C : Addr} {bm : List Value} (h : clsB K C bm = true) :
    ∃ nm q N bs sn sub ab col dd k0 k1 k2 k3 k5, K.lookup C = some (excClassObj nm q C N bs bm true sn sub ab col dd k0 k1 k2 k3 k5 "ValueError.__new__") := by
  unfold clsB at h
  cases q : K.lookup C with
  | none =>
    rw [q] at h
    cases h
  | some o =>
    obtain ⟨oc, od, dt, sl⟩ := o
    rw [q] at h
    cases oc with
    | type t =>
      cases dt with
      | cls cd =>
        obtain ⟨nm, bs, mr, N, qn, hd, sn, sub, ab, col, hdel⟩ := cd
        obtain ⟨h1, h2⟩ := ba h
        obtain ⟨h3, h4⟩ := ba h2
        obtain ⟨h5, h6⟩ := ba h4
        obtain ⟨h7, h8⟩ := ba h6
        have e1 := of_decide_eq_true h1
        have e3 : mr = .ref C :: bm := of_decide_eq_true h3
        have e5 : hd = true := h5
        have e7 : hdel = false := by
          cases hdel with
          | false => rfl
          | true => cases h7
        split at h8
        · rename_i k0 k1 k2 k3 n k5 hsl
          have e9 := of_decide_eq_true h8
          obtain ⟨sl'⟩ := sl
          have e10 : sl' = [k0, k1, k2, k3, some (.builtin n), k5] := hsl
          subst e1 e3 e5 e7 e9 e10
          exact ⟨nm, qn, N, bs, sn, sub, ab, col, od, k0, k1, k2, k3, k5, rfl⟩
        · cases h8
      | _ => cases h
    | _ => cases dt <;> cases h
/-- .. of one class -/
def feCB (K : Frag) (D fI C : Addr) (bm : List Value) : Bool :=
  clsB K C bm && (eqO (findIn K (.ref C) "__setattr__") (some (some (.builtin "object.__setattr__"))) && (eqO (findIn K (.ref C) "__init__") (some (some (.ref fI))) && (keepIn K (.ref C) &&
  (eqO (findIn K (.ref C) "value") (some none) && (eqO (ks_superIn K C D "__init__") (some (some (.builtin "ValueError.__init__"))) && (eqO (findIn K (.ref C) "__getattribute__") (some (some (.builtin "BaseException.__getattribute__"))) &&
  (eqO (findIn K (.ref C) "__getattr__") (some none) && eqO (findIn K (.ref C) "__class__") (some (some (.builtin "object.__class__"))))))))))
theorem mroIn_of {K : Frag} {C : Addr} {bm : List Value} {base : Value} (h : clsB K C bm = true) : mroIn K C base = some ((Value.ref C :: bm).contains base) := by
  obtain ⟨nm, q, N, bs, sn, sub, ab, col, dd, k0, k1, k2, k3, k5, e⟩ := clsB_ok h
  unfold mroIn clsIn
  rw [e]
  rfl
theorem clsIn_of {K : Frag} {C : Addr} {bm : List Value} (h : clsB K C bm = true) : (clsIn K C).isSome = true ∧ typeIn K (.ref C) = some (.type "type") ∧ hasDictIn K C = true := by
  obtain ⟨nm, q, N, bs, sn, sub, ab, col, dd, k0, k1, k2, k3, k5, e⟩ := clsB_ok h
  refine ⟨?_, ?_, ?_⟩
  · unfold clsIn
    rw [e]
    rfl
  · show (K.lookup C).map (·.cls) = _
    rw [e]
    rfl
  · unfold hasDictIn clsIn
    rw [e]
    rfl
theorem feC_of {K : Frag} {D fI C : Addr} {bm : List Value} (h : feCB K D fI C bm = true) (hv : HandSPX.refsVE bm = true) (hD : (Value.ref C :: bm).contains (.ref D) = true) (hs : ∀ T ∈ ["ValueError", "BaseException", "object"], (Value.ref C :: bm).contains (.type T) = true) : FeC K D fI C := by
  obtain ⟨c1, h⟩ := ba h
  obtain ⟨c2, h⟩ := ba h
  obtain ⟨c3, h⟩ := ba h
  obtain ⟨c4, h⟩ := ba h
  obtain ⟨c5, h⟩ := ba h
  obtain ⟨c6, h⟩ := ba h
  obtain ⟨c7, h⟩ := ba h
  obtain ⟨c8, c9⟩ := ba h
  obtain ⟨nm, q, N, bs, sn, sub, ab, col, dd, k0, k1, k2, k3, k5, e⟩ := clsB_ok c1
  obtain ⟨d1, d2, d3⟩ := clsIn_of c1
  exact ⟨⟨nm, q, N, bs, bm, sn, sub, ab, col, dd, k0, k1, k2, k3, k5, e, hv⟩, eqO_ok c2, eqO_ok c3, c4, eqO_ok c5, eqO_ok c6, (mroIn_of c1).trans (congrArg some hD), (mroIn_of c1).trans (congrArg some (hs _ (by simp))),
    (mroIn_of c1).trans (congrArg some (hs _ (by simp))), d2, eqO_ok c7, eqO_ok c8, d3, eqO_ok c9, (mroIn_of c1).trans (congrArg some (hs _ (by simp)))⟩
/-- isinstance by classes -/
theorem kit_cl {K : Frag} {C C' : Addr} {bm bm' : List Value} (h : clsB K C bm = true) (h' : clsB K C' bm' = true) : kitOne K (.ref C) (.ref C') = some ((Value.ref C :: bm).contains (.ref C')) := by
  obtain ⟨d1, d2, d3⟩ := clsIn_of h'
  unfold kitOne
  by_cases e : C = C'
  · subst e
    rw [if_pos (by simp)]
    simp
  · rw [if_neg (by simp [e])]
    show (if ((clsIn K C').isSome && typeIn K (.ref C') == some (.type "type")) = true then subIn K (.ref C) (.ref C') else none) = _
    rw [d1, d2, if_pos (by simp)]
    exact mroIn_of h
theorem kit_ve {K : Frag} {C : Addr} {bm : List Value} (h : clsB K C bm = true) (hs : (Value.ref C :: bm).contains (.type "ValueError") = true) : kitOne K (.ref C) (.type "ValueError") = some true := by
  unfold kitOne
  rw [if_neg (by simp)]
  show (if kitMeta "ValueError" = true then subIn K (.ref C) (.type "ValueError") else none) = _
  rw [if_pos (by kernel_rfl)]
  exact (mroIn_of h).trans (congrArg some hs)
/-- .. of the first class and its __init__ -/
def feDB (file : Str) (K : Frag) (q : Str) (D fI : Addr) : Bool :=
  initB file K q D fI && (eqO (nsIn K cStatics "thirdparty.any") (some none) && (decide (typeIn K (.ref fI) = some (.type "function")) &&
  (eqO (specialIn K (.builtin "object.__class__") "__get__") (some (some (.builtin "getset_descriptor.__get__"))) && decide (takesIn K (.builtin "object.__class__") = some true))))
theorem feD_of {P : Program} {K : Frag} {mg : Str → Option Value} {q : Str} {D fI : Addr} {st : Stmt} {l : Nat} {p1 p2 r0 r1 r3 r5 q1 q2 q3 q4 : Pos} {c2 c4 : Nat × Nat} (hA : defArgs st = iA p1 p2) (hB : defBody st = iB l r0 r1 c2 r3 c4 r5 q1 q2 q3 q4) (hS : defScope st = iS)
    (e : fnI K fI = valI q st) (h : feDB P.main.file K q D fI = true) (hD : (clsIn K D).isSome = true) (sup : mg "super" = none) (top : (P.main.scope.names.lookup ("super" : Str)).isSome = false) : FeD P K mg D fI := by
  obtain ⟨z1, h⟩ := ba h
  obtain ⟨z2, h⟩ := ba h
  obtain ⟨z3, h⟩ := ba h
  obtain ⟨z4, z5⟩ := ba h
  refine ⟨?_, hD, sup, eqO_ok z2, top, of_decide_eq_true z3, eqO_ok z4, of_decide_eq_true z5⟩
  unfold fnI at e
  unfold initB at z1
  cases lk : K.lookup fI with
  | none =>
    rw [lk] at e
    cases e
  | some o =>
    obtain ⟨oc, od, dt, osl⟩ := o
    rw [lk] at e z1
    cases dt with
    | func fd =>
      obtain ⟨n1, n2, n3, n4, n5, n6, n7, n8, n9, n10, n11, n12, n13, n14, n15⟩ := fd
      have e2 : (some (n1, n2, n3, n4, n5, n6, n7.map (·.1), n15) : FnI) = (some (PySem.Str.ofString "__init__", q, defArgs st, FuncBody.stmts (defBody st), defScope st, mainGlobals, [PySem.Str.ofString "__class__"], builtinsNs) : FnI) := e
      simp only [Option.some.injEq, Prod.mk.injEq] at e2
      obtain ⟨h1, h2, h3, h4, h5, h6, h7, h8⟩ := e2
      obtain ⟨a1, a2⟩ := ba z1
      obtain ⟨a3, a4⟩ := ba a2
      cases n13 with
      | ref cda =>
        obtain ⟨b1, b2⟩ := ba a1
        cases lc : K.lookup cda with
        | none =>
          rw [lc] at b2
          cases b2
        | some oo =>
          obtain ⟨ccl, cdd, cdt, ccs⟩ := oo
          rw [lc] at b2
          cases cdt with
          | fields vs =>
            obtain ⟨z, tf, hz, b3⟩ := fileB_ok b2
            obtain ⟨nm, cc, cl, cld, csl, e7, hc⟩ := cellB_ok (l := n7) a3
            have e8 := noneB_ok (v := n8) a4
            rw [e7] at h7
            have e9 : nm = PySem.Str.ofString "__class__" := by simpa using h7
            rw [hA] at h3
            rw [hB] at h4
            rw [hS] at h5
            subst e9 e7 e8 h1 h2 h3 h4 h5 h6 h8
            exact ⟨oc, od, osl, n2, l, p1, p2, r0, r1, c2, r3, c4, r5, q1, q2, q3, q4, n9, n10, n11, n12, cda, n14, cc, ccl, cdd, vs, ccs, z, tf, cl, cld, csl, rfl, b1, lc, hz, b3, hc⟩
          | _ => cases b2
      | _ => cases a1
    | _ => cases e
/-! ### the Hook -/
abbrev AlI : Type := He.AlD × FnI × Bool
def asI (g : Addr → Option Obj) (n : Nat) : List Addr := He.asD g n ++ [cStatics]
def obsIK (fa : List He.Fa) (fn : List He.DefD) (x : Str) (ex : Frag → Bool) (K : Frag) : AlI := (He.obsD fa fn K, fnI K (ma K (ga K x) "__init__"), ex K)
def obsI (n : Nat) (fa : List He.Fa) (fn : List He.DefD) (x : Str) (ex : Frag → Bool) (g : Addr → Option Obj) : AlI := obsIK fa fn x ex (He.frT g (asI g n))
def valIK (fn : List He.DefD) (q : Str) (st : Stmt) : AlI := (He.valD fn, valI q st, true)
structure SaysI (fa : List He.Fa) (fn : List He.DefD) (x q : Str) (st : Stmt) (ex : Frag → Bool) (K : Frag) : Prop where
  d : He.SaysD fa fn K
  i : fnI K (ma K (ga K x) "__init__") = valI q st
  more : ex K = true
def hookI (n : Nat) (fa : List He.Fa) (fn : List He.DefD) (x q : Str) (st : Stmt) (ex : Frag → Bool) : Hook where
  α := AlI
  obs := fun s => obsI n fa fn x ex s.heap.get?
  val := fun _ => valIK fn q st
  says := fun _ h => ∃ K : Frag, K.In h ∧ SaysI fa fn x q st ex K
  of := fun _ _ e => ⟨_, He.frT_in, congrArg (fun z : AlI => z.1) e, congrArg (fun z : AlI => z.2.1) e, congrArg (fun z : AlI => z.2.2) e⟩
  keeps := fun _ _ _ ⟨K, hK, c⟩ k => ⟨K, Frag.In.keeps hK k, c⟩
theorem obsI_eq {n : Nat} {fa : List He.Fa} {fn : List He.DefD} {x q : Str} {st : Stmt} {ex : Frag → Bool} {g : Addr → Option Obj} {s : Shared} (h : ∀ a, g a = s.heap.get? a) : obsI n fa fn x ex g = (hookI n fa fn x q st ex).obs s := by
  have e : g = s.heap.get? := funext h
  rw [e] <;> rfl
end Fe
end
section
set_option Elab.async false
set_option linter.all false
set_option maxRecDepth 100000
set_option maxHeartbeats 4000000
namespace K94
open PySem PySem.Spec PyProof.Rows L2 Fe
open Evl (Ex)
local macro_rules | `(tactic| walk_at "hp") => `(tactic| first | assumption | exact upd_same | (refine (upd_ne ?hpA).trans ?hpB; (case hpA => (first | assumption | (apply Ne.symm; assumption) | exact ne_of_none (by walk_at "hp") (by assumption) | exact (ne_of_none (by walk_at "hp") (by assumption)).symm)); (case hpB => walk_at "hp")))
local macro_rules | `(tactic| walk_at "cnd") => `(tactic| first | (show _ ≠ (0 : Int); first | omega | decide) | (show CDivN _ _; first | exact ⟨by omega, by omega⟩ | exact ⟨by decide, by decide⟩) | (show CMul _ _; first | exact .inl ⟨by omega, by omega⟩ | exact .inr ⟨by omega, by omega⟩) | (show Cpw _ _; exact ⟨by decide, by decide +kernel⟩))
local macro_rules | `(tactic| walk_at "rv") => `(tactic| first
  | refine ⟨_, rfl, ?_⟩
  | refine ⟨_, _, rfl, rfl, by walk_at "cnd", ?_⟩
  | refine ⟨_, _, rfl, rfl, ?_⟩
  | refine .inl ⟨_, rfl, ?_⟩
  | refine .inr ⟨_, rfl, ?_⟩
  | refine ⟨_, _, _, _, rfl, rfl, SqL.of (by walk_at "hp"), rfl, ?_⟩
  | refine ⟨_, _, _, _, rfl, rfl, by walk_at "hp", rfl, ?_⟩
  | refine ⟨_, _, rfl, ?_⟩)

def top (i : Nat) : Stmt := PySem.Challenge.pw_nobodyrather_k94_every_error_by_itself.main.body.getD i (.Pass ⟨0, 0, 0, 0⟩)
abbrev sPot : Stmt := top 65
abbrev sTake : Stmt := top 66
abbrev sOf : Stmt := top 67
abbrev sCells : Stmt := top 68
abbrev FnP (K : PySem.W.Frag) (x : Str) (st : Stmt) (f : Addr) (fd : FuncData) : Prop := FunD K x x (defArgs st) (defBody st) (defScope st) [] [] f fd
section
variable {P : Program} {w : World} {K : PySem.W.Frag} {mg : Str → Option Value} {base : Heap} {f : Addr} {fd : FuncData}
theorem prime_at (x : Int) (l : List Int) (hl : l.length = 5) (hb : ∀ v ∈ l, 2147483563 ≤ v ∧ v ≤ 2147483647) : ∃ v : Int, atI (l.map V.int) (x.fmod 5) = some (.int v) ∧ 2147483563 ≤ v ∧ v ≤ 2147483647 := by
  have e : x.fmod 5 = x % 5 := Int.fmod_eq_emod_of_nonneg x (by decide)
  have h0 : 0 ≤ x % 5 := Int.emod_nonneg x (by decide)
  have h5 : x % 5 < 5 := Int.emod_lt_of_pos x (by decide)
  obtain ⟨m, hm⟩ := Int.eq_ofNat_of_zero_le h0
  have hm5 : m < l.length := by omega
  refine ⟨l[m], ?_, hb _ (List.getElem_mem hm5)⟩
  rw [e, hm]
  unfold atI ixN
  rw [if_pos (by omega), List.length_map, if_pos (by omega)]
  simp [hm5]
/-- the next draw: the pot at a is [own, b, c] -/
def spTake : Sp := fun vs H Q _ => ∃ (a : Addr) (own b c n : Int), vs = [.ref a, .int n] ∧ H a = some (.lst [.int own, .int b, .int c]) ∧ 0 ≤ own ∧ 0 ≤ b ∧ b < 2 ^ 61 ∧ 0 ≤ c ∧ c < 2 ^ 20 ∧ 0 < n ∧ n < 2 ^ 20 ∧
  ∀ r own' c' H', 0 ≤ own' → 0 ≤ c' → c' ≤ c + 1 → 0 ≤ r → r < n → H' a = some (.lst [.int own', .int b, .int c']) → SameBut a H H' → Q (.int r) H'
theorem scTake : FnScope ["pot", "upto", "digit", "prime", "blend"] ["pot", "upto"] (defScope sTake) := ⟨rfl, rfl, rfl, by decide +kernel, rfl, by decide +kernel, by decide +kernel⟩
theorem ok_take (F : FnP K "_law_take" sTake f fd) (B : Bi mg) : FnOk P w K mg base CX0 1 f fd ["pot", "upto"] spTake := by
  refine F.ok scTake (fun vs H Q E h => ?_) (fun cdv A outer s H vs Q E hr h => ?_)
  · obtain ⟨a, own, b, c, n, rfl, _⟩ := h
    rfl
  · obtain ⟨a, own, b, c, n, rfl, hH, h1, h2, h3, h4, h5, h6, h7, k⟩ := h
    have nd := scTake.nd
    refine ⟨_, PSs.nox (pss_cons (ps_if (by exact (pt_cmpR op_gt (pe_ix ix_list (pv 0) pe_int (fun _ _ => rfl)) pe_int (nomark _)))
      (pss_cons (ps_set (i := 2) nd rfl (Or.inl rfl) (by exact (pe_op op_modN (pe_callTy call_int1 (by rfl) B.int (by decide +kernel) (pa_cons (pe_ix ix_list (pv 0) pe_int (fun _ _ => rfl)) pa_nil)) (pv 1))))
      (pss_cons (ps_asg (by exact (pe_op op_fdivN (pe_ix ix_list (pv 0) pe_int (fun _ _ => rfl)) (pv 1))) (pg_sub (pv 0) pe_int set_list))
      (pss_one (ps_ret (by exact (pv 2)))))) pss_nil)
      (pss_cons (ps_asg (by exact (pe_op op_add (pe_ix ix_list (pv 0) pe_int (fun _ _ => rfl)) pe_int)) (pg_sub (pv 0) pe_int set_list))
      (pss_cons (ps_set (i := 3) nd rfl (Or.inl rfl) (by exact (pe_ix ix_list (pe_lst (pa_cons pe_int (pa_cons pe_int (pa_cons pe_int (pa_cons pe_int (pa_cons pe_int pa_nil)))))) (pe_op op_modN (pe_callTy call_int1 (by rfl) B.int (by decide +kernel) (pa_cons (pe_ix ix_list (pv 0) pe_int (fun _ _ => rfl)) pa_nil)) pe_int) (fun _ _ => rfl))))
      (pss_cons (ps_set (i := 4) nd rfl (Or.inl rfl) (by exact (pe_op op_modN (pe_callTy call_int1 (by rfl) B.int (by decide +kernel) (pa_cons (pe_op op_powW (pe_callTy call_int1 (by rfl) B.int (by decide +kernel) (pa_cons (pe_op op_add (pe_op op_add (pe_ix ix_list (pv 0) pe_int (fun _ _ => rfl)) (pe_op op_mul (pe_op op_mul pe_int (pe_ix ix_list (pv 0) pe_int (fun _ _ => rfl))) (pe_ix ix_list (pv 0) pe_int (fun _ _ => rfl)))) pe_int) pa_nil)) pe_int) pa_nil)) (pv 3))))
      (pss_cons (ps_set (i := 4) nd rfl (Or.inl rfl) (by exact (pe_op op_modN (pe_callTy call_int1 (by rfl) B.int (by decide +kernel) (pa_cons (pe_op op_mul (pv 4) (pe_op op_add (pe_op op_modN (pe_callTy call_int1 (by rfl) B.int (by decide +kernel) (pa_cons (pv 4) pa_nil)) pe_int) (pe_op op_mul pe_int (pe_ix ix_list (pv 0) pe_int (fun _ _ => rfl))))) pa_nil)) pe_int)))
      (pss_one (ps_ret (by exact (pe_op op_modN (pe_callTy call_int1 (by rfl) B.int (by decide +kernel) (pa_cons (pe_op op_fdivN (pv 4) pe_int) pa_nil)) (pv 1)))))))))), ?_⟩
    repeat walk_at "rv"
    refine ite2 (fun hp1 => ?_) (fun hp1 => ?_)
    · repeat walk_at "rv"
      have e : own.fmod n = own % n := Int.fmod_eq_emod_of_nonneg own (by omega)
      have e2 : own.fdiv n = own / n := Int.fdiv_eq_ediv_of_nonneg own (by omega)
      refine k (own.fmod n) (own.fdiv n) c _ ?_ h4 (by omega) ?_ ?_ upd_same SameBut.upd
      · rw [e2]
        exact Int.ediv_nonneg h1 (by omega)
      · rw [e]
        exact Int.emod_nonneg own (by omega)
      · rw [e]
        exact Int.emod_lt_of_pos own (by omega)
    · repeat walk_at "rv"
      refine ⟨by decide, fun p hn => ?_⟩
      have hap : a ≠ p := by
        rintro rfl
        rw [upd_same] at hn
        cases hn
      repeat walk_at "rv"
      obtain ⟨v, hv, v1, v2⟩ := prime_at (c + 1) [2147483647, 2147483629, 2147483587, 2147483579, 2147483563] rfl (by decide)
      refine ⟨_, _, _, _, rfl, rfl, SqL.of (by walk_at "hp"), hv, ?_⟩
      repeat walk_at "rv"
      have e1 : 99495 * (c + 1) * (c + 1) ≤ 99495 * 2 ^ 20 * 2 ^ 20 := Int.mul_le_mul (Int.mul_le_mul_of_nonneg_left (by omega) (by decide)) (by omega) (by omega) (by decide)
      have e0 : 0 ≤ 99495 * (c + 1) * (c + 1) := Int.mul_nonneg (Int.mul_nonneg (by decide) (by omega)) (by omega)
      refine ⟨⟨by decide, bits_mul_le (a := b + 99495 * (c + 1) * (c + 1) + 2231) (by omega) (by decide) (by decide)⟩, ?_⟩
      have fm : ∀ z m : Int, 0 < m → 0 ≤ z.fmod m ∧ z.fmod m < m := fun z m hm => by
        rw [Int.fmod_eq_emod_of_nonneg z (by omega)]
        exact ⟨Int.emod_nonneg z (by omega), Int.emod_lt_of_pos z hm⟩
      repeat walk_at "rv"
      have r1 := fm ((b + 99495 * (c + 1) * (c + 1) + 2231) ^ (3 : Int).toNat) v (by omega)
      refine ⟨.inl ⟨by omega, by omega⟩, ?_⟩
      repeat walk_at "rv"
      have r2 := fm (Int.fdiv (Int.fmod (Int.fmod ((b + 99495 * (c + 1) * (c + 1) + 2231) ^ (3 : Int).toNat) v * (Int.fmod (Int.fmod ((b + 99495 * (c + 1) * (c + 1) + 2231) ^ (3 : Int).toNat) v) 15861 + 219 * (c + 1))) 2305843009213693907) 128) n h6
      exact k _ own (c + 1) _ h1 (by omega) (by omega) r2.1 r2.2 ((upd_ne hap).trans upd_same) (SameBut.upd.trans (SameBut.new hn))
/-- the pot of a cell -/
def spPot (K : PySem.W.Frag) : Sp := fun vs H Q _ => ∃ (a : Addr) (ns : List Int) (pl : Int), vs = [.ref a, .int pl] ∧ SqL K H a (ns.map V.int) ∧ 0 ≤ pl ∧ pl < 2 ^ 10 ∧
  ∀ p own b H', H p = none → 0 ≤ own → 0 ≤ b → b < 2 ^ 61 → H' p = some (.lst [.int own, .int b, .int 0]) → Ex H H' → Q (.ref p) H'
theorem scPot : FnScope ["script", "place", "cell", "own", "small"] ["script", "place"] (defScope sPot) := ⟨rfl, rfl, rfl, by decide +kernel, rfl, by decide +kernel, by decide +kernel⟩
theorem ok_pot (F : FnP K "_law_pot" sPot f fd) (B : Bi mg) : FnOk P w K mg base CX0 1 f fd ["script", "place"] (spPot K) := by
  refine F.ok scPot (fun vs H Q E h => ?_) (fun cdv A outer s H vs Q E hr h => ?_)
  · obtain ⟨a, ns, pl, rfl, _⟩ := h
    rfl
  · obtain ⟨a, ns, pl, rfl, hS, h1, h2, k⟩ := h
    have nd := scPot.nd
    refine ⟨_, PSs.nox (pss_cons (ps_set (i := 2) nd rfl (Or.inl rfl) (by exact (pe_ifExp (pt_cmpR op_lt (pv 1) (pe_callB call_len_seq (by rfl) B.len PySem.boot_len (pa_cons (pv 0) pa_nil)) (nomark _)) (pe_ix ix_list (pv 0) (pv 1) (fun _ _ => rfl)) (pe_op op_add (pe_op op_add (pe_op op_modN (pe_callB (cr_sum rfl) (by rfl) B.sum (by decide +kernel) (pa_cons (pe_slice sl_list (pv 0) po_none (po_some pe_int)) pa_nil)) pe_int) (pe_op op_mul pe_int (pv 1))) pe_int))))
      (pss_cons (ps_set (i := 3) nd rfl (Or.inl rfl) (by exact (pe_op op_mul (pe_op op_modN (pe_callTy call_int1 (by rfl) B.int (by decide +kernel) (pa_cons (pe_callB call_abs (by rfl) B.abs (by decide +kernel) (pa_cons (pv 2) pa_nil)) pa_nil)) (pe_op op_powW (pe_op op_powW pe_int pe_int) pe_int)) (pe_callTy call_int1 (by rfl) B.int (by decide +kernel) (pa_cons (pe_cmpR op_ge (pe_callB call_abs (by rfl) B.abs (by decide +kernel) (pa_cons (pv 2) pa_nil)) (pe_op op_powW pe_int pe_int) (nomark _)) pa_nil)))))
      (pss_cons (ps_set (i := 4) nd rfl (Or.inl rfl) (by exact (pe_op op_modN (pe_callTy call_int1 (by rfl) B.int (by decide +kernel) (pa_cons (pv 2) pa_nil)) pe_int)))
      (pss_one (ps_ret (by exact (pe_lst (pa_cons (pv 3) (pa_cons (pe_op op_modN (pe_callTy call_int1 (by rfl) B.int (by decide +kernel) (pa_cons (pe_op op_add (pe_op op_add (pe_op op_mul (pv 4) pe_int) (pe_op op_mul (pe_op op_mul pe_int (pv 1)) (pv 1))) pe_int) pa_nil)) pe_int) (pa_cons pe_int pa_nil)))))))))), ?_⟩
    refine st_seq (st_setH (PV := fun v H' => ∃ i : Int, v = .int i ∧ Ex H H') (fun Q' q' => ?_) fun v H1 hv => ?_)
    · walk_at "rv"
      refine ⟨_, rfl, _, _, rfl, .inl hS, ?_⟩
      repeat walk_at "rv"
      refine ite2 (fun hlt => ?_) (fun hlt => ?_)
      · obtain ⟨x, hx, hat⟩ := at_nat (xs := ns.map V.int) h1 (of_decide_eq_true hlt)
        obtain ⟨z, _, rfl⟩ := List.mem_map.mp hx
        refine ⟨_, rfl, _, rfl, _, _, _, _, rfl, rfl, hS, hat, q' _ _ ⟨_, rfl, Ex.refl _⟩⟩
      · refine ⟨_, rfl, _, rfl, _, _, rfl, hS, fun p hn => ?_⟩
        refine ⟨p, ns.take 1, rfl, SqL.of (upd_same.trans ?_), ?_⟩
        · unfold cutV
          simp [HT.sIx]
        · repeat walk_at "rv"
          exact q' _ _ ⟨_, rfl, Ex.new hn⟩
    obtain ⟨cell, rfl, hex⟩ := hv
    repeat walk_at "rv"
    refine ⟨by show 3 ≤ sizeLine; decide, fun p hn => ?_⟩
    have b1 := fm cell ((10 ^ Int.toNat 60) ^ Int.toNat 5) (by decide)
    have b2 := fm (cell.fmod 2305843009213693951 * 80835 + 6601 * pl * pl + 2231) 2305843009213693921 (by decide)
    have b3 := fm (if cell < 0 then -cell else cell) ((10 ^ Int.toNat 60) ^ Int.toNat 5) (by decide)
    refine k p _ _ _ (Evl.fresh_back hex hn) (Int.mul_nonneg b3.1 ?_) b2.1 (by have := b2.2; omega) upd_same (hex.trans (Ex.new hn))
    · by_cases hc : decide ((10 : Int) ^ Int.toNat 18 ≤ if cell < 0 then -cell else cell) = true
      · rw [if_pos hc]
        decide
      · rw [if_neg hc]
        decide
/-- one of some, drawn -/
def spOf (K : PySem.W.Frag) : Sp := fun vs H Q _ => ∃ (a q : Addr) (own b c : Int) (xs : List V), vs = [.ref a, .ref q] ∧ H a = some (.lst [.int own, .int b, .int c]) ∧ a ≠ q ∧ SqL K H q xs ∧ 0 ≤ own ∧ 0 ≤ b ∧ b < 2 ^ 61 ∧ 0 ≤ c ∧ c < 2 ^ 20 ∧ 0 < xs.length ∧ xs.length < 2 ^ 20 ∧
  ∀ x own' c' H', x ∈ xs → 0 ≤ own' → 0 ≤ c' → c' ≤ c + 1 → H' a = some (.lst [.int own', .int b, .int c']) → SameBut a H H' → Q x H'
theorem scOf : FnScope ["pot", "some"] ["pot", "some"] (defScope sOf) := ⟨rfl, rfl, rfl, by decide +kernel, rfl, by decide +kernel, by decide +kernel⟩
structure Tx (P : Program) (w : World) (K : PySem.W.Frag) (mg : Str → Option Value) (base : Heap) : Prop where
  f_law_take : Callee P w K mg base CX0 1 "_law_take" ["pot", "upto"] spTake
theorem ok_of (F : FnP K "_law_of" sOf f fd) (B : Bi mg) (T : Tx P w K mg base) : FnOk P w K mg base CX0 2 f fd ["pot", "some"] (spOf K) := by
  refine F.ok scOf (fun vs H Q E h => ?_) (fun cdv A outer s H vs Q E hr h => ?_)
  · obtain ⟨a, q, own, b, c, xs, rfl, _⟩ := h
    rfl
  · obtain ⟨a, q, own, b, c, xs, rfl, hH, hne, hS, h1, h2, h3, h4, h5, h6, h7, k⟩ := h
    have nd := scOf.nd
    refine ⟨_, PSs.nox (pss_one (ps_ret (by exact (pe_ix ix_list (pv 1) (pe_cal T.f_law_take (hr.mono (by decide)) pass0 (pa_cons (pv 0) (pa_cons (pe_callB call_len_seq (by rfl) B.len PySem.boot_len (pa_cons (pv 1) pa_nil)) pa_nil))) (fun _ _ => rfl))))), ?_⟩
    repeat walk_at "rv"
    refine ⟨q, xs, rfl, .inl hS, ?_⟩
    refine ⟨a, own, b, c, _, rfl, hH, h1, h2, h3, h4, h5, by omega, by omega, fun r own' c' H' g1 g2 g3 g4 g5 g6 g7 => ?_⟩
    obtain ⟨x, hx, hat⟩ := at_nat (xs := xs) g4 g5
    exact ⟨_, _, _, _, rfl, rfl, but_l g7 (Ne.symm hne) hS, hat, k x own' c' H' hx g1 g2 g3 g6 g7⟩
def spCells (K : PySem.W.Frag) : Sp := fun vs H Q _ => ∃ (a : Addr) (ns : List Int), vs = [.ref a, .int 2] ∧ SqL K H a (ns.map V.int) ∧ ns.length ≤ 63 ∧ ∀ p n, H p = none → 1 ≤ n → n ≤ 2 → Q (.ref p) (upd H p (.lst (rgV 0 n)))
theorem scCells : FnScope ["script", "limit"] ["script", "limit"] (defScope sCells) := ⟨rfl, rfl, rfl, by decide +kernel, rfl, by decide +kernel, by decide +kernel⟩
theorem ok_cells (F : FnP K "_law_cells" sCells f fd) (B : Bi mg) : FnOk P w K mg base CX0 1 f fd ["script", "limit"] (spCells K) := by
  refine F.ok scCells (fun vs H Q E h => ?_) (fun cdv A outer s H vs Q E hr h => ?_)
  · obtain ⟨a, ns, rfl, _⟩ := h
    rfl
  · obtain ⟨a, ns, rfl, hS, h1, k⟩ := h
    have nd := scCells.nd
    refine ⟨_, PSs.nox (pss_one (ps_ret (by exact (pe_listRg rfl (by rfl) B.list (prg_1 (by rfl) B.range (pe_callB (call_max2 rfl) (by rfl) B.max (by decide +kernel) (pa_cons pe_int (pa_cons (pe_callB (call_min2 rfl) (by rfl) B.min (by decide +kernel) (pa_cons (pv 1) (pa_cons (pe_callB call_len_seq (by rfl) B.len PySem.boot_len (pa_cons (pv 0) pa_nil)) pa_nil))) pa_nil)))))))), ?_⟩
    repeat walk_at "rv"
    refine ⟨a, _, rfl, .inl hS, ?_⟩
    repeat walk_at "rv"
    have e : ∀ z : Int, 0 ≤ z → 1 ≤ (if (if z < 2 then z else 2) > 1 then (if z < 2 then z else 2) else 1) ∧ (if (if z < 2 then z else 2) > 1 then (if z < 2 then z else 2) else 1) ≤ 2 := fun z hz => by
      split <;> split <;> omega
    have e2 := e ((ns.map V.int).length : Int) (by omega)
    exact ⟨RgOk.of_le (by decide) (Int.le_trans e2.2 (by decide)) (by decide) (Int.le_trans (by decide) e2.1), fun p hn => k p _ hn e2.1 e2.2⟩
end
end K94
end
section
set_option Elab.async false
set_option linter.all false
set_option maxRecDepth 100000
set_option maxHeartbeats 8000000
namespace K94
open PySem PySem.Spec PyProof.Rows L2 Fe
open Evl (Ex)
local macro_rules | `(tactic| walk_at "hp") => `(tactic| first | assumption | exact upd_same | (refine (upd_ne ?hpA).trans ?hpB; (case hpA => (first | assumption | (apply Ne.symm; assumption) | exact ne_of_none (by walk_at "hp") (by assumption) | exact (ne_of_none (by walk_at "hp") (by assumption)).symm)); (case hpB => walk_at "hp")))
local macro_rules | `(tactic| walk_at "cnd") => `(tactic| first | (show _ ≠ (0 : Int); first | omega | decide) | (show CDivN _ _; first | exact ⟨by omega, by omega⟩ | exact ⟨by decide, by decide⟩) | (show CMul _ _; first | exact .inl ⟨by omega, by omega⟩ | exact .inr ⟨by omega, by omega⟩) | (show Cpw _ _; exact ⟨by decide, by decide +kernel⟩))
local macro_rules | `(tactic| walk_at "rv") => `(tactic| first
  | refine ⟨_, rfl, ?_⟩
  | refine ⟨_, _, rfl, rfl, by walk_at "cnd", ?_⟩
  | refine ⟨_, _, rfl, rfl, ?_⟩
  | refine .inl ⟨_, rfl, ?_⟩
  | refine .inr ⟨_, rfl, ?_⟩
  | refine ⟨_, _, _, _, rfl, rfl, SqL.of (by walk_at "hp"), rfl, ?_⟩
  | refine ⟨_, _, _, _, rfl, rfl, by walk_at "hp", rfl, ?_⟩
  | refine ⟨_, _, rfl, ?_⟩)
def nms0 : List Str := ["BadAllotment", "BadCosts", "BadDeed", "BadFair", "BadGuests", "BadGuild", "BadInn", "BadJournal", "BadKeeping", "BadKind", "BadLetters", "BadLine", "BadList", "BadLists", "BadLot", "BadMarket"]
def nms1 : List Str := ["BadNames", "BadNumber", "BadNumbers", "BadPairing", "BadPlace", "BadPledge", "BadPrices", "BadRooming", "BadRow", "BadShares", "BadSide", "BadStreet", "BadTies", "BadWord", "Known", "Late"]
def nms2 : List Str := ["NoFair", "NoGuest", "NoGuild", "NoInn", "NoMarket", "NoMaster", "NoName", "NoPerson", "NoPrentice", "NoStable", "NoStreet", "NoTies", "NoTrial", "NotBlock", "NotCore", "NotFit"]
def nms3 : List Str := ["NotListed", "NotOwned", "NotQuiet", "NotSingle", "NotSo", "NotStable", "NotSteady", "NothingToRedo", "NothingToUndo", "Owned", "TooMany", "TooManyGuests", "TooManyOthers", "Unlike"]
def nms : List Str := nms0 ++ nms1 ++ nms2 ++ nms3
/-- the i-th error's name; FairError behind them -/
def nm (i : Nat) : Str := nms.getD i "FairError"
abbrev cl (K : PySem.W.Frag) (i : Nat) : Addr := He.ga K (nm i)
/-- what the written part says of the errors -/
structure Er (P : Program) (K : PySem.W.Frag) (mg : Str → Option Value) (fI : Addr) : Prop where
  fe : FeD P K mg (cl K 62) fI
  g : ∀ i, i < 63 → mg (nm i) = some (.ref (cl K i))
  c : ∀ i, i < 63 → FeC K (cl K 62) fI (cl K i)
  is_ : ∀ i j, i < 63 → j < 62 → PySem.W.kitOne K (.ref (cl K i)) (.ref (cl K j)) = some (decide (i = j))
  isF : ∀ i, i < 63 → PySem.W.kitOne K (.ref (cl K i)) (.ref (cl K 62)) = some true
  isV : ∀ i, i < 63 → PySem.W.kitOne K (.ref (cl K i)) (.type "ValueError") = some true
/-- an error of the class at c with v stands at a -/
def ErrAt (H : Hp) (v : V) (c a : Addr) : Prop := ∃ d, H a = some (exo a c (some d)) ∧ H d = some (.xd [("value", v)])
theorem ErrAt.ex {H H' : Hp} {v : V} {c a : Addr} (e : Ex H H') (h : ErrAt H v c a) : ErrAt H' v c a := h.elim fun d z => ⟨d, e _ _ z.1, e _ _ z.2⟩
theorem ErrAt.upd {H : Hp} {v : V} {c a l : Addr} {xs ys : List V} (hl : H l = some (.lst xs)) (h : ErrAt H v c a) : ErrAt (upd H l (.lst ys)) v c a := h.elim fun d z => by
  refine ⟨d, ?_, ?_⟩
  · rw [upd_ne (ne_of z.1 hl (by intro q; have q' : HO.ext _ = HO.lst xs := q; cases q'))]
    exact z.1
  · rw [upd_ne (ne_of z.2 hl (by intro q; cases q))]
    exact z.2
abbrev ErrsAt (H : Hp) (v : V) : List Addr → List Addr → Prop := Paired (ErrAt H v)
theorem paired_imp {α β : Type} {F G : α → β → Prop} (f : ∀ a b, F a b → G a b) : ∀ {l₁ : List α} {l₂ : List β}, Paired F l₁ l₂ → Paired G l₁ l₂
  | _, _, .nil => .nil
  | _, _, .cons h t => .cons (f _ _ h) (paired_imp f t)
theorem paired_app {α β : Type} {F : α → β → Prop} : ∀ {l₁ : List α} {l₂ : List β} {m₁ : List α} {m₂ : List β}, Paired F l₁ l₂ → Paired F m₁ m₂ → Paired F (l₁ ++ m₁) (l₂ ++ m₂)
  | _, _, _, _, .nil, h => h
  | _, _, _, _, .cons a t, h => .cons a (paired_app t h)
theorem paired_len {α β : Type} {F : α → β → Prop} : ∀ {l₁ : List α} {l₂ : List β}, Paired F l₁ l₂ → l₁.length = l₂.length
  | _, _, .nil => rfl
  | _, _, .cons _ t => congrArg Nat.succ (paired_len t)
/-- errors written one behind the other -/
def tErrs : List Addr → TA
  | [] => tNil
  | c :: cs => tCons (tFe c (tVar 0)) (tErrs cs)
theorem exo_new {H : Hp} {C a d : Addr} {v : V} (ha : H a = none) (hd : H d = none) (n : d ≠ a) : Ex H (feH H C a d v) := fun q o e => by
  unfold feH
  rw [upd_ne (ne_of_none e ha), upd_ne (ne_of_none e hd)]
  exact e
theorem read_errs {v : V} {σ : L2.St} (hv : σ[0]? = some (some v)) : ∀ (cs : List Addr) (H : Hp) (Q : List V → Hp → Prop), (∀ as H', ErrsAt H' v cs as → Ex H H' → Q (as.map V.ref) H') → tErrs cs σ H Q
  | [], H, Q, q => q [] H .nil (Ex.refl H)
  | c :: cs, H, Q, q => ⟨v, hv, fun a d ha hd n => read_errs hv cs _ _ fun as H' hs e => by
      refine q (a :: as) H' (.cons (ErrAt.ex e ⟨d, ?_, ?_⟩) hs) ((exo_new ha hd n).trans e)
      · unfold feH
        rw [upd_same]
      · unfold feH
        rw [upd_ne n, upd_same]⟩
/-- found.extend([..]) -/
theorem ext_errs {K : PySem.W.Frag} {v : V} {l : Addr} {cs cs2 as : List Addr} {H0 H : Hp} {D : Ends} (hl0 : H0 l = none) (hl : H l = some (.lst (as.map V.ref))) (hs : ErrsAt H v cs as) (hx : Ex H0 H) (hz : as.length + cs2.length ≤ 1000)
    (q : ∀ as' H', H' l = some (.lst (as'.map V.ref)) → ErrsAt H' v (cs ++ cs2) as' → Ex H0 H' → D.nx [some v, some (.ref l)] H') :
    tDrop (tBM K "list" rExtend (tVar 1) (tCons (tLst (tErrs cs2)) tNil)) D [some v, some (.ref l)] H := by
  refine ⟨_, rfl, .inl ⟨rfl, _, SqL.of hl⟩, read_errs rfl cs2 _ _ fun as2 H1 h1 e1 => ⟨?_, fun p hp => ⟨l, p, as.map V.ref, as2.map V.ref, rfl, rfl, ?_, upd_same, ?_, ?_⟩⟩⟩
  · have e := paired_len h1
    rw [List.length_map, ← e]
    exact Nat.le_trans (Nat.le_trans (Nat.le_add_left _ _) hz) (by decide)
  · rw [upd_ne (ne_of_none (e1 _ _ hl) hp)]
    exact e1 _ _ hl
  · have e := paired_len h1
    rw [List.length_map, List.length_map, ← e]
    exact Nat.le_trans hz (by decide)
  · have h2 : Ex H1 (upd H1 p (.lst (as2.map V.ref))) := Ex.new hp
    have hl2 : (upd H1 p (.lst (as2.map V.ref))) l = some (.lst (as.map V.ref)) := h2 _ _ (e1 _ _ hl)
    refine q (as ++ as2) _ (upd_same.trans (by rw [List.map_append])) (paired_imp (fun c a z => ErrAt.upd hl2 (ErrAt.ex h2 z)) (paired_app (paired_imp (fun c a z => ErrAt.ex e1 z) hs) h1)) ?_
    exact Ex.mut (hx.trans (e1.trans h2)) hl0
abbrev sMade : Stmt := top 69
abbrev sFirst : Stmt := top 70
abbrev sLast : Stmt := top 71
section
variable {P : Program} {w : World} {K : PySem.W.Frag} {mg : Str → Option Value} {base : Heap} {f fI : Addr} {fd : FuncData}
structure Ty (P : Program) (K : PySem.W.Frag) (mg : Str → Option Value) (fI : Addr) : Prop where
  er : Er P K mg fI
/-- each error with a value -/
def spMade (K : PySem.W.Frag) : Sp := fun vs H Q _ => ∃ v : V, vs = [v] ∧ ∀ l as H', H l = none → H' l = some (.lst (as.map V.ref)) → ErrsAt H' v ((List.range 62).map (cl K)) as → Ex H H' → Q (.ref l) H'
theorem scMade : FnScope ["value", "found"] ["value"] (defScope sMade) := ⟨rfl, rfl, rfl, by decide +kernel, rfl, by decide +kernel, by decide +kernel⟩
theorem ok_made (F : FnP K "_law_made" sMade f fd) (T : Ty P K mg fI) : FnOk P w K mg base CX0 3 f fd ["value"] (spMade K) := by
  refine F.ok scMade (fun vs H Q E h => ?_) (fun cdv A outer s H vs Q E hr h => ?_)
  · obtain ⟨v, rfl, _⟩ := h
    rfl
  · obtain ⟨v, rfl, k⟩ := h
    have nd := scMade.nd
    refine ⟨_, PSs.nox (pss_cons (ps_set (i := 1) nd rfl (Or.inl rfl) (by exact (pe_lst pa_nil)))
      (pss_cons (ps_expr (by exact (pe_bm PySem.F.plainAttrs_list PySem.F.slot_list_extend PySem.F.type_list_extend mt_extend (pv 1) (pa_cons (pe_lst (pa_cons (pe_fe T.er.fe (T.er.c 0 (by decide)) (hr.mono (by decide)) (T.er.g 0 (by decide)) (pv 0)) (pa_cons (pe_fe T.er.fe (T.er.c 1 (by decide)) (hr.mono (by decide)) (T.er.g 1 (by decide)) (pv 0)) (pa_cons (pe_fe T.er.fe (T.er.c 2 (by decide)) (hr.mono (by decide)) (T.er.g 2 (by decide)) (pv 0)) (pa_cons (pe_fe T.er.fe (T.er.c 3 (by decide)) (hr.mono (by decide)) (T.er.g 3 (by decide)) (pv 0)) (pa_cons (pe_fe T.er.fe (T.er.c 4 (by decide)) (hr.mono (by decide)) (T.er.g 4 (by decide)) (pv 0)) pa_nil)))))) pa_nil))))
      (pss_cons (ps_expr (by exact (pe_bm PySem.F.plainAttrs_list PySem.F.slot_list_extend PySem.F.type_list_extend mt_extend (pv 1) (pa_cons (pe_lst (pa_cons (pe_fe T.er.fe (T.er.c 5 (by decide)) (hr.mono (by decide)) (T.er.g 5 (by decide)) (pv 0)) (pa_cons (pe_fe T.er.fe (T.er.c 6 (by decide)) (hr.mono (by decide)) (T.er.g 6 (by decide)) (pv 0)) (pa_cons (pe_fe T.er.fe (T.er.c 7 (by decide)) (hr.mono (by decide)) (T.er.g 7 (by decide)) (pv 0)) (pa_cons (pe_fe T.er.fe (T.er.c 8 (by decide)) (hr.mono (by decide)) (T.er.g 8 (by decide)) (pv 0)) (pa_cons (pe_fe T.er.fe (T.er.c 9 (by decide)) (hr.mono (by decide)) (T.er.g 9 (by decide)) (pv 0)) pa_nil)))))) pa_nil))))
      (pss_cons (ps_expr (by exact (pe_bm PySem.F.plainAttrs_list PySem.F.slot_list_extend PySem.F.type_list_extend mt_extend (pv 1) (pa_cons (pe_lst (pa_cons (pe_fe T.er.fe (T.er.c 10 (by decide)) (hr.mono (by decide)) (T.er.g 10 (by decide)) (pv 0)) (pa_cons (pe_fe T.er.fe (T.er.c 11 (by decide)) (hr.mono (by decide)) (T.er.g 11 (by decide)) (pv 0)) (pa_cons (pe_fe T.er.fe (T.er.c 12 (by decide)) (hr.mono (by decide)) (T.er.g 12 (by decide)) (pv 0)) (pa_cons (pe_fe T.er.fe (T.er.c 13 (by decide)) (hr.mono (by decide)) (T.er.g 13 (by decide)) (pv 0)) (pa_cons (pe_fe T.er.fe (T.er.c 14 (by decide)) (hr.mono (by decide)) (T.er.g 14 (by decide)) (pv 0)) pa_nil)))))) pa_nil))))
      (pss_cons (ps_expr (by exact (pe_bm PySem.F.plainAttrs_list PySem.F.slot_list_extend PySem.F.type_list_extend mt_extend (pv 1) (pa_cons (pe_lst (pa_cons (pe_fe T.er.fe (T.er.c 15 (by decide)) (hr.mono (by decide)) (T.er.g 15 (by decide)) (pv 0)) (pa_cons (pe_fe T.er.fe (T.er.c 16 (by decide)) (hr.mono (by decide)) (T.er.g 16 (by decide)) (pv 0)) (pa_cons (pe_fe T.er.fe (T.er.c 17 (by decide)) (hr.mono (by decide)) (T.er.g 17 (by decide)) (pv 0)) (pa_cons (pe_fe T.er.fe (T.er.c 18 (by decide)) (hr.mono (by decide)) (T.er.g 18 (by decide)) (pv 0)) (pa_cons (pe_fe T.er.fe (T.er.c 19 (by decide)) (hr.mono (by decide)) (T.er.g 19 (by decide)) (pv 0)) pa_nil)))))) pa_nil))))
      (pss_cons (ps_expr (by exact (pe_bm PySem.F.plainAttrs_list PySem.F.slot_list_extend PySem.F.type_list_extend mt_extend (pv 1) (pa_cons (pe_lst (pa_cons (pe_fe T.er.fe (T.er.c 20 (by decide)) (hr.mono (by decide)) (T.er.g 20 (by decide)) (pv 0)) (pa_cons (pe_fe T.er.fe (T.er.c 21 (by decide)) (hr.mono (by decide)) (T.er.g 21 (by decide)) (pv 0)) (pa_cons (pe_fe T.er.fe (T.er.c 22 (by decide)) (hr.mono (by decide)) (T.er.g 22 (by decide)) (pv 0)) (pa_cons (pe_fe T.er.fe (T.er.c 23 (by decide)) (hr.mono (by decide)) (T.er.g 23 (by decide)) (pv 0)) (pa_cons (pe_fe T.er.fe (T.er.c 24 (by decide)) (hr.mono (by decide)) (T.er.g 24 (by decide)) (pv 0)) pa_nil)))))) pa_nil))))
      (pss_cons (ps_expr (by exact (pe_bm PySem.F.plainAttrs_list PySem.F.slot_list_extend PySem.F.type_list_extend mt_extend (pv 1) (pa_cons (pe_lst (pa_cons (pe_fe T.er.fe (T.er.c 25 (by decide)) (hr.mono (by decide)) (T.er.g 25 (by decide)) (pv 0)) (pa_cons (pe_fe T.er.fe (T.er.c 26 (by decide)) (hr.mono (by decide)) (T.er.g 26 (by decide)) (pv 0)) (pa_cons (pe_fe T.er.fe (T.er.c 27 (by decide)) (hr.mono (by decide)) (T.er.g 27 (by decide)) (pv 0)) (pa_cons (pe_fe T.er.fe (T.er.c 28 (by decide)) (hr.mono (by decide)) (T.er.g 28 (by decide)) (pv 0)) (pa_cons (pe_fe T.er.fe (T.er.c 29 (by decide)) (hr.mono (by decide)) (T.er.g 29 (by decide)) (pv 0)) pa_nil)))))) pa_nil))))
      (pss_cons (ps_expr (by exact (pe_bm PySem.F.plainAttrs_list PySem.F.slot_list_extend PySem.F.type_list_extend mt_extend (pv 1) (pa_cons (pe_lst (pa_cons (pe_fe T.er.fe (T.er.c 30 (by decide)) (hr.mono (by decide)) (T.er.g 30 (by decide)) (pv 0)) (pa_cons (pe_fe T.er.fe (T.er.c 31 (by decide)) (hr.mono (by decide)) (T.er.g 31 (by decide)) (pv 0)) (pa_cons (pe_fe T.er.fe (T.er.c 32 (by decide)) (hr.mono (by decide)) (T.er.g 32 (by decide)) (pv 0)) (pa_cons (pe_fe T.er.fe (T.er.c 33 (by decide)) (hr.mono (by decide)) (T.er.g 33 (by decide)) (pv 0)) (pa_cons (pe_fe T.er.fe (T.er.c 34 (by decide)) (hr.mono (by decide)) (T.er.g 34 (by decide)) (pv 0)) (pa_cons (pe_fe T.er.fe (T.er.c 35 (by decide)) (hr.mono (by decide)) (T.er.g 35 (by decide)) (pv 0)) pa_nil))))))) pa_nil))))
      (pss_cons (ps_expr (by exact (pe_bm PySem.F.plainAttrs_list PySem.F.slot_list_extend PySem.F.type_list_extend mt_extend (pv 1) (pa_cons (pe_lst (pa_cons (pe_fe T.er.fe (T.er.c 36 (by decide)) (hr.mono (by decide)) (T.er.g 36 (by decide)) (pv 0)) (pa_cons (pe_fe T.er.fe (T.er.c 37 (by decide)) (hr.mono (by decide)) (T.er.g 37 (by decide)) (pv 0)) (pa_cons (pe_fe T.er.fe (T.er.c 38 (by decide)) (hr.mono (by decide)) (T.er.g 38 (by decide)) (pv 0)) (pa_cons (pe_fe T.er.fe (T.er.c 39 (by decide)) (hr.mono (by decide)) (T.er.g 39 (by decide)) (pv 0)) (pa_cons (pe_fe T.er.fe (T.er.c 40 (by decide)) (hr.mono (by decide)) (T.er.g 40 (by decide)) (pv 0)) pa_nil)))))) pa_nil))))
      (pss_cons (ps_expr (by exact (pe_bm PySem.F.plainAttrs_list PySem.F.slot_list_extend PySem.F.type_list_extend mt_extend (pv 1) (pa_cons (pe_lst (pa_cons (pe_fe T.er.fe (T.er.c 41 (by decide)) (hr.mono (by decide)) (T.er.g 41 (by decide)) (pv 0)) (pa_cons (pe_fe T.er.fe (T.er.c 42 (by decide)) (hr.mono (by decide)) (T.er.g 42 (by decide)) (pv 0)) (pa_cons (pe_fe T.er.fe (T.er.c 43 (by decide)) (hr.mono (by decide)) (T.er.g 43 (by decide)) (pv 0)) (pa_cons (pe_fe T.er.fe (T.er.c 44 (by decide)) (hr.mono (by decide)) (T.er.g 44 (by decide)) (pv 0)) (pa_cons (pe_fe T.er.fe (T.er.c 45 (by decide)) (hr.mono (by decide)) (T.er.g 45 (by decide)) (pv 0)) pa_nil)))))) pa_nil))))
      (pss_cons (ps_expr (by exact (pe_bm PySem.F.plainAttrs_list PySem.F.slot_list_extend PySem.F.type_list_extend mt_extend (pv 1) (pa_cons (pe_lst (pa_cons (pe_fe T.er.fe (T.er.c 46 (by decide)) (hr.mono (by decide)) (T.er.g 46 (by decide)) (pv 0)) (pa_cons (pe_fe T.er.fe (T.er.c 47 (by decide)) (hr.mono (by decide)) (T.er.g 47 (by decide)) (pv 0)) (pa_cons (pe_fe T.er.fe (T.er.c 48 (by decide)) (hr.mono (by decide)) (T.er.g 48 (by decide)) (pv 0)) (pa_cons (pe_fe T.er.fe (T.er.c 49 (by decide)) (hr.mono (by decide)) (T.er.g 49 (by decide)) (pv 0)) (pa_cons (pe_fe T.er.fe (T.er.c 50 (by decide)) (hr.mono (by decide)) (T.er.g 50 (by decide)) (pv 0)) pa_nil)))))) pa_nil))))
      (pss_cons (ps_expr (by exact (pe_bm PySem.F.plainAttrs_list PySem.F.slot_list_extend PySem.F.type_list_extend mt_extend (pv 1) (pa_cons (pe_lst (pa_cons (pe_fe T.er.fe (T.er.c 51 (by decide)) (hr.mono (by decide)) (T.er.g 51 (by decide)) (pv 0)) (pa_cons (pe_fe T.er.fe (T.er.c 52 (by decide)) (hr.mono (by decide)) (T.er.g 52 (by decide)) (pv 0)) (pa_cons (pe_fe T.er.fe (T.er.c 53 (by decide)) (hr.mono (by decide)) (T.er.g 53 (by decide)) (pv 0)) (pa_cons (pe_fe T.er.fe (T.er.c 54 (by decide)) (hr.mono (by decide)) (T.er.g 54 (by decide)) (pv 0)) (pa_cons (pe_fe T.er.fe (T.er.c 55 (by decide)) (hr.mono (by decide)) (T.er.g 55 (by decide)) (pv 0)) pa_nil)))))) pa_nil))))
      (pss_cons (ps_expr (by exact (pe_bm PySem.F.plainAttrs_list PySem.F.slot_list_extend PySem.F.type_list_extend mt_extend (pv 1) (pa_cons (pe_lst (pa_cons (pe_fe T.er.fe (T.er.c 56 (by decide)) (hr.mono (by decide)) (T.er.g 56 (by decide)) (pv 0)) (pa_cons (pe_fe T.er.fe (T.er.c 57 (by decide)) (hr.mono (by decide)) (T.er.g 57 (by decide)) (pv 0)) (pa_cons (pe_fe T.er.fe (T.er.c 58 (by decide)) (hr.mono (by decide)) (T.er.g 58 (by decide)) (pv 0)) (pa_cons (pe_fe T.er.fe (T.er.c 59 (by decide)) (hr.mono (by decide)) (T.er.g 59 (by decide)) (pv 0)) pa_nil))))) pa_nil))))
      (pss_cons (ps_expr (by exact (pe_bm PySem.F.plainAttrs_list PySem.F.slot_list_extend PySem.F.type_list_extend mt_extend (pv 1) (pa_cons (pe_lst (pa_cons (pe_fe T.er.fe (T.er.c 60 (by decide)) (hr.mono (by decide)) (T.er.g 60 (by decide)) (pv 0)) (pa_cons (pe_fe T.er.fe (T.er.c 61 (by decide)) (hr.mono (by decide)) (T.er.g 61 (by decide)) (pv 0)) pa_nil))) pa_nil))))
      (pss_one (ps_ret (by exact (pv 1)))))))))))))))))), ?_⟩
    refine ⟨by decide, fun l hl => ?_⟩
    refine ext_errs (cs := []) (cs2 := [cl K 0, cl K 1, cl K 2, cl K 3, cl K 4]) (as := []) hl upd_same .nil (Ex.new hl) (Nat.le_of_ble_eq_true rfl) fun as1 H1 g1 s1 x1 => ?_
    refine ext_errs (cs2 := [cl K 5, cl K 6, cl K 7, cl K 8, cl K 9]) hl g1 s1 x1 (by rw [← paired_len s1]; exact Nat.le_of_ble_eq_true rfl) fun as2 H2 g2 s2 x2 => ?_
    refine ext_errs (cs2 := [cl K 10, cl K 11, cl K 12, cl K 13, cl K 14]) hl g2 s2 x2 (by rw [← paired_len s2]; exact Nat.le_of_ble_eq_true rfl) fun as3 H3 g3 s3 x3 => ?_
    refine ext_errs (cs2 := [cl K 15, cl K 16, cl K 17, cl K 18, cl K 19]) hl g3 s3 x3 (by rw [← paired_len s3]; exact Nat.le_of_ble_eq_true rfl) fun as4 H4 g4 s4 x4 => ?_
    refine ext_errs (cs2 := [cl K 20, cl K 21, cl K 22, cl K 23, cl K 24]) hl g4 s4 x4 (by rw [← paired_len s4]; exact Nat.le_of_ble_eq_true rfl) fun as5 H5 g5 s5 x5 => ?_
    refine ext_errs (cs2 := [cl K 25, cl K 26, cl K 27, cl K 28, cl K 29]) hl g5 s5 x5 (by rw [← paired_len s5]; exact Nat.le_of_ble_eq_true rfl) fun as6 H6 g6 s6 x6 => ?_
    refine ext_errs (cs2 := [cl K 30, cl K 31, cl K 32, cl K 33, cl K 34, cl K 35]) hl g6 s6 x6 (by rw [← paired_len s6]; exact Nat.le_of_ble_eq_true rfl) fun as7 H7 g7 s7 x7 => ?_
    refine ext_errs (cs2 := [cl K 36, cl K 37, cl K 38, cl K 39, cl K 40]) hl g7 s7 x7 (by rw [← paired_len s7]; exact Nat.le_of_ble_eq_true rfl) fun as8 H8 g8 s8 x8 => ?_
    refine ext_errs (cs2 := [cl K 41, cl K 42, cl K 43, cl K 44, cl K 45]) hl g8 s8 x8 (by rw [← paired_len s8]; exact Nat.le_of_ble_eq_true rfl) fun as9 H9 g9 s9 x9 => ?_
    refine ext_errs (cs2 := [cl K 46, cl K 47, cl K 48, cl K 49, cl K 50]) hl g9 s9 x9 (by rw [← paired_len s9]; exact Nat.le_of_ble_eq_true rfl) fun as10 H10 g10 s10 x10 => ?_
    refine ext_errs (cs2 := [cl K 51, cl K 52, cl K 53, cl K 54, cl K 55]) hl g10 s10 x10 (by rw [← paired_len s10]; exact Nat.le_of_ble_eq_true rfl) fun as11 H11 g11 s11 x11 => ?_
    refine ext_errs (cs2 := [cl K 56, cl K 57, cl K 58, cl K 59]) hl g11 s11 x11 (by rw [← paired_len s11]; exact Nat.le_of_ble_eq_true rfl) fun as12 H12 g12 s12 x12 => ?_
    refine ext_errs (cs2 := [cl K 60, cl K 61]) hl g12 s12 x12 (by rw [← paired_len s12]; exact Nat.le_of_ble_eq_true rfl) fun as13 H13 g13 s13 x13 => ?_
    exact ⟨_, rfl, k l as13 H13 hl g13 s13 x13⟩
/-- isinstance(caught, C) for some errors -/
def tMarks (P : Program) (K : PySem.W.Frag) (mg : Str → Option Value) (fI : Addr) : List Nat → TA
  | [] => tNil
  | j :: js => tCons (tCB (rFeIs P K mg (cl K 62) fI) (tCons (tVar 0) (tCons (tC (.ref (cl K j))) tNil))) (tMarks P K mg fI js)
def marks (i : Nat) (js : List Nat) : List V := js.map fun j => V.bl (decide (i = j))
theorem read_marks {a : Addr} {i : Nat} {v : V} {σ : L2.St} (T : Er P K mg fI) (hi : i < 63) (hv : σ[0]? = some (some (.ref a))) {H : Hp} (h : ErrAt H v (cl K i) a) : ∀ (js : List Nat) (_ : ∀ j ∈ js, j < 62) (Q : List V → Hp → Prop), Q (marks i js) H → tMarks P K mg fI js σ H Q
  | [], _, Q, q => q
  | j :: js, hj, Q, q => by
    obtain ⟨d, h1, h2⟩ := h
    exact ⟨_, hv, a, cl K i, d, .ref (cl K j), .ref (cl K j), _, rfl, T.fe, T.c i hi, h1, fun u r => r, T.is_ i j hi (hj j List.mem_cons_self), ⟨_, h2⟩, read_marks T hi hv ⟨d, h1, h2⟩ js (fun j z => hj j (List.mem_cons_of_mem _ z)) _ q⟩
theorem ext_marks {a l : Addr} {i : Nat} {v : V} {js js2 : List Nat} {H0 H : Hp} {D : Ends} (T : Er P K mg fI) (hi : i < 63) (ha : ErrAt H v (cl K i) a) (hl0 : H0 l = none) (hl : H l = some (.lst (marks i js))) (hx : Ex H0 H) (hz : js.length + js2.length ≤ 1000) (hj : ∀ j ∈ js2, j < 62)
    (q : ∀ H', H' l = some (.lst (marks i (js ++ js2))) → ErrAt H' v (cl K i) a → Ex H0 H' → D.nx [some (.ref a), some (.ref l)] H') :
    tDrop (tBM K "list" rExtend (tVar 1) (tCons (tLst (tMarks P K mg fI js2)) tNil)) D [some (.ref a), some (.ref l)] H := by
  refine ⟨_, rfl, .inl ⟨rfl, _, SqL.of hl⟩, read_marks T hi rfl ha js2 hj _ ⟨?_, fun p hp => ⟨l, p, marks i js, marks i js2, rfl, rfl, ?_, upd_same, ?_, ?_⟩⟩⟩
  · unfold marks
    rw [List.length_map]
    exact Nat.le_trans (Nat.le_trans (Nat.le_add_left _ _) hz) (by decide)
  · rw [upd_ne (ne_of_none hl hp)]
    exact hl
  · unfold marks
    rw [List.length_map, List.length_map]
    exact Nat.le_trans hz (by decide)
  · have h2 : Ex H (upd H p (.lst (marks i js2))) := Ex.new hp
    have hl2 : (upd H p (.lst (marks i js2))) l = some (.lst (marks i js)) := h2 _ _ hl
    refine q _ (upd_same.trans (by unfold marks; rw [List.map_append])) (ErrAt.upd hl2 (ErrAt.ex h2 ha)) (Ex.mut (hx.trans h2) hl0)
def spMarks (K : PySem.W.Frag) (js : List Nat) : Sp := fun vs H Q _ => ∃ (a : Addr) (i : Nat) (v : V), vs = [.ref a] ∧ i < 63 ∧ ErrAt H v (cl K i) a ∧ ∀ l H', H l = none → H' l = some (.lst (marks i js)) → Ex H H' → Q (.ref l) H'
def jsFirst : List Nat := (List.range 33).map (· + 0)
theorem scFirst : FnScope ["caught", "found"] ["caught"] (defScope sFirst) := ⟨rfl, rfl, rfl, by decide +kernel, rfl, by decide +kernel, by decide +kernel⟩
theorem ok_first (F : FnP K "_law_marks_first" sFirst f fd) (T : Ty P K mg fI) (B : Bi mg) : FnOk P w K mg base CX0 1 f fd ["caught"] (spMarks K jsFirst) := by
  refine F.ok scFirst (fun vs H Q E h => ?_) (fun cdv A outer s H vs Q E hr h => ?_)
  · obtain ⟨a, i, v, rfl, _⟩ := h
    rfl
  · obtain ⟨a, i, v, rfl, hi, ha, k⟩ := h
    have nd := scFirst.nd
    refine ⟨_, PSs.nox (pss_cons (ps_set (i := 1) nd rfl (Or.inl rfl) (by exact (pe_lst pa_nil)))
      (pss_cons (ps_expr (by exact (pe_bm PySem.F.plainAttrs_list PySem.F.slot_list_extend PySem.F.type_list_extend mt_extend (pv 1) (pa_cons (pe_lst (pa_cons (pe_callB (call_feIs (D := cl K 62) (fI := fI)) (by rfl) B.isinstance (by decide +kernel) (pa_cons (pv 0) (pa_cons (pe_gref (by rfl) (T.er.g 0 (by decide))) pa_nil))) (pa_cons (pe_callB (call_feIs (D := cl K 62) (fI := fI)) (by rfl) B.isinstance (by decide +kernel) (pa_cons (pv 0) (pa_cons (pe_gref (by rfl) (T.er.g 1 (by decide))) pa_nil))) (pa_cons (pe_callB (call_feIs (D := cl K 62) (fI := fI)) (by rfl) B.isinstance (by decide +kernel) (pa_cons (pv 0) (pa_cons (pe_gref (by rfl) (T.er.g 2 (by decide))) pa_nil))) pa_nil)))) pa_nil))))
      (pss_cons (ps_expr (by exact (pe_bm PySem.F.plainAttrs_list PySem.F.slot_list_extend PySem.F.type_list_extend mt_extend (pv 1) (pa_cons (pe_lst (pa_cons (pe_callB (call_feIs (D := cl K 62) (fI := fI)) (by rfl) B.isinstance (by decide +kernel) (pa_cons (pv 0) (pa_cons (pe_gref (by rfl) (T.er.g 3 (by decide))) pa_nil))) (pa_cons (pe_callB (call_feIs (D := cl K 62) (fI := fI)) (by rfl) B.isinstance (by decide +kernel) (pa_cons (pv 0) (pa_cons (pe_gref (by rfl) (T.er.g 4 (by decide))) pa_nil))) (pa_cons (pe_callB (call_feIs (D := cl K 62) (fI := fI)) (by rfl) B.isinstance (by decide +kernel) (pa_cons (pv 0) (pa_cons (pe_gref (by rfl) (T.er.g 5 (by decide))) pa_nil))) pa_nil)))) pa_nil))))
      (pss_cons (ps_expr (by exact (pe_bm PySem.F.plainAttrs_list PySem.F.slot_list_extend PySem.F.type_list_extend mt_extend (pv 1) (pa_cons (pe_lst (pa_cons (pe_callB (call_feIs (D := cl K 62) (fI := fI)) (by rfl) B.isinstance (by decide +kernel) (pa_cons (pv 0) (pa_cons (pe_gref (by rfl) (T.er.g 6 (by decide))) pa_nil))) (pa_cons (pe_callB (call_feIs (D := cl K 62) (fI := fI)) (by rfl) B.isinstance (by decide +kernel) (pa_cons (pv 0) (pa_cons (pe_gref (by rfl) (T.er.g 7 (by decide))) pa_nil))) (pa_cons (pe_callB (call_feIs (D := cl K 62) (fI := fI)) (by rfl) B.isinstance (by decide +kernel) (pa_cons (pv 0) (pa_cons (pe_gref (by rfl) (T.er.g 8 (by decide))) pa_nil))) pa_nil)))) pa_nil))))
      (pss_cons (ps_expr (by exact (pe_bm PySem.F.plainAttrs_list PySem.F.slot_list_extend PySem.F.type_list_extend mt_extend (pv 1) (pa_cons (pe_lst (pa_cons (pe_callB (call_feIs (D := cl K 62) (fI := fI)) (by rfl) B.isinstance (by decide +kernel) (pa_cons (pv 0) (pa_cons (pe_gref (by rfl) (T.er.g 9 (by decide))) pa_nil))) (pa_cons (pe_callB (call_feIs (D := cl K 62) (fI := fI)) (by rfl) B.isinstance (by decide +kernel) (pa_cons (pv 0) (pa_cons (pe_gref (by rfl) (T.er.g 10 (by decide))) pa_nil))) (pa_cons (pe_callB (call_feIs (D := cl K 62) (fI := fI)) (by rfl) B.isinstance (by decide +kernel) (pa_cons (pv 0) (pa_cons (pe_gref (by rfl) (T.er.g 11 (by decide))) pa_nil))) pa_nil)))) pa_nil))))
      (pss_cons (ps_expr (by exact (pe_bm PySem.F.plainAttrs_list PySem.F.slot_list_extend PySem.F.type_list_extend mt_extend (pv 1) (pa_cons (pe_lst (pa_cons (pe_callB (call_feIs (D := cl K 62) (fI := fI)) (by rfl) B.isinstance (by decide +kernel) (pa_cons (pv 0) (pa_cons (pe_gref (by rfl) (T.er.g 12 (by decide))) pa_nil))) (pa_cons (pe_callB (call_feIs (D := cl K 62) (fI := fI)) (by rfl) B.isinstance (by decide +kernel) (pa_cons (pv 0) (pa_cons (pe_gref (by rfl) (T.er.g 13 (by decide))) pa_nil))) (pa_cons (pe_callB (call_feIs (D := cl K 62) (fI := fI)) (by rfl) B.isinstance (by decide +kernel) (pa_cons (pv 0) (pa_cons (pe_gref (by rfl) (T.er.g 14 (by decide))) pa_nil))) pa_nil)))) pa_nil))))
      (pss_cons (ps_expr (by exact (pe_bm PySem.F.plainAttrs_list PySem.F.slot_list_extend PySem.F.type_list_extend mt_extend (pv 1) (pa_cons (pe_lst (pa_cons (pe_callB (call_feIs (D := cl K 62) (fI := fI)) (by rfl) B.isinstance (by decide +kernel) (pa_cons (pv 0) (pa_cons (pe_gref (by rfl) (T.er.g 15 (by decide))) pa_nil))) (pa_cons (pe_callB (call_feIs (D := cl K 62) (fI := fI)) (by rfl) B.isinstance (by decide +kernel) (pa_cons (pv 0) (pa_cons (pe_gref (by rfl) (T.er.g 16 (by decide))) pa_nil))) (pa_cons (pe_callB (call_feIs (D := cl K 62) (fI := fI)) (by rfl) B.isinstance (by decide +kernel) (pa_cons (pv 0) (pa_cons (pe_gref (by rfl) (T.er.g 17 (by decide))) pa_nil))) pa_nil)))) pa_nil))))
      (pss_cons (ps_expr (by exact (pe_bm PySem.F.plainAttrs_list PySem.F.slot_list_extend PySem.F.type_list_extend mt_extend (pv 1) (pa_cons (pe_lst (pa_cons (pe_callB (call_feIs (D := cl K 62) (fI := fI)) (by rfl) B.isinstance (by decide +kernel) (pa_cons (pv 0) (pa_cons (pe_gref (by rfl) (T.er.g 18 (by decide))) pa_nil))) (pa_cons (pe_callB (call_feIs (D := cl K 62) (fI := fI)) (by rfl) B.isinstance (by decide +kernel) (pa_cons (pv 0) (pa_cons (pe_gref (by rfl) (T.er.g 19 (by decide))) pa_nil))) (pa_cons (pe_callB (call_feIs (D := cl K 62) (fI := fI)) (by rfl) B.isinstance (by decide +kernel) (pa_cons (pv 0) (pa_cons (pe_gref (by rfl) (T.er.g 20 (by decide))) pa_nil))) pa_nil)))) pa_nil))))
      (pss_cons (ps_expr (by exact (pe_bm PySem.F.plainAttrs_list PySem.F.slot_list_extend PySem.F.type_list_extend mt_extend (pv 1) (pa_cons (pe_lst (pa_cons (pe_callB (call_feIs (D := cl K 62) (fI := fI)) (by rfl) B.isinstance (by decide +kernel) (pa_cons (pv 0) (pa_cons (pe_gref (by rfl) (T.er.g 21 (by decide))) pa_nil))) (pa_cons (pe_callB (call_feIs (D := cl K 62) (fI := fI)) (by rfl) B.isinstance (by decide +kernel) (pa_cons (pv 0) (pa_cons (pe_gref (by rfl) (T.er.g 22 (by decide))) pa_nil))) (pa_cons (pe_callB (call_feIs (D := cl K 62) (fI := fI)) (by rfl) B.isinstance (by decide +kernel) (pa_cons (pv 0) (pa_cons (pe_gref (by rfl) (T.er.g 23 (by decide))) pa_nil))) pa_nil)))) pa_nil))))
      (pss_cons (ps_expr (by exact (pe_bm PySem.F.plainAttrs_list PySem.F.slot_list_extend PySem.F.type_list_extend mt_extend (pv 1) (pa_cons (pe_lst (pa_cons (pe_callB (call_feIs (D := cl K 62) (fI := fI)) (by rfl) B.isinstance (by decide +kernel) (pa_cons (pv 0) (pa_cons (pe_gref (by rfl) (T.er.g 24 (by decide))) pa_nil))) (pa_cons (pe_callB (call_feIs (D := cl K 62) (fI := fI)) (by rfl) B.isinstance (by decide +kernel) (pa_cons (pv 0) (pa_cons (pe_gref (by rfl) (T.er.g 25 (by decide))) pa_nil))) (pa_cons (pe_callB (call_feIs (D := cl K 62) (fI := fI)) (by rfl) B.isinstance (by decide +kernel) (pa_cons (pv 0) (pa_cons (pe_gref (by rfl) (T.er.g 26 (by decide))) pa_nil))) pa_nil)))) pa_nil))))
      (pss_cons (ps_expr (by exact (pe_bm PySem.F.plainAttrs_list PySem.F.slot_list_extend PySem.F.type_list_extend mt_extend (pv 1) (pa_cons (pe_lst (pa_cons (pe_callB (call_feIs (D := cl K 62) (fI := fI)) (by rfl) B.isinstance (by decide +kernel) (pa_cons (pv 0) (pa_cons (pe_gref (by rfl) (T.er.g 27 (by decide))) pa_nil))) (pa_cons (pe_callB (call_feIs (D := cl K 62) (fI := fI)) (by rfl) B.isinstance (by decide +kernel) (pa_cons (pv 0) (pa_cons (pe_gref (by rfl) (T.er.g 28 (by decide))) pa_nil))) (pa_cons (pe_callB (call_feIs (D := cl K 62) (fI := fI)) (by rfl) B.isinstance (by decide +kernel) (pa_cons (pv 0) (pa_cons (pe_gref (by rfl) (T.er.g 29 (by decide))) pa_nil))) pa_nil)))) pa_nil))))
      (pss_cons (ps_expr (by exact (pe_bm PySem.F.plainAttrs_list PySem.F.slot_list_extend PySem.F.type_list_extend mt_extend (pv 1) (pa_cons (pe_lst (pa_cons (pe_callB (call_feIs (D := cl K 62) (fI := fI)) (by rfl) B.isinstance (by decide +kernel) (pa_cons (pv 0) (pa_cons (pe_gref (by rfl) (T.er.g 30 (by decide))) pa_nil))) (pa_cons (pe_callB (call_feIs (D := cl K 62) (fI := fI)) (by rfl) B.isinstance (by decide +kernel) (pa_cons (pv 0) (pa_cons (pe_gref (by rfl) (T.er.g 31 (by decide))) pa_nil))) (pa_cons (pe_callB (call_feIs (D := cl K 62) (fI := fI)) (by rfl) B.isinstance (by decide +kernel) (pa_cons (pv 0) (pa_cons (pe_gref (by rfl) (T.er.g 32 (by decide))) pa_nil))) pa_nil)))) pa_nil))))
      (pss_one (ps_ret (by exact (pv 1)))))))))))))))), ?_⟩
    refine ⟨by decide, fun l hl => ?_⟩
    have a0 : ErrAt (upd H l (.lst [])) v (cl K i) a := ErrAt.ex (Ex.new hl) ha
    refine ext_marks (js := []) (js2 := [0, 1, 2]) T.er hi a0 hl upd_same (Ex.new hl) (Nat.le_of_ble_eq_true rfl) (by decide) fun H1 g1 a1 x1 => ?_
    refine ext_marks (js := [0, 1, 2]) (js2 := [3, 4, 5]) T.er hi a1 hl g1 x1 (Nat.le_of_ble_eq_true rfl) (by decide) fun H2 g2 a2 x2 => ?_
    refine ext_marks (js := [0, 1, 2, 3, 4, 5]) (js2 := [6, 7, 8]) T.er hi a2 hl g2 x2 (Nat.le_of_ble_eq_true rfl) (by decide) fun H3 g3 a3 x3 => ?_
    refine ext_marks (js := [0, 1, 2, 3, 4, 5, 6, 7, 8]) (js2 := [9, 10, 11]) T.er hi a3 hl g3 x3 (Nat.le_of_ble_eq_true rfl) (by decide) fun H4 g4 a4 x4 => ?_
    refine ext_marks (js := [0, 1, 2, 3, 4, 5, 6, 7, 8, 9, 10, 11]) (js2 := [12, 13, 14]) T.er hi a4 hl g4 x4 (Nat.le_of_ble_eq_true rfl) (by decide) fun H5 g5 a5 x5 => ?_
    refine ext_marks (js := [0, 1, 2, 3, 4, 5, 6, 7, 8, 9, 10, 11, 12, 13, 14]) (js2 := [15, 16, 17]) T.er hi a5 hl g5 x5 (Nat.le_of_ble_eq_true rfl) (by decide) fun H6 g6 a6 x6 => ?_
    refine ext_marks (js := [0, 1, 2, 3, 4, 5, 6, 7, 8, 9, 10, 11, 12, 13, 14, 15, 16, 17]) (js2 := [18, 19, 20]) T.er hi a6 hl g6 x6 (Nat.le_of_ble_eq_true rfl) (by decide) fun H7 g7 a7 x7 => ?_
    refine ext_marks (js := [0, 1, 2, 3, 4, 5, 6, 7, 8, 9, 10, 11, 12, 13, 14, 15, 16, 17, 18, 19, 20]) (js2 := [21, 22, 23]) T.er hi a7 hl g7 x7 (Nat.le_of_ble_eq_true rfl) (by decide) fun H8 g8 a8 x8 => ?_
    refine ext_marks (js := [0, 1, 2, 3, 4, 5, 6, 7, 8, 9, 10, 11, 12, 13, 14, 15, 16, 17, 18, 19, 20, 21, 22, 23]) (js2 := [24, 25, 26]) T.er hi a8 hl g8 x8 (Nat.le_of_ble_eq_true rfl) (by decide) fun H9 g9 a9 x9 => ?_
    refine ext_marks (js := [0, 1, 2, 3, 4, 5, 6, 7, 8, 9, 10, 11, 12, 13, 14, 15, 16, 17, 18, 19, 20, 21, 22, 23, 24, 25, 26]) (js2 := [27, 28, 29]) T.er hi a9 hl g9 x9 (Nat.le_of_ble_eq_true rfl) (by decide) fun H10 g10 a10 x10 => ?_
    refine ext_marks (js := [0, 1, 2, 3, 4, 5, 6, 7, 8, 9, 10, 11, 12, 13, 14, 15, 16, 17, 18, 19, 20, 21, 22, 23, 24, 25, 26, 27, 28, 29]) (js2 := [30, 31, 32]) T.er hi a10 hl g10 x10 (Nat.le_of_ble_eq_true rfl) (by decide) fun H11 g11 a11 x11 => ?_
    exact ⟨_, rfl, k l H11 hl g11 x11⟩
def jsLast : List Nat := (List.range 29).map (· + 33)
theorem scLast : FnScope ["caught", "found"] ["caught"] (defScope sLast) := ⟨rfl, rfl, rfl, by decide +kernel, rfl, by decide +kernel, by decide +kernel⟩
theorem ok_last (F : FnP K "_law_marks_last" sLast f fd) (T : Ty P K mg fI) (B : Bi mg) : FnOk P w K mg base CX0 1 f fd ["caught"] (spMarks K jsLast) := by
  refine F.ok scLast (fun vs H Q E h => ?_) (fun cdv A outer s H vs Q E hr h => ?_)
  · obtain ⟨a, i, v, rfl, _⟩ := h
    rfl
  · obtain ⟨a, i, v, rfl, hi, ha, k⟩ := h
    have nd := scLast.nd
    refine ⟨_, PSs.nox (pss_cons (ps_set (i := 1) nd rfl (Or.inl rfl) (by exact (pe_lst pa_nil)))
      (pss_cons (ps_expr (by exact (pe_bm PySem.F.plainAttrs_list PySem.F.slot_list_extend PySem.F.type_list_extend mt_extend (pv 1) (pa_cons (pe_lst (pa_cons (pe_callB (call_feIs (D := cl K 62) (fI := fI)) (by rfl) B.isinstance (by decide +kernel) (pa_cons (pv 0) (pa_cons (pe_gref (by rfl) (T.er.g 33 (by decide))) pa_nil))) (pa_cons (pe_callB (call_feIs (D := cl K 62) (fI := fI)) (by rfl) B.isinstance (by decide +kernel) (pa_cons (pv 0) (pa_cons (pe_gref (by rfl) (T.er.g 34 (by decide))) pa_nil))) (pa_cons (pe_callB (call_feIs (D := cl K 62) (fI := fI)) (by rfl) B.isinstance (by decide +kernel) (pa_cons (pv 0) (pa_cons (pe_gref (by rfl) (T.er.g 35 (by decide))) pa_nil))) pa_nil)))) pa_nil))))
      (pss_cons (ps_expr (by exact (pe_bm PySem.F.plainAttrs_list PySem.F.slot_list_extend PySem.F.type_list_extend mt_extend (pv 1) (pa_cons (pe_lst (pa_cons (pe_callB (call_feIs (D := cl K 62) (fI := fI)) (by rfl) B.isinstance (by decide +kernel) (pa_cons (pv 0) (pa_cons (pe_gref (by rfl) (T.er.g 36 (by decide))) pa_nil))) (pa_cons (pe_callB (call_feIs (D := cl K 62) (fI := fI)) (by rfl) B.isinstance (by decide +kernel) (pa_cons (pv 0) (pa_cons (pe_gref (by rfl) (T.er.g 37 (by decide))) pa_nil))) (pa_cons (pe_callB (call_feIs (D := cl K 62) (fI := fI)) (by rfl) B.isinstance (by decide +kernel) (pa_cons (pv 0) (pa_cons (pe_gref (by rfl) (T.er.g 38 (by decide))) pa_nil))) pa_nil)))) pa_nil))))
      (pss_cons (ps_expr (by exact (pe_bm PySem.F.plainAttrs_list PySem.F.slot_list_extend PySem.F.type_list_extend mt_extend (pv 1) (pa_cons (pe_lst (pa_cons (pe_callB (call_feIs (D := cl K 62) (fI := fI)) (by rfl) B.isinstance (by decide +kernel) (pa_cons (pv 0) (pa_cons (pe_gref (by rfl) (T.er.g 39 (by decide))) pa_nil))) (pa_cons (pe_callB (call_feIs (D := cl K 62) (fI := fI)) (by rfl) B.isinstance (by decide +kernel) (pa_cons (pv 0) (pa_cons (pe_gref (by rfl) (T.er.g 40 (by decide))) pa_nil))) (pa_cons (pe_callB (call_feIs (D := cl K 62) (fI := fI)) (by rfl) B.isinstance (by decide +kernel) (pa_cons (pv 0) (pa_cons (pe_gref (by rfl) (T.er.g 41 (by decide))) pa_nil))) pa_nil)))) pa_nil))))
      (pss_cons (ps_expr (by exact (pe_bm PySem.F.plainAttrs_list PySem.F.slot_list_extend PySem.F.type_list_extend mt_extend (pv 1) (pa_cons (pe_lst (pa_cons (pe_callB (call_feIs (D := cl K 62) (fI := fI)) (by rfl) B.isinstance (by decide +kernel) (pa_cons (pv 0) (pa_cons (pe_gref (by rfl) (T.er.g 42 (by decide))) pa_nil))) (pa_cons (pe_callB (call_feIs (D := cl K 62) (fI := fI)) (by rfl) B.isinstance (by decide +kernel) (pa_cons (pv 0) (pa_cons (pe_gref (by rfl) (T.er.g 43 (by decide))) pa_nil))) (pa_cons (pe_callB (call_feIs (D := cl K 62) (fI := fI)) (by rfl) B.isinstance (by decide +kernel) (pa_cons (pv 0) (pa_cons (pe_gref (by rfl) (T.er.g 44 (by decide))) pa_nil))) pa_nil)))) pa_nil))))
      (pss_cons (ps_expr (by exact (pe_bm PySem.F.plainAttrs_list PySem.F.slot_list_extend PySem.F.type_list_extend mt_extend (pv 1) (pa_cons (pe_lst (pa_cons (pe_callB (call_feIs (D := cl K 62) (fI := fI)) (by rfl) B.isinstance (by decide +kernel) (pa_cons (pv 0) (pa_cons (pe_gref (by rfl) (T.er.g 45 (by decide))) pa_nil))) (pa_cons (pe_callB (call_feIs (D := cl K 62) (fI := fI)) (by rfl) B.isinstance (by decide +kernel) (pa_cons (pv 0) (pa_cons (pe_gref (by rfl) (T.er.g 46 (by decide))) pa_nil))) (pa_cons (pe_callB (call_feIs (D := cl K 62) (fI := fI)) (by rfl) B.isinstance (by decide +kernel) (pa_cons (pv 0) (pa_cons (pe_gref (by rfl) (T.er.g 47 (by decide))) pa_nil))) pa_nil)))) pa_nil))))
      (pss_cons (ps_expr (by exact (pe_bm PySem.F.plainAttrs_list PySem.F.slot_list_extend PySem.F.type_list_extend mt_extend (pv 1) (pa_cons (pe_lst (pa_cons (pe_callB (call_feIs (D := cl K 62) (fI := fI)) (by rfl) B.isinstance (by decide +kernel) (pa_cons (pv 0) (pa_cons (pe_gref (by rfl) (T.er.g 48 (by decide))) pa_nil))) (pa_cons (pe_callB (call_feIs (D := cl K 62) (fI := fI)) (by rfl) B.isinstance (by decide +kernel) (pa_cons (pv 0) (pa_cons (pe_gref (by rfl) (T.er.g 49 (by decide))) pa_nil))) (pa_cons (pe_callB (call_feIs (D := cl K 62) (fI := fI)) (by rfl) B.isinstance (by decide +kernel) (pa_cons (pv 0) (pa_cons (pe_gref (by rfl) (T.er.g 50 (by decide))) pa_nil))) pa_nil)))) pa_nil))))
      (pss_cons (ps_expr (by exact (pe_bm PySem.F.plainAttrs_list PySem.F.slot_list_extend PySem.F.type_list_extend mt_extend (pv 1) (pa_cons (pe_lst (pa_cons (pe_callB (call_feIs (D := cl K 62) (fI := fI)) (by rfl) B.isinstance (by decide +kernel) (pa_cons (pv 0) (pa_cons (pe_gref (by rfl) (T.er.g 51 (by decide))) pa_nil))) (pa_cons (pe_callB (call_feIs (D := cl K 62) (fI := fI)) (by rfl) B.isinstance (by decide +kernel) (pa_cons (pv 0) (pa_cons (pe_gref (by rfl) (T.er.g 52 (by decide))) pa_nil))) (pa_cons (pe_callB (call_feIs (D := cl K 62) (fI := fI)) (by rfl) B.isinstance (by decide +kernel) (pa_cons (pv 0) (pa_cons (pe_gref (by rfl) (T.er.g 53 (by decide))) pa_nil))) pa_nil)))) pa_nil))))
      (pss_cons (ps_expr (by exact (pe_bm PySem.F.plainAttrs_list PySem.F.slot_list_extend PySem.F.type_list_extend mt_extend (pv 1) (pa_cons (pe_lst (pa_cons (pe_callB (call_feIs (D := cl K 62) (fI := fI)) (by rfl) B.isinstance (by decide +kernel) (pa_cons (pv 0) (pa_cons (pe_gref (by rfl) (T.er.g 54 (by decide))) pa_nil))) (pa_cons (pe_callB (call_feIs (D := cl K 62) (fI := fI)) (by rfl) B.isinstance (by decide +kernel) (pa_cons (pv 0) (pa_cons (pe_gref (by rfl) (T.er.g 55 (by decide))) pa_nil))) pa_nil))) pa_nil))))
      (pss_cons (ps_expr (by exact (pe_bm PySem.F.plainAttrs_list PySem.F.slot_list_extend PySem.F.type_list_extend mt_extend (pv 1) (pa_cons (pe_lst (pa_cons (pe_callB (call_feIs (D := cl K 62) (fI := fI)) (by rfl) B.isinstance (by decide +kernel) (pa_cons (pv 0) (pa_cons (pe_gref (by rfl) (T.er.g 56 (by decide))) pa_nil))) (pa_cons (pe_callB (call_feIs (D := cl K 62) (fI := fI)) (by rfl) B.isinstance (by decide +kernel) (pa_cons (pv 0) (pa_cons (pe_gref (by rfl) (T.er.g 57 (by decide))) pa_nil))) (pa_cons (pe_callB (call_feIs (D := cl K 62) (fI := fI)) (by rfl) B.isinstance (by decide +kernel) (pa_cons (pv 0) (pa_cons (pe_gref (by rfl) (T.er.g 58 (by decide))) pa_nil))) pa_nil)))) pa_nil))))
      (pss_cons (ps_expr (by exact (pe_bm PySem.F.plainAttrs_list PySem.F.slot_list_extend PySem.F.type_list_extend mt_extend (pv 1) (pa_cons (pe_lst (pa_cons (pe_callB (call_feIs (D := cl K 62) (fI := fI)) (by rfl) B.isinstance (by decide +kernel) (pa_cons (pv 0) (pa_cons (pe_gref (by rfl) (T.er.g 59 (by decide))) pa_nil))) (pa_cons (pe_callB (call_feIs (D := cl K 62) (fI := fI)) (by rfl) B.isinstance (by decide +kernel) (pa_cons (pv 0) (pa_cons (pe_gref (by rfl) (T.er.g 60 (by decide))) pa_nil))) pa_nil))) pa_nil))))
      (pss_cons (ps_expr (by exact (pe_bm PySem.F.plainAttrs_list PySem.F.slot_list_extend PySem.F.type_list_extend mt_extend (pv 1) (pa_cons (pe_lst (pa_cons (pe_callB (call_feIs (D := cl K 62) (fI := fI)) (by rfl) B.isinstance (by decide +kernel) (pa_cons (pv 0) (pa_cons (pe_gref (by rfl) (T.er.g 61 (by decide))) pa_nil))) pa_nil)) pa_nil))))
      (pss_one (ps_ret (by exact (pv 1)))))))))))))))), ?_⟩
    refine ⟨by decide, fun l hl => ?_⟩
    have a0 : ErrAt (upd H l (.lst [])) v (cl K i) a := ErrAt.ex (Ex.new hl) ha
    refine ext_marks (js := []) (js2 := [33, 34, 35]) T.er hi a0 hl upd_same (Ex.new hl) (Nat.le_of_ble_eq_true rfl) (by decide) fun H1 g1 a1 x1 => ?_
    refine ext_marks (js := [33, 34, 35]) (js2 := [36, 37, 38]) T.er hi a1 hl g1 x1 (Nat.le_of_ble_eq_true rfl) (by decide) fun H2 g2 a2 x2 => ?_
    refine ext_marks (js := [33, 34, 35, 36, 37, 38]) (js2 := [39, 40, 41]) T.er hi a2 hl g2 x2 (Nat.le_of_ble_eq_true rfl) (by decide) fun H3 g3 a3 x3 => ?_
    refine ext_marks (js := [33, 34, 35, 36, 37, 38, 39, 40, 41]) (js2 := [42, 43, 44]) T.er hi a3 hl g3 x3 (Nat.le_of_ble_eq_true rfl) (by decide) fun H4 g4 a4 x4 => ?_
    refine ext_marks (js := [33, 34, 35, 36, 37, 38, 39, 40, 41, 42, 43, 44]) (js2 := [45, 46, 47]) T.er hi a4 hl g4 x4 (Nat.le_of_ble_eq_true rfl) (by decide) fun H5 g5 a5 x5 => ?_
    refine ext_marks (js := [33, 34, 35, 36, 37, 38, 39, 40, 41, 42, 43, 44, 45, 46, 47]) (js2 := [48, 49, 50]) T.er hi a5 hl g5 x5 (Nat.le_of_ble_eq_true rfl) (by decide) fun H6 g6 a6 x6 => ?_
    refine ext_marks (js := [33, 34, 35, 36, 37, 38, 39, 40, 41, 42, 43, 44, 45, 46, 47, 48, 49, 50]) (js2 := [51, 52, 53]) T.er hi a6 hl g6 x6 (Nat.le_of_ble_eq_true rfl) (by decide) fun H7 g7 a7 x7 => ?_
    refine ext_marks (js := [33, 34, 35, 36, 37, 38, 39, 40, 41, 42, 43, 44, 45, 46, 47, 48, 49, 50, 51, 52, 53]) (js2 := [54, 55]) T.er hi a7 hl g7 x7 (Nat.le_of_ble_eq_true rfl) (by decide) fun H8 g8 a8 x8 => ?_
    refine ext_marks (js := [33, 34, 35, 36, 37, 38, 39, 40, 41, 42, 43, 44, 45, 46, 47, 48, 49, 50, 51, 52, 53, 54, 55]) (js2 := [56, 57, 58]) T.er hi a8 hl g8 x8 (Nat.le_of_ble_eq_true rfl) (by decide) fun H9 g9 a9 x9 => ?_
    refine ext_marks (js := [33, 34, 35, 36, 37, 38, 39, 40, 41, 42, 43, 44, 45, 46, 47, 48, 49, 50, 51, 52, 53, 54, 55, 56, 57, 58]) (js2 := [59, 60]) T.er hi a9 hl g9 x9 (Nat.le_of_ble_eq_true rfl) (by decide) fun H10 g10 a10 x10 => ?_
    refine ext_marks (js := [33, 34, 35, 36, 37, 38, 39, 40, 41, 42, 43, 44, 45, 46, 47, 48, 49, 50, 51, 52, 53, 54, 55, 56, 57, 58, 59, 60]) (js2 := [61]) T.er hi a10 hl g10 x10 (Nat.le_of_ble_eq_true rfl) (by decide) fun H11 g11 a11 x11 => ?_
    exact ⟨_, rfl, k l H11 hl g11 x11⟩
end
end K94
end
section
set_option Elab.async false
set_option linter.all false
set_option maxRecDepth 100000
set_option maxHeartbeats 8000000
namespace K94
open PySem PySem.Spec PyProof.Rows L2 Fe
open Evl (Ex)
local macro_rules | `(tactic| walk_at "hp") => `(tactic| first | assumption | exact upd_same | (refine (upd_ne ?hpA).trans ?hpB; (case hpA => (first | assumption | (apply Ne.symm; assumption) | exact ne_of_none (by walk_at "hp") (by assumption) | exact (ne_of_none (by walk_at "hp") (by assumption)).symm)); (case hpB => walk_at "hp")))
local macro_rules | `(tactic| walk_at "cnd") => `(tactic| first | (show _ ≠ (0 : Int); first | omega | decide) | (show CDivN _ _; first | exact ⟨by omega, by omega⟩ | exact ⟨by decide, by decide⟩) | (show CMul _ _; first | exact .inl ⟨by omega, by omega⟩ | exact .inr ⟨by omega, by omega⟩) | (show Cpw _ _; exact ⟨by decide, by decide +kernel⟩))
local macro_rules | `(tactic| walk_at "rv") => `(tactic| first
  | refine ⟨_, rfl, ?_⟩
  | refine ⟨_, _, rfl, rfl, by walk_at "cnd", ?_⟩
  | refine ⟨_, _, rfl, rfl, ?_⟩
  | refine .inl ⟨_, rfl, ?_⟩
  | refine .inr ⟨_, rfl, ?_⟩
  | refine ⟨_, _, _, _, rfl, rfl, SqL.of (by walk_at "hp"), rfl, ?_⟩
  | refine ⟨_, _, _, _, rfl, rfl, by walk_at "hp", rfl, ?_⟩
  | refine ⟨_, _, rfl, ?_⟩)

theorem q_else {b : Bool} {p q : Prop} (h : b = false) (k : q) : if b = true then p else q := by
  subst h
  exact k
theorem q_then {b : Bool} {p q : Prop} (h : b = true) (k : p) : if b = true then p else q := by
  subst h
  exact k
theorem paired_get {α β : Type} {F : α → β → Prop} : ∀ {l₁ : List α} {l₂ : List β}, Paired F l₁ l₂ → ∀ {n : Nat} {b : β}, l₂[n]? = some b → ∃ a, l₁[n]? = some a ∧ F a b
  | _, _, .nil, n, b, h => by cases h
  | _, _, .cons a t, 0, b, h => ⟨_, rfl, by cases h; exact a⟩
  | _, _, .cons a t, n + 1, b, h => by
    obtain ⟨a', h1, h2⟩ := paired_get t (n := n) (b := b) (by simpa using h)
    exact ⟨a', by simpa using h1, h2⟩
theorem dps_bools {K : PySem.W.Frag} {H : Hp} : ∀ bs : List Bool, DpAll K H (bs.map V.bl) (bs.map PyData.bool)
  | [] => .nil
  | b :: bs => .cons (.bl b) (dps_bools bs)
theorem bools_lay : ∀ bs : List Bool, PyData.canLayAll0 (bs.map PyData.bool) = true
  | [] => by simp [PyData.canLayAll0]
  | b :: bs => by simp [PyData.canLayAll0, PyData.canLay0, bools_lay bs]
theorem bools_depth : ∀ bs : List Bool, PyData.depthAll (bs.map PyData.bool) = 0
  | [] => by simp [PyData.depthAll]
  | b :: bs => by simp [PyData.depthAll, PyData.depth, bools_depth bs]
theorem bools_shaped (bs : List Bool) : SeqAt.shaped (.list (bs.map PyData.bool)) = true := by
  show (PyData.canLay0 (.list (bs.map PyData.bool)) && decide (PyData.depth (.list (bs.map PyData.bool)) ≤ 64)) = true
  rw [Bool.and_eq_true]
  exact ⟨by simp only [PyData.canLay0]; exact bools_lay bs, decide_eq_true (by simp [PyData.depth, bools_depth bs])⟩
theorem neB (bs : List Bool) : (!PyData.eqv (.list (bs.map PyData.bool)) (.list (bs.map PyData.bool))) = false := by
  rw [PySem.SeqAt.eqv_refl _ (by simp only [PyData.canLay0]; exact bools_lay bs)]
  rfl
def dueOf (n m : Nat) : List V := (List.range m).map fun (j : Nat) => V.bl (decide (V.int (j : Nat) = V.int (n : Nat)))
theorem due_succ (n m : Nat) : dueOf n (m + 1) = dueOf n m ++ [V.bl (decide (V.int (0 + (m : Nat)) = V.int n))] := by
  unfold dueOf
  rw [List.range_succ, List.map_append, Int.zero_add]
  rfl
theorem due_bools (n : Nat) : dueOf n 62 = ((List.range 62).map fun j => decide (n = j)).map V.bl := by
  unfold dueOf
  rw [List.map_map]
  refine List.map_congr_left fun j _ => ?_
  show V.bl _ = V.bl (decide (n = j))
  refine congrArg V.bl (decide_eq_decide.mpr ⟨fun h => ?_, fun h => by rw [h]⟩)
  injection h with h
  omega
theorem marks_bools (n : Nat) : marks n jsFirst ++ marks n jsLast = ((List.range 62).map fun j => decide (n = j)).map V.bl := by
  unfold marks
  rw [← List.map_append, show jsFirst ++ jsLast = List.range 62 from by decide, List.map_map]
  rfl
abbrev sLaw : Stmt := top 72
section
variable {P : Program} {w : World} {K : PySem.W.Frag} {mg : Str → Option Value} {base : Heap} {f fI : Addr} {fd : FuncData}
structure Tz (P : Program) (w : World) (K : PySem.W.Frag) (mg : Str → Option Value) (base : Heap) (fI : Addr) : Prop where
  er : Er P K mg fI
  f_law_pot : Callee P w K mg base CX0 1 "_law_pot" ["script", "place"] (spPot K)
  f_law_of : Callee P w K mg base CX0 2 "_law_of" ["pot", "some"] (spOf K)
  f_law_cells : Callee P w K mg base CX0 1 "_law_cells" ["script", "limit"] (spCells K)
  f_law_made : Callee P w K mg base CX0 3 "_law_made" ["value"] (spMade K)
  f_law_marks_first : Callee P w K mg base CX0 1 "_law_marks_first" ["caught"] (spMarks K jsFirst)
  f_law_marks_last : Callee P w K mg base CX0 1 "_law_marks_last" ["caught"] (spMarks K jsLast)
  ve : mg "ValueError" = none
def spLaw (K : PySem.W.Frag) : Sp := fun vs H Q _ => ∃ (a : Addr) (ns : List Int), vs = [.ref a] ∧ SqL K H a (ns.map V.int) ∧ ns.length ≤ 63 ∧ ∀ H', Q (.bl true) H'
theorem scLaw : FnScope ["script", "place", "pot", "lap", "some", "value", "kept", "found", "number", "error", "due", "at"] ["script"] (defScope sLaw) := ⟨rfl, rfl, rfl, by decide +kernel, rfl, by decide +kernel, by decide +kernel⟩
theorem ok_law (F : FnP K "law" sLaw f fd) (T : Tz P w K mg base fI) (B : Bi mg) : FnOkG P w K mg base CX0 5 f fd ["script"] (spLaw K) := by
  refine okG F scLaw (fun vs H Q E h => ?_) (fun cdv A outer s H vs Q E hr hG h => ?_)
  · obtain ⟨a, ns, rfl, _⟩ := h
    rfl
  · obtain ⟨a, ns, rfl, hS, hlen, k⟩ := h
    have nd := scLaw.nd
    refine ⟨_, PSs.nox (pss_cons (ps_for PassesOwn.never rfl (pi_list (pe_cal T.f_law_cells (hr.mono (by decide)) pass0 (pa_cons (pv 0) (pa_cons pe_int pa_nil)))) (pg_name (i := 1) nd rfl (Or.inl rfl))
      (pss_cons (ps_set (i := 2) nd rfl (Or.inl rfl) (by exact (pe_cal T.f_law_pot (hr.mono (by decide)) pass0 (pa_cons (pv 0) (pa_cons (pv 1) pa_nil)))))
      (pss_one (ps_for PassesOwn.never rfl (pi_range1 (by rfl) B.range (pa_cons pe_int pa_nil)) (pg_name (i := 3) nd rfl (Or.inl rfl))
      (pss_cons (ps_set (i := 4) nd rfl (Or.inl rfl) (by exact (pe_lst (pa_cons pe_non (pa_cons pe_int (pa_cons pe_str (pa_cons pe_str (pa_cons (pe_tup pa_nil) (pa_cons (pe_tup (pa_cons pe_int (pa_cons (pe_tup (pa_cons pe_str pa_nil)) pa_nil))) (pa_cons (pe_lst pa_nil) (pa_cons (pe_lst (pa_cons pe_int (pa_cons (pe_lst (pa_cons pe_int pa_nil)) pa_nil))) (pa_cons pe_dnewK (pa_cons (pe_disp (pps_cons pe_str pe_int pps_nil) (by rfl) (by rfl) (fun z => by cases z) (by decide)) (pa_cons pe_bl (pa_cons (pe_un un_neg (pe_op op_powW pe_int pe_int)) (pa_cons (pe_op op_repT (pe_tup (pa_cons pe_str pa_nil)) pe_int) pa_nil))))))))))))))))
      (pss_cons (ps_set (i := 5) nd rfl (Or.inl rfl) (by exact (pe_cal T.f_law_of (hr.mono (by decide)) pass0 (pa_cons (pv 2) (pa_cons (pv 4) pa_nil)))))
      (pss_cons (ps_par (i := 6) (j := 7) (by rfl) nd rfl rfl (by decide) rfl rfl (pa_cons (pe_callB (call_repr hG hr.units) (by rfl) B.repr (by decide +kernel) (pa_cons (pv 5) pa_nil)) (pa_cons (pe_cal T.f_law_made (hr.mono (by decide)) pass0 (pa_cons (pv 5) pa_nil)) pa_nil)) (by rfl))
      (pss_cons (ps_if (by exact (pt_cmpR op_ne (pe_callB call_len_seq (by rfl) B.len PySem.boot_len (pa_cons (pv 7) pa_nil)) pe_int (nomark _)))
      (pss_one (ps_ret (by exact pe_bl))) pss_nil)
      (pss_cons (ps_for PassesOwn.never rfl (pi_enum (by rfl) B.enumerate (pa_cons (pe_op op_cat (pv 7) (pe_lst (pa_cons (pe_fe T.er.fe (T.er.c 62 (by decide)) (hr.mono (by decide)) (T.er.g 62 (by decide)) (pv 5)) pa_nil))) pa_nil)) (pg_tup rfl (pgs_cons (pg_name (i := 8) nd rfl (Or.inr rfl)) (pgs_cons (pg_name (i := 9) nd rfl (Or.inl rfl)) pgs_nil)))
      (pss_cons (ps_setLc (i := 10) (own := [("at", 11)]) (g := gName 11) (tt := tYes) rfl nd rfl rfl (sw_true rfl rfl rfl (by decide +kernel)) (pi_range1 (by rfl) B.range (pa_cons pe_int pa_nil)) (blkOk_by (N := (["script", "place", "pot", "lap", "some", "value", "kept", "found", "number", "error", "due", "at"] : List Str)) (sc := defScope sLaw) (by decide +kernel)) (fun _ _ _ _ _ => pg_name (i := 11) nd rfl (Or.inl rfl)) (fun _ _ _ _ _ => pts_nil) (fun _ _ _ _ _ => (pe_cmpR op_eq (pv 11) (pv 8) (nomark _))))
      (pss_cons (ps_if (by exact (PW.pt (pw_or (pt_not (pt_val (pe_callB (call_feIs (D := cl K 62) (fI := fI)) (by rfl) B.isinstance (by decide +kernel) (pa_cons (pv 9) (pa_cons (pe_gref (by rfl) (T.er.g 62 (by decide))) pa_nil))))) (pw_or (pt_not (pt_val (pe_callB (call_feIs (D := cl K 62) (fI := fI)) (by rfl) B.isinstance (by decide +kernel) (pa_cons (pv 9) (pa_cons (pe_bltn (v := .ty "ValueError") (by rfl) T.ve (by decide +kernel) rfl) pa_nil))))) (pw_or1 (pt_cmpR op_ne (pe_callB (call_repr hG hr.units) (by rfl) B.repr (by decide +kernel) (pa_cons (pe_feV (D := cl K 62) (fI := fI) (pv 9)) pa_nil)) (pv 6) (nomark _)))))))
      (pss_one (ps_ret (by exact pe_bl))) pss_nil)
      (pss_one (ps_if (by exact (pt_cmpR (op_neD hr.units) (pe_op op_cat (pe_cal T.f_law_marks_first (hr.mono (by decide)) pass0 (pa_cons (pv 9) pa_nil)) (pe_cal T.f_law_marks_last (hr.mono (by decide)) pass0 (pa_cons (pv 9) pa_nil))) (pv 10) (nomark _)))
      (pss_one (ps_ret (by exact pe_bl))) pss_nil)))))
      (pss_one (ps_if (by exact (pt_cmpR op_ne (pe_callB (call_repr hG hr.units) (by rfl) B.repr (by decide +kernel) (pa_cons (pv 5) pa_nil)) (pv 6) (nomark _)))
      (pss_one (ps_ret (by exact pe_bl))) pss_nil)))))))))))
      (pss_one (ps_ret (by exact pe_bl)))), ?_⟩
    -- for place in _law_cells(script, 2)
    refine ⟨_, rfl, a, ns, rfl, hS, hlen, fun p n hp hn1 hn2 => ?_⟩
    have e0 : Ex H (upd H p (.lst (rgV 0 n))) := Ex.new hp
    refine ⟨p, rfl, ⟨_, SqL.of upd_same⟩, for_list (K := K) (a := p) (xs := rgV 0 n) (fun i σ H' => ∃ c2 c3 c4 c5 c6 c7 c8 c9 c10 c11, ∃ o1, σ = [some (.ref a), o1, c2, c3, c4, c5, c6, c7, c8, c9, c10, c11] ∧ Ex (upd H p (.lst (rgV 0 n))) H')
      ⟨none, none, none, none, none, none, none, none, none, none, none, rfl, Ex.refl _⟩ (fun i σ H' _ z => ?_) ?_ ?_⟩
    · obtain ⟨_, _, _, _, _, _, _, _, _, _, _, _, e⟩ := z
      exact SqL.of (e _ _ upd_same)
    · rintro i x σ H1 hx ⟨c2, c3, c4, c5, c6, c7, c8, c9, c10, c11, o1, rfl, e1⟩
      obtain ⟨pl, rfl, hpl⟩ : ∃ pl : Nat, x = .int pl ∧ pl < 2 := by
        unfold rgV at hx
        rw [List.getElem?_map] at hx
        cases hq : (List.range (n - 0).toNat)[i]? with
        | none =>
          rw [hq] at hx
          cases hx
        | some m =>
          rw [hq] at hx
          have e := (Option.some.inj hx).symm
          have hm := List.mem_range.mp (List.mem_of_getElem? hq)
          exact ⟨m, by rw [e]; simp, by omega⟩
      -- pot = _law_pot(script, place)
      refine st_seq ?_
      refine ⟨_, rfl, _, rfl, a, ns, pl, rfl, Evl.ex_l (e0.trans e1) hS, by omega, by omega, fun q own b H2 hq g1 g2 g3 g4 e2 => ?_⟩
      -- for lap in range(3)
      refine ⟨3, rfl, by decide, by decide, for_range (lo := 0) (n := 3) (fun i σ H' => ∃ c3 c4 c5 c6 c7 c8 c9 c10 c11 o1, ∃ (ow cc : Int), σ = [some (.ref a), o1, some (.ref q), c3, c4, c5, c6, c7, c8, c9, c10, c11] ∧ H' q = some (.lst [.int ow, .int b, .int cc]) ∧ 0 ≤ ow ∧ 0 ≤ cc ∧ cc ≤ i ∧ Ex H1 H')
        ⟨_, _, _, _, _, _, _, _, _, _, own, 0, rfl, g4, g1, by decide, by decide, e2⟩ ?_ ?_⟩
      · rintro lap σ H3 hlap ⟨c3, c4, c5, c6, c7, c8, c9, c10, c11, o1, ow, cc, rfl, hq3, ow0, cc0, cc1, e3⟩
        refine st_seq (st_setH (PV := fun v G => ∃ (r : Addr) (xs : List V), v = .ref r ∧ G r = some (.lst xs) ∧ xs.length = 13 ∧ Ex H3 G ∧ H3 r = none ∧ ∀ x ∈ xs, ∃ d, Sh K (delH G q) x d) (fun Q' q' => ?_) fun v G hv => ?_)
        · refine ⟨by decide, fun t0 m0 => ⟨by decide, fun t1 m1 => ⟨(by show 2 ≤ sizeLine; decide), fun t2 m2 => ⟨by decide, fun l0 m3 => ⟨by decide, fun l1 m4 => ⟨(by show 2 ≤ sizeLine; decide), fun l2 m5 => ?_⟩⟩⟩⟩⟩⟩
          intro d0 m6 d1 m7
          refine ⟨upd_same, [(Sum.inr "a", .int 1)], rfl, by decide, ?_⟩
          refine ⟨_, _, rfl, rfl, ⟨by decide, by decide +kernel⟩, _, rfl, by decide, fun t3 m8 => ⟨t3, 3, _, rfl, rfl, SqT.of upd_same, (fun z => by cases z), by decide, by decide, by decide, fun t4 m9 => ⟨(by show 13 ≤ sizeLine; decide), fun r m10 => ?_⟩⟩⟩
          have X0 := Ex.new (o := .tup []) m0
          have X1 := Ex.new (o := .tup [.str "a"]) m1
          have X2 := Ex.new (o := .tup [.int 1, .ref t1]) m2
          have X3 := Ex.new (o := .lst []) m3
          have X4 := Ex.new (o := .lst [.int 2]) m4
          have X5 := Ex.new (o := .lst [.int 1, .ref l1]) m5
          have X6 := Ex.new (o := .dK []) m6
          have X7 := Ex.mut (o := .dK [(Sum.inr "a", .int 1)]) (Ex.new (o := .dK []) m7) m7
          have X8 := Ex.new (o := .tup [.str "ab"]) m8
          have X9 := Ex.new (o := .tup [.str "ab", .str "ab", .str "ab"]) m9
          have X10 := Ex.new (o := .lst [.non, .int 0, .str "", .str "a b", .ref t0, .ref t2, .ref l0, .ref l2, .ref d0, .ref d1, .bl true, .int (-10 ^ 17), .ref t4]) m10
          have Y9 := X9.trans X10
          have Y8 := X8.trans Y9
          have Y7 := X7.trans Y8
          have Y6 := X6.trans Y7
          have Y5 := X5.trans Y6
          have Y4 := X4.trans Y5
          have Y3 := X3.trans Y4
          have Y2 := X2.trans Y3
          have Y1 := X1.trans Y2
          have Z0 := X0
          have Z1 := Z0.trans X1
          have Z2 := Z1.trans X2
          have Z3 := Z2.trans X3
          have Z4 := Z3.trans X4
          have Z5 := Z4.trans X5
          have Z6 := Z5.trans X6
          have Z7 := Z6.trans X7
          have Z8 := Z7.trans X8
          have Z9 := Z8.trans X9
          have hqq := hq3
          have b0 := (delH_ne (ne_of_none hqq m0).symm).trans (Y1 _ _ upd_same)
          have b1 := (delH_ne (ne_of_none (Z0 _ _ hqq) m1).symm).trans (Y2 _ _ upd_same)
          have b2 := (delH_ne (ne_of_none (Z1 _ _ hqq) m2).symm).trans (Y3 _ _ upd_same)
          have b3 := (delH_ne (ne_of_none (Z2 _ _ hqq) m3).symm).trans (Y4 _ _ upd_same)
          have b4 := (delH_ne (ne_of_none (Z3 _ _ hqq) m4).symm).trans (Y5 _ _ upd_same)
          have b5 := (delH_ne (ne_of_none (Z4 _ _ hqq) m5).symm).trans (Y6 _ _ upd_same)
          have b6 := (delH_ne (ne_of_none (Z5 _ _ hqq) m6).symm).trans (Y7 _ _ upd_same)
          have b7 := (delH_ne (ne_of_none (Z6 _ _ hqq) m7).symm).trans (Y8 _ _ upd_same)
          have b9 := (delH_ne (ne_of_none (Z8 _ _ hqq) m9).symm).trans (X10 _ _ upd_same)
          refine q' _ _ ⟨r, _, rfl, upd_same, rfl, Z9.trans X10, Evl.fresh_back Z9 m10, ?_⟩
          intro x hx
          have sz : ∀ n, n ≤ 1000 → n ≤ sizeLine := fun n h => Nat.le_trans h (by decide)
          rcases List.mem_cons.mp hx with rfl | hx
          · exact ⟨.none, rfl, sz _ (by decide), by decide, .inl ⟨.non, rfl⟩⟩
          rcases List.mem_cons.mp hx with rfl | hx
          · exact ⟨.int 0, rfl, sz _ (by decide), by decide, .inl ⟨.int 0, rfl⟩⟩
          rcases List.mem_cons.mp hx with rfl | hx
          · exact ⟨.str "", rfl, sz _ (by decide), by decide, .inl ⟨.str _, rfl⟩⟩
          rcases List.mem_cons.mp hx with rfl | hx
          · exact ⟨.str "a b", rfl, sz _ (by decide +kernel), by decide, .inl ⟨.str _, rfl⟩⟩
          rcases List.mem_cons.mp hx with rfl | hx
          · exact ⟨.tuple [], rfl, sz _ (by decide +kernel), by decide, .inl ⟨.tup (SqT.of b0) .nil, rfl⟩⟩
          rcases List.mem_cons.mp hx with rfl | hx
          · exact ⟨.tuple [.int 1, .tuple [.str "a"]], rfl, sz _ (by decide +kernel), by decide, .inl ⟨.tup (SqT.of b2) (.cons (.int 1) (.cons (.tup (SqT.of b1) (.cons (.str _) .nil)) .nil)), rfl⟩⟩
          rcases List.mem_cons.mp hx with rfl | hx
          · exact ⟨.list [], rfl, sz _ (by decide +kernel), by decide, .inl ⟨.lst (SqL.of b3) .nil, rfl⟩⟩
          rcases List.mem_cons.mp hx with rfl | hx
          · exact ⟨.list [.int 1, .list [.int 2]], rfl, sz _ (by decide +kernel), by decide, .inl ⟨.lst (SqL.of b5) (.cons (.int 1) (.cons (.lst (SqL.of b4) (.cons (.int 2) .nil)) .nil)), rfl⟩⟩
          rcases List.mem_cons.mp hx with rfl | hx
          · exact ⟨.dict [], rfl, sz _ (by decide +kernel), by decide, .inr ⟨d0, [], [], rfl, b6, rfl, rfl⟩⟩
          rcases List.mem_cons.mp hx with rfl | hx
          · exact ⟨.dict [(.str "a", .int 1)], rfl, sz _ (by decide +kernel), by decide, .inr ⟨d1, _, _, rfl, b7, rfl, rfl⟩⟩
          rcases List.mem_cons.mp hx with rfl | hx
          · exact ⟨.bool true, rfl, sz _ (by decide +kernel), by decide, .inl ⟨.bl true, rfl⟩⟩
          rcases List.mem_cons.mp hx with rfl | hx
          · exact ⟨.int (-10 ^ 17), by decide +kernel, sz _ (by decide +kernel), by decide, .inl ⟨.int _, rfl⟩⟩
          rcases List.mem_cons.mp hx with rfl | hx
          · exact ⟨.tuple [.str "ab", .str "ab", .str "ab"], rfl, sz _ (by decide +kernel), by decide, .inl ⟨.tup (SqT.of b9) (.cons (.str _) (.cons (.str _) (.cons (.str _) .nil))), rfl⟩⟩
          cases hx
        obtain ⟨r, xs, rfl, hr, hlen13, x4, hr0, hsh⟩ := hv
        -- value = _law_of(pot, some)
        refine st_seq ?_
        have nqr : q ≠ r := ne_of_none hq3 hr0
        refine ⟨_, rfl, _, rfl, q, r, ow, b, cc, xs, rfl, x4 _ _ hq3, nqr, SqL.of hr, ow0, g2, g3, cc0, by omega, by rw [hlen13]; decide, by rw [hlen13]; decide, fun x own' c' H5 hx o0 c0 c1 hq5 sb => ?_⟩
        obtain ⟨d, hd⟩ := hsh x hx
        have hd5 := hd.ex (ex_del sb)
        -- kept, found
        obtain ⟨y1, y2, y3, y4⟩ := hd5
        refine ⟨_, rfl, x, d, rfl, y1, y2, y3, y4, _, rfl, x, rfl, fun l as H6 hl hl6 es e6 => ⟨_, _, rfl, ?_⟩⟩
        have hlen : as.length = 62 := by
          have z := paired_len es
          rw [List.length_map, List.length_range] at z
          exact z.symm
        have hd6 := (show Sh K H5 x d from ⟨y1, y2, y3, y4⟩).ex e6
        -- len(found)
        refine ⟨_, rfl, l, _, rfl, .inl (SqL.of hl6), rfl, _, rfl, q_else (by rw [List.length_map, hlen]; rfl) ?_⟩
        -- enumerate(found + [FairError(value)])
        refine ⟨_, rfl, _, rfl, fun ea ed m1 m2 m3 => ⟨(by show 1 ≤ sizeLine; decide), fun lb m4 => ⟨l, lb, as.map V.ref, [V.ref ea], rfl, rfl, ?_, upd_same, ?_, fun en m5 => ⟨en, as.map V.ref ++ [V.ref ea], rfl, SqL.of upd_same, ?_⟩⟩⟩⟩
        · exact (Ex.new m4) _ _ (exo_new m1 m2 m3 _ _ hl6)
        · rw [List.length_map, hlen]
          show 62 + 1 ≤ sizeLine
          decide
        have eA := exo_new (C := cl K 62) (v := x) m1 m2 m3
        have eB := Ex.new (o := .lst [V.ref ea]) m4
        have eC := Ex.new (o := .lst (as.map V.ref ++ [V.ref ea])) m5
        have e7 := eA.trans (eB.trans eC)
        have hea : ErrAt (feH H6 (cl K 62) ea ed x) x (cl K 62) ea := ⟨ed, by unfold feH; rw [upd_same], by unfold feH; rw [upd_ne m3, upd_same]⟩
        have es7 := paired_app (paired_imp (fun c a z => ErrAt.ex e7 z) es) (Paired.cons (ErrAt.ex (eB.trans eC) hea) .nil)
        have hcl : (List.range 62).map (cl K) ++ [cl K 62] = (List.range 63).map (cl K) := by
          rw [List.range_succ, List.map_append]
          rfl
        rw [hcl] at es7
        have hxs : as.map V.ref ++ [V.ref ea] = (as ++ [ea]).map V.ref := by
          rw [List.map_append]
          rfl
        rw [hxs] at eC e7 es7 ⊢
        have hen : (upd (upd (feH H6 (cl K 62) ea ed x) lb (.lst [V.ref ea])) en (.lst ((as ++ [ea]).map V.ref))) en = some (.lst ((as ++ [ea]).map V.ref)) := upd_same
        generalize upd (upd (feH H6 (cl K 62) ea ed x) lb (.lst [V.ref ea])) en (.lst ((as ++ [ea]).map V.ref)) = H7 at e7 es7 hen ⊢
        refine for_enum (K := K) (a := en) (xs := (as ++ [ea]).map V.ref) (i := 8) (j := 9) (fun i σ H' => ∃ c8 c9 c10 c11, σ = [some (.ref a), o1, some (.ref q), some (.int (0 + (lap : Nat))), some (.ref r), some x, some (.str d.shown), some (.ref l), c8, c9, c10, c11] ∧ Ex H7 H')
          ⟨_, _, _, _, rfl, Ex.refl _⟩ (fun i σ H' _ z => ?_) ?_ ?_ _ (fun n x σ H Q k => ⟨_, _, rfl, _, _, rfl, rfl, k⟩)
        · obtain ⟨_, _, _, _, _, e⟩ := z
          exact SqL.of (e _ _ hen)
        · rintro i y σ H8 tt hy ⟨c8, c9, c10, c11, rfl, e8⟩ htt
          rw [List.getElem?_map] at hy
          cases hae : (as ++ [ea])[i]? with
          | none =>
            rw [hae] at hy
            cases hy
          | some ae =>
            rw [hae] at hy
            obtain rfl : V.ref ae = y := Option.some.inj hy
            obtain ⟨c, hc, her⟩ := paired_get es7 hae
            have hi : i < 63 := by
              have z := (List.getElem?_eq_some_iff.mp hc).1
              rwa [List.length_map, List.length_range] at z
            obtain rfl : cl K i = c := by
              rw [List.getElem?_map, List.getElem?_range hi] at hc
              exact Option.some.inj hc
            have her8 := her.ex e8
            have eT := Ex.new (o := .tup [.int (i : Nat), .ref ae]) htt
            have her9 := her8.ex eT
            have hd9 := ((hd6.ex e7).ex e8).ex eT
            have e79 := e8.trans eT
            generalize upd H8 tt (.tup [.int (i : Nat), .ref ae]) = H9 at her9 hd9 e79 ⊢
            -- due
            refine ⟨62, rfl, by decide, by decide, fun D hD => lc_range (lo := 0) (n := 62) (fun m Hc => Hc D = some (.lst (dueOf i m)) ∧ Ex H9 Hc) ⟨upd_same, Ex.new hD⟩ ?_ ?_⟩
            · rintro m Hc hm ⟨hDc, ec⟩
              refine ⟨rfl, ⟨_, rfl, _, rfl, rfl, dueOf i m, hDc, ?_, ?_, ?_⟩⟩
              · unfold dueOf
                rw [List.length_map, List.length_range]
                exact Nat.lt_of_lt_of_le hm (by decide)
              · rw [due_succ]
                exact upd_same
              · exact Ex.mut ec hD
            · rintro Hc ⟨hDc, ec⟩
              have herc := her9.ex ec
              have hdc := hd9.ex ec
              obtain ⟨dv, k1, k2⟩ := herc
              refine ⟨_, rfl, ae, cl K i, dv, _, .ref (cl K 62), true, rfl, T.er.fe, T.er.c i hi, k1, fun u r => r, T.er.isF i hi, ⟨_, k2⟩, _, rfl, ?_⟩
              refine ⟨_, rfl, ae, cl K i, dv, _, .type "ValueError", true, rfl, T.er.fe, T.er.c i hi, k1, fun u r => r, T.er.isV i hi, ⟨_, k2⟩, _, rfl, ?_⟩
              refine ⟨_, rfl, ae, cl K i, dv, x, rfl, T.er.c i hi, k1, k2, x, d, rfl, hdc.1, hdc.2.1, hdc.2.2.1, hdc.2.2.2, _, rfl, rfl, _, rfl, q_else (by simp) ?_⟩
              refine ⟨_, rfl, ae, i, x, rfl, hi, ⟨dv, k1, k2⟩, fun l1 G1 n1 hl1 x1 => ⟨_, rfl, ae, i, x, rfl, hi, ⟨dv, x1 _ _ k1, x1 _ _ k2⟩, fun l2 G2 n2 hl2 x2 => ⟨l1, l2, marks i jsFirst, marks i jsLast, rfl, rfl, x2 _ _ hl1, hl2, ?_, fun l3 n3 => ⟨_, rfl, ?_⟩⟩⟩⟩
              · unfold marks
                rw [List.length_map, List.length_map]
                decide
              have x3 := Ex.new (o := .lst (marks i jsFirst ++ marks i jsLast)) n3
              refine ⟨_, _, .lst (SqL.of (upd_same.trans (congrArg (fun z => some (HO.lst z)) (marks_bools i)))) (dps_bools _), .lst (SqL.of ((x3 _ _ (x2 _ _ (x1 _ _ hDc))).trans (congrArg (fun z => some (HO.lst z)) (due_bools i)))) (dps_bools _), bools_shaped _, bools_shaped _, _, rfl, q_else (neB _) ?_⟩
              exact ⟨_, _, _, _, rfl, e79.trans (ec.trans (x1.trans (x2.trans x3)))⟩
        · rintro σ H8 ⟨c8, c9, c10, c11, rfl, e8⟩
          have hd8 := (hd6.ex e7).ex e8
          refine ⟨_, rfl, x, d, rfl, hd8.1, hd8.2.1, hd8.2.2.1, hd8.2.2.2, _, rfl, rfl, _, rfl, q_else (by simp) ?_⟩
          exact ⟨_, _, _, _, _, _, _, _, _, _, _, _, rfl, e8 _ _ (e7 _ _ (e6 _ _ hq5)), o0, c0, by omega, fun u o hu => e8 _ _ (e7 _ _ (e6 _ _ (sb u o (ne_of_none hu hq) (x4 _ _ (e3 _ _ hu)))))⟩
      · rintro σ H3 ⟨c3, c4, c5, c6, c7, c8, c9, c10, c11, o1, ow, cc, rfl, hq3, ow0, cc0, cc1, e3⟩
        exact ⟨_, _, _, _, _, _, _, _, _, _, _, rfl, e1.trans e3⟩
    · rintro σ H1 ⟨c2, c3, c4, c5, c6, c7, c8, c9, c10, c11, o1, rfl, e1⟩
      exact k H1
end
end K94
end
section
set_option Elab.async false
set_option linter.all false
set_option maxRecDepth 100000
set_option maxHeartbeats 0
namespace K94
open PySem PySem.Spec PyProof.Rows L2 Fe
open He (ga ma eqO eqO_ok ba)
abbrev sInit : Stmt := inClass (top 1) 0
def dd (x : Str) (st : Stmt) : He.DefD := ⟨(x, none), x, x, defArgs st, defBody st, defScope st, [], []⟩
def fn : List He.DefD := [dd "_law_pot" sPot, dd "_law_take" sTake, dd "_law_of" sOf, dd "_law_cells" sCells, dd "_law_made" sMade, dd "_law_marks_first" sFirst, dd "_law_marks_last" sLast, dd "law" sLaw]
def fa : List He.Fa := (["_law_pot", "_law_take", "_law_of", "_law_cells", "_law_made", "_law_marks_first", "_law_marks_last", "law"] : List Str).map He.Fa.glo ++ ((["super", "ValueError"] : List Str) ++ biNames).map He.Fa.free
abbrev R : PySem.W.OpenRow := PySem.W.OpenLaw.row PySem.Challenge.rw_nobodyrather_k94_every_error_by_itself
abbrev qI : Str := "FairError.__init__"
def ndB : List Nat → Bool
  | [] => true
  | a :: r => (r.all fun b => !Nat.beq a b) && ndB r
def nmsF : List Str := nms ++ (["FairError"] : List Str)
abbrev vt : List Value := HandSPX.veTail
def exD (K : PySem.W.Frag) (D fI : Addr) : Bool := feDB R.prog.main.file K qI D fI && (feCB K D fI D vt && ((nms.all fun x => feCB K D fI (ga K x) (.ref D :: vt)) && ((nmsF.all fun x => eqO (PySem.W.nsIn K mainGlobals x) (some (some (.ref (ga K x))))) && ndB (nmsF.map (ga K)))))
def ex (K : PySem.W.Frag) : Bool := exD K (ga K "FairError") (ma K (ga K "FairError") "__init__")
abbrev hk : PySem.W.Hook := hookI 4 fa fn "FairError" qI sInit ex
def ob (s : PySem.W.SharedT) : AlI := obsI 4 fa fn "FairError" ex (HandSHeadRun.getT s)
theorem ob_eq (s : PySem.W.SharedT) : ob s = hk.obs s.abs := obsI_eq (HandSHeadRun.getT_eq s)
def loose0 : List Str := ["FairError", "BadCosts", "BadFair", "BadGuests", "BadInn", "BadList", "BadNames", "BadNumber", "BadNumbers", "BadPairing", "BadPlace", "BadRooming", "BadSide", "NoFair", "NoGuest", "NoInn", "NoMaster", "NoName"]
def loose1 : List Str := ["NoPrentice", "NotBlock", "NotListed", "NotSingle", "NotStable", "TooMany", "TooManyGuests", "BadLists", "TooManyOthers", "BadDeed", "BadLetters", "BadPledge", "Known", "Late", "NotSo", "Unlike", "BadTies", "NoTies"]
def loose2 : List Str := ["BadKind", "NoStable", "BadRow", "BadMarket", "NoMarket", "BadShares", "NotCore", "BadPrices", "BadAllotment", "BadStreet", "NoPerson", "NoStreet", "NotOwned", "Owned", "BadLine", "BadJournal", "NothingToUndo", "NothingToRedo"]
def loose3 : List Str := ["NoTrial", "BadWord", "BadGuild", "BadKeeping", "BadLot", "NoGuild", "NotFit", "NotQuiet", "NotSteady", "_law_pot", "_law_take", "_law_of", "_law_cells", "_law_made", "_law_marks_first", "_law_marks_last"]
def loose : List Str := loose0 ++ loose1 ++ loose2 ++ loose3
end K94
end
section
set_option Elab.async false
set_option linter.all false
set_option maxRecDepth 100000
set_option maxHeartbeats 0
namespace K94
open PySem PySem.Spec PyProof.Rows L2 Fe
theorem run (w : World) : HandSHeadRun.RunEq R (PySem.W.view R.prog [72]) hk ob 20000 loose w := by
  intro os
  kernel_rfl
end K94
end
section
set_option Elab.async false
set_option linter.all false
set_option maxRecDepth 100000
set_option maxHeartbeats 4000000
namespace K94
open PySem PySem.Spec PyProof.Rows L2 Fe
open He (ga ma eqO eqO_ok ba)
theorem ndB_at : ∀ {l : List Nat}, ndB l = true → ∀ {i j : Nat} {a : Nat}, l[i]? = some a → l[j]? = some a → i = j
  | [], _, i, j, a, h, _ => by cases h
  | b :: r, hn, i, j, a, h1, h2 => by
    obtain ⟨n1, n2⟩ := ba (show ((r.all fun c => !Nat.beq b c) && ndB r) = true from hn)
    have out : ∀ {k : Nat}, r[k]? = some b → False := fun {k} e => by
      have z := List.all_eq_true.mp n1 b (List.mem_of_getElem? e)
      rw [Nat.beq_refl] at z
      cases z
    cases i with
    | zero =>
      cases j with
      | zero => rfl
      | succ j =>
        have e : b = a := by simpa using h1
        subst e
        exact (out (k := j) (by simpa using h2)).elim
    | succ i =>
      cases j with
      | zero =>
        have e : b = a := by simpa using h2
        subst e
        exact (out (k := i) (by simpa using h1)).elim
      | succ j => exact congrArg Nat.succ (ndB_at n2 (i := i) (j := j) (a := a) (by simpa using h1) (by simpa using h2))
theorem nm_at : ∀ i, i < 63 → nmsF[i]? = some (nm i) := by decide +kernel
theorem nm_in : ∀ i, i < 62 → nms[i]? = some (nm i) := by decide +kernel
theorem body_init : defBody sInit = iB 5 ⟨5, 8, 5, 13⟩ ⟨5, 8, 5, 15⟩ (8, 24) ⟨5, 25, 5, 30⟩ (8, 31) ⟨5, 8, 5, 31⟩ ⟨6, 8, 6, 12⟩ ⟨6, 8, 6, 18⟩ ⟨6, 21, 6, 26⟩ ⟨6, 8, 6, 26⟩ := rfl
theorem args_init : defArgs sInit = iA ⟨4, 17, 4, 21⟩ ⟨4, 23, 4, 28⟩ := rfl
theorem er_of {K : PySem.W.Frag} {mg : Str → Option Value} (G : ∀ x ∈ nmsF, mg x = some (.ref (ga K x))) (sup : mg "super" = none) (i : fnI K (ma K (ga K "FairError") "__init__") = valI qI sInit) (h : ex K = true) : Er R.prog K mg (ma K (ga K "FairError") "__init__") := by
  obtain ⟨z1, h⟩ := ba (show exD K (ga K "FairError") (ma K (ga K "FairError") "__init__") = true from h)
  obtain ⟨z2, h⟩ := ba h
  obtain ⟨z3, h⟩ := ba h
  obtain ⟨z4, z5⟩ := ba h
  have e62 : cl K 62 = ga K "FairError" := rfl
  have cD : clsB K (ga K "FairError") vt = true := (ba z2).1
  have cI : ∀ j, j < 62 → feCB K (ga K "FairError") (ma K (ga K "FairError") "__init__") (cl K j) (.ref (ga K "FairError") :: vt) = true := fun j hj => List.all_eq_true.mp z3 (nm j) (List.mem_of_getElem? (nm_in j hj))
  have dif : ∀ i j, i < 63 → j < 63 → cl K i = cl K j → i = j := fun i j hi hj e => by
    refine ndB_at z5 (a := cl K i) ?_ ?_
    · rw [List.getElem?_map, nm_at i hi]
      rfl
    · rw [List.getElem?_map, nm_at j hj, e]
      rfl
  refine ⟨?_, fun i hi => G _ (List.mem_of_getElem? (nm_at i hi)), fun i hi => ?_, fun i j hi hj => ?_, fun i hi => ?_, fun i hi => ?_⟩
  · exact feD_of args_init body_init rfl i z1 (clsIn_of cD).1 sup (by kernel_rfl)
  · by_cases q : i = 62
    · subst q
      exact feC_of z2 (by decide) (by simp) (by simp)
    · exact feC_of (cI i (by omega)) (show HandSPX.refsVE vt = true by decide) (by simp [e62]) (by simp)
  · by_cases q : i = 62
    · subst q
      rw [e62, kit_cl cD (ba (cI j hj)).1]
      refine congrArg some ?_
      have n : ¬ cl K j = ga K "FairError" := fun e => absurd (dif j 62 (by omega) (by decide) e) (by omega)
      rw [decide_eq_false (by omega)]
      simp [vt, n]
    · rw [kit_cl (ba (cI i (by omega))).1 (ba (cI j hj)).1]
      refine congrArg some ?_
      have n : ¬ cl K j = ga K "FairError" := fun e => absurd (dif j 62 (by omega) (by decide) e) (by omega)
      by_cases q2 : i = j
      · subst q2
        simp
      · have n2 : ¬ cl K j = cl K i := fun e => q2 (dif j i (by omega) (by omega) e).symm
        rw [decide_eq_false q2]
        simp [vt, n, n2]
  · by_cases q : i = 62
    · subst q
      rw [e62, kit_cl cD cD]
      simp
    · rw [e62, kit_cl (ba (cI i (by omega))).1 cD]
      simp [e62]
  · by_cases q : i = 62
    · subst q
      exact kit_ve cD (by simp)
    · exact kit_ve (ba (cI i (by omega))).1 (by simp)
theorem bi_of {mg : Str → Option Value} (h : ∀ x ∈ biNames, mg x = none) : Bi mg := by
  constructor <;> exact h _ (by decide +kernel)
theorem facts {w : World} {K : PySem.W.Frag} {h : Heap} {mg : Str → Option Value} {f : Addr} (X : K.In h) (G : h.Ns mainGlobals mg) (hfa : mg ("law" : Str) = some (.ref f)) (c : SaysI fa fn "FairError" qI sInit ex K) :
    ∃ fd : FuncData, (∀ (s : Shared) (v : Value), BindsTo s fd ⟨[v], []⟩ [("script", v)]) ∧ ∀ base : Heap, FnOkG R.prog w K mg base CX0 5 f fd ["script"] (spLaw K) := by
  have fr : ∀ x ∈ (["super", "ValueError"] : List Str) ++ biNames, mg x = none := fun x hx => He.free_ok X G (c.d.facts (f := .free x) (List.mem_append_right _ (List.mem_map_of_mem hx)))
  have gl : ∀ x ∈ (["_law_pot", "_law_take", "_law_of", "_law_cells", "_law_made", "_law_marks_first", "_law_marks_last", "law"] : List Str), mg x = some (.ref (ga K x)) := fun x hx => He.glo_ok X G (c.d.facts (f := .glo x) (List.mem_append_left _ (List.mem_map_of_mem hx)))
  have B : Bi mg := bi_of fun x hx => fr x (List.mem_append_right _ hx)
  have er := er_of (K := K) (mg := mg) (fun x hx => PySem.W.mg_of X G (eqO_ok (List.all_eq_true.mp (ba (ba (ba (ba (show exD K (ga K "FairError") (ma K (ga K "FairError") "__init__") = true from c.more)).2).2).2).1 x hx))) (fr _ (by simp)) c.i c.more
  obtain ⟨fdPot, FPot⟩ := c.d.def_ 0 (d := dd "_law_pot" sPot) rfl
  obtain ⟨fdTake, FTake⟩ := c.d.def_ 1 (d := dd "_law_take" sTake) rfl
  obtain ⟨fdOf, FOf⟩ := c.d.def_ 2 (d := dd "_law_of" sOf) rfl
  obtain ⟨fdCells, FCells⟩ := c.d.def_ 3 (d := dd "_law_cells" sCells) rfl
  obtain ⟨fdMade, FMade⟩ := c.d.def_ 4 (d := dd "_law_made" sMade) rfl
  obtain ⟨fdFirst, FFirst⟩ := c.d.def_ 5 (d := dd "_law_marks_first" sFirst) rfl
  obtain ⟨fdLast, FLast⟩ := c.d.def_ 6 (d := dd "_law_marks_last" sLast) rfl
  obtain ⟨fd, F⟩ := c.d.def_ 7 (d := dd "law" sLaw) rfl
  have e := hfa.symm.trans (gl "law" (by simp))
  cases e
  have b := FunD.bindsA (ps := ["script"]) F fun _ _ _ _ _ _ us hl => match us, hl with | [_], _ => rfl
  refine ⟨fd, fun s v => b s [v] rfl, fun base => ?_⟩
  have b1 : ∀ {x : Str} {st : Stmt} {p : Str} {fd : FuncData} {f : Addr}, True := trivial
  have cTake : Callee R.prog w K mg base CX0 1 "_law_take" ["pot", "upto"] spTake := callee_of FTake (gl _ (by simp)) (ok_take FTake B) fun _ _ _ _ _ _ us hl => match us, hl with | [_, _], _ => rfl
  have cPot : Callee R.prog w K mg base CX0 1 "_law_pot" ["script", "place"] (spPot K) := callee_of FPot (gl _ (by simp)) (ok_pot FPot B) fun _ _ _ _ _ _ us hl => match us, hl with | [_, _], _ => rfl
  have cOf : Callee R.prog w K mg base CX0 2 "_law_of" ["pot", "some"] (spOf K) := callee_of FOf (gl _ (by simp)) (ok_of FOf B ⟨cTake⟩) fun _ _ _ _ _ _ us hl => match us, hl with | [_, _], _ => rfl
  have cCells : Callee R.prog w K mg base CX0 1 "_law_cells" ["script", "limit"] (spCells K) := callee_of FCells (gl _ (by simp)) (ok_cells FCells B) fun _ _ _ _ _ _ us hl => match us, hl with | [_, _], _ => rfl
  have cMade : Callee R.prog w K mg base CX0 3 "_law_made" ["value"] (spMade K) := callee_of FMade (gl _ (by simp)) (ok_made FMade ⟨er⟩) fun _ _ _ _ _ _ us hl => match us, hl with | [_], _ => rfl
  have cFirst : Callee R.prog w K mg base CX0 1 "_law_marks_first" ["caught"] (spMarks K jsFirst) := callee_of FFirst (gl _ (by simp)) (ok_first FFirst ⟨er⟩ B) fun _ _ _ _ _ _ us hl => match us, hl with | [_], _ => rfl
  have cLast : Callee R.prog w K mg base CX0 1 "_law_marks_last" ["caught"] (spMarks K jsLast) := callee_of FLast (gl _ (by simp)) (ok_last FLast ⟨er⟩ B) fun _ _ _ _ _ _ us hl => match us, hl with | [_], _ => rfl
  exact ok_law F ⟨er, cPot, cOf, cCells, cMade, cFirst, cLast, fr _ (by simp)⟩ B
end K94
end
section
set_option Elab.async false
set_option linter.all false
set_option maxRecDepth 100000
set_option maxHeartbeats 0
open PySem PySem.W PySem.Calls PyProof.Rows
theorem PySem.Challenge.cw_nobodyrather_k94_every_error_by_itself_holds : PySem.Challenge.rw_nobodyrather_k94_every_error_by_itself.Holds := by
  w_on; o_law
  refine HandSHeadRun.head_any (r := OpenLaw.row PySem.Challenge.rw_nobodyrather_k94_every_error_by_itself) (q := view (OpenLaw.row PySem.Challenge.rw_nobodyrather_k94_every_error_by_itself).prog [72]) (H := K94.hk) (ob := K94.ob) (M := 20000) (loose := K94.loose) (d := HandSHeadRun.topDef (OpenLaw.row PySem.Challenge.rw_nobodyrather_k94_every_error_by_itself).prog 72) (kwd := []) K94.ob_eq
    (by kernel_rfl) (fun s => by kernel_rfl) K94.run (by kernel_rfl) (by kernel_rfl) (by kernel_rfl) (by rfl) (by first | assumption | decide +kernel) (by decide +kernel) ⟨rfl, rfl, rfl, rfl, rfl, by decide +kernel⟩ ?hw ?hc
  case hw => w_witness2
  case hc =>
    refine Fe.walk_G (l := PySem.Challenge.rw_nobodyrather_k94_every_error_by_itself) (n := 63) (k := 5) (x := "script") (CX := L2.CX0) rfl (by decide) (by kernel_rfl) ⟨rfl, by decide, by decide⟩ ?F (fun _ _ _ _ z => z)
    intro w mg fa h Y G hmg0
    obtain ⟨K, KX, c⟩ := Y
    have hmg : mg ("law" : PySem.Str) = some (.ref fa) := by
      have e : (HandSHeadRun.topDef (OpenLaw.row PySem.Challenge.rw_nobodyrather_k94_every_error_by_itself).prog 72).name = ("law" : PySem.Str) := by kernel_rfl
      rw [← e]
      exact hmg0
    obtain ⟨fd, hb, hF⟩ := K94.facts (w := w) KX G hmg c
    exact ⟨K, fd, K94.spLaw K, KX, hb, fun H a ns hl _ hS => ⟨a, ns, rfl, hS, hl, fun _ => rfl⟩, fun base _ _ => hF base⟩
end
