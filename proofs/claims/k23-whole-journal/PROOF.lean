import PyProof.Rows.All
import Wide.All
import OpenK.AllK
import Wide.FinOn
import HandS.ForMost
import HandS.ForExc
import HandS.Defaults
import HandS.FStr
import HandS.IsInst
import HandS.ExcIs
import KE.KExcSuper
import KE.KExcIs
import HandS.Walk
import HandS.Codes
import PySem.Challenge.RW_clearfloor_k23_whole_journal_through_pow
set_option Elab.async false
set_option linter.all false
set_option maxRecDepth 100000
set_option maxHeartbeats 8000000
/-! # An own exception over ValueError (through a further own class) whose __init__ says super().__init__(arg) and then stores one field -/
namespace JX
open PySem PySem.W PySem.Calls PyProof.Rows PySem.HandSPX
/-- the two statements of such an __init__ -/
def supBody (a : Expr) (f : Str) (p0 p1 p2 p3 p4 p5 p6 p7 p8 : Pos) : List Stmt :=
  [.Expr (.Call (.Attribute (.Call (.Name "super" p0) [] [] p1) "__init__" p2) [a] [] p3) p4,
   .Assign [.Attribute (.Name "self" p5) f p6] (.Name f p7) p8]
/-- its scope -/
abbrev supScope (f : Str) (mo : List (Str × Const)) : Scope :=
  { kind := .function, names := [(PySem.Str.ofString "self", .local), (f, .local), (PySem.Str.ofString "__class__", .free), (PySem.Str.ofString "super", .globalImplicit)], isGenerator := false, isCoroutine := false, more := mo }
/-- what its scope and its parameters are -/
structure SupScope (sc : Scope) (ps : Arguments) (f : Str) : Prop where
  sup : sc.names.lookup ("super" : Str) = some .globalImplicit
  clsv : sc.names.lookup ("__class__" : Str) = some .free
  self : sc.names.lookup ("self" : Str) = some .local
  fld : sc.names.lookup f = some .local
  nocell : ∀ x ∈ sc.names, x.2 ≠ .cell
  ne : f ≠ "self"
  dbg : (f == ("__debug__" : Str)) = false
  par : ∃ ar : Arg, (ps.posonlyargs ++ ps.args).head? = some ar ∧ ar.arg = "self"
/-- the tree of super().__init__(a) -/
def EvOk (a : Expr) (p0 p1 p2 p3 : Pos) : Prop := ∀ env : Env, starEach [a] env = [(false, eval a env)] ∧ ∃ pl : Sem Bool, eval (.Call (.Attribute (.Call (.Name "super" p0) [] [] p1) "__init__" p2) [a] [] p3) env = (do
  let ov ← attributeBase (.Call (.Name "super" p0) [] [] p1) "__init__" env (eval (.Call (.Name "super" p0) [] [] p1) env)
  standAt p2.atName
  let (f, first) ← holding [ov] (getMethod ov "__init__" pl)
  callWith p3 f first (backTo p3 (starEach [a] env)) [])
/-- what the written part says of the class at C, whose __init__ is at fI -/
structure SupTxt (P : Program) (K : Frag) (mg : Str → Option Value) (x f q : Str) (a : Expr) (mo : List (Str × Const)) (ps : Arguments) (C fI : Addr) : Prop where
  scope : SupScope (supScope f mo) ps f
  gC : mg x = some (.ref C)
  gS : mg "super" = none
  cls : ∃ nm qn N bs bm sn sub ab col dd k0 k1 k2 k3 k5, K.lookup C = some (excClassObj nm qn C N bs bm true sn sub ab col dd k0 k1 k2 k3 k5 "ValueError.__new__") ∧ refsVE bm = true ∧
    alongIn K "__init__" bm = some (some (.builtin "ValueError.__init__"))
  sa : findIn K (.ref C) "__setattr__" = some (some (.builtin "object.__setattr__"))
  ga : findIn K (.ref C) "__getattribute__" = some (some (.builtin "BaseException.__getattribute__"))
  gg : findIn K (.ref C) "__getattr__" = some none
  noN : findIn K (.ref C) f = some none
  iC : findIn K (.ref C) "__init__" = some (some (.ref fI))
  tC : typeIn K (.ref fI) = some (.type "function")
  kC : keepIn K (.ref C) = true
  exC : subIn K (.ref C) (.type "BaseException") = some true
  veC : subIn K (.ref C) (.type "ValueError") = some true
  meC : mroIn K C (.ref C) = some true
  tyC : typeIn K (.ref C) = some (.type "type")
  hdC : hasDictIn K C = true
  opq : nsIn K cStatics "thirdparty.any" = some none
  top : (P.main.scope.names.lookup ("super" : Str)).isSome = false
  bind : ∀ (kV doc pm : Value) (an : Option Addr) (cdv ct : Value) (cc : Addr) (body : List Stmt) (u v : Value), bindArgs (ksFn "__init__" q ps body (supScope f mo) .none kV doc pm an cdv ct cc) ⟨[u, v], []⟩ = pure [(PySem.Str.ofString "self", u), (f, v)]
  fn : ∃ (oc : Value) (od : Option Addr) (kV doc pm : Value) (an : Option Addr) (cda : Addr) (ct : Value) (osl : Array (Option Value)) (cc : Addr) (p0 p1 p2 p3 p4 p5 p6 p7 p8 : Pos),
    K.lookup fI = some ⟨oc, od, .func (ksFn "__init__" q ps (supBody a f p0 p1 p2 p3 p4 p5 p6 p7 p8) (supScope f mo) .none kV doc pm an (.ref cda) ct cc), osl⟩ ∧ codeIn K (.ref cda) q = true ∧
    EvOk a p0 p1 p2 p3 ∧ (∃ (ccl : Value) (cdd : Option Addr) (vs : Array Value) (ccs : Array (Option Value)) (file : Str) (tf : Tok), K.lookup cda = some ⟨ccl, cdd, .fields vs, ccs⟩ ∧ vs[2]? = some (.str file tf) ∧ (P.main.file == file) = true) ∧
    ∃ (cl : Value) (cld : Option Addr) (csl : Array (Option Value)), K.lookup cc = some ⟨cl, cld, .cell (some (.ref C)), csl⟩
theorem one_fits (v : Value) : [v].length ≤ sizeLine := by
  show 1 ≤ sizeLine
  decide
/-- what __init__ leaves of a fresh exception at x -/
structure SupEnd (h h' : Heap) (x C dx t1 : Addr) (f : Str) (v : Value) : Prop where
  keep : ∀ b o, b ≠ x → h.get? b = some o → h'.get? b = some o
  obj : h'.get? x = some { cls := .ref C, dict := some dx, data := .fields #[.ref t1, .none, .none, .none, .bool false, .none] }
  dbig : h.objs.size ≤ dx
  dne : dx ≠ x
  ns : h'.Ns1 dx (fun y => if y = f then some v else none)
/-- a made exception -/
structure SupMade (h h' : Heap) (e C d : Addr) (f : Str) (v : Value) : Prop where
  keep : ∀ b o, h.get? b = some o → h'.get? b = some o
  new : h.objs.size ≤ e
  obj : ∃ oe vs, h'.get? e = some oe ∧ oe.cls = .ref C ∧ oe.dict = some d ∧ oe.data = .fields vs ∧ vs[1]? = some .none
  dbig : h.objs.size ≤ d
  dne : d ≠ e
  ns : h'.Ns1 d (fun y => if y = f then some v else none)
/-- the written argument is reckoned from the frame at L: it gives one value, and nothing but the tokens changes -/
def ArgOk (a : Expr) (f : Str) (v : Value) : Prop := ∀ (P : Program) (w : World) (A : Around) (E : Value → Shared → Prop) (env : Env) (s : Shared) (m : Str → Option Value) (Q : Value → Shared → Prop),
  env.scope.kind = .function → env.kindOf f = some .local → s.heap.Ns env.locals m → m f = some v → (∀ u tk, Q u { s with toks := tk }) → wpAny (model P w) A (eval a env) Q E s
section
variable {prog : Program} {w : World} {A : Around} {E : Value → Shared → Prop} {h : Heap} {g : Array GenState} {d : Drawn} {t : Nat} {os : OsState}
/-- ValueError.__init__, bound to the exception at e, called -/
theorem mw_call {nm qn : Str} {C N u e t0 : Addr} {bs bm : List Value} {hd : Bool} {sn : List Str} {sub : List Value} {ab : Bool} {col : Option Bool} {dd : Option Addr} {k0 k1 k2 k3 k5 : Option Value} {rest : List Value} {Q : Value → Shared → Prop}
    (hC : h.get? C = some (excClassObj nm qn C N bs bm hd sn sub ab col dd k0 k1 k2 k3 k5 "ValueError.__new__")) (he : h.get? e = some (excO C t0)) (hu : h.get? u = some (kxs_mw "ValueError.__init__" e)) (hz : rest.length ≤ sizeLine)
    (hq : ∀ h' t1, (∀ b o, b ≠ e → h.get? b = some o → h'.get? b = some o) → h'.get? e = some (excO C t1) → Q .none ⟨h', g, d, t, os⟩) :
    wpAny (model prog w) A (call (.ref u) rest) Q E ⟨h, g, d, t, os⟩ := by
  have FB := PySem.F.excBase_ValueError
  have b1 : (Value.type "method-wrapper" == Value.type "method" || Value.type "method-wrapper" == Value.type "builtin_function_or_method" || Value.type "method-wrapper" == Value.type "method-wrapper") = true := by decide
  refine wpAny_call (codeAny_of_tree (show wpAny _ A.in1 (callAny (.ref u) ⟨rest, []⟩) _ _ _ from ?_))
  simp only [callAny]
  refine wpAny_bind (wpAny_load hu ?_)
  simp only [kxs_mw, b1, if_true]
  refine KFB.if_so (by decide) (wpAny_bind (check_bound_init FB.toExcCallFacts hC he rfl (wpAny_bind (wpAny_pure (wpAny_pure ?_)))))
  exact ⟨plainId_quiet FB.init.plain _, codeAny_builtin FB.initEntry (exc_init_tree (cls := .ref C) (t0 := t0) (dv := none) (c2 := .none) (c3 := .none) (b4 := .bool false) he hz fun h' k e' _ => hq h' _ k e')⟩
end
section
variable {prog : Program} {w : World} {A : Around} {E : Value → Shared → Prop} {R : Result → Shared → Prop} {s : Shared} {K : Frag} {mg : Str → Option Value} {x f q : Str} {a : Expr} {mo : List (Str × Const)} {ps : Arguments} {C fI : Addr}
theorem ld_arg {M : Model} {s : Shared} {env : Env} {y : Str} {m : Str → Option Value} {v : Value} {pos : Pos} {Q : Value → Shared → Prop} (hn : s.heap.Ns env.locals m) (hv : m y = some v) (hk : env.scope.kind = .function) (hl : env.kindOf y = some .local)
    (hd : (y == ("__debug__" : Str)) = false) (hq : Q v s) : wpAny M A (eval (.Name y pos) env) Q E s := wpAny_Name (wpAny_loadName_local hk hl hn hv hq) hd
theorem sup_init (T : SupTxt prog K mg x f q a mo ps C fI) {y t0 : Addr} {v : Value} (ha : ArgOk a f v) (X : K.In s.heap) (hlim : s.heap.NoLimit) (hg : s.heap.Ns mainGlobals mg) (hb : ∃ mb, s.heap.Ns builtinsNs mb ∧ ∀ z : Str, z ≠ "__name__" → mb z = bootBuiltins z)
    (hy : s.heap.get? y = some (excO C t0)) (hno : K.lookup y = none) (hroom : A.depth < recursionLimit)
    (hq : ∀ h' tk dx t1, SupEnd s.heap h' y C dx t1 f v → R (.ok (.ret .none)) { s with heap := h', toks := tk }) :
    codeAny (model prog w) A (.call (.ref fI) ⟨[.ref y, v], []⟩) R s := by
  obtain ⟨oc, od, kV, doc, pm, an, cda, ct, osl, cc, p0, p1, p2, p3, p4, p5, p6, p7, p8, ho, hcd, hev, ⟨ccl, cdd, vs, ccs, file, tf, hco, hvs, hfile⟩, cl, cld, csl, hcell⟩ := T.fn
  obtain ⟨nm, qn, N, bs, bm, sn, sub, ab, col, dd, k0, k1, k2, k3, k5, hC, hbm, hal⟩ := T.cls
  obtain ⟨mb, hb1, hb2⟩ := hb
  obtain ⟨ar, har, hars⟩ := T.scope.par
  have hcl : clsIn K C = some { name := nm, bases := bs, mro := .ref C :: bm, ns := N, qualname := qn, hasDict := true, slotNames := sn, subclasses := sub, abstract := ab, collection := col, hasDel := false } := by unfold clsIn; rw [hC] <;> rfl
  have hself : (ks_superIn K C C "__init__") = some (some (.builtin "ValueError.__init__")) := by
    unfold ks_superIn
    rw [hcl, Option.bind_some]
    simp only [List.dropWhile_cons, bne_self_eq_false, Bool.false_eq_true, if_false, List.drop_succ_cons, List.drop_zero]
    exact hal
  refine ks_codeAny_call_defAt (binds := [(PySem.Str.ofString "self", .ref y), (f, v)]) hroom (X _ _ ho) rfl hlim (codeRec_of X hcd) rfl (.of_eq (T.bind _ _ _ _ _ _ _ _ _ _)) T.scope.nocell (fun z hz => ?_) (fun h1 hns hk1 => ?_) rfl rfl rfl
  · rcases List.mem_cons.mp hz with e | hz
    · rw [e]; exact T.scope.self
    · rcases List.mem_cons.mp hz with e | hz
      · rw [e]; exact T.scope.fld
      · cases hz
  · obtain ⟨L, hL⟩ : ∃ L, L = s.heap.objs.size := ⟨_, rfl⟩
    rw [← hL] at hns ⊢
    have X1 : K.In h1 := X.keeps hk1
    have hy1 := hk1 _ _ hy
    have hself1 : h1.Ns L (fun z => [((PySem.Str.ofString "self" : Str), Value.ref y), (f, v)].reverse.lookup z) := hns
    have ms : (fun z => [((PySem.Str.ofString "self" : Str), Value.ref y), (f, v)].reverse.lookup z) ("self" : Str) = some (.ref y) := by
      have e : (("self" : Str) == f) = false := by simpa using (Ne.symm T.scope.ne)
      show List.lookup ("self" : Str) [(f, v), ((PySem.Str.ofString "self" : Str), Value.ref y)] = _
      rw [List.lookup_cons, e]
      rfl
    have mf : (fun z => [((PySem.Str.ofString "self" : Str), Value.ref y), (f, v)].reverse.lookup z) f = some v := by
      show List.lookup f [(f, v), ((PySem.Str.ofString "self" : Str), Value.ref y)] = _
      rw [List.lookup_cons, beq_self_eq_true]
    obtain ⟨hst, pl, hev⟩ := hev (callEnv (ksFn "__init__" q ps (supBody a f p0 p1 p2 p3 p4 p5 p6 p7 p8) (supScope f mo) .none kV doc pm an (.ref cda) ct cc) L fI)
    refine ks_wpAt_execs_cons (ks_wpAt_Expr_any (ks_wpAt_MethodCall (he := hev) (ks_wpAt_super_base T.scope.sup T.scope.clsv rfl rfl (X1 _ _ ho) rfl har rfl (X1 _ _ hco) rfl hvs hfile T.top ?_)))
    refine ks_loadName_global rfl T.scope.sup (loadGlobal_builtin (hg.keeps hk1) T.gS (hb1.keeps hk1) ((hb2 _ (by decide +kernel)).trans (by rfl)) ⟨rfl, ?_⟩)
    refine wpAny_loadName_free rfl T.scope.clsv rfl ⟨_, X1 _ _ hcell, rfl⟩ ?_
    refine wpAny_loadName_local rfl (by rw [hars]; exact T.scope.self) hself1 (by rw [hars]; exact ms) ?_
    have I1 : InstAt h1 y (excO C t0) C none := ⟨hy1, rfl, rfl, trivial⟩
    refine ks_wpAny_isType_cls (X1 _ _ hC) rfl ⟨rfl, ?_⟩
    refine ks_wpAny_call_super (X1 _ _ hC) rfl hy1 rfl (fun c e => by cases e) (looks_mroIn X1 T.meC) (fun h2 hso hk2 => ?_)
    have X2 : K.In h2 := X1.keeps hk2
    have hy2 := hk2 _ _ hy1
    have I2 : InstAt h2 y (excO C t0) C none := ⟨hy2, rfl, rfl, trivial⟩
    have hmro : Looks (model prog w) h2 (mroOf (.ref C)) (.ref C :: bm) := (looks_clsIn X2 hcl).andThen .now
    refine kxs_getMethod kxs_ValueError hso (looks_opaque X2 T.opq) hmro rfl X2 (by
      show alongIn K "__init__" (((Value.ref C :: bm).dropWhile (· != .ref C)).drop 1) = _
      rw [List.dropWhile_cons]
      simp only [bne_self_eq_false, Bool.false_eq_true, if_false, List.drop_succ_cons, List.drop_zero]
      exact hal) (I2.type.andThen (looks_subIn X2 T.veC)) (ks_ne X2 I2 hcl) rfl ?_
    have hk3 : ∀ b o, h2.get? b = some o → (h2.push (kxs_mw "ValueError.__init__" y)).get? b = some o := fun b o e => Heap.get?_push_of_some _ e
    have hmw : (h2.push (kxs_mw "ValueError.__init__" y)).get? h2.objs.size = some (kxs_mw "ValueError.__init__" y) := Heap.get?_push_size _ rfl
    rw [hst]
    refine kxs_callWith (i := "ValueError.__init__") (x := y) rfl (evalArgs_plain (Calls.spliced_cons ?_))
    refine ha _ _ _ _ _ _ _ _ rfl T.scope.fld ((hself1.keeps hk2).keeps hk3) mf (fun u2 tk => Calls.spliced_nil ⟨hmw, ?_⟩)
    refine mw_call (hk3 _ _ (X2 _ _ hC)) (hk3 _ _ hy2) hmw (one_fits _) (fun h4 t1 hk4 hy4 => ?_)
    -- self.f = f
    have k4 : ∀ b o, b ≠ y → h1.get? b = some o → h4.get? b = some o := fun b o hb e => hk4 b o hb (hk3 _ _ (hk2 _ _ e))
    have hnk : ∀ {b : Addr} {o : Obj}, K.lookup b = some o → b ≠ y := fun {b o} e z => by
      rw [z, hno] at e
      cases e
    have hLy : L ≠ y := by rw [hL]; exact Nat.ne_of_gt (Heap.lt_size hy)
    have X4 : K.In h4 := fun b o e => k4 b o (hnk e) (X1 _ _ e)
    have hn4 : h4.Ns L (fun z => [((PySem.Str.ofString "self" : Str), Value.ref y), (f, v)].reverse.lookup z) := by
      obtain ⟨oL, es, ep, e1, r⟩ := hself1
      exact ⟨oL, es, ep, k4 _ _ hLy e1, r⟩
    refine wpAt_of_wpAny ?_
    refine wpAny_execs_cons (plainObj_wpAny_Assign_Attribute ?_)
    refine ld_arg hn4 mf rfl T.scope.fld T.scope.dbg (ld_arg hn4 ms rfl T.scope.self rfl ?_)
    refine set_plain X4 (ox := excO C t1) (od := none) ⟨hy4, rfl, rfl, trivial⟩ T.sa ?_
    refine exc_osa X4 hy4 hcl (show refsVE (.ref C :: bm) = true from hbm) rfl T.noN (fun h5 tk5 dx k5 dn dne hx5 hn5 => ?_)
    have z4 : s.heap.objs.size ≤ h4.objs.size := by
      have z := hn4.lt
      rw [hL] at z
      exact Nat.le_of_lt z
    exact wpAny_execs_nil (hq h5 tk5 dx t1 ⟨fun b o hb e => k5 b o hb (k4 b o hb (hk1 _ _ e)), hx5, Nat.le_trans z4 dn, dne, hn5⟩)
/-- the class called with one value -/
theorem sup_made (T : SupTxt prog K mg x f q a mo ps C fI) {v : Value} (ha : ArgOk a f v) (X : K.In s.heap) (hlim : s.heap.NoLimit) (hg : s.heap.Ns mainGlobals mg) (hb : ∃ mb, s.heap.Ns builtinsNs mb ∧ ∀ z : Str, z ≠ "__name__" → mb z = bootBuiltins z) (hroom : A.depth + 1 < recursionLimit)
    (hq : ∀ h' tk e d, SupMade s.heap h' e C d f v → R (.ok (.ret (.ref e))) { s with heap := h', toks := tk }) :
    codeAny (model prog w) A (.call (.ref C) ⟨[v], []⟩) R s := by
  obtain ⟨nm, qn, N, bs, bm, sn, sub, ab, col, dd, k0, k1, k2, k3, k5, hC, hbm, hal⟩ := T.cls
  obtain ⟨mb, hb1, hb2⟩ := hb
  obtain ⟨hp, g, dr, tk, os⟩ := s
  have k : ∀ b o, hp.get? b = some o → ((hp.push (kdv_tup [v])).push (excO C hp.objs.size)).get? b = some o := fun b o e => Heap.get?_push_of_some _ (Heap.get?_push_of_some _ e)
  have hget : ((hp.push (kdv_tup [v])).push (excO C hp.objs.size)).get? (hp.objs.size + 1) = some (excO C hp.objs.size) := by heap_get
  have hno : K.lookup (hp.objs.size + 1) = none := by
    cases e : K.lookup (hp.objs.size + 1) with
    | none => rfl
    | some o =>
      have z : hp.get? (hp.objs.size + 1) = some o := X _ _ e
      exact absurd (Nat.lt_of_succ_lt (Heap.lt_size z)) (Nat.lt_irrefl _)
  refine call_own PySem.F.excBase_ValueError (fun Y => refsVE_contains Y bm hbm) (X _ _ hC) (looks_findIn X T.iC) (fun self => bind_fn X self T.tC) (one_fits v) ?_
  refine sup_init (s := ⟨(hp.push (kdv_tup [v])).push (excO C hp.objs.size), g, dr, tk, os⟩) T ha (X.keeps k) (hlim.keeps k) (hg.keeps k) ⟨mb, hb1.keeps k, hb2⟩ hget hno (show A.depth + 1 < recursionLimit from hroom) fun h' tk' dx t1 M => ?_
  have old : ∀ b o, hp.get? b = some o → h'.get? b = some o := fun b o e => M.keep b o (Nat.ne_of_lt (Nat.lt_succ_of_lt (Heap.lt_size e))) (k b o e)
  have z : hp.objs.size + 1 + 1 ≤ dx := by
    have q := M.dbig
    simpa only [Heap.size_push] using q
  exact ⟨rfl, hq h' tk' (hp.objs.size + 1) dx ⟨old, Nat.le_succ _, ⟨_, _, M.obj, rfl, rfl, rfl, rfl⟩, Nat.le_trans (Nat.le_trans (Nat.le_succ _) (Nat.le_succ _)) z, M.dne, M.ns⟩⟩
end
/-! ### the two kinds of argument -/
theorem arg_name {f : Str} {p : Pos} {v : Value} (hd : (f == ("__debug__" : Str)) = false) : ArgOk (.Name f p) f v := fun P w A E env s m Q hk hl hn hv hq =>
  ld_arg hn hv hk hl hd (hq v s.toks)
/-- f'..{f}..', f an int -/
theorem arg_text {f : Str} {x y : Str} {i j : Nat} {p p1 p2 p3 p4 : Pos} {n : Int} {t : Tok} (hd : (f == ("__debug__" : Str)) = false) (hx : x.length ≤ 1000) (hy : y.length ≤ 1000) (hn : n.natAbs.log2 < 1920) :
    ArgOk (.JoinedStr [.Constant (.str x) i p1, .FormattedValue (.Name f p) (-1) none p2, .Constant (.str y) j p3] p4) f (.int n t) := fun P w A E env s m Q hk hl hns hv hq => by
  have hz := int_text_len_1921 hn
  have big : (10000 : Nat) ≤ sizeLine := by decide
  have l1 : (Str.empty ++ x).length ≤ sizeLine := by rw [PySem.Str.length_append]; show 0 + x.length ≤ _; omega
  have l2 : (Str.empty ++ x ++ Str.ofString (toString n)).length ≤ sizeLine := by rw [PySem.Str.length_append, PySem.Str.length_append]; show 0 + x.length + _ ≤ _; omega
  have l3 : (Str.empty ++ x ++ Str.ofString (toString n) ++ y).length ≤ sizeLine := by rw [PySem.Str.length_append, PySem.Str.length_append, PySem.Str.length_append]; show 0 + x.length + _ + _ ≤ _; omega
  refine wpAny_JoinedStr ?_
  refine Calls.Constant_str ⟨x, _, rfl, l1, ?_⟩
  refine wpAny_FormattedValue_plain (ld_arg hns hv hk hl hd (wpAny_formatField_int hn ⟨_, _, rfl, l2, ?_⟩))
  exact Calls.Constant_str ⟨y, _, rfl, l3, l3, hq _ _⟩
end JX
namespace JX
open PySem PySem.Spec PyProof.Rows L2
/-! ### such an exception raised, in the hand layer -/
theorem relO_one {f : Str} {v : V} {v' : Value} (r : RelV v v') (g : Str) : RelO (List.lookup g [(f, v)]) (if g = f then some v' else none) := by
  by_cases hw : g = f
  · subst hw
    rw [if_pos rfl, List.lookup_cons, beq_self_eq_true]
    exact r
  · rw [if_neg hw, List.lookup_cons, show (g == f) = false by simpa using hw]
    exact True.intro
section
variable {X : Cx} {C fI : Addr} {x f q : Str} {a : Expr} {mo : List (Str × Const)} {ps : Arguments}
/-- C(e), a class with such an __init__; ok: which values it may be called with -/
def tMkSup (C : Addr) (f : Str) (ok : V → Prop) (ta : TA) : L2.St → Hp → XK → Prop := fun σ H Q => ta σ H fun vs H1 => ∃ v, vs = [v] ∧ ok v ∧ ∀ d, H1 d = none → Q (.ref C) (some d) (upd H1 d (.xd [(f, v)]))
theorem pmk_sup {e : Expr} {ta : TA} {p pos : Pos} {k : Nat} {ok : V → Prop} (T : SupTxt X.prog X.K X.mg x f q a mo ps C fI) (hok : ∀ v u, ok v → RelV v u → ArgOk a f u) (hr : Room k X.A) (ha : PA X [e] ta) (hg : Gl X x := by rfl) (hdb : (x == ("__debug__" : Str)) = false := by decide)
    (he : starEach (e :: []) X.env = (false, eval e X.env) :: starEach [] X.env := by rfl) (hpl : (backTo pos (starEach [] X.env)).any (·.1) = false := by rfl) :
    PMk X (.Call (.Name x p) [e] [] pos) (tMkSup C f ok ta) := by
  intro pins s σ H Q I h
  refine wpAny_Call_Name_kw (ld_glob I hg T.gC ?_ hdb)
  refine PySem.W.callWith_K (h₀ := X.base) I.ok.mod.kin T.kC (thn (ha.run pos pins s σ H _ I h) fun us s1 hh => ?_) he hpl
  obtain ⟨vs, H1, I1, r1, v, ev, hv, q1⟩ := hh
  subst ev
  refine ⟨I1.kIn, ?_⟩
  cases r1 with
  | cons rv rn =>
    rename_i v' us'
    cases rn
    show wpAny _ _ (call (.ref C) [v']) _ _ _
    have hlim := I1.nolimit
    have hns := I1.mod.glob.keeps I1.bk
    have hbl : ∃ mb, s1.heap.Ns builtinsNs mb ∧ ∀ z : Str, z ≠ "__name__" → mb z = bootBuiltins z := by
      obtain ⟨mb, h1, h2⟩ := I1.mod.blt
      exact ⟨mb, h1.keeps I1.bk, h2⟩
    obtain ⟨hp, g, dr, tk, os⟩ := s1
    refine wpAny_call (sup_made T (hok _ _ hv rv) I1.kIn hlim hns hbl (by have := hr.dp; omega) fun h' tk' e d M => ?_)
    show MkP X pins σ Q (.ref e) ⟨h', g, dr, tk', os⟩
    obtain ⟨oe, fv, hoe, hc, hd, hdat, h1⟩ := M.obj
    have hns := M.ns
    obtain ⟨G', g1, g2⟩ := restrict h' fun b => decide (b ≠ e)
    have gk : ∀ b, b ≠ e → G'.get? b = h'.get? b := fun b hb => g1 b (decide_eq_true hb)
    have ge : G'.get? e = none := g2 e (by simp)
    have old : ∀ b o, hp.get? b = some o → G'.get? b = some o := fun b o q => (gk b (Nat.ne_of_lt (Nat.lt_of_lt_of_le (Heap.lt_size q) M.new))).trans (M.keep b o q)
    have ob : ObjOk X.prog X.w (upd H1 d (.xd [(f, v)])) G' d (.xd [(f, v)]) := ⟨_, hns.at (fun o q => (gk d M.dne).trans q), fun f => relO_one rv f⟩
    have J : Inv X pins σ (upd H1 d (.xd [(f, v)])) ⟨G', g, dr, tk', os⟩ := I1.laid (t' := tk') old M.dbig ob
    refine ⟨e, oe, fv, ⟨G', g, dr, tk', os⟩, _, .ref C, some d, rfl, J, fun b o q => ?_, ge, hoe, ⟨hc, hd⟩, hdat, h1, ?_, rfl, I1.bare, raises_own T.exC T.tyC, q1 d (I1.hok.fresh M.dbig)⟩
    · by_cases hb : b = e
      · have q' : G'.get? b = some o := q
        rw [hb, ge] at q'; cases q'
      · exact (gk b hb).symm.trans q
    · rw [upd_ne (Ne.symm M.dne)]
      exact I1.hok.fresh M.new
/-- raise C(e) -/
def tRaiseSup (C : Addr) (f : Str) (ok : V → Prop) (W : WX) (ta : TA) : TS := fun _ σ H => tMkSup C f ok ta σ H fun cls d H' => W cls d σ H'
theorem ps_raiseSup {e : Expr} {ta : TA} {W : WX} {p pos pos2 : Pos} {k : Nat} {ok : V → Prop} (hc : X.calm = true) (T : SupTxt X.prog X.K X.mg x f q a mo ps C fI) (hok : ∀ v u, ok v → RelV v u → ArgOk a f u) (hr : Room k X.A) (tk : Takes X W) (ha : PA X [e] ta) (hg : Gl X x := by rfl) (hdb : (x == ("__debug__" : Str)) = false := by decide)
    (he : starEach (e :: []) X.env = (false, eval e X.env) :: starEach [] X.env := by rfl) (hpl : (backTo pos (starEach [] X.env)).any (·.1) = false := by rfl) :
    PS X (.Raise (some (.Call (.Name x p) [e] [] pos)) none pos2) (tRaiseSup C f ok W ta) := ps_raise hc tk (pmk_sup T hok hr ha hg hdb he hpl)
end
/-! ### isinstance of the caught error, which has a dict -/
/-- what the class D must say for that -/
structure IsTxt (K : PySem.W.Frag) (D : Addr) : Prop where
  cl : (PySem.W.clsIn K D).isSome = true
  ga : PySem.W.findIn K (.ref D) "__getattribute__" = some (some (.builtin "BaseException.__getattribute__"))
  gg : PySem.W.findIn K (.ref D) "__getattr__" = some none
  sb : PySem.W.subIn K (.ref D) (.type "BaseException") = some true
  ca : PySem.W.findIn K (.ref D) "__class__" = some (some (.builtin "object.__class__"))
  sp : PySem.W.specialIn K (.builtin "object.__class__") "__get__" = some (some (.builtin "getset_descriptor.__get__"))
  tk : PySem.W.takesIn K (.builtin "object.__class__") = some true
  mo : PySem.W.mroIn K D (.type "object") = some true
def rIsX (K : PySem.W.Frag) (cls : Value) (d : Option Addr) (a : Addr) : List V → Hp → VK → Prop := fun xs H Q => ∃ (D dd : Addr) (c : V) (cv : Value) (b : Bool) (fs : List (Str × V)), cls = .ref D ∧ d = some dd ∧ IsTxt K D ∧ xs = [.ref a, c] ∧ (∀ u, RelV c u → u = cv) ∧
  PySem.W.kitOne K (.ref D) cv = some b ∧ H dd = some (.xd fs) ∧ Q (.bl b) H
theorem call_isX {X : Cx} {a : Addr} {cls : Value} {d : Option Addr} {oe : Obj} {pn : List (Addr × Obj)} (hz : Zc cls d oe) (hf : ∃ vs, oe.data = .fields vs) : CallR (X.suite a ((a, oe) :: pn)) (.builtin "isinstance") (rIsX X.K cls d a) := by
  intro pins s σ H xs us Q I r h
  obtain ⟨D, dd, c, cv, b, fs, rfl, rfl, C, rfl, hcv, e, hd, q⟩ := h
  cases r with
  | cons rx rr =>
    cases rr with
    | cons rt rr =>
      cases rr
      cases rx
      have ec := hcv _ rt
      subst ec
      obtain ⟨hget, _⟩ := I.pin (a, oe) (List.mem_append.mpr (.inl List.mem_cons_self))
      obtain ⟨vs, hv⟩ := hf
      obtain ⟨mA, ⟨od, es, ep, hod, _⟩, _⟩ := (show ObjOk _ _ H s.heap dd (.xd fs) from I.hok dd _ hd)
      have J : PySem.W.InstAt s.heap a oe D (some od) := ⟨hget, hz.1, by unfold PySem.W.notCls; rw [hv] <;> rfl, by rw [hz.2]; exact hod⟩
      exact PySem.W.kia_one (PySem.W.kitx_exc C.cl C.ga C.gg C.sb C.ca C.sp C.tk C.mo) I.kIn J e (fun z => nomatch z) fun tk => ⟨.bl b, H, I.kept (t' := tk) fun _ _ z => z, rfl, q⟩
/-! ### o.m(e, ..) where what is raised is wished for at the caller's slots -/
section
variable {X : Cx} {CX : CXT} {k : Nat} {f C : Addr} {fd : FuncData} {ps : List Str} {sp : Sp} {E : L2.St → XK} {m : Str} {pos apos : Pos} {e o : Expr} {es : List Expr} {ta : TE} {t : TA}
def tMethS (C : Addr) (m : Str) (sp : Sp) (E : L2.St → XK) (ta : TE) (t : TA) : TE := fun σ H Q => ta σ H fun x H1 => ∃ a dx fs, x = .ref a ∧ H1 a = some (.ins C dx fs) ∧ fs.lookup m = none ∧ t σ H1 fun vs H2 => sp (x :: vs) H2 Q (E σ)
theorem pe_methS1 {pl : Sem Bool} (he : PE X o ta) (c : Cls X.K C) (hm : Meth X.K C m f) (F : FnOk X.prog X.w X.K X.mg X.base CX k f fd ps sp) (hr : Room k X.A) (hb : Binds X.K fd ps []) (hx : ∀ σ, PassesAt CX X σ (E σ)) (ha : PA X (e :: es) t)
    (hst : starEach (e :: es) X.env = (false, eval e X.env) :: starEach es X.env := by rfl) (hpl : (backTo pos (starEach es X.env)).any (·.1) = false := by rfl)
    (ht : eval (.Call (.Attribute o m apos) (e :: es) [] pos) X.env = (do
      let ov ← eval o X.env
      standAt apos.atName
      let (f, first) ← holding [ov] (getMethod ov m pl)
      callWith pos f first (backTo pos (starEach (e :: es) X.env)) (backToKw pos (keywordEach [] X.env))) := by rfl) :
    PE X (.Call (.Attribute o m apos) (e :: es) [] pos) (tMethS C m sp E ta t) := by
  refine ⟨fun pins s σ H Q I h => ?_⟩
  refine PySem.W.methodCall_KW (pl := pl) (thn (he.run pins s σ H _ I h) fun u s1 ⟨x, H1, I1, rx, a, dx, fs, ex, ea, l, q⟩ => ?_) ht
  subst ex
  obtain rfl : u = Value.ref a := rx
  refine getmeth_ok I1 ea c hm l ?_
  refine PySem.W.callWith_K (first := [.ref a]) (h₀ := X.base) I.ok.mod.kin hm.kp (thn (ha.run pos pins s1 σ H1 _ I1 q) fun us s2 ⟨vs, H2, I2, r, q2⟩ => ⟨I2.kIn, ?_⟩) hst hpl
  exact run_fnS (us := .ref a :: us) (vs := .ref a :: vs) F hr hb (hx σ) I2 (.cons rfl r) q2
end
end JX
namespace J
open PySem L2
/-! ### 1. The text by places -/
def top (i : Nat) : Stmt := PySem.Challenge.pw_clearfloor_k23_whole_journal_through_pow.main.body.getD i (.Pass ⟨0, 0, 0, 0⟩)
/-- the row of signs, as the text writes it -/
def SG : Str := match top 5 with
  | .Assign _ (.Constant (.str s) _ _) _ => s
  | _ => Str.empty
theorem SG_len : SG.cps.toList.length = 96 := by decide +kernel
theorem SG_length : SG.length = 96 := by decide +kernel
theorem SG_find : (List.range 96).all (fun i => decide (Txt.find SG ⟨#[SG.cps.toList.getD i 0]⟩ = (i : Int))) = true := by decide +kernel
/-! ### 2. The bytes of a text, of a record, of a row of records -/
def byteOf (c : Nat) : Int := Txt.find SG ⟨#[c]⟩ + 1
def Plain (z : Str) : Prop := ∀ c ∈ z.cps.toList, c ∈ SG.cps.toList
theorem byteOf_at {c : Nat} (h : c ∈ SG.cps.toList) : ∃ i : Nat, i < 96 ∧ byteOf c = (i : Int) + 1 ∧ SG.cps.toList[i]? = some c := by
  obtain ⟨i, hi, e⟩ := List.getElem_of_mem h
  rw [SG_len] at hi
  have q := List.all_eq_true.mp SG_find i (List.mem_range.mpr hi)
  have q := of_decide_eq_true q
  have e1 : SG.cps.toList[i]? = some c := by rw [← e]; exact List.getElem?_eq_getElem _
  have e2 : SG.cps.toList.getD i 0 = c := by rw [List.getD_eq_getElem?_getD, e1]; rfl
  rw [e2] at q
  exact ⟨i, hi, by unfold byteOf; rw [q], e1⟩
def bytesOf (z : Str) : List Int := z.cps.toList.map byteOf
theorem bytesOf_len (z : Str) : (bytesOf z).length = z.length := by
  unfold bytesOf
  rw [List.length_map]
  exact Array.length_toList
def enc (z : Str) : List Int := 1 :: ((z.length : Int) % 256) :: ((z.length : Int) / 256) :: bytesOf z
theorem enc_len (z : Str) : (enc z).length = z.length + 3 := by
  unfold enc
  rw [List.length_cons, List.length_cons, List.length_cons, bytesOf_len]
def encs : List Str → List Int
  | [] => []
  | t :: ts => enc t ++ encs ts
theorem encs_append : ∀ (ts us : List Str), encs (ts ++ us) = encs ts ++ encs us
  | [], us => rfl
  | t :: ts, us => by
    show enc t ++ encs (ts ++ us) = enc t ++ encs ts ++ encs us
    rw [encs_append ts us, List.append_assoc]
theorem encs_one (t : Str) : encs [t] = enc t := List.append_nil _
def size1 (ts : List Str) : Nat := (encs ts).length + 1
/-- the law's own sum -/
def total : List Str → Int → Int
  | [], n => n
  | t :: ts, n => total ts (n + 3 + t.length)
theorem total_eq : ∀ (ts : List Str) (n : Int), total ts n = n + (encs ts).length
  | [], n => by show n = n + ((0 : Nat) : Int); omega
  | t :: ts, n => by
    show total ts (n + 3 + t.length) = n + ((enc t ++ encs ts).length : Nat)
    rw [total_eq ts, List.length_append, enc_len]
    omega
theorem total_snoc : ∀ (ts : List Str) (u : Str) (n : Int), total (ts ++ [u]) n = total ts n + 3 + u.length
  | [], u, n => rfl
  | t :: ts, u, n => total_snoc ts u _
/-! ### 3. Lists of bytes: what stands from a place on, a row written there -/
def Laid (bs : List Int) (p : Nat) (row : List Int) : Prop := ∀ (i : Nat) (x : Int), row[i]? = some x → bs[p + i]? = some x
theorem Laid.left {bs : List Int} {p : Nat} {r s : List Int} (h : Laid bs p (r ++ s)) : Laid bs p r := fun i x e => h i x (by rw [List.getElem?_append_left (List.getElem?_eq_some_iff.mp e).1]; exact e)
theorem Laid.right {bs : List Int} {p : Nat} {r s : List Int} (h : Laid bs p (r ++ s)) : Laid bs (p + r.length) s := fun i x e => by
  have q := h (r.length + i) x (by rw [List.getElem?_append_right (Nat.le_add_right _ _), Nat.add_sub_cancel_left]; exact e)
  rw [Nat.add_assoc]
  exact q
theorem Laid.take {bs : List Int} {p : Nat} {r : List Int} (h : Laid bs p r) : (bs.drop p).take r.length = r := by
  refine List.ext_getElem? fun i => ?_
  by_cases hi : i < r.length
  · rw [List.getElem?_take_of_lt hi, List.getElem?_drop, h i r[i] (List.getElem?_eq_getElem hi), List.getElem?_eq_getElem hi]
  · rw [List.getElem?_eq_none (by rw [List.length_take]; omega), List.getElem?_eq_none (by omega)]
def put : List Int → Nat → List Int → List Int
  | bs, _, [] => bs
  | bs, p, b :: r => put (bs.set p b) (p + 1) r
theorem put_len : ∀ (r : List Int) (bs : List Int) (p : Nat), (put bs p r).length = bs.length
  | [], _, _ => rfl
  | b :: r, bs, p => by
    show (put (bs.set p b) (p + 1) r).length = _
    rw [put_len r, List.length_set]
theorem put_snoc : ∀ (r : List Int) (bs : List Int) (p : Nat) (x : Int), put bs p (r ++ [x]) = (put bs p r).set (p + r.length) x
  | [], _, _, _ => rfl
  | b :: r, bs, p, x => by
    show put (bs.set p b) (p + 1) (r ++ [x]) = (put (bs.set p b) (p + 1) r).set (p + (r.length + 1)) x
    rw [put_snoc r, Nat.add_assoc, Nat.add_comm 1 r.length]
theorem put_out : ∀ (r : List Int) (bs : List Int) (p j : Nat), (j < p ∨ p + r.length ≤ j) → (put bs p r)[j]? = bs[j]?
  | [], _, _, _, _ => rfl
  | b :: r, bs, p, j, h => by
    show (put (bs.set p b) (p + 1) r)[j]? = _
    rw [List.length_cons] at h
    rw [put_out r _ _ j (by omega), List.getElem?_set_ne (by omega)]
theorem put_in : ∀ (r : List Int) (bs : List Int) (p i : Nat) (x : Int), p + r.length ≤ bs.length → r[i]? = some x → (put bs p r)[p + i]? = some x
  | [], _, _, _, _, _, h => by simp at h
  | b :: r, bs, p, 0, x, hl, h => by
    show (put (bs.set p b) (p + 1) r)[p]? = some x
    rw [List.length_cons] at hl
    rw [put_out r _ _ p (.inl (Nat.lt_succ_self p)), List.getElem?_set_self (by omega)]
    simpa using h
  | b :: r, bs, p, i + 1, x, hl, h => by
    show (put (bs.set p b) (p + 1) r)[p + (i + 1)]? = some x
    rw [List.length_cons] at hl
    have q := put_in r (bs.set p b) (p + 1) i x (by rw [List.length_set]; omega) (by simpa using h)
    rw [show p + (i + 1) = p + 1 + i by omega]
    exact q
theorem put_laid {r bs : List Int} {p : Nat} (h : p + r.length ≤ bs.length) : Laid (put bs p r) p r := fun i x e => put_in r bs p i x h e
/-! ### 4. A good journal -/
def area (s : Nat) : Nat := (s - 1) / 2
def astart (s v : Nat) : Nat := 1 + (v - 1) * area s
structure Good (bs : List Int) (ts : List Str) (v : Nat) : Prop where
  v12 : v = 1 ∨ v = 2
  hd : bs[0]? = some (v : Int)
  laid : Laid bs (astart bs.length v) (encs ts ++ [0])
  fits : size1 ts ≤ area bs.length
  plain : ∀ t ∈ ts, Plain t ∧ t.length ≤ 12
theorem area_two (s : Nat) : 2 * area s + 1 ≤ s ∨ s = 0 := by unfold area; omega
theorem Good.pos {bs : List Int} {ts : List Str} {v : Nat} (g : Good bs ts v) : 0 < bs.length := by
  have q := (List.getElem?_eq_some_iff.mp g.hd).1
  exact q
theorem Good.end_ {bs : List Int} {ts : List Str} {v : Nat} (g : Good bs ts v) : astart bs.length v + area bs.length ≤ bs.length := by
  have h := area_two bs.length
  have p := g.pos
  unfold astart
  rcases g.v12 with e | e
  · subst e; simp only [Nat.sub_self, Nat.zero_mul]; omega
  · subst e; show 1 + 1 * area bs.length + area bs.length ≤ bs.length; omega
/-- what agrees with it where it counts is as good -/
theorem Good.agree {bs bs' : List Int} {ts : List Str} {v : Nat} (g : Good bs ts v) (hl : bs'.length = bs.length) (h0 : bs'[0]? = bs[0]?) (ha : ∀ j, astart bs.length v ≤ j → j < astart bs.length v + size1 ts → bs'[j]? = bs[j]?) : Good bs' ts v := by
  refine ⟨g.v12, h0.trans g.hd, fun i x e => ?_, by rw [hl]; exact g.fits, g.plain⟩
  have hi := (List.getElem?_eq_some_iff.mp e).1
  rw [List.length_append, List.length_singleton] at hi
  rw [hl, ha _ (Nat.le_add_right _ _) (by unfold size1; omega)]
  exact g.laid i x e
def place (bs : List Int) (ts : List Str) (v : Nat) : Nat := astart bs.length v + (encs ts).length
/-- bytes behind the place of the 0 behind the last record are written: the records are as before -/
theorem Good.behind {bs : List Int} {ts : List Str} {v : Nat} (g : Good bs ts v) (r : List Int) : Good (put bs (place bs ts v + 1) r) ts v := by
  have hp : 1 ≤ astart bs.length v := by unfold astart; omega
  refine g.agree (put_len _ _ _) (put_out _ _ _ 0 (.inl (by unfold place; omega))) fun j h1 h2 => put_out _ _ _ j (.inl ?_)
  unfold place
  unfold size1 at h2
  omega
/-- a record is appended: first all behind its first byte, and the 0 behind it, then its first byte -/
theorem Good.record {bs : List Int} {ts : List Str} {v : Nat} (g : Good bs ts v) {t : Str} (pt : Plain t) (lt : t.length ≤ 12) (hf : size1 (ts ++ [t]) ≤ area bs.length) :
    Good ((put bs (place bs ts v + 1) ((enc t).tail ++ [0])).set (place bs ts v) 1) (ts ++ [t]) v := by
  have e0 : size1 (ts ++ [t]) = (encs ts).length + (t.length + 3) + 1 := by
    unfold size1
    rw [encs_append, encs_one, List.length_append, enc_len]
  have he := g.end_
  have hp : 1 ≤ astart bs.length v := by unfold astart; omega
  have lr : ((enc t).tail ++ [(0 : Int)]).length = t.length + 3 := by
    rw [List.length_append, List.length_tail, enc_len, List.length_singleton]
    omega
  have hin : place bs ts v + 1 + ((enc t).tail ++ [(0 : Int)]).length ≤ bs.length := by
    rw [lr]
    unfold place
    omega
  have hl : ((put bs (place bs ts v + 1) ((enc t).tail ++ [0])).set (place bs ts v) 1).length = bs.length := by rw [List.length_set, put_len]
  refine ⟨g.v12, ?_, ?_, by rw [hl]; exact hf, fun u hu => ?_⟩
  · rw [List.getElem?_set_ne (by unfold place; omega), put_out _ _ _ 0 (.inl (Nat.succ_pos _))]
    exact g.hd
  · rw [hl]
    intro i x e
    rw [encs_append, encs_one, List.append_assoc] at e
    by_cases h1 : i < (encs ts).length
    · rw [List.getElem?_append_left h1] at e
      rw [List.getElem?_set_ne (by unfold place; omega), put_out _ _ _ _ (.inl (by unfold place; omega))]
      exact g.laid.left i x e
    · rw [List.getElem?_append_right (Nat.le_of_not_lt h1)] at e
      obtain ⟨j, hj⟩ : ∃ j, i = (encs ts).length + j := ⟨i - (encs ts).length, by omega⟩
      subst hj
      rw [Nat.add_sub_cancel_left] at e
      have ep : astart bs.length v + ((encs ts).length + j) = place bs ts v + j := by unfold place; omega
      rw [ep]
      cases j with
      | zero =>
        have ex : x = 1 := by
          have q : (enc t ++ [(0 : Int)])[0]? = some (1 : Int) := rfl
          rw [q] at e
          exact (Option.some.inj e).symm
        rw [ex]
        show ((put bs (place bs ts v + 1) ((enc t).tail ++ [0])).set (place bs ts v) 1)[place bs ts v]? = some 1
        rw [List.getElem?_set_self (by rw [put_len]; omega)]
      | succ j =>
        rw [List.getElem?_set_ne (by omega)]
        have e2 : ((enc t).tail ++ [(0 : Int)])[j]? = some x := e
        have q := put_in _ bs (place bs ts v + 1) j x hin e2
        rw [show place bs ts v + (j + 1) = place bs ts v + 1 + j by omega]
        exact q
  · rcases List.mem_append.mp hu with h | h
    · exact g.plain u h
    · rw [List.mem_singleton.mp h]
      exact ⟨pt, lt⟩
/-- the other area -/
def other (v : Nat) : Nat := 3 - v
theorem other_12 {v : Nat} (h : v = 1 ∨ v = 2) : other v = 1 ∨ other v = 2 := by unfold other; omega
/-- bytes in the other area are written: the records are as before -/
theorem Good.beside {bs : List Int} {ts : List Str} {v : Nat} (g : Good bs ts v) (r : List Int) (hr : r.length ≤ area bs.length) : Good (put bs (astart bs.length (other v)) r) ts v := by
  have hp : 1 ≤ astart bs.length (other v) := by unfold astart; omega
  refine g.agree (put_len _ _ _) (put_out _ _ _ 0 (.inl (by omega))) fun j h1 h2 => put_out _ _ _ j ?_
  have hf := g.fits
  unfold astart at *
  unfold other at *
  rcases g.v12 with e | e
  · subst e
    simp only [Nat.sub_self, Nat.zero_mul, show 3 - 1 - 1 = 1 from rfl, Nat.one_mul] at *
    omega
  · subst e
    simp only [show 3 - 2 - 1 = 0 from rfl, show 2 - 1 = 1 from rfl, Nat.zero_mul, Nat.one_mul] at *
    omega
/-- the records are replaced -/
theorem Good.swap {bs : List Int} {ts us : List Str} {v : Nat} (g : Good bs ts v) (pu : ∀ t ∈ us, Plain t ∧ t.length ≤ 12) (hf : size1 us ≤ area bs.length) :
    Good ((put bs (astart bs.length (other v)) (encs us ++ [0])).set 0 (other v : Nat)) us (other v) := by
  have hl : ((put bs (astart bs.length (other v)) (encs us ++ [0])).set 0 ((other v : Nat) : Int)).length = bs.length := by rw [List.length_set, put_len]
  have hp : 1 ≤ astart bs.length (other v) := by unfold astart; omega
  refine ⟨other_12 g.v12, ?_, ?_, by rw [hl]; exact hf, pu⟩
  · rw [List.getElem?_set_self (by rw [put_len]; exact g.pos)]
  · rw [hl]
    have h2 := area_two bs.length
    have p := g.pos
    have hin : astart bs.length (other v) + (encs us ++ [(0 : Int)]).length ≤ bs.length := by
      rw [List.length_append, List.length_singleton]
      unfold size1 at hf
      unfold astart other
      rcases g.v12 with e | e
      · subst e; simp only [show 3 - 1 - 1 = 1 from rfl, Nat.one_mul]; omega
      · subst e; simp only [show 3 - 2 - 1 = 0 from rfl, Nat.zero_mul]; omega
    intro i x e
    rw [List.getElem?_set_ne (by omega)]
    exact put_laid hin i x e
/-- a fresh device, formatted -/
theorem good_new {n : Nat} (hn : 60 ≤ n) : Good (((List.replicate n (0 : Int)).set 1 0).set 0 1) [] 1 := by
  have e1 : (List.replicate n (0 : Int)).set 1 0 = List.replicate n 0 := by
    refine List.ext_getElem? fun i => ?_
    by_cases h : i = 1
    · subst h
      rw [List.getElem?_set_self (by rw [List.length_replicate]; omega), List.getElem?_replicate, if_pos (by omega)]
    · rw [List.getElem?_set_ne (Ne.symm h)]
  rw [e1]
  have hl : ((List.replicate n (0 : Int)).set 0 1).length = n := by rw [List.length_set, List.length_replicate]
  refine ⟨.inl rfl, ?_, ?_, ?_, fun t h => by cases h⟩
  · rw [List.getElem?_set_self (by rw [List.length_replicate]; omega)]
    rfl
  · intro i x e
    rw [hl]
    have e' : ([(0 : Int)] : List Int)[i]? = some x := e
    cases i with
    | zero =>
      have ex : x = 0 := by simpa using e'.symm
      subst ex
      show ((List.replicate n (0 : Int)).set 0 1)[1 + 0 * area n + 0]? = some 0
      rw [List.getElem?_set_ne (by omega), List.getElem?_replicate, if_pos (by omega)]
    | succ i => simp at e'
  · rw [hl]
    show 1 ≤ (n - 1) / 2
    omega
end J
namespace J
open PySem PySem.Spec PyProof.Rows L2
/-! ### 5. What the top has written -/
/-- a def of the module, by its name, that keeps a promise -/
structure Callee (P : Program) (w : World) (K : PySem.W.Frag) (mg : Str → Option Value) (base : Heap) (CX : CXT) (x : Str) (k : Nat) (ps : List Str) (sp : Sp) : Prop where
  ex : ∃ (f : Addr) (fd : FuncData), FnOk P w K mg base CX k f fd ps sp ∧ mg x = some (.ref f) ∧ PySem.W.keepIn K (.ref f) = true ∧ Binds K fd ps []
/-- a method of the class at C -/
structure MCallee (P : Program) (w : World) (K : PySem.W.Frag) (mg : Str → Option Value) (base : Heap) (CX : CXT) (C : Addr) (m : Str) (k : Nat) (ps : List Str) (sp : Sp) : Prop where
  ex : ∃ (f : Addr) (fd : FuncData), FnOk P w K mg base CX k f fd ps sp ∧ Meth K C m f ∧ Binds K fd ps []
/-- constants of the module, built-ins that it does not hide, its classes Device (D) and Journal (C) -/
structure Txt (K : PySem.W.Frag) (mg : Str → Option Value) (D C : Addr) : Prop where
  signs : ∃ t, mg "SIGNS" = some (.str SG t)
  record : ∃ t, mg "RECORD" = some (.int 1 t)
  end_ : ∃ t, mg "END" = some (.int 0 t)
  prefix_ : ∃ t, mg "PREFIX" = some (.int 3 t)
  len : mg "len" = none
  range : mg "range" = none
  int : mg "int" = none
  isi : mg "isinstance" = none
  list : mg "list" = none
  str : mg "str" = none
  dD : mg "Device" = some (.ref D)
  cD : Cls K D
  nDa : NoAttr K D "data"
  nSi : NoAttr K D "size"
  nPo : NoAttr K D "power"
  nWr : NoAttr K D "written"
  dC : mg "Journal" = some (.ref C)
  cC : Cls K C
  nDe : NoAttr K C "device"
/-! ### 6. Objects -/
theorem lk_hd {f : Str} {v : V} {fs : List (Str × V)} : List.lookup f ((f, v) :: fs) = some v := by rw [List.lookup_cons, beq_self_eq_true]
theorem lk_tl {f g : Str} {v : V} {fs : List (Str × V)} (h : (f == g) = false) : List.lookup f ((g, v) :: fs) = List.lookup f fs := by rw [List.lookup_cons, h]
/-- a device's fields -/
def df (l : Addr) (s : Int) (pw : V) (wr : Int) : List (Str × V) := [("data", .ref l), ("size", .int s), ("power", pw), ("written", .int wr)]
section
variable {l : Addr} {s wr : Int} {pw : V}
theorem df_data : (df l s pw wr).lookup ("data" : Str) = some (.ref l) := lk_hd
theorem df_size : (df l s pw wr).lookup ("size" : Str) = some (.int s) := (lk_tl (by decide +kernel)).trans lk_hd
theorem df_power : (df l s pw wr).lookup ("power" : Str) = some pw := (lk_tl (by decide +kernel)).trans ((lk_tl (by decide +kernel)).trans lk_hd)
theorem df_written : (df l s pw wr).lookup ("written" : Str) = some (.int wr) := (lk_tl (by decide +kernel)).trans ((lk_tl (by decide +kernel)).trans ((lk_tl (by decide +kernel)).trans lk_hd))
theorem df_no {m : Str} (h1 : (m == "data") = false) (h2 : (m == "size") = false) (h3 : (m == "power") = false) (h4 : (m == "written") = false) : (df l s pw wr).lookup m = none :=
  (lk_tl h1).trans ((lk_tl h2).trans ((lk_tl h3).trans (lk_tl h4)))
theorem pf_hd {f : Str} {v y : V} {fs : List (Str × V)} : putF f y ((f, v) :: fs) = (f, y) :: fs := if_pos rfl
theorem pf_tl {f g : Str} {v y : V} {fs : List (Str × V)} (h : ¬ g = f) : putF f y ((g, v) :: fs) = (g, v) :: putF f y fs := if_neg h
theorem df_put_power {p : V} : putF "power" p (df l s pw wr) = df l s p wr := by
  unfold df
  rw [pf_tl (by decide +kernel), pf_tl (by decide +kernel), pf_hd]
theorem df_put_written {z : Int} : putF "written" (.int z) (df l s pw wr) = df l s pw z := by
  unfold df
  rw [pf_tl (by decide +kernel), pf_tl (by decide +kernel), pf_tl (by decide +kernel), pf_hd]
end
/-- at d: a device whose bytes are bs, in the list at l -/
structure DevAt (D : Addr) (H : Hp) (d l : Addr) (pw : V) (wr : Int) (bs : List Int) : Prop where
  dev : ∃ dx, H d = some (.ins D dx (df l bs.length pw wr))
  lst : H l = some (.lst (bs.map V.int))
/-- at j: the journal of the device at d -/
def JAt (C : Addr) (H : Hp) (j d : Addr) : Prop := ∃ jx, H j = some (.ins C jx [(("device" : Str), .ref d)])
/-- all but what stands at d and l is as it was -/
def Keep (d l : Addr) (H H' : Hp) : Prop := ∀ b o, H b = some o → b ≠ d → b ≠ l → H' b = some o
theorem Keep.refl (d l : Addr) (H : Hp) : Keep d l H H := fun _ _ e _ _ => e
theorem Keep.trans {d l : Addr} {H H1 H2 : Hp} (a : Keep d l H H1) (b : Keep d l H1 H2) : Keep d l H H2 := fun c o e h1 h2 => b c o (a c o e h1 h2) h1 h2
theorem Keep.of {d l : Addr} {H H1 : Hp} (a : Same H H1) : Keep d l H H1 := fun c o e _ _ => a c o e
theorem DevAt.same {D : Addr} {H H' : Hp} {d l : Addr} {pw : V} {wr : Int} {bs : List Int} (a : DevAt D H d l pw wr bs) (s : Same H H') : DevAt D H' d l pw wr bs := by
  obtain ⟨⟨dx, h⟩, g⟩ := a
  exact ⟨⟨dx, s _ _ h⟩, s _ _ g⟩
theorem DevAt.ne {D : Addr} {H : Hp} {d l : Addr} {pw : V} {wr : Int} {bs : List Int} (a : DevAt D H d l pw wr bs) : d ≠ l := by
  obtain ⟨⟨dx, h⟩, g⟩ := a
  exact ne_of h g (fun q => by cases q)
theorem JAt.same {C : Addr} {H H' : Hp} {j d : Addr} (a : JAt C H j d) (s : Same H H') : JAt C H' j d := by
  obtain ⟨jx, h⟩ := a
  exact ⟨jx, s _ _ h⟩
theorem JAt.keep {C : Addr} {H H' : Hp} {j d d' l : Addr} (a : JAt C H j d) (s : Keep d' l H H') (h1 : j ≠ d') (h2 : j ≠ l) : JAt C H' j d := by
  obtain ⟨jx, h⟩ := a
  exact ⟨jx, s _ _ h h1 h2⟩
theorem same_upd {H : Hp} {p : Addr} {o : HO} (h : H p = none) : Same H (upd H p o) := fun b u e => by
  rw [upd_ne (ne_of_none e h)]
  exact e
theorem same_thn {H H1 : Hp} {p : Addr} {o : HO} (s : Same H H1) (h : H p = none) : Same H (L2.upd H1 p o) := fun b u e => by
  rw [upd_ne (ne_of_none e h)]
  exact s b u e
theorem len_str {z : Str} (h : z.length ≤ 1000) : z.length ≤ sizeLine := Nat.le_trans h (by decide)
/-! ### 7. Signs -/
abbrev sByteOf : Stmt := top 6
abbrev sBytesOf : Stmt := top 7
abbrev sTextOf : Stmt := top 8
def spByteOf : Sp := fun vs H Q _ => ∃ c : Nat, vs = [.str ⟨#[c]⟩] ∧ Q (.int (byteOf c)) H
def spBytesOf : Sp := fun vs H Q _ => ∃ z : Str, vs = [.str z] ∧ z.length ≤ 1000 ∧ ∀ H' p, Same H H' → H p = none → H' p = some (.lst ((bytesOf z).map V.int)) → Q (.ref p) H'
def spTextOf : Sp := fun vs H Q _ => ∃ (r : Addr) (z : Str), vs = [.ref r] ∧ H r = some (.lst ((bytesOf z).map V.int)) ∧ Plain z ∧ z.length ≤ 1000 ∧ ∀ H', Same H H' → Q (.str z) H'
section
variable {P : Program} {w : World} {K : PySem.W.Frag} {mg : Str → Option Value} {base : Heap} {D C : Addr}
theorem scByteOf : FnScope ["sign"] ["sign"] (defScope sByteOf) := ⟨rfl, rfl, rfl, by decide +kernel, rfl, by decide +kernel, by decide +kernel⟩
theorem ok_byte_of {f : Addr} {fd : FuncData} (F : Fun K "byte_of" "byte_of" sByteOf f fd) (T : Txt K mg D C) : FnOk P w K mg base CX0 5 f fd ["sign"] spByteOf := by
  refine F.ok scByteOf (fun vs H Q E h => ?_) (fun cdv A outer s H vs Q E hr h => ?_)
  · obtain ⟨c, rfl, _⟩ := h
    rfl
  · obtain ⟨c, rfl, k⟩ := h
    obtain ⟨t, hs⟩ := T.signs
    refine ⟨_, pss_one (ps_ret (pe_op op_add (pe_m1 PySem.F.slot_str_find PySem.F.type_str_find mt_find (pe_glob (v := .str SG) rfl hs ⟨_, rfl⟩) (pv 0)) pe_int)), ?_⟩
    exact ⟨⟨_, rfl⟩, _, rfl, _, _, rfl, rfl, _, _, rfl, rfl, k⟩
theorem scBytesOf : FnScope ["text", "sign"] ["text"] (defScope sBytesOf) := ⟨rfl, rfl, rfl, by decide +kernel, rfl, by decide +kernel, by decide +kernel⟩
theorem ok_bytes_of {f : Addr} {fd : FuncData} (F : Fun K "bytes_of" "bytes_of" sBytesOf f fd) (T : Txt K mg D C) (B : Callee P w K mg base CX0 "byte_of" 5 ["sign"] spByteOf) : FnOk P w K mg base CX0 7 f fd ["text"] spBytesOf := by
  obtain ⟨fB, fdB, GB, mB, kB, bB⟩ := B.ex
  refine F.ok scBytesOf (fun vs H Q E h => ?_) (fun cdv A outer s H vs Q E hr h => ?_)
  · obtain ⟨z, rfl, _⟩ := h
    rfl
  · obtain ⟨z, rfl, hz, k⟩ := h
    have hr1 : Room 5 _ := hr.mono (by decide)
    refine ⟨_, pss_one (ps_ret (pe_lc (own := [("sign", 1)]) (g := gName 1) (tt := tYes) rfl scBytesOf.nd (pi_str (pv 0)) (blkOk_by (own := [("sign", 1)]) (N := ["text", "sign"]) (sc := defScope sBytesOf) (by decide +kernel))
      (fun _ _ _ _ _ => pg_name (i := 1) scBytesOf.nd rfl (Or.inl rfl)) (fun _ _ _ _ _ => pts_nil) (fun _ _ _ _ _ => pe_call GB hr1 rfl mB kB bB .nil pass0 (pa_cons (pv 1) pa_nil)))), ?_⟩
    refine ⟨_, rfl, _, rfl, fun p hp => lc_it walk_str (fun i H' => Same H H' ∧ H' p = some (.lst ((((z.cps.toList.map byteOf)).take i).map V.int))) ⟨same_upd hp, upd_same⟩ (fun _ _ _ _ => True.intro) ?_ ?_⟩
    · rintro i x H1 H2 hi ⟨s1, h1⟩ ⟨rfl, c, hc, rfl⟩
      refine ⟨rfl, ⟨_, rfl, c, rfl, _, h1, ?_, ?_, ?_⟩⟩
      · rw [List.length_map, List.length_take, List.length_map, Array.length_toList]
        have : z.cps.size ≤ 1000 := hz
        have : 1000 < sizeLine := by decide
        omega
      · exact same_thn s1 hp
      · rw [upd_same]
        have e : (z.cps.toList.map byteOf)[i]? = some (byteOf c) := by rw [List.getElem?_map, Array.getElem?_toList, hc]; rfl
        rw [List.take_succ, e, List.map_append]
        rfl
    · rintro H1 ⟨s1, h1⟩
      refine k H1 p s1 hp ?_
      rw [h1]
      have e : z.cps.size = (z.cps.toList.map byteOf).length := by rw [List.length_map, Array.length_toList]
      rw [e, List.take_length]
      rfl
theorem join_list : ∀ l : List Nat, (PySem.Str.join Str.empty (l.map fun c => (⟨#[c]⟩ : Str))).cps.toList = l
  | [] => rfl
  | [_] => rfl
  | c :: d :: l => by
    have ih := join_list (d :: l)
    show ((⟨#[c]⟩ : Str) ++ Str.empty ++ PySem.Str.join Str.empty ((d :: l).map fun c => (⟨#[c]⟩ : Str))).cps.toList = _
    rw [PySem.Str.cps_append, Array.toList_append, ih]
    rfl
theorem join_signs (z : Str) : PySem.Txt.join Str.empty (z.cps.toList.map fun c => (⟨#[c]⟩ : Str)) = z := by
  rw [TL.join_eq]
  obtain ⟨a⟩ := z
  have q := join_list a.toList
  have e : (PySem.Str.join Str.empty (a.toList.map fun c => (⟨#[c]⟩ : Str))).cps = a := Array.toList_inj.mp q
  cases hx : PySem.Str.join Str.empty (a.toList.map fun c => (⟨#[c]⟩ : Str)) with
  | mk b =>
    rw [hx] at e
    rw [show b = a from e]
theorem sum_signs : ∀ l : List Nat, ((l.map fun c => (⟨#[c]⟩ : Str)).map PySem.Str.length).sum = l.length
  | [] => rfl
  | c :: l => by
    have ih := sum_signs l
    show (1 :: (l.map fun c => (⟨#[c]⟩ : Str)).map PySem.Str.length).sum = l.length + 1
    rw [List.sum_cons, ih, Nat.add_comm]
theorem scTextOf : FnScope ["row", "byte"] ["row"] (defScope sTextOf) := ⟨rfl, rfl, rfl, by decide +kernel, rfl, by decide +kernel, by decide +kernel⟩
theorem ok_text_of {f : Addr} {fd : FuncData} (F : Fun K "text_of" "text_of" sTextOf f fd) (T : Txt K mg D C) : FnOk P w K mg base CX0 7 f fd ["row"] spTextOf := by
  refine F.ok scTextOf (fun vs H Q E h => ?_) (fun cdv A outer s H vs Q E hr h => ?_)
  · obtain ⟨r, z, rfl, _⟩ := h
    rfl
  · obtain ⟨r, z, rfl, hR, hP, hz, k⟩ := h
    obtain ⟨t, hs⟩ := T.signs
    refine ⟨_, pss_one (ps_ret (pe_join pe_str (pe_lc (own := [("byte", 1)]) (g := gName 1) (tt := tYes) rfl scTextOf.nd (pi_list (pv 0)) (blkOk_by (own := [("byte", 1)]) (N := ["row", "byte"]) (sc := defScope sTextOf) (by decide +kernel))
      (fun _ _ _ _ _ => pg_name (i := 1) scTextOf.nd rfl (Or.inl rfl)) (fun _ _ _ _ _ => pts_nil) (fun _ _ _ _ _ => pe_ix ix_str (pe_glob (v := .str SG) rfl hs ⟨_, rfl⟩) (pe_op op_sub (pv 1) pe_int) (fun _ _ => rfl))))), ?_⟩
    refine ⟨⟨_, rfl⟩, _, rfl, r, rfl, ⟨_, SqL.of hR⟩, fun p hp => lc_it (walk_list (xs := (bytesOf z).map V.int)) (fun i H' => Same H H' ∧ H' p = some (.lst ((((z.cps.toList.map fun c => (⟨#[c]⟩ : Str))).take i).map V.str))) ⟨same_upd hp, upd_same⟩ (fun i H' _ h' => SqL.of (h'.1 _ _ hR)) ?_ ?_⟩
    · rintro i x H1 H2 hi ⟨s1, h1⟩ ⟨rfl, hx⟩
      rw [List.getElem?_map] at hx
      obtain ⟨c, hc, rfl⟩ : ∃ c, z.cps.toList[i]? = some c ∧ x = V.int (byteOf c) := by
        unfold bytesOf at hx
        rw [List.getElem?_map] at hx
        cases e : z.cps.toList[i]? with
        | none => rw [e] at hx; cases hx
        | some c => rw [e] at hx; exact ⟨c, rfl, (Option.some.inj hx).symm⟩
      obtain ⟨j, hj, ej, hat⟩ := byteOf_at (hP c (List.mem_of_getElem? hc))
      refine ⟨rfl, ⟨_, rfl, _, _, rfl, rfl, SG, _, c, rfl, rfl, by rw [SG_length]; decide, ?_, _, h1, ?_, same_thn s1 hp, ?_⟩⟩
      · rw [ej, show (j : Int) + 1 - 1 = (j : Int) by omega]
        exact atI_nat hat
      · rw [List.length_map, List.length_take, List.length_map, Array.length_toList]
        have : z.cps.size ≤ 1000 := hz
        have : 1000 < sizeLine := by decide
        omega
      · rw [upd_same]
        have e : (z.cps.toList.map fun c => (⟨#[c]⟩ : Str))[i]? = some ⟨#[c]⟩ := by rw [List.getElem?_map, hc]; rfl
        rw [List.take_succ, e, List.map_append]
        rfl
    · rintro H1 ⟨s1, h1⟩
      have e : ((bytesOf z).map V.int).length = (z.cps.toList.map fun c => (⟨#[c]⟩ : Str)).length := by rw [List.length_map, bytesOf_len, List.length_map, Array.length_toList]; rfl
      rw [e, List.take_length] at h1
      refine ⟨_, p, _, rfl, rfl, .inl (SqL.of h1), ?_, ?_⟩
      · rw [sum_signs, Array.length_toList]
        show z.cps.size + _ * 0 ≤ 16777216
        have : z.cps.size ≤ 1000 := hz
        omega
      · have q := join_signs z
        show Q (.str (PySem.Txt.join Str.empty _)) H1
        rw [q]
        exact k H1 s1
end
end J
namespace J
open PySem PySem.Spec PyProof.Rows L2
/-! ### 8. Areas, records read -/
abbrev sAreaSize : Stmt := top 13
abbrev sAreaStart : Stmt := top 14
abbrev sValid : Stmt := top 15
abbrev sRecord : Stmt := top 16
abbrev sReadRec : Stmt := top 17
abbrev sDevInit : Stmt := inClass (top 21) 0
abbrev sRecharge : Stmt := inClass (top 21) 1
abbrev sWrite : Stmt := inClass (top 21) 2
abbrev sRead : Stmt := inClass (top 21) 3
def spAreaSize (D : Addr) : Sp := fun vs H Q _ => ∃ (d l : Addr) (pw : V) (wr : Int) (bs : List Int), vs = [.ref d] ∧ DevAt D H d l pw wr bs ∧ 0 < bs.length ∧ Q (.int (area bs.length)) H
def spAreaStart (D : Addr) : Sp := fun vs H Q _ => ∃ (d l : Addr) (pw : V) (wr : Int) (bs : List Int) (v : Nat), vs = [.ref d, .int v] ∧ DevAt D H d l pw wr bs ∧ 0 < bs.length ∧ (v = 1 ∨ v = 2) ∧ Q (.int (astart bs.length v)) H
def spValid (D : Addr) : Sp := fun vs H Q _ => ∃ (d l : Addr) (pw : V) (wr : Int) (bs : List Int) (v : Nat), vs = [.ref d] ∧ DevAt D H d l pw wr bs ∧ bs[0]? = some (v : Int) ∧ (v = 1 ∨ v = 2) ∧ Q (.int v) H
def spRecord : Sp := fun vs H Q _ => ∃ z : Str, vs = [.str z] ∧ z.length ≤ 1000 ∧ ∀ H' p, Same H H' → H p = none → H' p = some (.lst ((enc z).map V.int)) → Q (.ref p) H'
def spRead (D : Addr) : Sp := fun vs H Q _ => ∃ (d l : Addr) (pw : V) (wr : Int) (bs : List Int) (p n : Nat), vs = [.ref d, .int p, .int n] ∧ DevAt D H d l pw wr bs ∧ p + n ≤ bs.length ∧ bs.length ≤ 1000 ∧
  ∀ H' a, Same H H' → H a = none → H' a = some (.lst (((bs.drop p).take n).map V.int)) → Q (.ref a) H'
def spReadRec (D : Addr) : Sp := fun vs H Q _ => ∃ (d l : Addr) (pw : V) (wr : Int) (bs : List Int) (ts : List Str) (v : Nat), vs = [.ref d, .int v] ∧ DevAt D H d l pw wr bs ∧ bs.length ≤ 1000 ∧ (v = 1 ∨ v = 2) ∧
  Laid bs (astart bs.length v) (encs ts ++ [0]) ∧ (∀ t ∈ ts, Plain t ∧ t.length ≤ 12) ∧
  ∀ H' t tl, Same H H' → H t = none → H tl = none → H' t = some (.tup [.ref tl, .int (place bs ts v)]) → H' tl = some (.lst (ts.map V.str)) → Q (.ref t) H'
section
variable {P : Program} {w : World} {K : PySem.W.Frag} {mg : Str → Option Value} {base : Heap} {D C : Addr}
theorem scAreaSize : FnScope ["device"] ["device"] (defScope sAreaSize) := ⟨rfl, rfl, rfl, by decide +kernel, rfl, by decide +kernel, by decide +kernel⟩
theorem ok_area_size {f : Addr} {fd : FuncData} (F : Fun K "area_size" "area_size" sAreaSize f fd) (T : Txt K mg D C) : FnOk P w K mg base CX0 5 f fd ["device"] (spAreaSize D) := by
  refine F.ok scAreaSize (fun vs H Q E h => ?_) (fun cdv A outer s H vs Q E hr h => ?_)
  · obtain ⟨d, l, pw, wr, bs, rfl, _⟩ := h
    rfl
  · obtain ⟨d, l, pw, wr, bs, rfl, ⟨⟨dx, hd⟩, hl⟩, hb, k⟩ := h
    refine ⟨_, pss_one (ps_ret (pe_op op_fdiv (pe_op op_sub (pe_fld (pv 0) rfl) pe_int) pe_int)), ?_⟩
    refine ⟨_, rfl, d, D, dx, _, _, rfl, hd, T.cD, T.nSi, df_size, _, _, rfl, rfl, _, _, rfl, rfl, ⟨by decide, by decide⟩, ?_⟩
    have e : ((bs.length : Int) - 1) / 2 = ((area bs.length : Nat) : Int) := by unfold area; omega
    show Q (.int (((bs.length : Int) - 1) / 2)) H
    rw [e]
    exact k
theorem scAreaStart : FnScope ["device", "number"] ["device", "number"] (defScope sAreaStart) := ⟨rfl, rfl, rfl, by decide +kernel, rfl, by decide +kernel, by decide +kernel⟩
theorem ok_area_start {f : Addr} {fd : FuncData} (F : Fun K "area_start" "area_start" sAreaStart f fd) (B : Callee P w K mg base CX0 "area_size" 5 ["device"] (spAreaSize D)) : FnOk P w K mg base CX0 6 f fd ["device", "number"] (spAreaStart D) := by
  obtain ⟨fB, fdB, GB, mB, kB, bB⟩ := B.ex
  refine F.ok scAreaStart (fun vs H Q E h => ?_) (fun cdv A outer s H vs Q E hr h => ?_)
  · obtain ⟨d, l, pw, wr, bs, v, rfl, _⟩ := h
    rfl
  · obtain ⟨d, l, pw, wr, bs, v, rfl, hD, hb, hv, k⟩ := h
    refine ⟨_, pss_one (ps_ret (pe_op op_add pe_int (pe_op op_mul (pe_op op_sub (pv 1) pe_int) (pe_call GB hr rfl mB kB bB .nil pass0 (pa_cons (pv 0) pa_nil))))), ?_⟩
    refine ⟨_, rfl, _, _, rfl, rfl, _, rfl, d, l, pw, wr, bs, rfl, hD, hb, _, _, rfl, rfl, .inl (by rcases hv with e | e <;> subst e <;> exact ⟨by decide, by decide⟩), _, _, rfl, rfl, ?_⟩
    have e : (1 : Int) + ((v : Int) - 1) * ((area bs.length : Nat) : Int) = ((astart bs.length v : Nat) : Int) := by
      unfold astart
      rcases hv with e | e <;> subst e <;> simp
    show Q (.int ((1 : Int) + ((v : Int) - 1) * ((area bs.length : Nat) : Int))) H
    rw [e]
    exact k
theorem scValid : FnScope ["device", "header"] ["device"] (defScope sValid) := ⟨rfl, rfl, rfl, by decide +kernel, rfl, by decide +kernel, by decide +kernel⟩
theorem ok_valid {f : Addr} {fd : FuncData} (F : Fun K "valid_area" "valid_area" sValid f fd) (T : Txt K mg D C) : FnOk P w K mg base CX0 5 f fd ["device"] (spValid D) := by
  refine F.ok scValid (fun vs H Q E h => ?_) (fun cdv A outer s H vs Q E hr h => ?_)
  · obtain ⟨d, l, pw, wr, bs, v, rfl, _⟩ := h
    rfl
  · obtain ⟨d, l, pw, wr, bs, v, rfl, ⟨⟨dx, hd⟩, hl⟩, h0, hv, k⟩ := h
    refine ⟨_, pss_cons (ps_set (i := 1) scValid.nd rfl (Or.inl rfl) (pe_ix ix_list (pe_fld (pv 0) rfl) pe_int (fun _ _ => rfl)))
      (pss_cons (ps_if (PW.pt (pw_or (pt_cmpR op_eq (pv 1) pe_int (nomark _)) (pw_or1 (pt_cmpR op_eq (pv 1) pe_int (nomark _))))) (pss_one (ps_ret (pv 1))) pss_nil) (pss_one (ps_ret pe_non))), ?_⟩
    have hat : atI (bs.map V.int) 0 = some (.int v) := atI_nat (j := 0) (by rw [List.getElem?_map, h0]; rfl)
    refine ⟨_, rfl, d, D, dx, _, _, rfl, hd, T.cD, T.nDa, df_data, l, _, _, _, rfl, rfl, SqL.of hl, hat, ?_⟩
    refine ⟨_, rfl, rfl, _, rfl, ?_⟩
    rcases hv with e | e
    · subst e
      exact ⟨_, rfl, k⟩
    · subst e
      exact ⟨_, rfl, rfl, _, rfl, ⟨_, rfl, k⟩⟩
theorem scRecord : FnScope ["text", "many"] ["text"] (defScope sRecord) := ⟨rfl, rfl, rfl, by decide +kernel, rfl, by decide +kernel, by decide +kernel⟩
theorem ok_record {f : Addr} {fd : FuncData} (F : Fun K "record_bytes" "record_bytes" sRecord f fd) (T : Txt K mg D C) (B : Callee P w K mg base CX0 "bytes_of" 7 ["text"] spBytesOf) : FnOk P w K mg base CX0 8 f fd ["text"] spRecord := by
  obtain ⟨fB, fdB, GB, mB, kB, bB⟩ := B.ex
  refine F.ok scRecord (fun vs H Q E h => ?_) (fun cdv A outer s H vs Q E hr h => ?_)
  · obtain ⟨z, rfl, _⟩ := h
    rfl
  · obtain ⟨z, rfl, hz, k⟩ := h
    obtain ⟨t, hs⟩ := T.record
    refine ⟨_, pss_cons (ps_set (i := 1) scRecord.nd rfl (Or.inl rfl) (pe_callB call_len_str (by rfl) T.len PySem.boot_len (pa_cons (pv 0) pa_nil)))
      (pss_one (ps_ret (pe_op op_cat (pe_lst (pa_cons (pe_glob (v := .int 1) rfl hs ⟨_, rfl⟩) (pa_cons (pe_op op_mod (pv 1) pe_int) (pa_cons (pe_op op_fdiv (pv 1) pe_int) pa_nil))))
        (pe_call GB hr rfl mB kB bB .nil pass0 (pa_cons (pv 0) pa_nil))))), ?_⟩
    refine ⟨_, rfl, _, rfl, len_str hz, ?_⟩
    refine ⟨_, rfl, _, _, rfl, rfl, (by show (0 : Int) < 256; decide), _, rfl, _, _, rfl, rfl, ⟨by decide, by decide⟩, (by show 3 ≤ sizeLine; decide), fun a ha => ?_⟩
    refine ⟨_, rfl, z, rfl, hz, fun H1 b s1 hb h1 => ?_⟩
    have h0 := s1 a _ upd_same
    have hb0 : H b = none := by
      cases e : H b with
      | none => rfl
      | some o =>
        rw [same_upd ha b o e] at hb
        cases hb
    refine ⟨a, b, _, _, rfl, rfl, h0, h1, ?_, fun p hp => ?_⟩
    · rw [List.length_map, bytesOf_len]
      show 3 + z.length ≤ sizeLine
      have : 1003 ≤ sizeLine := by decide
      omega
    · have sa : Same H H1 := (same_upd ha).trans s1
      refine k _ p (sa.trans (same_upd hp)) (sa.free hp) ?_
      rw [upd_same]
      rfl
theorem scRead : FnScope ["self", "start", "many"] ["self", "start", "many"] (defScope sRead) := ⟨rfl, rfl, rfl, by decide +kernel, rfl, by decide +kernel, by decide +kernel⟩
theorem ok_read {f : Addr} {fd : FuncData} (F : Fun K "read" "Device.read" sRead f fd) (T : Txt K mg D C) : FnOk P w K mg base CX0 5 f fd ["self", "start", "many"] (spRead D) := by
  refine F.ok scRead (fun vs H Q E h => ?_) (fun cdv A outer s H vs Q E hr h => ?_)
  · obtain ⟨d, l, pw, wr, bs, p, n, rfl, _⟩ := h
    rfl
  · obtain ⟨d, l, pw, wr, bs, p, n, rfl, ⟨⟨dx, hd⟩, hl⟩, hpn, hb, k⟩ := h
    refine ⟨_, pss_one (ps_ret (pe_slice sl_list (pe_fld (pv 0) rfl) (po_some (pv 1)) (po_some (pe_op op_add (pv 1) (pv 2))))), ?_⟩
    refine ⟨_, rfl, d, D, dx, _, _, rfl, hd, T.cD, T.nDa, df_data, _, rfl, _, rfl, _, rfl, _, rfl, _, _, rfl, rfl, _, rfl, l, _, rfl, SqL.of hl, fun a ha => ?_⟩
    refine k _ a (same_upd ha) ha ?_
    rw [upd_same]
    have e1 : HT.sIx (bs.map V.int).length 0 (some (p : Int)) = p := by rw [HT.sIx_nat, List.length_map]; omega
    have e2 : HT.sIx (bs.map V.int).length (bs.map V.int).length (some ((p : Int) + (n : Int))) = p + n := by
      rw [show (p : Int) + (n : Int) = ((p + n : Nat) : Int) by omega, HT.sIx_nat, List.length_map]; omega
    unfold cutV
    show some (HO.lst _) = _
    rw [e1, e2, Nat.add_sub_cancel_left, ← List.map_drop, ← List.map_take]
theorem encs_step {ts : List Str} {i : Nat} {t : Str} (h : ts[i]? = some t) : encs ts = encs (ts.take i) ++ (enc t ++ encs (ts.drop (i + 1))) ∧ encs (ts.take (i + 1)) = encs (ts.take i) ++ enc t := by
  have e1 : ts.take (i + 1) = ts.take i ++ [t] := by rw [List.take_succ, h]; rfl
  have e2 : encs (ts.take (i + 1)) = encs (ts.take i) ++ enc t := by rw [e1, encs_append, encs_one]
  refine ⟨?_, e2⟩
  have e3 : encs ts = encs (ts.take (i + 1) ++ ts.drop (i + 1)) := by rw [List.take_append_drop]
  rw [e3, encs_append, e2, List.append_assoc]
theorem len_le_encs : ∀ ts : List Str, ts.length ≤ (encs ts).length
  | [] => Nat.le_refl _
  | t :: ts => by
    have ih := len_le_encs ts
    show ts.length + 1 ≤ (enc t ++ encs ts).length
    rw [List.length_append, enc_len]
    omega
theorem enc_at (t : Str) : (enc t)[0]? = some 1 ∧ (enc t)[1]? = some ((t.length : Int) % 256) ∧ (enc t)[2]? = some ((t.length : Int) / 256) := ⟨rfl, rfl, rfl⟩
theorem scReadRec : FnScope ["device", "number", "place", "texts", "many"] ["device", "number"] (defScope sReadRec) := ⟨rfl, rfl, rfl, by decide +kernel, rfl, by decide +kernel, by decide +kernel⟩
theorem ok_read_rec {f : Addr} {fd : FuncData} (F : Fun K "read_records" "read_records" sReadRec f fd) (T : Txt K mg D C) (BA : Callee P w K mg base CX0 "area_start" 6 ["device", "number"] (spAreaStart D)) (BT : Callee P w K mg base CX0 "text_of" 7 ["row"] spTextOf)
    (BR : MCallee P w K mg base CX0 D "read" 5 ["self", "start", "many"] (spRead D)) : FnOk P w K mg base CX0 8 f fd ["device", "number"] (spReadRec D) := by
  obtain ⟨fA, fdA, GA, mA, kA, bA⟩ := BA.ex
  obtain ⟨fT, fdT, GT, mT, kT, bT⟩ := BT.ex
  obtain ⟨fR, fdR, GR, mR, bR⟩ := BR.ex
  refine F.ok scReadRec (fun vs H Q E h => ?_) (fun cdv A outer s H vs Q E hr h => ?_)
  · obtain ⟨d, l, pw, wr, bs, ts, v, rfl, _⟩ := h
    rfl
  · obtain ⟨d, l, pw, wr, bs, ts, v, rfl, hD, hb, hv, hL, hP, k⟩ := h
    obtain ⟨tR, hsR⟩ := T.record
    obtain ⟨tP, hsP⟩ := T.prefix_
    have hr5 : Room 5 _ := hr.mono (by decide)
    have hr6 : Room 6 _ := hr.mono (by decide)
    have hpos : 0 < bs.length := by
      have q := hL (encs ts).length 0 (by rw [List.getElem?_append_right (Nat.le_refl _), Nat.sub_self]; rfl)
      have := (List.getElem?_eq_some_iff.mp q).1
      omega
    refine ⟨_, pss_cons (ps_set (i := 2) scReadRec.nd rfl (Or.inl rfl) (pe_call GA hr6 rfl mA kA bA .nil pass0 (pa_cons (pv 0) (pa_cons (pv 1) pa_nil))))
      (pss_cons (ps_set (i := 3) scReadRec.nd rfl (Or.inl rfl) (pe_lst pa_nil))
      (pss_cons (ps_while PassesOwn.never (pt_cmpR op_eq (pe_ix ix_list (pe_fld (pv 0) rfl) (pv 2) (fun _ _ => rfl)) (pe_glob (v := .int 1) rfl hsR ⟨_, rfl⟩) (nomark _))
        (pss_cons (ps_set (i := 4) scReadRec.nd rfl (Or.inl rfl) (pe_op op_add (pe_ix ix_list (pe_fld (pv 0) rfl) (pe_op op_add (pv 2) pe_int) (fun _ _ => rfl)) (pe_op op_mul pe_int (pe_ix ix_list (pe_fld (pv 0) rfl) (pe_op op_add (pv 2) pe_int) (fun _ _ => rfl)))))
        (pss_cons (ps_expr (pe_bm PySem.F.plainAttrs_list PySem.F.slot_list_append PySem.F.type_list_append mt_append (pv 3)
          (pa_cons (pe_call GT hr rfl mT kT bT .nil pass0 (pa_cons (pe_meth (pv 0) T.cD mR GR hr5 bR .nil pass0 (pa_cons (pe_op op_add (pv 2) (pe_glob (v := .int 3) rfl hsP ⟨_, rfl⟩)) (pa_cons (pv 4) pa_nil))) pa_nil)) pa_nil)))
        (pss_one (ps_aug (i := 2) scReadRec.nd rfl (Or.inl rfl) (pe_op op_add (pe_glob (v := .int 3) rfl hsP ⟨_, rfl⟩) (pv 4)) ip_add)))))
      (pss_one (ps_ret (pe_tup (pa_cons (pv 3) (pa_cons (pv 2) pa_nil))))))), ?_⟩
    refine ⟨_, rfl, _, rfl, d, l, pw, wr, bs, v, rfl, hD, hpos, hv, ?_⟩
    refine ⟨Nat.zero_le _, fun tl htl => ?_⟩
    refine ⟨fun m σ H' => ∃ (i : Nat) (mv : Option V), m = ts.length - i ∧ i ≤ ts.length ∧ σ = [some (.ref d), some (.int v), some (.int ((astart bs.length v + (encs (ts.take i)).length : Nat) : Int)), some (.ref tl), mv] ∧ Same H H' ∧ H' tl = some (.lst ((ts.take i).map V.str)),
      ⟨ts.length, 0, none, by omega, Nat.zero_le _, rfl, same_upd htl, upd_same⟩, ?_⟩
    rintro m σ H1 ⟨i, mv, rfl, hi, rfl, s1, h1⟩
    have hD1 := hD.same s1
    obtain ⟨⟨dx, hd⟩, hl⟩ := hD1
    have at_ : ∀ {j : Nat} {x : Int}, bs[j]? = some x → atI (bs.map V.int) (j : Int) = some (.int x) := fun {j x} e => atI_nat (by rw [List.getElem?_map, e]; rfl)
    by_cases hlt : i < ts.length
    · obtain ⟨t, ht⟩ : ∃ t, ts[i]? = some t := ⟨ts[i], List.getElem?_eq_getElem hlt⟩
      obtain ⟨e1, e2⟩ := encs_step ht
      obtain ⟨pt, lt⟩ := hP t (List.mem_of_getElem? ht)
      have hL1 : Laid bs (astart bs.length v + (encs (ts.take i)).length) (enc t) := by
        have q : Laid bs (astart bs.length v) (encs (ts.take i) ++ (enc t ++ (encs (ts.drop (i + 1)) ++ [0]))) := by
          rw [e1, List.append_assoc, List.append_assoc] at hL
          exact hL
        exact q.right.left
      obtain ⟨p, hp⟩ : ∃ p, p = astart bs.length v + (encs (ts.take i)).length := ⟨_, rfl⟩
      rw [← hp] at hL1 ⊢
      have b0 := hL1 0 _ (enc_at t).1
      have b1 := hL1 1 _ (enc_at t).2.1
      have b2 := hL1 2 _ (enc_at t).2.2
      have hend : p + 3 + t.length ≤ bs.length := by
        have q := hL1 (t.length + 2) ((enc t)[t.length + 2]'(by rw [enc_len]; omega)) (List.getElem?_eq_getElem _)
        have := (List.getElem?_eq_some_iff.mp q).1
        omega
      have hrow : ((bs.drop (p + 3)).take t.length) = bytesOf t := by
        have q : Laid bs (p + 3) (bytesOf t) := fun j x e => by
          have z := hL1 (j + 3) x (by show (1 :: _ :: _ :: bytesOf t)[j + 3]? = some x; simpa using e)
          rw [show p + 3 + j = p + (j + 3) by omega]
          exact z
        have z := q.take
        rw [bytesOf_len] at z
        exact z
      -- the test: a record stands here
      refine ⟨_, rfl, d, D, dx, _, _, rfl, hd, T.cD, T.nDa, df_data, _, rfl, l, _, _, _, rfl, rfl, SqL.of hl, at_ b0, rfl, _, rfl, ?_⟩
      refine ⟨fun σ' H' => ∃ m', m' < ts.length - i ∧ ∃ (i : Nat) (mv : Option V), m' = ts.length - i ∧ i ≤ ts.length ∧ σ' = [some (.ref d), some (.int v), some (.int ((astart bs.length v + (encs (ts.take i)).length : Nat) : Int)), some (.ref tl), mv] ∧ Same H H' ∧ H' tl = some (.lst ((ts.take i).map V.str)), fun σ' H' q => q, ?_⟩
      -- many
      have em : ((t.length : Int) % 256) + 256 * ((t.length : Int) / 256) = (t.length : Int) := by omega
      refine ⟨_, rfl, d, D, dx, _, _, rfl, hd, T.cD, T.nDa, df_data, _, rfl, _, _, rfl, rfl, l, _, _, _, rfl, rfl, SqL.of hl, at_ (j := p + 1) b1,
        _, rfl, d, D, dx, _, _, rfl, hd, T.cD, T.nDa, df_data, _, rfl, _, _, rfl, rfl, l, _, _, _, rfl, rfl, SqL.of hl, at_ (j := p + 2) b2, _, _, rfl, rfl, .inl ⟨by decide, by decide⟩, _, _, rfl, rfl, ?_⟩
      show tSeq _ _ _ (List.set _ 4 (some (.int (((t.length : Int) % 256) + 256 * ((t.length : Int) / 256))))) _
      rw [em]
      -- texts.append(text_of(device.read(place + PREFIX, many)))
      refine ⟨_, rfl, .inl ⟨rfl, _, SqL.of h1⟩, _, rfl, d, dx, _, rfl, hd, df_no (by decide +kernel) (by decide +kernel) (by decide +kernel) (by decide +kernel), _, rfl, _, _, rfl, rfl, _, rfl,
        d, l, pw, wr, bs, p + 3, t.length, rfl, ⟨⟨dx, hd⟩, hl⟩, hend, hb, fun H2 a s2 ha h2 => ?_⟩
      rw [hrow] at h2
      refine ⟨a, t, rfl, h2, pt, by omega, fun H3 s3 => ?_⟩
      have s13 : Same H1 H3 := s2.trans s3
      refine ⟨tl, _, _, rfl, rfl, s13 _ _ h1, ?_, ?_⟩
      · have q : (ts.take i).length ≤ (encs (ts.take i)).length := len_le_encs _
        rw [List.length_map]
        have : 1000 < sizeLine := by decide
        omega
      -- place += PREFIX + many
      · refine ⟨_, rfl, _, rfl, _, _, rfl, rfl, _, _, rfl, rfl, ?_⟩
        refine ⟨ts.length - (i + 1), by omega, i + 1, some (.int t.length), rfl, hlt, ?_, same_thn (s1.trans s13) htl, ?_⟩
        · have e3 : (p : Int) + (3 + (t.length : Int)) = ((astart bs.length v + (encs (ts.take (i + 1))).length : Nat) : Int) := by
            rw [e2, List.length_append, enc_len, hp]
            omega
          show [some (V.ref d), some (V.int v), some (V.int ((p : Int) + (3 + (t.length : Int)))), some (V.ref tl), some (V.int t.length)] = _
          rw [e3]
        · rw [upd_same, List.take_succ, ht, List.map_append]
          rfl
    · have ei : i = ts.length := by omega
      subst ei
      rw [List.take_length] at h1 ⊢
      have b0 := hL (encs ts).length 0 (by rw [List.getElem?_append_right (Nat.le_refl _), Nat.sub_self]; rfl)
      refine ⟨_, rfl, d, D, dx, _, _, rfl, hd, T.cD, T.nDa, df_data, _, rfl, l, _, _, _, rfl, rfl, SqL.of hl, at_ b0, rfl, _, rfl, ?_⟩
      refine ⟨_, rfl, _, rfl, (by show 2 ≤ sizeLine; decide), fun t ht => ?_⟩
      exact k _ t tl (s1.trans (same_upd ht)) (s1.free ht) htl upd_same ((same_upd ht) _ _ h1)
end
end J
namespace J
open PySem PySem.Spec PyProof.Rows L2
/-! ### 9. The device -/
/-- the power is none, or a number from 0 -/
def Pow (pw : V) : Prop := pw = .non ∨ ∃ k : Nat, pw = .int k
def spDevInit (D : Addr) : Sp := fun vs H Q _ => ∃ (x dx : Addr) (n : Nat), vs = [.ref x, .int n, .non] ∧ n ≤ 1000 ∧ H x = some (.ins D dx []) ∧
  ∀ H' l, DevAt D H' x l .non 0 (List.replicate n 0) → (∀ b o, H b = some o → b ≠ x → H' b = some o) → H l = none → Q .non H'
def spRecharge (D : Addr) : Sp := fun vs H Q _ => ∃ (d l : Addr) (pw q : V) (wr : Int) (bs : List Int), vs = [.ref d, q] ∧ DevAt D H d l pw wr bs ∧ ∀ H', DevAt D H' d l q wr bs → Keep d l H H' → Q .non H'
def spWrite (D PC : Addr) : Sp := fun vs H Q E => ∃ (d l r : Addr) (pw : V) (wr : Int) (bs row : List Int) (p : Nat), vs = [.ref d, .int p, .ref r] ∧ DevAt D H d l pw wr bs ∧ H r = some (.lst (row.map V.int)) ∧ r ≠ l ∧ p + row.length ≤ bs.length ∧ bs.length ≤ 1000 ∧ Pow pw ∧
  0 ≤ wr ∧ wr ≤ 1000000000 ∧
  (∀ H' pw', DevAt D H' d l pw' (wr + row.length) (put bs p row) → (pw = .non → pw' = .non) → Pow pw' → Keep d l H H' → Q .non H') ∧
  (pw ≠ .non → ∀ H' (k : Nat) wr' dd fs, k < row.length → DevAt D H' d l (.int 0) wr' (put bs p (row.take k)) → wr ≤ wr' → wr' ≤ wr + row.length → Keep d l H H' → H dd = none → H' dd = some (.xd fs) → E (.ref PC) (some dd) H')
theorem log2_small {n : Int} (h0 : 0 ≤ n) (h1 : n ≤ 2000000000) : n.natAbs.log2 < 1920 := by
  have h : n.natAbs < 2 ^ 31 := by
    have : n.natAbs ≤ 2000000000 := by omega
    have e : (2 : Nat) ^ 31 = 2147483648 := by decide
    omega
  by_cases hz : n.natAbs = 0
  · rw [hz]; decide
  · have q := (Nat.log2_lt hz (k := 31)).mpr h
    omega
/-- what PowerCut may be called with -/
def okCut (v : V) : Prop := ∃ n : Int, v = .int n ∧ 0 ≤ n ∧ n ≤ 2000000000
theorem Keep.upd_d {d l : Addr} {H H' : Hp} {o : HO} (k : Keep d l H H') : Keep d l H (upd H' d o) := fun b u e h1 h2 => by
  rw [upd_ne h1]
  exact k b u e h1 h2
theorem Keep.upd_l {d l : Addr} {H H' : Hp} {o : HO} (k : Keep d l H H') : Keep d l H (upd H' l o) := fun b u e h1 h2 => by
  rw [upd_ne h2]
  exact k b u e h1 h2
section
variable {P : Program} {w : World} {K : PySem.W.Frag} {mg : Str → Option Value} {base : Heap} {D C : Addr}
theorem scDevInit : FnScope ["self", "size", "power", "place"] ["self", "size", "power"] (defScope sDevInit) := ⟨rfl, rfl, rfl, by decide +kernel, rfl, by decide +kernel, by decide +kernel⟩
theorem ok_dev_init {f : Addr} {fd : FuncData} {kws : List (Str × V)} (F : FunD K "__init__" "Device.__init__" (defArgs sDevInit) (defBody sDevInit) (defScope sDevInit) [] kws f fd) (T : Txt K mg D C) : FnOk P w K mg base CX0 5 f fd ["self", "size", "power"] (spDevInit D) := by
  refine F.ok scDevInit (fun vs H Q E h => ?_) (fun cdv A outer s H vs Q E hr h => ?_)
  · obtain ⟨x, dx, n, rfl, _⟩ := h
    rfl
  · obtain ⟨x, dx, n, rfl, hn, hx, k⟩ := h
    refine ⟨_, pss_cons (ps_fld (pv 0) (pe_lc (own := [("place", 3)]) (g := gName 3) (tt := tYes) rfl scDevInit.nd (pi_range1 rfl T.range (pa_cons (pv 1) pa_nil)) (blkOk_by (own := [("place", 3)]) (N := ["self", "size", "power", "place"]) (sc := defScope sDevInit) (by decide +kernel))
        (fun _ _ _ _ _ => pg_name (i := 3) scDevInit.nd rfl (Or.inl rfl)) (fun _ _ _ _ _ => pts_nil) (fun _ _ _ _ _ => pe_int)) rfl)
      (pss_cons (ps_fld (pv 0) (pv 1) rfl) (pss_cons (ps_fld (pv 0) (pv 2) rfl) (pss_one (ps_fld (pv 0) pe_int rfl)))), ?_⟩
    refine ⟨_, rfl, (n : Int), rfl, by omega, by omega, fun l hl => ?_⟩
    refine lc_it (walk_range (lo := 0) (n := (n : Int).toNat)) (fun i H' => Same H H' ∧ H' l = some (.lst ((List.replicate i (0 : Int)).map V.int))) ⟨same_upd hl, upd_same⟩ (fun _ _ _ _ => True.intro) ?_ ?_
    · rintro i y H1 H2 hi ⟨s1, h1⟩ ⟨rfl, rfl⟩
      refine ⟨rfl, ⟨_, h1, ?_, same_thn s1 hl, ?_⟩⟩
      · rw [List.length_map, List.length_replicate]
        have : 1000 < sizeLine := by decide
        omega
      · rw [upd_same, List.replicate_succ', List.map_append]
        rfl
    · rintro H1 ⟨s1, h1⟩
      have hx1 := s1 _ _ hx
      have nxl : l ≠ x := fun e => by rw [e, hx] at hl; cases hl
      refine ⟨_, rfl, x, D, dx, _, rfl, hx1, T.cD, T.nDa, (by show 0 < 1000; decide), ?_⟩
      refine ⟨_, rfl, _, rfl, x, D, dx, _, rfl, upd_same, T.cD, T.nSi, (by show 1 < 1000; decide), ?_⟩
      refine ⟨_, rfl, _, rfl, x, D, dx, _, rfl, upd_same, T.cD, T.nPo, (by show 2 < 1000; decide), ?_⟩
      refine ⟨_, rfl, x, D, dx, _, rfl, upd_same, T.cD, T.nWr, (by show 3 < 1000; decide), ?_⟩
      rw [upd_upd, upd_upd, upd_upd]
      refine k _ l ⟨⟨dx, ?_⟩, ?_⟩ (fun b o e hb => ?_) hl
      · rw [upd_same, List.length_replicate]
        rfl
      · rw [upd_ne nxl, h1]
        rfl
      · rw [upd_ne hb]
        exact s1 _ _ e
theorem scRecharge : FnScope ["self", "power"] ["self", "power"] (defScope sRecharge) := ⟨rfl, rfl, rfl, by decide +kernel, rfl, by decide +kernel, by decide +kernel⟩
theorem ok_recharge {f : Addr} {fd : FuncData} {dvs : List V} (F : FunD K "recharge" "Device.recharge" (defArgs sRecharge) (defBody sRecharge) (defScope sRecharge) dvs [] f fd) (T : Txt K mg D C) : FnOk P w K mg base CX0 5 f fd ["self", "power"] (spRecharge D) := by
  refine F.ok scRecharge (fun vs H Q E h => ?_) (fun cdv A outer s H vs Q E hr h => ?_)
  · obtain ⟨d, l, pw, q, wr, bs, rfl, _⟩ := h
    rfl
  · obtain ⟨d, l, pw, q, wr, bs, rfl, hD, k⟩ := h
    have nd := hD.ne
    obtain ⟨⟨dx, hd⟩, hl⟩ := hD
    refine ⟨_, pss_one (ps_fld (pv 0) (pv 1) rfl), ?_⟩
    refine ⟨_, rfl, _, rfl, d, D, dx, _, rfl, hd, T.cD, T.nPo, (by show 4 < 1000; decide), ?_⟩
    rw [df_put_power]
    exact k _ ⟨⟨dx, upd_same⟩, by rw [upd_ne nd.symm]; exact hl⟩ (Keep.refl _ _ _).upd_d
theorem scWrite : FnScope ["self", "start", "row", "place", "byte"] ["self", "start", "row"] (defScope sWrite) := ⟨rfl, rfl, rfl, by decide +kernel, rfl, by decide +kernel, by decide +kernel⟩
abbrev CutTxt (P : Program) (K : PySem.W.Frag) (mg : Str → Option Value) (a : Expr) (mo : List (Str × Const)) (ps : Arguments) (PC fI : Addr) : Prop := JX.SupTxt P K mg "PowerCut" "written" "PowerCut.__init__" a mo ps PC fI
theorem ok_write {f PC fI : Addr} {fd : FuncData} {a : Expr} {mo : List (Str × Const)} {ps : Arguments} (F : Fun K "write" "Device.write" sWrite f fd) (T : Txt K mg D C) (TC : CutTxt P K mg a mo ps PC fI) (hok : ∀ v u, okCut v → L2.RelV v u → JX.ArgOk a "written" u) :
    FnOk P w K mg base (L2.CX P w) 5 f fd ["self", "start", "row"] (spWrite D PC) := by
  refine F.okX scWrite (fun vs H Q E h => ?_) (fun cdv A outer s H vs Q E hr h => ?_)
  · obtain ⟨d, l, r, pw, wr, bs, row, p, rfl, _⟩ := h
    rfl
  · obtain ⟨d, l, r, pw, wr, bs, row, p, rfl, hD, hR, nrl, hp, hb, hpw, w0, w1, kQ, kE⟩ := h
    have nrd : r ≠ d := by
      obtain ⟨⟨dx, hd⟩, _⟩ := hD
      exact ne_of hR hd (fun q => by cases q)
    refine ⟨_, pss_cons (ps_set (i := 3) scWrite.nd rfl (Or.inl rfl) (pv 1))
      (pss_one (ps_for (passes_of rfl) rfl (pi_list (pv 2)) (pg_name (i := 4) scWrite.nd rfl (Or.inl rfl))
        (C8.pss_cut (ps_if (pt_cmpR op_notN (pe_fld (pv 0) rfl) pe_non (nomark _))
          (pss_cons (ps_if (pt_cmpR op_eq (pe_fld (pv 0) rfl) pe_int (nomark _)) (pss_one (JX.ps_raiseSup rfl TC hok hr (takes_of rfl rfl rfl rfl) (by exact (pa_cons (pe_fld (pv 0) rfl) pa_nil)))) pss_nil)
            (pss_one (ps_fldaug (pv 0) pe_int in_sub))) pss_nil)
        (pss_cons (ps_asg (pv 4) (pg_sub (pe_fld (pv 0) rfl) (pv 3) set_list))
        (pss_cons (ps_fldaug (pv 0) pe_int in_add)
        (pss_one (ps_aug (i := 3) scWrite.nd rfl (Or.inl rfl) pe_int ip_add))))))), ?_⟩
    refine ⟨_, rfl, _, rfl, r, rfl, ⟨_, SqL.of hR⟩, for_list (K := K) (a := r) (xs := row.map V.int) (fun i σ H' => ∃ (b : Option V) (pw' : V), σ = [some (.ref d), some (.int p), some (.ref r), some (.int ((p + i : Nat) : Int)), b] ∧
      DevAt D H' d l pw' (wr + i) (put bs p (row.take i)) ∧ (pw = .non → pw' = .non) ∧ (pw ≠ .non → pw' ≠ .non) ∧ Pow pw' ∧ Keep d l H H') ⟨none, pw, rfl, by rw [List.take_zero]; show DevAt D H d l pw (wr + ((0 : Nat) : Int)) bs; rw [show wr + ((0 : Nat) : Int) = wr by omega]; exact hD, id, id, hpw, Keep.refl _ _ _⟩ (fun i σ H' _ ⟨_, _, _, _, _, _, _, kp⟩ => SqL.of (kp _ _ hR nrd nrl)) ?_ ?_⟩
    · rintro i y σ H1 hi ⟨b, pw', rfl, hD1, hn, hnn, hpw', kp⟩
      obtain ⟨c, hc, rfl⟩ : ∃ c, row[i]? = some c ∧ y = V.int c := by
        rw [List.getElem?_map] at hi
        cases e : row[i]? with
        | none => rw [e] at hi; cases hi
        | some c => rw [e] at hi; exact ⟨c, rfl, (Option.some.inj hi).symm⟩
      have hil : i < row.length := (List.getElem?_eq_some_iff.mp hc).1
      have nd := hD1.ne
      obtain ⟨⟨dx, hd⟩, hl⟩ := hD1
      have hbl : (put bs p (row.take i)).length = bs.length := put_len _ _ _
      -- behind the test the byte is written, whatever the power is
      refine ⟨fun σ' H2 => ∃ pw2 : V, σ' = [some (.ref d), some (.int p), some (.ref r), some (.int ((p + i : Nat) : Int)), some (.int c)] ∧ H2 d = some (.ins D dx (df l (put bs p (row.take i)).length pw2 (wr + i))) ∧
        H2 l = some (.lst ((put bs p (row.take i)).map V.int)) ∧ (pw = .non → pw2 = .non) ∧ (pw ≠ .non → pw2 ≠ .non) ∧ Pow pw2 ∧ Keep d l H H2, ?_, ?_⟩
      · refine ⟨_, rfl, d, D, dx, _, _, rfl, hd, T.cD, T.nPo, df_power, rfl, _, rfl, ?_⟩
        rcases hpw' with e | ⟨q, e⟩
        · subst e
          exact ⟨.non, rfl, hd, hl, hn, hnn, .inl rfl, kp⟩
        · subst e
          have npw : pw ≠ .non := fun z => by have := hn z; cases this
          refine ⟨_, rfl, d, D, dx, _, _, rfl, hd, T.cD, T.nPo, df_power, rfl, _, rfl, ?_⟩
          refine ite2 (fun e0 => ?_) (fun e0 => ?_)
          · have q0 : q = 0 := by
              have z := of_decide_eq_true e0
              cases z
              rfl
            subst q0
            refine ⟨_, rfl, d, D, dx, _, _, rfl, hd, T.cD, T.nWr, df_written, _, rfl, ⟨_, rfl, by omega, by omega⟩, fun dd hdd => ?_⟩
            have hdd0 : H dd = none := by
              cases e : H dd with
              | none => rfl
              | some o =>
                by_cases h1 : dd = d
                · rw [h1, hd] at hdd; cases hdd
                · by_cases h2 : dd = l
                  · rw [h2, hl] at hdd; cases hdd
                  · rw [kp _ _ e h1 h2] at hdd; cases hdd
            refine kE npw _ i (wr + i) dd _ hil ⟨⟨dx, ?_⟩, ?_⟩ (by omega) (by omega) (fun b o e h1 h2 => ?_) hdd0 upd_same
            · rw [upd_ne (ne_of_none hd hdd)]; exact hd
            · rw [upd_ne (ne_of_none hl hdd)]; exact hl
            · rw [upd_ne (ne_of_none (kp _ _ e h1 h2) hdd)]; exact kp _ _ e h1 h2
          · have q0 : q ≠ 0 := fun z => e0 (by subst z; rfl)
            refine ⟨_, rfl, d, D, dx, _, _, rfl, hd, T.cD, T.nPo, df_power, _, _, rfl, rfl, dx, _, hd, (by show 4 < 1000; decide), ?_⟩
            rw [df_put_power]
            refine ⟨.int ((q : Int) - 1), rfl, upd_same, by rw [upd_ne nd.symm]; exact hl, fun z => absurd z npw, fun _ z => (by cases z), .inr ⟨q - 1, congrArg V.int (by omega)⟩, kp.upd_d⟩
      · rintro σ' H2 ⟨pw2, rfl, hd2, hl2, hn2, hnn2, hp2, kp2⟩
        have hix : ixN ((put bs p (row.take i)).map V.int).length ((p + i : Nat) : Int) = some (p + i) := by
          unfold ixN
          rw [List.length_map, hbl, if_pos (by omega), if_pos (by omega), Int.toNat_natCast]
        refine ⟨_, rfl, _, rfl, d, D, dx, _, _, rfl, hd2, T.cD, T.nDa, df_data, _, rfl, l, _, _, _, rfl, rfl, hl2, hix, ?_⟩
        have hd3 : upd H2 l (.lst (((put bs p (row.take i)).map V.int).set (p + i) (.int c))) d = some (.ins D dx (df l (put bs p (row.take i)).length pw2 (wr + i))) := by rw [upd_ne nd]; exact hd2
        refine ⟨_, rfl, d, D, dx, _, _, rfl, hd3, T.cD, T.nWr, df_written, _, _, rfl, rfl, dx, _, hd3, (by show 4 < 1000; decide), ?_⟩
        rw [df_put_written]
        refine ⟨_, rfl, _, _, rfl, rfl, ?_⟩
        have et : row.take (i + 1) = row.take i ++ [c] := by rw [List.take_succ, hc]; rfl
        have ep : put bs p (row.take (i + 1)) = (put bs p (row.take i)).set (p + i) c := by
          rw [et, put_snoc, List.length_take, Nat.min_eq_left (Nat.le_of_lt hil)]
        refine ⟨some (.int c), pw2, ?_, ⟨⟨dx, ?_⟩, ?_⟩, hn2, hnn2, hp2, kp2.upd_l.upd_d⟩
        · show [some (V.ref d), some (V.int p), some (V.ref r), some (V.int (((p + i : Nat) : Int) + 1)), some (V.int c)] = _
          rw [show ((p + i : Nat) : Int) + 1 = ((p + (i + 1) : Nat) : Int) by omega]
        · rw [upd_same, put_len, put_len]
          show some (HO.ins D dx (df l _ pw2 (wr + (i : Int) + 1))) = _
          rw [show wr + (i : Int) + 1 = wr + ((i + 1 : Nat) : Int) by omega]
        · rw [upd_ne nd.symm, upd_same, ep, List.map_set]
    · rintro σ H1 ⟨b, pw', rfl, hD1, hn, hnn, hpw', kp⟩
      rw [List.length_map, List.take_length] at hD1
      exact kQ H1 pw' hD1 hn hpw' kp
end
end J
namespace J
open PySem PySem.Spec PyProof.Rows L2
/-! ### 10. The journal -/
abbrev sFormat : Stmt := top 18
abbrev sJInit : Stmt := inClass (top 19) 0
abbrev sTexts : Stmt := inClass (top 19) 1
abbrev sRoom : Stmt := inClass (top 19) 2
abbrev sWrRec : Stmt := inClass (top 19) 3
abbrev sRewrite : Stmt := inClass (top 19) 4
def spJInit (C : Addr) : Sp := fun vs H Q _ => ∃ (x d jx : Addr), vs = [.ref x, .ref d] ∧ H x = some (.ins C jx []) ∧ ∀ H', JAt C H' x d → (∀ b o, H b = some o → b ≠ x → H' b = some o) → Q .non H'
/-- at j the journal of the device at d, whose bytes bs hold the records ts in the area v -/
structure Jn (D C : Addr) (H : Hp) (j d l : Addr) (pw : V) (wr : Int) (bs : List Int) (ts : List Str) (v : Nat) : Prop where
  jn : JAt C H j d
  dv : DevAt D H d l pw wr bs
  good : Good bs ts v
  len : bs.length ≤ 1000
theorem Jn.same {D C : Addr} {H H' : Hp} {j d l : Addr} {pw : V} {wr : Int} {bs : List Int} {ts : List Str} {v : Nat} (a : Jn D C H j d l pw wr bs ts v) (s : Same H H') : Jn D C H' j d l pw wr bs ts v :=
  ⟨a.jn.same s, a.dv.same s, a.good, a.len⟩
theorem Jn.ne {D C : Addr} {H : Hp} {j d l : Addr} {pw : V} {wr : Int} {bs : List Int} {ts : List Str} {v : Nat} (a : Jn D C H j d l pw wr bs ts v) : j ≠ d ∧ j ≠ l := by
  obtain ⟨jx, hj⟩ := a.jn
  obtain ⟨⟨dx, hd⟩, hl⟩ := a.dv
  refine ⟨ne_of hj hd (fun q => ?_), ne_of hj hl (fun q => by cases q)⟩
  injection q with _ _ q
  cases q
def spTexts (D C : Addr) : Sp := fun vs H Q _ => ∃ (j d l : Addr) (pw : V) (wr : Int) (bs : List Int) (ts : List Str) (v : Nat), vs = [.ref j] ∧ Jn D C H j d l pw wr bs ts v ∧
  ∀ H' p, Same H H' → H p = none → H' p = some (.lst (ts.map V.str)) → Q (.ref p) H'
def spRoom (D C : Addr) : Sp := fun vs H Q _ => ∃ (j d l : Addr) (pw : V) (wr : Int) (bs : List Int) (ts : List Str) (v : Nat), vs = [.ref j] ∧ Jn D C H j d l pw wr bs ts v ∧
  ∀ H', Same H H' → Q (.int ((area bs.length : Int) - (encs ts).length - 4)) H'
/-- what an append or a replacement may leave: the records us, or an error and the records ts -/
def Wrote (D C LE PC : Addr) (H : Hp) (j d l : Addr) (pw : V) (wr : Int) (bs : List Int) (ts us : List Str) (Q : VK) (E : XK) : Prop :=
  (area bs.length < size1 us → ∀ H' dd fs, Same H H' → H dd = none → H' dd = some (.xd fs) → E (.ref LE) (some dd) H') ∧
  (size1 us ≤ area bs.length → ∀ H' pw' wr' bs' v', Jn D C H' j d l pw' wr' bs' us v' → bs'.length = bs.length → wr ≤ wr' → wr' ≤ wr + 2000 → Keep d l H H' → Q .non H') ∧
  (size1 us ≤ area bs.length → pw ≠ .non → ∀ H' pw' wr' bs' v' dd fs, Jn D C H' j d l pw' wr' bs' ts v' → bs'.length = bs.length → wr ≤ wr' → wr' ≤ wr + 2000 → Keep d l H H' → H dd = none → H' dd = some (.xd fs) → E (.ref PC) (some dd) H')
def spWrRec (D C LE PC : Addr) : Sp := fun vs H Q E => ∃ (j d l : Addr) (pw : V) (wr : Int) (bs : List Int) (ts : List Str) (v : Nat) (t : Str), vs = [.ref j, .str t] ∧ Jn D C H j d l pw wr bs ts v ∧ Pow pw ∧ 0 ≤ wr ∧ wr ≤ 900000000 ∧
  Plain t ∧ t.length ≤ 12 ∧ Wrote D C LE PC H j d l pw wr bs ts (ts ++ [t]) Q E
def spRewrite (D C LE PC : Addr) : Sp := fun vs H Q E => ∃ (j d l u : Addr) (pw : V) (wr : Int) (bs : List Int) (ts us : List Str) (v : Nat), vs = [.ref j, .ref u] ∧ Jn D C H j d l pw wr bs ts v ∧ Pow pw ∧ 0 ≤ wr ∧ wr ≤ 900000000 ∧
  H u = some (.lst (us.map V.str)) ∧ us.length ≤ 100 ∧ (∀ t ∈ us, Plain t ∧ t.length ≤ 12) ∧ Wrote D C LE PC H j d l pw wr bs ts us Q E
def spFormat (D C : Addr) : Sp := fun vs H Q _ => ∃ (d l : Addr) (n : Nat), vs = [.ref d] ∧ DevAt D H d l .non 0 (List.replicate n 0) ∧ 60 ≤ n ∧ n ≤ 1000 ∧
  ∀ H' j bs, Jn D C H' j d l .non 3 bs [] 1 → bs.length = n → Keep d l H H' → H j = none → Q (.ref j) H'
section
variable {P : Program} {w : World} {K : PySem.W.Frag} {mg : Str → Option Value} {base : Heap} {D C : Addr}
theorem scJInit : FnScope ["self", "device"] ["self", "device"] (defScope sJInit) := ⟨rfl, rfl, rfl, by decide +kernel, rfl, by decide +kernel, by decide +kernel⟩
theorem ok_jinit {f : Addr} {fd : FuncData} (F : Fun K "__init__" "Journal.__init__" sJInit f fd) (T : Txt K mg D C) : FnOk P w K mg base CX0 5 f fd ["self", "device"] (spJInit C) := by
  refine F.ok scJInit (fun vs H Q E h => ?_) (fun cdv A outer s H vs Q E hr h => ?_)
  · obtain ⟨x, d, jx, rfl, _⟩ := h
    rfl
  · obtain ⟨x, d, jx, rfl, hx, k⟩ := h
    refine ⟨_, pss_one (ps_fld (pv 0) (pv 1) rfl), ?_⟩
    refine ⟨_, rfl, _, rfl, x, C, jx, _, rfl, hx, T.cC, T.nDe, (by show 0 < 1000; decide), ?_⟩
    exact k _ ⟨jx, upd_same⟩ fun b o e hb => by rw [upd_ne hb]; exact e
theorem scTexts : FnScope ["self", "texts", "place"] ["self"] (defScope sTexts) := ⟨rfl, rfl, rfl, by decide +kernel, rfl, by decide +kernel, by decide +kernel⟩
theorem ok_texts {f : Addr} {fd : FuncData} (F : Fun K "texts" "Journal.texts" sTexts f fd) (T : Txt K mg D C) (BR : Callee P w K mg base CX0 "read_records" 8 ["device", "number"] (spReadRec D)) (BV : Callee P w K mg base CX0 "valid_area" 5 ["device"] (spValid D)) :
    FnOk P w K mg base CX0 9 f fd ["self"] (spTexts D C) := by
  obtain ⟨fR, fdR, GR, mR, kR, bR⟩ := BR.ex
  obtain ⟨fV, fdV, GV, mV, kV, bV⟩ := BV.ex
  refine F.ok scTexts (fun vs H Q E h => ?_) (fun cdv A outer s H vs Q E hr h => ?_)
  · obtain ⟨j, d, l, pw, wr, bs, ts, v, rfl, _⟩ := h
    rfl
  · obtain ⟨j, d, l, pw, wr, bs, ts, v, rfl, J, k⟩ := h
    obtain ⟨jx, hj⟩ := J.jn
    have hr5 : Room 5 _ := hr.mono (by decide)
    refine ⟨_, pss_cons (ps_asg (pe_call GR hr rfl mR kR bR .nil pass0 (pa_cons (pe_fld (pv 0) rfl) (pa_cons (pe_call GV hr5 rfl mV kV bV .nil pass0 (pa_cons (pe_fld (pv 0) rfl) pa_nil)) pa_nil)))
        (pg_tup (by rfl) (pgs_cons (pg_name (i := 1) scTexts.nd rfl (Or.inl rfl)) (pgs_cons (pg_name (i := 2) scTexts.nd rfl (Or.inl rfl)) pgs_nil)))) (pss_one (ps_ret (pv 1))), ?_⟩
    refine ⟨_, rfl, j, C, jx, _, _, rfl, hj, T.cC, T.nDe, lk_hd, _, rfl, j, C, jx, _, _, rfl, hj, T.cC, T.nDe, lk_hd, d, l, pw, wr, bs, v, rfl, J.dv, J.good.hd, J.good.v12, ?_⟩
    refine ⟨d, l, pw, wr, bs, ts, v, rfl, J.dv, J.len, J.good.v12, J.good.laid, J.good.plain, fun H1 t tl s1 ht htl h1 h2 => ?_⟩
    refine ⟨t, _, rfl, SqT.of h1, rfl, _, _, rfl, _, _, rfl, rfl, _, rfl, ?_⟩
    exact k H1 tl s1 htl h2
theorem scRoom : FnScope ["self", "number", "texts", "place", "end"] ["self"] (defScope sRoom) := ⟨rfl, rfl, rfl, by decide +kernel, rfl, by decide +kernel, by decide +kernel⟩
theorem ok_room {f : Addr} {fd : FuncData} (F : Fun K "room" "Journal.room" sRoom f fd) (T : Txt K mg D C) (BR : Callee P w K mg base CX0 "read_records" 8 ["device", "number"] (spReadRec D)) (BV : Callee P w K mg base CX0 "valid_area" 5 ["device"] (spValid D))
    (BS : Callee P w K mg base CX0 "area_start" 6 ["device", "number"] (spAreaStart D)) (BA : Callee P w K mg base CX0 "area_size" 5 ["device"] (spAreaSize D)) : FnOk P w K mg base CX0 9 f fd ["self"] (spRoom D C) := by
  obtain ⟨fR, fdR, GR, mR, kR, bR⟩ := BR.ex
  obtain ⟨fV, fdV, GV, mV, kV, bV⟩ := BV.ex
  obtain ⟨fS, fdS, GS, mS, kS, bS⟩ := BS.ex
  obtain ⟨fA, fdA, GA, mA, kA, bA⟩ := BA.ex
  refine F.ok scRoom (fun vs H Q E h => ?_) (fun cdv A outer s H vs Q E hr h => ?_)
  · obtain ⟨j, d, l, pw, wr, bs, ts, v, rfl, _⟩ := h
    rfl
  · obtain ⟨j, d, l, pw, wr, bs, ts, v, rfl, J, k⟩ := h
    obtain ⟨jx, hj⟩ := J.jn
    obtain ⟨tP, hsP⟩ := T.prefix_
    have hr5 : Room 5 _ := hr.mono (by decide)
    have hr6 : Room 6 _ := hr.mono (by decide)
    refine ⟨_, pss_cons (ps_set (i := 1) scRoom.nd rfl (Or.inl rfl) (pe_call GV hr5 rfl mV kV bV .nil pass0 (pa_cons (pe_fld (pv 0) rfl) pa_nil)))
      (pss_cons (ps_asg (pe_call GR hr rfl mR kR bR .nil pass0 (pa_cons (pe_fld (pv 0) rfl) (pa_cons (pv 1) pa_nil)))
        (pg_tup (by rfl) (pgs_cons (pg_name (i := 2) scRoom.nd rfl (Or.inl rfl)) (pgs_cons (pg_name (i := 3) scRoom.nd rfl (Or.inl rfl)) pgs_nil))))
      (pss_cons (ps_set (i := 4) scRoom.nd rfl (Or.inl rfl) (pe_op op_add (pe_call GS hr6 rfl mS kS bS .nil pass0 (pa_cons (pe_fld (pv 0) rfl) (pa_cons (pv 1) pa_nil))) (pe_call GA hr5 rfl mA kA bA .nil pass0 (pa_cons (pe_fld (pv 0) rfl) pa_nil))))
      (pss_one (ps_ret (pe_op op_sub (pe_op op_sub (pe_op op_sub (pv 4) (pv 3)) (pe_glob (v := .int 3) rfl hsP ⟨_, rfl⟩)) pe_int))))), ?_⟩
    refine ⟨_, rfl, j, C, jx, _, _, rfl, hj, T.cC, T.nDe, lk_hd, d, l, pw, wr, bs, v, rfl, J.dv, J.good.hd, J.good.v12, ?_⟩
    refine ⟨_, rfl, j, C, jx, _, _, rfl, hj, T.cC, T.nDe, lk_hd, _, rfl, d, l, pw, wr, bs, ts, v, rfl, J.dv, J.len, J.good.v12, J.good.laid, J.good.plain, fun H1 t tl s1 ht htl h1 h2 => ?_⟩
    have hj1 := s1 _ _ hj
    refine ⟨t, _, rfl, SqT.of h1, rfl, _, _, rfl, _, _, rfl, rfl, ?_⟩
    refine ⟨_, rfl, j, C, jx, _, _, rfl, hj1, T.cC, T.nDe, lk_hd, _, rfl, d, l, pw, wr, bs, v, rfl, J.dv.same s1, J.good.pos, J.good.v12,
      _, rfl, j, C, jx, _, _, rfl, hj1, T.cC, T.nDe, lk_hd, d, l, pw, wr, bs, rfl, J.dv.same s1, J.good.pos, _, _, rfl, rfl, ?_⟩
    refine ⟨_, rfl, _, rfl, _, _, rfl, rfl, _, _, rfl, rfl, _, _, rfl, rfl, ?_⟩
    have e : ((astart bs.length v : Nat) : Int) + ((area bs.length : Nat) : Int) - ((place bs ts v : Nat) : Int) - 3 - 1 = (area bs.length : Int) - (encs ts).length - 4 := by unfold place; omega
    show Q (.int (((astart bs.length v : Nat) : Int) + ((area bs.length : Nat) : Int) - ((place bs ts v : Nat) : Int) - 3 - 1)) H1
    rw [e]
    exact k H1 s1
end
end J
namespace J
open PySem PySem.Spec PyProof.Rows L2
/-! ### 11. The journal, written -/
abbrev LimTxt (P : Program) (K : PySem.W.Frag) (mg : Str → Option Value) (a : Expr) (mo : List (Str × Const)) (ps : Arguments) (LE fI : Addr) : Prop := JX.SupTxt P K mg "LimitError" "reason" "LimitError.__init__" a mo ps LE fI
def okLim (_ : V) : Prop := True
theorem free_up {H H1 : Hp} (s : Same H H1) {a : Addr} (h : H1 a = none) : H a = none := s.free h
theorem free_keep {D : Addr} {H H1 : Hp} {d l : Addr} {pw : V} {wr : Int} {bs : List Int} (k : Keep d l H H1) (v : DevAt D H1 d l pw wr bs) {a : Addr} (h : H1 a = none) : H a = none := by
  cases e : H a with
  | none => rfl
  | some o =>
    obtain ⟨⟨dx, hd⟩, hl⟩ := v
    by_cases h1 : a = d
    · rw [h1, hd] at h; cases h
    · by_cases h2 : a = l
      · rw [h2, hl] at h; cases h
      · rw [k _ _ e h1 h2] at h; cases h
theorem cut_tail (t : Str) : cutV ((enc t).map V.int) (some 1) none = ((enc t).tail).map V.int := by
  unfold cutV
  rw [HT.sIx_none, show (1 : Int) = ((1 : Nat) : Int) from rfl, HT.sIx_nat, List.length_map, enc_len, show min 1 (t.length + 3) = 1 by omega, ← List.map_drop, ← List.map_take]
  congr 1
  rw [List.take_of_length_le (by rw [List.length_drop, enc_len]; omega)]
  rfl
theorem Same.to {d l : Addr} {H H1 : Hp} (a : L2.Same H H1) : Keep d l H H1 := fun c o e _ _ => a c o e
section
variable {P : Program} {w : World} {K : PySem.W.Frag} {mg : Str → Option Value} {base : Heap} {D C LE PC : Addr}
theorem scWrRec : FnScope ["self", "text", "texts", "place", "row"] ["self", "text"] (defScope sWrRec) := ⟨rfl, rfl, rfl, by decide +kernel, rfl, by decide +kernel, by decide +kernel⟩
theorem ok_wr_rec {f fI : Addr} {fd : FuncData} {a : Expr} {mo : List (Str × Const)} {ps : Arguments} (F : Fun K "write_record" "Journal.write_record" sWrRec f fd) (T : Txt K mg D C) (TL : LimTxt P K mg a mo ps LE fI) (hok : ∀ v u, okLim v → L2.RelV v u → JX.ArgOk a "reason" u)
    (BR : Callee P w K mg base CX0 "read_records" 8 ["device", "number"] (spReadRec D)) (BV : Callee P w K mg base CX0 "valid_area" 5 ["device"] (spValid D)) (BE : Callee P w K mg base CX0 "record_bytes" 8 ["text"] spRecord) (BM : MCallee P w K mg base CX0 C "room" 9 ["self"] (spRoom D C))
    (BW : MCallee P w K mg base (L2.CX P w) D "write" 5 ["self", "start", "row"] (spWrite D PC)) : FnOk P w K mg base (L2.CX P w) 10 f fd ["self", "text"] (spWrRec D C LE PC) := by
  obtain ⟨fR, fdR, GR, mR, kR, bR⟩ := BR.ex
  obtain ⟨fV, fdV, GV, mV, kV, bV⟩ := BV.ex
  obtain ⟨fE, fdE, GE, mE, kE, bE⟩ := BE.ex
  obtain ⟨fM, fdM, GM, mM, bM⟩ := BM.ex
  obtain ⟨fW, fdW, GW, mW, bW⟩ := BW.ex
  refine F.okX scWrRec (fun vs H Q E h => ?_) (fun cdv A outer s H vs Q E hr h => ?_)
  · obtain ⟨j, d, l, pw, wr, bs, ts, v, t, rfl, _⟩ := h
    rfl
  · obtain ⟨j, d, l, pw, wr, bs, ts, v, t, rfl, Jq, hpw, w0, w1, pt, lt, kL, kQ, kE'⟩ := h
    obtain ⟨jx, hj⟩ := Jq.jn
    obtain ⟨njd, njl⟩ := Jq.ne
    obtain ⟨tEnd, hsE⟩ := T.end_
    obtain ⟨tRec, hsR⟩ := T.record
    have hr5 : Room 5 _ := hr.mono (by decide)
    have hr8 : Room 8 _ := hr.mono (by decide)
    have hpos := Jq.good.pos
    refine ⟨_, pss_cons (ps_if (pt_cmpR op_gt (pe_callB call_len_str (by rfl) T.len PySem.boot_len (pa_cons (pv 1) pa_nil)) (pe_meth0 (pv 0) T.cC mM GM hr bM .nil pass0) (nomark _))
        (pss_one (JX.ps_raiseSup rfl TL hok hr (takes_of rfl rfl rfl rfl) (by exact (pa_cons pe_str pa_nil)))) pss_nil)
      (pss_cons (ps_asg (pe_call GR hr8 rfl mR kR bR .nil pass0 (pa_cons (pe_fld (pv 0) rfl) (pa_cons (pe_call GV hr5 rfl mV kV bV .nil pass0 (pa_cons (pe_fld (pv 0) rfl) pa_nil)) pa_nil)))
        (pg_tup (by rfl) (pgs_cons (pg_name (i := 2) scWrRec.nd rfl (Or.inl rfl)) (pgs_cons (pg_name (i := 3) scWrRec.nd rfl (Or.inl rfl)) pgs_nil))))
      (pss_cons (ps_set (i := 4) scWrRec.nd rfl (Or.inl rfl) (pe_call GE hr8 rfl mE kE bE .nil pass0 (pa_cons (pv 1) pa_nil)))
      (pss_cons (ps_expr (pe_meth (E := E) (pe_fld (pv 0) rfl) T.cD mW GW hr5 bW .nil (passes_call (takes_of rfl rfl rfl rfl) (fun _ _ _ _ h => h)) (pa_cons (pe_op op_add (pv 3) pe_int) (pa_cons (pe_op op_cat (pe_slice sl_list (pv 4) (po_some pe_int) po_none) (pe_lst (pa_cons (pe_glob (v := .int 0) rfl hsE ⟨_, rfl⟩) pa_nil))) pa_nil))))
      (pss_one (ps_expr (pe_meth (E := E) (pe_fld (pv 0) rfl) T.cD mW GW hr5 bW .nil (passes_call (takes_of rfl rfl rfl rfl) (fun _ _ _ _ h => h)) (pa_cons (pv 3) (pa_cons (pe_lst (pa_cons (pe_glob (v := .int 1) rfl hsR ⟨_, rfl⟩) pa_nil)) pa_nil)))))))), ?_⟩
    have esz : size1 (ts ++ [t]) = (encs ts).length + t.length + 4 := by
      unfold size1
      rw [encs_append, encs_one, List.length_append, enc_len]
      omega
    -- if len(text) > self.room(): raise
    refine ⟨_, rfl, _, rfl, Nat.le_trans lt (by decide), _, rfl, j, jx, _, rfl, hj, (lk_tl (by decide +kernel)).trans rfl, j, d, l, pw, wr, bs, ts, v, rfl, Jq, fun H1 s1 => ?_⟩
    refine ⟨_, _, rfl, rfl, _, rfl, ?_⟩
    refine ite2 (fun hf => ?_) (fun hf => ?_)
    · have hf := of_decide_eq_true hf
      refine ⟨_, rfl, trivial, fun dd hdd => ?_⟩
      exact kL (by rw [esz]; omega) _ dd _ (same_thn s1 (s1.free hdd)) (s1.free hdd) upd_same
    · have hfit : size1 (ts ++ [t]) ≤ area bs.length := by
        have hf : ¬ ((area bs.length : Int) - (encs ts).length - 4 < (t.length : Int)) := fun z => hf (decide_eq_true z)
        rw [esz]
        omega
      have J1 := Jq.same s1
      have hj1 := s1 _ _ hj
      refine ⟨_, rfl, j, C, jx, _, _, rfl, hj1, T.cC, T.nDe, lk_hd, _, rfl, j, C, jx, _, _, rfl, hj1, T.cC, T.nDe, lk_hd, d, l, pw, wr, bs, v, rfl, J1.dv, Jq.good.hd, Jq.good.v12, ?_⟩
      refine ⟨d, l, pw, wr, bs, ts, v, rfl, J1.dv, Jq.len, Jq.good.v12, Jq.good.laid, Jq.good.plain, fun H2 tt tl s2 ht htl h1 h2 => ?_⟩
      refine ⟨tt, _, rfl, SqT.of h1, rfl, _, _, rfl, _, _, rfl, rfl, ?_⟩
      -- row = record_bytes(text)
      refine ⟨_, rfl, t, rfl, by omega, fun H3 r s3 hr0 h3 => ?_⟩
      have s03 : L2.Same H H3 := (s1.trans s2).trans s3
      have J3 := Jq.same s03
      have hj3 := s03 _ _ hj
      obtain ⟨⟨dx, hd⟩, hl⟩ := J3.dv
      -- self.device.write(place + 1, row[1:] + [END])
      refine ⟨_, rfl, j, C, jx, _, _, rfl, hj3, T.cC, T.nDe, lk_hd, d, dx, _, rfl, hd, df_no (by decide +kernel) (by decide +kernel) (by decide +kernel) (by decide +kernel), ?_⟩
      refine ⟨_, rfl, _, _, rfl, rfl, _, rfl, _, rfl, r, _, rfl, SqL.of h3, fun a1 ha1 => ?_⟩
      refine ⟨by decide, fun a2 ha2 => ?_⟩
      have n12 : a1 ≠ a2 := fun e => by rw [← e, upd_same] at ha2; cases ha2
      have ha2' : H3 a2 = none := by rw [upd_ne n12.symm] at ha2; exact ha2
      refine ⟨a1, a2, _, _, rfl, rfl, by rw [upd_ne n12, upd_same], upd_same, ?_, fun a3 ha3 => ?_⟩
      · rw [cut_tail, List.length_map, List.length_tail, enc_len]
        show t.length + 3 - 1 + 1 ≤ sizeLine
        have : 1000 < sizeLine := by decide
        omega
      have erow : cutV ((enc t).map V.int) (some 1) none ++ [V.int 0] = ((enc t).tail ++ [(0 : Int)]).map V.int := by rw [cut_tail, List.map_append]; rfl
      have lrow : ((enc t).tail ++ [(0 : Int)]).length = t.length + 3 := by
        rw [List.length_append, List.length_tail, enc_len, List.length_singleton]
        omega
      obtain ⟨H4, e4⟩ : ∃ H4, H4 = upd (upd (upd H3 a1 (.lst (cutV ((enc t).map V.int) (some 1) none))) a2 (.lst [V.int 0])) a3 (.lst (cutV ((enc t).map V.int) (some 1) none ++ [V.int 0])) := ⟨_, rfl⟩
      have s34 : L2.Same H3 H4 := by
        rw [e4]
        exact ((same_upd ha1).trans (same_upd ha2)).trans (same_upd ha3)
      have hr3 : H4 a3 = some (.lst (((enc t).tail ++ [(0 : Int)]).map V.int)) := by rw [e4, upd_same, erow]
      have f3 : H3 a3 = none := ((same_upd ha1).trans (same_upd ha2)).free ha3
      rw [← e4]
      have s04 : L2.Same H H4 := s03.trans s34
      have J4 := Jq.same s04
      have n3l : a3 ≠ l := fun e => by rw [e, hl] at f3; cases f3
      have hpl : place bs ts v + 1 + ((enc t).tail ++ [(0 : Int)]).length ≤ bs.length := by
        have := Jq.good.end_
        rw [lrow]
        unfold place
        omega
      refine ⟨d, l, a3, pw, wr, bs, (enc t).tail ++ [(0 : Int)], place bs ts v + 1, rfl, J4.dv, hr3, n3l, hpl, Jq.len, hpw, w0, by omega, fun H5 pw5 D5 n5 p5 k5 => ?_, fun npw H5 q wr5 dd fs hq D5 u1 u2 k5 hdd hx => ?_⟩
      · -- self.device.write(place, [RECORD])
        have k05 : Keep d l H H5 := (Same.to s04).trans k5
        have hj5 := k05 _ _ hj njd njl
        have D5' := D5
        obtain ⟨⟨dx5, hd5⟩, hl5⟩ := D5
        refine ⟨_, rfl, j, C, jx, _, _, rfl, hj5, T.cC, T.nDe, lk_hd, d, dx5, _, rfl, hd5, df_no (by decide +kernel) (by decide +kernel) (by decide +kernel) (by decide +kernel), ?_⟩
        refine ⟨_, rfl, by decide, fun a6 ha6 => ?_⟩
        have s56 := same_upd (o := .lst [V.int 1]) ha6
        have n6l : a6 ≠ l := fun e => by rw [e, hl5] at ha6; cases ha6
        have lb : (put bs (place bs ts v + 1) ((enc t).tail ++ [(0 : Int)])).length = bs.length := put_len _ _ _
        refine ⟨d, l, a6, pw5, _, _, [(1 : Int)], place bs ts v, rfl, D5'.same s56, upd_same, n6l, by rw [lb]; show place bs ts v + 1 ≤ bs.length; omega, by rw [lb]; exact Jq.len, p5, by omega, by rw [lrow]; omega,
          fun H7 pw7 D7 n7 p7 k7 => ?_, fun npw H7 q wr7 dd fs hq D7 u1 u2 k7 hdd hx => ?_⟩
        · have k07 : Keep d l H H7 := (k05.trans (Same.to s56)).trans k7
          have g := Jq.good.record pt lt hfit
          refine kQ hfit H7 pw7 _ _ v ⟨⟨jx, k07 _ _ hj njd njl⟩, D7, g, ?_⟩ ?_ (by rw [lrow]; omega) (by rw [lrow]; show wr + ((t.length + 3 : Nat) : Int) + ((1 : Nat) : Int) ≤ wr + 2000; omega) k07
          · show (put (put bs (place bs ts v + 1) ((enc t).tail ++ [(0 : Int)])) (place bs ts v) [(1 : Int)]).length ≤ 1000
            rw [put_len, put_len]
            exact Jq.len
          · show (put (put bs (place bs ts v + 1) ((enc t).tail ++ [(0 : Int)])) (place bs ts v) [(1 : Int)]).length = bs.length
            rw [put_len, put_len]
        · have k07 : Keep d l H H7 := (k05.trans (Same.to s56)).trans k7
          have q0 : q = 0 := by
            have : q < 1 := hq
            omega
          subst q0
          refine kE' hfit (fun e => npw (n5 e)) H7 _ wr7 _ v dd fs ⟨⟨jx, k07 _ _ hj njd njl⟩, D7, Jq.good.behind _, ?_⟩ ?_ (by rw [lrow] at u1; omega) (by rw [lrow] at u2; have u3 : wr7 ≤ wr + ((t.length + 3 : Nat) : Int) + ((1 : Nat) : Int) := u2; omega) k07 (free_keep k05 D5' (s56.free hdd)) hx
          · show (put bs (place bs ts v + 1) ((enc t).tail ++ [(0 : Int)])).length ≤ 1000
            rw [put_len]
            exact Jq.len
          · show (put bs (place bs ts v + 1) ((enc t).tail ++ [(0 : Int)])).length = bs.length
            rw [put_len]
      · have k05 : Keep d l H H5 := (Same.to s04).trans k5
        refine kE' hfit npw H5 _ wr5 _ v dd fs ⟨⟨jx, k05 _ _ hj njd njl⟩, D5, Jq.good.behind _, ?_⟩ ?_ u1 (by rw [lrow] at u2; omega) k05 (s04.free hdd) hx
        · rw [put_len]; exact Jq.len
        · rw [put_len]
end
end J
namespace J
open PySem PySem.Spec PyProof.Rows L2
section
variable {P : Program} {w : World} {K : PySem.W.Frag} {mg : Str → Option Value} {base : Heap} {D C LE PC : Addr}
theorem encs_take {us : List Str} {i : Nat} {t : Str} (h : us[i]? = some t) : encs (us.take (i + 1)) = encs (us.take i) ++ enc t := (encs_step h).2
theorem encs_small : ∀ (us : List Str) (n : Nat), us.length ≤ n → (∀ t ∈ us, t.length ≤ 12) → (encs us).length ≤ 15 * n
  | [], n, _, _ => Nat.zero_le _
  | t :: us, 0, h, _ => absurd h (Nat.not_succ_le_zero _)
  | t :: us, n + 1, h, ht => by
    have ih := encs_small us n (Nat.le_of_succ_le_succ h) fun u hu => ht u (List.mem_cons_of_mem _ hu)
    have := ht t List.mem_cons_self
    show (enc t ++ encs us).length ≤ _
    rw [List.length_append, enc_len]
    omega
theorem scRewrite : FnScope ["self", "texts", "number", "row", "text"] ["self", "texts"] (defScope sRewrite) := ⟨rfl, rfl, rfl, by decide +kernel, rfl, by decide +kernel, by decide +kernel⟩
theorem ok_rewrite {f fI : Addr} {fd : FuncData} {a : Expr} {mo : List (Str × Const)} {ps : Arguments} (F : Fun K "rewrite" "Journal.rewrite" sRewrite f fd) (T : Txt K mg D C) (TL : LimTxt P K mg a mo ps LE fI) (hok : ∀ v u, okLim v → L2.RelV v u → JX.ArgOk a "reason" u)
    (BV : Callee P w K mg base CX0 "valid_area" 5 ["device"] (spValid D)) (BE : Callee P w K mg base CX0 "record_bytes" 8 ["text"] spRecord) (BS : Callee P w K mg base CX0 "area_start" 6 ["device", "number"] (spAreaStart D)) (BA : Callee P w K mg base CX0 "area_size" 5 ["device"] (spAreaSize D))
    (BW : MCallee P w K mg base (L2.CX P w) D "write" 5 ["self", "start", "row"] (spWrite D PC)) : FnOk P w K mg base (L2.CX P w) 10 f fd ["self", "texts"] (spRewrite D C LE PC) := by
  obtain ⟨fV, fdV, GV, mV, kV, bV⟩ := BV.ex
  obtain ⟨fE, fdE, GE, mE, kE, bE⟩ := BE.ex
  obtain ⟨fS, fdS, GS, mS, kS, bS⟩ := BS.ex
  obtain ⟨fA, fdA, GA, mA, kA, bA⟩ := BA.ex
  obtain ⟨fW, fdW, GW, mW, bW⟩ := BW.ex
  refine F.okX scRewrite (fun vs H Q E h => ?_) (fun cdv A outer s H vs Q E hr h => ?_)
  · obtain ⟨j, d, l, u, pw, wr, bs, ts, us, v, rfl, _⟩ := h
    rfl
  · obtain ⟨j, d, l, u, pw, wr, bs, ts, us, v, rfl, Jq, hpw, w0, w1, hU, hul, pu, kL, kQ, kE'⟩ := h
    obtain ⟨jx, hj⟩ := Jq.jn
    obtain ⟨njd, njl⟩ := Jq.ne
    obtain ⟨tEnd, hsE⟩ := T.end_
    have hr5 : Room 5 _ := hr.mono (by decide)
    have hr6 : Room 6 _ := hr.mono (by decide)
    have hr8 : Room 8 _ := hr.mono (by decide)
    have hpos := Jq.good.pos
    refine ⟨_, pss_cons (ps_set (i := 2) scRewrite.nd rfl (Or.inl rfl) (pe_op op_sub pe_int (pe_call GV hr5 rfl mV kV bV .nil pass0 (pa_cons (pe_fld (pv 0) rfl) pa_nil))))
      (pss_cons (ps_set (i := 3) scRewrite.nd rfl (Or.inl rfl) (pe_lst pa_nil))
      (pss_cons (ps_for (passes_of rfl) rfl (pi_list (pv 1)) (pg_name (i := 4) scRewrite.nd rfl (Or.inl rfl)) (pss_one (ps_set (i := 3) scRewrite.nd rfl (Or.inl rfl) (pe_op op_cat (pv 3) (pe_call GE hr8 rfl mE kE bE .nil pass0 (pa_cons (pv 4) pa_nil))))))
      (pss_cons (ps_expr (pe_bm PySem.F.plainAttrs_list PySem.F.slot_list_append PySem.F.type_list_append mt_append (pv 3) (pa_cons (pe_glob (v := .int 0) rfl hsE ⟨_, rfl⟩) pa_nil)))
      (pss_cons (ps_if (pt_cmpR op_gt (pe_callB call_len_seq (by rfl) T.len PySem.boot_len (pa_cons (pv 3) pa_nil)) (pe_call GA hr5 rfl mA kA bA .nil pass0 (pa_cons (pe_fld (pv 0) rfl) pa_nil)) (nomark _))
        (pss_one (JX.ps_raiseSup rfl TL hok hr (takes_of rfl rfl rfl rfl) (by exact (pa_cons pe_str pa_nil)))) pss_nil)
      (pss_cons (ps_expr (pe_meth (E := E) (pe_fld (pv 0) rfl) T.cD mW GW hr5 bW .nil (passes_call (takes_of rfl rfl rfl rfl) (fun _ _ _ _ h => h)) (pa_cons (pe_call GS hr6 rfl mS kS bS .nil pass0 (pa_cons (pe_fld (pv 0) rfl) (pa_cons (pv 2) pa_nil))) (pa_cons (pv 3) pa_nil))))
      (pss_one (ps_expr (pe_meth (E := E) (pe_fld (pv 0) rfl) T.cD mW GW hr5 bW .nil (passes_call (takes_of rfl rfl rfl rfl) (fun _ _ _ _ h => h)) (pa_cons pe_int (pa_cons (pe_lst (pa_cons (pv 2) pa_nil)) pa_nil)))))))))), ?_⟩
    have oth : (3 : Int) - (v : Int) = ((other v : Nat) : Int) := by
      unfold other
      rcases Jq.good.v12 with e | e <;> subst e <;> rfl
    -- number = 3 - valid_area(self.device)
    refine ⟨_, rfl, j, C, jx, _, _, rfl, hj, T.cC, T.nDe, lk_hd, d, l, pw, wr, bs, v, rfl, Jq.dv, Jq.good.hd, Jq.good.v12, _, _, rfl, rfl, ?_⟩
    show tSeq _ _ _ (List.set _ 2 (some (.int ((3 : Int) - (v : Int))))) _
    rw [oth]
    refine ⟨Nat.zero_le _, fun r0 hr0 => ?_⟩
    -- for text in texts: row = row + record_bytes(text)
    refine ⟨_, rfl, u, rfl, ⟨_, SqL.of ((same_upd hr0) _ _ hU)⟩, for_list (K := K) (a := u) (xs := us.map V.str) (fun i σ H' => ∃ (r : Addr) (b : Option V), σ = [some (.ref j), some (.ref u), some (.int (other v : Nat)), some (.ref r), b] ∧ L2.Same H H' ∧ H r = none ∧ H' r = some (.lst ((encs (us.take i)).map V.int)))
      ⟨r0, none, rfl, same_upd hr0, hr0, upd_same⟩ (fun i σ H' _ ⟨_, _, _, s1, _⟩ => SqL.of (s1 _ _ hU)) ?_ ?_⟩
    · rintro i y σ H1 hi ⟨r, b, rfl, s1, fr, h1⟩
      obtain ⟨t, ht, rfl⟩ : ∃ t, us[i]? = some t ∧ y = V.str t := by
        rw [List.getElem?_map] at hi
        cases e : us[i]? with
        | none => rw [e] at hi; cases hi
        | some c => rw [e] at hi; exact ⟨c, rfl, (Option.some.inj hi).symm⟩
      obtain ⟨pt, lt⟩ := pu t (List.mem_of_getElem? ht)
      refine ⟨_, rfl, _, rfl, t, rfl, by omega, fun H2 b2 s2 hb2 h2 => ?_⟩
      refine ⟨r, b2, _, _, rfl, rfl, s2 _ _ h1, h2, ?_, fun p hp => ?_⟩
      · have q := encs_small (us.take i) 100 (by rw [List.length_take]; omega) fun u hu => (pu u (List.mem_of_mem_take hu)).2
        rw [List.length_map, List.length_map, enc_len]
        have : 10000 < sizeLine := by decide
        omega
      · refine ⟨p, some (.str t), rfl, (s1.trans s2).trans (same_upd hp), (s1.trans s2).free hp, ?_⟩
        rw [upd_same, encs_take ht, List.map_append]
    · rintro σ H1 ⟨r, b, rfl, s1, fr, h1⟩
      rw [List.length_map, List.take_length] at h1
      have q := encs_small us 100 hul fun u hu => (pu u hu).2
      have big : 10000 < sizeLine := by decide
      -- row.append(END)
      refine ⟨_, rfl, .inl ⟨rfl, _, SqL.of h1⟩, r, _, _, rfl, rfl, h1, by rw [List.length_map]; omega, ?_⟩
      have s2 : L2.Same H (upd H1 r (.lst ((encs us).map V.int ++ [V.int 0]))) := same_thn s1 fr
      have erow : (encs us).map V.int ++ [V.int 0] = (encs us ++ [(0 : Int)]).map V.int := by rw [List.map_append]; rfl
      have h2 : upd H1 r (.lst ((encs us).map V.int ++ [V.int 0])) r = some (.lst ((encs us ++ [(0 : Int)]).map V.int)) := by rw [upd_same, erow]
      obtain ⟨H2, e2⟩ : ∃ H2, H2 = upd H1 r (.lst ((encs us).map V.int ++ [V.int 0])) := ⟨_, rfl⟩
      rw [← e2] at s2 h2 ⊢
      have hj2 := s2 _ _ hj
      have J2 := Jq.same s2
      obtain ⟨⟨dx, hd⟩, hl⟩ := J2.dv
      have lrow : (encs us ++ [(0 : Int)]).length = size1 us := by rw [List.length_append]; rfl
      -- if len(row) > area_size(self.device): raise
      refine ⟨_, rfl, r, _, rfl, .inl (SqL.of h2), _, rfl, j, C, jx, _, _, rfl, hj2, T.cC, T.nDe, lk_hd, d, l, pw, wr, bs, rfl, J2.dv, hpos, ?_⟩
      refine ⟨_, _, rfl, rfl, _, rfl, ?_⟩
      rw [List.length_map, lrow]
      refine ite2 (fun hf => ?_) (fun hf => ?_)
      · have hf := of_decide_eq_true hf
        refine ⟨_, rfl, trivial, fun dd hdd => ?_⟩
        exact kL (by omega) _ dd _ (same_thn s2 (s2.free hdd)) (s2.free hdd) upd_same
      · have hfit : size1 us ≤ area bs.length := by
          have hf : ¬ (((area bs.length : Nat) : Int) < ((size1 us : Nat) : Int)) := fun z => hf (decide_eq_true z)
          omega
        have nrl : r ≠ l := fun e => by
          obtain ⟨_, hl0⟩ := Jq.dv
          rw [e, hl0] at fr
          cases fr
        have hv2 := other_12 Jq.good.v12
        have hpl : astart bs.length (other v) + (encs us ++ [(0 : Int)]).length ≤ bs.length := by
          rw [lrow]
          have h2 := area_two bs.length
          unfold astart
          rcases hv2 with e | e
          · rw [e]; simp only [Nat.sub_self, Nat.zero_mul]; omega
          · rw [e]; show 1 + 1 * area bs.length + size1 us ≤ bs.length; omega
        -- self.device.write(area_start(self.device, number), row)
        refine ⟨_, rfl, j, C, jx, _, _, rfl, hj2, T.cC, T.nDe, lk_hd, d, dx, _, rfl, hd, df_no (by decide +kernel) (by decide +kernel) (by decide +kernel) (by decide +kernel), ?_⟩
        refine ⟨_, rfl, j, C, jx, _, _, rfl, hj2, T.cC, T.nDe, lk_hd, _, rfl, d, l, pw, wr, bs, other v, rfl, J2.dv, hpos, hv2, _, rfl, ?_⟩
        refine ⟨d, l, r, pw, wr, bs, encs us ++ [0], astart bs.length (other v), rfl, J2.dv, h2, nrl, hpl, Jq.len, hpw, w0, by omega, fun H5 pw5 D5 n5 p5 k5 => ?_, fun npw H5 q wr5 dd fs hq D5 u1 u2 k5 hdd hx => ?_⟩
        · -- self.device.write(0, [number])
          have k05 : Keep d l H H5 := (Same.to s2).trans k5
          have hj5 := k05 _ _ hj njd njl
          have D5' := D5
          obtain ⟨⟨dx5, hd5⟩, hl5⟩ := D5
          refine ⟨_, rfl, j, C, jx, _, _, rfl, hj5, T.cC, T.nDe, lk_hd, d, dx5, _, rfl, hd5, df_no (by decide +kernel) (by decide +kernel) (by decide +kernel) (by decide +kernel), ?_⟩
          refine ⟨_, rfl, (by show 1 ≤ sizeLine; decide), fun a6 ha6 => ?_⟩
          have s56 := same_upd (o := .lst [V.int ((other v : Nat) : Int)]) ha6
          have n6l : a6 ≠ l := fun e => by rw [e, hl5] at ha6; cases ha6
          have lb : (put bs (astart bs.length (other v)) (encs us ++ [(0 : Int)])).length = bs.length := put_len _ _ _
          refine ⟨d, l, a6, pw5, _, _, [((other v : Nat) : Int)], 0, rfl, D5'.same s56, upd_same, n6l, by rw [lb]; show 0 + 1 ≤ bs.length; omega, by rw [lb]; exact Jq.len, p5, by omega, by rw [lrow]; have := Jq.len; have : area bs.length ≤ bs.length := (by unfold area; omega); omega,
            fun H7 pw7 D7 n7 p7 k7 => ?_, fun npw H7 q wr7 dd fs hq D7 u1 u2 k7 hdd hx => ?_⟩
          · have k07 : Keep d l H H7 := (k05.trans (Same.to s56)).trans k7
            have g := Jq.good.swap pu hfit
            have hsm : size1 us ≤ 1000 := by have := Jq.len; have : area bs.length ≤ bs.length := (by unfold area; omega); omega
            refine kQ hfit H7 pw7 _ _ (other v) ⟨⟨jx, k07 _ _ hj njd njl⟩, D7, g, ?_⟩ ?_ (by rw [lrow]; omega) (by rw [lrow]; show wr + ((size1 us : Nat) : Int) + ((1 : Nat) : Int) ≤ wr + 2000; omega) k07
            · show (put (put bs (astart bs.length (other v)) (encs us ++ [(0 : Int)])) 0 [((other v : Nat) : Int)]).length ≤ 1000
              rw [put_len, put_len]
              exact Jq.len
            · show (put (put bs (astart bs.length (other v)) (encs us ++ [(0 : Int)])) 0 [((other v : Nat) : Int)]).length = bs.length
              rw [put_len, put_len]
          · have k07 : Keep d l H H7 := (k05.trans (Same.to s56)).trans k7
            have hsm : size1 us ≤ 1000 := by have := Jq.len; have : area bs.length ≤ bs.length := (by unfold area; omega); omega
            have q0 : q = 0 := by
              have : q < 1 := hq
              omega
            subst q0
            refine kE' hfit (fun e => npw (n5 e)) H7 _ wr7 _ v dd fs ⟨⟨jx, k07 _ _ hj njd njl⟩, D7, Jq.good.beside _ (by rw [lrow]; exact hfit), ?_⟩ ?_ (by rw [lrow] at u1; omega) (by rw [lrow] at u2; have u3 : wr7 ≤ wr + ((size1 us : Nat) : Int) + ((1 : Nat) : Int) := u2; omega) k07 (free_keep k05 D5' (s56.free hdd)) hx
            · show (put bs (astart bs.length (other v)) (encs us ++ [(0 : Int)])).length ≤ 1000
              rw [put_len]
              exact Jq.len
            · show (put bs (astart bs.length (other v)) (encs us ++ [(0 : Int)])).length = bs.length
              rw [put_len]
        · have k05 : Keep d l H H5 := (Same.to s2).trans k5
          have hsm : size1 us ≤ 1000 := by have := Jq.len; have : area bs.length ≤ bs.length := (by unfold area; omega); omega
          have lq : ((encs us ++ [(0 : Int)]).take q).length ≤ area bs.length := by rw [List.length_take, lrow]; omega
          refine kE' hfit npw H5 _ wr5 _ v dd fs ⟨⟨jx, k05 _ _ hj njd njl⟩, D5, Jq.good.beside _ lq, ?_⟩ ?_ u1 (by rw [lrow] at u2; omega) k05 (s2.free hdd) hx
          · rw [put_len]; exact Jq.len
          · rw [put_len]
theorem set_rep (n i : Nat) : (List.replicate n (0 : Int)).set i 0 = List.replicate n 0 := by
  refine List.ext_getElem? fun k => ?_
  by_cases h : k = i
  · subst h
    by_cases hk : k < n
    · rw [List.getElem?_set_self (by rw [List.length_replicate]; exact hk), List.getElem?_replicate, if_pos hk]
    · rw [List.getElem?_eq_none (by rw [List.length_set, List.length_replicate]; omega), List.getElem?_eq_none (by rw [List.length_replicate]; omega)]
  · rw [List.getElem?_set_ne (Ne.symm h)]
theorem scFormat : FnScope ["device"] ["device"] (defScope sFormat) := ⟨rfl, rfl, rfl, by decide +kernel, rfl, by decide +kernel, by decide +kernel⟩
theorem ok_format {f fJ : Addr} {fd fdJ : FuncData} (F : Fun K "format_device" "format_device" sFormat f fd) (T : Txt K mg D C) (BS : Callee P w K mg base CX0 "area_start" 6 ["device", "number"] (spAreaStart D))
    (BW : MCallee P w K mg base (L2.CX P w) D "write" 5 ["self", "start", "row"] (spWrite D PC)) (MJ : Mk K C fJ) (GJ : FnOk P w K mg base CX0 5 fJ fdJ ["self", "device"] (spJInit C)) (bJ : Binds K fdJ ["self", "device"] []) : FnOk P w K mg base CX0 8 f fd ["device"] (spFormat D C) := by
  obtain ⟨fS, fdS, GS, mS, kS, bS⟩ := BS.ex
  obtain ⟨fW, fdW, GW, mW, bW⟩ := BW.ex
  refine F.ok scFormat (fun vs H Q E h => ?_) (fun cdv A outer s H vs Q E hr h => ?_)
  · obtain ⟨d, l, n, rfl, _⟩ := h
    rfl
  · obtain ⟨d, l, n, rfl, hD, hn, hn2, k⟩ := h
    obtain ⟨tEnd, hsE⟩ := T.end_
    have hr5 : Room 5 _ := hr.mono (by decide)
    have hr6 : Room 6 _ := hr.mono (by decide)
    have hD0 := hD
    obtain ⟨⟨dx, hd⟩, hl⟩ := hD
    refine ⟨_, pss_cons (ps_if (pt_cmpR op_lt (pe_fld (pv 0) rfl) pe_int (nomark _)) (pss_one ps_never) pss_nil)
      (pss_cons (ps_expr (pe_meth (pv 0) T.cD mW GW hr5 bW .nil passL (pa_cons pe_int (pa_cons (pe_lst (pa_cons pe_int pa_nil)) pa_nil))))
      (pss_cons (ps_expr (pe_meth (pv 0) T.cD mW GW hr5 bW .nil passL (pa_cons (pe_call GS hr6 rfl mS kS bS .nil pass0 (pa_cons (pv 0) (pa_cons pe_int pa_nil))) (pa_cons (pe_lst (pa_cons (pe_glob (v := .int 0) rfl hsE ⟨_, rfl⟩) pa_nil)) pa_nil))))
      (pss_cons (ps_expr (pe_meth (pv 0) T.cD mW GW hr5 bW .nil passL (pa_cons pe_int (pa_cons (pe_lst (pa_cons pe_int pa_nil)) pa_nil))))
      (pss_one (ps_ret (pe_make MJ GJ hr6 rfl T.dC bJ .nil pass0 (pa_cons (pv 0) pa_nil))))))), ?_⟩
    have ln : (List.replicate n (0 : Int)).length = n := List.length_replicate
    refine ⟨_, rfl, d, D, dx, _, _, rfl, hd, T.cD, T.nSi, df_size, _, _, rfl, rfl, _, rfl, ?_⟩
    refine ite2 (fun hf => ?_) (fun hf => ?_)
    · have hf := of_decide_eq_true hf
      rw [ln] at hf
      omega
    · have dno : ∀ {s : Int} {pw : V} {wr : Int}, (df l s pw wr).lookup ("write" : Str) = none := df_no (by decide +kernel) (by decide +kernel) (by decide +kernel) (by decide +kernel)
      have one : ∀ x : V, [x].length ≤ sizeLine := fun x => by show 1 ≤ sizeLine; decide
      refine ⟨_, rfl, d, dx, _, rfl, hd, dno, (one _), fun a1 ha1 => ?_⟩
      have s1 := same_upd (o := .lst [V.int 0]) ha1
      have n1 : a1 ≠ l := fun e => by rw [e, hl] at ha1; cases ha1
      refine ⟨d, l, a1, .non, 0, _, [(0 : Int)], 0, rfl, hD0.same s1, upd_same, n1, by rw [ln]; show 0 + 1 ≤ n; omega, by rw [ln]; exact hn2, .inl rfl, by omega, by omega, fun H2 pw2 D2 n2 _ k2 => ?_, fun npw => absurd rfl npw⟩
      obtain rfl := n2 rfl
      have e2 : put (List.replicate n (0 : Int)) 0 [(0 : Int)] = List.replicate n 0 := set_rep n 0
      rw [e2] at D2
      have D2' := D2
      obtain ⟨⟨dx2, hd2⟩, hl2⟩ := D2
      refine ⟨_, rfl, d, dx2, _, rfl, hd2, dno, _, rfl, d, l, _, _, _, 1, rfl, D2', by rw [ln]; omega, .inl rfl, (one _), fun a3 ha3 => ?_⟩
      have s3 := same_upd (o := .lst [V.int 0]) ha3
      have n3 : a3 ≠ l := fun e => by rw [e, hl2] at ha3; cases ha3
      have ea : astart (List.replicate n (0 : Int)).length 1 = 1 := by unfold astart; omega
      rw [ea]
      refine ⟨d, l, a3, .non, _, _, [(0 : Int)], 1, rfl, D2'.same s3, upd_same, n3, by rw [ln]; show 1 + 1 ≤ n; omega, by rw [ln]; exact hn2, .inl rfl, (by decide), (by decide), fun H4 pw4 D4 n4 _ k4 => ?_, fun npw => absurd rfl npw⟩
      obtain rfl := n4 rfl
      have D4' := D4
      obtain ⟨⟨dx4, hd4⟩, hl4⟩ := D4
      refine ⟨_, rfl, d, dx4, _, rfl, hd4, dno, (one _), fun a5 ha5 => ?_⟩
      have s5 := same_upd (o := .lst [V.int 1]) ha5
      have n5 : a5 ≠ l := fun e => by rw [e, hl4] at ha5; cases ha5
      have lp : (put (List.replicate n (0 : Int)) 1 [(0 : Int)]).length = n := (put_len _ _ _).trans ln
      refine ⟨d, l, a5, .non, _, _, [(1 : Int)], 0, rfl, D4'.same s5, upd_same, n5, by rw [lp]; show 0 + 1 ≤ n; omega, by rw [lp]; exact hn2, .inl rfl, (by decide), (by decide), fun H6 pw6 D6 n6 _ k6 => ?_, fun npw => absurd rfl npw⟩
      obtain rfl := n6 rfl
      have k06 : Keep d l H H6 := ((((Same.to s1).trans k2).trans (Same.to s3)).trans k4).trans (Same.to s5) |>.trans k6
      refine ⟨_, rfl, fun x jx nx njx nex => ?_⟩
      have s7 : L2.Same H6 (upd (upd H6 jx (.own x)) x (.ins C jx [])) := fun b o e => by
        rw [upd_ne (ne_of_none e nx), upd_ne (ne_of_none e njx)]
        exact e
      refine ⟨x, d, jx, rfl, upd_same, fun H8 hj8 k8 => ⟨rfl, ?_⟩⟩
      have s8 : L2.Same H6 H8 := fun b o e => k8 b o (s7 b o e) (ne_of_none e nx)
      refine k H8 x _ ⟨hj8, D6.same s8, good_new hn, ?_⟩ ?_ (k06.trans (Same.to s8)) (free_keep k06 D6 nx)
      · rw [put_len, put_len, ln]; exact hn2
      · rw [put_len, put_len, ln]
end
end J
namespace J
open PySem PySem.Spec PyProof.Rows L2
/-! ### 12. The law's draws: only their bounds matter -/
abbrev sCell : Stmt := top 23
abbrev sDigits : Stmt := top 24
abbrev sDraw : Stmt := top 25
abbrev sSign : Stmt := top 26
abbrev sWord : Stmt := top 27
abbrev sWords : Stmt := top 28
def spCell (K : PySem.W.Frag) : Sp := fun vs H Q _ => ∃ (a : Addr) (ns : List Int) (k : Nat), vs = [.ref a, .int k] ∧ SqL K H a (ns.map V.int) ∧ ∀ z, Q (.int z) H
def spDigits (K : PySem.W.Frag) : Sp := fun vs H Q _ => ∃ (a : Addr) (ns : List Int), vs = [.ref a, .int 0, .int 63] ∧ SqL K H a (ns.map V.int) ∧
  ∀ H' p (ds : List Int), L2.Same H H' → H p = none → H' p = some (.lst (ds.map V.int)) → ds.length ≤ 4000 → Q (.ref p) H'
/-- at bx: the digits (a list at dg) and how many are drawn -/
structure Box (H : Hp) (bx dg : Addr) : Prop where
  ex : ∃ (n : Nat) (ds : List Int), H bx = some (.lst [.ref dg, .int n]) ∧ H dg = some (.lst (ds.map V.int)) ∧ ds.length ≤ 4000
def KeepB (bx : Addr) (H H' : Hp) : Prop := ∀ b o, H b = some o → b ≠ bx → H' b = some o
theorem KeepB.refl (bx : Addr) (H : Hp) : KeepB bx H H := fun _ _ e _ => e
theorem KeepB.trans {bx : Addr} {H H1 H2 : Hp} (a : KeepB bx H H1) (b : KeepB bx H1 H2) : KeepB bx H H2 := fun c o e h => b c o (a c o e h) h
theorem KeepB.of {bx : Addr} {H H1 : Hp} (a : L2.Same H H1) : KeepB bx H H1 := fun c o e _ => a c o e
theorem Box.ne {H : Hp} {bx dg : Addr} (b : Box H bx dg) : dg ≠ bx := by
  obtain ⟨n, ds, h1, h2, _⟩ := b.ex
  refine ne_of h2 h1 fun q => ?_
  injection q with q
  cases ds with
  | nil => cases q
  | cons x r => cases q
theorem Box.same {H H' : Hp} {bx dg : Addr} (b : Box H bx dg) (s : L2.Same H H') : Box H' bx dg := by
  obtain ⟨n, ds, h1, h2, h3⟩ := b.ex
  exact ⟨n, ds, s _ _ h1, s _ _ h2, h3⟩
theorem Box.free {H H' : Hp} {bx dg : Addr} (b : Box H' bx dg) (k : KeepB bx H H') {a : Addr} (h : H' a = none) : H a = none := by
  obtain ⟨n, ds, h1, h2, h3⟩ := b.ex
  cases e : H a with
  | none => rfl
  | some o =>
    by_cases q : a = bx
    · rw [q, h1] at h; cases h
    · rw [k _ _ e q] at h; cases h
def spDraw : Sp := fun vs H Q _ => ∃ (bx dg : Addr) (m : Int), vs = [.ref bx, .int m] ∧ 0 < m ∧ Box H bx dg ∧ ∀ H' z, 0 ≤ z → z < m → Box H' bx dg → KeepB bx H H' → Q (.int z) H'
def spSign : Sp := fun vs H Q _ => ∃ k : Int, vs = [.int k] ∧ ∀ c, c ∈ SG.cps.toList → Q (.str ⟨#[c]⟩) H
def spWord : Sp := fun vs H Q _ => ∃ (bx dg : Addr), vs = [.ref bx, .int 12] ∧ Box H bx dg ∧ ∀ H' z, Plain z → z.length ≤ 12 → Box H' bx dg → KeepB bx H H' → Q (.str z) H'
def spWords : Sp := fun vs H Q _ => ∃ (bx dg : Addr), vs = [.ref bx, .int 4, .int 12] ∧ Box H bx dg ∧
  ∀ H' p (us : List Str), (∀ t ∈ us, Plain t ∧ t.length ≤ 12) → us.length ≤ 4 → Box H' bx dg → KeepB bx H H' → H p = none → H' p = some (.lst (us.map V.str)) → Q (.ref p) H'
section
variable {P : Program} {w : World} {K : PySem.W.Frag} {mg : Str → Option Value} {base : Heap} {D C : Addr}
theorem scCell : FnScope ["_law_script", "_law_k"] ["_law_script", "_law_k"] (defScope sCell) := ⟨rfl, rfl, rfl, by decide +kernel, rfl, by decide +kernel, by decide +kernel⟩
theorem ok_cell {f : Addr} {fd : FuncData} (F : Fun K "_law_cell" "_law_cell" sCell f fd) (T : Txt K mg D C) : FnOk P w K mg base CX0 5 f fd ["_law_script", "_law_k"] (spCell K) := by
  refine F.ok scCell (fun vs H Q E h => ?_) (fun cdv A outer s H vs Q E hr h => ?_)
  · obtain ⟨a, ns, k, rfl, _⟩ := h
    rfl
  · obtain ⟨a, ns, k, rfl, hS, kq⟩ := h
    refine ⟨_, pss_cons (ps_if (pt_cmpR op_lt (pv 1) (pe_callB call_len_seq (by rfl) T.len PySem.boot_len (pa_cons (pv 0) pa_nil)) (nomark _)) (pss_one (ps_ret (pe_ix ix_list (pv 0) (pv 1) (fun _ _ => rfl)))) pss_nil) (pss_one (ps_ret pe_int)), ?_⟩
    refine ⟨_, rfl, _, rfl, a, _, rfl, .inl hS, _, _, rfl, rfl, _, rfl, ?_⟩
    rw [List.length_map]
    refine ite2 (fun hf => ?_) (fun hf => ?_)
    · have hf := of_decide_eq_true hf
      have hk : k < ns.length := by omega
      refine ⟨_, rfl, _, rfl, a, _, _, _, rfl, rfl, hS, atI_nat (v := .int ns[k]) (by rw [List.getElem?_map, List.getElem?_eq_getElem hk]; rfl), kq _⟩
    · exact kq 0
theorem scDigits : FnScope ["_law_script", "_law_first", "_law_last", "_law_digits_here", "_law_k", "_law_cell_here", "_law_turn", "_law_seed"] ["_law_script", "_law_first", "_law_last"] (defScope sDigits) := ⟨rfl, rfl, rfl, by decide +kernel, rfl, by decide +kernel, by decide +kernel⟩
theorem ok_digits {f : Addr} {fd : FuncData} (F : Fun K "_law_digits" "_law_digits" sDigits f fd) (T : Txt K mg D C) (BC : Callee P w K mg base CX0 "_law_cell" 5 ["_law_script", "_law_k"] (spCell K)) : FnOk P w K mg base CX0 7 f fd ["_law_script", "_law_first", "_law_last"] (spDigits K) := by
  obtain ⟨fC, fdC, GC, mC, kC, bC⟩ := BC.ex
  refine F.ok scDigits (fun vs H Q E h => ?_) (fun cdv A outer s H vs Q E hr h => ?_)
  · obtain ⟨a, ns, rfl, _⟩ := h
    rfl
  · obtain ⟨a, ns, rfl, hS, k⟩ := h
    have hr5 : Room 5 _ := hr.mono (by decide)
    refine ⟨_, pss_cons (ps_set (i := 3) scDigits.nd rfl (Or.inl rfl) (pe_lst pa_nil))
      (pss_cons (ps_for PassesOwn.never rfl (pi_range2 (by rfl) T.range (pa_cons (pv 1) (pa_cons (pv 2) pa_nil))) (pg_name (i := 4) scDigits.nd rfl (Or.inl rfl))
        (pss_cons (ps_set (i := 5) scDigits.nd rfl (Or.inl rfl) (pe_call GC hr5 rfl mC kC bC .nil pass0 (pa_cons (pv 0) (pa_cons (pv 4) pa_nil))))
        (C8.pss_cut (ps_if (pt_cmpR op_lt (pv 5) pe_int (nomark _)) (pss_one (ps_set (i := 5) scDigits.nd rfl (Or.inl rfl) (pe_op op_sub pe_int (pe_op op_mul pe_int (pv 5))))) pss_nil)
        (pss_one (ps_if (pt_cmpR op_ge (pv 5) (pe_op op_pow pe_int pe_int) (nomark _))
          (pss_one (ps_for PassesOwn.never rfl (pi_range1 rfl T.range (pa_cons pe_int pa_nil)) (pg_name (i := 6) scDigits.nd rfl (Or.inl rfl))
            (pss_one (ps_if (pt_cmpR op_gt (pv 5) pe_int (nomark _))
              (pss_cons (ps_expr (pe_bm PySem.F.plainAttrs_list PySem.F.slot_list_append PySem.F.type_list_append mt_append (pv 3) (pa_cons (pe_op op_mod (pe_callTy call_int1 (by rfl) T.int (by decide +kernel) (pa_cons (pv 5) pa_nil)) pe_int) pa_nil)))
                (pss_one (ps_set (i := 5) scDigits.nd rfl (Or.inl rfl) (pe_op op_fdiv (pv 5) pe_int)))) pss_nil))))
          (pss_cons (ps_set (i := 7) scDigits.nd rfl (Or.inl rfl) (pe_op op_mod (pe_callTy call_int1 (by rfl) T.int (by decide +kernel) (pa_cons (pe_op op_add (pe_op op_add (pe_op op_mul (pv 5) pe_int) (pe_op op_mul (pv 4) pe_int)) pe_int) pa_nil)) pe_int))
            (pss_one (ps_for PassesOwn.never rfl (pi_range1 rfl T.range (pa_cons pe_int pa_nil)) (pg_name (i := 6) scDigits.nd rfl (Or.inl rfl))
              (pss_cons (ps_set (i := 7) scDigits.nd rfl (Or.inl rfl) (pe_op op_mod (pe_callTy call_int1 (by rfl) T.int (by decide +kernel) (pa_cons (pe_op op_add (pe_op op_add (pe_op op_mul (pv 7) pe_int) (pe_op op_mul pe_int (pv 6))) pe_int) pa_nil)) pe_int))
                (pss_one (ps_expr (pe_bm PySem.F.plainAttrs_list PySem.F.slot_list_append PySem.F.type_list_append mt_append (pv 3) (pa_cons (pe_op op_mod (pe_callTy call_int1 (by rfl) T.int (by decide +kernel) (pa_cons (pe_op op_fdiv (pv 7) pe_int) pa_nil)) pe_int) pa_nil)))))))))))))
      (pss_one (ps_ret (pv 3)))), ?_⟩
    refine ⟨Nat.zero_le _, fun dg hdg => ?_⟩
    have big : 5000 < sizeLine := by decide
    refine ⟨_, rfl, _, rfl, 0, 63, rfl, ⟨by decide, by decide, by decide, by decide⟩, for_range (lo := 0) (n := ((63 : Int) - 0).toNat) (fun i σ H' => ∃ (b4 b5 b6 b7 : Option V) (ds : List Int), σ = [some (.ref a), some (.int 0), some (.int 63), some (.ref dg), b4, b5, b6, b7] ∧ L2.Same H H' ∧ H' dg = some (.lst (ds.map V.int)) ∧ ds.length ≤ 60 * i)
      ⟨none, none, none, none, [], rfl, same_upd hdg, upd_same, Nat.le_refl _⟩ ?_ ?_⟩
    · rintro i σ H1 hi ⟨b4, b5, b6, b7, ds, rfl, s1, h1, hl⟩
      have hi : i < 63 := hi
      refine ⟨_, rfl, _, rfl, a, ns, i, (by rw [Int.zero_add]; rfl), s1.seq hS, fun z => ?_⟩
      -- if cell < 0: ..
      refine ⟨fun σ' H' => H' = H1 ∧ ∃ z : Int, σ' = [some (.ref a), some (.int 0), some (.int 63), some (.ref dg), some (.int (0 + (i : Int))), some (.int z), b6, b7], ?_, ?_⟩
      · refine ⟨_, rfl, _, _, rfl, rfl, _, rfl, ?_⟩
        refine ite2 (fun _ => ?_) (fun _ => ?_)
        · exact ⟨_, rfl, _, _, rfl, rfl, .inl ⟨by decide, by decide⟩, _, _, rfl, rfl, rfl, _, rfl⟩
        · exact ⟨rfl, _, rfl⟩
      · rintro σ' H' ⟨rfl, z, rfl⟩
        refine ⟨_, rfl, _, _, rfl, rfl, ⟨by decide, by decide, by decide⟩, _, _, rfl, rfl, _, rfl, ?_⟩
        refine ite2 (fun _ => ?_) (fun _ => ?_)
        · refine ⟨60, rfl, by decide, by decide, for_range (lo := 0) (n := (60 : Int).toNat) (fun m σ H2 => ∃ (b6 : Option V) (z : Int) (ds : List Int), σ = [some (.ref a), some (.int 0), some (.int 63), some (.ref dg), some (.int (0 + (i : Int))), some (.int z), b6, b7] ∧ L2.Same H H2 ∧ H2 dg = some (.lst (ds.map V.int)) ∧ ds.length ≤ 60 * i + m)
            ⟨b6, z, ds, rfl, s1, h1, hl⟩ ?_ ?_⟩
          · rintro m σ H2 hm ⟨b6, z, ds, rfl, s2, h2, hl2⟩
            have hm : m < 60 := hm
            refine ⟨_, rfl, _, _, rfl, rfl, _, rfl, ?_⟩
            refine ite2 (fun _ => ?_) (fun _ => ?_)
            · refine ⟨_, rfl, .inl ⟨rfl, _, SqL.of h2⟩, _, rfl, .inl ⟨_, rfl, _, _, rfl, rfl, (by show (0 : Int) < 1000; decide), dg, _, _, rfl, rfl, h2, by rw [List.length_map]; omega, ?_⟩⟩
              refine ⟨_, rfl, _, _, rfl, rfl, ⟨by decide, by decide⟩, _, _, ds ++ [z % 1000], rfl, same_thn s2 hdg, ?_, ?_⟩
              · rw [upd_same, List.map_append]
                rfl
              · rw [List.length_append, List.length_singleton]
                omega
            · exact ⟨_, z, ds, rfl, s2, h2, by omega⟩
          · rintro σ H2 ⟨b6, z, ds, rfl, s2, h2, hl2⟩
            have hl2 : ds.length ≤ 60 * i + 60 := hl2
            exact ⟨_, _, _, _, ds, rfl, s2, h2, by omega⟩
        · refine ⟨_, rfl, _, _, rfl, rfl, .inr ⟨by decide, by decide⟩, _, rfl, _, _, rfl, rfl, .inr ⟨by decide, by decide⟩, _, _, rfl, rfl, _, _, rfl, rfl, .inl ⟨_, rfl, _, _, rfl, rfl, (by show (0 : Int) < 2147483647; decide), ?_⟩⟩
          refine ⟨12, rfl, by decide, by decide, for_range (lo := 0) (n := (12 : Int).toNat) (fun m σ H2 => ∃ (b6 : Option V) (y : Int) (ds : List Int), σ = [some (.ref a), some (.int 0), some (.int 63), some (.ref dg), some (.int (0 + (i : Int))), some (.int z), b6, some (.int y)] ∧ L2.Same H H2 ∧ H2 dg = some (.lst (ds.map V.int)) ∧ ds.length ≤ 60 * i + m)
            ⟨b6, _, ds, rfl, s1, h1, hl⟩ ?_ ?_⟩
          · rintro m σ H2 hm ⟨b6, y, ds, rfl, s2, h2, hl2⟩
            have hm : m < 12 := hm
            refine ⟨_, rfl, _, _, rfl, rfl, .inr ⟨by decide, by decide⟩, _, rfl, _, _, rfl, rfl, .inl ⟨by decide, by decide⟩, _, _, rfl, rfl, _, _, rfl, rfl, .inl ⟨_, rfl, _, _, rfl, rfl, (by show (0 : Int) < 2147483647; decide), ?_⟩⟩
            refine ⟨_, rfl, .inl ⟨rfl, _, SqL.of h2⟩, _, rfl, _, _, rfl, rfl, ⟨by decide, by decide⟩, .inl ⟨_, rfl, _, _, rfl, rfl, (by show (0 : Int) < 1000; decide), dg, _, _, rfl, rfl, h2, by rw [List.length_map]; omega, ?_⟩⟩
            refine ⟨_, _, ds ++ [((y * 16807 + 7 * (0 + (m : Int)) + 1) % 2147483647 / 997) % 1000], rfl, same_thn s2 hdg, ?_, ?_⟩
            · rw [upd_same, List.map_append]
              rfl
            · rw [List.length_append, List.length_singleton]
              omega
          · rintro σ H2 ⟨b6, y, ds, rfl, s2, h2, hl2⟩
            have hl2 : ds.length ≤ 60 * i + 12 := hl2
            exact ⟨_, _, _, _, ds, rfl, s2, h2, by omega⟩
    · rintro σ H1 ⟨b4, b5, b6, b7, ds, rfl, s1, h1, hl⟩
      have hl : ds.length ≤ 60 * 63 := hl
      exact ⟨_, rfl, k H1 dg ds s1 hdg h1 (by omega)⟩
theorem scDraw : FnScope ["_law_box", "_law_many", "_law_at"] ["_law_box", "_law_many"] (defScope sDraw) := ⟨rfl, rfl, rfl, by decide +kernel, rfl, by decide +kernel, by decide +kernel⟩
theorem ok_draw {f : Addr} {fd : FuncData} (F : Fun K "_law_draw" "_law_draw" sDraw f fd) (T : Txt K mg D C) : FnOk P w K mg base CX0 5 f fd ["_law_box", "_law_many"] spDraw := by
  refine F.ok scDraw (fun vs H Q E h => ?_) (fun cdv A outer s H vs Q E hr h => ?_)
  · obtain ⟨bx, dg, m, rfl, _⟩ := h
    rfl
  · obtain ⟨bx, dg, m, rfl, hm, B, k⟩ := h
    have nb := B.ne
    obtain ⟨n, ds, h1, h2, h3⟩ := B.ex
    refine ⟨_, pss_cons (ps_set (i := 2) scDraw.nd rfl (Or.inl rfl) (pe_ix ix_list (pv 0) pe_int (fun _ _ => rfl)))
      (pss_cons (ps_asg (pe_op op_add (pv 2) pe_int) (pg_sub (pv 0) pe_int set_list))
      (pss_cons (ps_if (pt_cmpR op_lt (pv 2) (pe_callB call_len_seq (by rfl) T.len PySem.boot_len (pa_cons (pe_ix ix_list (pv 0) pe_int (fun _ _ => rfl)) pa_nil)) (nomark _))
        (pss_one (ps_ret (pe_op op_mod (pe_callTy call_int1 (by rfl) T.int (by decide +kernel) (pa_cons (pe_ix ix_list (pe_ix ix_list (pv 0) pe_int (fun _ _ => rfl)) (pv 2) (fun _ _ => rfl)) pa_nil)) (pv 1)))) pss_nil)
      (pss_one (ps_ret pe_int)))), ?_⟩
    refine ⟨_, rfl, bx, _, _, _, rfl, rfl, SqL.of h1, atI_nat (j := 1) (v := .int n) rfl, ?_⟩
    refine ⟨_, rfl, _, _, rfl, rfl, _, rfl, bx, _, _, 1, rfl, rfl, h1, rfl, ?_⟩
    obtain ⟨H1, e1⟩ : ∃ H1, H1 = upd H bx (.lst (([V.ref dg, V.int n] : List V).set 1 (.int ((n : Int) + 1)))) := ⟨_, rfl⟩
    have b1 : H1 bx = some (.lst [V.ref dg, V.int ((n + 1 : Nat) : Int)]) := by rw [e1, upd_same]; rfl
    have d1 : H1 dg = some (.lst (ds.map V.int)) := by rw [e1, upd_ne nb]; exact h2
    have kb : KeepB bx H H1 := fun b o e hb => by rw [e1, upd_ne hb]; exact e
    have B1 : Box H1 bx dg := ⟨n + 1, ds, b1, d1, h3⟩
    show tSeq _ _ _ _ (upd H bx (.lst (([V.ref dg, V.int n] : List V).set 1 (.int ((n : Int) + 1)))))
    rw [← e1]
    refine ⟨_, rfl, _, rfl, bx, _, _, _, rfl, rfl, SqL.of b1, atI_nat (j := 0) (v := .ref dg) rfl, dg, _, rfl, .inl (SqL.of d1), _, _, rfl, rfl, _, rfl, ?_⟩
    rw [List.length_map]
    refine ite2 (fun hf => ?_) (fun hf => ?_)
    · have hf := of_decide_eq_true hf
      have hn : n < ds.length := by omega
      refine ⟨_, rfl, bx, _, _, _, rfl, rfl, SqL.of b1, atI_nat (j := 0) (v := .ref dg) rfl, _, rfl, dg, _, _, _, rfl, rfl, SqL.of d1, atI_nat (v := .int ds[n]) (by rw [List.getElem?_map, List.getElem?_eq_getElem hn]; rfl), .inl ⟨_, rfl, _, rfl, _, _, rfl, rfl, hm, ?_⟩⟩
      exact k H1 _ (Int.emod_nonneg _ (by omega)) (Int.emod_lt_of_pos _ hm) B1 kb
    · exact k H1 0 (Int.le_refl _) hm B1 kb
def SG2 : Str := match defBody (top 26) with
  | .Assign _ (.Constant (.str s) _ _) _ :: _ => s
  | _ => Str.empty
theorem SG2_eq : SG2 = SG := by decide +kernel
theorem sign_at (k : Int) : ∃ c, c ∈ SG.cps.toList ∧ atI SG2.cps.toList (k % 96) = some c := by
  rw [SG2_eq]
  have h0 := Int.emod_nonneg k (show (96 : Int) ≠ 0 by decide)
  have h1 := Int.emod_lt_of_pos k (show (0 : Int) < 96 by decide)
  obtain ⟨n, hn⟩ := Int.eq_ofNat_of_zero_le h0
  rw [hn] at h1 ⊢
  have hl : n < SG.cps.toList.length := by rw [SG_len]; omega
  exact ⟨SG.cps.toList[n], List.getElem_mem _, atI_nat (List.getElem?_eq_getElem hl)⟩
theorem scSign : FnScope ["_law_k", "_law_row"] ["_law_k"] (defScope sSign) := ⟨rfl, rfl, rfl, by decide +kernel, rfl, by decide +kernel, by decide +kernel⟩
theorem ok_sign {f : Addr} {fd : FuncData} (F : Fun K "_law_sign" "_law_sign" sSign f fd) (T : Txt K mg D C) : FnOk P w K mg base CX0 5 f fd ["_law_k"] spSign := by
  refine F.ok scSign (fun vs H Q E h => ?_) (fun cdv A outer s H vs Q E hr h => ?_)
  · obtain ⟨k, rfl, _⟩ := h
    rfl
  · obtain ⟨k, rfl, kq⟩ := h
    refine ⟨_, pss_cons (ps_set (i := 1) scSign.nd rfl (Or.inl rfl) pe_str) (pss_one (ps_ret (pe_ix ix_str (pv 1) (pe_op op_mod (pe_callTy call_int1 (by rfl) T.int (by decide +kernel) (pa_cons (pv 0) pa_nil)) pe_int) (fun _ _ => rfl)))), ?_⟩
    obtain ⟨c, hc, hat⟩ := sign_at k
    exact ⟨_, rfl, _, rfl, .inl ⟨_, rfl, _, _, rfl, rfl, (by show (0 : Int) < 96; decide), SG2, _, c, rfl, rfl, by rw [SG2_eq, SG_length]; decide, hat, kq c hc⟩⟩
theorem plain_snoc {z : Str} {c : Nat} (hz : Plain z) (hc : c ∈ SG.cps.toList) : Plain (z ++ (⟨#[c]⟩ : Str)) := fun x hx => by
  rw [PySem.Str.cps_append, Array.toList_append] at hx
  rcases List.mem_append.mp hx with h | h
  · exact hz x h
  · have : x = c := by simpa using h
    rw [this]
    exact hc
theorem scWord : FnScope ["_law_box", "_law_most", "_law_word_here", "_law_k"] ["_law_box", "_law_most"] (defScope sWord) := ⟨rfl, rfl, rfl, by decide +kernel, rfl, by decide +kernel, by decide +kernel⟩
theorem ok_word {f : Addr} {fd : FuncData} (F : Fun K "_law_word" "_law_word" sWord f fd) (T : Txt K mg D C) (BD : Callee P w K mg base CX0 "_law_draw" 5 ["_law_box", "_law_many"] spDraw) (BS : Callee P w K mg base CX0 "_law_sign" 5 ["_law_k"] spSign) : FnOk P w K mg base CX0 7 f fd ["_law_box", "_law_most"] spWord := by
  obtain ⟨fD, fdD, GD, mD, kD, bD⟩ := BD.ex
  obtain ⟨fS, fdS, GS, mS, kS, bS⟩ := BS.ex
  refine F.ok scWord (fun vs H Q E h => ?_) (fun cdv A outer s H vs Q E hr h => ?_)
  · obtain ⟨bx, dg, rfl, _⟩ := h
    rfl
  · obtain ⟨bx, dg, rfl, B, k⟩ := h
    have hr5 : Room 5 _ := hr.mono (by decide)
    refine ⟨_, pss_cons (ps_set (i := 2) scWord.nd rfl (Or.inl rfl) pe_str)
      (pss_cons (ps_for PassesOwn.never rfl (pi_range1 rfl T.range (pa_cons (pe_call GD hr5 rfl mD kD bD .nil pass0 (pa_cons (pv 0) (pa_cons (pe_op op_add (pv 1) pe_int) pa_nil))) pa_nil)) (pg_name (i := 3) scWord.nd rfl (Or.inl rfl))
        (pss_one (ps_set (i := 2) scWord.nd rfl (Or.inl rfl) (pe_op op_add_str (pv 2) (pe_call GS hr5 rfl mS kS bS .nil pass0 (pa_cons (pe_call GD hr5 rfl mD kD bD .nil pass0 (pa_cons (pv 0) (pa_cons pe_int pa_nil))) pa_nil))))))
      (pss_one (ps_ret (pv 2)))), ?_⟩
    refine ⟨_, rfl, _, rfl, _, _, rfl, rfl, bx, dg, _, rfl, (by decide), B, fun H1 n n0 n1 B1 k1 => ?_⟩
    have n1 : n < 13 := n1
    refine ⟨n, rfl, by omega, by omega, for_range (lo := 0) (n := n.toNat) (fun i σ H' => ∃ (b : Option V) (z : Str), σ = [some (.ref bx), some (.int 12), some (.str z), b] ∧ Plain z ∧ z.length = i ∧ Box H' bx dg ∧ KeepB bx H H')
      ⟨none, _, rfl, (fun c hc => by cases hc), rfl, B1, k1⟩ ?_ ?_⟩
    · rintro i σ H2 hi ⟨b, z, rfl, pz, lz, B2, k2⟩
      have hi : i < 13 := by omega
      refine ⟨_, rfl, _, rfl, bx, dg, 96, rfl, (by decide), B2, fun H3 x x0 x1 B3 k3 => ⟨x, rfl, fun c hc => ⟨_, _, rfl, rfl, ?_, ?_⟩⟩⟩
      · rw [lz]
        show i + 1 ≤ sizeLine
        have : 1000 < sizeLine := by decide
        omega
      · refine ⟨_, z ++ (⟨#[c]⟩ : Str), rfl, plain_snoc pz hc, ?_, B3, k2.trans k3⟩
        rw [PySem.Str.length_append, lz]
        rfl
    · rintro σ H2 ⟨b, z, rfl, pz, lz, B2, k2⟩
      exact ⟨_, rfl, k H2 z pz (by omega) B2 k2⟩
theorem scWords : FnScope ["_law_box", "_law_many", "_law_most", "_law_words_here", "_law_k"] ["_law_box", "_law_many", "_law_most"] (defScope sWords) := ⟨rfl, rfl, rfl, by decide +kernel, rfl, by decide +kernel, by decide +kernel⟩
theorem ok_words {f : Addr} {fd : FuncData} (F : Fun K "_law_words" "_law_words" sWords f fd) (T : Txt K mg D C) (BD : Callee P w K mg base CX0 "_law_draw" 5 ["_law_box", "_law_many"] spDraw) (BW : Callee P w K mg base CX0 "_law_word" 7 ["_law_box", "_law_most"] spWord) : FnOk P w K mg base CX0 8 f fd ["_law_box", "_law_many", "_law_most"] spWords := by
  obtain ⟨fD, fdD, GD, mD, kD, bD⟩ := BD.ex
  obtain ⟨fW, fdW, GW, mW, kW, bW⟩ := BW.ex
  refine F.ok scWords (fun vs H Q E h => ?_) (fun cdv A outer s H vs Q E hr h => ?_)
  · obtain ⟨bx, dg, rfl, _⟩ := h
    rfl
  · obtain ⟨bx, dg, rfl, B, k⟩ := h
    have hr5 : Room 5 _ := hr.mono (by decide)
    refine ⟨_, pss_cons (ps_set (i := 3) scWords.nd rfl (Or.inl rfl) (pe_lst pa_nil))
      (pss_cons (ps_for PassesOwn.never rfl (pi_range1 rfl T.range (pa_cons (pe_call GD hr5 rfl mD kD bD .nil pass0 (pa_cons (pv 0) (pa_cons (pe_op op_add (pv 1) pe_int) pa_nil))) pa_nil)) (pg_name (i := 4) scWords.nd rfl (Or.inl rfl))
        (pss_one (ps_expr (pe_bm PySem.F.plainAttrs_list PySem.F.slot_list_append PySem.F.type_list_append mt_append (pv 3) (pa_cons (pe_call GW hr rfl mW kW bW .nil pass0 (pa_cons (pv 0) (pa_cons (pv 2) pa_nil))) pa_nil)))))
      (pss_one (ps_ret (pv 3)))), ?_⟩
    refine ⟨Nat.zero_le _, fun p hp => ?_⟩
    have s1 := same_upd (o := .lst []) hp
    refine ⟨_, rfl, _, rfl, _, _, rfl, rfl, bx, dg, _, rfl, (by decide), B.same s1, fun H1 n n0 n1 B1 k1 => ?_⟩
    have n1 : n < 5 := n1
    have npb : p ≠ bx := fun e => by
      obtain ⟨_, _, h1, _⟩ := B.ex
      rw [e, h1] at hp
      cases hp
    refine ⟨n, rfl, by omega, by omega, for_range (lo := 0) (n := n.toNat) (fun i σ H' => ∃ (b : Option V) (us : List Str), σ = [some (.ref bx), some (.int 4), some (.int 12), some (.ref p), b] ∧ (∀ t ∈ us, Plain t ∧ t.length ≤ 12) ∧ us.length = i ∧ Box H' bx dg ∧ KeepB bx H H' ∧ H' p = some (.lst (us.map V.str)))
      ⟨none, [], rfl, fun t h => (by cases h), rfl, B1, (KeepB.of s1).trans k1, k1 _ _ upd_same npb⟩ ?_ ?_⟩
    · rintro i σ H2 hi ⟨b, us, rfl, pu, lu, B2, k2, h2⟩
      refine ⟨_, rfl, .inl ⟨rfl, _, SqL.of h2⟩, _, rfl, _, rfl, bx, dg, rfl, B2, fun H3 z pz lz B3 k3 => ?_⟩
      have h3 := k3 _ _ h2 npb
      have npd : p ≠ dg := fun e => by
        obtain ⟨_, _, _, h1, _⟩ := B.ex
        rw [e, h1] at hp
        cases hp
      refine ⟨p, _, _, rfl, rfl, h3, by rw [List.length_map, lu]; have : 1000 < sizeLine := (by decide); omega, ?_⟩
      refine ⟨_, us ++ [z], rfl, fun t ht => ?_, by rw [List.length_append, lu]; rfl, ?_, ?_, ?_⟩
      · rcases List.mem_append.mp ht with h | h
        · exact pu t h
        · rw [List.mem_singleton.mp h]
          exact ⟨pz, lz⟩
      · obtain ⟨m, ds, q1, q2, q3⟩ := B3.ex
        exact ⟨m, ds, by rw [upd_ne npb.symm]; exact q1, by rw [upd_ne npd.symm]; exact q2, q3⟩
      · intro b o e hb
        rw [upd_ne (ne_of_none e hp)]
        exact k3 _ _ (k2 _ _ e hb) hb
      · rw [upd_same, List.map_append]
        rfl
    · rintro σ H2 ⟨b, us, rfl, pu, lu, B2, k2, h2⟩
      exact ⟨_, rfl, k H2 p us pu (by omega) B2 k2 hp h2⟩
end
end J
namespace J
open PySem PySem.Spec PyProof.Rows L2
/-! ### 13. The law's looks at the journal -/
abbrev sRecords : Stmt := top 29
abbrev sDone : Stmt := top 30
abbrev sSize : Stmt := top 31
/-- what the top says of the three classes of errors -/
structure ExTxt (K : PySem.W.Frag) (mg : Str → Option Value) (B LE PC : Addr) : Prop where
  gB : mg "ClearfloorError" = some (.ref B)
  gL : mg "LimitError" = some (.ref LE)
  gP : mg "PowerCut" = some (.ref PC)
  eL : PySem.W.exmOne K (.ref LE) (.ref B) = some true
  eP : PySem.W.exmOne K (.ref PC) (.ref B) = some true
  kPP : PySem.W.kitOne K (.ref PC) (.ref PC) = some true
  kLP : PySem.W.kitOne K (.ref LE) (.ref PC) = some false
  kLL : PySem.W.kitOne K (.ref LE) (.ref LE) = some true
  iL : JX.IsTxt K LE
  iP : JX.IsTxt K PC
def after (kd : Int) (ts us : List Str) : List Str := if kd = 0 then us else ts ++ us
def spDone (D C : Addr) : Sp := fun vs H Q _ => ∃ (j d l u : Addr) (kd : Int) (pw : V) (wr : Int) (bs : List Int) (ts us : List Str) (v : Nat), vs = [.ref j, .int kd, .ref u] ∧ Jn D C H j d l pw wr bs ts v ∧ Pow pw ∧ 0 ≤ wr ∧ wr ≤ 900000000 ∧
  H u = some (.lst (us.map V.str)) ∧ us.length ≤ 100 ∧ (∀ t ∈ us, Plain t ∧ t.length ≤ 12) ∧ (kd = 0 ∨ ∃ t, us = [t]) ∧
  (area bs.length < size1 (after kd ts us) → ∀ H', L2.Same H H' → Q (.int 2) H') ∧
  (size1 (after kd ts us) ≤ area bs.length → ∀ H' pw' wr' bs' v', Jn D C H' j d l pw' wr' bs' (after kd ts us) v' → bs'.length = bs.length → wr ≤ wr' → wr' ≤ wr + 2000 → Keep d l H H' → Q (.int 0) H') ∧
  (size1 (after kd ts us) ≤ area bs.length → ∀ H' pw' wr' bs' v', Jn D C H' j d l pw' wr' bs' ts v' → bs'.length = bs.length → wr ≤ wr' → wr' ≤ wr + 2000 → Keep d l H H' → Q (.int 1) H')
def spSize : Sp := fun vs H Q _ => ∃ (u : Addr) (us : List Str), vs = [.ref u] ∧ H u = some (.lst (us.map V.str)) ∧ (∀ t ∈ us, t.length ≤ 12) ∧ Q (.int (size1 us)) H
def t_suite (K : PySem.W.Frag) (PC LE : Addr) : Addr → Value → Option Addr → TS := fun a cls d =>
  tSeq (tIfS (tB (tCB (JX.rIsX K cls d a) (tCons (tVar 3) (tCons (tC (.ref PC)) tNil)))) (tRet (tC (.int 1))) tNext)
    (tSeq (tIfS (tB (tCB (JX.rIsX K cls d a) (tCons (tVar 3) (tCons (tC (.ref LE)) tNil)))) (tRet (tC (.int 2))) tNext) (tRet (tC (.int 3))))
def t_body (K : PySem.W.Frag) (D C LE PC : Addr) : WX → TS := fun W =>
  tIfS (tTest (tOp rEq (tVar 1) (tC (.int 0)))) (tDrop (JX.tMethS C "rewrite" (spRewrite D C LE PC) (WE W) (tVar 0) (tCons (tVar 2) tNil)))
    (tDrop (JX.tMethS C "write_record" (spWrRec D C LE PC) (WE W) (tVar 0) (tCons (tOp (rIxL K) (tVar 2) (tC (.int 0))) tNil)))
section
variable {P : Program} {w : World} {K : PySem.W.Frag} {mg : Str → Option Value} {base : Heap} {D C B LE PC : Addr}
theorem scRecords : FnScope ["_law_journal", "_law_texts", "_law_text"] ["_law_journal"] (defScope sRecords) := ⟨rfl, rfl, rfl, by decide +kernel, rfl, by decide +kernel, by decide +kernel⟩
theorem ok_records {f : Addr} {fd : FuncData} (F : Fun K "_law_records" "_law_records" sRecords f fd) (T : Txt K mg D C) (BT : MCallee P w K mg base CX0 C "texts" 9 ["self"] (spTexts D C)) : FnOk P w K mg base CX0 10 f fd ["_law_journal"] (spTexts D C) := by
  obtain ⟨fT, fdT, GT, mT, bT⟩ := BT.ex
  refine F.ok scRecords (fun vs H Q E h => ?_) (fun cdv A outer s H vs Q E hr h => ?_)
  · obtain ⟨j, d, l, pw, wr, bs, ts, v, rfl, _⟩ := h
    rfl
  · obtain ⟨j, d, l, pw, wr, bs, ts, v, rfl, Jq, k⟩ := h
    obtain ⟨jx, hj⟩ := Jq.jn
    refine ⟨_, pss_cons (ps_set (i := 1) scRecords.nd rfl (Or.inl rfl) (pe_meth0 (pv 0) T.cC mT GT hr bT .nil pass0))
      (pss_cons (ps_if (pt_not (pt_val (pe_callB call_isi (by rfl) T.isi (by decide +kernel) (pa_cons (pv 1) (pa_cons (pe_bltn (v := .ty "list") (u := .type "list") (by rfl) T.list (by decide +kernel) rfl) pa_nil))))) (pss_one (ps_ret pe_non)) pss_nil)
      (pss_cons (ps_for PassesOwn.never rfl (pi_list (pv 1)) (pg_name (i := 2) scRecords.nd rfl (Or.inl rfl))
        (pss_one (ps_if (pt_not (pt_val (pe_callB call_isi (by rfl) T.isi (by decide +kernel) (pa_cons (pv 2) (pa_cons (pe_bltn (v := .ty "str") (u := .type "str") (by rfl) T.str (by decide +kernel) rfl) pa_nil))))) (pss_one (ps_ret pe_non)) pss_nil)))
      (pss_one (ps_ret (pv 1))))), ?_⟩
    refine ⟨_, rfl, j, jx, _, rfl, hj, (lk_tl (by decide +kernel)).trans rfl, j, d, l, pw, wr, bs, ts, v, rfl, Jq, fun H1 p s1 hp h1 => ?_⟩
    refine ⟨_, rfl, _, _, .type "list", _, true, rfl, .ty _, .base (.lst h1), kit_ty (by decide +kernel), _, rfl, ?_⟩
    refine ⟨_, rfl, p, rfl, ⟨_, SqL.of h1⟩, for_list (K := K) (a := p) (xs := ts.map V.str) (fun i σ H' => ∃ b : Option V, σ = [some (.ref j), some (.ref p), b] ∧ H' = H1) ⟨none, rfl, rfl⟩ (fun i σ H' _ ⟨_, _, e⟩ => by rw [e]; exact SqL.of h1) ?_ ?_⟩
    · rintro i y σ H2 hi ⟨b, rfl, rfl⟩
      obtain ⟨t, ht, rfl⟩ : ∃ t, ts[i]? = some t ∧ y = V.str t := by
        rw [List.getElem?_map] at hi
        cases e : ts[i]? with
        | none => rw [e] at hi; cases hi
        | some c => rw [e] at hi; exact ⟨c, rfl, (Option.some.inj hi).symm⟩
      exact ⟨_, rfl, _, _, .type "str", _, true, rfl, .ty _, .base (.str _), kit_ty (by decide +kernel), _, rfl, ⟨_, rfl, rfl⟩⟩
    · rintro σ H2 ⟨b, rfl, rfl⟩
      exact ⟨_, rfl, k H2 p s1 hp h1⟩
theorem scSize : FnScope ["_law_texts", "_law_total", "_law_text"] ["_law_texts"] (defScope sSize) := ⟨rfl, rfl, rfl, by decide +kernel, rfl, by decide +kernel, by decide +kernel⟩
theorem ok_size {f : Addr} {fd : FuncData} (F : Fun K "_law_size" "_law_size" sSize f fd) (T : Txt K mg D C) : FnOk P w K mg base CX0 5 f fd ["_law_texts"] spSize := by
  refine F.ok scSize (fun vs H Q E h => ?_) (fun cdv A outer s H vs Q E hr h => ?_)
  · obtain ⟨u, us, rfl, _⟩ := h
    rfl
  · obtain ⟨u, us, rfl, hU, hl, k⟩ := h
    refine ⟨_, pss_cons (ps_set (i := 1) scSize.nd rfl (Or.inl rfl) pe_int)
      (pss_cons (ps_for PassesOwn.never rfl (pi_list (pv 0)) (pg_name (i := 2) scSize.nd rfl (Or.inl rfl)) (pss_one (ps_set (i := 1) scSize.nd rfl (Or.inl rfl) (pe_op op_add (pe_op op_add (pv 1) pe_int) (pe_callB call_len_str (by rfl) T.len PySem.boot_len (pa_cons (pv 2) pa_nil))))))
      (pss_one (ps_ret (pv 1)))), ?_⟩
    refine ⟨_, rfl, u, rfl, ⟨_, SqL.of hU⟩, for_list (K := K) (a := u) (xs := us.map V.str) (fun i σ H' => ∃ b : Option V, σ = [some (.ref u), some (.int (((encs (us.take i)).length + 1 : Nat) : Int)), b] ∧ H' = H) ⟨none, rfl, rfl⟩ (fun i σ H' _ ⟨_, _, e⟩ => by rw [e]; exact SqL.of hU) ?_ ?_⟩
    · rintro i y σ H2 hi ⟨b, rfl, rfl⟩
      obtain ⟨t, ht, rfl⟩ : ∃ t, us[i]? = some t ∧ y = V.str t := by
        rw [List.getElem?_map] at hi
        cases e : us[i]? with
        | none => rw [e] at hi; cases hi
        | some c => rw [e] at hi; exact ⟨c, rfl, (Option.some.inj hi).symm⟩
      refine ⟨_, rfl, _, _, rfl, rfl, _, rfl, _, rfl, Nat.le_trans (hl t (List.mem_of_getElem? ht)) (by decide), _, _, rfl, rfl, ?_⟩
      refine ⟨some (.str t), ?_, rfl⟩
      show [some (V.ref u), some (V.int ((((encs (us.take i)).length + 1 : Nat) : Int) + 3 + (t.length : Int))), some (V.str t)] = _
      rw [encs_take ht, List.length_append, enc_len, show (((encs (us.take i)).length + 1 : Nat) : Int) + 3 + (t.length : Int) = (((encs (us.take i)).length + (t.length + 3) + 1 : Nat) : Int) by omega]
    · rintro σ H2 ⟨b, rfl, rfl⟩
      rw [List.length_map, List.take_length]
      exact ⟨_, rfl, k⟩
theorem scDone : FnScope ["_law_journal", "_law_kind", "_law_texts", "e"] ["_law_journal", "_law_kind", "_law_texts"] (defScope sDone) := ⟨rfl, rfl, rfl, by decide +kernel, rfl, by decide +kernel, by decide +kernel⟩
theorem ok_done {f : Addr} {fd : FuncData} (F : Fun K "_law_done" "_law_done" sDone f fd) (T : Txt K mg D C) (EX : ExTxt K mg B LE PC) (BR : MCallee P w K mg base (L2.CX P w) C "rewrite" 10 ["self", "texts"] (spRewrite D C LE PC)) (BW : MCallee P w K mg base (L2.CX P w) C "write_record" 10 ["self", "text"] (spWrRec D C LE PC)) :
    FnOk P w K mg base CX0 11 f fd ["_law_journal", "_law_kind", "_law_texts"] (spDone D C) := by
  obtain ⟨fR, fdR, GR, mR, bR⟩ := BR.ex
  obtain ⟨fW, fdW, GW, mW, bW⟩ := BW.ex
  refine F.ok scDone (fun vs H Q E h => ?_) (fun cdv A outer s H vs Q E hr h => ?_)
  · obtain ⟨j, d, l, u, kd, pw, wr, bs, ts, us, v, rfl, _⟩ := h
    rfl
  · obtain ⟨j, d, l, u, kd, pw, wr, bs, ts, us, v, rfl, Jq, hpw, w0, w1, hU, hul, pu, hkd, k2, k0, k1⟩ := h
    obtain ⟨jx, hj⟩ := Jq.jn
    refine ⟨_, pss_cons (ps_try_as (i := 3) (tb := t_body K D C LE PC) (ts := t_suite K PC LE) (Wout := fun _ _ _ _ => False) rfl rfl scDone.nd rfl rfl ⟨rfl, by decide, Or.inl EX.gB⟩ takes0
        (fun W pn xe tk _ => pss_one (ps_if (pt_cmpR op_eq (pv 1) pe_int (nomark _))
          (pss_one (ps_expr (JX.pe_methS1 (pv 0) T.cC mR GR hr bR (fun σ => passAt tk σ) (by exact (pa_cons (pv 2) pa_nil)))))
          (pss_one (ps_expr (JX.pe_methS1 (pv 0) T.cC mW GW hr bW (fun σ => passAt tk σ) (by exact (pa_cons (pe_ix ix_list (pv 2) pe_int (fun _ _ => rfl)) pa_nil)))))))
        (fun a oe cls dd pn hz hf => pss_cons (ps_if (pt_val (pe_callB (JX.call_isX hz hf) (by rfl) T.isi (by decide +kernel) (by exact (pa_cons (pv 3) (pa_cons (pe_glob (v := .ref PC) rfl EX.gP rfl) pa_nil))))) (pss_one (ps_ret pe_int)) pss_nil)
          (pss_cons (ps_if (pt_val (pe_callB (JX.call_isX hz hf) (by rfl) T.isi (by decide +kernel) (by exact (pa_cons (pv 3) (pa_cons (pe_glob (v := .ref LE) rfl EX.gL rfl) pa_nil))))) (pss_one (ps_ret pe_int)) pss_nil)
          (pss_one (ps_ret pe_int)))))
      (pss_one (ps_ret pe_int)), ?_⟩
    -- what the suite does with the two errors
    have suiteL : ∀ {rest : TS} {H' : Hp} {dd : Addr} {fs : List (Str × V)}, H' dd = some (.xd fs) → Q (.int 2) H' → wAs K (.ref B) 3 (t_suite K PC LE) (fun _ _ _ _ => False) { nx := rest { nx := fun _ H' => Q .non H', rt := Q }, rt := Q } (.ref LE) (some dd) [some (.ref j), some (.int kd), some (.ref u), none] H' :=
      fun {rest H' dd fs} hx q => ⟨true, EX.eL, fun _ a0 _ => ⟨_, rfl, LE, dd, _, _, false, fs, rfl, rfl, EX.iL, rfl, (fun u r => r), EX.kLP, hx, _, rfl, ⟨_, rfl, LE, dd, _, _, true, fs, rfl, rfl, EX.iL, rfl, (fun u r => r), EX.kLL, hx, _, rfl, q⟩⟩, fun z => Bool.noConfusion z⟩
    have suiteP : ∀ {rest : TS} {H' : Hp} {dd : Addr} {fs : List (Str × V)}, H' dd = some (.xd fs) → Q (.int 1) H' → wAs K (.ref B) 3 (t_suite K PC LE) (fun _ _ _ _ => False) { nx := rest { nx := fun _ H' => Q .non H', rt := Q }, rt := Q } (.ref PC) (some dd) [some (.ref j), some (.int kd), some (.ref u), none] H' :=
      fun {rest H' dd fs} hx q => ⟨true, EX.eP, fun _ a0 _ => ⟨_, rfl, PC, dd, _, _, true, fs, rfl, rfl, EX.iP, rfl, (fun u r => r), EX.kPP, hx, _, rfl, q⟩, fun z => Bool.noConfusion z⟩
    have jno : ∀ {m : Str}, (m == "device") = false → ([(("device" : Str), V.ref d)] : List (Str × V)).lookup m = none := fun h => (lk_tl h).trans rfl
    refine ⟨_, rfl, rfl, _, rfl, ?_⟩
    refine ite2 (fun e0 => ?_) (fun e0 => ?_)
    · have e0 := of_decide_eq_true e0
      have e0 : kd = 0 := by cases e0; rfl
      have ea : after kd ts us = us := if_pos e0
      rw [ea] at k2 k0 k1
      refine ⟨_, rfl, j, jx, _, rfl, hj, jno (by decide +kernel), _, rfl, j, d, l, u, pw, wr, bs, ts, us, v, rfl, Jq, hpw, w0, w1, hU, hul, pu, fun hf H' dd fs s1 _ hx => ?_, fun hf H' pw' wr' bs' v' J' e1 e2 e3 kp => ?_, fun hf _ H' pw' wr' bs' v' dd fs J' e1 e2 e3 kp _ hx => ?_⟩
      · exact suiteL hx (k2 hf H' s1)
      · exact k0 hf H' pw' wr' bs' v' J' e1 e2 e3 kp
      · exact suiteP hx (k1 hf H' pw' wr' bs' v' J' e1 e2 e3 kp)
    · have e0 : kd ≠ 0 := fun z => e0 (by subst z; rfl)
      obtain ⟨t, rfl⟩ := hkd.resolve_left e0
      obtain ⟨pt, lt⟩ := pu t List.mem_cons_self
      have ea : after kd ts [t] = ts ++ [t] := if_neg e0
      rw [ea] at k2 k0 k1
      refine ⟨_, rfl, j, jx, _, rfl, hj, jno (by decide +kernel), _, rfl, u, _, _, _, rfl, rfl, SqL.of hU, atI_nat (j := 0) (v := .str t) rfl, j, d, l, pw, wr, bs, ts, v, t, rfl, Jq, hpw, w0, w1, pt, lt, fun hf H' dd fs s1 _ hx => ?_, fun hf H' pw' wr' bs' v' J' e1 e2 e3 kp => ?_, fun hf _ H' pw' wr' bs' v' dd fs J' e1 e2 e3 kp _ hx => ?_⟩
      · exact suiteL hx (k2 hf H' s1)
      · exact k0 hf H' pw' wr' bs' v' J' e1 e2 e3 kp
      · exact suiteP hx (k1 hf H' pw' wr' bs' v' J' e1 e2 e3 kp)
end
end J
namespace J
open PySem PySem.Spec PyProof.Rows L2
/-! ### 14. The law -/
abbrev sLaw : Stmt := top 32
def strD (ts : List Str) : PyData := .list (ts.map PyData.str)
theorem dp_all (K : PySem.W.Frag) (H : Hp) : ∀ ts : List Str, DpAll K H (ts.map V.str) (ts.map PyData.str)
  | [] => .nil
  | t :: ts => .cons (.str t) (dp_all K H ts)
theorem dp_strs {K : PySem.W.Frag} {H : Hp} {a : Addr} {ts : List Str} (h : H a = some (.lst (ts.map V.str))) : Dp K H (.ref a) (strD ts) := .lst (SqL.of h) (dp_all K H ts)
theorem SG_ok : SG.cps.toList.all (fun c => decide (c < 0x110000)) = true := by decide +kernel
theorem plain_ok {t : Str} (h : Plain t) : PyData.strOk t = true := by
  unfold PyData.strOk
  rw [← Array.all_toList, List.all_eq_true]
  intro c hc
  exact List.all_eq_true.mp SG_ok c (h c hc)
theorem canAll : ∀ ts : List Str, (∀ t ∈ ts, Plain t) → PyData.canLayAll0 (ts.map PyData.str) = true
  | [], _ => by simp [PyData.canLayAll0]
  | t :: ts, h => by
    have ih := canAll ts fun u hu => h u (List.mem_cons_of_mem _ hu)
    simp [PyData.canLayAll0, PyData.canLay0, ih, plain_ok (h t List.mem_cons_self)]
theorem depthAll0 : ∀ ts : List Str, PyData.depthAll (ts.map PyData.str) = 0
  | [] => by simp [PyData.depthAll]
  | t :: ts => by
    have ih := depthAll0 ts
    simp [PyData.depthAll, PyData.depth, ih]
theorem shaped_strs {ts : List Str} (hp : ∀ t ∈ ts, Plain t) : SeqAt.shaped (strD ts) = true := by
  have h1 : PyData.canLay0 (strD ts) = true := by
    unfold strD
    simp only [PyData.canLay0]
    exact canAll ts hp
  have h2 : (strD ts).depth ≤ 64 := by
    unfold strD
    simp only [PyData.depth]
    rw [depthAll0]
    decide
  unfold SeqAt.shaped
  rw [h1, decide_eq_true h2]
  rfl
theorem eqvAll_strs : ∀ ts : List Str, PyData.eqvAll (ts.map PyData.str) (ts.map PyData.str) = true
  | [] => by simp [PyData.eqvAll]
  | t :: ts => by
    have ih := eqvAll_strs ts
    simp [PyData.eqvAll, PyData.eqv, ih]
theorem eqv_strs (ts : List Str) : PyData.eqv (strD ts) (strD ts) = true := by
  unfold strD
  simp only [PyData.eqv]
  exact eqvAll_strs ts
/-- lists of texts are no list of bytes, and not the box -/
theorem strs_ints {ts : List Str} {bs : List Int} (h : 0 < bs.length) : HO.lst (ts.map V.str) ≠ HO.lst (bs.map V.int) := fun q => by
  injection q with q
  cases bs with
  | nil => cases h
  | cons b bs =>
    cases ts with
    | nil => cases q
    | cons t ts => cases q
theorem strs_box {ts : List Str} {a : Addr} {n : Int} : HO.lst (ts.map V.str) ≠ HO.lst [V.ref a, V.int n] := fun q => by
  injection q with q
  cases ts with
  | nil => cases q
  | cons t ts => cases q
theorem box_ints {bs : List Int} {a : Addr} {n : Int} : HO.lst [V.ref a, V.int n] ≠ HO.lst (bs.map V.int) := fun q => by
  injection q with q
  cases bs with
  | nil => cases q
  | cons t ts => cases q
/-- what stands through the law: the box (bx, dg), the journal at j of the device at d (its bytes at l) -/
structure St0 (D C : Addr) (H : Hp) (bx dg j d l : Addr) (pw : V) (wr : Int) (bs : List Int) (ts : List Str) (v : Nat) : Prop where
  box : Box H bx dg
  jn : Jn D C H j d l pw wr bs ts v
  ndl : dg ≠ l
  hb : 60 ≤ bs.length
section
variable {D C bx dg j d l : Addr} {H H' : Hp} {pw : V} {wr : Int} {bs : List Int} {ts : List Str} {v : Nat}
theorem St0.same (a : St0 D C H bx dg j d l pw wr bs ts v) (s : L2.Same H H') : St0 D C H' bx dg j d l pw wr bs ts v := ⟨a.box.same s, a.jn.same s, a.ndl, a.hb⟩
theorem St0.nb (a : St0 D C H bx dg j d l pw wr bs ts v) : bx ≠ j ∧ bx ≠ d ∧ bx ≠ l ∧ dg ≠ d := by
  obtain ⟨n, ds, h1, h2, _⟩ := a.box.ex
  obtain ⟨jx, hj⟩ := a.jn.jn
  obtain ⟨⟨dx, hd⟩, hl⟩ := a.jn.dv
  exact ⟨ne_of h1 hj (fun q => by cases q), ne_of h1 hd (fun q => by cases q), ne_of h1 hl box_ints, ne_of h2 hd (fun q => by cases q)⟩
theorem St0.drawn (a : St0 D C H bx dg j d l pw wr bs ts v) (b : Box H' bx dg) (k : KeepB bx H H') : St0 D C H' bx dg j d l pw wr bs ts v := by
  obtain ⟨n1, n2, n3, n4⟩ := a.nb
  obtain ⟨jx, hj⟩ := a.jn.jn
  obtain ⟨⟨dx, hd⟩, hl⟩ := a.jn.dv
  exact ⟨b, ⟨⟨jx, k _ _ hj n1.symm⟩, ⟨⟨dx, k _ _ hd n2.symm⟩, k _ _ hl n3.symm⟩, a.jn.good, a.jn.len⟩, a.ndl, a.hb⟩
theorem St0.wrote (a : St0 D C H bx dg j d l pw wr bs ts v) {pw' : V} {wr' : Int} {bs' : List Int} {ts' : List Str} {v' : Nat} (b : Jn D C H' j d l pw' wr' bs' ts' v') (e : bs'.length = bs.length) (k : Keep d l H H') : St0 D C H' bx dg j d l pw' wr' bs' ts' v' := by
  obtain ⟨n1, n2, n3, n4⟩ := a.nb
  obtain ⟨n, ds, h1, h2, h3⟩ := a.box.ex
  exact ⟨⟨n, ds, k _ _ h1 n2 n3, k _ _ h2 n4 a.ndl, h3⟩, b, a.ndl, by rw [e]; exact a.hb⟩
theorem St0.charged (a : St0 D C H bx dg j d l pw wr bs ts v) {pw' : V} (b : DevAt D H' d l pw' wr bs) (k : Keep d l H H') : St0 D C H' bx dg j d l pw' wr bs ts v :=
  a.wrote ⟨a.jn.jn.keep k a.jn.ne.1 a.jn.ne.2, b, a.jn.good, a.jn.len⟩ rfl k
theorem St0.txtB (a : St0 D C H bx dg j d l pw wr bs ts v) {u : Addr} {us : List Str} (h : H u = some (.lst (us.map V.str))) (k : KeepB bx H H') : H' u = some (.lst (us.map V.str)) := by
  obtain ⟨n, ds, h1, h2, _⟩ := a.box.ex
  exact k _ _ h (ne_of h h1 strs_box)
theorem St0.txtD (a : St0 D C H bx dg j d l pw wr bs ts v) {u : Addr} {us : List Str} (h : H u = some (.lst (us.map V.str))) (k : Keep d l H H') : H' u = some (.lst (us.map V.str)) := by
  obtain ⟨⟨dx, hd⟩, hl⟩ := a.jn.dv
  exact k _ _ h (ne_of h hd (fun q => by cases q)) (ne_of h hl (strs_ints (by have := a.hb; omega)))
end
theorem len_encs : ∀ ts : List Str, ts.length ≤ (encs ts).length
  | [] => Nat.le_refl _
  | t :: ts => by
    have ih := len_encs ts
    show ts.length + 1 ≤ (enc t ++ encs ts).length
    rw [List.length_append, enc_len]
    omega
def spLaw (K : PySem.W.Frag) : Sp := fun vs H Q _ => ∃ (a : Addr) (ns : List Int), vs = [.ref a] ∧ SqL K H a (ns.map V.int) ∧ ∀ H', Q (.bl true) H'
/-- the three ends of a deed: refused (2), done (0), cut (1) -/
def Told (tt : Int) (ar : Nat) (ts us ts' : List Str) : Prop := (tt = 2 ∧ ar < size1 us ∧ ts' = ts) ∨ (tt = 0 ∧ size1 us ≤ ar ∧ ts' = us) ∨ (tt = 1 ∧ size1 us ≤ ar ∧ ts' = ts)
section
variable {P : Program} {w : World} {K : PySem.W.Frag} {mg : Str → Option Value} {base : Heap} {D C B LE PC : Addr}
theorem scLaw : FnScope ["_law_script", "_law_box", "_law_device", "_law_area", "_law_journal", "_law_due", "_law_turn", "_law_kind", "_law_texts", "_law_after", "_law_told", "_law_actual", "_law_text"] ["_law_script"] (defScope sLaw) := ⟨rfl, rfl, rfl, by decide +kernel, rfl, by decide +kernel, by decide +kernel⟩
theorem ok_law {f fD fJ fRe : Addr} {fd fdD fdJ fdRe : FuncData} {dsD dsR : List Value} (F : Fun K "law" "law" sLaw f fd) (T : Txt K mg D C)
    (BDig : Callee P w K mg base CX0 "_law_digits" 7 ["_law_script", "_law_first", "_law_last"] (spDigits K)) (BDr : Callee P w K mg base CX0 "_law_draw" 5 ["_law_box", "_law_many"] spDraw) (BFm : Callee P w K mg base CX0 "format_device" 8 ["device"] (spFormat D C))
    (BWd : Callee P w K mg base CX0 "_law_word" 7 ["_law_box", "_law_most"] spWord) (BWs : Callee P w K mg base CX0 "_law_words" 8 ["_law_box", "_law_many", "_law_most"] spWords) (BDn : Callee P w K mg base CX0 "_law_done" 11 ["_law_journal", "_law_kind", "_law_texts"] (spDone D C))
    (BSz : Callee P w K mg base CX0 "_law_size" 5 ["_law_texts"] spSize) (BRc : Callee P w K mg base CX0 "_law_records" 10 ["_law_journal"] (spTexts D C))
    (MD : Mk K D fD) (GD : FnOk P w K mg base CX0 5 fD fdD ["self", "size", "power"] (spDevInit D)) (bD : Binds K fdD ["self", "size", "power"] dsD) (hdD : Vals [V.non] dsD)
    (MJ : Mk K C fJ) (GJ : FnOk P w K mg base CX0 5 fJ fdJ ["self", "device"] (spJInit C)) (bJ : Binds K fdJ ["self", "device"] [])
    (mR : Meth K D "recharge" fRe) (GR : FnOk P w K mg base CX0 5 fRe fdRe ["self", "power"] (spRecharge D)) (bR1 : Binds K fdRe ["self", "power"] []) (bR0 : Binds K fdRe ["self", "power"] dsR) (hdR : Vals [V.non] dsR) :
    FnOk P w K mg base CX0 13 f fd ["_law_script"] (spLaw K) := by
  obtain ⟨fDig, fdDig, GDig, mDig, kDig, bDig⟩ := BDig.ex
  obtain ⟨fDr, fdDr, GDr, mDr, kDr, bDr⟩ := BDr.ex
  obtain ⟨fFm, fdFm, GFm, mFm, kFm, bFm⟩ := BFm.ex
  obtain ⟨fWd, fdWd, GWd, mWd, kWd, bWd⟩ := BWd.ex
  obtain ⟨fWs, fdWs, GWs, mWs, kWs, bWs⟩ := BWs.ex
  obtain ⟨fDn, fdDn, GDn, mDn, kDn, bDn⟩ := BDn.ex
  obtain ⟨fSz, fdSz, GSz, mSz, kSz, bSz⟩ := BSz.ex
  obtain ⟨fRc, fdRc, GRc, mRc, kRc, bRc⟩ := BRc.ex
  refine F.ok scLaw (fun vs H Q E h => ?_) (fun cdv A outer s H vs Q E hr h => ?_)
  · obtain ⟨a, ns, rfl, _⟩ := h
    rfl
  · obtain ⟨a, ns, rfl, hS, k⟩ := h
    have hr5 : Room 5 _ := hr.mono (by decide)
    have hr6 : Room 6 _ := hr.mono (by decide)
    have hr7 : Room 7 _ := hr.mono (by decide)
    have hr8 : Room 8 _ := hr.mono (by decide)
    have hr10 : Room 10 _ := hr.mono (by decide)
    have hr11 : Room 11 _ := hr.mono (by decide)
    refine ⟨_, pss_cons (ps_set (i := 1) scLaw.nd rfl (Or.inl rfl) (pe_lst (pa_cons (pe_call GDig hr7 rfl mDig kDig bDig .nil pass0 (pa_cons (pv 0) (pa_cons pe_int (pa_cons pe_int pa_nil)))) (pa_cons pe_int pa_nil))))
      (pss_cons (ps_set (i := 2) scLaw.nd rfl (Or.inl rfl) (pe_make (dvs := [V.non]) MD GD hr6 rfl T.dD bD hdD pass0 (pa_cons (pe_op op_add pe_int (pe_call GDr hr5 rfl mDr kDr bDr .nil pass0 (pa_cons (pv 1) (pa_cons pe_int pa_nil)))) pa_nil)))
      (pss_cons (ps_set (i := 3) scLaw.nd rfl (Or.inl rfl) (pe_op op_fdiv (pe_op op_sub (pe_fld (pv 2) rfl) pe_int) pe_int))
      (pss_cons (ps_set (i := 4) scLaw.nd rfl (Or.inl rfl) (pe_call GFm hr8 rfl mFm kFm bFm .nil pass0 (pa_cons (pv 2) pa_nil)))
      (pss_cons (ps_set (i := 5) scLaw.nd rfl (Or.inl rfl) (pe_lst pa_nil))
      (pss_cons (ps_for PassesOwn.never rfl (pi_range1 rfl T.range (pa_cons (pe_call GDr hr5 rfl mDr kDr bDr .nil pass0 (pa_cons (pv 1) (pa_cons pe_int pa_nil))) pa_nil)) (pg_name (i := 6) scLaw.nd rfl (Or.inl rfl))
        (pss_cons (ps_set (i := 7) scLaw.nd rfl (Or.inl rfl) (pe_call GDr hr5 rfl mDr kDr bDr .nil pass0 (pa_cons (pv 1) (pa_cons pe_int pa_nil))))
        (pss_cons (ps_set (i := 8) scLaw.nd rfl (Or.inl rfl) (pe_lst (pa_cons (pe_call GWd hr7 rfl mWd kWd bWd .nil pass0 (pa_cons (pv 1) (pa_cons pe_int pa_nil))) pa_nil)))
        (C8.pss_cut (ps_if (pt_cmpR op_eq (pv 7) pe_int (nomark _)) (pss_one (ps_set (i := 8) scLaw.nd rfl (Or.inl rfl) (pe_call GWs hr8 rfl mWs kWs bWs .nil pass0 (pa_cons (pv 1) (pa_cons pe_int (pa_cons pe_int pa_nil)))))) pss_nil)
        (pss_cons (ps_set (i := 9) scLaw.nd rfl (Or.inl rfl) (pv 8))
        (C8.pss_cut (ps_if (pt_cmpR op_gt (pv 7) pe_int (nomark _)) (pss_one (ps_set (i := 9) scLaw.nd rfl (Or.inl rfl) (pe_op op_cat (pv 5) (pv 8)))) pss_nil)
        (C8.pss_cut (ps_if (pt_cmpR op_eq (pe_call GDr hr5 rfl mDr kDr bDr .nil pass0 (pa_cons (pv 1) (pa_cons pe_int pa_nil))) pe_int (nomark _))
          (pss_one (ps_expr (pe_meth (pv 2) T.cD mR GR hr5 bR1 .nil pass0 (pa_cons (pe_call GDr hr5 rfl mDr kDr bDr .nil pass0 (pa_cons (pv 1) (pa_cons pe_int pa_nil))) pa_nil)))) pss_nil)
        (C8.pss_cut (ps_set (i := 10) scLaw.nd rfl (Or.inl rfl) (pe_call GDn hr11 rfl mDn kDn bDn .nil pass0 (pa_cons (pv 4) (pa_cons (pv 7) (pa_cons (pv 8) pa_nil)))))
        (pss_cons (ps_expr (pe_meth0 (dvs := [V.non]) (pv 2) T.cD mR GR hr5 bR0 hdR pass0))
        (C8.pss_cut (ps_if (PW.pt (pw_or (pt_cmpR op_ne (pe_cmpR op_eq (pv 10) pe_int (nomark _)) (pe_cmpR op_gt (pe_call GSz hr5 rfl mSz kSz bSz .nil pass0 (pa_cons (pv 9) pa_nil)) (pv 3) (nomark _)) (nomark _)) (pw_or1 (pt_cmpR op_eq (pv 10) pe_int (nomark _))))) (pss_one (ps_ret pe_bl)) pss_nil)
        (C8.pss_cut (ps_if (pt_cmpR op_eq (pv 10) pe_int (nomark _)) (pss_one (ps_set (i := 4) scLaw.nd rfl (Or.inl rfl) (pe_make MJ GJ hr6 rfl T.dC bJ .nil pass0 (pa_cons (pv 2) pa_nil)))) pss_nil)
        (pss_cons (ps_set (i := 11) scLaw.nd rfl (Or.inl rfl) (pe_call GRc hr10 rfl mRc kRc bRc .nil pass0 (pa_cons (pv 4) pa_nil)))
        (C8.pss_cut (ps_if (PW.pt (pw_and (pt_cmpR op_eq (pv 10) pe_int (nomark _)) (pw_and1 (pt_cmpR (op_neD hr.units) (pv 11) (pv 5) (nomark _))))) (pss_one (ps_ret pe_bl)) pss_nil)
        (C8.pss_cut (ps_if (PW.pt (pw_and (pt_cmpR op_eq (pv 10) pe_int (nomark _)) (pw_and1 (pt_cmpR (op_neD hr.units) (pv 11) (pv 9) (nomark _))))) (pss_one (ps_ret pe_bl)) pss_nil)
        (C8.pss_cut (ps_if (PW.pt (pw_and (pt_cmpR op_eq (pv 10) pe_int (nomark _)) (pw_and (pt_cmpR (op_neD hr.units) (pv 11) (pv 5) (nomark _)) (pw_and1 (pt_cmpR (op_neD hr.units) (pv 11) (pv 9) (nomark _)))))) (pss_one (ps_ret pe_bl)) pss_nil)
        (pss_one (ps_setLc (i := 5) (own := [("_law_text", 12)]) (g := gName 12) (tt := tYes) rfl scLaw.nd rfl rfl (sw_true rfl rfl rfl (by decide +kernel)) (pi_list (pv 11)) (blkOk_by (own := [("_law_text", 12)]) (N := ["_law_script", "_law_box", "_law_device", "_law_area", "_law_journal", "_law_due", "_law_turn", "_law_kind", "_law_texts", "_law_after", "_law_told", "_law_actual", "_law_text"]) (sc := defScope sLaw) (by decide +kernel))
          (fun _ _ _ _ _ => pg_name (i := 12) scLaw.nd rfl (Or.inl rfl)) (fun _ _ _ _ _ => pts_nil) (fun _ _ _ _ _ => pv 12))))))))))))))))))
      (pss_one (ps_ret (pe_cmpR (op_eqD hr.units) (pe_call GRc hr10 rfl mRc kRc bRc .nil pass0 (pa_cons (pe_make MJ GJ hr6 rfl T.dC bJ .nil pass0 (pa_cons (pv 2) pa_nil)) pa_nil)) (pv 5) (nomark _))))))))), ?_⟩
    refine ⟨_, rfl, a, ns, rfl, hS, fun H1 dg ds s1 n1 h1 l1 => ⟨(by show 2 ≤ sizeLine; decide), fun bx nb => ?_⟩⟩
    have hdb : dg ≠ bx := ne_of_none h1 nb
    have B1 : Box (upd H1 bx (.lst [.ref dg, .int 0])) bx dg := ⟨0, ds, upd_same, by rw [upd_ne hdb]; exact h1, l1⟩
    refine ⟨_, rfl, bx, dg, 400, rfl, by decide, B1, fun H2 z z0 z1 B2 k2 => ⟨_, _, rfl, rfl, fun d dx nd ndx nex => ?_⟩⟩
    obtain ⟨N, hN⟩ : ∃ N : Nat, (60 : Int) + z = (N : Int) := ⟨(60 + z).toNat, by omega⟩
    have hN1 : 60 ≤ N := by omega
    have hN2 : N ≤ 460 := by omega
    have s2 : L2.Same H2 (upd (upd H2 dx (.own d)) d (.ins D dx [])) := fun b o e => by
      rw [upd_ne (ne_of_none e nd), upd_ne (ne_of_none e ndx)]
      exact e
    refine ⟨d, dx, N, by show [V.ref d, V.int (60 + z), V.non] = _; rw [hN], by omega, upd_same, fun H3 l D3 k3 nl => ⟨rfl, ?_⟩⟩
    have B3 : Box H3 bx dg := by
      obtain ⟨m, es, q1, q2, q3⟩ := B2.ex
      exact ⟨m, es, k3 _ _ (s2 _ _ q1) (ne_of_none q1 nd), k3 _ _ (s2 _ _ q2) (ne_of_none q2 nd), q3⟩
    have dgl : dg ≠ l := fun e => by
      obtain ⟨m, es, q1, q2, q3⟩ := B2.ex
      have := s2 _ _ q2
      rw [e, nl] at this
      cases this
    obtain ⟨⟨dx3, hd3⟩, hl3⟩ := id D3
    refine ⟨_, rfl, d, D, dx3, _, _, rfl, hd3, T.cD, T.nSi, df_size, _, _, rfl, rfl, _, _, rfl, rfl, ⟨by decide, by decide⟩, ?_⟩
    have ea : (((List.replicate N (0 : Int)).length : Int) - 1) / 2 = ((area N : Nat) : Int) := by rw [List.length_replicate]; unfold area; omega
    refine ⟨_, rfl, d, l, N, rfl, D3, hN1, by omega, fun H4 j bs J4 lb k4 nj => ⟨Nat.zero_le _, fun du ndu => ?_⟩⟩
    have k04 : Keep d l H3 H4 := k4
    have s5 := same_upd (o := .lst []) ndu
    have S4 : St0 D C H4 bx dg j d l .non 3 bs [] 1 := by
      have hbd : bx ≠ d := fun e => by
        obtain ⟨m, es, q1, q2, q3⟩ := B3.ex
        rw [e, hd3] at q1
        cases q1
      have hbl : bx ≠ l := fun e => by
        obtain ⟨m, es, q1, q2, q3⟩ := B3.ex
        rw [e, hl3] at q1
        exact box_ints (Option.some.inj q1).symm
      have hgd : dg ≠ d := fun e => by
        obtain ⟨m, es, q1, q2, q3⟩ := B3.ex
        rw [e, hd3] at q2
        cases q2
      obtain ⟨m, es, q1, q2, q3⟩ := B3.ex
      exact ⟨⟨m, es, k4 _ _ q1 hbd hbl, k4 _ _ q2 hgd dgl, q3⟩, J4, dgl, by rw [lb]; exact hN1⟩
    have S5 := S4.same s5
    refine ⟨_, rfl, bx, dg, 31, rfl, by decide, S5.box, fun H6 t t0 t1 B6 k6 => ?_⟩
    have S6 := S5.drawn B6 k6
    have hdu6 := S5.txtB (us := []) (upd_same (a := du)) k6
    refine ⟨t, rfl, by omega, by omega, for_range (lo := 0) (n := t.toNat) (fun i σ H' => ∃ (j du : Addr) (b6 b7 b8 b9 b10 b11 b12 : Option V) (wr : Int) (bs : List Int) (ts : List Str) (v : Nat),
      σ = [some (.ref a), some (.ref bx), some (.ref d), some (.int ((area N : Nat) : Int)), some (.ref j), some (.ref du), b6, b7, b8, b9, b10, b11, b12] ∧ St0 D C H' bx dg j d l .non wr bs ts v ∧ bs.length = N ∧ 0 ≤ wr ∧ wr ≤ 3 + 2000 * (i : Int) ∧ H' du = some (.lst (ts.map V.str)))
      ⟨j, du, none, none, none, none, none, none, none, 3, bs, [], 1, by rw [← ea]; rfl, S6, lb, by omega, by omega, hdu6⟩ ?_ ?_⟩
    · rintro i σ H1 hi ⟨j, du, b6, b7, b8, b9, b10, b11, b12, wr, bs, ts, v, rfl, S1, e1, w0, w1, hdu⟩
      have hi : i < 31 := by omega
      refine ⟨_, rfl, bx, dg, 4, rfl, by decide, S1.box, fun H2 kd kd0 kd1 B2 k2 => ?_⟩
      have S2 := S1.drawn B2 k2
      have hdu2 := S1.txtB hdu k2
      refine ⟨_, rfl, bx, dg, rfl, S2.box, fun H3 z pz lz B3 k3 => ⟨(by show 1 ≤ sizeLine; decide), fun u nu => ?_⟩⟩
      have S3 := S2.drawn B3 k3
      have hdu3 := S2.txtB hdu2 k3
      have s4 := same_upd (o := .lst [.str z]) nu
      have lts : ts.length ≤ 1000 := by
        have q1 := S1.jn.good.fits
        have q2 := len_encs ts
        have q3 : area bs.length ≤ 1000 := by unfold area; omega
        unfold size1 at q1
        omega
      -- the texts of the deed
      refine ⟨fun σ' H' => ∃ (u : Addr) (us : List Str), σ' = [some (.ref a), some (.ref bx), some (.ref d), some (.int ((area N : Nat) : Int)), some (.ref j), some (.ref du), some (.int (0 + (i : Int))), some (.int kd), some (.ref u), b9, b10, b11, b12] ∧ St0 D C H' bx dg j d l .non wr bs ts v ∧
        H' du = some (.lst (ts.map V.str)) ∧ H' u = some (.lst (us.map V.str)) ∧ us.length ≤ 100 ∧ (∀ t ∈ us, Plain t ∧ t.length ≤ 12) ∧ (kd = 0 ∨ ∃ t, us = [t]), ?_, ?_⟩
      · refine ⟨_, rfl, rfl, _, rfl, ?_⟩
        refine ite2 (fun e0 => ?_) (fun e0 => ?_)
        · have e0 : kd = 0 := by have e0 := of_decide_eq_true e0; cases e0; rfl
          refine ⟨_, rfl, bx, dg, rfl, S3.box.same s4, fun H5 u5 us pu lu B5 k5 nu5 hu5 => ?_⟩
          exact ⟨u5, us, rfl, (S3.same s4).drawn B5 k5, (S3.same s4).txtB (s4 _ _ hdu3) k5, hu5, by omega, pu, .inl e0⟩
        · exact ⟨u, [z], rfl, S3.same s4, s4 _ _ hdu3, upd_same, by show 1 ≤ 100; decide, fun t h => by rw [List.mem_singleton.mp h]; exact ⟨pz, lz⟩, .inr ⟨z, rfl⟩⟩
      · rintro σ' H4 ⟨u, us, rfl, S4, hdu4, hu, lu, pu, hk⟩
        -- what is due when the deed is done
        refine ⟨_, rfl, fun σ' H' => ∃ q : Addr, σ' = [some (.ref a), some (.ref bx), some (.ref d), some (.int ((area N : Nat) : Int)), some (.ref j), some (.ref du), some (.int (0 + (i : Int))), some (.int kd), some (.ref u), some (.ref q), b10, b11, b12] ∧ St0 D C H' bx dg j d l .non wr bs ts v ∧
          H' du = some (.lst (ts.map V.str)) ∧ H' u = some (.lst (us.map V.str)) ∧ H' q = some (.lst ((after kd ts us).map V.str)), ?_, ?_⟩
        · refine ⟨_, rfl, _, _, rfl, rfl, _, rfl, ?_⟩
          refine ite2 (fun e0 => ?_) (fun e0 => ?_)
          · have e0 : 0 < kd := of_decide_eq_true e0
            have ea : after kd ts us = ts ++ us := if_neg (by omega)
            refine ⟨_, rfl, _, rfl, du, u, _, _, rfl, rfl, hdu4, hu, ?_, fun q nq => ?_⟩
            · rw [List.length_map, List.length_map]
              have : 5000 < sizeLine := by decide
              omega
            · have sq := same_upd (o := .lst (ts.map V.str ++ us.map V.str)) nq
              refine ⟨q, rfl, S4.same sq, sq _ _ hdu4, sq _ _ hu, ?_⟩
              rw [upd_same, ea, List.map_append]
          · have e0 : kd = 0 := by have : ¬ 0 < kd := fun z => e0 (decide_eq_true z); omega
            have ea : after kd ts us = us := if_pos e0
            exact ⟨u, rfl, S4, hdu4, hu, by rw [ea]; exact hu⟩
        · rintro σ' H5 ⟨q, rfl, S5, hdu5, hu5, hq5⟩
          -- perhaps the power is bounded
          refine ⟨fun σ' H' => ∃ pw : V, Pow pw ∧ σ' = [some (.ref a), some (.ref bx), some (.ref d), some (.int ((area N : Nat) : Int)), some (.ref j), some (.ref du), some (.int (0 + (i : Int))), some (.int kd), some (.ref u), some (.ref q), b10, b11, b12] ∧ St0 D C H' bx dg j d l pw wr bs ts v ∧
            H' du = some (.lst (ts.map V.str)) ∧ H' u = some (.lst (us.map V.str)) ∧ H' q = some (.lst ((after kd ts us).map V.str)), ?_, ?_⟩
          · refine ⟨_, rfl, bx, dg, 3, rfl, by decide, S5.box, fun H6 y y0 y1 B6 k6 => ⟨rfl, _, rfl, ?_⟩⟩
            have S6 := S5.drawn B6 k6
            have hdu6 := S5.txtB hdu5 k6
            have hu6 := S5.txtB hu5 k6
            have hq6 := S5.txtB hq5 k6
            refine ite2 (fun _ => ?_) (fun _ => ?_)
            · obtain ⟨⟨dx6, hd6⟩, hl6⟩ := S6.jn.dv
              refine ⟨_, rfl, d, dx6, _, rfl, hd6, df_no (by decide +kernel) (by decide +kernel) (by decide +kernel) (by decide +kernel), _, rfl, bx, dg, 40, rfl, by decide, S6.box, fun H7 p p0 p1 B7 k7 => ?_⟩
              have S7 := S6.drawn B7 k7
              obtain ⟨pn, hpn⟩ := Int.eq_ofNat_of_zero_le p0
              refine ⟨d, l, .non, .int p, wr, bs, rfl, S7.jn.dv, fun H8 D8 k8 => ?_⟩
              exact ⟨.int p, .inr ⟨pn, by rw [hpn]⟩, rfl, S7.charged D8 k8, S7.txtD (S6.txtB hdu6 k7) k8, S7.txtD (S6.txtB hu6 k7) k8, S7.txtD (S6.txtB hq6 k7) k8⟩
            · exact ⟨.non, .inl rfl, rfl, S6, hdu6, hu6, hq6⟩
          · rintro σ' H6 ⟨pw, hpw, rfl, S6, hdu6, hu6, hq6⟩
            -- the deed
            refine ⟨fun σ' H' => ∃ (tt : Int) (pw : V) (wr' : Int) (bs' : List Int) (ts' : List Str) (v' : Nat), Told tt (area N) ts (after kd ts us) ts' ∧ σ' = [some (.ref a), some (.ref bx), some (.ref d), some (.int ((area N : Nat) : Int)), some (.ref j), some (.ref du), some (.int (0 + (i : Int))), some (.int kd), some (.ref u), some (.ref q), some (.int tt), b11, b12] ∧ St0 D C H' bx dg j d l pw wr' bs' ts' v' ∧ bs'.length = N ∧
              wr ≤ wr' ∧ wr' ≤ wr + 2000 ∧ H' du = some (.lst (ts.map V.str)) ∧ H' q = some (.lst ((after kd ts us).map V.str)), ?_, ?_⟩
            · refine ⟨_, rfl, _, rfl, _, rfl, j, d, l, u, kd, pw, wr, bs, ts, us, v, rfl, S6.jn, hpw, w0, by omega, hu6, lu, pu, hk, fun hf H' s7 => ?_, fun hf H' pw' wr' bs' v' J' e2 e3 e4 k7 => ?_, fun hf H' pw' wr' bs' v' J' e2 e3 e4 k7 => ?_⟩
              · rw [e1] at hf
                exact ⟨2, pw, wr, bs, ts, v, .inl ⟨rfl, hf, rfl⟩, rfl, S6.same s7, e1, by omega, by omega, s7 _ _ hdu6, s7 _ _ hq6⟩
              · rw [e1] at hf
                exact ⟨0, pw', wr', bs', _, v', .inr (.inl ⟨rfl, hf, rfl⟩), rfl, S6.wrote J' e2 k7, by rw [e2]; exact e1, e3, e4, S6.txtD hdu6 k7, S6.txtD hq6 k7⟩
              · rw [e1] at hf
                exact ⟨1, pw', wr', bs', ts, v', .inr (.inr ⟨rfl, hf, rfl⟩), rfl, S6.wrote J' e2 k7, by rw [e2]; exact e1, e3, e4, S6.txtD hdu6 k7, S6.txtD hq6 k7⟩
            · rintro σ' H7 ⟨tt, pw7, wr', bs', ts', v', htt, rfl, S7, e7, w7, w7', hdu7, hq7⟩
              obtain ⟨⟨dx7, hd7⟩, hl7⟩ := S7.jn.dv
              refine ⟨_, rfl, d, dx7, _, rfl, hd7, df_no (by decide +kernel) (by decide +kernel) (by decide +kernel) (by decide +kernel), d, l, pw7, .non, wr', bs', rfl, S7.jn.dv, fun H8 D8 k8 => ?_⟩
              have S8 := S7.charged D8 k8
              have hdu8 := S7.txtD hdu7 k8
              have hq8 := S7.txtD hq7 k8
              have pa : ∀ t ∈ after kd ts us, Plain t ∧ t.length ≤ 12 := fun t ht => by
                unfold after at ht
                split at ht
                · exact pu t ht
                · rcases List.mem_append.mp ht with h | h
                  · exact S1.jn.good.plain t h
                  · exact pu t h
              refine ⟨fun σ' H' => σ' = [some (.ref a), some (.ref bx), some (.ref d), some (.int ((area N : Nat) : Int)), some (.ref j), some (.ref du), some (.int (0 + (i : Int))), some (.int kd), some (.ref u), some (.ref q), some (.int tt), b11, b12] ∧ H' = H8, ?_, ?_⟩
              · obtain ⟨c, hc⟩ : ∃ c : Bool, c = (!decide (V.bl (decide (V.int tt = V.int 2)) = V.bl (decide (((area N : Nat) : Int) < ((size1 (after kd ts us) : Nat) : Int))))) := ⟨_, rfl⟩
                obtain ⟨c2, hc2⟩ : ∃ c : Bool, c = decide (V.int tt = V.int 3) := ⟨_, rfl⟩
                have hcf : c = false := by
                  rw [hc]
                  rcases htt with ⟨rfl, h, _⟩ | ⟨rfl, h, _⟩ | ⟨rfl, h, _⟩
                  · have : ((area N : Nat) : Int) < ((size1 (after kd ts us) : Nat) : Int) := by omega
                    simp [this]
                  · have : ¬ ((area N : Nat) : Int) < ((size1 (after kd ts us) : Nat) : Int) := by omega
                    simp [this]
                  · have : ¬ ((area N : Nat) : Int) < ((size1 (after kd ts us) : Nat) : Int) := by omega
                    simp [this]
                have hcf2 : c2 = false := by
                  rw [hc2]
                  rcases htt with ⟨rfl, _⟩ | ⟨rfl, _⟩ | ⟨rfl, _⟩ <;> simp
                refine ⟨_, rfl, rfl, _, rfl, q, after kd ts us, rfl, hq8, fun t ht => (pa t ht).2, _, rfl, _, _, rfl, rfl, rfl, c, congrArg V.bl hc.symm, ?_⟩
                rw [hcf]
                refine ⟨_, rfl, rfl, c2, congrArg V.bl hc2.symm, ?_⟩
                rw [hcf2]
                exact ⟨rfl, rfl⟩
              · rintro σ' H' ⟨rfl, rfl⟩
                -- opened anew
                refine ⟨fun σ' H' => ∃ j : Addr, σ' = [some (.ref a), some (.ref bx), some (.ref d), some (.int ((area N : Nat) : Int)), some (.ref j), some (.ref du), some (.int (0 + (i : Int))), some (.int kd), some (.ref u), some (.ref q), some (.int tt), b11, b12] ∧ St0 D C H' bx dg j d l .non wr' bs' ts' v' ∧ H' du = some (.lst (ts.map V.str)) ∧ H' q = some (.lst ((after kd ts us).map V.str)), ?_, ?_⟩
                · refine ⟨_, rfl, rfl, _, rfl, ?_⟩
                  refine ite2 (fun _ => ?_) (fun _ => ?_)
                  · refine ⟨_, rfl, fun x jx nx njx nex => ?_⟩
                    have s2 : L2.Same H' (upd (upd H' jx (.own x)) x (.ins C jx [])) := fun b o e => by
                      rw [upd_ne (ne_of_none e nx), upd_ne (ne_of_none e njx)]
                      exact e
                    refine ⟨x, d, jx, rfl, upd_same, fun H2 hj2 k2 => ⟨rfl, ?_⟩⟩
                    have s3 : L2.Same H' H2 := fun b o e => k2 b o (s2 b o e) (ne_of_none e nx)
                    exact ⟨x, rfl, ⟨S8.box.same s3, ⟨hj2, S8.jn.dv.same s3, S8.jn.good, S8.jn.len⟩, S8.ndl, S8.hb⟩, s3 _ _ hdu8, s3 _ _ hq8⟩
                  · exact ⟨j, rfl, S8, hdu8, hq8⟩
                · rintro σ' H9 ⟨j, rfl, S9, hdu9, hq9⟩
                  refine ⟨_, rfl, j, d, l, _, _, bs', ts', v', rfl, S9.jn, fun H10 p s10 np hp => ?_⟩
                  have S10 := S9.same s10
                  have hdu10 := s10 _ _ hdu9
                  have hq10 := s10 _ _ hq9
                  have pts : ∀ t ∈ ts, Plain t := fun t ht => (S1.jn.good.plain t ht).1
                  have paa : ∀ t ∈ after kd ts us, Plain t := fun t ht => (pa t ht).1
                  have eqT : ∀ xs : List Str, ts' = xs → (!PyData.eqv (strD ts') (strD xs)) = false := fun xs e => by rw [e, eqv_strs]; rfl
                  have pt' : ∀ t ∈ ts', Plain t := fun t ht => (S9.jn.good.plain t ht).1
                  refine ⟨fun σ' H' => σ' = [some (.ref a), some (.ref bx), some (.ref d), some (.int ((area N : Nat) : Int)), some (.ref j), some (.ref du), some (.int (0 + (i : Int))), some (.int kd), some (.ref u), some (.ref q), some (.int tt), some (.ref p), b12] ∧ H' = H10, ?_, ?_⟩
                  · refine ⟨_, rfl, rfl, _, rfl, ?_⟩
                    rcases htt with ⟨rfl, _, e⟩ | ⟨rfl, _, e⟩ | ⟨rfl, _, e⟩
                    · refine ⟨_, rfl, _, rfl, strD ts', strD ts, dp_strs hp, dp_strs hdu10, shaped_strs pt', shaped_strs pts, false, congrArg V.bl (eqT _ e), ⟨rfl, rfl⟩⟩
                    · exact ⟨rfl, rfl⟩
                    · exact ⟨rfl, rfl⟩
                  · rintro σ' H' ⟨rfl, rfl⟩
                    refine ⟨fun σ' G' => σ' = [some (.ref a), some (.ref bx), some (.ref d), some (.int ((area N : Nat) : Int)), some (.ref j), some (.ref du), some (.int (0 + (i : Int))), some (.int kd), some (.ref u), some (.ref q), some (.int tt), some (.ref p), b12] ∧ G' = H', ?_, ?_⟩
                    · refine ⟨_, rfl, rfl, _, rfl, ?_⟩
                      rcases htt with ⟨rfl, _, e⟩ | ⟨rfl, _, e⟩ | ⟨rfl, _, e⟩
                      · exact ⟨rfl, rfl⟩
                      · refine ⟨_, rfl, _, rfl, strD ts', strD (after kd ts us), dp_strs hp, dp_strs hq10, shaped_strs pt', shaped_strs paa, false, congrArg V.bl (eqT _ e), ⟨rfl, rfl⟩⟩
                      · exact ⟨rfl, rfl⟩
                    · rintro σ' H' ⟨rfl, rfl⟩
                      refine ⟨fun σ' G' => σ' = [some (.ref a), some (.ref bx), some (.ref d), some (.int ((area N : Nat) : Int)), some (.ref j), some (.ref du), some (.int (0 + (i : Int))), some (.int kd), some (.ref u), some (.ref q), some (.int tt), some (.ref p), b12] ∧ G' = H', ?_, ?_⟩
                      · refine ⟨_, rfl, rfl, _, rfl, ?_⟩
                        rcases htt with ⟨rfl, _, e⟩ | ⟨rfl, _, e⟩ | ⟨rfl, _, e⟩
                        · exact ⟨rfl, rfl⟩
                        · exact ⟨rfl, rfl⟩
                        · refine ⟨_, rfl, _, rfl, strD ts', strD ts, dp_strs hp, dp_strs hdu10, shaped_strs pt', shaped_strs pts, false, congrArg V.bl (eqT _ e), ⟨rfl, rfl⟩⟩
                      · rintro σ' H' ⟨rfl, rfl⟩
                        refine ⟨_, rfl, p, rfl, ⟨_, SqL.of hp⟩, fun nd hnd => lc_list (K := K) (a := p) (xs := ts'.map V.str) (fun i G => L2.Same H' G ∧ G nd = some (.lst ((ts'.take i).map V.str))) ⟨same_upd hnd, upd_same⟩ (fun i G _ z => SqL.of (z.1 _ _ hp)) ?_ ?_⟩
                        · rintro m x G hx ⟨sG, hG⟩
                          obtain ⟨t, ht, rfl⟩ : ∃ t, ts'[m]? = some t ∧ x = V.str t := by
                            rw [List.getElem?_map] at hx
                            cases e : ts'[m]? with
                            | none => rw [e] at hx; cases hx
                            | some c => rw [e] at hx; exact ⟨c, rfl, (Option.some.inj hx).symm⟩
                          have lt' : ts'.length ≤ 1000 := by
                            have q1 := S9.jn.good.fits
                            have q2 := len_encs ts'
                            have q3 : area bs'.length ≤ 1000 := by unfold area; omega
                            unfold size1 at q1
                            omega
                          refine ⟨rfl, _, rfl, _, hG, ?_, same_thn sG hnd, ?_⟩
                          · rw [List.length_map, List.length_take]
                            have : 5000 < sizeLine := by decide
                            omega
                          · rw [upd_same, List.take_add_one, ht, List.map_append]
                            rfl
                        · rintro G ⟨sG, hG⟩
                          rw [List.length_map, List.take_length] at hG
                          exact ⟨j, nd, _, _, _, _, _, _, _, wr', bs', ts', v', rfl, S10.same sG, e7, by omega, by omega, hG⟩
    · rintro σ H1 ⟨j, du, b6, b7, b8, b9, b10, b11, b12, wr, bs, ts, v, rfl, S1, e1, w0, w1, hdu⟩
      refine ⟨_, rfl, fun x jx nx njx nex => ?_⟩
      have s2 : L2.Same H1 (upd (upd H1 jx (.own x)) x (.ins C jx [])) := fun b o e => by
        rw [upd_ne (ne_of_none e nx), upd_ne (ne_of_none e njx)]
        exact e
      refine ⟨x, d, jx, rfl, upd_same, fun H2 hj2 k2 => ⟨rfl, ?_⟩⟩
      have s3 : L2.Same H1 H2 := fun b o e => k2 b o (s2 b o e) (ne_of_none e nx)
      have Jx : Jn D C H2 x d l .non wr bs ts v := ⟨hj2, S1.jn.dv.same s3, S1.jn.good, S1.jn.len⟩
      refine ⟨x, d, l, _, _, bs, ts, v, rfl, Jx, fun H4 p s4 np hp => ?_⟩
      have hpt : ∀ t ∈ ts, Plain t := fun t ht => (S1.jn.good.plain t ht).1
      refine ⟨_, rfl, strD ts, strD ts, dp_strs hp, dp_strs (s4 _ _ (s3 _ _ hdu)), shaped_strs hpt, shaped_strs hpt, ?_⟩
      rw [eqv_strs]
      exact k H4
end
end J
namespace J
open PySem PySem.Spec PyProof.Rows L2
/-! ### 15. What the top has written -/
abbrev sLimI : Stmt := inClass (top 2) 0
abbrev sCutI : Stmt := inClass (top 3) 0
abbrev aLim : Expr := .Name "reason" ⟨7, 25, 7, 31⟩
abbrev aCut : Expr := .JoinedStr [.Constant (.str "no power behind ") 0 ⟨12, 27, 12, 43⟩, .FormattedValue (.Name "written" ⟨12, 44, 12, 51⟩) (-1) none ⟨12, 43, 12, 52⟩, .Constant (.str " bytes") 0 ⟨12, 52, 12, 58⟩] ⟨12, 25, 12, 59⟩
theorem okLimA : ∀ v u, okLim v → L2.RelV v u → JX.ArgOk aLim "reason" u := fun _ _ _ _ => JX.arg_name (by decide +kernel)
theorem okCutA : ∀ v u, okCut v → L2.RelV v u → JX.ArgOk aCut "written" u := fun v u h r => by
  obtain ⟨n, rfl, h0, h1⟩ := h
  obtain ⟨t, rfl⟩ := r
  exact JX.arg_text (by decide +kernel) (by decide +kernel) (by decide +kernel) (log2_small h0 h1)
theorem al_of {K : PySem.W.Frag} {B : Addr} {cd : ClassData} {bm : List Value} {v : Value} {n : Str} (h : PySem.W.findIn K (.ref B) n = some (some v)) (c : PySem.W.clsIn K B = some cd) (m : cd.mro = bm) : PySem.W.alongIn K n bm = some (some v) := by
  have h : (match K.lookup B with | some ⟨_, _, .cls cd, _⟩ => PySem.W.alongIn K n cd.mro | _ => none) = some (some v) := h
  unfold PySem.W.clsIn at c
  split at h
  · rename_i cl d cd' sl e
    rw [e] at c
    cases c
    rw [← m]
    exact h
  · cases h
theorem refs_ve {B : Addr} : PySem.HandSPX.refsVE [.ref B, .type "ValueError", .type "Exception", .type "BaseException", .type "object"] = true := by
  show PySem.HandSPX.refsVE [.type "ValueError", .type "Exception", .type "BaseException", .type "object"] = true
  decide +kernel
theorem scopeL : JX.SupScope (JX.supScope "reason" []) (defArgs sLimI) "reason" := ⟨rfl, rfl, rfl, rfl, by decide +kernel, by decide +kernel, by decide +kernel, _, rfl, rfl⟩
theorem scopeP : JX.SupScope (JX.supScope "written" []) (defArgs sCutI) "written" := ⟨rfl, rfl, rfl, rfl, by decide +kernel, by decide +kernel, by decide +kernel, _, rfl, rfl⟩

theorem all_mk {l : PySem.W.OpenLaw} {w : World} {K : PySem.W.Frag} {h : Heap} {mg : Str → Option Value} {fa C D B LE PC fbo fbs fto fas fat fva frb frr ffm fce fdg fdr fsg fwd fws frc fdn fsz flaw fdi fde fdw fdd fji fjt fjr fjw fjx kd td fL NL cdaL ccL fP NP cdaP ccP : Addr} (X : K.In h) (G : h.Ns mainGlobals mg) (hfa : mg "law" = some (.ref fa))
    {odbo anbo odbs anbs odto anto odas anas odat anat odva anva odrb anrb odrr anrr odfm anfm odce ance oddg andg oddr andr odsg ansg odwd anwd odws anws odrc anrc oddn andn odsz ansz odlaw anlaw oddi andi odde ande oddw andw oddd andd odji anji odjt anjt odjr anjr odjw anjw odjx anjx : Option Addr} {slbo slbs slto slas slat slva slrb slrr slfm slce sldg sldr slsg slwd slws slrc sldn slsz sllaw sldi slde sldw sldd slji sljt sljr sljw sljx : Array (Option Value)} {ocbo dcbo pmbo cdbo ctbo kVbo ocbs dcbs pmbs cdbs ctbs kVbs octo dcto pmto cdto ctto kVto ocas dcas pmas cdas ctas kVas ocat dcat pmat cdat ctat kVat ocva dcva pmva cdva ctva kVva ocrb dcrb pmrb cdrb ctrb kVrb ocrr dcrr pmrr cdrr ctrr kVrr ocfm dcfm pmfm cdfm ctfm kVfm occe dcce pmce cdce ctce kVce ocdg dcdg pmdg cddg ctdg kVdg ocdr dcdr pmdr cddr ctdr kVdr ocsg dcsg pmsg cdsg ctsg kVsg ocwd dcwd pmwd cdwd ctwd kVwd ocws dcws pmws cdws ctws kVws ocrc dcrc pmrc cdrc ctrc kVrc ocdn dcdn pmdn cddn ctdn kVdn ocsz dcsz pmsz cdsz ctsz kVsz oclaw dclaw pmlaw cdlaw ctlaw kVlaw ocdi dcdi pmdi cddi ctdi ocde dcde pmde cdde ctde kVde ocdw dcdw pmdw cddw ctdw kVdw ocdd dcdd pmdd cddd ctdd kVdd ocji dcji pmji cdji ctji kVji ocjt dcjt pmjt cdjt ctjt kVjt ocjr dcjr pmjr cdjr ctjr kVjr ocjw dcjw pmjw cdjw ctjw kVjw ocjx dcjx pmjx cdjx ctjx kVjx : Value}
    {tdo : Obj} {tdn : Nat} {tSG tRE tEN tPR : Tok} {cdB : ClassData} {nmL qnL fileL : Str} {bsL subL : List Value} {snL : List Str} {abL : Bool} {colL : Option Bool} {ddL anL odL cddL cldL : Option Addr} {m0L m1L m2L m3L m5L : Option Value} {ocL kVL dcL pmL ctL cclL clL : Value} {slL ccsL cslL : Array (Option Value)} {vsL : Array Value} {tfL : Tok} {nmP qnP fileP : Str} {bsP subP : List Value} {snP : List Str} {abP : Bool} {colP : Option Bool} {ddP anP odP cddP cldP : Option Addr} {m0P m1P m2P m3P m5P : Option Value} {ocP kVP dcP pmP ctP cclP clP : Value} {slP ccsP cslP : Array (Option Value)} {vsP : Array Value} {tfP : Tok}
    (aC : PySem.W.nsIn K mainGlobals "Journal" = some (some (.ref C)))
    (aD : PySem.W.nsIn K mainGlobals "Device" = some (some (.ref D)))
    (aB : PySem.W.nsIn K mainGlobals "ClearfloorError" = some (some (.ref B)))
    (aLE : PySem.W.nsIn K mainGlobals "LimitError" = some (some (.ref LE)))
    (aPC : PySem.W.nsIn K mainGlobals "PowerCut" = some (some (.ref PC)))
    (abo : PySem.W.nsIn K mainGlobals "byte_of" = some (some (.ref fbo)))
    (lbo : K.lookup fbo = some ⟨ocbo, odbo, .func (PySem.W.fnOf "byte_of" "byte_of" (defArgs sByteOf) (defBody sByteOf) (defScope sByteOf) .none kVbo dcbo pmbo anbo cdbo ctbo), slbo⟩)
    (cbo : PySem.W.codeIn K cdbo "byte_of" = true)
    (kbo : PySem.W.keepIn K (.ref fbo) = true)
    (abs : PySem.W.nsIn K mainGlobals "bytes_of" = some (some (.ref fbs)))
    (lbs : K.lookup fbs = some ⟨ocbs, odbs, .func (PySem.W.fnOf "bytes_of" "bytes_of" (defArgs sBytesOf) (defBody sBytesOf) (defScope sBytesOf) .none kVbs dcbs pmbs anbs cdbs ctbs), slbs⟩)
    (cbs : PySem.W.codeIn K cdbs "bytes_of" = true)
    (kbs : PySem.W.keepIn K (.ref fbs) = true)
    (ato : PySem.W.nsIn K mainGlobals "text_of" = some (some (.ref fto)))
    (lto : K.lookup fto = some ⟨octo, odto, .func (PySem.W.fnOf "text_of" "text_of" (defArgs sTextOf) (defBody sTextOf) (defScope sTextOf) .none kVto dcto pmto anto cdto ctto), slto⟩)
    (cto : PySem.W.codeIn K cdto "text_of" = true)
    (kto : PySem.W.keepIn K (.ref fto) = true)
    (aas : PySem.W.nsIn K mainGlobals "area_size" = some (some (.ref fas)))
    (las : K.lookup fas = some ⟨ocas, odas, .func (PySem.W.fnOf "area_size" "area_size" (defArgs sAreaSize) (defBody sAreaSize) (defScope sAreaSize) .none kVas dcas pmas anas cdas ctas), slas⟩)
    (cas : PySem.W.codeIn K cdas "area_size" = true)
    (kas : PySem.W.keepIn K (.ref fas) = true)
    (aat : PySem.W.nsIn K mainGlobals "area_start" = some (some (.ref fat)))
    (lat : K.lookup fat = some ⟨ocat, odat, .func (PySem.W.fnOf "area_start" "area_start" (defArgs sAreaStart) (defBody sAreaStart) (defScope sAreaStart) .none kVat dcat pmat anat cdat ctat), slat⟩)
    (cat : PySem.W.codeIn K cdat "area_start" = true)
    (kat : PySem.W.keepIn K (.ref fat) = true)
    (ava : PySem.W.nsIn K mainGlobals "valid_area" = some (some (.ref fva)))
    (lva : K.lookup fva = some ⟨ocva, odva, .func (PySem.W.fnOf "valid_area" "valid_area" (defArgs sValid) (defBody sValid) (defScope sValid) .none kVva dcva pmva anva cdva ctva), slva⟩)
    (cva : PySem.W.codeIn K cdva "valid_area" = true)
    (kva : PySem.W.keepIn K (.ref fva) = true)
    (arb : PySem.W.nsIn K mainGlobals "record_bytes" = some (some (.ref frb)))
    (lrb : K.lookup frb = some ⟨ocrb, odrb, .func (PySem.W.fnOf "record_bytes" "record_bytes" (defArgs sRecord) (defBody sRecord) (defScope sRecord) .none kVrb dcrb pmrb anrb cdrb ctrb), slrb⟩)
    (crb : PySem.W.codeIn K cdrb "record_bytes" = true)
    (krb : PySem.W.keepIn K (.ref frb) = true)
    (arr : PySem.W.nsIn K mainGlobals "read_records" = some (some (.ref frr)))
    (lrr : K.lookup frr = some ⟨ocrr, odrr, .func (PySem.W.fnOf "read_records" "read_records" (defArgs sReadRec) (defBody sReadRec) (defScope sReadRec) .none kVrr dcrr pmrr anrr cdrr ctrr), slrr⟩)
    (crr : PySem.W.codeIn K cdrr "read_records" = true)
    (krr : PySem.W.keepIn K (.ref frr) = true)
    (afm : PySem.W.nsIn K mainGlobals "format_device" = some (some (.ref ffm)))
    (lfm : K.lookup ffm = some ⟨ocfm, odfm, .func (PySem.W.fnOf "format_device" "format_device" (defArgs sFormat) (defBody sFormat) (defScope sFormat) .none kVfm dcfm pmfm anfm cdfm ctfm), slfm⟩)
    (cfm : PySem.W.codeIn K cdfm "format_device" = true)
    (kfm : PySem.W.keepIn K (.ref ffm) = true)
    (ace : PySem.W.nsIn K mainGlobals "_law_cell" = some (some (.ref fce)))
    (lce : K.lookup fce = some ⟨occe, odce, .func (PySem.W.fnOf "_law_cell" "_law_cell" (defArgs sCell) (defBody sCell) (defScope sCell) .none kVce dcce pmce ance cdce ctce), slce⟩)
    (cce : PySem.W.codeIn K cdce "_law_cell" = true)
    (kce : PySem.W.keepIn K (.ref fce) = true)
    (adg : PySem.W.nsIn K mainGlobals "_law_digits" = some (some (.ref fdg)))
    (ldg : K.lookup fdg = some ⟨ocdg, oddg, .func (PySem.W.fnOf "_law_digits" "_law_digits" (defArgs sDigits) (defBody sDigits) (defScope sDigits) .none kVdg dcdg pmdg andg cddg ctdg), sldg⟩)
    (cdg : PySem.W.codeIn K cddg "_law_digits" = true)
    (kdg : PySem.W.keepIn K (.ref fdg) = true)
    (adr : PySem.W.nsIn K mainGlobals "_law_draw" = some (some (.ref fdr)))
    (ldr : K.lookup fdr = some ⟨ocdr, oddr, .func (PySem.W.fnOf "_law_draw" "_law_draw" (defArgs sDraw) (defBody sDraw) (defScope sDraw) .none kVdr dcdr pmdr andr cddr ctdr), sldr⟩)
    (cdr : PySem.W.codeIn K cddr "_law_draw" = true)
    (kdr : PySem.W.keepIn K (.ref fdr) = true)
    (asg : PySem.W.nsIn K mainGlobals "_law_sign" = some (some (.ref fsg)))
    (lsg : K.lookup fsg = some ⟨ocsg, odsg, .func (PySem.W.fnOf "_law_sign" "_law_sign" (defArgs sSign) (defBody sSign) (defScope sSign) .none kVsg dcsg pmsg ansg cdsg ctsg), slsg⟩)
    (csg : PySem.W.codeIn K cdsg "_law_sign" = true)
    (ksg : PySem.W.keepIn K (.ref fsg) = true)
    (awd : PySem.W.nsIn K mainGlobals "_law_word" = some (some (.ref fwd)))
    (lwd : K.lookup fwd = some ⟨ocwd, odwd, .func (PySem.W.fnOf "_law_word" "_law_word" (defArgs sWord) (defBody sWord) (defScope sWord) .none kVwd dcwd pmwd anwd cdwd ctwd), slwd⟩)
    (cwd : PySem.W.codeIn K cdwd "_law_word" = true)
    (kwd : PySem.W.keepIn K (.ref fwd) = true)
    (aws : PySem.W.nsIn K mainGlobals "_law_words" = some (some (.ref fws)))
    (lws : K.lookup fws = some ⟨ocws, odws, .func (PySem.W.fnOf "_law_words" "_law_words" (defArgs sWords) (defBody sWords) (defScope sWords) .none kVws dcws pmws anws cdws ctws), slws⟩)
    (cws : PySem.W.codeIn K cdws "_law_words" = true)
    (kws : PySem.W.keepIn K (.ref fws) = true)
    (arc : PySem.W.nsIn K mainGlobals "_law_records" = some (some (.ref frc)))
    (lrc : K.lookup frc = some ⟨ocrc, odrc, .func (PySem.W.fnOf "_law_records" "_law_records" (defArgs sRecords) (defBody sRecords) (defScope sRecords) .none kVrc dcrc pmrc anrc cdrc ctrc), slrc⟩)
    (crc : PySem.W.codeIn K cdrc "_law_records" = true)
    (krc : PySem.W.keepIn K (.ref frc) = true)
    (adn : PySem.W.nsIn K mainGlobals "_law_done" = some (some (.ref fdn)))
    (ldn : K.lookup fdn = some ⟨ocdn, oddn, .func (PySem.W.fnOf "_law_done" "_law_done" (defArgs sDone) (defBody sDone) (defScope sDone) .none kVdn dcdn pmdn andn cddn ctdn), sldn⟩)
    (cdn : PySem.W.codeIn K cddn "_law_done" = true)
    (kdn : PySem.W.keepIn K (.ref fdn) = true)
    (asz : PySem.W.nsIn K mainGlobals "_law_size" = some (some (.ref fsz)))
    (lsz : K.lookup fsz = some ⟨ocsz, odsz, .func (PySem.W.fnOf "_law_size" "_law_size" (defArgs sSize) (defBody sSize) (defScope sSize) .none kVsz dcsz pmsz ansz cdsz ctsz), slsz⟩)
    (csz : PySem.W.codeIn K cdsz "_law_size" = true)
    (ksz : PySem.W.keepIn K (.ref fsz) = true)
    (alaw : PySem.W.nsIn K mainGlobals "law" = some (some (.ref flaw)))
    (llaw : K.lookup flaw = some ⟨oclaw, odlaw, .func (PySem.W.fnOf "law" "law" (defArgs sLaw) (defBody sLaw) (defScope sLaw) .none kVlaw dclaw pmlaw anlaw cdlaw ctlaw), sllaw⟩)
    (claw : PySem.W.codeIn K cdlaw "law" = true)
    (klaw : PySem.W.keepIn K (.ref flaw) = true)
    (adi : PySem.W.findIn K (.ref D) "__init__" = some (some (.ref fdi)))
    (idi : PySem.W.isFn K (.ref fdi) = true)
    (ldi : K.lookup fdi = some ⟨ocdi, oddi, .func (PySem.W.fnOf "__init__" "Device.__init__" (defArgs sDevInit) (defBody sDevInit) (defScope sDevInit) .none (.ref kd) dcdi pmdi andi cddi ctdi), sldi⟩)
    (cdi : PySem.W.codeIn K cddi "Device.__init__" = true)
    (kdi : PySem.W.keepIn K (.ref fdi) = true)
    (ade : PySem.W.findIn K (.ref D) "recharge" = some (some (.ref fde)))
    (ide : PySem.W.isFn K (.ref fde) = true)
    (lde : K.lookup fde = some ⟨ocde, odde, .func (PySem.W.fnOf "recharge" "Device.recharge" (defArgs sRecharge) (defBody sRecharge) (defScope sRecharge) (.ref td) kVde dcde pmde ande cdde ctde), slde⟩)
    (cde : PySem.W.codeIn K cdde "Device.recharge" = true)
    (kde : PySem.W.keepIn K (.ref fde) = true)
    (adw : PySem.W.findIn K (.ref D) "write" = some (some (.ref fdw)))
    (idw : PySem.W.isFn K (.ref fdw) = true)
    (ldw : K.lookup fdw = some ⟨ocdw, oddw, .func (PySem.W.fnOf "write" "Device.write" (defArgs sWrite) (defBody sWrite) (defScope sWrite) .none kVdw dcdw pmdw andw cddw ctdw), sldw⟩)
    (cdw : PySem.W.codeIn K cddw "Device.write" = true)
    (kdw : PySem.W.keepIn K (.ref fdw) = true)
    (add : PySem.W.findIn K (.ref D) "read" = some (some (.ref fdd)))
    (idd : PySem.W.isFn K (.ref fdd) = true)
    (ldd : K.lookup fdd = some ⟨ocdd, oddd, .func (PySem.W.fnOf "read" "Device.read" (defArgs sRead) (defBody sRead) (defScope sRead) .none kVdd dcdd pmdd andd cddd ctdd), sldd⟩)
    (cdd : PySem.W.codeIn K cddd "Device.read" = true)
    (kdd : PySem.W.keepIn K (.ref fdd) = true)
    (aji : PySem.W.findIn K (.ref C) "__init__" = some (some (.ref fji)))
    (iji : PySem.W.isFn K (.ref fji) = true)
    (lji : K.lookup fji = some ⟨ocji, odji, .func (PySem.W.fnOf "__init__" "Journal.__init__" (defArgs sJInit) (defBody sJInit) (defScope sJInit) .none kVji dcji pmji anji cdji ctji), slji⟩)
    (cji : PySem.W.codeIn K cdji "Journal.__init__" = true)
    (kji : PySem.W.keepIn K (.ref fji) = true)
    (ajt : PySem.W.findIn K (.ref C) "texts" = some (some (.ref fjt)))
    (ijt : PySem.W.isFn K (.ref fjt) = true)
    (ljt : K.lookup fjt = some ⟨ocjt, odjt, .func (PySem.W.fnOf "texts" "Journal.texts" (defArgs sTexts) (defBody sTexts) (defScope sTexts) .none kVjt dcjt pmjt anjt cdjt ctjt), sljt⟩)
    (cjt : PySem.W.codeIn K cdjt "Journal.texts" = true)
    (kjt : PySem.W.keepIn K (.ref fjt) = true)
    (ajr : PySem.W.findIn K (.ref C) "room" = some (some (.ref fjr)))
    (ijr : PySem.W.isFn K (.ref fjr) = true)
    (ljr : K.lookup fjr = some ⟨ocjr, odjr, .func (PySem.W.fnOf "room" "Journal.room" (defArgs sRoom) (defBody sRoom) (defScope sRoom) .none kVjr dcjr pmjr anjr cdjr ctjr), sljr⟩)
    (cjr : PySem.W.codeIn K cdjr "Journal.room" = true)
    (kjr : PySem.W.keepIn K (.ref fjr) = true)
    (ajw : PySem.W.findIn K (.ref C) "write_record" = some (some (.ref fjw)))
    (ijw : PySem.W.isFn K (.ref fjw) = true)
    (ljw : K.lookup fjw = some ⟨ocjw, odjw, .func (PySem.W.fnOf "write_record" "Journal.write_record" (defArgs sWrRec) (defBody sWrRec) (defScope sWrRec) .none kVjw dcjw pmjw anjw cdjw ctjw), sljw⟩)
    (cjw : PySem.W.codeIn K cdjw "Journal.write_record" = true)
    (kjw : PySem.W.keepIn K (.ref fjw) = true)
    (ajx : PySem.W.findIn K (.ref C) "rewrite" = some (some (.ref fjx)))
    (ijx : PySem.W.isFn K (.ref fjx) = true)
    (ljx : K.lookup fjx = some ⟨ocjx, odjx, .func (PySem.W.fnOf "rewrite" "Journal.rewrite" (defArgs sRewrite) (defBody sRewrite) (defScope sRewrite) .none kVjx dcjx pmjx anjx cdjx ctjx), sljx⟩)
    (cjx : PySem.W.codeIn K cdjx "Journal.rewrite" = true)
    (kjx : PySem.W.keepIn K (.ref fjx) = true)
    (zkd : PySem.W.nsIn K kd "power" = some (some .none))
    (ztd : K.lookup td = some tdo)
    (ztq : tdo.data = .seq [Value.none].toArray tdn)
    (pgC : PySem.W.plainGet K C Str.empty = true)
    (hdC : PySem.W.hasDictIn K C = true)
    (poC : PySem.W.plainOver K C = true)
    (saC : PySem.W.findIn K (.ref C) "__setattr__" = some (some (.builtin "object.__setattr__")))
    (mkC : PySem.W.makesIn K C = true)
    (kcC : PySem.W.keepIn K (.ref C) = true)
    (pgD : PySem.W.plainGet K D Str.empty = true)
    (hdD : PySem.W.hasDictIn K D = true)
    (poD : PySem.W.plainOver K D = true)
    (saD : PySem.W.findIn K (.ref D) "__setattr__" = some (some (.builtin "object.__setattr__")))
    (mkD : PySem.W.makesIn K D = true)
    (kcD : PySem.W.keepIn K (.ref D) = true)
    (nDa : PySem.W.findIn K (.ref D) "data" = some none)
    (nSi : PySem.W.findIn K (.ref D) "size" = some none)
    (nPo : PySem.W.findIn K (.ref D) "power" = some none)
    (nWr : PySem.W.findIn K (.ref D) "written" = some none)
    (nDe : PySem.W.findIn K (.ref C) "device" = some none)
    (zSG : PySem.W.nsIn K mainGlobals "SIGNS" = some (some (.str SG tSG)))
    (zRE : PySem.W.nsIn K mainGlobals "RECORD" = some (some (.int 1 tRE)))
    (zEN : PySem.W.nsIn K mainGlobals "END" = some (some (.int 0 tEN)))
    (zPR : PySem.W.nsIn K mainGlobals "PREFIX" = some (some (.int 3 tPR)))
    (zLe : PySem.W.nsIn K mainGlobals "len" = some none)
    (zRa : PySem.W.nsIn K mainGlobals "range" = some none)
    (zIn : PySem.W.nsIn K mainGlobals "int" = some none)
    (zIs : PySem.W.nsIn K mainGlobals "isinstance" = some none)
    (zLi : PySem.W.nsIn K mainGlobals "list" = some none)
    (zSt : PySem.W.nsIn K mainGlobals "str" = some none)
    (zSu : PySem.W.nsIn K mainGlobals "super" = some none)
    (zOp : PySem.W.nsIn K cStatics "thirdparty.any" = some none)
    (zTop : (l.prog.main.scope.names.lookup ("super" : Str)).isSome = false)
    (aBi : PySem.W.findIn K (.ref B) "__init__" = some (some (.builtin "ValueError.__init__")))
    (cB : PySem.W.clsIn K B = some cdB)
    (mB : cdB.mro = [.ref B, .type "ValueError", .type "Exception", .type "BaseException", .type "object"])
    (eB : PySem.W.subIn K (.ref B) (.type "BaseException") = some true)
    (hB : PySem.W.hasDictIn K B = true)
    (tB : PySem.W.typeIn K (.ref B) = some (.type "type"))
    (xL : K.lookup LE = some (excClassObj nmL qnL LE NL bsL [.ref B, .type "ValueError", .type "Exception", .type "BaseException", .type "object"] true snL subL abL colL ddL m0L m1L m2L m3L m5L "ValueError.__new__"))
    (saL : PySem.W.findIn K (.ref LE) "__setattr__" = some (some (.builtin "object.__setattr__")))
    (gaL : PySem.W.findIn K (.ref LE) "__getattribute__" = some (some (.builtin "BaseException.__getattribute__")))
    (ggL : PySem.W.findIn K (.ref LE) "__getattr__" = some none)
    (noL : PySem.W.findIn K (.ref LE) "reason" = some none)
    (aLi : PySem.W.findIn K (.ref LE) "__init__" = some (some (.ref fL)))
    (tLi : PySem.W.typeIn K (.ref fL) = some (.type "function"))
    (kL : PySem.W.keepIn K (.ref LE) = true)
    (eL : PySem.W.subIn K (.ref LE) (.type "BaseException") = some true)
    (veL : PySem.W.subIn K (.ref LE) (.type "ValueError") = some true)
    (sBL : PySem.W.subIn K (.ref LE) (.ref B) = some true)
    (meL : PySem.W.mroIn K LE (.ref LE) = some true)
    (moL : PySem.W.mroIn K LE (.type "object") = some true)
    (tL : PySem.W.typeIn K (.ref LE) = some (.type "type"))
    (hL : PySem.W.hasDictIn K LE = true)
    (caL : PySem.W.findIn K (.ref LE) "__class__" = some (some (.builtin "object.__class__")))
    (lL : K.lookup fL = some ⟨ocL, odL, .func (PySem.W.ksFn "__init__" "LimitError.__init__" (defArgs sLimI) (JX.supBody aLim "reason" ⟨7, 8, 7, 13⟩ ⟨7, 8, 7, 15⟩ ⟨7, 8, 7, 24⟩ ⟨7, 8, 7, 32⟩ ⟨7, 8, 7, 32⟩ ⟨8, 8, 8, 12⟩ ⟨8, 8, 8, 19⟩ ⟨8, 22, 8, 28⟩ ⟨8, 8, 8, 28⟩) (JX.supScope "reason" []) .none kVL dcL pmL anL (.ref cdaL) ctL ccL), slL⟩)
    (cL : PySem.W.codeIn K (.ref cdaL) "LimitError.__init__" = true)
    (oL : K.lookup cdaL = some ⟨cclL, cddL, .fields vsL, ccsL⟩)
    (vL : vsL[2]? = some (.str fileL tfL))
    (qL : (l.prog.main.file == fileL) = true)
    (wL : K.lookup ccL = some ⟨clL, cldL, .cell (some (.ref LE)), cslL⟩)
    (xP : K.lookup PC = some (excClassObj nmP qnP PC NP bsP [.ref B, .type "ValueError", .type "Exception", .type "BaseException", .type "object"] true snP subP abP colP ddP m0P m1P m2P m3P m5P "ValueError.__new__"))
    (saP : PySem.W.findIn K (.ref PC) "__setattr__" = some (some (.builtin "object.__setattr__")))
    (gaP : PySem.W.findIn K (.ref PC) "__getattribute__" = some (some (.builtin "BaseException.__getattribute__")))
    (ggP : PySem.W.findIn K (.ref PC) "__getattr__" = some none)
    (noP : PySem.W.findIn K (.ref PC) "written" = some none)
    (aPi : PySem.W.findIn K (.ref PC) "__init__" = some (some (.ref fP)))
    (tPi : PySem.W.typeIn K (.ref fP) = some (.type "function"))
    (kP : PySem.W.keepIn K (.ref PC) = true)
    (eP : PySem.W.subIn K (.ref PC) (.type "BaseException") = some true)
    (veP : PySem.W.subIn K (.ref PC) (.type "ValueError") = some true)
    (sBP : PySem.W.subIn K (.ref PC) (.ref B) = some true)
    (meP : PySem.W.mroIn K PC (.ref PC) = some true)
    (moP : PySem.W.mroIn K PC (.type "object") = some true)
    (tP : PySem.W.typeIn K (.ref PC) = some (.type "type"))
    (hP : PySem.W.hasDictIn K PC = true)
    (caP : PySem.W.findIn K (.ref PC) "__class__" = some (some (.builtin "object.__class__")))
    (lP : K.lookup fP = some ⟨ocP, odP, .func (PySem.W.ksFn "__init__" "PowerCut.__init__" (defArgs sCutI) (JX.supBody aCut "written" ⟨12, 8, 12, 13⟩ ⟨12, 8, 12, 15⟩ ⟨12, 8, 12, 24⟩ ⟨12, 8, 12, 60⟩ ⟨12, 8, 12, 60⟩ ⟨13, 8, 13, 12⟩ ⟨13, 8, 13, 20⟩ ⟨13, 23, 13, 30⟩ ⟨13, 8, 13, 30⟩) (JX.supScope "written" []) .none kVP dcP pmP anP (.ref cdaP) ctP ccP), slP⟩)
    (cP : PySem.W.codeIn K (.ref cdaP) "PowerCut.__init__" = true)
    (oP : K.lookup cdaP = some ⟨cclP, cddP, .fields vsP, ccsP⟩)
    (vP : vsP[2]? = some (.str fileP tfP))
    (qP : (l.prog.main.file == fileP) = true)
    (wP : K.lookup ccP = some ⟨clP, cldP, .cell (some (.ref PC)), cslP⟩)
    (sp : PySem.W.specialIn K (.builtin "object.__class__") "__get__" = some (some (.builtin "getset_descriptor.__get__")))
    (tk : PySem.W.takesIn K (.builtin "object.__class__") = some true)
    (kLP : PySem.W.kitOne K (.ref LE) (.ref PC) = some false)
    (kLL : PySem.W.kitOne K (.ref LE) (.ref LE) = some true)
    (kPP : PySem.W.kitOne K (.ref PC) (.ref PC) = some true) :
    ∃ fd : FuncData, (∀ (s : Shared) (v : Value), BindsTo s fd ⟨[v], []⟩ [("_law_script", v)]) ∧ ∀ base : Heap, K.In base → base.Ns mainGlobals mg → FnOk l.prog w K mg base CX0 13 fa fd ["_law_script"] (spLaw K) := by
  have e := hfa.symm.trans (PySem.W.mg_of X G alaw)
  cases e
  have T : Txt K mg D C :=
    ⟨⟨_, PySem.W.mg_of X G zSG⟩, ⟨_, PySem.W.mg_of X G zRE⟩, ⟨_, PySem.W.mg_of X G zEN⟩, ⟨_, PySem.W.mg_of X G zPR⟩, PySem.W.mg_none_of X G zLe, PySem.W.mg_none_of X G zRa, PySem.W.mg_none_of X G zIn, PySem.W.mg_none_of X G zIs, PySem.W.mg_none_of X G zLi, PySem.W.mg_none_of X G zSt,
      PySem.W.mg_of X G aD, ⟨pgD, hdD, poD, saD⟩, nDa, nSi, nPo, nWr, PySem.W.mg_of X G aC, ⟨pgC, hdC, poC, saC⟩, nDe⟩
  have al := al_of (bm := [.ref B, .type "ValueError", .type "Exception", .type "BaseException", .type "object"]) aBi cB mB
  have TL : JX.SupTxt l.prog K mg "LimitError" "reason" "LimitError.__init__" aLim [] (defArgs sLimI) LE fL :=
    { scope := scopeL, gC := PySem.W.mg_of X G aLE, gS := PySem.W.mg_none_of X G zSu, cls := ⟨_, _, _, _, _, _, _, _, _, _, _, _, _, _, _, xL, refs_ve, al⟩, sa := saL, ga := gaL, gg := ggL, noN := noL, iC := aLi, tC := tLi, kC := kL, exC := eL, veC := veL, meC := meL, tyC := tL, hdC := hL, opq := zOp, top := zTop,
      bind := fun _ _ _ _ _ _ _ _ _ _ => rfl,
      fn := ⟨_, _, _, _, _, _, _, _, _, _, _, _, _, _, _, _, _, _, _, lL, cL, fun env => ⟨rfl, _, rfl⟩, ⟨_, _, _, _, _, _, oL, vL, qL⟩, _, _, _, wL⟩ }
  have TP : JX.SupTxt l.prog K mg "PowerCut" "written" "PowerCut.__init__" aCut [] (defArgs sCutI) PC fP :=
    { scope := scopeP, gC := PySem.W.mg_of X G aPC, gS := PySem.W.mg_none_of X G zSu, cls := ⟨_, _, _, _, _, _, _, _, _, _, _, _, _, _, _, xP, refs_ve, al⟩, sa := saP, ga := gaP, gg := ggP, noN := noP, iC := aPi, tC := tPi, kC := kP, exC := eP, veC := veP, meC := meP, tyC := tP, hdC := hP, opq := zOp, top := zTop,
      bind := fun _ _ _ _ _ _ _ _ _ _ => rfl,
      fn := ⟨_, _, _, _, _, _, _, _, _, _, _, _, _, _, _, _, _, _, _, lP, cP, fun env => ⟨rfl, _, rfl⟩, ⟨_, _, _, _, _, _, oP, vP, qP⟩, _, _, _, wP⟩ }
  have isx : ∀ {E : Addr}, PySem.W.hasDictIn K E = true → (PySem.W.clsIn K E).isSome = true := fun {E} hd => by
    unfold PySem.W.hasDictIn at hd
    cases e : PySem.W.clsIn K E with
    | none => rw [e] at hd; cases hd
    | some c => rfl
  have EX : ExTxt K mg B LE PC :=
    ⟨PySem.W.mg_of X G aB, PySem.W.mg_of X G aLE, PySem.W.mg_of X G aPC, PySem.W.exm_ref eB hB tB sBL, PySem.W.exm_ref eB hB tB sBP, kPP, kLP, kLL,
      ⟨isx hL, gaL, ggL, eL, caL, sp, tk, moL⟩, ⟨isx hP, gaP, ggP, eP, caP, sp, tk, moP⟩⟩
  have Fbo := fun_mk (st := sByteOf) lbo cbo kbo
  have bbo := Fbo.binds (ps := ["sign"]) fun _ _ _ _ _ _ us hl => match us, hl with | [_], _ => rfl
  have Fbs := fun_mk (st := sBytesOf) lbs cbs kbs
  have bbs := Fbs.binds (ps := ["text"]) fun _ _ _ _ _ _ us hl => match us, hl with | [_], _ => rfl
  have Fto := fun_mk (st := sTextOf) lto cto kto
  have bto := Fto.binds (ps := ["row"]) fun _ _ _ _ _ _ us hl => match us, hl with | [_], _ => rfl
  have Fas := fun_mk (st := sAreaSize) las cas kas
  have bas := Fas.binds (ps := ["device"]) fun _ _ _ _ _ _ us hl => match us, hl with | [_], _ => rfl
  have Fat := fun_mk (st := sAreaStart) lat cat kat
  have bat := Fat.binds (ps := ["device", "number"]) fun _ _ _ _ _ _ us hl => match us, hl with | [_, _], _ => rfl
  have Fva := fun_mk (st := sValid) lva cva kva
  have bva := Fva.binds (ps := ["device"]) fun _ _ _ _ _ _ us hl => match us, hl with | [_], _ => rfl
  have Frb := fun_mk (st := sRecord) lrb crb krb
  have brb := Frb.binds (ps := ["text"]) fun _ _ _ _ _ _ us hl => match us, hl with | [_], _ => rfl
  have Frr := fun_mk (st := sReadRec) lrr crr krr
  have brr := Frr.binds (ps := ["device", "number"]) fun _ _ _ _ _ _ us hl => match us, hl with | [_, _], _ => rfl
  have Ffm := fun_mk (st := sFormat) lfm cfm kfm
  have bfm := Ffm.binds (ps := ["device"]) fun _ _ _ _ _ _ us hl => match us, hl with | [_], _ => rfl
  have Fce := fun_mk (st := sCell) lce cce kce
  have bce := Fce.binds (ps := ["_law_script", "_law_k"]) fun _ _ _ _ _ _ us hl => match us, hl with | [_, _], _ => rfl
  have Fdg := fun_mk (st := sDigits) ldg cdg kdg
  have bdg := Fdg.binds (ps := ["_law_script", "_law_first", "_law_last"]) fun _ _ _ _ _ _ us hl => match us, hl with | [_, _, _], _ => rfl
  have Fdr := fun_mk (st := sDraw) ldr cdr kdr
  have bdr := Fdr.binds (ps := ["_law_box", "_law_many"]) fun _ _ _ _ _ _ us hl => match us, hl with | [_, _], _ => rfl
  have Fsg := fun_mk (st := sSign) lsg csg ksg
  have bsg := Fsg.binds (ps := ["_law_k"]) fun _ _ _ _ _ _ us hl => match us, hl with | [_], _ => rfl
  have Fwd := fun_mk (st := sWord) lwd cwd kwd
  have bwd := Fwd.binds (ps := ["_law_box", "_law_most"]) fun _ _ _ _ _ _ us hl => match us, hl with | [_, _], _ => rfl
  have Fws := fun_mk (st := sWords) lws cws kws
  have bws := Fws.binds (ps := ["_law_box", "_law_many", "_law_most"]) fun _ _ _ _ _ _ us hl => match us, hl with | [_, _, _], _ => rfl
  have Frc := fun_mk (st := sRecords) lrc crc krc
  have brc := Frc.binds (ps := ["_law_journal"]) fun _ _ _ _ _ _ us hl => match us, hl with | [_], _ => rfl
  have Fdn := fun_mk (st := sDone) ldn cdn kdn
  have bdn := Fdn.binds (ps := ["_law_journal", "_law_kind", "_law_texts"]) fun _ _ _ _ _ _ us hl => match us, hl with | [_, _, _], _ => rfl
  have Fsz := fun_mk (st := sSize) lsz csz ksz
  have bsz := Fsz.binds (ps := ["_law_texts"]) fun _ _ _ _ _ _ us hl => match us, hl with | [_], _ => rfl
  have Flaw := fun_mk (st := sLaw) llaw claw klaw
  have Fdi : FunD K "__init__" "Device.__init__" (defArgs sDevInit) (defBody sDevInit) (defScope sDevInit) [] [("power", V.non)] fdi _ :=
    ⟨⟨_, _, _, _, _, _, _, _, _, _, rfl, ldi, cdi, .inl ⟨rfl, rfl⟩, .inr ⟨kd, rfl, fun q hq => by
      rw [List.mem_singleton.mp hq]
      exact ⟨_, zkd, rfl⟩⟩⟩, kdi⟩
  obtain ⟨dsD, vdD, bdi⟩ := Fdi.binds0 (ps := ["self", "size", "power"]) 2 (by simp) rfl fun _ _ _ _ _ _ us ks hu hk => match us, ks, hu, hk with
    | [_, _], [_], _, _ => ⟨_, _, _, _, _, _, rfl, rfl, rfl⟩
  have Fde : FunD K "recharge" "Device.recharge" (defArgs sRecharge) (defBody sRecharge) (defScope sRecharge) [V.non] [] fde _ :=
    ⟨⟨_, _, _, _, _, _, _, _, _, _, rfl, lde, cde, .inr ⟨by simp, td, tdo, [Value.none], tdn, rfl, ztd, ztq, .cons rfl .nil⟩, .inl rfl⟩, kde⟩
  obtain ⟨dsR, vdR, bde0⟩ := Fde.binds1 (ps := ["self", "power"]) 1 0 (by simp) rfl fun _ _ _ _ _ _ _ us its hu hi => match us, its, hu, hi with
    | [_], [_], _, _ => ⟨_, rfl, rfl⟩
  obtain ⟨dsR1, vdR1, bde1⟩ := Fde.binds1 (ps := ["self", "power"]) 2 1 (by simp) rfl fun _ _ _ _ _ _ _ us its hu hi => match us, its, hu, hi with
    | [_, _], [_], _, _ => ⟨_, rfl, rfl⟩
  cases vdR1
  have Fdw := fun_mk (st := sWrite) ldw cdw kdw
  have bdw := Fdw.binds (ps := ["self", "start", "row"]) fun _ _ _ _ _ _ us hl => match us, hl with | [_, _, _], _ => rfl
  have Fdd := fun_mk (st := sRead) ldd cdd kdd
  have bdd := Fdd.binds (ps := ["self", "start", "many"]) fun _ _ _ _ _ _ us hl => match us, hl with | [_, _, _], _ => rfl
  have Fji := fun_mk (st := sJInit) lji cji kji
  have bji := Fji.binds (ps := ["self", "device"]) fun _ _ _ _ _ _ us hl => match us, hl with | [_, _], _ => rfl
  have Fjt := fun_mk (st := sTexts) ljt cjt kjt
  have bjt := Fjt.binds (ps := ["self"]) fun _ _ _ _ _ _ us hl => match us, hl with | [_], _ => rfl
  have Fjr := fun_mk (st := sRoom) ljr cjr kjr
  have bjr := Fjr.binds (ps := ["self"]) fun _ _ _ _ _ _ us hl => match us, hl with | [_], _ => rfl
  have Fjw := fun_mk (st := sWrRec) ljw cjw kjw
  have bjw := Fjw.binds (ps := ["self", "text"]) fun _ _ _ _ _ _ us hl => match us, hl with | [_, _], _ => rfl
  have Fjx := fun_mk (st := sRewrite) ljx cjx kjx
  have bjx := Fjx.binds (ps := ["self", "texts"]) fun _ _ _ _ _ _ us hl => match us, hl with | [_, _], _ => rfl
  refine ⟨PySem.W.fnOf "law" "law" (defArgs sLaw) (defBody sLaw) (defScope sLaw) .none kVlaw dclaw pmlaw anlaw cdlaw ctlaw, fun s v => .of_eq rfl, fun base _ _ => ?_⟩
  have Bbo : Callee l.prog w K mg base CX0 "byte_of" 5 ["sign"] spByteOf := ⟨fbo, _, ok_byte_of Fbo T, PySem.W.mg_of X G abo, kbo, bbo⟩
  have Bbs : Callee l.prog w K mg base CX0 "bytes_of" 7 ["text"] spBytesOf := ⟨fbs, _, ok_bytes_of Fbs T Bbo, PySem.W.mg_of X G abs, kbs, bbs⟩
  have Bto : Callee l.prog w K mg base CX0 "text_of" 7 ["row"] spTextOf := ⟨fto, _, ok_text_of Fto T, PySem.W.mg_of X G ato, kto, bto⟩
  have Bas : Callee l.prog w K mg base CX0 "area_size" 5 ["device"] (spAreaSize D) := ⟨fas, _, ok_area_size Fas T, PySem.W.mg_of X G aas, kas, bas⟩
  have Bat : Callee l.prog w K mg base CX0 "area_start" 6 ["device", "number"] (spAreaStart D) := ⟨fat, _, ok_area_start Fat Bas, PySem.W.mg_of X G aat, kat, bat⟩
  have Bva : Callee l.prog w K mg base CX0 "valid_area" 5 ["device"] (spValid D) := ⟨fva, _, ok_valid Fva T, PySem.W.mg_of X G ava, kva, bva⟩
  have Brb : Callee l.prog w K mg base CX0 "record_bytes" 8 ["text"] spRecord := ⟨frb, _, ok_record Frb T Bbs, PySem.W.mg_of X G arb, krb, brb⟩
  have Bdd : MCallee l.prog w K mg base CX0 D "read" 5 ["self", "start", "many"] (spRead D) := ⟨fdd, _, ok_read Fdd T, ⟨add, idd, kdd⟩, bdd⟩
  have Brr : Callee l.prog w K mg base CX0 "read_records" 8 ["device", "number"] (spReadRec D) := ⟨frr, _, ok_read_rec Frr T Bat Bto Bdd, PySem.W.mg_of X G arr, krr, brr⟩
  have Bdw : MCallee l.prog w K mg base (L2.CX l.prog w) D "write" 5 ["self", "start", "row"] (spWrite D PC) := ⟨fdw, _, ok_write Fdw T TP okCutA, ⟨adw, idw, kdw⟩, bdw⟩
  have Gji : FnOk l.prog w K mg base CX0 5 fji _ ["self", "device"] (spJInit C) := ok_jinit Fji T
  have Bfm : Callee l.prog w K mg base CX0 "format_device" 8 ["device"] (spFormat D C) := ⟨ffm, _, ok_format Ffm T Bat Bdw ⟨mkC, aji, iji, kcC⟩ Gji bji, PySem.W.mg_of X G afm, kfm, bfm⟩
  have Bjt : MCallee l.prog w K mg base CX0 C "texts" 9 ["self"] (spTexts D C) := ⟨fjt, _, ok_texts Fjt T Brr Bva, ⟨ajt, ijt, kjt⟩, bjt⟩
  have Bjr : MCallee l.prog w K mg base CX0 C "room" 9 ["self"] (spRoom D C) := ⟨fjr, _, ok_room Fjr T Brr Bva Bat Bas, ⟨ajr, ijr, kjr⟩, bjr⟩
  have Bjw : MCallee l.prog w K mg base (L2.CX l.prog w) C "write_record" 10 ["self", "text"] (spWrRec D C LE PC) := ⟨fjw, _, ok_wr_rec Fjw T TL okLimA Brr Bva Brb Bjr Bdw, ⟨ajw, ijw, kjw⟩, bjw⟩
  have Bjx : MCallee l.prog w K mg base (L2.CX l.prog w) C "rewrite" 10 ["self", "texts"] (spRewrite D C LE PC) := ⟨fjx, _, ok_rewrite Fjx T TL okLimA Bva Brb Bat Bas Bdw, ⟨ajx, ijx, kjx⟩, bjx⟩
  have Bce : Callee l.prog w K mg base CX0 "_law_cell" 5 ["_law_script", "_law_k"] (spCell K) := ⟨fce, _, ok_cell Fce T, PySem.W.mg_of X G ace, kce, bce⟩
  have Bdg : Callee l.prog w K mg base CX0 "_law_digits" 7 ["_law_script", "_law_first", "_law_last"] (spDigits K) := ⟨fdg, _, ok_digits Fdg T Bce, PySem.W.mg_of X G adg, kdg, bdg⟩
  have Bdr : Callee l.prog w K mg base CX0 "_law_draw" 5 ["_law_box", "_law_many"] spDraw := ⟨fdr, _, ok_draw Fdr T, PySem.W.mg_of X G adr, kdr, bdr⟩
  have Bsg : Callee l.prog w K mg base CX0 "_law_sign" 5 ["_law_k"] spSign := ⟨fsg, _, ok_sign Fsg T, PySem.W.mg_of X G asg, ksg, bsg⟩
  have Bwd : Callee l.prog w K mg base CX0 "_law_word" 7 ["_law_box", "_law_most"] spWord := ⟨fwd, _, ok_word Fwd T Bdr Bsg, PySem.W.mg_of X G awd, kwd, bwd⟩
  have Bws : Callee l.prog w K mg base CX0 "_law_words" 8 ["_law_box", "_law_many", "_law_most"] spWords := ⟨fws, _, ok_words Fws T Bdr Bwd, PySem.W.mg_of X G aws, kws, bws⟩
  have Brc : Callee l.prog w K mg base CX0 "_law_records" 10 ["_law_journal"] (spTexts D C) := ⟨frc, _, ok_records Frc T Bjt, PySem.W.mg_of X G arc, krc, brc⟩
  have Bdn : Callee l.prog w K mg base CX0 "_law_done" 11 ["_law_journal", "_law_kind", "_law_texts"] (spDone D C) := ⟨fdn, _, ok_done Fdn T EX Bjx Bjw, PySem.W.mg_of X G adn, kdn, bdn⟩
  have Bsz : Callee l.prog w K mg base CX0 "_law_size" 5 ["_law_texts"] spSize := ⟨fsz, _, ok_size Fsz T, PySem.W.mg_of X G asz, ksz, bsz⟩
  exact ok_law Flaw T Bdg Bdr Bfm Bwd Bws Bdn Bsz Brc ⟨mkD, adi, idi, kcD⟩ (ok_dev_init Fdi T) bdi vdD ⟨mkC, aji, iji, kcC⟩ Gji bji ⟨ade, ide, kde⟩ (ok_recharge Fde T) bde1 bde0 vdR
theorem walk {l : PySem.W.OpenLaw} {q : Program} {loose : List Str} {XP : (Str → Option Value) → Heap → Prop} {YP : World → Heap → Prop} {d : DefRec} {K : Params → PySem.W.Frag} (hn : l.most = some 63) (hdf : d.params.defaults = [])
    (hY : ∀ (w : World) (h : Heap), YP w h → (K w.params).In h)
    (F : ∀ (w : World) (mg : Str → Option Value) (fa : Addr) (h : Heap), (K w.params).In h → h.Ns mainGlobals mg → mg d.name = some (.ref fa) →
      ∃ fd : FuncData, (∀ (s : Shared) (u : Value), BindsTo s fd ⟨[u], []⟩ [("_law_script", u)]) ∧ ∀ base : Heap, (K w.params).In base → base.Ns mainGlobals mg → FnOk l.prog w (K w.params) mg base CX0 13 fa fd ["_law_script"] (spLaw (K w.params))) :
    PySem.W.WalkO q loose XP YP l.row.toRowW d [] (fun f vs => PySem.call f vs) :=
  L2.walk_of (n := 63) (k := 13) (x := "_law_script") (CX := fun _ => CX0) (sp := fun w => spLaw (K w.params)) hn (by decide) hdf ⟨rfl, by decide, by decide⟩ hY F (fun _ _ a ns hl _ hS => ⟨a, ns, rfl, hS, fun _ => rfl⟩) fun _ _ _ _ _ z => z
end J
open PySem PySem.W PyProof.Rows in
set_option maxRecDepth 100000 in
set_option maxHeartbeats 0 in
theorem PySem.Challenge.cw_clearfloor_k23_whole_journal_through_pow_holds : PySem.Challenge.rw_clearfloor_k23_whole_journal_through_pow.Holds := by
  w_on; o_law; k_head; (case hw => w_witness2)
  k_fill
  refine J.walk (l := PySem.Challenge.rw_clearfloor_k23_whole_journal_through_pow) rfl rfl (fun w h Y => PySem.W.kIn_of Y) ?F
  case F =>
    intro w mg fa h KX G hmg
    refine' J.all_mk KX G hmg ?aC ?aD ?aB ?aLE ?aPC ?abo ?lbo ?cbo ?kbo ?abs ?lbs ?cbs ?kbs ?ato ?lto ?cto ?kto ?aas ?las ?cas ?kas ?aat ?lat ?cat ?kat ?ava ?lva ?cva ?kva ?arb ?lrb ?crb ?krb ?arr ?lrr ?crr ?krr ?afm ?lfm ?cfm ?kfm ?ace ?lce ?cce ?kce ?adg ?ldg ?cdg ?kdg ?adr ?ldr ?cdr ?kdr ?asg ?lsg ?csg ?ksg ?awd ?lwd ?cwd ?kwd ?aws ?lws ?cws ?kws ?arc ?lrc ?crc ?krc ?adn ?ldn ?cdn ?kdn ?asz ?lsz ?csz ?ksz ?alaw ?llaw ?claw ?klaw ?adi ?idi ?ldi ?cdi ?kdi ?ade ?ide ?lde ?cde ?kde ?adw ?idw ?ldw ?cdw ?kdw ?add ?idd ?ldd ?cdd ?kdd ?aji ?iji ?lji ?cji ?kji ?ajt ?ijt ?ljt ?cjt ?kjt ?ajr ?ijr ?ljr ?cjr ?kjr ?ajw ?ijw ?ljw ?cjw ?kjw ?ajx ?ijx ?ljx ?cjx ?kjx ?zkd ?ztd ?ztq ?pgC ?hdC ?poC ?saC ?mkC ?kcC ?pgD ?hdD ?poD ?saD ?mkD ?kcD ?nDa ?nSi ?nPo ?nWr ?nDe ?zSG ?zRE ?zEN ?zPR ?zLe ?zRa ?zIn ?zIs ?zLi ?zSt ?zSu ?zOp ?zTop ?aBi ?cB ?mB ?eB ?hB ?tB ?xL ?saL ?gaL ?ggL ?noL ?aLi ?tLi ?kL ?eL ?veL ?sBL ?meL ?moL ?tL ?hL ?caL ?lL ?cL ?oL ?vL ?qL ?wL ?xP ?saP ?gaP ?ggP ?noP ?aPi ?tPi ?kP ?eP ?veP ?sBP ?meP ?moP ?tP ?hP ?caP ?lP ?cP ?oP ?vP ?qP ?wP ?sp ?tk ?kLP ?kLL ?kPP
    (case aC => k_is)
    (case aD => k_is)
    (case aB => k_is)
    (case aLE => k_is)
    (case aPC => k_is)
    (case abo => k_is)
    (case lbo => k_is)
    (case cbo => k_is)
    (case kbo => k_is)
    (case abs => k_is)
    (case lbs => k_is)
    (case cbs => k_is)
    (case kbs => k_is)
    (case ato => k_is)
    (case lto => k_is)
    (case cto => k_is)
    (case kto => k_is)
    (case aas => k_is)
    (case las => k_is)
    (case cas => k_is)
    (case kas => k_is)
    (case aat => k_is)
    (case lat => k_is)
    (case cat => k_is)
    (case kat => k_is)
    (case ava => k_is)
    (case lva => k_is)
    (case cva => k_is)
    (case kva => k_is)
    (case arb => k_is)
    (case lrb => k_is)
    (case crb => k_is)
    (case krb => k_is)
    (case arr => k_is)
    (case lrr => k_is)
    (case crr => k_is)
    (case krr => k_is)
    (case afm => k_is)
    (case lfm => k_is)
    (case cfm => k_is)
    (case kfm => k_is)
    (case ace => k_is)
    (case lce => k_is)
    (case cce => k_is)
    (case kce => k_is)
    (case adg => k_is)
    (case ldg => k_is)
    (case cdg => k_is)
    (case kdg => k_is)
    (case adr => k_is)
    (case ldr => k_is)
    (case cdr => k_is)
    (case kdr => k_is)
    (case asg => k_is)
    (case lsg => k_is)
    (case csg => k_is)
    (case ksg => k_is)
    (case awd => k_is)
    (case lwd => k_is)
    (case cwd => k_is)
    (case kwd => k_is)
    (case aws => k_is)
    (case lws => k_is)
    (case cws => k_is)
    (case kws => k_is)
    (case arc => k_is)
    (case lrc => k_is)
    (case crc => k_is)
    (case krc => k_is)
    (case adn => k_is)
    (case ldn => k_is)
    (case cdn => k_is)
    (case kdn => k_is)
    (case asz => k_is)
    (case lsz => k_is)
    (case csz => k_is)
    (case ksz => k_is)
    (case alaw => k_is)
    (case llaw => k_is)
    (case claw => k_is)
    (case klaw => k_is)
    (case adi => k_is)
    (case idi => k_is)
    (case ldi => k_is)
    (case cdi => k_is)
    (case kdi => k_is)
    (case ade => k_is)
    (case ide => k_is)
    (case lde => k_is)
    (case cde => k_is)
    (case kde => k_is)
    (case adw => k_is)
    (case idw => k_is)
    (case ldw => k_is)
    (case cdw => k_is)
    (case kdw => k_is)
    (case add => k_is)
    (case idd => k_is)
    (case ldd => k_is)
    (case cdd => k_is)
    (case kdd => k_is)
    (case aji => k_is)
    (case iji => k_is)
    (case lji => k_is)
    (case cji => k_is)
    (case kji => k_is)
    (case ajt => k_is)
    (case ijt => k_is)
    (case ljt => k_is)
    (case cjt => k_is)
    (case kjt => k_is)
    (case ajr => k_is)
    (case ijr => k_is)
    (case ljr => k_is)
    (case cjr => k_is)
    (case kjr => k_is)
    (case ajw => k_is)
    (case ijw => k_is)
    (case ljw => k_is)
    (case cjw => k_is)
    (case kjw => k_is)
    (case ajx => k_is)
    (case ijx => k_is)
    (case ljx => k_is)
    (case cjx => k_is)
    (case kjx => k_is)
    (case zkd => k_is)
    (case ztd => k_is)
    (case ztq => rfl)
    (case pgC => k_is)
    (case hdC => k_is)
    (case poC => k_is)
    (case saC => k_is)
    (case mkC => k_is)
    (case kcC => k_is)
    (case pgD => k_is)
    (case hdD => k_is)
    (case poD => k_is)
    (case saD => k_is)
    (case mkD => k_is)
    (case kcD => k_is)
    (case nDa => k_is)
    (case nSi => k_is)
    (case nPo => k_is)
    (case nWr => k_is)
    (case nDe => k_is)
    (case zSG => k_is)
    (case zRE => k_is)
    (case zEN => k_is)
    (case zPR => k_is)
    (case zLe => k_is)
    (case zRa => k_is)
    (case zIn => k_is)
    (case zIs => k_is)
    (case zLi => k_is)
    (case zSt => k_is)
    (case zSu => k_is)
    (case zOp => k_is)
    (case zTop => rfl)
    (case aBi => k_is)
    (case cB => k_is)
    (case mB => rfl)
    (case eB => k_is)
    (case hB => k_is)
    (case tB => k_is)
    (case xL => k_is)
    (case saL => k_is)
    (case gaL => k_is)
    (case ggL => k_is)
    (case noL => k_is)
    (case aLi => k_is)
    (case tLi => k_is)
    (case kL => k_is)
    (case eL => k_is)
    (case veL => k_is)
    (case sBL => k_is)
    (case meL => k_is)
    (case moL => k_is)
    (case tL => k_is)
    (case hL => k_is)
    (case caL => k_is)
    (case lL => k_is)
    (case cL => k_is)
    (case oL => k_is)
    (case vL => rfl)
    (case qL => decide +kernel)
    (case wL => k_is)
    (case xP => k_is)
    (case saP => k_is)
    (case gaP => k_is)
    (case ggP => k_is)
    (case noP => k_is)
    (case aPi => k_is)
    (case tPi => k_is)
    (case kP => k_is)
    (case eP => k_is)
    (case veP => k_is)
    (case sBP => k_is)
    (case meP => k_is)
    (case moP => k_is)
    (case tP => k_is)
    (case hP => k_is)
    (case caP => k_is)
    (case lP => k_is)
    (case cP => k_is)
    (case oP => k_is)
    (case vP => rfl)
    (case qP => decide +kernel)
    (case wP => k_is)
    (case sp => k_is)
    (case tk => k_is)
    (case kLP => kit_is)
    (case kLL => kit_is)
    (case kPP => kit_is)
