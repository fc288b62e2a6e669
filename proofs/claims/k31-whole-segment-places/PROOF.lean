import PyProof.Rows.All
import Wide.All
import OpenK.AllK
import Wide.FinOn
import KE.KExcSuper
import HandS.ForMost
import HandS.Exc
import HandS.FStr
import HandS.ExcSuper
import HandS.ExcField
import HandS.HeadHook2
import HandS.Property
import HandS.Defaults
import HandS.WordsExc
import PySem.Challenge.RW_carrylog_k31_whole_segment_places
import KE.KStateDown
import HandS.Head0
import HandS.Head1
import HandS.Head2
import HandS.Steps
import HandS.Evl
import HandS.Wide
import HandS.IsInst
import HandS.Walk
import HandS.Star
import HandS.MakeKwOnly
import HandS.More
import HandS.ExcOwn
import HandS.HotCalls
import HandS.HeadEnd
set_option Elab.async false
set_option linter.all false
set_option maxRecDepth 100000
set_option maxHeartbeats 0
section
/-! Own exceptions of the form: class X(B) with def __init__(self, f): super().__init__(text); self.f = f, over ValueError (through own classes without __init__). -/
namespace PySem
namespace OwnX
open PySem.W PySem.Calls PyProof.Rows PySem.HandSPX
/-- the text of such an __init__ -/
structure Tx where
  qual : Str
  params : Arguments
  scope : Scope
  E : Expr
  q0 : Pos
  q1 : Pos
  q2 : Pos
  q3 : Pos
  q4 : Pos
  r1 : Pos
  r2 : Pos
  r3 : Pos
  r4 : Pos
def Tx.sup (D : Tx) : Expr := .Call (.Attribute (.Call (.Name "super" D.q0) [] [] D.q1) "__init__" D.q2) [D.E] [] D.q3
def Tx.body (D : Tx) (fld : Str) : List Stmt := [.Expr D.sup D.q4, .Assign [.Attribute (.Name "self" D.r1) fld D.r2] (.Name fld D.r3) D.r4]
/-- what is read off the text alone -/
structure TxOk (prog : Program) (w : World) (fld : Str) (okV : Value → Prop) (D : Tx) : Prop where
  head : ∃ ar, (D.params.posonlyargs ++ D.params.args).head? = some ar ∧ ar.arg = "self"
  bind : ∀ (x v kV doc pm cdv ct : Value) (an : Option Addr) (cc : Addr), bindArgs (ksFn "__init__" D.qual D.params (D.body fld) D.scope .none kV doc pm an cdv ct cc) ⟨[x, v], []⟩ = pure ([("self", x), (fld, v)] : List (Str × Value))
  sk : D.scope.kind = .function
  sco : D.scope.isCoroutine = false
  sgen : D.scope.isGenerator = false
  scell : ∀ x ∈ D.scope.names, x.2 ≠ .cell
  ss : D.scope.names.lookup ("super" : Str) = some .globalImplicit
  sc : D.scope.names.lookup ("__class__" : Str) = some .free
  sself : D.scope.names.lookup ("self" : Str) = some .local
  sf : D.scope.names.lookup fld = some .local
  fd : (fld == ("__debug__" : Str)) = false
  fs : ((fld : Str) == "self") = false
  top : (prog.main.scope.names.lookup ("super" : Str)).isSome = false
  ev : ∀ (L a cc : Addr) (cdv : Value), ∃ pl, eval D.sup (ksEnv D.qual D.scope L a cdv cc) = (do
      let ov ← attributeBase (.Call (.Name "super" D.q0) [] [] D.q1) "__init__" (ksEnv D.qual D.scope L a cdv cc) (eval (.Call (.Name "super" D.q0) [] [] D.q1) (ksEnv D.qual D.scope L a cdv cc))
      standAt D.q2.atName
      let (f, first) ← holding [ov] (getMethod ov "__init__" pl)
      callWith D.q3 f first (backTo D.q3 (starEach [D.E] (ksEnv D.qual D.scope L a cdv cc))) [])
  sw : ∀ (L a cc : Addr) (cdv : Value), swapsWith D.sup none D.q4.line (ksEnv D.qual D.scope L a cdv cc) = pure false
  star : ∀ (L a cc : Addr) (cdv : Value), starEach [D.E] (ksEnv D.qual D.scope L a cdv cc) = (false, eval D.E (ksEnv D.qual D.scope L a cdv cc)) :: starEach [] (ksEnv D.qual D.scope L a cdv cc)
  val : ∀ (A : Around) (L a cc : Addr) (cdv : Value) (s : Shared) (m : Str → Option Value) (v : Value) (Q Ex : Value → Shared → Prop), s.heap.Ns L m → m fld = some v → okV v →
      (∀ (y : Str) (t : Tok) (tk : Nat), Q (.str y t) { s with toks := tk }) → wpAny (model prog w) A (eval D.E (ksEnv D.qual D.scope L a cdv cc)) Q Ex s
/-- what the written part says of the class at C, its __init__ at fI -/
structure Txt (prog : Program) (K : Frag) (mg : Str → Option Value) (C fI : Addr) (fld : Str) (D : Tx) : Prop where
  cls : ∃ nm q N bs bm sn sub ab col dd k0 k1 k2 k3 k5, K.lookup C = some (excClassObj nm q C N bs bm true sn sub ab col dd k0 k1 k2 k3 k5 "ValueError.__new__") ∧ refsVE bm = true
  sa : findIn K (.ref C) "__setattr__" = some (some (.builtin "object.__setattr__"))
  ga : findIn K (.ref C) "__getattribute__" = some (some (.builtin "BaseException.__getattribute__"))
  gg : findIn K (.ref C) "__getattr__" = some none
  noF : findIn K (.ref C) fld = some none
  kC : keepIn K (.ref C) = true
  exC : subIn K (.ref C) (.type "BaseException") = some true
  veC : subIn K (.ref C) (.type "ValueError") = some true
  tyC : typeIn K (.ref C) = some (.type "type")
  hdC : hasDictIn K C = true
  opq : nsIn K cStatics "thirdparty.any" = some none
  sup : ks_superIn K C C "__init__" = some (some (.builtin "ValueError.__init__"))
  mro : mroIn K C (.ref C) = some true
  noS : mg "super" = none
  iC : findIn K (.ref C) "__init__" = some (some (.ref fI))
  tI : typeIn K (.ref fI) = some (.type "function")
  fn : ∃ (cc cda : Addr) (oc kV doc pm ct : Value) (od an : Option Addr) (osl : Array (Option Value)) (ccl : Value) (cdd : Option Addr) (vs : Array Value) (ccs : Array (Option Value)) (file : Str) (tf : Tok) (cl : Value) (cld : Option Addr) (csl : Array (Option Value)),
    K.lookup fI = some ⟨oc, od, .func (ksFn "__init__" D.qual D.params (D.body fld) D.scope .none kV doc pm an (.ref cda) ct cc), osl⟩ ∧ codeIn K (.ref cda) D.qual = true ∧
    K.lookup cda = some ⟨ccl, cdd, .fields vs, ccs⟩ ∧ vs[2]? = some (.str file tf) ∧ ((prog.main.file : Str) == file) = true ∧ K.lookup cc = some ⟨cl, cld, .cell (some (.ref C)), csl⟩
/-- what __init__ leaves of a fresh exception at x -/
structure InitEnd (h h' : Heap) (x C dx t1 : Addr) (fld : Str) (v : Value) : Prop where
  keep : ∀ b o, b ≠ x → h.get? b = some o → h'.get? b = some o
  obj : h'.get? x = some { cls := .ref C, dict := some dx, data := .fields #[.ref t1, .none, .none, .none, .bool false, .none] }
  dbig : h.objs.size ≤ dx
  dne : dx ≠ x
  ns : h'.Ns1 dx (fun y => if y = fld then some v else none)
section
variable {prog : Program} {w : World} {A : Around} {E : Value → Shared → Prop} {R : Result → Shared → Prop} {s : Shared} {K : Frag} {mg : Str → Option Value} {C fI : Addr} {fld : Str} {okV : Value → Prop} {D : Tx}
/-- the bound built-in __init__ called: the text is laid, the record rewritten -/
theorem mw_called {u e t0 : Addr} {h : Heap} {g : Array GenState} {d : Drawn} {t : Nat} {os : OsState} {rest : List Value} {Q : Value → Shared → Prop}
    {nm q : Str} {N : Addr} {bs bm : List Value} {hdct : Bool} {sn : List Str} {sub : List Value} {ab : Bool} {col : Option Bool} {dd : Option Addr} {k0 k1 k2 k3 k5 : Option Value}
    (hC : h.get? C = some (excClassObj nm q C N bs bm hdct sn sub ab col dd k0 k1 k2 k3 k5 "ValueError.__new__")) (he : h.get? e = some (excO C t0)) (hu : h.get? u = some (kxs_mw "ValueError.__init__" e)) (hz : rest.length ≤ sizeLine)
    (next : ∀ h', (∀ b o, b ≠ e → h.get? b = some o → h'.get? b = some o) → (∃ t1, h'.get? e = some (excO C t1)) → Q .none ⟨h', g, d, t, os⟩) :
    wpAny (model prog w) A (call (.ref u) rest) Q E ⟨h, g, d, t, os⟩ := by
  have m1 : (Value.type "method-wrapper" == Value.type "method") = false := by decide
  have m2 : (Value.type "method-wrapper" == Value.type "builtin_function_or_method") = false := by decide
  refine wpAny_call (codeAny_of_tree ?_)
  change wpAny (model prog w) A.in1 (callAny (.ref u) { pos := rest }) _ _ _
  unfold callAny
  refine wpAny_bind (wpAny_load hu ?_)
  dsimp only
  simp only [m1, m2, beq_self_eq_true, Bool.or_true, if_true]
  refine W.KFB.if_so (by decide) (wpAny_bind (check_bound_init F.excBase_ValueError.toExcCallFacts hC he rfl (wpAny_bind (wpAny_pure (wpAny_pure ⟨plainId_quiet F.excBase_ValueError.init.plain _, codeAny_builtin F.excBase_ValueError.initEntry ?_⟩)))))
  exact exc_init_tree (cls := .ref C) (t0 := t0) (dv := none) (c2 := .none) (c3 := .none) (b4 := .bool false) he hz fun h' k e' _ => next h' k ⟨_, e'⟩
theorem interactive_fn {env : Env} (h : env.scope.kind = .function) : interactive env = false := by simp [interactive, h]
theorem one_size (v : Value) : [v].length ≤ sizeLine := by
  rw [sizeLine_eq]
  exact (by decide : 1 ≤ 16777216)
theorem own_init (O : TxOk prog w fld okV D) (T : Txt prog K mg C fI fld D) {x t0 : Addr} {v : Value} (hv : okV v) (X : K.In s.heap) (hlim : s.heap.NoLimit) (G : s.heap.Ns mainGlobals mg) (B : ∃ mb, s.heap.Ns builtinsNs mb ∧ ∀ x : Str, x ≠ "__name__" → mb x = bootBuiltins x)
    (hx : s.heap.get? x = some (excO C t0)) (hnx : K.lookup x = none) (hroom : A.depth < recursionLimit)
    (hq : ∀ h' tk dx t1, InitEnd s.heap h' x C dx t1 fld v → R (.ok (.ret .none)) { s with heap := h', toks := tk }) :
    codeAny (model prog w) A (.call (.ref fI) ⟨[.ref x, v], []⟩) R s := by
  obtain ⟨cc, cda, oc, kV, doc, pm, ct, od, an, osl, ccl, cdd, vs, ccs, file, tf, cl, cld, csl, lk, hcd, lc, hvs, hfile, lcc⟩ := T.fn
  obtain ⟨nm, q, N, bs, bm, sn, sub, ab, col, dd, k0, k1, k2, k3, k5, hC, hbm⟩ := T.cls
  obtain ⟨ar, hp, har⟩ := O.head
  have hcl : clsIn K C = some { name := nm, bases := bs, mro := .ref C :: bm, ns := N, qualname := q, hasDict := true, slotNames := sn, subclasses := sub, abstract := ab, collection := col, hasDel := false } := by unfold clsIn; rw [hC] <;> rfl
  refine ks_codeAny_call_defAt (fd := ksFn "__init__" D.qual D.params (D.body fld) D.scope .none kV doc pm an (.ref cda) ct cc) (body := D.body fld) (binds := ([("self", .ref x), (fld, v)] : List (Str × Value))) hroom (X _ _ lk) rfl hlim (codeRec_of X hcd) rfl
    (BindsTo.of_eq (O.bind _ _ _ _ _ _ _ _ _)) O.scell (fun y hy => ?_) (fun h₁ hns hk₁ => ?_) O.sco O.sgen O.sk
  · rcases List.mem_cons.mp hy with rfl | hy
    · exact O.sself
    · obtain rfl := List.mem_singleton.mp hy
      exact O.sf
  have e1 : (fun y : Str => (([("self", .ref x), (fld, v)] : List (Str × Value)).reverse.lookup y)) "self" = some (.ref x) := by
    have hfs := O.fs
    have z : (("self" : Str) == fld) = false := by rw [Bool.eq_false_iff] at hfs ⊢; intro y; exact hfs (by rw [eq_of_beq y]; exact beq_self_eq_true _)
    show ([(fld, v), ("self", .ref x)] : List (Str × Value)).lookup ("self" : Str) = _
    simp [List.lookup, z]
  have e2 : (fun y : Str => (([("self", .ref x), (fld, v)] : List (Str × Value)).reverse.lookup y)) fld = some v := by
    show ([(fld, v), ("self", .ref x)] : List (Str × Value)).lookup fld = _
    simp [List.lookup]
  obtain ⟨mb, hB, hBB⟩ := B
  have X₁ : K.In h₁ := X.keeps hk₁
  have hx₁ := hk₁ _ _ hx
  have hxC : x ≠ C := fun z => by
    have e := X _ _ hC
    rw [← z, hx] at e
    cases e
  show wpAt (model prog w) (A.deeper (ksEnv D.qual D.scope s.heap.objs.size fI (.ref cda) cc)) (.func (D.body fld) (ksEnv D.qual D.scope s.heap.objs.size fI (.ref cda) cc)) (execs (D.body fld) (ksEnv D.qual D.scope s.heap.objs.size fI (.ref cda) cc)) _ _ _
  obtain ⟨pl, hev⟩ := O.ev s.heap.objs.size fI cc (.ref cda)
  refine ks_wpAt_execs_cons ?_
  refine ks_wpAt_Expr_any ?_ (interactive_fn O.sk) (O.sw _ _ _ _)
  refine ks_wpAt_MethodCall (pl := pl) ?_ hev
  refine ks_wpAt_super_base (env := ksEnv D.qual D.scope s.heap.objs.size fI (.ref cda) cc) O.ss O.sc (by decide) rfl (X₁ _ _ lk) rfl hp rfl (X₁ _ _ lc) rfl hvs hfile O.top ?_
  refine ks_loadName_global O.sk O.ss (loadGlobal_builtin (G.keeps hk₁) T.noS (hB.keeps hk₁) ((hBB _ (by decide)).trans (by boot_by_name)) ⟨rfl, ?_⟩)
  refine wpAny_loadName_free O.sk O.sc rfl ⟨_, X₁ _ _ lcc, rfl⟩ ?_
  rw [har]
  refine wpAny_loadName_local O.sk O.sself hns e1 ?_
  obtain ⟨oD, hD1, hD2⟩ : ∃ oD, h₁.get? C = some oD ∧ oD.data = .cls { name := nm, bases := bs, mro := .ref C :: bm, ns := N, qualname := q, hasDict := true, slotNames := sn, subclasses := sub, abstract := ab, collection := col, hasDel := false } := ⟨_, X₁ _ _ hC, rfl⟩
  refine ks_wpAny_isType_cls hD1 hD2 ⟨rfl, ?_⟩
  refine ks_wpAny_call_super hD1 hD2 hx₁ rfl (fun c e => by cases e) (looks_mroIn X₁ T.mro) (fun h₂ e₂ k₂ => ?_)
  have X₂ : K.In h₂ := X₁.keeps k₂
  have hx₂ := k₂ _ _ hx₁
  have I₂ : W.InstAt h₂ x (excO C t0) C none := ⟨hx₂, rfl, rfl, trivial⟩
  have hI₂ : Looks (model prog w) h₂ (isInstance (.ref x) (.type "ValueError")) true := I₂.type.andThen (looks_subIn X₂ T.veC)
  have hsup : alongIn K "__init__" (((Value.ref C :: bm).dropWhile (· != .ref C)).drop 1) = some (some (.builtin "ValueError.__init__")) := by
    have z := T.sup
    unfold ks_superIn at z
    rw [hcl] at z
    exact z
  refine kxs_getMethod kxs_ValueError e₂ (looks_opaque X₂ T.opq) (l₀ := Value.ref C :: bm) ?_ rfl X₂ hsup hI₂ hxC (by decide) ?_
  · exact fun A Q E s k q => wpAny_bind ((looks_clsIn X₂ hcl) A _ E s k (wpAny_pure q))
  have ku : ∀ b o, h₂.get? b = some o → (h₂.push (kxs_mw "ValueError.__init__" x)).get? b = some o := fun b o e => Heap.get?_push_of_some _ e
  have hu : (h₂.push (kxs_mw "ValueError.__init__" x)).get? h₂.objs.size = some (kxs_mw "ValueError.__init__" x) := Heap.get?_push_at rfl rfl
  have k3 : ∀ b o, h₁.get? b = some o → (h₂.push (kxs_mw "ValueError.__init__" x)).get? b = some o := fun b o e => ku b o (k₂ b o e)
  have ns3 : (h₂.push (kxs_mw "ValueError.__init__" x)).Ns s.heap.objs.size (fun y => ([("self", .ref x), (fld, v)] : List (Str × Value)).reverse.lookup y) := hns.keeps k3
  rw [O.star s.heap.objs.size fI cc (.ref cda)]
  refine kxs_callWith (i := "ValueError.__init__") (x := x) rfl ?_
  refine evalArgs_plain ?_
  show wpAny _ _ (spliced ((false, eval D.E (ksEnv D.qual D.scope s.heap.objs.size fI (.ref cda) cc)) :: backTo D.q3 (starEach [] (ksEnv D.qual D.scope s.heap.objs.size fI (.ref cda) cc)))) _ _ _
  refine Calls.spliced_cons ?_
  refine O.val _ _ _ _ _ _ _ _ _ _ ns3 e2 hv fun y t tk => ?_
  refine Calls.spliced_nil ⟨hu, ?_⟩
  refine mw_called (X₂.keeps ku _ _ hC) (ku _ _ hx₂) hu (one_size _) fun h₄ k₄ e₄ => ?_
  obtain ⟨t1, hx₄⟩ := e₄
  have k4 : ∀ b o, b ≠ x → s.heap.get? b = some o → h₄.get? b = some o := fun b o hb e => k₄ b o hb (k3 b o (hk₁ b o e))
  have X₄ : K.In h₄ := fun b o e => k4 b o (fun z => by rw [z, hnx] at e; cases e) (X b o e)
  have hLx : s.heap.objs.size ≠ x := Nat.ne_of_gt (Heap.lt_size hx)
  have ns4 : h₄.Ns s.heap.objs.size (fun y => ([("self", .ref x), (fld, v)] : List (Str × Value)).reverse.lookup y) := by
    obtain ⟨oL, es, ep, hL, r⟩ := ns3
    exact ⟨oL, es, ep, k₄ _ _ hLx hL, r⟩
  have big : s.heap.objs.size ≤ h₄.objs.size := by
    obtain ⟨oL, es, ep, hL, r⟩ := ns4
    exact Nat.le_of_lt (Heap.lt_size hL)
  show wpAt _ _ _ (execs [Stmt.Assign [(Expr.Name "self" D.r1).Attribute fld D.r2] (Expr.Name fld D.r3) D.r4] (ksEnv D.qual D.scope s.heap.objs.size fI (.ref cda) cc)) _ _ _
  refine wpAt_of_wpAny (wpAny_execs_cons (plainObj_wpAny_Assign_Attribute ?_ rfl))
  refine ESX.ldL (v := v) ns4 e2 ?_ O.sk O.sf O.fd
  refine ESX.ldL (v := .ref x) ns4 e1 ?_ O.sk O.sself (by decide)
  refine set_plain X₄ (ox := excO C t1) (od := none) ⟨hx₄, rfl, rfl, trivial⟩ T.sa ?_
  refine exc_osa X₄ hx₄ hcl (show refsVE (.ref C :: bm) = true from hbm) rfl T.noF (fun h₅ tk₅ dx k₅ dn dne hx₅ hn₅ => ?_)
  show wpAny _ _ (execs _ _) _ _ _
  exact wpAny_execs_nil (hq h₅ tk₅ dx t1 ⟨fun b o hb e => k₅ b o hb (k4 b o hb e), hx₅, Nat.le_trans big dn, dne, hn₅⟩)
/-- a made exception -/
structure OwnMade (h h' : Heap) (e C d : Addr) (fld : Str) (v : Value) : Prop where
  keep : ∀ b o, h.get? b = some o → h'.get? b = some o
  new : h.objs.size ≤ e
  obj : ∃ oe vs, h'.get? e = some oe ∧ oe.cls = .ref C ∧ oe.dict = some d ∧ oe.data = .fields vs ∧ vs[1]? = some .none
  dbig : h.objs.size ≤ d
  dne : d ≠ e
  ns : h'.Ns1 d (fun y => if y = fld then some v else none)
theorem own_made (O : TxOk prog w fld okV D) (T : Txt prog K mg C fI fld D) {v : Value} (hv : okV v) (X : K.In s.heap) (hlim : s.heap.NoLimit) (G : s.heap.Ns mainGlobals mg) (B : ∃ mb, s.heap.Ns builtinsNs mb ∧ ∀ x : Str, x ≠ "__name__" → mb x = bootBuiltins x)
    (hroom : A.depth + 1 < recursionLimit)
    (hq : ∀ h' tk e d, OwnMade s.heap h' e C d fld v → R (.ok (.ret (.ref e))) { s with heap := h', toks := tk }) :
    codeAny (model prog w) A (.call (.ref C) ⟨[v], []⟩) R s := by
  obtain ⟨nm, q, N, bs, bm, sn, sub, ab, col, dd, k0, k1, k2, k3, k5, hC, hbm⟩ := T.cls
  obtain ⟨hp, g, dr, tk, os⟩ := s
  have k : ∀ b o, hp.get? b = some o → ((hp.push (kdv_tup [v])).push (excO C hp.objs.size)).get? b = some o := fun b o e => Heap.get?_push_of_some _ (Heap.get?_push_of_some _ e)
  have hget : ((hp.push (kdv_tup [v])).push (excO C hp.objs.size)).get? (hp.objs.size + 1) = some (excO C hp.objs.size) := by heap_get
  have hnx : K.lookup (hp.objs.size + 1) = none := by
    cases e : K.lookup (hp.objs.size + 1) with
    | none => rfl
    | some o =>
      have z : hp.get? (hp.objs.size + 1) = some o := X _ _ e
      exact absurd (Nat.lt_of_succ_lt (Heap.lt_size z)) (Nat.lt_irrefl _)
  refine call_own F.excBase_ValueError (fun X => refsVE_contains X bm hbm) (X _ _ hC) (looks_findIn X T.iC) (fun self => bind_fn X self T.tI) (one_size v) ?_
  refine own_init (s := ⟨(hp.push (kdv_tup [v])).push (excO C hp.objs.size), g, dr, tk, os⟩) O T hv (X.keeps k) (hlim.keeps k) (G.keeps k) (by obtain ⟨mb, h1, h2⟩ := B; exact ⟨mb, h1.keeps k, h2⟩) hget hnx ?_ fun h' tk' dx t1 ⟨k', hx, dn, dne, hns⟩ => ?_
  · show A.depth + 1 < recursionLimit
    exact hroom
  · have old : ∀ b o, hp.get? b = some o → h'.get? b = some o := fun b o e => k' b o (Nat.ne_of_lt (Nat.lt_succ_of_lt (Heap.lt_size e))) (k b o e)
    have z : hp.objs.size + 1 + 1 ≤ dx := by
      first
        | (simpa only [Heap.size_push] using dn)
        | exact dn
        | (have q := dn; rw [Heap.size_push, Heap.size_push] at q; exact q)
    exact ⟨rfl, hq h' tk' (hp.objs.size + 1) dx ⟨old, Nat.le_succ _, ⟨_, _, hx, rfl, rfl, rfl, rfl⟩, Nat.le_trans (Nat.le_trans (Nat.le_succ _) (Nat.le_succ _)) z, dne, hns⟩⟩
end
end OwnX
end PySem
namespace L2
open PySem PySem.Spec PyProof.Rows
theorem relO_own {fld : Str} {v : V} {v' : Value} (r : RelV v v') (f : Str) : RelO (List.lookup f [(fld, v)]) (if f = fld then some v' else none) := by
  by_cases hw : f = fld
  · subst hw
    rw [if_pos rfl]
    have q : List.lookup f [(f, v)] = some v := by simp [List.lookup]
    rw [q]
    exact r
  · rw [if_neg hw]
    have qw : (f == fld) = false := by simpa using hw
    have q2 : List.lookup f [(fld, v)] = none := by simp [List.lookup, qw]
    rw [q2]
    trivial
section
variable {X : Cx} {C fI : Addr} {fld : Str} {okV : Value → Prop} {D : PySem.OwnX.Tx}
/-- X(e), X such a class -/
def tMkOwn (C : Addr) (fld : Str) (okV : Value → Prop) (ta : TA) : St → Hp → XK → Prop := fun σ H Q => ta σ H fun vs H1 => ∃ v, vs = [v] ∧ (∀ u, RelV v u → okV u) ∧ ∀ d, H1 d = none → Q (.ref C) (some d) (upd H1 d (.xd [(fld, v)]))
theorem pmk_ownI {x : Str} {a : Expr} {ta : TA} {p pos : Pos} {k : Nat} (O : PySem.OwnX.TxOk X.prog X.w fld okV D) (T : PySem.OwnX.Txt X.prog X.K X.mg C fI fld D) (gC : X.mg x = some (.ref C)) (hr : Room k X.A) (ha : PA X [a] ta) (hg : Gl X x) (hdb : (x == ("__debug__" : Str)) = false := by decide)
    (he : starEach (a :: []) X.env = (false, eval a X.env) :: starEach [] X.env := by rfl) (hpl : (backTo pos (starEach [] X.env)).any (·.1) = false := by rfl) :
    PMk X (.Call (.Name x p) [a] [] pos) (tMkOwn C fld okV ta) := by
  intro pins s σ H Q I h
  refine wpAny_Call_Name_kw (ld_glob I hg gC ?_ hdb)
  refine PySem.W.callWith_K (h₀ := X.base) I.ok.mod.kin T.kC (thn (ha.run pos pins s σ H _ I h) fun us s1 hh => ?_) he hpl
  obtain ⟨vs, H1, I1, r1, v, ev, hok, q1⟩ := hh
  subst ev
  refine ⟨I1.kIn, ?_⟩
  cases r1 with
  | cons rv rn =>
    rename_i v' us'
    cases rn
    show wpAny _ _ (call (.ref C) [v']) _ _ _
    have hlim := I1.nolimit
    have G1 := I1.mod.glob.keeps I1.bk
    have B1 : ∃ mb, s1.heap.Ns builtinsNs mb ∧ ∀ x : Str, x ≠ "__name__" → mb x = bootBuiltins x := by
      obtain ⟨mb, h1, h2⟩ := I1.mod.blt
      exact ⟨mb, h1.keeps I1.bk, h2⟩
    obtain ⟨hp, g, dr, tk, os⟩ := s1
    refine wpAny_call (PySem.OwnX.own_made O T (hok _ rv) I1.kIn hlim G1 B1 (by have := hr.dp; omega) fun h' tk' e d M => ?_)
    show MkP X pins σ Q (.ref e) ⟨h', g, dr, tk', os⟩
    obtain ⟨oe, fv, hoe, hc, hd, hdat, h1⟩ := M.obj
    have hns := M.ns
    obtain ⟨G', g1, g2⟩ := restrict h' fun b => decide (b ≠ e)
    have gk : ∀ b, b ≠ e → G'.get? b = h'.get? b := fun b hb => g1 b (decide_eq_true hb)
    have ge : G'.get? e = none := g2 e (by simp)
    have old : ∀ b o, hp.get? b = some o → G'.get? b = some o := fun b o q => (gk b (Nat.ne_of_lt (Nat.lt_of_lt_of_le (Heap.lt_size q) M.new))).trans (M.keep b o q)
    have ob : ObjOk X.prog X.w (upd H1 d (.xd [(fld, v)])) G' d (.xd [(fld, v)]) :=
      ⟨_, hns.at (fun o q => (gk d M.dne).trans q), fun f => relO_own rv f⟩
    have J : Inv X pins σ (upd H1 d (.xd [(fld, v)])) ⟨G', g, dr, tk', os⟩ := I1.laid (t' := tk') old M.dbig ob
    refine ⟨e, oe, fv, ⟨G', g, dr, tk', os⟩, _, .ref C, some d, rfl, J, fun b o q => ?_, ge, hoe, ⟨hc, hd⟩, hdat, h1, ?_, rfl, I1.bare, raises_own T.exC T.tyC, q1 d (I1.hok.fresh M.dbig)⟩
    · by_cases hb : b = e
      · have q' : G'.get? b = some o := q
        rw [hb, ge] at q'; cases q'
      · exact (gk b hb).symm.trans q
    · rw [upd_ne (Ne.symm M.dne)]
      exact I1.hok.fresh M.new
/-- raise X(e) -/
def tRaiseOwn (C : Addr) (fld : Str) (okV : Value → Prop) (W : WX) (ta : TA) : TS := fun _ σ H => tMkOwn C fld okV ta σ H fun cls d H' => W cls d σ H'
theorem ps_raiseOwn {x : Str} {a : Expr} {ta : TA} {W : WX} {p pos pos2 : Pos} {k : Nat} (hc : X.calm = true) (O : PySem.OwnX.TxOk X.prog X.w fld okV D) (T : PySem.OwnX.Txt X.prog X.K X.mg C fI fld D) (gC : X.mg x = some (.ref C)) (hr : Room k X.A) (tk : Takes X W) (ha : PA X [a] ta) (hg : Gl X x := by rfl)
    (hdb : (x == ("__debug__" : Str)) = false := by decide) (he : starEach (a :: []) X.env = (false, eval a X.env) :: starEach [] X.env := by rfl) (hpl : (backTo pos (starEach [] X.env)).any (·.1) = false := by rfl) :
    PS X (.Raise (some (.Call (.Name x p) [a] [] pos)) none pos2) (tRaiseOwn C fld okV W ta) := ps_raise hc tk (pmk_ownI O T gC hr ha hg hdb he hpl)
end
end L2
end

section
/-! try: body, several clauses, each: except X as n. -/
namespace CLg
open PySem PySem.Spec PyProof.Rows L2
abbrev Sx := L2.St
/-- what a suite's end leads to: its name has gone -/
def goneD (i : Nat) (D : Ends) : Ends where
  nx := fun st hh => D.nx (st.set i none) hh
  rt := D.rt
  bk := fun st hh => D.bk (st.set i none) hh
  ct := fun st hh => D.ct (st.set i none) hh
/-- a clause: the class it names, its name's slot, its suite's reading -/
abbrev Clause := Value × Nat × (Addr → Value → Option Addr → TS)
/-- what the clauses, from the first on, ask of an exception -/
def wClauses (K : PySem.W.Frag) (Wout : WX) (D : Ends) : List Clause → WX
  | [] => Wout
  | k :: r => fun cls d st hh => ∃ b, PySem.W.exmOne K cls k.1 = some b ∧
      (b = true → ∀ a, hh a = none → k.2.2 a cls d (goneD k.2.1 D) (st.set k.2.1 (some (.ref a))) hh) ∧ (b = false → wClauses K Wout D r cls d st hh)
/-- the clauses' judgement -/
inductive ClausesOk (X : Cx) : List ExceptHandler → List Clause → Prop
  | done : ClausesOk X [] []
  | more {x n : Str} {c : Value} {i : Nat} {ts : Addr → Value → Option Addr → TS} {st : Stmt} {sts : List Stmt} {p1 p2 : Pos} {hds : List ExceptHandler} {l : List Clause}
      (names : Names X x c) (slot : X.N[i]? = some n) (loc : X.env.kindOf n = some .local)
      (suite : ∀ (a : Addr) (oe : Obj) (cls : Value) (d : Option Addr) (pn : List (Addr × Obj)), Zc cls d oe → (∃ vs, oe.data = .fields vs) → PSs (X.suite a ((a, oe) :: pn)) (st :: sts) (ts a cls d))
      (rest : ClausesOk X hds l) : ClausesOk X (.ExceptHandler (some (.Name x p1)) (some n) (st :: sts) p2 :: hds) ((c, i, ts) :: l)
/-- an exception of the class cls at a lies ahead of the clauses of X's own try, in the state s; sI: the state without it, B: its ground -/
structure Lies (X : Cx) (pins : List (Addr × Obj)) (a : Addr) (cls : Value) (d : Option Addr) (st : Sx) (hh : Hp) (B : Heap) (sI s : Shared) : Prop where
  inv : Inv X pins st hh sI
  gr : ∀ b o, sI.heap.get? b = some o → b ∉ frs X.stack → B.get? b = some o
  up : sI.heap.UpToSlots s.heap
  fl : HandSPX.FlyingZ B X.stack a (Zc cls d) s.heap
  na : hh a = none
  os : s.os = sI.os
  ag : AllBare s.gens
section
variable {X : Cx} {pins : List (Addr × Obj)} {a : Addr} {cls : Value} {d : Option Addr} {st : Sx} {hh : Hp} {B : Heap} {sI s : Shared} {D : Ends} {Wout : WX}
theorem Lies.here (z : Lies X pins a cls d st hh B sI s) : Inv X pins st hh s := z.inv.landed z.gr z.fl.1 z.up z.os z.ag
/-- a record is no frame -/
theorem Lies.off (z : Lies X pins a cls d st hh B sI s) : a ∉ frs X.stack := by
  obtain ⟨oe, vs, e, _, dat⟩ := z.fl.there
  intro m
  obtain ⟨_, o, e', nf⟩ := z.fl.2.2.1.mem m
  rw [e] at e'
  cases e'
  exact nf vs dat
theorem Lies.ready (z : Lies X pins a cls d st hh B sI s) (hs : X.stack = X.env :: X.outer) (hf : X.env.frame = some X.env.locals) :
    ∃ oe, Zc cls d oe ∧ (∃ vs, oe.data = .fields vs) ∧ s.heap.get? a = some oe ∧ Inv (X.suite a ((a, oe) :: (X.pn ++ pins))) [] st hh s := by
  obtain ⟨oe, vs, e, zc, dat⟩ := z.fl.there
  have off := z.off
  rw [hs] at off
  have n1 : a ≠ X.env.locals := fun q => off (List.mem_filterMap.mpr ⟨X.env, .head _, by rw [hf, q]⟩)
  have n2 : a ∉ X.fs := fun m => by
    obtain ⟨en, hm, q⟩ := List.mem_filterMap.mp m
    exact off (List.mem_filterMap.mpr ⟨en, .tail _ hm, q⟩)
  exact ⟨oe, zc, ⟨vs, dat⟩, e, z.here.suite e dat z.na n1 n2⟩
/-- no clause is left: it flies on -/
theorem Lies.out (z : Lies X pins a cls d st hh B sI s) (hf : X.env.frame = some X.env.locals) (tk : Takes X Wout) (q : Wout cls d st hh) {Q : Flow → Shared → Prop} : wpAny (model X.prog X.w) X.A (handleBy (.ref a) X.env []) Q X.xe s := by
  refine wpAny_handleBy_nil ?_
  have fl := z.fl
  obtain ⟨oe, vs, T, _, _, e, _, dat, tr, _⟩ := fl.2.2.2
  have last : wpAny (model X.prog X.w) X.A (setFlight (.ref a) X.env.frame) (fun _ s4 => wpAny (model X.prog X.w) X.A (throw (.ref a) : Sem Flow) Q X.xe s4) X.xe s := by
    rw [hf]
    refine HandSPX.setFlight_upZ fl fun h4 held up4 => wpAny_throw (tk _ _ ?_)
    exact ⟨a, B, sI, pins, st, hh, cls, d, rfl, z.inv, z.gr, z.up.trans up4, .inr (.inr held), z.na, z.os, z.ag, q⟩
  unfold PySem.passOn
  refine wpAny_bind (wpAny_field e dat tr ?_)
  have tb : (Value.ref T == Value.none) = false := rfl
  simp only [tb, Bool.false_eq_true, if_false]
  first
    | exact wpAny_bind last
    | exact wpAny_bind (wpAny_pure (wpAny_bind last))
/-- the clauses, one by one -/
theorem Lies.clauses (hs : X.stack = X.env :: X.outer) (hf : X.env.frame = some X.env.locals) (hN : X.N.Nodup) (tk : Takes X Wout) (z : Lies X pins a cls d st hh B sI s) {hds : List ExceptHandler} {l : List Clause} (k : ClausesOk X hds l) :
    wClauses X.K Wout D l cls d st hh → wpAny (model X.prog X.w) X.A (handleBy (.ref a) X.env hds) (SP X pins D) X.xe s := by
  have ok := z.inv.ok
  induction k with
  | done => exact fun q => z.out hf tk q
  | @more x n c i ts st0 sts p1 p2 hds2 l2 names slot loc suite rest ih =>
    rintro ⟨b, mt, yes, no⟩
    obtain ⟨oe, zc, _, e, S⟩ := z.ready hs hf
    refine wpAny_handleBy_cons (codeAny_handlers_test ?_) (by intro q; cases q)
    have ty : PySem.W.Looks (model X.prog X.w) s.heap (typeOf (.ref a)) cls := fun A Q E s k q => wpAny_typeOf_ref (k _ _ e) (by rw [zc.1]; exact q)
    have look := PySem.W.exm_one (M := model X.prog X.w) z.here.kIn ty mt
    have go : ∀ {Q E : Value → Shared → Prop}, Q c s → wpAny (model X.prog X.w) (X.A.mark (some (.ref a))) (eval (.Name x p1) X.env) Q E s := fun q => by
      obtain ⟨gl, db, m | ⟨m, v, nn⟩⟩ := names
      · exact ld_glob (X := X.suite a ((a, oe) :: (X.pn ++ pins))) S gl m q db
      · exact ld_blt (X := X.suite a ((a, oe) :: (X.pn ++ pins))) S gl m v q nn db
    refine go (look.here ?_)
    cases b with
    | false => exact ih (no rfl)
    | true =>
      refine codeAny_handlers_suite_as ?_
      have fl := z.fl
      rw [hs] at fl
      refine HandSPX.lands_againZ fl fun h4 fl4 up4 => ?_
      have z4 : Lies X pins a cls d st hh B sI { s with heap := h4 } := ⟨z.inv, z.gr, z.up.trans up4, by rw [hs]; exact fl4, z.na, z.os, z.ag⟩
      obtain ⟨o4, zc4, dat4, _, S4⟩ := z4.ready hs hf
      refine store_ok (X := X.suite a ((a, o4) :: (X.pn ++ pins))) (v := .ref a) S4 hN slot (.inl loc) rfl (fun s5 S5 => ?_) (.inr loc)
      refine wpAny_mono ((suite a o4 cls d (X.pn ++ pins) zc4 dat4).run [] s5 _ hh _ S5 (yes rfl a z.na)) (fun f s6 h6 => ?_) fun _ _ q => q.elim
      have leave : ∀ {st6 : Sx} {hh6 : Hp} {Q : Shared → Prop}, Inv (X.suite a ((a, o4) :: (X.pn ++ pins))) [] st6 hh6 s6 → (∀ s7, Inv X pins (st6.set i none) hh6 s7 → Q s7) →
          wpAny (model X.prog X.w) X.A (do bindName X.env n .none; unbindBehindTheSuite X.env n p2) (fun _ s7 => Q s7) X.xe s6 := fun S6 q => gone_ok (S6.unsuite ok) hN slot loc q
      rcases f with _ | _ | _ | u
      · obtain ⟨st6, hh6, S6, q6⟩ := h6
        exact leave S6 fun s7 J7 => ⟨_, _, J7, q6⟩
      · obtain ⟨st6, hh6, S6, q6⟩ := h6
        exact leave S6 fun s7 J7 => ⟨_, _, J7, q6⟩
      · obtain ⟨st6, hh6, S6, q6⟩ := h6
        exact leave S6 fun s7 J7 => ⟨_, _, J7, q6⟩
      · obtain ⟨v6, st6, hh6, S6, r6, q6⟩ := h6
        exact leave S6 fun s7 J7 => ⟨_, _, _, J7, r6, q6⟩
end
section
variable {X : Cx} {body : List Stmt} {h0 : ExceptHandler} {hds : List ExceptHandler} {l : List Clause} {pos : Pos} {tb : WX → TS} {Wout : WX}
theorem ps_tryClauses (hs : X.stack = X.env :: X.outer) (hf : X.env.frame = some X.env.locals) (hN : X.N.Nodup) (tk : Takes X Wout)
    (hb : ∀ (W : WX) (pn : List (Addr × Obj)) (xe : Value → Shared → Prop), Takes (X.tr pn xe) W → PassesOwn (model X.prog X.w) X.A X.env xe → PSs (X.tr pn xe) body (tb W))
    (hk : ClausesOk X (h0 :: hds) l) : PS X (.Try body (h0 :: hds) [] [] pos) (fun D st hh => tb (wClauses X.K Wout D l) D st hh) := by
  refine ⟨fun pins s st hh D I h => wpAny_Try_except ?_⟩
  have ok := I.ok
  let catch_ : Value → Shared → Prop := fun e s1 => wpAny (model X.prog X.w) X.A (noteFrame e X.env) (fun _ s2 => wpAny (model X.prog X.w) X.A (setFlight e none) (fun _ s3 =>
    wpAny (model X.prog X.w) X.A (handleBy e X.env (h0 :: hds)) (SP X pins D) X.xe s3) X.xe s2) X.xe s1
  have took : Takes (X.tr (X.pn ++ pins) catch_) (wClauses X.K Wout D l) := by
    rintro u s' ⟨a, B, sI, pins', st', hh', cls, d, rfl, J, gr, up, sky, na, os, ag, q⟩
    have J' : Inv X pins st' hh' sI := J.ofTry ok
    have sky' : Sky B (X.env :: X.outer) a (Zc cls d) X.env.locals s'.heap := by rw [← hs]; exact sky
    show wpAny (model X.prog X.w) X.A (noteFrame (.ref a) X.env) _ _ _
    refine Sky.land Zc.steady (by rw [ok.frames, hs]) hf sky' fun h3 fl3 up3 => ?_
    exact Lies.clauses hs hf hN tk (s := { s' with heap := h3 }) ⟨J', gr, up.trans up3, by rw [hs]; exact fl3, na, os, ag⟩ hk q
  refine wpAny_mono ((hb (wClauses X.K Wout D l) (X.pn ++ pins) catch_ took PassesOwn.looking).run [] s st hh D (I.toTry _) h) (fun f s1 h1 => ?_) fun _ _ z => z
  rcases f with _ | _ | _ | u
  · obtain ⟨st', hh', J, q⟩ := h1
    exact wpAny_execs_nil ⟨st', hh', J.ofTry ok, q⟩
  · obtain ⟨st', hh', J, q⟩ := h1
    exact ⟨st', hh', J.ofTry ok, q⟩
  · obtain ⟨st', hh', J, q⟩ := h1
    exact ⟨st', hh', J.ofTry ok, q⟩
  · obtain ⟨v, st', hh', J, r, q⟩ := h1
    exact ⟨v, st', hh', J.ofTry ok, r, q⟩
end
end CLg
end

section
/-! The text by places, the head's own hook, the facts of the written part, each by a name (printed by wip/genfacts.py). -/
namespace CLg
open PySem PySem.Spec PyProof.Rows L2
abbrev Kf := PySem.W.Frag
def top (i : Nat) : Stmt := PySem.Challenge.pw_carrylog_k31_whole_segment_places.main.body.getD i (.Pass ⟨0, 0, 0, 0⟩)
abbrev x_f_at_least : Stmt := top 11
abbrev x_f_at_most : Stmt := top 12
abbrev x_f_good_key : Stmt := top 13
abbrev x_l_init : Stmt := inClass (top 15) 0
abbrev x_l_head_segment : Stmt := inClass (top 15) 1
abbrev x_l_alive : Stmt := inClass (top 15) 2
abbrev x_l_is_closed : Stmt := inClass (top 15) 3
abbrev x_l_unwritten : Stmt := inClass (top 15) 4
abbrev x_l_room_left : Stmt := inClass (top 15) 5
abbrev x_l_spot_of : Stmt := inClass (top 15) 6
abbrev x_l_can_carry : Stmt := inClass (top 15) 7
abbrev x_l_append_key : Stmt := inClass (top 15) 8
abbrev x_l_kill_at : Stmt := inClass (top 15) 9
abbrev x_l_carry_from : Stmt := inClass (top 15) 10
abbrev x_l_copied : Stmt := inClass (top 15) 11
abbrev x_f_append_or_stall : Stmt := top 16
abbrev x_s_init : Stmt := inClass (top 17) 0
abbrev x_s_segments : Stmt := inClass (top 17) 1
abbrev x_s_size : Stmt := inClass (top 17) 2
abbrev x_s_limit : Stmt := inClass (top 17) 3
abbrev x_s_budget : Stmt := inClass (top 17) 4
abbrev x_s_late : Stmt := inClass (top 17) 5
abbrev x_s_head : Stmt := inClass (top 17) 6
abbrev x_s_room : Stmt := inClass (top 17) 7
abbrev x_s_done : Stmt := inClass (top 17) 8
abbrev x_s_carried : Stmt := inClass (top 17) 9
abbrev x_s_last_wait : Stmt := inClass (top 17) 10
abbrev x_s_check_segment : Stmt := inClass (top 17) 15
abbrev x_s_written : Stmt := inClass (top 17) 16
abbrev x_s_living : Stmt := inClass (top 17) 17
abbrev x_s_freed : Stmt := inClass (top 17) 18
abbrev x_s_closed : Stmt := inClass (top 17) 19
abbrev x_s_picture : Stmt := inClass (top 17) 21
abbrev x_s_summary : Stmt := inClass (top 17) 22
abbrev x_s_put : Stmt := inClass (top 17) 23
abbrev x_s_delete : Stmt := inClass (top 17) 24
abbrev x_f_law_is_integer : Stmt := top 19
abbrev x_f_law_box : Stmt := top 20
abbrev x_f_law_draw : Stmt := top 21
abbrev x_f_law_terms : Stmt := top 22
abbrev x_f_law_key : Stmt := top 23
abbrev x_f_law_names : Stmt := top 24
abbrev x_f_law_next : Stmt := top 25
abbrev x_f_law_model : Stmt := top 26
abbrev x_f_law_copy : Stmt := top 27
abbrev x_f_law_alive : Stmt := top 28
abbrev x_f_law_shut : Stmt := top 29
abbrev x_f_law_empty : Stmt := top 30
abbrev x_f_law_room : Stmt := top 31
abbrev x_f_law_write : Stmt := top 32
abbrev x_f_law_kill : Stmt := top 33
abbrev x_f_law_find : Stmt := top 34
abbrev x_f_law_move : Stmt := top 35
abbrev x_f_law_begin : Stmt := top 36
abbrev x_f_law_put : Stmt := top 37
abbrev x_f_law_drop : Stmt := top 38
abbrev x_f_law_picks : Stmt := top 39
abbrev x_f_law_call : Stmt := top 40
abbrev x_f_law_told_put : Stmt := top 41
abbrev x_f_law_told_drop : Stmt := top 42
abbrev x_f_law_numbers_are : Stmt := top 43
abbrev x_f_law_shown : Stmt := top 44
abbrev x_f_law_picture_is : Stmt := top 45
abbrev x_f_law_summary_is : Stmt := top 46
abbrev x_f_law_counters_hold : Stmt := top 47
abbrev x_f_law_terms_hold : Stmt := top 48
abbrev x_f_law_lists_hold : Stmt := top 49
abbrev x_f_law_places_hold : Stmt := top 50
abbrev x_f_law_turn : Stmt := top 51
abbrev x_f_law_store : Stmt := top 52
abbrev x_f_law : Stmt := top 53
abbrev x_KeyLimit : Stmt := inClass (top 4) 0
abbrev x_UnknownKey : Stmt := inClass (top 5) 0
abbrev x_BadChoice : Stmt := inClass (top 6) 0
abbrev x_Stalled : Stmt := inClass (top 7) 0
/-! ### the hook -/
/-- a property's getter -/
def propG (K : Kf) (C : Addr) (f : Str) : Addr := match PySem.W.recIn K (He.ma K C f) "property" with
  | some (.ref g :: _) => g
  | _ => 0
structure DefX where
  at_ : Kf → Addr
  name : Str
  qual : Str
  params : Arguments
  body : List Stmt
  scope : Scope
  clo : List Str
  kwd : List (Str × V)
abbrev FnX : Type := Option (Str × Str × Arguments × FuncBody × Scope × Addr × List Str × Addr)
def fnX' (K : Kf) (a : Addr) : FnX := match K.lookup a with
  | some ⟨_, _, .func fd, _⟩ => some (fd.name, fd.qualname, fd.params, fd.body, fd.scope, fd.globals, fd.closure.map (·.1), fd.builtins)
  | _ => none
def DefX.val (d : DefX) : FnX := some (d.name, d.qual, d.params, .stmts d.body, d.scope, mainGlobals, d.clo, builtinsNs)
def DefX.ok (K : Kf) (d : DefX) : Bool := PySem.W.keepIn K (.ref (d.at_ K)) && (match K.lookup (d.at_ K) with
  | some ⟨_, _, .func fd, _⟩ => PySem.W.codeIn K fd.code d.qual && (He.dflB K fd.defaults [] && He.kwdB K fd.kwdefaults d.kwd)
  | _ => false)
theorem DefX.funD {K : Kf} {d : DefX} (e : fnX' K (d.at_ K) = d.val) (c : d.ok K = true) (hc : d.clo = []) : ∃ fd, FunD K d.name d.qual d.params d.body d.scope [] d.kwd (d.at_ K) fd := by
  obtain ⟨kp, c2⟩ := He.ba c
  unfold fnX' at e
  cases q : K.lookup (d.at_ K) with
  | none =>
    rw [q] at c2
    cases c2
  | some o =>
    obtain ⟨oc, od, dt, osl⟩ := o
    rw [q] at c2 e
    cases dt with
    | func fd =>
      obtain ⟨n1, n2, n3, n4, n5, n6, n7, n8, n9, n10, n11, n12, n13, n14, n15⟩ := fd
      have e2 : (some (n1, n2, n3, n4, n5, n6, n7.map (·.1), n15) : FnX) = some (d.name, d.qual, d.params, .stmts d.body, d.scope, mainGlobals, d.clo, builtinsNs) := e
      rw [hc] at e2
      simp only [Option.some.injEq, Prod.mk.injEq, List.map_eq_nil_iff] at e2
      obtain ⟨h1, h2, h3, h4, h5, h6, h7, h8⟩ := e2
      subst h1 h2 h3 h4 h5 h6 h7 h8
      obtain ⟨k1, k2⟩ := He.ba (show (PySem.W.codeIn K n13 d.qual && (He.dflB K n8 [] && He.kwdB K n9 d.kwd)) = true from c2)
      obtain ⟨k3, k4⟩ := He.ba k2
      exact ⟨_, ⟨oc, od, n8, n9, n10, n11, n12, n13, n14, osl, rfl, q, k1, He.dflB_ok k3, He.kwdB_ok k4⟩, kp⟩
    | _ => cases c2
/-- a def over the cell __class__ alone -/
theorem DefX.funC {K : Kf} {d : DefX} (e : fnX' K (d.at_ K) = d.val) (c : d.ok K = true) (hc : d.clo = [("__class__" : Str)]) :
    ∃ (cc : Addr) (oc kV doc pm cdv ct : Value) (od an : Option Addr) (osl : Array (Option Value)), K.lookup (d.at_ K) = some ⟨oc, od, .func (PySem.W.ksFn d.name d.qual d.params d.body d.scope .none kV doc pm an cdv ct cc), osl⟩ := by
  obtain ⟨kp, c2⟩ := He.ba c
  unfold fnX' at e
  cases q : K.lookup (d.at_ K) with
  | none =>
    rw [q] at e
    cases e
  | some o =>
    obtain ⟨oc, od, dt, osl⟩ := o
    rw [q] at e c2
    cases dt with
    | func fd =>
      obtain ⟨n1, n2, n3, n4, n5, n6, n7, n8, n9, n10, n11, n12, n13, n14, n15⟩ := fd
      have e2 : (some (n1, n2, n3, n4, n5, n6, n7.map (·.1), n15) : FnX) = some (d.name, d.qual, d.params, .stmts d.body, d.scope, mainGlobals, d.clo, builtinsNs) := e
      rw [hc] at e2
      simp only [Option.some.injEq, Prod.mk.injEq] at e2
      obtain ⟨h1, h2, h3, h4, h5, h6, h7, h8⟩ := e2
      subst h1 h2 h3 h4 h5 h6 h8
      match n7, h7 with
      | [(y, cc)], h7 =>
        have ey : y = "__class__" := (List.cons.inj h7).1
        subst ey
        obtain ⟨k1, k2⟩ := He.ba (show (PySem.W.codeIn K n13 d.qual && (He.dflB K n8 [] && He.kwdB K n9 d.kwd)) = true from c2)
        obtain ⟨k3, k4⟩ := He.ba k2
        have n8n : n8 = .none := (He.dflB_ok k3).elim And.right fun z => absurd rfl z.1
        subst n8n
        exact ⟨cc, oc, n9, n10, n11, n13, n14, od, n12, osl, rfl⟩
      | [], h7 => cases h7
      | _ :: _ :: _, h7 => cases (List.cons.inj h7).2
    | _ => cases e
/-- the class of an own exception, over ValueError -/
def clsB (K : Kf) (C : Addr) : Bool := match K.lookup C with
  | some ⟨.type c, _, .cls cd, sl⟩ => decide (c = "type") && (match cd.mro, sl.toList with
    | .ref C' :: bm, [_, _, _, _, some (.builtin n), _] => C' == C && (n == "ValueError.__new__" && (!cd.hasDel && (cd.hasDict && PySem.HandSPX.refsVE bm)))
    | _, _ => false)
  | _ => false
theorem clsB_ok {K : Kf} {C : Addr} (h : clsB K C = true) : ∃ nm q N bs bm sn sub ab col dd k0 k1 k2 k3 k5, K.lookup C = some (excClassObj nm q C N bs bm true sn sub ab col dd k0 k1 k2 k3 k5 "ValueError.__new__") ∧ PySem.HandSPX.refsVE bm = true := by
  unfold clsB at h
  split at h
  · rename_i c dd cd sl ho
    obtain ⟨h1, h2⟩ := He.ba h
    split at h2
    · rename_i C' bm k0 k1 k2 k3 n k5 hm hs
      simp only [Bool.and_eq_true, beq_iff_eq, Bool.not_eq_true'] at h2
      obtain ⟨rfl, rfl, hdel, hdct, hr⟩ := h2
      obtain ⟨nm, bs, mro, ns, qn, hd, sn, sub, ab, col, del⟩ := cd
      dsimp only at hm hdel hdct
      subst hm hdel hdct
      have hsl : sl = #[k0, k1, k2, k3, some (.builtin "ValueError.__new__"), k5] := by
        obtain ⟨l⟩ := sl
        simp only at hs
        rw [hs]
      subst hsl
      have h3 := of_decide_eq_true h1
      subst h3
      exact ⟨nm, qn, ns, bs, bm, sn, sub, ab, col, dd, k0, k1, k2, k3, k5, ho, hr⟩
    · cases h2
  · cases h
/-- an own exception's __init__: its code and its cell -/
def cellB (K : Kf) (C f : Addr) (qual file : Str) : Bool := match K.lookup f with
  | some ⟨_, _, .func fd, _⟩ => (match fd.closure, fd.code with
    | [(_, cc)], .ref cda => PySem.W.codeIn K (.ref cda) qual && ((match K.lookup cda with
      | some ⟨_, _, .fields vs, _⟩ => (match vs[2]? with
        | some (Value.str z _) => file == z
        | _ => false)
      | _ => false) && (match K.lookup cc with
      | some ⟨_, _, .cell (some (.ref C')), _⟩ => C' == C
      | _ => false))
    | _, _ => false)
  | _ => false
theorem cellB_ok {K : Kf} {C f cc : Addr} {qual file : Str} {name q2 : Str} {params : Arguments} {body : List Stmt} {scope : Scope} {oc kV doc pm cdv ct : Value} {od an : Option Addr} {osl : Array (Option Value)}
    (lk : K.lookup f = some ⟨oc, od, .func (PySem.W.ksFn name q2 params body scope dV kV doc pm an cdv ct cc), osl⟩) (h : cellB K C f qual file = true) :
    ∃ (cda : Addr) (ccl : Value) (cdd : Option Addr) (vs : Array Value) (ccs : Array (Option Value)) (z : Str) (tf : Tok) (cl : Value) (cld : Option Addr) (csl : Array (Option Value)), cdv = .ref cda ∧ PySem.W.codeIn K (.ref cda) qual = true ∧
      K.lookup cda = some ⟨ccl, cdd, .fields vs, ccs⟩ ∧ vs[2]? = some (.str z tf) ∧ (file == z) = true ∧ K.lookup cc = some ⟨cl, cld, .cell (some (.ref C)), csl⟩ := by
  unfold cellB at h
  rw [lk] at h
  cases cdv with
  | ref cda =>
    obtain ⟨h1, h2⟩ := He.ba (show (PySem.W.codeIn K (.ref cda) qual && ((match K.lookup cda with
      | some ⟨_, _, .fields vs, _⟩ => (match vs[2]? with
        | some (Value.str z _) => file == z
        | _ => false)
      | _ => false) && (match K.lookup cc with
      | some ⟨_, _, .cell (some (.ref C')), _⟩ => C' == C
      | _ => false))) = true from h)
    obtain ⟨h3, h4⟩ := He.ba h2
    split at h3
    · rename_i ccl cdd vs ccs lc
      split at h3
      · rename_i z tf hz
        split at h4
        · rename_i cl cld C' csl lcc
          have e := eq_of_beq h4
          subst e
          exact ⟨cda, ccl, cdd, vs, ccs, z, tf, cl, cld, csl, rfl, h1, lc, hz, h3, lcc⟩
        · cases h4
      · cases h3
    · cases h3
  | _ => cases h
def oo (a b : Option (Option Value)) : Bool := decide (a = b)
def ob (a : Option Bool) : Bool := decide (a = some true)
/-- the facts of one exception's class -/
def excB (K : Kf) (x fld : Str) (file : Str) (qual : Str) : Bool :=
  clsB K (He.ga K x) && (oo (PySem.W.findIn K (.ref (He.ga K x)) "__setattr__") (some (some (.builtin "object.__setattr__"))) && (oo (PySem.W.findIn K (.ref (He.ga K x)) "__getattribute__") (some (some (.builtin "BaseException.__getattribute__"))) &&
  (oo (PySem.W.findIn K (.ref (He.ga K x)) "__getattr__") (some none) && (oo (PySem.W.findIn K (.ref (He.ga K x)) fld) (some none) && (PySem.W.keepIn K (.ref (He.ga K x)) && (ob (PySem.W.subIn K (.ref (He.ga K x)) (.type "BaseException")) &&
  (ob (PySem.W.subIn K (.ref (He.ga K x)) (.type "ValueError")) && (decide (PySem.W.typeIn K (.ref (He.ga K x)) = some (.type "type")) && (PySem.W.hasDictIn K (He.ga K x) && (oo (PySem.W.nsIn K cStatics "thirdparty.any") (some none) &&
  (oo (PySem.W.ks_superIn K (He.ga K x) (He.ga K x) "__init__") (some (some (.builtin "ValueError.__init__"))) && (ob (PySem.W.mroIn K (He.ga K x) (.ref (He.ga K x))) && (oo (PySem.W.findIn K (.ref (He.ga K x)) "__init__") (some (some (.ref (He.ma K (He.ga K x) "__init__")))) &&
  (decide (PySem.W.typeIn K (.ref (He.ma K (He.ga K x) "__init__")) = some (.type "function")) && cellB K (He.ga K x) (He.ma K (He.ga K x) "__init__") qual file))))))))))))))
/-- a property -/
def propB (K : Kf) (C : Addr) (f : Str) : Bool := oo (PySem.W.findIn K (.ref C) f) (some (some (.ref (He.ma K C f)))) && (oo (PySem.W.specialIn K (.ref (He.ma K C f)) "__get__") (some (some (.builtin "property.__get__"))) &&
  (ob (PySem.W.takesIn K (.ref (He.ma K C f))) && (match PySem.W.recIn K (He.ma K C f) "property" with
  | some (.ref _ :: _) => true
  | _ => false)))
theorem propB_ok {K : Kf} {C : Addr} {f : Str} (h : propB K C f = true) : PropOf K C f (He.ma K C f) (propG K C f) := by
  obtain ⟨h1, h2⟩ := He.ba h
  obtain ⟨h3, h4⟩ := He.ba h2
  obtain ⟨h5, h6⟩ := He.ba h4
  refine ⟨of_decide_eq_true h1, of_decide_eq_true h3, of_decide_eq_true h5, ?_⟩
  unfold propG
  split at h6
  · rename_i g r e
    rw [e]
    exact ⟨r, rfl⟩
  · cases h6
def asX (g : Addr → Option Obj) (n : Nat) : List Addr := cStatics :: He.asD g n
abbrev AlX : Type := Bool × List FnX
def obsX (fa : List (Kf → Bool)) (fn : List DefX) (K : Kf) : AlX := ((fa.all fun f => f K) && fn.all fun d => d.ok K, fn.map fun d => fnX' K (d.at_ K))
def valX (fn : List DefX) : AlX := (true, fn.map DefX.val)
def SaysX (fa : List (Kf → Bool)) (fn : List DefX) (K : Kf) : Prop := obsX fa fn K = valX fn
def obsXG (n : Nat) (fa : List (Kf → Bool)) (fn : List DefX) (g : Addr → Option Obj) : AlX := obsX fa fn (He.frG g (asX g n))
def hookX (n : Nat) (fa : List (Kf → Bool)) (fn : List DefX) : PySem.W.Hook where
  α := AlX
  obs := fun s => obsXG n fa fn s.heap.get?
  val := fun _ => valX fn
  says := fun _ h => ∃ K : Kf, K.In h ∧ SaysX fa fn K
  of := fun _ _ e => ⟨_, He.frG_in, e⟩
  keeps := fun _ _ _ ⟨K, hK, c⟩ k => ⟨K, PySem.W.Frag.In.keeps hK k, c⟩
theorem obsXG_eq {n : Nat} {fa : List (Kf → Bool)} {fn : List DefX} {g : Addr → Option Obj} {s : Shared} (h : ∀ a, g a = s.heap.get? a) : obsXG n fa fn g = (hookX n fa fn).obs s := by
  have e : g = s.heap.get? := funext h
  rw [e] <;> rfl
section
variable {fa : List (Kf → Bool)} {fn : List DefX} {K : Kf}
theorem SaysX.fact (c : SaysX fa fn K) (i : Nat) {f : Kf → Bool} (h : fa[i]? = some f := by rfl) : f K = true := by
  have c1 := (He.ba (show ((fa.all fun f => f K) && fn.all fun d => d.ok K) = true from congrArg (fun z : AlX => z.1) c)).1
  exact List.all_eq_true.mp c1 f (List.mem_of_getElem? h)
theorem SaysX.def_ (c : SaysX fa fn K) (i : Nat) {d : DefX} (h : fn[i]? = some d := by rfl) : fnX' K (d.at_ K) = d.val ∧ d.ok K = true := by
  have c2 := (He.ba (show ((fa.all fun f => f K) && fn.all fun d => d.ok K) = true from congrArg (fun z : AlX => z.1) c)).2
  have e : fn.map (fun d => fnX' K (d.at_ K)) = fn.map DefX.val := congrArg (fun z : AlX => z.2) c
  have e2 : (fn.map fun d => fnX' K (d.at_ K))[i]? = (fn.map DefX.val)[i]? := by rw [e]
  rw [List.getElem?_map, List.getElem?_map, h] at e2
  exact ⟨Option.some.inj e2, List.all_eq_true.mp c2 d (List.mem_of_getElem? h)⟩
end
/-! ### the facts -/
abbrev cL (K : Kf) : Addr := He.ga K "SegmentLog"
abbrev cS (K : Kf) : Addr := He.ga K "Segments"
def fa0 : List (Kf → Bool) := [fun K => He.Fa.ok K (.glo "StoreError"),
  fun K => He.Fa.ok K (.glo "InvalidInput"),
  fun K => He.Fa.ok K (.glo "KeyLimit"),
  fun K => He.Fa.ok K (.glo "UnknownKey"),
  fun K => He.Fa.ok K (.glo "BadChoice"),
  fun K => He.Fa.ok K (.glo "Stalled"),
  fun K => He.Fa.ok K (.glo "at_least"),
  fun K => He.Fa.ok K (.glo "at_most"),
  fun K => He.Fa.ok K (.glo "good_key"),
  fun K => He.Fa.ok K (.glo "SegmentLog"),
  fun K => He.Fa.ok K (.glo "_append_or_stall"),
  fun K => He.Fa.ok K (.glo "Segments"),
  fun K => He.Fa.ok K (.glo "_law_is_integer"),
  fun K => He.Fa.ok K (.glo "_law_box"),
  fun K => He.Fa.ok K (.glo "_law_draw"),
  fun K => He.Fa.ok K (.glo "_law_terms"),
  fun K => He.Fa.ok K (.glo "_law_key"),
  fun K => He.Fa.ok K (.glo "_law_names"),
  fun K => He.Fa.ok K (.glo "_law_next"),
  fun K => He.Fa.ok K (.glo "_law_model"),
  fun K => He.Fa.ok K (.glo "_law_copy"),
  fun K => He.Fa.ok K (.glo "_law_alive"),
  fun K => He.Fa.ok K (.glo "_law_shut"),
  fun K => He.Fa.ok K (.glo "_law_empty"),
  fun K => He.Fa.ok K (.glo "_law_room"),
  fun K => He.Fa.ok K (.glo "_law_write"),
  fun K => He.Fa.ok K (.glo "_law_kill"),
  fun K => He.Fa.ok K (.glo "_law_find"),
  fun K => He.Fa.ok K (.glo "_law_move"),
  fun K => He.Fa.ok K (.glo "_law_begin")]
def fa1 : List (Kf → Bool) := [fun K => He.Fa.ok K (.glo "_law_put"),
  fun K => He.Fa.ok K (.glo "_law_drop"),
  fun K => He.Fa.ok K (.glo "_law_picks"),
  fun K => He.Fa.ok K (.glo "_law_call"),
  fun K => He.Fa.ok K (.glo "_law_told_put"),
  fun K => He.Fa.ok K (.glo "_law_told_drop"),
  fun K => He.Fa.ok K (.glo "_law_numbers_are"),
  fun K => He.Fa.ok K (.glo "_law_shown"),
  fun K => He.Fa.ok K (.glo "_law_picture_is"),
  fun K => He.Fa.ok K (.glo "_law_summary_is"),
  fun K => He.Fa.ok K (.glo "_law_counters_hold"),
  fun K => He.Fa.ok K (.glo "_law_terms_hold"),
  fun K => He.Fa.ok K (.glo "_law_lists_hold"),
  fun K => He.Fa.ok K (.glo "_law_places_hold"),
  fun K => He.Fa.ok K (.glo "_law_turn"),
  fun K => He.Fa.ok K (.glo "_law_store"),
  fun K => He.Fa.ok K (.glo "law"),
  fun K => He.Fa.ok K (.free "len"),
  fun K => He.Fa.ok K (.free "range"),
  fun K => He.Fa.ok K (.free "list"),
  fun K => He.Fa.ok K (.free "int"),
  fun K => He.Fa.ok K (.free "max"),
  fun K => He.Fa.ok K (.free "min"),
  fun K => He.Fa.ok K (.free "sum"),
  fun K => He.Fa.ok K (.free "dict"),
  fun K => He.Fa.ok K (.free "isinstance"),
  fun K => He.Fa.ok K (.free "bool"),
  fun K => He.Fa.ok K (.free "str"),
  fun K => He.Fa.ok K (.free "tuple"),
  fun K => He.Fa.ok K (.free "sorted")]
def fa2 : List (Kf → Bool) := [fun K => He.Fa.ok K (.free "enumerate"),
  fun K => He.Fa.ok K (.free "super"),
  fun K => He.Fa.ok K (.int "KEY_LENGTH" 12),
  fun K => He.Fa.ok K (.str "KEY_CHARACTERS" "abcdefghijklmnopqrstuvwxyz0123456789"),
  fun K => He.Fa.ok K (.cls "SegmentLog"),
  fun K => He.Fa.ok K (.mkr "SegmentLog"),
  fun K => He.Fa.ok K (.noat "SegmentLog" "span"),
  fun K => He.Fa.ok K (.noat "SegmentLog" "rows"),
  fun K => He.Fa.ok K (.noat "SegmentLog" "turns"),
  fun K => He.Fa.ok K (.noat "SegmentLog" "frees"),
  fun K => He.Fa.ok K (.meth "SegmentLog" "head_segment"),
  fun K => He.Fa.ok K (.meth "SegmentLog" "alive"),
  fun K => He.Fa.ok K (.meth "SegmentLog" "is_closed"),
  fun K => He.Fa.ok K (.meth "SegmentLog" "unwritten"),
  fun K => He.Fa.ok K (.meth "SegmentLog" "room_left"),
  fun K => He.Fa.ok K (.meth "SegmentLog" "spot_of"),
  fun K => He.Fa.ok K (.meth "SegmentLog" "can_carry"),
  fun K => He.Fa.ok K (.meth "SegmentLog" "append_key"),
  fun K => He.Fa.ok K (.meth "SegmentLog" "kill_at"),
  fun K => He.Fa.ok K (.meth "SegmentLog" "carry_from"),
  fun K => He.Fa.ok K (.meth "SegmentLog" "copied"),
  fun K => He.Fa.ok K (.cls "Segments"),
  fun K => He.Fa.ok K (.mkr "Segments"),
  fun K => He.Fa.ok K (.noat "Segments" "_segments"),
  fun K => He.Fa.ok K (.noat "Segments" "_size"),
  fun K => He.Fa.ok K (.noat "Segments" "_limit"),
  fun K => He.Fa.ok K (.noat "Segments" "_budget"),
  fun K => He.Fa.ok K (.noat "Segments" "_late"),
  fun K => He.Fa.ok K (.noat "Segments" "_log"),
  fun K => He.Fa.ok K (.noat "Segments" "_values")]
def fa3 : List (Kf → Bool) := [fun K => He.Fa.ok K (.noat "Segments" "_done"),
  fun K => He.Fa.ok K (.noat "Segments" "_carried"),
  fun K => He.Fa.ok K (.noat "Segments" "_last_wait"),
  fun K => propB K (He.ga K "Segments") "segments",
  fun K => propB K (He.ga K "Segments") "size",
  fun K => propB K (He.ga K "Segments") "limit",
  fun K => propB K (He.ga K "Segments") "budget",
  fun K => propB K (He.ga K "Segments") "late",
  fun K => propB K (He.ga K "Segments") "head",
  fun K => propB K (He.ga K "Segments") "room",
  fun K => propB K (He.ga K "Segments") "done",
  fun K => propB K (He.ga K "Segments") "carried",
  fun K => propB K (He.ga K "Segments") "last_wait",
  fun K => He.Fa.ok K (.meth "Segments" "_check_segment"),
  fun K => He.Fa.ok K (.meth "Segments" "written"),
  fun K => He.Fa.ok K (.meth "Segments" "living"),
  fun K => He.Fa.ok K (.meth "Segments" "freed"),
  fun K => He.Fa.ok K (.meth "Segments" "closed"),
  fun K => He.Fa.ok K (.meth "Segments" "picture"),
  fun K => He.Fa.ok K (.meth "Segments" "summary"),
  fun K => He.Fa.ok K (.meth "Segments" "put"),
  fun K => He.Fa.ok K (.meth "Segments" "delete"),
  fun K => excB K "KeyLimit" "most" PySem.Challenge.pw_carrylog_k31_whole_segment_places.main.file "KeyLimit.__init__",
  fun K => excB K "UnknownKey" "key" PySem.Challenge.pw_carrylog_k31_whole_segment_places.main.file "UnknownKey.__init__",
  fun K => excB K "BadChoice" "choice" PySem.Challenge.pw_carrylog_k31_whole_segment_places.main.file "BadChoice.__init__",
  fun K => excB K "Stalled" "deeds" PySem.Challenge.pw_carrylog_k31_whole_segment_places.main.file "Stalled.__init__",
  fun K => decide (PySem.W.exmOne K (.ref (He.ga K "KeyLimit")) (.ref (He.ga K "KeyLimit")) = some true),
  fun K => decide (PySem.W.exmOne K (.ref (He.ga K "KeyLimit")) (.ref (He.ga K "UnknownKey")) = some false),
  fun K => decide (PySem.W.exmOne K (.ref (He.ga K "KeyLimit")) (.ref (He.ga K "BadChoice")) = some false),
  fun K => decide (PySem.W.exmOne K (.ref (He.ga K "KeyLimit")) (.ref (He.ga K "Stalled")) = some false)]
def fa4 : List (Kf → Bool) := [fun K => decide (PySem.W.exmOne K (.ref (He.ga K "UnknownKey")) (.ref (He.ga K "KeyLimit")) = some false),
  fun K => decide (PySem.W.exmOne K (.ref (He.ga K "UnknownKey")) (.ref (He.ga K "UnknownKey")) = some true),
  fun K => decide (PySem.W.exmOne K (.ref (He.ga K "UnknownKey")) (.ref (He.ga K "BadChoice")) = some false),
  fun K => decide (PySem.W.exmOne K (.ref (He.ga K "UnknownKey")) (.ref (He.ga K "Stalled")) = some false),
  fun K => decide (PySem.W.exmOne K (.ref (He.ga K "BadChoice")) (.ref (He.ga K "KeyLimit")) = some false),
  fun K => decide (PySem.W.exmOne K (.ref (He.ga K "BadChoice")) (.ref (He.ga K "UnknownKey")) = some false),
  fun K => decide (PySem.W.exmOne K (.ref (He.ga K "BadChoice")) (.ref (He.ga K "BadChoice")) = some true),
  fun K => decide (PySem.W.exmOne K (.ref (He.ga K "BadChoice")) (.ref (He.ga K "Stalled")) = some false),
  fun K => decide (PySem.W.exmOne K (.ref (He.ga K "Stalled")) (.ref (He.ga K "KeyLimit")) = some false),
  fun K => decide (PySem.W.exmOne K (.ref (He.ga K "Stalled")) (.ref (He.ga K "UnknownKey")) = some false),
  fun K => decide (PySem.W.exmOne K (.ref (He.ga K "Stalled")) (.ref (He.ga K "BadChoice")) = some false),
  fun K => decide (PySem.W.exmOne K (.ref (He.ga K "Stalled")) (.ref (He.ga K "Stalled")) = some true)]
def fa : List (Kf → Bool) := fa0 ++ fa1 ++ fa2 ++ fa3 ++ fa4
def d_f_at_least : DefX := ⟨fun K => He.ga K "at_least", "at_least", "at_least", defArgs x_f_at_least, defBody x_f_at_least, defScope x_f_at_least, [], []⟩
def d_f_at_most : DefX := ⟨fun K => He.ga K "at_most", "at_most", "at_most", defArgs x_f_at_most, defBody x_f_at_most, defScope x_f_at_most, [], []⟩
def d_f_good_key : DefX := ⟨fun K => He.ga K "good_key", "good_key", "good_key", defArgs x_f_good_key, defBody x_f_good_key, defScope x_f_good_key, [], []⟩
def d_l_init : DefX := ⟨fun K => He.ma K (He.ga K "SegmentLog") "__init__", "__init__", "SegmentLog.__init__", defArgs x_l_init, defBody x_l_init, defScope x_l_init, [], []⟩
def d_l_head_segment : DefX := ⟨fun K => He.ma K (He.ga K "SegmentLog") "head_segment", "head_segment", "SegmentLog.head_segment", defArgs x_l_head_segment, defBody x_l_head_segment, defScope x_l_head_segment, [], []⟩
def d_l_alive : DefX := ⟨fun K => He.ma K (He.ga K "SegmentLog") "alive", "alive", "SegmentLog.alive", defArgs x_l_alive, defBody x_l_alive, defScope x_l_alive, [], []⟩
def d_l_is_closed : DefX := ⟨fun K => He.ma K (He.ga K "SegmentLog") "is_closed", "is_closed", "SegmentLog.is_closed", defArgs x_l_is_closed, defBody x_l_is_closed, defScope x_l_is_closed, [], []⟩
def d_l_unwritten : DefX := ⟨fun K => He.ma K (He.ga K "SegmentLog") "unwritten", "unwritten", "SegmentLog.unwritten", defArgs x_l_unwritten, defBody x_l_unwritten, defScope x_l_unwritten, [], []⟩
def d_l_room_left : DefX := ⟨fun K => He.ma K (He.ga K "SegmentLog") "room_left", "room_left", "SegmentLog.room_left", defArgs x_l_room_left, defBody x_l_room_left, defScope x_l_room_left, [], []⟩
def d_l_spot_of : DefX := ⟨fun K => He.ma K (He.ga K "SegmentLog") "spot_of", "spot_of", "SegmentLog.spot_of", defArgs x_l_spot_of, defBody x_l_spot_of, defScope x_l_spot_of, [], []⟩
def d_l_can_carry : DefX := ⟨fun K => He.ma K (He.ga K "SegmentLog") "can_carry", "can_carry", "SegmentLog.can_carry", defArgs x_l_can_carry, defBody x_l_can_carry, defScope x_l_can_carry, [], []⟩
def d_l_append_key : DefX := ⟨fun K => He.ma K (He.ga K "SegmentLog") "append_key", "append_key", "SegmentLog.append_key", defArgs x_l_append_key, defBody x_l_append_key, defScope x_l_append_key, [], []⟩
def d_l_kill_at : DefX := ⟨fun K => He.ma K (He.ga K "SegmentLog") "kill_at", "kill_at", "SegmentLog.kill_at", defArgs x_l_kill_at, defBody x_l_kill_at, defScope x_l_kill_at, [], []⟩
def d_l_carry_from : DefX := ⟨fun K => He.ma K (He.ga K "SegmentLog") "carry_from", "carry_from", "SegmentLog.carry_from", defArgs x_l_carry_from, defBody x_l_carry_from, defScope x_l_carry_from, [], []⟩
def d_l_copied : DefX := ⟨fun K => He.ma K (He.ga K "SegmentLog") "copied", "copied", "SegmentLog.copied", defArgs x_l_copied, defBody x_l_copied, defScope x_l_copied, [], []⟩
def d_f_append_or_stall : DefX := ⟨fun K => He.ga K "_append_or_stall", "_append_or_stall", "_append_or_stall", defArgs x_f_append_or_stall, defBody x_f_append_or_stall, defScope x_f_append_or_stall, [], []⟩
def d_s_init : DefX := ⟨fun K => He.ma K (He.ga K "Segments") "__init__", "__init__", "Segments.__init__", defArgs x_s_init, defBody x_s_init, defScope x_s_init, [], [("late", .bl false)]⟩
def d_s_segments : DefX := ⟨fun K => propG K (He.ga K "Segments") "segments", "segments", "Segments.segments", defArgs x_s_segments, defBody x_s_segments, defScope x_s_segments, [], []⟩
def d_s_size : DefX := ⟨fun K => propG K (He.ga K "Segments") "size", "size", "Segments.size", defArgs x_s_size, defBody x_s_size, defScope x_s_size, [], []⟩
def d_s_limit : DefX := ⟨fun K => propG K (He.ga K "Segments") "limit", "limit", "Segments.limit", defArgs x_s_limit, defBody x_s_limit, defScope x_s_limit, [], []⟩
def d_s_budget : DefX := ⟨fun K => propG K (He.ga K "Segments") "budget", "budget", "Segments.budget", defArgs x_s_budget, defBody x_s_budget, defScope x_s_budget, [], []⟩
def d_s_late : DefX := ⟨fun K => propG K (He.ga K "Segments") "late", "late", "Segments.late", defArgs x_s_late, defBody x_s_late, defScope x_s_late, [], []⟩
def d_s_head : DefX := ⟨fun K => propG K (He.ga K "Segments") "head", "head", "Segments.head", defArgs x_s_head, defBody x_s_head, defScope x_s_head, [], []⟩
def d_s_room : DefX := ⟨fun K => propG K (He.ga K "Segments") "room", "room", "Segments.room", defArgs x_s_room, defBody x_s_room, defScope x_s_room, [], []⟩
def d_s_done : DefX := ⟨fun K => propG K (He.ga K "Segments") "done", "done", "Segments.done", defArgs x_s_done, defBody x_s_done, defScope x_s_done, [], []⟩
def d_s_carried : DefX := ⟨fun K => propG K (He.ga K "Segments") "carried", "carried", "Segments.carried", defArgs x_s_carried, defBody x_s_carried, defScope x_s_carried, [], []⟩
def d_s_last_wait : DefX := ⟨fun K => propG K (He.ga K "Segments") "last_wait", "last_wait", "Segments.last_wait", defArgs x_s_last_wait, defBody x_s_last_wait, defScope x_s_last_wait, [], []⟩
def d_s_check_segment : DefX := ⟨fun K => He.ma K (He.ga K "Segments") "_check_segment", "_check_segment", "Segments._check_segment", defArgs x_s_check_segment, defBody x_s_check_segment, defScope x_s_check_segment, [], []⟩
def d_s_written : DefX := ⟨fun K => He.ma K (He.ga K "Segments") "written", "written", "Segments.written", defArgs x_s_written, defBody x_s_written, defScope x_s_written, [], []⟩
def d_s_living : DefX := ⟨fun K => He.ma K (He.ga K "Segments") "living", "living", "Segments.living", defArgs x_s_living, defBody x_s_living, defScope x_s_living, [], []⟩
def d_s_freed : DefX := ⟨fun K => He.ma K (He.ga K "Segments") "freed", "freed", "Segments.freed", defArgs x_s_freed, defBody x_s_freed, defScope x_s_freed, [], []⟩
def d_s_closed : DefX := ⟨fun K => He.ma K (He.ga K "Segments") "closed", "closed", "Segments.closed", defArgs x_s_closed, defBody x_s_closed, defScope x_s_closed, [], []⟩
def d_s_picture : DefX := ⟨fun K => He.ma K (He.ga K "Segments") "picture", "picture", "Segments.picture", defArgs x_s_picture, defBody x_s_picture, defScope x_s_picture, [], []⟩
def d_s_summary : DefX := ⟨fun K => He.ma K (He.ga K "Segments") "summary", "summary", "Segments.summary", defArgs x_s_summary, defBody x_s_summary, defScope x_s_summary, [], []⟩
def d_s_put : DefX := ⟨fun K => He.ma K (He.ga K "Segments") "put", "put", "Segments.put", defArgs x_s_put, defBody x_s_put, defScope x_s_put, [], []⟩
def d_s_delete : DefX := ⟨fun K => He.ma K (He.ga K "Segments") "delete", "delete", "Segments.delete", defArgs x_s_delete, defBody x_s_delete, defScope x_s_delete, [], []⟩
def d_f_law_is_integer : DefX := ⟨fun K => He.ga K "_law_is_integer", "_law_is_integer", "_law_is_integer", defArgs x_f_law_is_integer, defBody x_f_law_is_integer, defScope x_f_law_is_integer, [], []⟩
def d_f_law_box : DefX := ⟨fun K => He.ga K "_law_box", "_law_box", "_law_box", defArgs x_f_law_box, defBody x_f_law_box, defScope x_f_law_box, [], []⟩
def d_f_law_draw : DefX := ⟨fun K => He.ga K "_law_draw", "_law_draw", "_law_draw", defArgs x_f_law_draw, defBody x_f_law_draw, defScope x_f_law_draw, [], []⟩
def d_f_law_terms : DefX := ⟨fun K => He.ga K "_law_terms", "_law_terms", "_law_terms", defArgs x_f_law_terms, defBody x_f_law_terms, defScope x_f_law_terms, [], []⟩
def d_f_law_key : DefX := ⟨fun K => He.ga K "_law_key", "_law_key", "_law_key", defArgs x_f_law_key, defBody x_f_law_key, defScope x_f_law_key, [], []⟩
def d_f_law_names : DefX := ⟨fun K => He.ga K "_law_names", "_law_names", "_law_names", defArgs x_f_law_names, defBody x_f_law_names, defScope x_f_law_names, [], []⟩
def d_f_law_next : DefX := ⟨fun K => He.ga K "_law_next", "_law_next", "_law_next", defArgs x_f_law_next, defBody x_f_law_next, defScope x_f_law_next, [], []⟩
def d_f_law_model : DefX := ⟨fun K => He.ga K "_law_model", "_law_model", "_law_model", defArgs x_f_law_model, defBody x_f_law_model, defScope x_f_law_model, [], []⟩
def d_f_law_copy : DefX := ⟨fun K => He.ga K "_law_copy", "_law_copy", "_law_copy", defArgs x_f_law_copy, defBody x_f_law_copy, defScope x_f_law_copy, [], []⟩
def d_f_law_alive : DefX := ⟨fun K => He.ga K "_law_alive", "_law_alive", "_law_alive", defArgs x_f_law_alive, defBody x_f_law_alive, defScope x_f_law_alive, [], []⟩
def d_f_law_shut : DefX := ⟨fun K => He.ga K "_law_shut", "_law_shut", "_law_shut", defArgs x_f_law_shut, defBody x_f_law_shut, defScope x_f_law_shut, [], []⟩
def d_f_law_empty : DefX := ⟨fun K => He.ga K "_law_empty", "_law_empty", "_law_empty", defArgs x_f_law_empty, defBody x_f_law_empty, defScope x_f_law_empty, [], []⟩
def d_f_law_room : DefX := ⟨fun K => He.ga K "_law_room", "_law_room", "_law_room", defArgs x_f_law_room, defBody x_f_law_room, defScope x_f_law_room, [], []⟩
def d_f_law_write : DefX := ⟨fun K => He.ga K "_law_write", "_law_write", "_law_write", defArgs x_f_law_write, defBody x_f_law_write, defScope x_f_law_write, [], []⟩
def d_f_law_kill : DefX := ⟨fun K => He.ga K "_law_kill", "_law_kill", "_law_kill", defArgs x_f_law_kill, defBody x_f_law_kill, defScope x_f_law_kill, [], []⟩
def d_f_law_find : DefX := ⟨fun K => He.ga K "_law_find", "_law_find", "_law_find", defArgs x_f_law_find, defBody x_f_law_find, defScope x_f_law_find, [], []⟩
def d_f_law_move : DefX := ⟨fun K => He.ga K "_law_move", "_law_move", "_law_move", defArgs x_f_law_move, defBody x_f_law_move, defScope x_f_law_move, [], []⟩
def d_f_law_begin : DefX := ⟨fun K => He.ga K "_law_begin", "_law_begin", "_law_begin", defArgs x_f_law_begin, defBody x_f_law_begin, defScope x_f_law_begin, [], []⟩
def d_f_law_put : DefX := ⟨fun K => He.ga K "_law_put", "_law_put", "_law_put", defArgs x_f_law_put, defBody x_f_law_put, defScope x_f_law_put, [], []⟩
def d_f_law_drop : DefX := ⟨fun K => He.ga K "_law_drop", "_law_drop", "_law_drop", defArgs x_f_law_drop, defBody x_f_law_drop, defScope x_f_law_drop, [], []⟩
def d_f_law_picks : DefX := ⟨fun K => He.ga K "_law_picks", "_law_picks", "_law_picks", defArgs x_f_law_picks, defBody x_f_law_picks, defScope x_f_law_picks, [], []⟩
def d_f_law_call : DefX := ⟨fun K => He.ga K "_law_call", "_law_call", "_law_call", defArgs x_f_law_call, defBody x_f_law_call, defScope x_f_law_call, [], []⟩
def d_f_law_told_put : DefX := ⟨fun K => He.ga K "_law_told_put", "_law_told_put", "_law_told_put", defArgs x_f_law_told_put, defBody x_f_law_told_put, defScope x_f_law_told_put, [], []⟩
def d_f_law_told_drop : DefX := ⟨fun K => He.ga K "_law_told_drop", "_law_told_drop", "_law_told_drop", defArgs x_f_law_told_drop, defBody x_f_law_told_drop, defScope x_f_law_told_drop, [], []⟩
def d_f_law_numbers_are : DefX := ⟨fun K => He.ga K "_law_numbers_are", "_law_numbers_are", "_law_numbers_are", defArgs x_f_law_numbers_are, defBody x_f_law_numbers_are, defScope x_f_law_numbers_are, [], []⟩
def d_f_law_shown : DefX := ⟨fun K => He.ga K "_law_shown", "_law_shown", "_law_shown", defArgs x_f_law_shown, defBody x_f_law_shown, defScope x_f_law_shown, [], []⟩
def d_f_law_picture_is : DefX := ⟨fun K => He.ga K "_law_picture_is", "_law_picture_is", "_law_picture_is", defArgs x_f_law_picture_is, defBody x_f_law_picture_is, defScope x_f_law_picture_is, [], []⟩
def d_f_law_summary_is : DefX := ⟨fun K => He.ga K "_law_summary_is", "_law_summary_is", "_law_summary_is", defArgs x_f_law_summary_is, defBody x_f_law_summary_is, defScope x_f_law_summary_is, [], []⟩
def d_f_law_counters_hold : DefX := ⟨fun K => He.ga K "_law_counters_hold", "_law_counters_hold", "_law_counters_hold", defArgs x_f_law_counters_hold, defBody x_f_law_counters_hold, defScope x_f_law_counters_hold, [], []⟩
def d_f_law_terms_hold : DefX := ⟨fun K => He.ga K "_law_terms_hold", "_law_terms_hold", "_law_terms_hold", defArgs x_f_law_terms_hold, defBody x_f_law_terms_hold, defScope x_f_law_terms_hold, [], []⟩
def d_f_law_lists_hold : DefX := ⟨fun K => He.ga K "_law_lists_hold", "_law_lists_hold", "_law_lists_hold", defArgs x_f_law_lists_hold, defBody x_f_law_lists_hold, defScope x_f_law_lists_hold, [], []⟩
def d_f_law_places_hold : DefX := ⟨fun K => He.ga K "_law_places_hold", "_law_places_hold", "_law_places_hold", defArgs x_f_law_places_hold, defBody x_f_law_places_hold, defScope x_f_law_places_hold, [], []⟩
def d_f_law_turn : DefX := ⟨fun K => He.ga K "_law_turn", "_law_turn", "_law_turn", defArgs x_f_law_turn, defBody x_f_law_turn, defScope x_f_law_turn, [], []⟩
def d_f_law_store : DefX := ⟨fun K => He.ga K "_law_store", "_law_store", "_law_store", defArgs x_f_law_store, defBody x_f_law_store, defScope x_f_law_store, [], []⟩
def d_f_law : DefX := ⟨fun K => He.ga K "law", "law", "law", defArgs x_f_law, defBody x_f_law, defScope x_f_law, [], []⟩
def d_KeyLimit : DefX := ⟨fun K => He.ma K (He.ga K "KeyLimit") "__init__", "__init__", "KeyLimit.__init__", defArgs x_KeyLimit, defBody x_KeyLimit, defScope x_KeyLimit, ["__class__"], []⟩
def d_UnknownKey : DefX := ⟨fun K => He.ma K (He.ga K "UnknownKey") "__init__", "__init__", "UnknownKey.__init__", defArgs x_UnknownKey, defBody x_UnknownKey, defScope x_UnknownKey, ["__class__"], []⟩
def d_BadChoice : DefX := ⟨fun K => He.ma K (He.ga K "BadChoice") "__init__", "__init__", "BadChoice.__init__", defArgs x_BadChoice, defBody x_BadChoice, defScope x_BadChoice, ["__class__"], []⟩
def d_Stalled : DefX := ⟨fun K => He.ma K (He.ga K "Stalled") "__init__", "__init__", "Stalled.__init__", defArgs x_Stalled, defBody x_Stalled, defScope x_Stalled, ["__class__"], []⟩
def fn0 : List DefX := [d_f_at_least, d_f_at_most, d_f_good_key, d_l_init, d_l_head_segment, d_l_alive, d_l_is_closed, d_l_unwritten, d_l_room_left, d_l_spot_of, d_l_can_carry, d_l_append_key, d_l_kill_at, d_l_carry_from, d_l_copied, d_f_append_or_stall, d_s_init, d_s_segments, d_s_size, d_s_limit, d_s_budget, d_s_late, d_s_head, d_s_room, d_s_done, d_s_carried, d_s_last_wait, d_s_check_segment, d_s_written, d_s_living]
def fn1 : List DefX := [d_s_freed, d_s_closed, d_s_picture, d_s_summary, d_s_put, d_s_delete, d_f_law_is_integer, d_f_law_box, d_f_law_draw, d_f_law_terms, d_f_law_key, d_f_law_names, d_f_law_next, d_f_law_model, d_f_law_copy, d_f_law_alive, d_f_law_shut, d_f_law_empty, d_f_law_room, d_f_law_write, d_f_law_kill, d_f_law_find, d_f_law_move, d_f_law_begin, d_f_law_put, d_f_law_drop, d_f_law_picks, d_f_law_call, d_f_law_told_put, d_f_law_told_drop]
def fn2 : List DefX := [d_f_law_numbers_are, d_f_law_shown, d_f_law_picture_is, d_f_law_summary_is, d_f_law_counters_hold, d_f_law_terms_hold, d_f_law_lists_hold, d_f_law_places_hold, d_f_law_turn, d_f_law_store, d_f_law, d_KeyLimit, d_UnknownKey, d_BadChoice, d_Stalled]
def fn : List DefX := fn0 ++ fn1 ++ fn2
theorem exc_txt {K : Kf} {mg : Str → Option Value} {x fld qual : Str} {st : Stmt} {D : PySem.OwnX.Tx} {cc : Addr} {oc kV doc pm cdv ct : Value} {od an : Option Addr} {osl : Array (Option Value)} (noS : mg "super" = none)
    (lk : K.lookup (He.ma K (He.ga K x) "__init__") = some ⟨oc, od, .func (PySem.W.ksFn "__init__" qual (defArgs st) (defBody st) (defScope st) .none kV doc pm an cdv ct cc), osl⟩)
    (h : excB K x fld PySem.Challenge.pw_carrylog_k31_whole_segment_places.main.file qual = true) (h1 : D.qual = qual) (h2 : D.params = defArgs st) (h3 : D.scope = defScope st) (h4 : D.body fld = defBody st) :
    PySem.OwnX.Txt PySem.Challenge.pw_carrylog_k31_whole_segment_places K mg (He.ga K x) (He.ma K (He.ga K x) "__init__") fld D := by
  unfold excB at h
  simp only [Bool.and_eq_true, oo, ob, decide_eq_true_eq] at h
  obtain ⟨e1, e2, e3, e4, e5, e6, e7, e8, e9, e10, e11, e12, e13, e14, e15, e16⟩ := h
  obtain ⟨cda, ccl, cdd, vs, ccs, z, tf, cl, cld, csl, hcd, z1, z2, z3, z4, z5⟩ := cellB_ok lk e16
  subst hcd
  refine ⟨clsB_ok e1, e2, e3, e4, e5, e6, e7, e8, e9, e10, e11, e12, e13, noS, e14, e15, cc, cda, oc, kV, doc, pm, ct, od, an, osl, ccl, cdd, vs, ccs, z, tf, cl, cld, csl, ?_, ?_, z2, z3, z4, z5⟩
  · rw [h1, h2, h3, h4]
    exact lk
  · rw [h1]
    exact z1
structure Tx (K : Kf) (mg : Str → Option Value) : Prop where
  ex : ∃ h : Heap, K.In h ∧ h.Ns mainGlobals mg
  c : SaysX fa fn K
section
variable {K : Kf} {mg : Str → Option Value}
theorem Tx.g_StoreError (T : Tx K mg) : mg "StoreError" = some (.ref (He.ga K "StoreError")) := by
  obtain ⟨h, X, G⟩ := T.ex
  exact He.glo_ok X G (T.c.fact 0 (f := fun K => He.Fa.ok K (.glo "StoreError")))
theorem Tx.g_InvalidInput (T : Tx K mg) : mg "InvalidInput" = some (.ref (He.ga K "InvalidInput")) := by
  obtain ⟨h, X, G⟩ := T.ex
  exact He.glo_ok X G (T.c.fact 1 (f := fun K => He.Fa.ok K (.glo "InvalidInput")))
theorem Tx.g_KeyLimit (T : Tx K mg) : mg "KeyLimit" = some (.ref (He.ga K "KeyLimit")) := by
  obtain ⟨h, X, G⟩ := T.ex
  exact He.glo_ok X G (T.c.fact 2 (f := fun K => He.Fa.ok K (.glo "KeyLimit")))
theorem Tx.g_UnknownKey (T : Tx K mg) : mg "UnknownKey" = some (.ref (He.ga K "UnknownKey")) := by
  obtain ⟨h, X, G⟩ := T.ex
  exact He.glo_ok X G (T.c.fact 3 (f := fun K => He.Fa.ok K (.glo "UnknownKey")))
theorem Tx.g_BadChoice (T : Tx K mg) : mg "BadChoice" = some (.ref (He.ga K "BadChoice")) := by
  obtain ⟨h, X, G⟩ := T.ex
  exact He.glo_ok X G (T.c.fact 4 (f := fun K => He.Fa.ok K (.glo "BadChoice")))
theorem Tx.g_Stalled (T : Tx K mg) : mg "Stalled" = some (.ref (He.ga K "Stalled")) := by
  obtain ⟨h, X, G⟩ := T.ex
  exact He.glo_ok X G (T.c.fact 5 (f := fun K => He.Fa.ok K (.glo "Stalled")))
theorem Tx.g_at_least (T : Tx K mg) : mg "at_least" = some (.ref (He.ga K "at_least")) := by
  obtain ⟨h, X, G⟩ := T.ex
  exact He.glo_ok X G (T.c.fact 6 (f := fun K => He.Fa.ok K (.glo "at_least")))
theorem Tx.g_at_most (T : Tx K mg) : mg "at_most" = some (.ref (He.ga K "at_most")) := by
  obtain ⟨h, X, G⟩ := T.ex
  exact He.glo_ok X G (T.c.fact 7 (f := fun K => He.Fa.ok K (.glo "at_most")))
theorem Tx.g_good_key (T : Tx K mg) : mg "good_key" = some (.ref (He.ga K "good_key")) := by
  obtain ⟨h, X, G⟩ := T.ex
  exact He.glo_ok X G (T.c.fact 8 (f := fun K => He.Fa.ok K (.glo "good_key")))
theorem Tx.g_SegmentLog (T : Tx K mg) : mg "SegmentLog" = some (.ref (He.ga K "SegmentLog")) := by
  obtain ⟨h, X, G⟩ := T.ex
  exact He.glo_ok X G (T.c.fact 9 (f := fun K => He.Fa.ok K (.glo "SegmentLog")))
theorem Tx.g_append_or_stall (T : Tx K mg) : mg "_append_or_stall" = some (.ref (He.ga K "_append_or_stall")) := by
  obtain ⟨h, X, G⟩ := T.ex
  exact He.glo_ok X G (T.c.fact 10 (f := fun K => He.Fa.ok K (.glo "_append_or_stall")))
theorem Tx.g_Segments (T : Tx K mg) : mg "Segments" = some (.ref (He.ga K "Segments")) := by
  obtain ⟨h, X, G⟩ := T.ex
  exact He.glo_ok X G (T.c.fact 11 (f := fun K => He.Fa.ok K (.glo "Segments")))
theorem Tx.g_law_is_integer (T : Tx K mg) : mg "_law_is_integer" = some (.ref (He.ga K "_law_is_integer")) := by
  obtain ⟨h, X, G⟩ := T.ex
  exact He.glo_ok X G (T.c.fact 12 (f := fun K => He.Fa.ok K (.glo "_law_is_integer")))
theorem Tx.g_law_box (T : Tx K mg) : mg "_law_box" = some (.ref (He.ga K "_law_box")) := by
  obtain ⟨h, X, G⟩ := T.ex
  exact He.glo_ok X G (T.c.fact 13 (f := fun K => He.Fa.ok K (.glo "_law_box")))
theorem Tx.g_law_draw (T : Tx K mg) : mg "_law_draw" = some (.ref (He.ga K "_law_draw")) := by
  obtain ⟨h, X, G⟩ := T.ex
  exact He.glo_ok X G (T.c.fact 14 (f := fun K => He.Fa.ok K (.glo "_law_draw")))
theorem Tx.g_law_terms (T : Tx K mg) : mg "_law_terms" = some (.ref (He.ga K "_law_terms")) := by
  obtain ⟨h, X, G⟩ := T.ex
  exact He.glo_ok X G (T.c.fact 15 (f := fun K => He.Fa.ok K (.glo "_law_terms")))
theorem Tx.g_law_key (T : Tx K mg) : mg "_law_key" = some (.ref (He.ga K "_law_key")) := by
  obtain ⟨h, X, G⟩ := T.ex
  exact He.glo_ok X G (T.c.fact 16 (f := fun K => He.Fa.ok K (.glo "_law_key")))
theorem Tx.g_law_names (T : Tx K mg) : mg "_law_names" = some (.ref (He.ga K "_law_names")) := by
  obtain ⟨h, X, G⟩ := T.ex
  exact He.glo_ok X G (T.c.fact 17 (f := fun K => He.Fa.ok K (.glo "_law_names")))
theorem Tx.g_law_next (T : Tx K mg) : mg "_law_next" = some (.ref (He.ga K "_law_next")) := by
  obtain ⟨h, X, G⟩ := T.ex
  exact He.glo_ok X G (T.c.fact 18 (f := fun K => He.Fa.ok K (.glo "_law_next")))
theorem Tx.g_law_model (T : Tx K mg) : mg "_law_model" = some (.ref (He.ga K "_law_model")) := by
  obtain ⟨h, X, G⟩ := T.ex
  exact He.glo_ok X G (T.c.fact 19 (f := fun K => He.Fa.ok K (.glo "_law_model")))
theorem Tx.g_law_copy (T : Tx K mg) : mg "_law_copy" = some (.ref (He.ga K "_law_copy")) := by
  obtain ⟨h, X, G⟩ := T.ex
  exact He.glo_ok X G (T.c.fact 20 (f := fun K => He.Fa.ok K (.glo "_law_copy")))
theorem Tx.g_law_alive (T : Tx K mg) : mg "_law_alive" = some (.ref (He.ga K "_law_alive")) := by
  obtain ⟨h, X, G⟩ := T.ex
  exact He.glo_ok X G (T.c.fact 21 (f := fun K => He.Fa.ok K (.glo "_law_alive")))
theorem Tx.g_law_shut (T : Tx K mg) : mg "_law_shut" = some (.ref (He.ga K "_law_shut")) := by
  obtain ⟨h, X, G⟩ := T.ex
  exact He.glo_ok X G (T.c.fact 22 (f := fun K => He.Fa.ok K (.glo "_law_shut")))
theorem Tx.g_law_empty (T : Tx K mg) : mg "_law_empty" = some (.ref (He.ga K "_law_empty")) := by
  obtain ⟨h, X, G⟩ := T.ex
  exact He.glo_ok X G (T.c.fact 23 (f := fun K => He.Fa.ok K (.glo "_law_empty")))
theorem Tx.g_law_room (T : Tx K mg) : mg "_law_room" = some (.ref (He.ga K "_law_room")) := by
  obtain ⟨h, X, G⟩ := T.ex
  exact He.glo_ok X G (T.c.fact 24 (f := fun K => He.Fa.ok K (.glo "_law_room")))
theorem Tx.g_law_write (T : Tx K mg) : mg "_law_write" = some (.ref (He.ga K "_law_write")) := by
  obtain ⟨h, X, G⟩ := T.ex
  exact He.glo_ok X G (T.c.fact 25 (f := fun K => He.Fa.ok K (.glo "_law_write")))
theorem Tx.g_law_kill (T : Tx K mg) : mg "_law_kill" = some (.ref (He.ga K "_law_kill")) := by
  obtain ⟨h, X, G⟩ := T.ex
  exact He.glo_ok X G (T.c.fact 26 (f := fun K => He.Fa.ok K (.glo "_law_kill")))
theorem Tx.g_law_find (T : Tx K mg) : mg "_law_find" = some (.ref (He.ga K "_law_find")) := by
  obtain ⟨h, X, G⟩ := T.ex
  exact He.glo_ok X G (T.c.fact 27 (f := fun K => He.Fa.ok K (.glo "_law_find")))
theorem Tx.g_law_move (T : Tx K mg) : mg "_law_move" = some (.ref (He.ga K "_law_move")) := by
  obtain ⟨h, X, G⟩ := T.ex
  exact He.glo_ok X G (T.c.fact 28 (f := fun K => He.Fa.ok K (.glo "_law_move")))
theorem Tx.g_law_begin (T : Tx K mg) : mg "_law_begin" = some (.ref (He.ga K "_law_begin")) := by
  obtain ⟨h, X, G⟩ := T.ex
  exact He.glo_ok X G (T.c.fact 29 (f := fun K => He.Fa.ok K (.glo "_law_begin")))
theorem Tx.g_law_put (T : Tx K mg) : mg "_law_put" = some (.ref (He.ga K "_law_put")) := by
  obtain ⟨h, X, G⟩ := T.ex
  exact He.glo_ok X G (T.c.fact 30 (f := fun K => He.Fa.ok K (.glo "_law_put")))
theorem Tx.g_law_drop (T : Tx K mg) : mg "_law_drop" = some (.ref (He.ga K "_law_drop")) := by
  obtain ⟨h, X, G⟩ := T.ex
  exact He.glo_ok X G (T.c.fact 31 (f := fun K => He.Fa.ok K (.glo "_law_drop")))
theorem Tx.g_law_picks (T : Tx K mg) : mg "_law_picks" = some (.ref (He.ga K "_law_picks")) := by
  obtain ⟨h, X, G⟩ := T.ex
  exact He.glo_ok X G (T.c.fact 32 (f := fun K => He.Fa.ok K (.glo "_law_picks")))
theorem Tx.g_law_call (T : Tx K mg) : mg "_law_call" = some (.ref (He.ga K "_law_call")) := by
  obtain ⟨h, X, G⟩ := T.ex
  exact He.glo_ok X G (T.c.fact 33 (f := fun K => He.Fa.ok K (.glo "_law_call")))
theorem Tx.g_law_told_put (T : Tx K mg) : mg "_law_told_put" = some (.ref (He.ga K "_law_told_put")) := by
  obtain ⟨h, X, G⟩ := T.ex
  exact He.glo_ok X G (T.c.fact 34 (f := fun K => He.Fa.ok K (.glo "_law_told_put")))
theorem Tx.g_law_told_drop (T : Tx K mg) : mg "_law_told_drop" = some (.ref (He.ga K "_law_told_drop")) := by
  obtain ⟨h, X, G⟩ := T.ex
  exact He.glo_ok X G (T.c.fact 35 (f := fun K => He.Fa.ok K (.glo "_law_told_drop")))
theorem Tx.g_law_numbers_are (T : Tx K mg) : mg "_law_numbers_are" = some (.ref (He.ga K "_law_numbers_are")) := by
  obtain ⟨h, X, G⟩ := T.ex
  exact He.glo_ok X G (T.c.fact 36 (f := fun K => He.Fa.ok K (.glo "_law_numbers_are")))
theorem Tx.g_law_shown (T : Tx K mg) : mg "_law_shown" = some (.ref (He.ga K "_law_shown")) := by
  obtain ⟨h, X, G⟩ := T.ex
  exact He.glo_ok X G (T.c.fact 37 (f := fun K => He.Fa.ok K (.glo "_law_shown")))
theorem Tx.g_law_picture_is (T : Tx K mg) : mg "_law_picture_is" = some (.ref (He.ga K "_law_picture_is")) := by
  obtain ⟨h, X, G⟩ := T.ex
  exact He.glo_ok X G (T.c.fact 38 (f := fun K => He.Fa.ok K (.glo "_law_picture_is")))
theorem Tx.g_law_summary_is (T : Tx K mg) : mg "_law_summary_is" = some (.ref (He.ga K "_law_summary_is")) := by
  obtain ⟨h, X, G⟩ := T.ex
  exact He.glo_ok X G (T.c.fact 39 (f := fun K => He.Fa.ok K (.glo "_law_summary_is")))
theorem Tx.g_law_counters_hold (T : Tx K mg) : mg "_law_counters_hold" = some (.ref (He.ga K "_law_counters_hold")) := by
  obtain ⟨h, X, G⟩ := T.ex
  exact He.glo_ok X G (T.c.fact 40 (f := fun K => He.Fa.ok K (.glo "_law_counters_hold")))
theorem Tx.g_law_terms_hold (T : Tx K mg) : mg "_law_terms_hold" = some (.ref (He.ga K "_law_terms_hold")) := by
  obtain ⟨h, X, G⟩ := T.ex
  exact He.glo_ok X G (T.c.fact 41 (f := fun K => He.Fa.ok K (.glo "_law_terms_hold")))
theorem Tx.g_law_lists_hold (T : Tx K mg) : mg "_law_lists_hold" = some (.ref (He.ga K "_law_lists_hold")) := by
  obtain ⟨h, X, G⟩ := T.ex
  exact He.glo_ok X G (T.c.fact 42 (f := fun K => He.Fa.ok K (.glo "_law_lists_hold")))
theorem Tx.g_law_places_hold (T : Tx K mg) : mg "_law_places_hold" = some (.ref (He.ga K "_law_places_hold")) := by
  obtain ⟨h, X, G⟩ := T.ex
  exact He.glo_ok X G (T.c.fact 43 (f := fun K => He.Fa.ok K (.glo "_law_places_hold")))
theorem Tx.g_law_turn (T : Tx K mg) : mg "_law_turn" = some (.ref (He.ga K "_law_turn")) := by
  obtain ⟨h, X, G⟩ := T.ex
  exact He.glo_ok X G (T.c.fact 44 (f := fun K => He.Fa.ok K (.glo "_law_turn")))
theorem Tx.g_law_store (T : Tx K mg) : mg "_law_store" = some (.ref (He.ga K "_law_store")) := by
  obtain ⟨h, X, G⟩ := T.ex
  exact He.glo_ok X G (T.c.fact 45 (f := fun K => He.Fa.ok K (.glo "_law_store")))
theorem Tx.g_law (T : Tx K mg) : mg "law" = some (.ref (He.ga K "law")) := by
  obtain ⟨h, X, G⟩ := T.ex
  exact He.glo_ok X G (T.c.fact 46 (f := fun K => He.Fa.ok K (.glo "law")))
theorem Tx.b_len (T : Tx K mg) : mg "len" = none := by
  obtain ⟨h, X, G⟩ := T.ex
  exact He.free_ok X G (T.c.fact 47 (f := fun K => He.Fa.ok K (.free "len")))
theorem Tx.b_range (T : Tx K mg) : mg "range" = none := by
  obtain ⟨h, X, G⟩ := T.ex
  exact He.free_ok X G (T.c.fact 48 (f := fun K => He.Fa.ok K (.free "range")))
theorem Tx.b_list (T : Tx K mg) : mg "list" = none := by
  obtain ⟨h, X, G⟩ := T.ex
  exact He.free_ok X G (T.c.fact 49 (f := fun K => He.Fa.ok K (.free "list")))
theorem Tx.b_int (T : Tx K mg) : mg "int" = none := by
  obtain ⟨h, X, G⟩ := T.ex
  exact He.free_ok X G (T.c.fact 50 (f := fun K => He.Fa.ok K (.free "int")))
theorem Tx.b_max (T : Tx K mg) : mg "max" = none := by
  obtain ⟨h, X, G⟩ := T.ex
  exact He.free_ok X G (T.c.fact 51 (f := fun K => He.Fa.ok K (.free "max")))
theorem Tx.b_min (T : Tx K mg) : mg "min" = none := by
  obtain ⟨h, X, G⟩ := T.ex
  exact He.free_ok X G (T.c.fact 52 (f := fun K => He.Fa.ok K (.free "min")))
theorem Tx.b_sum (T : Tx K mg) : mg "sum" = none := by
  obtain ⟨h, X, G⟩ := T.ex
  exact He.free_ok X G (T.c.fact 53 (f := fun K => He.Fa.ok K (.free "sum")))
theorem Tx.b_dict (T : Tx K mg) : mg "dict" = none := by
  obtain ⟨h, X, G⟩ := T.ex
  exact He.free_ok X G (T.c.fact 54 (f := fun K => He.Fa.ok K (.free "dict")))
theorem Tx.b_isinstance (T : Tx K mg) : mg "isinstance" = none := by
  obtain ⟨h, X, G⟩ := T.ex
  exact He.free_ok X G (T.c.fact 55 (f := fun K => He.Fa.ok K (.free "isinstance")))
theorem Tx.b_bool (T : Tx K mg) : mg "bool" = none := by
  obtain ⟨h, X, G⟩ := T.ex
  exact He.free_ok X G (T.c.fact 56 (f := fun K => He.Fa.ok K (.free "bool")))
theorem Tx.b_str (T : Tx K mg) : mg "str" = none := by
  obtain ⟨h, X, G⟩ := T.ex
  exact He.free_ok X G (T.c.fact 57 (f := fun K => He.Fa.ok K (.free "str")))
theorem Tx.b_tuple (T : Tx K mg) : mg "tuple" = none := by
  obtain ⟨h, X, G⟩ := T.ex
  exact He.free_ok X G (T.c.fact 58 (f := fun K => He.Fa.ok K (.free "tuple")))
theorem Tx.b_sorted (T : Tx K mg) : mg "sorted" = none := by
  obtain ⟨h, X, G⟩ := T.ex
  exact He.free_ok X G (T.c.fact 59 (f := fun K => He.Fa.ok K (.free "sorted")))
theorem Tx.b_enumerate (T : Tx K mg) : mg "enumerate" = none := by
  obtain ⟨h, X, G⟩ := T.ex
  exact He.free_ok X G (T.c.fact 60 (f := fun K => He.Fa.ok K (.free "enumerate")))
theorem Tx.b_super (T : Tx K mg) : mg "super" = none := by
  obtain ⟨h, X, G⟩ := T.ex
  exact He.free_ok X G (T.c.fact 61 (f := fun K => He.Fa.ok K (.free "super")))
theorem Tx.g_KEY_LENGTH (T : Tx K mg) : ∃ t, mg "KEY_LENGTH" = some (.int 12 t) := by
  obtain ⟨h, X, G⟩ := T.ex
  exact He.int_ok X G (T.c.fact 62 (f := fun K => He.Fa.ok K (.int "KEY_LENGTH" 12)))
theorem Tx.g_KEY_CHARACTERS (T : Tx K mg) : ∃ t, mg "KEY_CHARACTERS" = some (.str "abcdefghijklmnopqrstuvwxyz0123456789" t) := by
  obtain ⟨h, X, G⟩ := T.ex
  exact He.str_ok X G (T.c.fact 63 (f := fun K => He.Fa.ok K (.str "KEY_CHARACTERS" "abcdefghijklmnopqrstuvwxyz0123456789")))
theorem Tx.cl (T : Tx K mg) : Cls K (cL K) := by
  obtain ⟨h, X, G⟩ := T.ex
  exact He.cls_ok (T.c.fact 64 (f := fun K => He.Fa.ok K (.cls "SegmentLog")))
theorem Tx.mkl (T : Tx K mg) : Mk K (cL K) (He.ma K (cL K) "__init__") := by
  obtain ⟨h, X, G⟩ := T.ex
  exact He.mkr_ok (T.c.fact 65 (f := fun K => He.Fa.ok K (.mkr "SegmentLog")))
theorem Tx.nl_span (T : Tx K mg) : NoAttr K (cL K) "span" := by
  obtain ⟨h, X, G⟩ := T.ex
  exact He.noat_ok (T.c.fact 66 (f := fun K => He.Fa.ok K (.noat "SegmentLog" "span")))
theorem Tx.nl_rows (T : Tx K mg) : NoAttr K (cL K) "rows" := by
  obtain ⟨h, X, G⟩ := T.ex
  exact He.noat_ok (T.c.fact 67 (f := fun K => He.Fa.ok K (.noat "SegmentLog" "rows")))
theorem Tx.nl_turns (T : Tx K mg) : NoAttr K (cL K) "turns" := by
  obtain ⟨h, X, G⟩ := T.ex
  exact He.noat_ok (T.c.fact 68 (f := fun K => He.Fa.ok K (.noat "SegmentLog" "turns")))
theorem Tx.nl_frees (T : Tx K mg) : NoAttr K (cL K) "frees" := by
  obtain ⟨h, X, G⟩ := T.ex
  exact He.noat_ok (T.c.fact 69 (f := fun K => He.Fa.ok K (.noat "SegmentLog" "frees")))
theorem Tx.m_l_head_segment (T : Tx K mg) : Meth K (cL K) "head_segment" (He.ma K (cL K) "head_segment") := by
  obtain ⟨h, X, G⟩ := T.ex
  exact He.meth_ok (T.c.fact 70 (f := fun K => He.Fa.ok K (.meth "SegmentLog" "head_segment")))
theorem Tx.m_l_alive (T : Tx K mg) : Meth K (cL K) "alive" (He.ma K (cL K) "alive") := by
  obtain ⟨h, X, G⟩ := T.ex
  exact He.meth_ok (T.c.fact 71 (f := fun K => He.Fa.ok K (.meth "SegmentLog" "alive")))
theorem Tx.m_l_is_closed (T : Tx K mg) : Meth K (cL K) "is_closed" (He.ma K (cL K) "is_closed") := by
  obtain ⟨h, X, G⟩ := T.ex
  exact He.meth_ok (T.c.fact 72 (f := fun K => He.Fa.ok K (.meth "SegmentLog" "is_closed")))
theorem Tx.m_l_unwritten (T : Tx K mg) : Meth K (cL K) "unwritten" (He.ma K (cL K) "unwritten") := by
  obtain ⟨h, X, G⟩ := T.ex
  exact He.meth_ok (T.c.fact 73 (f := fun K => He.Fa.ok K (.meth "SegmentLog" "unwritten")))
theorem Tx.m_l_room_left (T : Tx K mg) : Meth K (cL K) "room_left" (He.ma K (cL K) "room_left") := by
  obtain ⟨h, X, G⟩ := T.ex
  exact He.meth_ok (T.c.fact 74 (f := fun K => He.Fa.ok K (.meth "SegmentLog" "room_left")))
theorem Tx.m_l_spot_of (T : Tx K mg) : Meth K (cL K) "spot_of" (He.ma K (cL K) "spot_of") := by
  obtain ⟨h, X, G⟩ := T.ex
  exact He.meth_ok (T.c.fact 75 (f := fun K => He.Fa.ok K (.meth "SegmentLog" "spot_of")))
theorem Tx.m_l_can_carry (T : Tx K mg) : Meth K (cL K) "can_carry" (He.ma K (cL K) "can_carry") := by
  obtain ⟨h, X, G⟩ := T.ex
  exact He.meth_ok (T.c.fact 76 (f := fun K => He.Fa.ok K (.meth "SegmentLog" "can_carry")))
theorem Tx.m_l_append_key (T : Tx K mg) : Meth K (cL K) "append_key" (He.ma K (cL K) "append_key") := by
  obtain ⟨h, X, G⟩ := T.ex
  exact He.meth_ok (T.c.fact 77 (f := fun K => He.Fa.ok K (.meth "SegmentLog" "append_key")))
theorem Tx.m_l_kill_at (T : Tx K mg) : Meth K (cL K) "kill_at" (He.ma K (cL K) "kill_at") := by
  obtain ⟨h, X, G⟩ := T.ex
  exact He.meth_ok (T.c.fact 78 (f := fun K => He.Fa.ok K (.meth "SegmentLog" "kill_at")))
theorem Tx.m_l_carry_from (T : Tx K mg) : Meth K (cL K) "carry_from" (He.ma K (cL K) "carry_from") := by
  obtain ⟨h, X, G⟩ := T.ex
  exact He.meth_ok (T.c.fact 79 (f := fun K => He.Fa.ok K (.meth "SegmentLog" "carry_from")))
theorem Tx.m_l_copied (T : Tx K mg) : Meth K (cL K) "copied" (He.ma K (cL K) "copied") := by
  obtain ⟨h, X, G⟩ := T.ex
  exact He.meth_ok (T.c.fact 80 (f := fun K => He.Fa.ok K (.meth "SegmentLog" "copied")))
theorem Tx.cs (T : Tx K mg) : Cls K (cS K) := by
  obtain ⟨h, X, G⟩ := T.ex
  exact He.cls_ok (T.c.fact 81 (f := fun K => He.Fa.ok K (.cls "Segments")))
theorem Tx.mks (T : Tx K mg) : Mk K (cS K) (He.ma K (cS K) "__init__") := by
  obtain ⟨h, X, G⟩ := T.ex
  exact He.mkr_ok (T.c.fact 82 (f := fun K => He.Fa.ok K (.mkr "Segments")))
theorem Tx.ns_segments (T : Tx K mg) : NoAttr K (cS K) "_segments" := by
  obtain ⟨h, X, G⟩ := T.ex
  exact He.noat_ok (T.c.fact 83 (f := fun K => He.Fa.ok K (.noat "Segments" "_segments")))
theorem Tx.ns_size (T : Tx K mg) : NoAttr K (cS K) "_size" := by
  obtain ⟨h, X, G⟩ := T.ex
  exact He.noat_ok (T.c.fact 84 (f := fun K => He.Fa.ok K (.noat "Segments" "_size")))
theorem Tx.ns_limit (T : Tx K mg) : NoAttr K (cS K) "_limit" := by
  obtain ⟨h, X, G⟩ := T.ex
  exact He.noat_ok (T.c.fact 85 (f := fun K => He.Fa.ok K (.noat "Segments" "_limit")))
theorem Tx.ns_budget (T : Tx K mg) : NoAttr K (cS K) "_budget" := by
  obtain ⟨h, X, G⟩ := T.ex
  exact He.noat_ok (T.c.fact 86 (f := fun K => He.Fa.ok K (.noat "Segments" "_budget")))
theorem Tx.ns_late (T : Tx K mg) : NoAttr K (cS K) "_late" := by
  obtain ⟨h, X, G⟩ := T.ex
  exact He.noat_ok (T.c.fact 87 (f := fun K => He.Fa.ok K (.noat "Segments" "_late")))
theorem Tx.ns_log (T : Tx K mg) : NoAttr K (cS K) "_log" := by
  obtain ⟨h, X, G⟩ := T.ex
  exact He.noat_ok (T.c.fact 88 (f := fun K => He.Fa.ok K (.noat "Segments" "_log")))
theorem Tx.ns_values (T : Tx K mg) : NoAttr K (cS K) "_values" := by
  obtain ⟨h, X, G⟩ := T.ex
  exact He.noat_ok (T.c.fact 89 (f := fun K => He.Fa.ok K (.noat "Segments" "_values")))
theorem Tx.ns_done (T : Tx K mg) : NoAttr K (cS K) "_done" := by
  obtain ⟨h, X, G⟩ := T.ex
  exact He.noat_ok (T.c.fact 90 (f := fun K => He.Fa.ok K (.noat "Segments" "_done")))
theorem Tx.ns_carried (T : Tx K mg) : NoAttr K (cS K) "_carried" := by
  obtain ⟨h, X, G⟩ := T.ex
  exact He.noat_ok (T.c.fact 91 (f := fun K => He.Fa.ok K (.noat "Segments" "_carried")))
theorem Tx.ns_last_wait (T : Tx K mg) : NoAttr K (cS K) "_last_wait" := by
  obtain ⟨h, X, G⟩ := T.ex
  exact He.noat_ok (T.c.fact 92 (f := fun K => He.Fa.ok K (.noat "Segments" "_last_wait")))
theorem Tx.p_s_segments (T : Tx K mg) : PropOf K (cS K) "segments" (He.ma K (cS K) "segments") (propG K (cS K) "segments") := by
  obtain ⟨h, X, G⟩ := T.ex
  exact propB_ok (T.c.fact 93 (f := fun K => propB K (He.ga K "Segments") "segments"))
theorem Tx.p_s_size (T : Tx K mg) : PropOf K (cS K) "size" (He.ma K (cS K) "size") (propG K (cS K) "size") := by
  obtain ⟨h, X, G⟩ := T.ex
  exact propB_ok (T.c.fact 94 (f := fun K => propB K (He.ga K "Segments") "size"))
theorem Tx.p_s_limit (T : Tx K mg) : PropOf K (cS K) "limit" (He.ma K (cS K) "limit") (propG K (cS K) "limit") := by
  obtain ⟨h, X, G⟩ := T.ex
  exact propB_ok (T.c.fact 95 (f := fun K => propB K (He.ga K "Segments") "limit"))
theorem Tx.p_s_budget (T : Tx K mg) : PropOf K (cS K) "budget" (He.ma K (cS K) "budget") (propG K (cS K) "budget") := by
  obtain ⟨h, X, G⟩ := T.ex
  exact propB_ok (T.c.fact 96 (f := fun K => propB K (He.ga K "Segments") "budget"))
theorem Tx.p_s_late (T : Tx K mg) : PropOf K (cS K) "late" (He.ma K (cS K) "late") (propG K (cS K) "late") := by
  obtain ⟨h, X, G⟩ := T.ex
  exact propB_ok (T.c.fact 97 (f := fun K => propB K (He.ga K "Segments") "late"))
theorem Tx.p_s_head (T : Tx K mg) : PropOf K (cS K) "head" (He.ma K (cS K) "head") (propG K (cS K) "head") := by
  obtain ⟨h, X, G⟩ := T.ex
  exact propB_ok (T.c.fact 98 (f := fun K => propB K (He.ga K "Segments") "head"))
theorem Tx.p_s_room (T : Tx K mg) : PropOf K (cS K) "room" (He.ma K (cS K) "room") (propG K (cS K) "room") := by
  obtain ⟨h, X, G⟩ := T.ex
  exact propB_ok (T.c.fact 99 (f := fun K => propB K (He.ga K "Segments") "room"))
theorem Tx.p_s_done (T : Tx K mg) : PropOf K (cS K) "done" (He.ma K (cS K) "done") (propG K (cS K) "done") := by
  obtain ⟨h, X, G⟩ := T.ex
  exact propB_ok (T.c.fact 100 (f := fun K => propB K (He.ga K "Segments") "done"))
theorem Tx.p_s_carried (T : Tx K mg) : PropOf K (cS K) "carried" (He.ma K (cS K) "carried") (propG K (cS K) "carried") := by
  obtain ⟨h, X, G⟩ := T.ex
  exact propB_ok (T.c.fact 101 (f := fun K => propB K (He.ga K "Segments") "carried"))
theorem Tx.p_s_last_wait (T : Tx K mg) : PropOf K (cS K) "last_wait" (He.ma K (cS K) "last_wait") (propG K (cS K) "last_wait") := by
  obtain ⟨h, X, G⟩ := T.ex
  exact propB_ok (T.c.fact 102 (f := fun K => propB K (He.ga K "Segments") "last_wait"))
theorem Tx.m_s_check_segment (T : Tx K mg) : Meth K (cS K) "_check_segment" (He.ma K (cS K) "_check_segment") := by
  obtain ⟨h, X, G⟩ := T.ex
  exact He.meth_ok (T.c.fact 103 (f := fun K => He.Fa.ok K (.meth "Segments" "_check_segment")))
theorem Tx.m_s_written (T : Tx K mg) : Meth K (cS K) "written" (He.ma K (cS K) "written") := by
  obtain ⟨h, X, G⟩ := T.ex
  exact He.meth_ok (T.c.fact 104 (f := fun K => He.Fa.ok K (.meth "Segments" "written")))
theorem Tx.m_s_living (T : Tx K mg) : Meth K (cS K) "living" (He.ma K (cS K) "living") := by
  obtain ⟨h, X, G⟩ := T.ex
  exact He.meth_ok (T.c.fact 105 (f := fun K => He.Fa.ok K (.meth "Segments" "living")))
theorem Tx.m_s_freed (T : Tx K mg) : Meth K (cS K) "freed" (He.ma K (cS K) "freed") := by
  obtain ⟨h, X, G⟩ := T.ex
  exact He.meth_ok (T.c.fact 106 (f := fun K => He.Fa.ok K (.meth "Segments" "freed")))
theorem Tx.m_s_closed (T : Tx K mg) : Meth K (cS K) "closed" (He.ma K (cS K) "closed") := by
  obtain ⟨h, X, G⟩ := T.ex
  exact He.meth_ok (T.c.fact 107 (f := fun K => He.Fa.ok K (.meth "Segments" "closed")))
theorem Tx.m_s_picture (T : Tx K mg) : Meth K (cS K) "picture" (He.ma K (cS K) "picture") := by
  obtain ⟨h, X, G⟩ := T.ex
  exact He.meth_ok (T.c.fact 108 (f := fun K => He.Fa.ok K (.meth "Segments" "picture")))
theorem Tx.m_s_summary (T : Tx K mg) : Meth K (cS K) "summary" (He.ma K (cS K) "summary") := by
  obtain ⟨h, X, G⟩ := T.ex
  exact He.meth_ok (T.c.fact 109 (f := fun K => He.Fa.ok K (.meth "Segments" "summary")))
theorem Tx.m_s_put (T : Tx K mg) : Meth K (cS K) "put" (He.ma K (cS K) "put") := by
  obtain ⟨h, X, G⟩ := T.ex
  exact He.meth_ok (T.c.fact 110 (f := fun K => He.Fa.ok K (.meth "Segments" "put")))
theorem Tx.m_s_delete (T : Tx K mg) : Meth K (cS K) "delete" (He.ma K (cS K) "delete") := by
  obtain ⟨h, X, G⟩ := T.ex
  exact He.meth_ok (T.c.fact 111 (f := fun K => He.Fa.ok K (.meth "Segments" "delete")))
theorem Tx.e_KeyLimit_KeyLimit (T : Tx K mg) : PySem.W.exmOne K (.ref (He.ga K "KeyLimit")) (.ref (He.ga K "KeyLimit")) = some true := by
  obtain ⟨h, X, G⟩ := T.ex
  exact of_decide_eq_true (T.c.fact 116 (f := fun K => decide (PySem.W.exmOne K (.ref (He.ga K "KeyLimit")) (.ref (He.ga K "KeyLimit")) = some true)))
theorem Tx.e_KeyLimit_UnknownKey (T : Tx K mg) : PySem.W.exmOne K (.ref (He.ga K "KeyLimit")) (.ref (He.ga K "UnknownKey")) = some false := by
  obtain ⟨h, X, G⟩ := T.ex
  exact of_decide_eq_true (T.c.fact 117 (f := fun K => decide (PySem.W.exmOne K (.ref (He.ga K "KeyLimit")) (.ref (He.ga K "UnknownKey")) = some false)))
theorem Tx.e_KeyLimit_BadChoice (T : Tx K mg) : PySem.W.exmOne K (.ref (He.ga K "KeyLimit")) (.ref (He.ga K "BadChoice")) = some false := by
  obtain ⟨h, X, G⟩ := T.ex
  exact of_decide_eq_true (T.c.fact 118 (f := fun K => decide (PySem.W.exmOne K (.ref (He.ga K "KeyLimit")) (.ref (He.ga K "BadChoice")) = some false)))
theorem Tx.e_KeyLimit_Stalled (T : Tx K mg) : PySem.W.exmOne K (.ref (He.ga K "KeyLimit")) (.ref (He.ga K "Stalled")) = some false := by
  obtain ⟨h, X, G⟩ := T.ex
  exact of_decide_eq_true (T.c.fact 119 (f := fun K => decide (PySem.W.exmOne K (.ref (He.ga K "KeyLimit")) (.ref (He.ga K "Stalled")) = some false)))
theorem Tx.e_UnknownKey_KeyLimit (T : Tx K mg) : PySem.W.exmOne K (.ref (He.ga K "UnknownKey")) (.ref (He.ga K "KeyLimit")) = some false := by
  obtain ⟨h, X, G⟩ := T.ex
  exact of_decide_eq_true (T.c.fact 120 (f := fun K => decide (PySem.W.exmOne K (.ref (He.ga K "UnknownKey")) (.ref (He.ga K "KeyLimit")) = some false)))
theorem Tx.e_UnknownKey_UnknownKey (T : Tx K mg) : PySem.W.exmOne K (.ref (He.ga K "UnknownKey")) (.ref (He.ga K "UnknownKey")) = some true := by
  obtain ⟨h, X, G⟩ := T.ex
  exact of_decide_eq_true (T.c.fact 121 (f := fun K => decide (PySem.W.exmOne K (.ref (He.ga K "UnknownKey")) (.ref (He.ga K "UnknownKey")) = some true)))
theorem Tx.e_UnknownKey_BadChoice (T : Tx K mg) : PySem.W.exmOne K (.ref (He.ga K "UnknownKey")) (.ref (He.ga K "BadChoice")) = some false := by
  obtain ⟨h, X, G⟩ := T.ex
  exact of_decide_eq_true (T.c.fact 122 (f := fun K => decide (PySem.W.exmOne K (.ref (He.ga K "UnknownKey")) (.ref (He.ga K "BadChoice")) = some false)))
theorem Tx.e_UnknownKey_Stalled (T : Tx K mg) : PySem.W.exmOne K (.ref (He.ga K "UnknownKey")) (.ref (He.ga K "Stalled")) = some false := by
  obtain ⟨h, X, G⟩ := T.ex
  exact of_decide_eq_true (T.c.fact 123 (f := fun K => decide (PySem.W.exmOne K (.ref (He.ga K "UnknownKey")) (.ref (He.ga K "Stalled")) = some false)))
theorem Tx.e_BadChoice_KeyLimit (T : Tx K mg) : PySem.W.exmOne K (.ref (He.ga K "BadChoice")) (.ref (He.ga K "KeyLimit")) = some false := by
  obtain ⟨h, X, G⟩ := T.ex
  exact of_decide_eq_true (T.c.fact 124 (f := fun K => decide (PySem.W.exmOne K (.ref (He.ga K "BadChoice")) (.ref (He.ga K "KeyLimit")) = some false)))
theorem Tx.e_BadChoice_UnknownKey (T : Tx K mg) : PySem.W.exmOne K (.ref (He.ga K "BadChoice")) (.ref (He.ga K "UnknownKey")) = some false := by
  obtain ⟨h, X, G⟩ := T.ex
  exact of_decide_eq_true (T.c.fact 125 (f := fun K => decide (PySem.W.exmOne K (.ref (He.ga K "BadChoice")) (.ref (He.ga K "UnknownKey")) = some false)))
theorem Tx.e_BadChoice_BadChoice (T : Tx K mg) : PySem.W.exmOne K (.ref (He.ga K "BadChoice")) (.ref (He.ga K "BadChoice")) = some true := by
  obtain ⟨h, X, G⟩ := T.ex
  exact of_decide_eq_true (T.c.fact 126 (f := fun K => decide (PySem.W.exmOne K (.ref (He.ga K "BadChoice")) (.ref (He.ga K "BadChoice")) = some true)))
theorem Tx.e_BadChoice_Stalled (T : Tx K mg) : PySem.W.exmOne K (.ref (He.ga K "BadChoice")) (.ref (He.ga K "Stalled")) = some false := by
  obtain ⟨h, X, G⟩ := T.ex
  exact of_decide_eq_true (T.c.fact 127 (f := fun K => decide (PySem.W.exmOne K (.ref (He.ga K "BadChoice")) (.ref (He.ga K "Stalled")) = some false)))
theorem Tx.e_Stalled_KeyLimit (T : Tx K mg) : PySem.W.exmOne K (.ref (He.ga K "Stalled")) (.ref (He.ga K "KeyLimit")) = some false := by
  obtain ⟨h, X, G⟩ := T.ex
  exact of_decide_eq_true (T.c.fact 128 (f := fun K => decide (PySem.W.exmOne K (.ref (He.ga K "Stalled")) (.ref (He.ga K "KeyLimit")) = some false)))
theorem Tx.e_Stalled_UnknownKey (T : Tx K mg) : PySem.W.exmOne K (.ref (He.ga K "Stalled")) (.ref (He.ga K "UnknownKey")) = some false := by
  obtain ⟨h, X, G⟩ := T.ex
  exact of_decide_eq_true (T.c.fact 129 (f := fun K => decide (PySem.W.exmOne K (.ref (He.ga K "Stalled")) (.ref (He.ga K "UnknownKey")) = some false)))
theorem Tx.e_Stalled_BadChoice (T : Tx K mg) : PySem.W.exmOne K (.ref (He.ga K "Stalled")) (.ref (He.ga K "BadChoice")) = some false := by
  obtain ⟨h, X, G⟩ := T.ex
  exact of_decide_eq_true (T.c.fact 130 (f := fun K => decide (PySem.W.exmOne K (.ref (He.ga K "Stalled")) (.ref (He.ga K "BadChoice")) = some false)))
theorem Tx.e_Stalled_Stalled (T : Tx K mg) : PySem.W.exmOne K (.ref (He.ga K "Stalled")) (.ref (He.ga K "Stalled")) = some true := by
  obtain ⟨h, X, G⟩ := T.ex
  exact of_decide_eq_true (T.c.fact 131 (f := fun K => decide (PySem.W.exmOne K (.ref (He.ga K "Stalled")) (.ref (He.ga K "Stalled")) = some true)))
theorem Tx.d_f_at_least (T : Tx K mg) : ∃ fd, FunD K "at_least" "at_least" (defArgs x_f_at_least) (defBody x_f_at_least) (defScope x_f_at_least) [] [] (He.ga K "at_least") fd := by
  obtain ⟨e, c⟩ := T.c.def_ 0 (d := CLg.d_f_at_least)
  exact DefX.funD e c rfl
theorem Tx.d_f_at_most (T : Tx K mg) : ∃ fd, FunD K "at_most" "at_most" (defArgs x_f_at_most) (defBody x_f_at_most) (defScope x_f_at_most) [] [] (He.ga K "at_most") fd := by
  obtain ⟨e, c⟩ := T.c.def_ 1 (d := CLg.d_f_at_most)
  exact DefX.funD e c rfl
theorem Tx.d_f_good_key (T : Tx K mg) : ∃ fd, FunD K "good_key" "good_key" (defArgs x_f_good_key) (defBody x_f_good_key) (defScope x_f_good_key) [] [] (He.ga K "good_key") fd := by
  obtain ⟨e, c⟩ := T.c.def_ 2 (d := CLg.d_f_good_key)
  exact DefX.funD e c rfl
theorem Tx.d_l_init (T : Tx K mg) : ∃ fd, FunD K "__init__" "SegmentLog.__init__" (defArgs x_l_init) (defBody x_l_init) (defScope x_l_init) [] [] (He.ma K (He.ga K "SegmentLog") "__init__") fd := by
  obtain ⟨e, c⟩ := T.c.def_ 3 (d := CLg.d_l_init)
  exact DefX.funD e c rfl
theorem Tx.d_l_head_segment (T : Tx K mg) : ∃ fd, FunD K "head_segment" "SegmentLog.head_segment" (defArgs x_l_head_segment) (defBody x_l_head_segment) (defScope x_l_head_segment) [] [] (He.ma K (He.ga K "SegmentLog") "head_segment") fd := by
  obtain ⟨e, c⟩ := T.c.def_ 4 (d := CLg.d_l_head_segment)
  exact DefX.funD e c rfl
theorem Tx.d_l_alive (T : Tx K mg) : ∃ fd, FunD K "alive" "SegmentLog.alive" (defArgs x_l_alive) (defBody x_l_alive) (defScope x_l_alive) [] [] (He.ma K (He.ga K "SegmentLog") "alive") fd := by
  obtain ⟨e, c⟩ := T.c.def_ 5 (d := CLg.d_l_alive)
  exact DefX.funD e c rfl
theorem Tx.d_l_is_closed (T : Tx K mg) : ∃ fd, FunD K "is_closed" "SegmentLog.is_closed" (defArgs x_l_is_closed) (defBody x_l_is_closed) (defScope x_l_is_closed) [] [] (He.ma K (He.ga K "SegmentLog") "is_closed") fd := by
  obtain ⟨e, c⟩ := T.c.def_ 6 (d := CLg.d_l_is_closed)
  exact DefX.funD e c rfl
theorem Tx.d_l_unwritten (T : Tx K mg) : ∃ fd, FunD K "unwritten" "SegmentLog.unwritten" (defArgs x_l_unwritten) (defBody x_l_unwritten) (defScope x_l_unwritten) [] [] (He.ma K (He.ga K "SegmentLog") "unwritten") fd := by
  obtain ⟨e, c⟩ := T.c.def_ 7 (d := CLg.d_l_unwritten)
  exact DefX.funD e c rfl
theorem Tx.d_l_room_left (T : Tx K mg) : ∃ fd, FunD K "room_left" "SegmentLog.room_left" (defArgs x_l_room_left) (defBody x_l_room_left) (defScope x_l_room_left) [] [] (He.ma K (He.ga K "SegmentLog") "room_left") fd := by
  obtain ⟨e, c⟩ := T.c.def_ 8 (d := CLg.d_l_room_left)
  exact DefX.funD e c rfl
theorem Tx.d_l_spot_of (T : Tx K mg) : ∃ fd, FunD K "spot_of" "SegmentLog.spot_of" (defArgs x_l_spot_of) (defBody x_l_spot_of) (defScope x_l_spot_of) [] [] (He.ma K (He.ga K "SegmentLog") "spot_of") fd := by
  obtain ⟨e, c⟩ := T.c.def_ 9 (d := CLg.d_l_spot_of)
  exact DefX.funD e c rfl
theorem Tx.d_l_can_carry (T : Tx K mg) : ∃ fd, FunD K "can_carry" "SegmentLog.can_carry" (defArgs x_l_can_carry) (defBody x_l_can_carry) (defScope x_l_can_carry) [] [] (He.ma K (He.ga K "SegmentLog") "can_carry") fd := by
  obtain ⟨e, c⟩ := T.c.def_ 10 (d := CLg.d_l_can_carry)
  exact DefX.funD e c rfl
theorem Tx.d_l_append_key (T : Tx K mg) : ∃ fd, FunD K "append_key" "SegmentLog.append_key" (defArgs x_l_append_key) (defBody x_l_append_key) (defScope x_l_append_key) [] [] (He.ma K (He.ga K "SegmentLog") "append_key") fd := by
  obtain ⟨e, c⟩ := T.c.def_ 11 (d := CLg.d_l_append_key)
  exact DefX.funD e c rfl
theorem Tx.d_l_kill_at (T : Tx K mg) : ∃ fd, FunD K "kill_at" "SegmentLog.kill_at" (defArgs x_l_kill_at) (defBody x_l_kill_at) (defScope x_l_kill_at) [] [] (He.ma K (He.ga K "SegmentLog") "kill_at") fd := by
  obtain ⟨e, c⟩ := T.c.def_ 12 (d := CLg.d_l_kill_at)
  exact DefX.funD e c rfl
theorem Tx.d_l_carry_from (T : Tx K mg) : ∃ fd, FunD K "carry_from" "SegmentLog.carry_from" (defArgs x_l_carry_from) (defBody x_l_carry_from) (defScope x_l_carry_from) [] [] (He.ma K (He.ga K "SegmentLog") "carry_from") fd := by
  obtain ⟨e, c⟩ := T.c.def_ 13 (d := CLg.d_l_carry_from)
  exact DefX.funD e c rfl
theorem Tx.d_l_copied (T : Tx K mg) : ∃ fd, FunD K "copied" "SegmentLog.copied" (defArgs x_l_copied) (defBody x_l_copied) (defScope x_l_copied) [] [] (He.ma K (He.ga K "SegmentLog") "copied") fd := by
  obtain ⟨e, c⟩ := T.c.def_ 14 (d := CLg.d_l_copied)
  exact DefX.funD e c rfl
theorem Tx.d_f_append_or_stall (T : Tx K mg) : ∃ fd, FunD K "_append_or_stall" "_append_or_stall" (defArgs x_f_append_or_stall) (defBody x_f_append_or_stall) (defScope x_f_append_or_stall) [] [] (He.ga K "_append_or_stall") fd := by
  obtain ⟨e, c⟩ := T.c.def_ 15 (d := CLg.d_f_append_or_stall)
  exact DefX.funD e c rfl
theorem Tx.d_s_init (T : Tx K mg) : ∃ fd, FunD K "__init__" "Segments.__init__" (defArgs x_s_init) (defBody x_s_init) (defScope x_s_init) [] [("late", .bl false)] (He.ma K (He.ga K "Segments") "__init__") fd := by
  obtain ⟨e, c⟩ := T.c.def_ 16 (d := CLg.d_s_init)
  exact DefX.funD e c rfl
theorem Tx.d_s_segments (T : Tx K mg) : ∃ fd, FunD K "segments" "Segments.segments" (defArgs x_s_segments) (defBody x_s_segments) (defScope x_s_segments) [] [] (propG K (He.ga K "Segments") "segments") fd := by
  obtain ⟨e, c⟩ := T.c.def_ 17 (d := CLg.d_s_segments)
  exact DefX.funD e c rfl
theorem Tx.d_s_size (T : Tx K mg) : ∃ fd, FunD K "size" "Segments.size" (defArgs x_s_size) (defBody x_s_size) (defScope x_s_size) [] [] (propG K (He.ga K "Segments") "size") fd := by
  obtain ⟨e, c⟩ := T.c.def_ 18 (d := CLg.d_s_size)
  exact DefX.funD e c rfl
theorem Tx.d_s_limit (T : Tx K mg) : ∃ fd, FunD K "limit" "Segments.limit" (defArgs x_s_limit) (defBody x_s_limit) (defScope x_s_limit) [] [] (propG K (He.ga K "Segments") "limit") fd := by
  obtain ⟨e, c⟩ := T.c.def_ 19 (d := CLg.d_s_limit)
  exact DefX.funD e c rfl
theorem Tx.d_s_budget (T : Tx K mg) : ∃ fd, FunD K "budget" "Segments.budget" (defArgs x_s_budget) (defBody x_s_budget) (defScope x_s_budget) [] [] (propG K (He.ga K "Segments") "budget") fd := by
  obtain ⟨e, c⟩ := T.c.def_ 20 (d := CLg.d_s_budget)
  exact DefX.funD e c rfl
theorem Tx.d_s_late (T : Tx K mg) : ∃ fd, FunD K "late" "Segments.late" (defArgs x_s_late) (defBody x_s_late) (defScope x_s_late) [] [] (propG K (He.ga K "Segments") "late") fd := by
  obtain ⟨e, c⟩ := T.c.def_ 21 (d := CLg.d_s_late)
  exact DefX.funD e c rfl
theorem Tx.d_s_head (T : Tx K mg) : ∃ fd, FunD K "head" "Segments.head" (defArgs x_s_head) (defBody x_s_head) (defScope x_s_head) [] [] (propG K (He.ga K "Segments") "head") fd := by
  obtain ⟨e, c⟩ := T.c.def_ 22 (d := CLg.d_s_head)
  exact DefX.funD e c rfl
theorem Tx.d_s_room (T : Tx K mg) : ∃ fd, FunD K "room" "Segments.room" (defArgs x_s_room) (defBody x_s_room) (defScope x_s_room) [] [] (propG K (He.ga K "Segments") "room") fd := by
  obtain ⟨e, c⟩ := T.c.def_ 23 (d := CLg.d_s_room)
  exact DefX.funD e c rfl
theorem Tx.d_s_done (T : Tx K mg) : ∃ fd, FunD K "done" "Segments.done" (defArgs x_s_done) (defBody x_s_done) (defScope x_s_done) [] [] (propG K (He.ga K "Segments") "done") fd := by
  obtain ⟨e, c⟩ := T.c.def_ 24 (d := CLg.d_s_done)
  exact DefX.funD e c rfl
theorem Tx.d_s_carried (T : Tx K mg) : ∃ fd, FunD K "carried" "Segments.carried" (defArgs x_s_carried) (defBody x_s_carried) (defScope x_s_carried) [] [] (propG K (He.ga K "Segments") "carried") fd := by
  obtain ⟨e, c⟩ := T.c.def_ 25 (d := CLg.d_s_carried)
  exact DefX.funD e c rfl
theorem Tx.d_s_last_wait (T : Tx K mg) : ∃ fd, FunD K "last_wait" "Segments.last_wait" (defArgs x_s_last_wait) (defBody x_s_last_wait) (defScope x_s_last_wait) [] [] (propG K (He.ga K "Segments") "last_wait") fd := by
  obtain ⟨e, c⟩ := T.c.def_ 26 (d := CLg.d_s_last_wait)
  exact DefX.funD e c rfl
theorem Tx.d_s_check_segment (T : Tx K mg) : ∃ fd, FunD K "_check_segment" "Segments._check_segment" (defArgs x_s_check_segment) (defBody x_s_check_segment) (defScope x_s_check_segment) [] [] (He.ma K (He.ga K "Segments") "_check_segment") fd := by
  obtain ⟨e, c⟩ := T.c.def_ 27 (d := CLg.d_s_check_segment)
  exact DefX.funD e c rfl
theorem Tx.d_s_written (T : Tx K mg) : ∃ fd, FunD K "written" "Segments.written" (defArgs x_s_written) (defBody x_s_written) (defScope x_s_written) [] [] (He.ma K (He.ga K "Segments") "written") fd := by
  obtain ⟨e, c⟩ := T.c.def_ 28 (d := CLg.d_s_written)
  exact DefX.funD e c rfl
theorem Tx.d_s_living (T : Tx K mg) : ∃ fd, FunD K "living" "Segments.living" (defArgs x_s_living) (defBody x_s_living) (defScope x_s_living) [] [] (He.ma K (He.ga K "Segments") "living") fd := by
  obtain ⟨e, c⟩ := T.c.def_ 29 (d := CLg.d_s_living)
  exact DefX.funD e c rfl
theorem Tx.d_s_freed (T : Tx K mg) : ∃ fd, FunD K "freed" "Segments.freed" (defArgs x_s_freed) (defBody x_s_freed) (defScope x_s_freed) [] [] (He.ma K (He.ga K "Segments") "freed") fd := by
  obtain ⟨e, c⟩ := T.c.def_ 30 (d := CLg.d_s_freed)
  exact DefX.funD e c rfl
theorem Tx.d_s_closed (T : Tx K mg) : ∃ fd, FunD K "closed" "Segments.closed" (defArgs x_s_closed) (defBody x_s_closed) (defScope x_s_closed) [] [] (He.ma K (He.ga K "Segments") "closed") fd := by
  obtain ⟨e, c⟩ := T.c.def_ 31 (d := CLg.d_s_closed)
  exact DefX.funD e c rfl
theorem Tx.d_s_picture (T : Tx K mg) : ∃ fd, FunD K "picture" "Segments.picture" (defArgs x_s_picture) (defBody x_s_picture) (defScope x_s_picture) [] [] (He.ma K (He.ga K "Segments") "picture") fd := by
  obtain ⟨e, c⟩ := T.c.def_ 32 (d := CLg.d_s_picture)
  exact DefX.funD e c rfl
theorem Tx.d_s_summary (T : Tx K mg) : ∃ fd, FunD K "summary" "Segments.summary" (defArgs x_s_summary) (defBody x_s_summary) (defScope x_s_summary) [] [] (He.ma K (He.ga K "Segments") "summary") fd := by
  obtain ⟨e, c⟩ := T.c.def_ 33 (d := CLg.d_s_summary)
  exact DefX.funD e c rfl
theorem Tx.d_s_put (T : Tx K mg) : ∃ fd, FunD K "put" "Segments.put" (defArgs x_s_put) (defBody x_s_put) (defScope x_s_put) [] [] (He.ma K (He.ga K "Segments") "put") fd := by
  obtain ⟨e, c⟩ := T.c.def_ 34 (d := CLg.d_s_put)
  exact DefX.funD e c rfl
theorem Tx.d_s_delete (T : Tx K mg) : ∃ fd, FunD K "delete" "Segments.delete" (defArgs x_s_delete) (defBody x_s_delete) (defScope x_s_delete) [] [] (He.ma K (He.ga K "Segments") "delete") fd := by
  obtain ⟨e, c⟩ := T.c.def_ 35 (d := CLg.d_s_delete)
  exact DefX.funD e c rfl
theorem Tx.d_f_law_is_integer (T : Tx K mg) : ∃ fd, FunD K "_law_is_integer" "_law_is_integer" (defArgs x_f_law_is_integer) (defBody x_f_law_is_integer) (defScope x_f_law_is_integer) [] [] (He.ga K "_law_is_integer") fd := by
  obtain ⟨e, c⟩ := T.c.def_ 36 (d := CLg.d_f_law_is_integer)
  exact DefX.funD e c rfl
theorem Tx.d_f_law_box (T : Tx K mg) : ∃ fd, FunD K "_law_box" "_law_box" (defArgs x_f_law_box) (defBody x_f_law_box) (defScope x_f_law_box) [] [] (He.ga K "_law_box") fd := by
  obtain ⟨e, c⟩ := T.c.def_ 37 (d := CLg.d_f_law_box)
  exact DefX.funD e c rfl
theorem Tx.d_f_law_draw (T : Tx K mg) : ∃ fd, FunD K "_law_draw" "_law_draw" (defArgs x_f_law_draw) (defBody x_f_law_draw) (defScope x_f_law_draw) [] [] (He.ga K "_law_draw") fd := by
  obtain ⟨e, c⟩ := T.c.def_ 38 (d := CLg.d_f_law_draw)
  exact DefX.funD e c rfl
theorem Tx.d_f_law_terms (T : Tx K mg) : ∃ fd, FunD K "_law_terms" "_law_terms" (defArgs x_f_law_terms) (defBody x_f_law_terms) (defScope x_f_law_terms) [] [] (He.ga K "_law_terms") fd := by
  obtain ⟨e, c⟩ := T.c.def_ 39 (d := CLg.d_f_law_terms)
  exact DefX.funD e c rfl
theorem Tx.d_f_law_key (T : Tx K mg) : ∃ fd, FunD K "_law_key" "_law_key" (defArgs x_f_law_key) (defBody x_f_law_key) (defScope x_f_law_key) [] [] (He.ga K "_law_key") fd := by
  obtain ⟨e, c⟩ := T.c.def_ 40 (d := CLg.d_f_law_key)
  exact DefX.funD e c rfl
theorem Tx.d_f_law_names (T : Tx K mg) : ∃ fd, FunD K "_law_names" "_law_names" (defArgs x_f_law_names) (defBody x_f_law_names) (defScope x_f_law_names) [] [] (He.ga K "_law_names") fd := by
  obtain ⟨e, c⟩ := T.c.def_ 41 (d := CLg.d_f_law_names)
  exact DefX.funD e c rfl
theorem Tx.d_f_law_next (T : Tx K mg) : ∃ fd, FunD K "_law_next" "_law_next" (defArgs x_f_law_next) (defBody x_f_law_next) (defScope x_f_law_next) [] [] (He.ga K "_law_next") fd := by
  obtain ⟨e, c⟩ := T.c.def_ 42 (d := CLg.d_f_law_next)
  exact DefX.funD e c rfl
theorem Tx.d_f_law_model (T : Tx K mg) : ∃ fd, FunD K "_law_model" "_law_model" (defArgs x_f_law_model) (defBody x_f_law_model) (defScope x_f_law_model) [] [] (He.ga K "_law_model") fd := by
  obtain ⟨e, c⟩ := T.c.def_ 43 (d := CLg.d_f_law_model)
  exact DefX.funD e c rfl
theorem Tx.d_f_law_copy (T : Tx K mg) : ∃ fd, FunD K "_law_copy" "_law_copy" (defArgs x_f_law_copy) (defBody x_f_law_copy) (defScope x_f_law_copy) [] [] (He.ga K "_law_copy") fd := by
  obtain ⟨e, c⟩ := T.c.def_ 44 (d := CLg.d_f_law_copy)
  exact DefX.funD e c rfl
theorem Tx.d_f_law_alive (T : Tx K mg) : ∃ fd, FunD K "_law_alive" "_law_alive" (defArgs x_f_law_alive) (defBody x_f_law_alive) (defScope x_f_law_alive) [] [] (He.ga K "_law_alive") fd := by
  obtain ⟨e, c⟩ := T.c.def_ 45 (d := CLg.d_f_law_alive)
  exact DefX.funD e c rfl
theorem Tx.d_f_law_shut (T : Tx K mg) : ∃ fd, FunD K "_law_shut" "_law_shut" (defArgs x_f_law_shut) (defBody x_f_law_shut) (defScope x_f_law_shut) [] [] (He.ga K "_law_shut") fd := by
  obtain ⟨e, c⟩ := T.c.def_ 46 (d := CLg.d_f_law_shut)
  exact DefX.funD e c rfl
theorem Tx.d_f_law_empty (T : Tx K mg) : ∃ fd, FunD K "_law_empty" "_law_empty" (defArgs x_f_law_empty) (defBody x_f_law_empty) (defScope x_f_law_empty) [] [] (He.ga K "_law_empty") fd := by
  obtain ⟨e, c⟩ := T.c.def_ 47 (d := CLg.d_f_law_empty)
  exact DefX.funD e c rfl
theorem Tx.d_f_law_room (T : Tx K mg) : ∃ fd, FunD K "_law_room" "_law_room" (defArgs x_f_law_room) (defBody x_f_law_room) (defScope x_f_law_room) [] [] (He.ga K "_law_room") fd := by
  obtain ⟨e, c⟩ := T.c.def_ 48 (d := CLg.d_f_law_room)
  exact DefX.funD e c rfl
theorem Tx.d_f_law_write (T : Tx K mg) : ∃ fd, FunD K "_law_write" "_law_write" (defArgs x_f_law_write) (defBody x_f_law_write) (defScope x_f_law_write) [] [] (He.ga K "_law_write") fd := by
  obtain ⟨e, c⟩ := T.c.def_ 49 (d := CLg.d_f_law_write)
  exact DefX.funD e c rfl
theorem Tx.d_f_law_kill (T : Tx K mg) : ∃ fd, FunD K "_law_kill" "_law_kill" (defArgs x_f_law_kill) (defBody x_f_law_kill) (defScope x_f_law_kill) [] [] (He.ga K "_law_kill") fd := by
  obtain ⟨e, c⟩ := T.c.def_ 50 (d := CLg.d_f_law_kill)
  exact DefX.funD e c rfl
theorem Tx.d_f_law_find (T : Tx K mg) : ∃ fd, FunD K "_law_find" "_law_find" (defArgs x_f_law_find) (defBody x_f_law_find) (defScope x_f_law_find) [] [] (He.ga K "_law_find") fd := by
  obtain ⟨e, c⟩ := T.c.def_ 51 (d := CLg.d_f_law_find)
  exact DefX.funD e c rfl
theorem Tx.d_f_law_move (T : Tx K mg) : ∃ fd, FunD K "_law_move" "_law_move" (defArgs x_f_law_move) (defBody x_f_law_move) (defScope x_f_law_move) [] [] (He.ga K "_law_move") fd := by
  obtain ⟨e, c⟩ := T.c.def_ 52 (d := CLg.d_f_law_move)
  exact DefX.funD e c rfl
theorem Tx.d_f_law_begin (T : Tx K mg) : ∃ fd, FunD K "_law_begin" "_law_begin" (defArgs x_f_law_begin) (defBody x_f_law_begin) (defScope x_f_law_begin) [] [] (He.ga K "_law_begin") fd := by
  obtain ⟨e, c⟩ := T.c.def_ 53 (d := CLg.d_f_law_begin)
  exact DefX.funD e c rfl
theorem Tx.d_f_law_put (T : Tx K mg) : ∃ fd, FunD K "_law_put" "_law_put" (defArgs x_f_law_put) (defBody x_f_law_put) (defScope x_f_law_put) [] [] (He.ga K "_law_put") fd := by
  obtain ⟨e, c⟩ := T.c.def_ 54 (d := CLg.d_f_law_put)
  exact DefX.funD e c rfl
theorem Tx.d_f_law_drop (T : Tx K mg) : ∃ fd, FunD K "_law_drop" "_law_drop" (defArgs x_f_law_drop) (defBody x_f_law_drop) (defScope x_f_law_drop) [] [] (He.ga K "_law_drop") fd := by
  obtain ⟨e, c⟩ := T.c.def_ 55 (d := CLg.d_f_law_drop)
  exact DefX.funD e c rfl
theorem Tx.d_f_law_picks (T : Tx K mg) : ∃ fd, FunD K "_law_picks" "_law_picks" (defArgs x_f_law_picks) (defBody x_f_law_picks) (defScope x_f_law_picks) [] [] (He.ga K "_law_picks") fd := by
  obtain ⟨e, c⟩ := T.c.def_ 56 (d := CLg.d_f_law_picks)
  exact DefX.funD e c rfl
theorem Tx.d_f_law_call (T : Tx K mg) : ∃ fd, FunD K "_law_call" "_law_call" (defArgs x_f_law_call) (defBody x_f_law_call) (defScope x_f_law_call) [] [] (He.ga K "_law_call") fd := by
  obtain ⟨e, c⟩ := T.c.def_ 57 (d := CLg.d_f_law_call)
  exact DefX.funD e c rfl
theorem Tx.d_f_law_told_put (T : Tx K mg) : ∃ fd, FunD K "_law_told_put" "_law_told_put" (defArgs x_f_law_told_put) (defBody x_f_law_told_put) (defScope x_f_law_told_put) [] [] (He.ga K "_law_told_put") fd := by
  obtain ⟨e, c⟩ := T.c.def_ 58 (d := CLg.d_f_law_told_put)
  exact DefX.funD e c rfl
theorem Tx.d_f_law_told_drop (T : Tx K mg) : ∃ fd, FunD K "_law_told_drop" "_law_told_drop" (defArgs x_f_law_told_drop) (defBody x_f_law_told_drop) (defScope x_f_law_told_drop) [] [] (He.ga K "_law_told_drop") fd := by
  obtain ⟨e, c⟩ := T.c.def_ 59 (d := CLg.d_f_law_told_drop)
  exact DefX.funD e c rfl
theorem Tx.d_f_law_numbers_are (T : Tx K mg) : ∃ fd, FunD K "_law_numbers_are" "_law_numbers_are" (defArgs x_f_law_numbers_are) (defBody x_f_law_numbers_are) (defScope x_f_law_numbers_are) [] [] (He.ga K "_law_numbers_are") fd := by
  obtain ⟨e, c⟩ := T.c.def_ 60 (d := CLg.d_f_law_numbers_are)
  exact DefX.funD e c rfl
theorem Tx.d_f_law_shown (T : Tx K mg) : ∃ fd, FunD K "_law_shown" "_law_shown" (defArgs x_f_law_shown) (defBody x_f_law_shown) (defScope x_f_law_shown) [] [] (He.ga K "_law_shown") fd := by
  obtain ⟨e, c⟩ := T.c.def_ 61 (d := CLg.d_f_law_shown)
  exact DefX.funD e c rfl
theorem Tx.d_f_law_picture_is (T : Tx K mg) : ∃ fd, FunD K "_law_picture_is" "_law_picture_is" (defArgs x_f_law_picture_is) (defBody x_f_law_picture_is) (defScope x_f_law_picture_is) [] [] (He.ga K "_law_picture_is") fd := by
  obtain ⟨e, c⟩ := T.c.def_ 62 (d := CLg.d_f_law_picture_is)
  exact DefX.funD e c rfl
theorem Tx.d_f_law_summary_is (T : Tx K mg) : ∃ fd, FunD K "_law_summary_is" "_law_summary_is" (defArgs x_f_law_summary_is) (defBody x_f_law_summary_is) (defScope x_f_law_summary_is) [] [] (He.ga K "_law_summary_is") fd := by
  obtain ⟨e, c⟩ := T.c.def_ 63 (d := CLg.d_f_law_summary_is)
  exact DefX.funD e c rfl
theorem Tx.d_f_law_counters_hold (T : Tx K mg) : ∃ fd, FunD K "_law_counters_hold" "_law_counters_hold" (defArgs x_f_law_counters_hold) (defBody x_f_law_counters_hold) (defScope x_f_law_counters_hold) [] [] (He.ga K "_law_counters_hold") fd := by
  obtain ⟨e, c⟩ := T.c.def_ 64 (d := CLg.d_f_law_counters_hold)
  exact DefX.funD e c rfl
theorem Tx.d_f_law_terms_hold (T : Tx K mg) : ∃ fd, FunD K "_law_terms_hold" "_law_terms_hold" (defArgs x_f_law_terms_hold) (defBody x_f_law_terms_hold) (defScope x_f_law_terms_hold) [] [] (He.ga K "_law_terms_hold") fd := by
  obtain ⟨e, c⟩ := T.c.def_ 65 (d := CLg.d_f_law_terms_hold)
  exact DefX.funD e c rfl
theorem Tx.d_f_law_lists_hold (T : Tx K mg) : ∃ fd, FunD K "_law_lists_hold" "_law_lists_hold" (defArgs x_f_law_lists_hold) (defBody x_f_law_lists_hold) (defScope x_f_law_lists_hold) [] [] (He.ga K "_law_lists_hold") fd := by
  obtain ⟨e, c⟩ := T.c.def_ 66 (d := CLg.d_f_law_lists_hold)
  exact DefX.funD e c rfl
theorem Tx.d_f_law_places_hold (T : Tx K mg) : ∃ fd, FunD K "_law_places_hold" "_law_places_hold" (defArgs x_f_law_places_hold) (defBody x_f_law_places_hold) (defScope x_f_law_places_hold) [] [] (He.ga K "_law_places_hold") fd := by
  obtain ⟨e, c⟩ := T.c.def_ 67 (d := CLg.d_f_law_places_hold)
  exact DefX.funD e c rfl
theorem Tx.d_f_law_turn (T : Tx K mg) : ∃ fd, FunD K "_law_turn" "_law_turn" (defArgs x_f_law_turn) (defBody x_f_law_turn) (defScope x_f_law_turn) [] [] (He.ga K "_law_turn") fd := by
  obtain ⟨e, c⟩ := T.c.def_ 68 (d := CLg.d_f_law_turn)
  exact DefX.funD e c rfl
theorem Tx.d_f_law_store (T : Tx K mg) : ∃ fd, FunD K "_law_store" "_law_store" (defArgs x_f_law_store) (defBody x_f_law_store) (defScope x_f_law_store) [] [] (He.ga K "_law_store") fd := by
  obtain ⟨e, c⟩ := T.c.def_ 69 (d := CLg.d_f_law_store)
  exact DefX.funD e c rfl
theorem Tx.d_f_law (T : Tx K mg) : ∃ fd, FunD K "law" "law" (defArgs x_f_law) (defBody x_f_law) (defScope x_f_law) [] [] (He.ga K "law") fd := by
  obtain ⟨e, c⟩ := T.c.def_ 70 (d := CLg.d_f_law)
  exact DefX.funD e c rfl

theorem Tx.f_KeyLimit (T : Tx K mg) {D : PySem.OwnX.Tx} (h1 : D.qual = "KeyLimit.__init__") (h2 : D.params = defArgs CLg.x_KeyLimit) (h3 : D.scope = defScope CLg.x_KeyLimit) (h4 : D.body "most" = defBody CLg.x_KeyLimit) :
    PySem.OwnX.Txt PySem.Challenge.pw_carrylog_k31_whole_segment_places K mg (He.ga K "KeyLimit") (He.ma K (He.ga K "KeyLimit") "__init__") "most" D := by
  obtain ⟨e, okd⟩ := T.c.def_ 71 (d := CLg.d_KeyLimit)
  obtain ⟨cc, oc, kV, doc, pm, cdv, ct, od, an, osl, lk⟩ := DefX.funC e okd rfl
  have x := T.c.fact 112 (f := fun K => excB K "KeyLimit" "most" PySem.Challenge.pw_carrylog_k31_whole_segment_places.main.file "KeyLimit.__init__")
  exact exc_txt (x := "KeyLimit") (fld := "most") (qual := "KeyLimit.__init__") (st := CLg.x_KeyLimit) T.b_super lk x h1 h2 h3 h4

theorem Tx.f_UnknownKey (T : Tx K mg) {D : PySem.OwnX.Tx} (h1 : D.qual = "UnknownKey.__init__") (h2 : D.params = defArgs CLg.x_UnknownKey) (h3 : D.scope = defScope CLg.x_UnknownKey) (h4 : D.body "key" = defBody CLg.x_UnknownKey) :
    PySem.OwnX.Txt PySem.Challenge.pw_carrylog_k31_whole_segment_places K mg (He.ga K "UnknownKey") (He.ma K (He.ga K "UnknownKey") "__init__") "key" D := by
  obtain ⟨e, okd⟩ := T.c.def_ 72 (d := CLg.d_UnknownKey)
  obtain ⟨cc, oc, kV, doc, pm, cdv, ct, od, an, osl, lk⟩ := DefX.funC e okd rfl
  have x := T.c.fact 113 (f := fun K => excB K "UnknownKey" "key" PySem.Challenge.pw_carrylog_k31_whole_segment_places.main.file "UnknownKey.__init__")
  exact exc_txt (x := "UnknownKey") (fld := "key") (qual := "UnknownKey.__init__") (st := CLg.x_UnknownKey) T.b_super lk x h1 h2 h3 h4

theorem Tx.f_BadChoice (T : Tx K mg) {D : PySem.OwnX.Tx} (h1 : D.qual = "BadChoice.__init__") (h2 : D.params = defArgs CLg.x_BadChoice) (h3 : D.scope = defScope CLg.x_BadChoice) (h4 : D.body "choice" = defBody CLg.x_BadChoice) :
    PySem.OwnX.Txt PySem.Challenge.pw_carrylog_k31_whole_segment_places K mg (He.ga K "BadChoice") (He.ma K (He.ga K "BadChoice") "__init__") "choice" D := by
  obtain ⟨e, okd⟩ := T.c.def_ 73 (d := CLg.d_BadChoice)
  obtain ⟨cc, oc, kV, doc, pm, cdv, ct, od, an, osl, lk⟩ := DefX.funC e okd rfl
  have x := T.c.fact 114 (f := fun K => excB K "BadChoice" "choice" PySem.Challenge.pw_carrylog_k31_whole_segment_places.main.file "BadChoice.__init__")
  exact exc_txt (x := "BadChoice") (fld := "choice") (qual := "BadChoice.__init__") (st := CLg.x_BadChoice) T.b_super lk x h1 h2 h3 h4

theorem Tx.f_Stalled (T : Tx K mg) {D : PySem.OwnX.Tx} (h1 : D.qual = "Stalled.__init__") (h2 : D.params = defArgs CLg.x_Stalled) (h3 : D.scope = defScope CLg.x_Stalled) (h4 : D.body "deeds" = defBody CLg.x_Stalled) :
    PySem.OwnX.Txt PySem.Challenge.pw_carrylog_k31_whole_segment_places K mg (He.ga K "Stalled") (He.ma K (He.ga K "Stalled") "__init__") "deeds" D := by
  obtain ⟨e, okd⟩ := T.c.def_ 74 (d := CLg.d_Stalled)
  obtain ⟨cc, oc, kV, doc, pm, cdv, ct, od, an, osl, lk⟩ := DefX.funC e okd rfl
  have x := T.c.fact 115 (f := fun K => excB K "Stalled" "deeds" PySem.Challenge.pw_carrylog_k31_whole_segment_places.main.file "Stalled.__init__")
  exact exc_txt (x := "Stalled") (fld := "deeds") (qual := "Stalled.__init__") (st := CLg.x_Stalled) T.b_super lk x h1 h2 h3 h4
end
end CLg
end

section
namespace HeadSmall2
open PySem PySem.W PySem.Calls PyProof.Rows
abbrev R : OpenRow := OpenLaw.row PySem.Challenge.rw_carrylog_k31_whole_segment_places
abbrev qv : Program := view R.prog [53]
def names1 : List PySem.Str := ["_wall", "StoreError", "InvalidInput", "KeyLimit", "UnknownKey", "BadChoice", "Stalled", "KEY_CHARACTERS", "KEY_LENGTH", "at_least", "at_most", "good_key", "SegmentLog", "_append_or_stall", "Segments", "_law_is_integer", "_law_box", "_law_draw", "_law_terms", "_law_key", "_law_names", "_law_next", "_law_model", "_law_copy", "_law_alive", "_law_shut", "_law_empty", "_law_room", "_law_write", "_law_kill"]
def names2 : List PySem.Str := ["_law_find", "_law_move", "_law_begin", "_law_put", "_law_drop", "_law_picks", "_law_call", "_law_told_put", "_law_told_drop", "_law_numbers_are", "_law_shown", "_law_picture_is", "_law_summary_is", "_law_counters_hold", "_law_terms_hold", "_law_lists_hold", "_law_places_hold", "_law_turn", "_law_store"]
def names : List PySem.Str := names1 ++ names2
open HandSHeadRun in
theorem r1 (w : World) (os : OsState) : (endF (stepQ (denQ tabQ) R.prog w) 8000 R.prog w os).map (fun s => looksF R.prog (boot_heap w.params) s.abs) = some true := by kernel_rfl
open HandSHeadRun in
theorem r2 (w : World) (os : OsState) : (endF (stepQ (denQ tabQ) R.prog w) 8000 R.prog w os).map (fun s => seenQ qv names (importedModules R.prog.main.body) (fun s => xlAt qv [] s && recOk R.toRowW.records s) s.abs) = some (openGood qv names) := by kernel_rfl
open HandSHeadRun in
theorem r3 (w : World) (os : OsState) : (endF (stepQ (denQ tabQ) R.prog w) 8000 R.prog w os).map (fun s => CLg.obsXG 5 CLg.fa CLg.fn (getT s)) = some (CLg.valX CLg.fn) := by kernel_rfl
theorem run (w : World) : HandSHeadRun.RunEq R qv (CLg.hookX 5 CLg.fa CLg.fn) (fun s => CLg.obsXG 5 CLg.fa CLg.fn (HandSHeadRun.getT s)) 8000 names w := by
  intro os
  have h1 := r1 w os
  have h2 := r2 w os
  have h3 := r3 w os
  revert h1 h2 h3
  generalize HandSHeadRun.endF (HandSHeadRun.stepQ (HandSHeadRun.denQ HandSHeadRun.tabQ) R.prog w) 8000 R.prog w os = o
  intro h1 h2 h3
  cases o with
  | none => cases h1
  | some s =>
    have e1 := Option.some.inj h1
    have e2 := Option.some.inj h2
    have e3 := Option.some.inj h3
    exact congrArg some (Prod.ext e1 (Prod.ext e2 e3))
end HeadSmall2
end

section
/-! Short words of our own: defs with their promises, calls, steps through a reading, heaps. -/
namespace CLg
open PySem PySem.Spec PyProof.Rows L2
abbrev PP : Program := PySem.Challenge.pw_carrylog_k31_whole_segment_places
/-! ### defs -/
/-- a def at f that keeps its promise, called by position -/
structure Fnc (P : Program) (w : World) (K : Kf) (mg : Str → Option Value) (base : Heap) (CX : CXT) (k : Nat) (f : Addr) (ps : List Str) (sp : Sp) : Prop where
  ex : ∃ fd, FnOk P w K mg base CX k f fd ps sp ∧ Binds K fd ps []
  kp : PySem.W.keepIn K (.ref f) = true
section
variable {P : Program} {w : World} {K : Kf} {mg : Str → Option Value} {base : Heap} {x qual : Str} {st : Stmt} {f : Addr} {N ps : List Str} {k : Nat} {sp : Sp}
/-- a def that raises nothing -/
theorem mk0 (F : ∃ fd, FunD K x qual (defArgs st) (defBody st) (defScope st) [] [] f fd) (S : FnScope N ps (defScope st))
    (len : ∀ vs H Q E, sp vs H Q E → vs.length = ps.length)
    (hb : ∀ (kV doc pm : Value) (an : Option Addr) (cdv ct : Value) (us : List Value), us.length = ps.length → bindArgs (PySem.W.fnOf x qual (defArgs st) (defBody st) (defScope st) .none kV doc pm an cdv ct) ⟨us, []⟩ = pure (ps.zip us))
    (body : ∀ (cdv : Value) (A : Around) (outer : List Env) (s : Shared) (H : Hp) (vs : List V) (Q : VK) (E : XK), Room k (A.deeper (envOfC qual (defScope st) s.heap.objs.size f cdv)) → sp vs H Q E →
      ∃ t, PSs (cxOf CX0 P w K mg base N qual (defScope st) f cdv A outer s H E).nox (defBody st) t ∧ t { nx := fun _ H' => Q .non H', rt := Q } (start N vs) H) : Fnc P w K mg base CX0 (k + 1) f ps sp := by
  obtain ⟨fd, F⟩ := F
  refine ⟨⟨fd, F.ok S len fun cdv A outer s H vs Q E hr h => ?_, F.bindsN hb⟩, F.kp⟩
  obtain ⟨t, h1, h2⟩ := body cdv A outer s H vs Q E hr h
  exact ⟨t, h1.nox, h2⟩
/-- a def that may raise -/
theorem mkX (F : ∃ fd, FunD K x qual (defArgs st) (defBody st) (defScope st) [] [] f fd) (S : FnScope N ps (defScope st))
    (len : ∀ vs H Q E, sp vs H Q E → vs.length = ps.length)
    (hb : ∀ (kV doc pm : Value) (an : Option Addr) (cdv ct : Value) (us : List Value), us.length = ps.length → bindArgs (PySem.W.fnOf x qual (defArgs st) (defBody st) (defScope st) .none kV doc pm an cdv ct) ⟨us, []⟩ = pure (ps.zip us))
    (body : ∀ (cdv : Value) (A : Around) (outer : List Env) (s : Shared) (H : Hp) (vs : List V) (Q : VK) (E : XK), Room k (A.deeper (envOfC qual (defScope st) s.heap.objs.size f cdv)) → sp vs H Q E →
      ∃ t, PSs (cxOf (L2.CX P w) P w K mg base N qual (defScope st) f cdv A outer s H E) (defBody st) t ∧ t { nx := fun _ H' => Q .non H', rt := Q } (start N vs) H) : Fnc P w K mg base (L2.CX P w) (k + 1) f ps sp := by
  obtain ⟨fd, F⟩ := F
  exact ⟨⟨fd, F.ok S len fun cdv A outer s H vs Q E hr h => body cdv A outer s H vs Q E hr h, F.bindsN hb⟩, F.kp⟩
end
section
variable {X : Cx} {CX : CXT} {j k : Nat} {f C : Addr} {ps : List Str} {sp : Sp} {E : XK} {x m : Str} {p pos apos : Pos} {e o : Expr} {es : List Expr} {t : TA} {ta : TE}
/-- f(e, ..) -/
theorem pe_f (c : Fnc X.prog X.w X.K X.mg X.base CX k f ps sp) (hm : X.mg x = some (.ref f)) (hr : Room k X.A) (hx : Passes CX X E) (ha : PA X (e :: es) t) (hg : Gl X x := by rfl)
    (hdb : (x == ("__debug__" : Str)) = false := by decide) (he : starEach (e :: es) X.env = (false, eval e X.env) :: starEach es X.env := by rfl) (hpl : (backTo pos (starEach es X.env)).any (·.1) = false := by rfl) :
    PE X (.Call (.Name x p) (e :: es) [] pos) (tCall sp [] E t) := by
  obtain ⟨fd, F, b⟩ := c.ex
  exact pe_call F hr hg hm c.kp b .nil hx ha hdb he hpl
/-- o.m(e, ..) -/
theorem pe_m {pl : Sem Bool} (he : PE X o ta) (c : Cls X.K C) (hm : Meth X.K C m f) (F : Fnc X.prog X.w X.K X.mg X.base CX k f ps sp) (hr : Room k X.A) (hx : Passes CX X E) (ha : PA X (e :: es) t)
    (hst : starEach (e :: es) X.env = (false, eval e X.env) :: starEach es X.env := by rfl) (hpl : (backTo pos (starEach es X.env)).any (·.1) = false := by rfl)
    (ht : eval (.Call (.Attribute o m apos) (e :: es) [] pos) X.env = (do
      let ov ← eval o X.env
      standAt apos.atName
      let (f, first) ← holding [ov] (getMethod ov m pl)
      callWith pos f first (backTo pos (starEach (e :: es) X.env)) (backToKw pos (keywordEach [] X.env))) := by rfl) :
    PE X (.Call (.Attribute o m apos) (e :: es) [] pos) (tMeth C m sp [] E ta t) := by
  obtain ⟨fd, F, b⟩ := F.ex
  exact pe_meth he c hm F hr b .nil hx ha hst hpl ht
/-- o.m() -/
theorem pe_m0 {pl : Sem Bool} (he : PE X o ta) (c : Cls X.K C) (hm : Meth X.K C m f) (F : Fnc X.prog X.w X.K X.mg X.base CX k f ps sp) (hr : Room k X.A) (hx : Passes CX X E)
    (ht : eval (.Call (.Attribute o m apos) [] [] pos) X.env = (do
      let ov ← eval o X.env
      standAt apos.atName
      let (f, first) ← holding [ov] (getMethod ov m pl)
      callWith pos f first (backTo pos (starEach [] X.env)) (backToKw pos (keywordEach [] X.env))) := by rfl) :
    PE X (.Call (.Attribute o m apos) [] [] pos) (tMeth C m sp [] E ta tNil) := by
  obtain ⟨fd, F, b⟩ := F.ex
  exact pe_meth0 he c hm F hr b .nil hx ht
/-- C(e, ..) -/
theorem pe_mk {fi : Addr} (M : Mk X.K C fi) (c : Fnc X.prog X.w X.K X.mg X.base CX k fi ps sp) (hm : X.mg x = some (.ref C)) (hr : Room (k + 1) X.A) (hx : Passes CX X E) (ha : PA X (e :: es) t) (hg : Gl X x := by rfl)
    (hdb : (x == ("__debug__" : Str)) = false := by decide) (he : starEach (e :: es) X.env = (false, eval e X.env) :: starEach es X.env := by rfl) (hpl : (backTo pos (starEach es X.env)).any (·.1) = false := by rfl) :
    PE X (.Call (.Name x p) (e :: es) [] pos) (tMake C sp [] E t) := by
  obtain ⟨fd, F, b⟩ := c.ex
  exact pe_make M F hr hg hm b .nil hx ha hdb he hpl
end
/-- the reading of a thing's truth -/
def tTru (K : Kf) (ta : TE) : TT := fun σ H Q => ta σ H fun x H' => ∃ k, TruV K x H' k ∧ Q k H'
/-! ### heaps -/
def IsT (u : HO) : Prop := ∃ xs, u = .tup xs
/-- what was tracked stands, but for the addresses at o, which stand in some form; tuples stand always -/
def Ch (o : List Addr) (H H' : Hp) : Prop := ∀ b u, H b = some u → (b ∉ o ∨ IsT u → H' b = some u) ∧ ∃ u', H' b = some u'
section
variable {o o' : List Addr} {H H1 H2 : Hp} {a b : Addr} {u u0 : HO}
theorem Ch.refl (o : List Addr) (H : Hp) : Ch o H H := fun b u e => ⟨fun _ => e, u, e⟩
theorem Ch.at (c : Ch o H H1) (e : H b = some u) (n : b ∉ o) : H1 b = some u := (c b u e).1 (.inl n)
theorem Ch.tup {xs : List V} (c : Ch o H H1) (e : H b = some (.tup xs)) : H1 b = some (.tup xs) := (c b _ e).1 (.inr ⟨xs, rfl⟩)
theorem Ch.free (c : Ch o H H1) (e : H1 b = none) : H b = none := by
  cases q : H b with
  | none => rfl
  | some u =>
    obtain ⟨_, u', z⟩ := c b u q
    rw [e] at z
    cases z
theorem Ch.trans (c : Ch o H H1) (d : Ch o H1 H2) : Ch o H H2 := fun b u e => by
  have z := c b u e
  obtain ⟨u1, h2⟩ := z.2
  exact ⟨fun n => (d b u (z.1 n)).1 n, (d b u1 h2).2⟩
theorem Ch.mono (c : Ch o H H1) (s : ∀ b ∈ o, b ∈ o' ∨ H b = none) : Ch o' H H1 := fun b u e => by
  obtain ⟨h1, h2⟩ := c b u e
  exact ⟨fun n => h1 (n.imp (fun n m => (s b m).elim n fun z => (by rw [e] at z; cases z)) id), h2⟩
/-- the second change may touch what the first made -/
theorem Ch.thenNew (c : Ch o H H1) (d : Ch o' H1 H2) (s : ∀ b ∈ o', b ∈ o ∨ H b = none) : Ch o H H2 := fun b u e => by
  have q := c b u e
  obtain ⟨u1, h2⟩ := q.2
  exact ⟨fun n => (d b u (q.1 n)).1 (n.imp (fun n m => (s b m).elim n fun z => (by rw [e] at z; cases z)) id), (d b u1 h2).2⟩
theorem Ch.same (c : Ch [] H H1) : Evl.Ex H H1 := fun b u e => c.at e (by simp)
theorem _root_.Evl.Ex.ch (s : Evl.Ex H H1) (o : List Addr) : Ch o H H1 := fun b u e => ⟨fun _ => s b u e, u, s b u e⟩
theorem Ch.new (e : H a = none) (u : HO) (o : List Addr) : Ch o H (upd H a u) := (Evl.Ex.new e).ch o
theorem Ch.upd (q : H a = some u0) (n : ¬ IsT u0) (u : HO) (m : a ∈ o) : Ch o H (L2.upd H a u) := fun b v q2 => by
  by_cases h : b = a
  · subst h
    rw [q] at q2
    cases q2
    exact ⟨fun z => (z.elim (fun z => absurd m z) fun z => absurd z n), u, upd_same⟩
  · rw [upd_ne h]
    exact ⟨fun _ => q2, v, q2⟩
theorem Ch.updL {xs : List V} (q : H a = some (.lst xs)) (u : HO) (m : a ∈ o) : Ch o H (L2.upd H a u) := Ch.upd q (fun ⟨_, z⟩ => by cases z) u m
theorem Ch.updK {xs : List (Key × V)} (q : H a = some (.dK xs)) (u : HO) (m : a ∈ o) : Ch o H (L2.upd H a u) := Ch.upd q (fun ⟨_, z⟩ => by cases z) u m
theorem Ch.updI {C dx : Addr} {fs : List (Str × V)} (q : H a = some (.ins C dx fs)) (u : HO) (m : a ∈ o) : Ch o H (L2.upd H a u) := Ch.upd q (fun ⟨_, z⟩ => by cases z) u m
end
/-- a step: o may have changed; o' is what then may change -/
structure Stp (o : List Addr) (H : Hp) (o' : List Addr) (H' : Hp) : Prop where
  ch : Ch o H H'
  own : ∀ b ∈ o', b ∈ o ∨ H b = none
def Dj (o p : List Addr) : Prop := ∀ b ∈ o, b ∉ p
def Tr (o : List Addr) (H : Hp) : Prop := ∀ b ∈ o, H b ≠ none
section
variable {o o1 o2 p q : List Addr} {H H1 H2 : Hp}
theorem Stp.refl (o : List Addr) (H : Hp) : Stp o H o H := ⟨Ch.refl o H, fun b m => .inl m⟩
theorem Stp.trans (a : Stp o H o1 H1) (b : Stp o1 H1 o2 H2) : Stp o H o2 H2 :=
  ⟨a.ch.thenNew b.ch a.own, fun x m => (b.own x m).elim (a.own x) fun z => .inr (a.ch.free z)⟩
theorem Stp.ex (e : Evl.Ex H H1) : Stp o H o H1 := ⟨e.ch o, fun b m => .inl m⟩
theorem Stp.mono (a : Stp o H o1 H1) (s : ∀ b ∈ o, b ∈ p) : Stp p H o1 H1 := ⟨a.ch.mono fun b m => .inl (s b m), fun b m => (a.own b m).imp (s b) id⟩
theorem Dj.step (d : Dj q o) (t : Tr q H) (s : Stp o H o1 H1) : Dj q o1 := fun b m n => (s.own b n).elim (d b m) (t b m)
theorem Dj.symm (d : Dj q o) : Dj o q := fun b m n => d b n m
theorem Tr.step (t : Tr q H) (c : Ch o H H1) : Tr q H1 := fun b m z => t b m (c.free z)
theorem Tr.new (t : Tr q H) (n : ∀ b ∈ p, H b = none) : Dj q p := fun b m k => t b m (n b k)
theorem Dj.app (a : Dj q o) (b : Dj q p) : Dj q (o ++ p) := fun x m n => (List.mem_append.1 n).elim (a x m) (b x m)
theorem Dj.appL (a : Dj q o) (b : Dj p o) : Dj (q ++ p) o := fun x m n => (List.mem_append.1 m).elim (fun z => a x z n) fun z => b x z n
theorem Tr.app (a : Tr q H) (b : Tr p H) : Tr (q ++ p) H := fun x m => (List.mem_append.1 m).elim (a x) (b x)
end
/-! ### steps -/
section
variable {σ : L2.St} {H : Hp} {D : Ends} {t u : TS} {te ta tb : TE} {g : TG} {tt tc : TT} {Q : VK} {QB : Bool → Hp → Prop} {v x y : V} {i j : Int}
theorem r_seq (h : t { D with nx := u D } σ H) : tSeq t u D σ H := h
theorem r_asg (h : te σ H fun x H1 => g x σ H1 D.nx) : tAsg te g D σ H := h
theorem r_ret (h : te σ H D.rt) : tRet te D σ H := h
theorem r_drop (h : te σ H fun _ H1 => D.nx σ H1) : tDrop te D σ H := h
theorem r_next (h : D.nx σ H) : tNext D σ H := h
theorem r_ifS (h : tc σ H fun b H1 => if b = true then t D σ H1 else u D σ H1) : tIfS tc t u D σ H := h
theorem r_name {n : Nat} {G : L2.St → Hp → Prop} (h : G (σ.set n (some v)) H) : gName n v σ H G := h
theorem r_var {n : Nat} (e : σ[n]? = some (some v)) (h : Q v H) : tVar n σ H Q := ⟨v, e, h⟩
theorem r_c (h : Q v H) : tC v σ H Q := h
theorem r_op {r : R2} (h : ta σ H fun x H1 => tb σ H1 fun y H2 => r x y H2 Q) : tOp r ta tb σ H Q := h
theorem r_un {r : V → Hp → VK → Prop} (h : ta σ H fun x H1 => r x H1 Q) : tUn r ta σ H Q := h
theorem r_U {g : Int → V} (h : Q (g i) H) : rU g (.int i) H Q := ⟨i, rfl, h⟩
theorem r_test (h : te σ H fun x H' => ∃ k, x = .bl k ∧ QB k H') : tTest te σ H QB := h
theorem r_B (h : te σ H fun x H' => ∃ k, x = .bl k ∧ QB k H') : tB te σ H QB := h
theorem r_bl {k : Bool} (h : QB k H) : ∃ k', V.bl k = .bl k' ∧ QB k' H := ⟨k, rfl, h⟩
theorem r_and (h : tt σ H fun c H1 => if c = true then tc σ H1 QB else QB false H1) : tAnd tt tc σ H QB := h
theorem r_or (h : tt σ H fun c H1 => if c = true then QB true H1 else tc σ H1 QB) : tOr tt tc σ H QB := h
theorem r_not (h : tt σ H fun c H1 => QB (!c) H1) : tNot tt σ H QB := h
theorem r_cons {tr : TA} {QA : List V → Hp → Prop} (h : ta σ H fun x H1 => tr σ H1 fun xs H2 => QA (x :: xs) H2) : tCons ta tr σ H QA := h
theorem r_nil {QA : List V → Hp → Prop} (h : QA [] H) : tNil σ H QA := h
theorem r_CB {r : List V → Hp → VK → Prop} {tl : TA} (h : tl σ H fun vs H1 => r vs H1 Q) : tCB r tl σ H Q := h
theorem r_I0 {g : Int → Int → V} (h : Q (g i j) H) : rI0 g (.int i) (.int j) H Q := ⟨i, j, rfl, rfl, h⟩
theorem r_I {C : Int → Int → Prop} {g : Int → Int → V} (c : C i j) (h : Q (g i j) H) : rI C g (.int i) (.int j) H Q := ⟨i, j, rfl, rfl, c, h⟩
theorem r_eq (s : scal x y = true) (h : Q (.bl (decide (x = y))) H) : rEq x y H Q := ⟨s, h⟩
theorem r_ne (s : scal x y = true) (h : Q (.bl (!decide (x = y))) H) : rNe x y H Q := ⟨s, h⟩
theorem r_isN (h : Q (.bl (decide (x = .non))) H) : rIsN x .non H Q := ⟨rfl, h⟩
theorem r_notN (h : Q (.bl (!decide (x = .non))) H) : rNotN x .non H Q := ⟨rfl, h⟩
theorem r_call {sp : Sp} {dvs : List V} {E : XK} {tl : TA} (h : tl σ H fun vs H1 => sp (vs ++ dvs) H1 Q E) : tCall sp dvs E tl σ H Q := h
theorem r_dget {td : TE} (h : td σ H fun x H1 => ta σ H1 fun y H2 => ∃ a v, x = .ref a ∧ DGet H2 a y (some v) ∧ Q v H2) : tDGet td ta σ H Q := h
theorem r_dgetK {a : Addr} {kvs : List (Key × V)} {z : Str} (hd : H a = some (.dK kvs)) (hv : valV kvs (Sum.inr z) = some v) (h : Q v H) : ∃ a' v', V.ref a = .ref a' ∧ DGet H a' (.str z) (some v') ∧ Q v' H :=
  ⟨a, v, rfl, by rw [← hv]; exact DGet.k (k := Sum.inr z) hd, h⟩
theorem r_dput {td : TE} (h : te σ H fun v H1 => td σ H1 fun x H2 => ta σ H2 fun y H3 => ∃ a H4, x = .ref a ∧ DPut H3 a y v H4 ∧ D.nx σ H4) : sDPut td ta te D σ H := h
theorem r_dputK {a : Addr} {kvs kvs' : List (Key × V)} {z : Str} {G : Hp → Prop} (hd : H a = some (.dK kvs)) (hl : kvs.length < sizeLine) (e : putK kvs (Sum.inr z) v = kvs') (h : ∀ H', H' a = some (.dK kvs') → Ch [a] H H' → G H') :
    ∃ a' H4, V.ref a = .ref a' ∧ DPut H a' (.str z) v H4 ∧ G H4 :=
  ⟨a, _, rfl, DPut.k (k := Sum.inr z) hd hl, h _ (by rw [e]; exact upd_same) (Ch.updK hd _ (by simp))⟩
theorem r_fld {K : Kf} {f : Str} (h : ta σ H fun x H1 => ∃ a C dx fs v, x = .ref a ∧ H1 a = some (.ins C dx fs) ∧ Cls K C ∧ NoAttr K C f ∧ fs.lookup f = some v ∧ Q v H1) : tFld K ta f σ H Q := h
theorem r_fldK {K : Kf} {f : Str} {a C dx : Addr} {fs : List (Str × V)} (ho : H a = some (.ins C dx fs)) (hc : Cls K C) (hn : NoAttr K C f) (hl : fs.lookup f = some v) (h : Q v H) :
    ∃ a' C' dx' fs' v', V.ref a = .ref a' ∧ H a' = some (.ins C' dx' fs') ∧ Cls K C' ∧ NoAttr K C' f ∧ fs'.lookup f = some v' ∧ Q v' H := ⟨a, C, dx, fs, v, rfl, ho, hc, hn, hl, h⟩
theorem r_meth {C : Addr} {m : Str} {sp : Sp} {dvs : List V} {E : XK} {tl : TA} (h : ta σ H fun x H1 => ∃ a dx fs, x = .ref a ∧ H1 a = some (.ins C dx fs) ∧ fs.lookup m = none ∧ tl σ H1 fun vs H2 => sp (x :: (vs ++ dvs)) H2 Q E) : tMeth C m sp dvs E ta tl σ H Q := h
theorem r_methK {C a dx : Addr} {m : Str} {fs : List (Str × V)} {G : Hp → Prop} (ho : H a = some (.ins C dx fs)) (hl : fs.lookup m = none) (h : G H) : ∃ a' dx' fs', V.ref a = .ref a' ∧ H a' = some (.ins C dx' fs') ∧ fs'.lookup m = none ∧ G H := ⟨a, dx, fs, rfl, ho, hl, h⟩
theorem r_setfld {K : Kf} {f : Str} (h : te σ H fun y H1 => ta σ H1 fun x H2 => ∃ a C dx fs, x = .ref a ∧ H2 a = some (.ins C dx fs) ∧ Cls K C ∧ NoAttr K C f ∧ fs.length < 1000 ∧ D.nx σ (upd H2 a (.ins C dx (putF f y fs)))) : sFld K ta te f D σ H := h
theorem r_setfldK {K : Kf} {f : Str} {a C dx : Addr} {fs fs' : List (Str × V)} {G : Hp → Prop} (ho : H a = some (.ins C dx fs)) (hc : Cls K C) (hn : NoAttr K C f) (hz : fs.length < 1000) (e : putF f y fs = fs') (h : ∀ H', H' a = some (.ins C dx fs') → Ch [a] H H' → G H') :
    ∃ a' C' dx' fs', V.ref a = .ref a' ∧ H a' = some (.ins C' dx' fs') ∧ Cls K C' ∧ NoAttr K C' f ∧ fs'.length < 1000 ∧ G (upd H a' (.ins C' dx' (putF f y fs'))) :=
  ⟨a, C, dx, fs, rfl, ho, hc, hn, hz, h _ (by rw [e]; exact upd_same) (Ch.updI ho _ (by simp))⟩
theorem r_ixL {K : Kf} {p : Addr} {xs : List V} (hs : SqL K H p xs) (ha : atI xs i = some v) (h : Q v H) : rIxL K (.ref p) (.int i) H Q := ⟨p, xs, i, v, rfl, rfl, hs, ha, h⟩
theorem r_ixT {K : Kf} {p : Addr} {xs : List V} (hs : SqT K H p xs) (ha : atI xs i = some v) (h : Q v H) : rIxT K (.ref p) (.int i) H Q := ⟨p, xs, i, v, rfl, rfl, hs, ha, h⟩
theorem r_ixS {z : Str} {c : Nat} (hz : z.length ≤ sizeLine) (ha : atI z.cps.toList i = some c) (h : Q (.str ⟨#[c]⟩) H) : rIxS (.str z) (.int i) H Q := ⟨z, i, c, rfl, rfl, hz, ha, h⟩
theorem r_int1 (h : Q (.int i) H) : (∃ i', [V.int i] = [.int i'] ∧ Q (.int i') H) ∨ ∃ k, [V.int i] = [.bl k] ∧ Q (.int (if k then 1 else 0)) H := .inl ⟨i, rfl, h⟩
theorem r_lenL {K : Kf} {p : Addr} {xs : List V} (hs : SqL K H p xs) (h : Q (.int xs.length) H) : ∃ p' ys, [V.ref p] = [.ref p'] ∧ (SqL K H p' ys ∨ SqT K H p' ys) ∧ Q (.int ys.length) H := ⟨p, xs, rfl, .inl hs, h⟩
theorem r_lenT {K : Kf} {p : Addr} {xs : List V} (hs : SqT K H p xs) (h : Q (.int xs.length) H) : ∃ p' ys, [V.ref p] = [.ref p'] ∧ (SqL K H p' ys ∨ SqT K H p' ys) ∧ Q (.int ys.length) H := ⟨p, xs, rfl, .inr hs, h⟩
theorem r_ifE (h : tt σ H fun c H1 => if c = true then ta σ H1 Q else tb σ H1 Q) : tIf tt ta tb σ H Q := h
theorem r_andV (h : ta σ H fun x H1 => ∃ c, x = .bl c ∧ if c = true then tb σ H1 Q else Q (.bl false) H1) : tAndV ta tb σ H Q := h
theorem r_orV (h : ta σ H fun x H1 => ∃ c, x = .bl c ∧ if c = true then Q (.bl true) H1 else tb σ H1 Q) : tOrV ta tb σ H Q := h
theorem r_notV (h : ta σ H fun x H1 => ∃ c, x = .bl c ∧ Q (.bl (!c)) H1) : tNotV ta σ H Q := h
theorem r_blS {k : Bool} {G : Bool → Prop} (h : G k) : ∃ k', V.bl k = .bl k' ∧ G k' := ⟨k, rfl, h⟩
theorem iteD {p A B : Prop} [Decidable p] (h1 : p → A) (h2 : ¬ p → B) : if decide p = true then A else B := by
  by_cases h : p
  · rw [decide_eq_true h]
    exact iteT (h1 h)
  · rw [decide_eq_false h]
    exact iteF (h2 h)
theorem iteND {p A B : Prop} [Decidable p] (h1 : ¬ p → A) (h2 : p → B) : if (!decide p) = true then A else B := by
  by_cases h : p
  · rw [decide_eq_true h]
    exact iteF (h2 h)
  · rw [decide_eq_false h]
    exact iteT (h1 h)
theorem iteB {b : Bool} {A B : Prop} (h1 : b = true → A) (h2 : b = false → B) : if b = true then A else B := by
  cases b with
  | true => exact iteT (h1 rfl)
  | false => exact iteF (h2 rfl)
end
theorem small_lt {n : Nat} (h : n ≤ 100000) : n < sizeLine := Nat.lt_of_le_of_lt h (by decide)
theorem small_le {n : Nat} (h : n ≤ 100000) : n ≤ sizeLine := Nat.le_of_lt (small_lt h)
end CLg
end

section
/-! The log of segments, in plain Lean: what both sides compute, and what stays true of it. -/
namespace CLg
open PySem
structure Lg where
  rows : List (List (Option Str))
  head : Nat
  frees : List Nat
def liv (r : List (Option Str)) : List Nat := (List.range r.length).filter fun i => (r.getD i none).isSome
def alive (r : List (Option Str)) : Nat := (liv r).length
def Lg.row (g : Lg) (s : Nat) : List (Option Str) := g.rows.getD s []
def shut (g : Lg) : List Nat := (List.range g.rows.length).filter fun s => decide (s ≠ g.head) && decide (0 < alive (g.row s))
def empt (g : Lg) : List Nat := (List.range g.rows.length).filter fun s => decide ((g.row s).length = 0)
def free (g : Lg) : List Nat := (List.range g.rows.length).filter fun s => decide ((g.row s).length = 0) && decide (s ≠ g.head)
def room (w : Nat) (g : Lg) : Int := ((w : Int) - (g.row g.head).length) + w * (free g).length
def app (k : Str) (g : Lg) : Lg := { g with rows := g.rows.set g.head (g.row g.head ++ [some k]) }
def turn (w : Nat) (g : Lg) : Lg := if (g.row g.head).length = w then { g with head := (free g).getD 0 0 } else g
def write (w : Nat) (k : Str) (g : Lg) : Lg := app k (turn w g)
def kill (s j : Nat) (g : Lg) : Lg :=
  if alive ((g.row s).set j none) = 0 then { g with rows := g.rows.set s [], frees := g.frees.set s (g.frees.getD s 0 + 1) }
  else { g with rows := g.rows.set s ((g.row s).set j none) }
def fstAt (g : Lg) (p : Nat) : Nat := (liv (g.row p)).getD 0 0
def keyAt (g : Lg) (s j : Nat) : Str := ((g.row s).getD j none).getD ""
def move (w p : Nat) (g : Lg) : Lg := kill p (fstAt g p) (write w (keyAt g p (fstAt g p)) g)
def total (g : Lg) : Nat := (g.rows.map alive).sum
structure Ok (w : Nat) (g : Lg) : Prop where
  n1 : 1 ≤ g.rows.length
  n8 : g.rows.length ≤ 8
  w1 : 1 ≤ w
  w8 : w ≤ 8
  hd : g.head < g.rows.length
  fr : g.frees.length = g.rows.length
  le : ∀ s, (g.row s).length ≤ w
section
variable {w s j p : Nat} {g : Lg} {k : Str} {r : List (Option Str)}
theorem row_set (h : s < g.rows.length) (f : List Nat) (hd : Nat) (q : Nat) : Lg.row { rows := g.rows.set s r, head := hd, frees := f } q = if q = s then r else g.row q := by
  unfold Lg.row
  simp only [List.getD_eq_getElem?_getD, List.getElem?_set]
  by_cases e : s = q
  · subst e; simp [h]
  · simp [e, Ne.symm e]
theorem row_out (h : g.rows.length ≤ s) : g.row s = [] := by
  unfold Lg.row; rw [List.getD_eq_getElem?_getD, List.getElem?_eq_none h]; rfl
theorem row_lt (h : g.row s ≠ []) : s < g.rows.length := Nat.lt_of_not_le fun z => h (row_out z)
theorem mem_shut : p ∈ shut g ↔ p < g.rows.length ∧ p ≠ g.head ∧ 0 < alive (g.row p) := by
  unfold shut; simp [List.mem_filter]
theorem mem_free : p ∈ free g ↔ p < g.rows.length ∧ (g.row p).length = 0 ∧ p ≠ g.head := by
  unfold free; simp [List.mem_filter]
theorem mem_empt : p ∈ empt g ↔ p < g.rows.length ∧ (g.row p).length = 0 := by
  unfold empt; simp [List.mem_filter]
theorem mem_liv : j ∈ liv r ↔ j < r.length ∧ (r.getD j none).isSome = true := by
  unfold liv; simp [List.mem_filter]
theorem liv_len : (liv r).length ≤ r.length := by
  unfold liv; exact Nat.le_trans (List.length_filter_le _ _) (by simp)
theorem alive_le : alive r ≤ r.length := liv_len
theorem shut_len : (shut g).length ≤ g.rows.length := by
  unfold shut; exact Nat.le_trans (List.length_filter_le _ _) (by simp)
theorem empt_len : (empt g).length ≤ g.rows.length := by
  unfold empt; exact Nat.le_trans (List.length_filter_le _ _) (by simp)
theorem free_len : (free g).length ≤ g.rows.length := by
  unfold free; exact Nat.le_trans (List.length_filter_le _ _) (by simp)
theorem free_eq : free g = (empt g).filter fun s => decide (s ≠ g.head) := by
  unfold free empt
  rw [List.filter_filter]
  apply List.filter_congr
  intro s _
  exact Bool.and_comm _ _
theorem free_full (o : Ok w g) (h : (g.row g.head).length = w) : free g = empt g := by
  rw [free_eq, List.filter_eq_self]
  intro s m
  have h1 := mem_empt.1 m
  have h2 := o.w1
  simp only [decide_eq_true_eq]
  intro e
  rw [e] at h1
  omega
theorem room_nn (o : Ok w g) : 0 ≤ room w g := by
  have h := o.le g.head
  unfold room
  have h2 : (0 : Int) ≤ (w : Int) * ((free g).length : Int) := Int.mul_nonneg (by omega) (by omega)
  omega
theorem free_some (h : room w g ≠ 0) (f : (g.row g.head).length = w) : (free g)[0]? = some ((free g).getD 0 0) := by
  cases e : free g with
  | nil =>
    unfold room at h
    rw [e, f] at h
    simp at h
  | cons a t => simp
theorem getD_mem {l : List Nat} (h : l ≠ []) : l.getD 0 0 ∈ l := by
  cases l with
  | nil => exact absurd rfl h
  | cons a t => simp
theorem fst_mem (h : 0 < alive r) : (liv r).getD 0 0 ∈ liv r := getD_mem fun e => by unfold alive at h; rw [e] at h; simp at h
theorem key_at (h : 0 < alive (g.row p)) : (g.row p)[fstAt g p]? = some (some (keyAt g p (fstAt g p))) := by
  have h1 := mem_liv.1 (fst_mem h)
  have h2 : (g.row p)[fstAt g p]? = some ((g.row p).getD (fstAt g p) none) := by
    rw [List.getD_eq_getElem?_getD, List.getElem?_eq_getElem (show fstAt g p < _ from h1.1)]
    rfl
  rw [h2]
  unfold keyAt
  have h3 : ((g.row p).getD (fstAt g p) none).isSome = true := h1.2
  cases e : (g.row p).getD (fstAt g p) none with
  | none => rw [e] at h3; cases h3
  | some k => rfl
/-! ### what stays true -/
theorem ok_turn (o : Ok w g) (h : room w g ≠ 0) : Ok w (turn w g) ∧ ((turn w g).row (turn w g).head).length < w := by
  unfold turn
  by_cases f : (g.row g.head).length = w
  · rw [if_pos f]
    have m : (free g).getD 0 0 ∈ free g := getD_mem fun e => by
      have z := free_some h f
      rw [e] at z
      simp at z
    have m2 := mem_free.1 m
    refine ⟨⟨o.n1, o.n8, o.w1, o.w8, m2.1, o.fr, o.le⟩, ?_⟩
    show (g.row ((free g).getD 0 0)).length < w
    rw [m2.2.1]
    exact o.w1
  · rw [if_neg f]
    exact ⟨o, Nat.lt_of_le_of_ne (o.le _) f⟩
theorem ok_app (o : Ok w g) (h : (g.row g.head).length < w) : Ok w (app k g) := by
  refine ⟨?_, ?_, o.w1, o.w8, ?_, ?_, ?_⟩
  · show 1 ≤ (g.rows.set _ _).length; rw [List.length_set]; exact o.n1
  · show (g.rows.set _ _).length ≤ 8; rw [List.length_set]; exact o.n8
  · show g.head < (g.rows.set _ _).length; rw [List.length_set]; exact o.hd
  · show g.frees.length = (g.rows.set _ _).length; rw [List.length_set]; exact o.fr
  · intro q
    show (Lg.row { rows := g.rows.set g.head (g.row g.head ++ [some k]), head := g.head, frees := g.frees } q).length ≤ w
    rw [row_set o.hd]
    split
    · simp; omega
    · exact o.le q
theorem ok_set (o : Ok w g) (hs : s < g.rows.length) (hr : r.length ≤ w) {f : List Nat} (hf : f.length = g.rows.length) : Ok w { rows := g.rows.set s r, head := g.head, frees := f } := by
  refine ⟨?_, ?_, o.w1, o.w8, ?_, ?_, ?_⟩
  · show 1 ≤ (g.rows.set _ _).length; rw [List.length_set]; exact o.n1
  · show (g.rows.set _ _).length ≤ 8; rw [List.length_set]; exact o.n8
  · show g.head < (g.rows.set _ _).length; rw [List.length_set]; exact o.hd
  · show f.length = (g.rows.set _ _).length; rw [List.length_set]; exact hf
  · intro q
    rw [row_set hs]
    split
    · exact hr
    · exact o.le q
theorem ok_write (o : Ok w g) (h : room w g ≠ 0) : Ok w (write w k g) := ok_app (ok_turn o h).1 (ok_turn o h).2
theorem ok_kill (o : Ok w g) (hs : s < g.rows.length) : Ok w (kill s j g) := by
  unfold kill
  split
  · refine ⟨?_, ?_, o.w1, o.w8, ?_, ?_, ?_⟩
    · show 1 ≤ (g.rows.set _ _).length; rw [List.length_set]; exact o.n1
    · show (g.rows.set _ _).length ≤ 8; rw [List.length_set]; exact o.n8
    · show g.head < (g.rows.set _ _).length; rw [List.length_set]; exact o.hd
    · show (g.frees.set _ _).length = (g.rows.set _ _).length; rw [List.length_set, List.length_set]; exact o.fr
    · intro q
      rw [row_set hs]
      split
      · simp
      · exact o.le q
  · refine ⟨?_, ?_, o.w1, o.w8, ?_, ?_, ?_⟩
    · show 1 ≤ (g.rows.set _ _).length; rw [List.length_set]; exact o.n1
    · show (g.rows.set _ _).length ≤ 8; rw [List.length_set]; exact o.n8
    · show g.head < (g.rows.set _ _).length; rw [List.length_set]; exact o.hd
    · show g.frees.length = (g.rows.set _ _).length; rw [List.length_set]; exact o.fr
    · intro q
      rw [row_set hs]
      split
      · rw [List.length_set]; exact o.le s
      · exact o.le q
theorem len_turn : (turn w g).rows.length = g.rows.length := by unfold turn; split <;> rfl
theorem len_write : (write w k g).rows.length = g.rows.length := by
  show ((turn w g).rows.set _ _).length = _
  rw [List.length_set]
  exact len_turn
theorem len_kill : (kill s j g).rows.length = g.rows.length := by
  unfold kill
  split
  · show (g.rows.set _ _).length = _; rw [List.length_set]
  · show (g.rows.set _ _).length = _; rw [List.length_set]
theorem row_turn : (turn w g).row s = g.row s := by unfold turn; split <;> rfl
theorem row_write (o : Ok w g) (h : room w g ≠ 0) : (write w k g).row s = if s = (turn w g).head then g.row s ++ [some k] else g.row s := by
  show Lg.row { rows := (turn w g).rows.set (turn w g).head ((turn w g).row (turn w g).head ++ [some k]), head := (turn w g).head, frees := (turn w g).frees } s = _
  rw [row_set (ok_turn o h).1.hd]
  split
  · next e => rw [row_turn, e]
  · exact row_turn
theorem head_turn (o : Ok w g) (h : room w g ≠ 0) : (turn w g).head = g.head ∨ (g.row (turn w g).head).length = 0 := by
  unfold turn
  by_cases f : (g.row g.head).length = w
  · rw [if_pos f]
    right
    exact (mem_free.1 (getD_mem fun e => by
      have z := free_some h f
      rw [e] at z
      simp at z)).2.1
  · rw [if_neg f]; exact .inl rfl
theorem row_write_shut (o : Ok w g) (h : room w g ≠ 0) (m : p ∈ shut g) : (write w k g).row p = g.row p := by
  rw [row_write o h, if_neg]
  intro e
  have m1 := mem_shut.1 m
  rcases head_turn o h with z | z
  · exact m1.2.1 (e.trans z)
  · rw [← e] at z
    have := alive_le (r := g.row p)
    omega
theorem at_write (o : Ok w g) (h : room w g ≠ 0) {x : Option Str} (e : (g.row s)[j]? = some x) : ((write w k g).row s)[j]? = some x := by
  rw [row_write o h]
  split
  · rw [List.getElem?_append_left]
    · exact e
    · exact (List.getElem?_eq_some_iff.1 e).1
  · exact e
theorem ok_move (o : Ok w g) (h : room w g ≠ 0) (m : p ∈ shut g) : Ok w (move w p g) := ok_kill (ok_write o h) (by rw [len_write]; exact (mem_shut.1 m).1)
/-! ### the living keys -/
def rk (r : List (Option Str)) : List Str := r.filterMap id
def keysOf (l : List (List (Option Str))) : List Str := l.flatMap rk
def keys (g : Lg) : List Str := keysOf g.rows
theorem keysOf_set : ∀ {l : List (List (Option Str))} {s : Nat} {r r' : List (Option Str)}, l[s]? = some r → (keysOf (l.set s r') ++ rk r).Perm (keysOf l ++ rk r')
  | [], s, r, r', e => by simp at e
  | x :: l, 0, r, r', e => by
    have e : x = r := by simpa using e
    subst e
    refine List.perm_iff_count.2 fun a => ?_
    simp only [keysOf, List.set_cons_zero, List.flatMap_cons, List.count_append]
    omega
  | x :: l, s + 1, r, r', e => by
    have ih := List.perm_iff_count.1 (keysOf_set (l := l) (s := s) (r := r) (r' := r') (by simpa using e))
    refine List.perm_iff_count.2 fun a => ?_
    have := ih a
    simp only [keysOf, List.set_cons_succ, List.flatMap_cons, List.count_append] at this ⊢
    omega
theorem row_get (h : s < g.rows.length) : g.rows[s]? = some (g.row s) := by
  unfold Lg.row
  rw [List.getD_eq_getElem?_getD, List.getElem?_eq_getElem h]
  rfl
theorem keys_app (h : g.head < g.rows.length) : (keys (app k g)).Perm (k :: keys g) := by
  have z := List.perm_iff_count.1 (keysOf_set (r' := g.row g.head ++ [some k]) (row_get h))
  refine List.perm_iff_count.2 fun a => ?_
  have := z a
  have e : rk (g.row g.head ++ [some k]) = rk (g.row g.head) ++ [k] := by unfold rk; simp
  rw [e] at this
  show List.count a (keysOf (g.rows.set g.head (g.row g.head ++ [some k]))) = List.count a (k :: keysOf g.rows)
  have e2 : List.count a (k :: keysOf g.rows) = List.count a (keysOf g.rows) + List.count a [k] := by
    rw [← List.count_append]
    exact List.Perm.count_eq (List.perm_append_comm (l₁ := [k]) (l₂ := keysOf g.rows)) a
  rw [e2]
  simp only [List.count_append] at this
  omega
theorem keys_write (o : Ok w g) (h : room w g ≠ 0) : (keys (write w k g)).Perm (k :: keys g) := by
  have e : keys (turn w g) = keys g := by unfold turn; split <;> rfl
  rw [← e]
  exact keys_app (ok_turn o h).1.hd
theorem rk_set : ∀ {r : List (Option Str)} {j : Nat} {k : Str}, r[j]? = some (some k) → (k :: rk (r.set j none)).Perm (rk r)
  | [], j, k, e => by simp at e
  | x :: r, 0, k, e => by
    have e : x = some k := by simpa using e
    subst e
    exact List.Perm.refl _
  | x :: r, j + 1, k, e => by
    have ih := rk_set (r := r) (j := j) (k := k) (by simpa using e)
    cases x with
    | none => exact ih
    | some y =>
      show (k :: y :: rk (r.set j none)).Perm (y :: rk r)
      exact (List.Perm.swap y k _).trans (ih.cons y)
theorem liv_eq (r : List (Option Str)) : alive r = (rk r).length := by
  unfold alive liv rk
  induction r with
  | nil => rfl
  | cons x r ih =>
    rw [List.length_cons, List.range_succ_eq_map, List.filter_cons]
    have e : (List.filter (fun i => ((x :: r).getD i none).isSome) (List.map Nat.succ (List.range r.length))).length = (List.filter (fun i => (r.getD i none).isSome) (List.range r.length)).length := by
      rw [List.filter_map, List.length_map]
      rfl
    cases x with
    | none => simpa using (e.trans ih)
    | some y => simpa using (e.trans ih)
theorem keys_kill (h : (g.row s)[j]? = some (some k)) : (k :: keys (kill s j g)).Perm (keys g) := by
  have hs : s < g.rows.length := row_lt fun e => by rw [e] at h; simp at h
  have h1 := rk_set h
  have e : keys (kill s j g) = keysOf (g.rows.set s (if alive ((g.row s).set j none) = 0 then [] else (g.row s).set j none)) := by
    unfold kill
    split <;> rfl
  rw [e]
  have e2 : rk (if alive ((g.row s).set j none) = 0 then [] else (g.row s).set j none) = rk ((g.row s).set j none) := by
    split
    · next z =>
      rw [liv_eq] at z
      exact (List.length_eq_zero_iff.1 z).symm
    · rfl
  have z := List.perm_iff_count.1 (keysOf_set (r' := if alive ((g.row s).set j none) = 0 then [] else (g.row s).set j none) (row_get hs))
  have y := List.perm_iff_count.1 h1
  refine List.perm_iff_count.2 fun a => ?_
  have z1 := z a
  have y1 := y a
  rw [e2] at z1
  have e3 : ∀ l : List Str, List.count a (k :: l) = List.count a l + List.count a [k] := fun l => by
    rw [← List.count_append]
    exact List.Perm.count_eq (List.perm_append_comm (l₁ := [k]) (l₂ := l)) a
  rw [e3] at y1
  rw [e3]
  simp only [List.count_append] at z1
  show _ = List.count a (keysOf g.rows)
  omega
theorem keys_move (o : Ok w g) (h : room w g ≠ 0) (m : p ∈ shut g) : (keys (move w p g)).Perm (keys g) := by
  have h1 := key_at (mem_shut.1 m).2.2
  have h2 := keys_kill (at_write (k := keyAt g p (fstAt g p)) o h h1)
  have h3 := keys_write (k := keyAt g p (fstAt g p)) o h
  exact (List.perm_cons _).1 (h2.trans h3)
theorem total_eq : total g = (keys g).length := by
  unfold total keys keysOf
  induction g.rows with
  | nil => rfl
  | cons r l ih => simp [ih, liv_eq]
/-! ### where a key stands -/
def Found (k : Str) (g : Lg) : Option (Nat × Nat) → Prop
  | none => ∀ s, some k ∉ g.row s
  | some (s, j) => (g.row s)[j]? = some (some k) ∧ (∀ j', j' < j → (g.row s)[j']? ≠ some (some k)) ∧ ∀ s', s' < s → some k ∉ g.row s'
theorem Found.uniq {x y : Option (Nat × Nat)} (a : Found k g x) (b : Found k g y) : x = y := by
  cases x with
  | none =>
    cases y with
    | none => rfl
    | some q => exact absurd (List.mem_of_getElem? b.1) (a _)
  | some q =>
    cases y with
    | none => exact absurd (List.mem_of_getElem? a.1) (b _)
    | some q' =>
      obtain ⟨s, j⟩ := q
      obtain ⟨s', j'⟩ := q'
      have e : s = s' := by
        rcases Nat.lt_trichotomy s s' with z | z | z
        · exact absurd (List.mem_of_getElem? a.1) (b.2.2 _ z)
        · exact z
        · exact absurd (List.mem_of_getElem? b.1) (a.2.2 _ z)
      subst e
      have e : j = j' := by
        rcases Nat.lt_trichotomy j j' with z | z | z
        · exact absurd a.1 (b.2.1 _ z)
        · exact z
        · exact absurd b.1 (a.2.1 _ z)
      subst e
      rfl
open Classical in
noncomputable def find (k : Str) (g : Lg) : Option (Nat × Nat) := if h : ∃ x, Found k g x then h.choose else none
theorem Found.eq {x : Option (Nat × Nat)} (a : Found k g x) : find k g = x := by
  unfold find
  have h : ∃ x, Found k g x := ⟨x, a⟩
  rw [dif_pos h]
  exact h.choose_spec.uniq a
theorem mem_keys : k ∈ keys g ↔ ∃ s, some k ∈ g.row s := by
  unfold keys keysOf rk
  simp only [List.mem_flatMap, List.mem_filterMap, id]
  constructor
  · rintro ⟨r, hr, x, hx, e⟩
    subst e
    obtain ⟨s, hs, e⟩ := List.mem_iff_getElem.1 hr
    refine ⟨s, ?_⟩
    unfold Lg.row
    rw [List.getD_eq_getElem?_getD, List.getElem?_eq_getElem hs, e]
    exact hx
  · rintro ⟨s, h⟩
    have hs : s < g.rows.length := row_lt fun e => by rw [e] at h; cases h
    exact ⟨g.row s, List.mem_of_getElem? (row_get hs), some k, h, rfl⟩
theorem Found.none_iff {x : Option (Nat × Nat)} (a : Found k g x) : x = none ↔ k ∉ keys g := by
  rw [mem_keys]
  cases x with
  | none => simp only [true_iff]; rintro ⟨s, h⟩; exact a s h
  | some q => simp only [reduceCtorEq, false_iff, Classical.not_not]; exact ⟨_, List.mem_of_getElem? a.1⟩
end
end CLg
end

section
/-! Where the two logs stand in the heap. -/
namespace CLg
open PySem PySem.Spec PyProof.Rows L2 Evl
/-- a cell: in the store's rows the key itself, in the law's rows a pair of the key and a worth -/
def Cell (m : Bool) (H : Hp) : Option Str → V → Prop
  | none, v => v = .non
  | some k, v => if m = true then ∃ t w, v = .ref t ∧ H t = some (.tup [.str k, w]) else v = .str k
def Cells (m : Bool) (H : Hp) (r : List (Option Str)) (xs : List V) : Prop := xs.length = r.length ∧ ∀ (i : Nat) (o : Option Str), r[i]? = some o → ∃ v, xs[i]? = some v ∧ Cell m H o v
def Row (m : Bool) (H : Hp) (a : Addr) (r : List (Option Str)) : Prop := ∃ xs, H a = some (.lst xs) ∧ Cells m H r xs
structure Rows (m : Bool) (H : Hp) (A : Addr) (as : List Addr) (rows : List (List (Option Str))) : Prop where
  nd : (A :: as).Nodup
  at_ : H A = some (.lst (as.map V.ref))
  len : as.length = rows.length
  row : ∀ (i : Nat) (r : List (Option Str)), rows[i]? = some r → ∃ a, as[i]? = some a ∧ Row m H a r
section
variable {m : Bool} {H H' : Hp} {o : Option Str} {v : V} {r r' : List (Option Str)} {xs xs' : List V} {a A : Addr} {as ow : List Addr} {rows : List (List (Option Str))} {s j : Nat}
theorem Cell.step (c : Cell m H o v) (h : Ch ow H H') : Cell m H' o v := by
  cases o with
  | none => exact c
  | some k =>
    unfold Cell at c ⊢
    simp only at c ⊢
    split
    · next z =>
      rw [if_pos z] at c
      obtain ⟨t, w, e, q⟩ := c
      exact ⟨t, w, e, h.tup q⟩
    · next z => rw [if_neg z] at c; exact c
theorem Cell.isN (c : Cell m H o v) : decide (v = .non) = !o.isSome := by
  cases o with
  | none => rw [show v = .non from c]; rfl
  | some k =>
    have c' : if m = true then ∃ t w, v = .ref t ∧ H t = some (.tup [.str k, w]) else v = .str k := c
    split at c'
    · obtain ⟨t, w, e, _⟩ := c'; rw [e]; rfl
    · rw [c']; rfl
theorem Cells.step (c : Cells m H r xs) (h : Ch ow H H') : Cells m H' r xs := ⟨c.1, fun i o e => by
  obtain ⟨v, e1, e2⟩ := c.2 i o e
  exact ⟨v, e1, e2.step h⟩⟩
theorem Cells.nil : Cells m H [] [] := ⟨rfl, fun i o e => by simp at e⟩
theorem Cells.app (c : Cells m H r xs) (d : Cell m H o v) : Cells m H (r ++ [o]) (xs ++ [v]) := by
  refine ⟨by simp [c.1], fun i o' e => ?_⟩
  by_cases h : i < r.length
  · rw [List.getElem?_append_left h] at e
    rw [List.getElem?_append_left (by rw [c.1]; exact h)]
    exact c.2 i o' e
  · rw [List.getElem?_append_right (by omega)] at e
    rw [List.getElem?_append_right (by rw [c.1]; omega), c.1]
    cases q : i - r.length with
    | zero => rw [q] at e; simp at e; subst e; exact ⟨v, rfl, d⟩
    | succ n => rw [q] at e; simp at e
theorem Cells.set (c : Cells m H r xs) (j : Nat) (d : Cell m H o v) : Cells m H (r.set j o) (xs.set j v) := by
  refine ⟨by simp [c.1], fun i o' e => ?_⟩
  rw [List.getElem?_set] at e ⊢
  split
  · next h =>
    rw [if_pos h] at e
    split at e
    · next h2 => rw [if_pos (by rw [c.1]; exact h2)]; cases e; exact ⟨v, rfl, d⟩
    · cases e
  · next h =>
    rw [if_neg h] at e
    exact c.2 i o' e
theorem Cells.get (c : Cells m H r xs) (h : j < r.length) : ∃ v, xs[j]? = some v ∧ Cell m H (r.getD j none) v := by
  refine c.2 j _ ?_
  rw [List.getD_eq_getElem?_getD, List.getElem?_eq_getElem h]
  rfl
theorem Cells.getD (c : Cells m H r xs) (h : j < r.length) : Cell m H (r.getD j none) (xs.getD j .non) := by
  obtain ⟨v, e, d⟩ := c.get h
  rw [List.getD_eq_getElem?_getD (l := xs), e]
  exact d
theorem Row.step (c : Row m H a r) (h : Ch ow H H') (n : a ∉ ow) : Row m H' a r := by
  obtain ⟨xs, e, d⟩ := c
  exact ⟨xs, h.at e n, d.step h⟩
theorem Rows.step (c : Rows m H A as rows) (h : Ch ow H H') (n : Dj (A :: as) ow) : Rows m H' A as rows :=
  ⟨c.nd, h.at c.at_ (n A (by simp)), c.len, fun i r e => by
    obtain ⟨a, e1, e2⟩ := c.row i r e
    exact ⟨a, e1, e2.step h (n a (by simp [List.mem_of_getElem? e1]))⟩⟩
theorem Rows.ex (c : Rows m H A as rows) (h : Evl.Ex H H') : Rows m H' A as rows := c.step (h.ch []) fun _ _ z => by cases z
theorem Rows.tr (c : Rows m H A as rows) : Tr (A :: as) H := fun b m z => by
  rcases List.mem_cons.1 m with rfl | m
  · rw [c.at_] at z; cases z
  · obtain ⟨i, hi, e⟩ := List.mem_iff_getElem.1 m
    obtain ⟨a, e1, xs, e2, _⟩ := c.row i _ (List.getElem?_eq_getElem (by rw [← c.len]; exact hi))
    rw [List.getElem?_eq_getElem hi] at e1
    have e1 := Option.some.inj e1
    rw [e] at e1
    rw [e1] at z
    rw [z] at e2
    cases e2
theorem Rows.get (c : Rows m H A as rows) (h : s < rows.length) : ∃ a xs, as[s]? = some a ∧ (as.map V.ref)[s]? = some (.ref a) ∧ H a = some (.lst xs) ∧ Cells m H (rows.getD s []) xs ∧ a ∈ as := by
  obtain ⟨a, e1, xs, e2, e3⟩ := c.row s _ (List.getElem?_eq_getElem h)
  refine ⟨a, xs, e1, by rw [List.getElem?_map, e1]; rfl, e2, ?_, List.mem_of_getElem? e1⟩
  rw [List.getD_eq_getElem?_getD, List.getElem?_eq_getElem h]
  exact e3
theorem nd_inj {l : List Addr} (d : l.Nodup) {i j : Nat} {x : Addr} (h1 : l[i]? = some x) (h2 : l[j]? = some x) : i = j := by
  obtain ⟨hi, e1⟩ := List.getElem?_eq_some_iff.1 h1
  obtain ⟨hj, e2⟩ := List.getElem?_eq_some_iff.1 h2
  have p := List.pairwise_iff_getElem.1 d
  rcases Nat.lt_trichotomy i j with z | z | z
  · exact absurd (e1.trans e2.symm) (p i j hi hj z)
  · exact z
  · exact absurd (e2.trans e1.symm) (p j i hj hi z)
theorem nd_set {l : List Addr} (d : l.Nodup) {x : Addr} (n : x ∉ l) (s : Nat) : (l.set s x).Nodup := by
  refine List.pairwise_iff_getElem.2 fun i j hi hj z => ?_
  rw [List.length_set] at hi hj
  have p := List.pairwise_iff_getElem.1 d i j hi hj z
  simp only [List.getElem_set]
  split
  · split
    · omega
    · exact fun e => n (by rw [e]; exact List.getElem_mem hj)
  · split
    · exact fun e => n (by rw [← e]; exact List.getElem_mem hi)
    · exact p
/-- one row changes -/
theorem Rows.chg (c : Rows m H A as rows) (e : as[s]? = some a) (h : Ch [a] H H') (q : H' a = some (.lst xs)) (d : Cells m H' r xs) : Rows m H' A as (rows.set s r) := by
  have nd := List.nodup_cons.1 c.nd
  have ma := List.mem_of_getElem? e
  refine ⟨c.nd, h.at c.at_ fun z => nd.1 (by rw [List.mem_singleton.1 z]; exact ma), by rw [List.length_set]; exact c.len, fun i r' e' => ?_⟩
  rw [List.getElem?_set] at e'
  split at e'
  · next z =>
    subst z
    split at e'
    · cases e'; exact ⟨a, e, xs, q, d⟩
    · cases e'
  · next z =>
    obtain ⟨b, e1, e2⟩ := c.row i r' e'
    refine ⟨b, e1, e2.step h fun w => z ?_⟩
    have w := List.mem_singleton.1 w
    subst w
    exact nd_inj nd.2 e e1
/-- one row becomes a new list -/
theorem Rows.fresh (c : Rows m H A as rows) (hs : s < rows.length) (n : H a = none) (h : Ch [A] H H') (q : H' A = some (.lst ((as.map V.ref).set s (.ref a)))) (q2 : H' a = some (.lst xs)) (d : Cells m H' r xs) : Rows m H' A (as.set s a) (rows.set s r) := by
  have nd := List.nodup_cons.1 c.nd
  have tr := c.tr
  have na : a ∉ as := fun z => tr a (by simp [z]) n
  have nA : a ≠ A := fun z => tr A (by simp) (by rw [← z]; exact n)
  refine ⟨?_, by rw [q, List.map_set], by simp [c.len], fun i r' e' => ?_⟩
  · refine List.nodup_cons.2 ⟨fun z => ?_, ?_⟩
    · rcases List.mem_or_eq_of_mem_set z with z | z
      · exact nd.1 z
      · exact nA z.symm
    · exact nd_set nd.2 na s
  · rw [List.getElem?_set] at e'
    split at e'
    · next z =>
      subst z
      cases e'
      refine ⟨a, ?_, xs, q2, d⟩
      rw [List.getElem?_set, if_pos rfl, if_pos (by rw [c.len]; exact hs)]
    · next z =>
      obtain ⟨b, e1, e2⟩ := c.row i r' e'
      refine ⟨b, by rw [List.getElem?_set, if_neg z]; exact e1, e2.step h fun w => ?_⟩
      exact nd.1 (by rw [← List.mem_singleton.1 w]; exact List.mem_of_getElem? e1)
end
/-! ### the store's log -/
structure Ad where
  g : Addr
  dx : Addr
  A : Addr
  T : Addr
  F : Addr
  as : List Addr
def Ad.own (a : Ad) : List Addr := [a.g, a.T, a.F] ++ (a.A :: a.as)
def vns (l : List Nat) : List V := l.map fun (n : Nat) => V.int (n : Int)
def lfs (a : Ad) (w : Nat) : List (Str × V) := [("span", .int w), ("rows", .ref a.A), ("turns", .ref a.T), ("frees", .ref a.F)]
structure LogAt (K : Kf) (H : Hp) (a : Ad) (w : Nat) (g : Lg) (ts : List Nat) : Prop where
  nd : a.own.Nodup
  obj : H a.g = some (.ins (cL K) a.dx (lfs a w))
  tn : H a.T = some (.lst (vns ts))
  hd : ts.getLast? = some g.head
  tnd : ts.Nodup
  tlt : ∀ t ∈ ts, t < g.rows.length
  fr : H a.F = some (.lst (vns g.frees))
  rw : Rows false H a.A a.as g.rows
  ok : Ok w g
theorem nodup_lt_len : ∀ (n : Nat) (l : List Nat), l.Nodup → (∀ t ∈ l, t < n) → l.length ≤ n
  | 0, [], _, _ => Nat.le_refl 0
  | 0, x :: l, _, h => absurd (h x (by simp)) (by omega)
  | n + 1, l, d, h => by
    by_cases m : n ∈ l
    · have := nodup_lt_len n (l.erase n) (d.erase n) fun t ht => by
        have z := (List.Nodup.mem_erase_iff d).1 ht
        have := h t z.2
        have := z.1
        omega
      rw [List.length_erase_of_mem m] at this
      omega
    · have := nodup_lt_len n l d fun t ht => by
        have := h t ht
        have : t ≠ n := fun e => m (e ▸ ht)
        omega
      omega
section
variable {K : Kf} {H H' : Hp} {a : Ad} {w : Nat} {g : Lg} {ts : List Nat} {ow : List Addr}
theorem LogAt.tr (h : LogAt K H a w g ts) : Tr a.own H := fun b m z => by
  rcases List.mem_append.1 m with m | m
  · simp only [List.mem_cons, List.not_mem_nil, or_false] at m
    rcases m with rfl | rfl | rfl
    · rw [h.obj] at z; cases z
    · rw [h.tn] at z; cases z
    · rw [h.fr] at z; cases z
  · exact h.rw.tr b m z
theorem LogAt.step (h : LogAt K H a w g ts) (c : Ch ow H H') (d : Dj a.own ow) : LogAt K H' a w g ts :=
  ⟨h.nd, c.at h.obj (d _ (by simp [Ad.own])), c.at h.tn (d _ (by simp [Ad.own])), h.hd, h.tnd, h.tlt, c.at h.fr (d _ (by simp [Ad.own])), h.rw.step c fun b m => d b (by simp only [Ad.own]; exact List.mem_append_right _ m), h.ok⟩
theorem LogAt.ex (h : LogAt K H a w g ts) (c : Evl.Ex H H') : LogAt K H' a w g ts := h.step (c.ch []) fun _ _ z => by cases z
theorem LogAt.tlen (h : LogAt K H a w g ts) : ts.length ≤ 8 := Nat.le_trans (nodup_lt_len _ _ h.tnd h.tlt) h.ok.n8
end
theorem own_set {o3 as : List Addr} {A p : Addr} (h : (o3 ++ (A :: as)).Nodup) (n : p ∉ o3 ++ (A :: as)) (s : Nat) : (o3 ++ (A :: as.set s p)).Nodup := by
  obtain ⟨h1, h2, h3⟩ := List.nodup_append.1 h
  have h4 := List.nodup_cons.1 h2
  refine List.nodup_append.2 ⟨h1, List.nodup_cons.2 ⟨fun m => ?_, nd_set h4.2 (fun m => n (by simp [m])) s⟩, fun x hx y hy => ?_⟩
  · rcases List.mem_or_eq_of_mem_set m with m | m
    · exact h4.1 m
    · exact n (by simp [m])
  · rcases List.mem_cons.1 hy with rfl | hy
    · exact h3 x hx y (by simp)
    · rcases List.mem_or_eq_of_mem_set hy with m | m
      · exact h3 x hx y (by simp [m])
      · rw [m]
        exact fun z => n (by rw [← z]; simp [hx])
section
variable {K : Kf} {H H' : Hp} {a : Ad} {w s : Nat} {g : Lg} {ts : List Nat} {p : Addr} {r : List (Option Str)} {xs xs' : List V}
theorem LogAt.free_of (h : LogAt K H a w g ts) (e : H p = none) : p ∉ a.own := fun m => h.tr p m e
theorem LogAt.mem (h : LogAt K H a w g ts) (e : a.as[s]? = some p) : p ∈ a.own := by
  have := List.mem_of_getElem? e
  simp [Ad.own, this]
theorem LogAt.sep (h : LogAt K H a w g ts) (m : p ∈ a.A :: a.as) : a.g ≠ p ∧ a.T ≠ p ∧ a.F ≠ p := by
  have z := (List.nodup_append.1 h.nd).2.2
  exact ⟨z _ (by simp) p m, z _ (by simp) p m, z _ (by simp) p m⟩
theorem LogAt.sep2 (h : LogAt K H a w g ts) : a.g ≠ a.T ∧ a.g ≠ a.F ∧ a.T ≠ a.F := by
  have z := (List.nodup_append.1 h.nd).1
  simp at z
  exact ⟨z.1.1, z.1.2, z.2⟩
/-- one row's list is changed -/
theorem LogAt.chg (h : LogAt K H a w g ts) (e : a.as[s]? = some p) (q : H p = some (.lst xs)) (d : Cells false (upd H p (.lst xs')) r xs') (hr : r.length ≤ w) :
    LogAt K (upd H p (.lst xs')) a w { rows := g.rows.set s r, head := g.head, frees := g.frees } ts ∧ Ch a.own H (upd H p (.lst xs')) := by
  have m := List.mem_of_getElem? e
  have c : Ch [p] H (upd H p (.lst xs')) := Ch.updL q _ (by simp)
  obtain ⟨z1, z2, z3⟩ := h.sep (p := p) (by simp [m])
  have hs : s < g.rows.length := by rw [← h.rw.len]; exact (List.getElem?_eq_some_iff.1 e).1
  exact ⟨⟨h.nd, by rw [upd_ne z1]; exact h.obj, by rw [upd_ne z2]; exact h.tn, h.hd, h.tnd, fun t ht => by show t < (g.rows.set s r).length; rw [List.length_set]; exact h.tlt t ht, by rw [upd_ne z3]; exact h.fr, h.rw.chg e c upd_same d, ok_set h.ok hs hr h.ok.fr⟩, Ch.updL q _ (h.mem e)⟩
/-- one row becomes a new empty list -/
theorem LogAt.fresh (h : LogAt K H a w g ts) (hs : s < g.rows.length) (e : H p = none) (q : H' p = some (.lst [])) (x : Ex H H') :
    LogAt K (upd H' a.A (.lst ((a.as.map V.ref).set s (.ref p)))) { a with as := a.as.set s p } w { rows := g.rows.set s [], head := g.head, frees := g.frees } ts ∧ Stp a.own H ({ a with as := a.as.set s p } : Ad).own (upd H' a.A (.lst ((a.as.map V.ref).set s (.ref p)))) := by
  obtain ⟨z1, z2, z3⟩ := h.sep (p := a.A) (by simp)
  have np := h.free_of e
  have c : Ch [a.A] H (upd H' a.A (.lst ((a.as.map V.ref).set s (.ref p)))) := (x.ch _).trans (Ch.updL (x _ _ h.rw.at_) _ (by simp))
  have hx := h.ex x
  have pA : p ≠ a.A := fun z => np (by simp [z, Ad.own])
  refine ⟨⟨own_set h.nd np s, by rw [upd_ne z1]; exact hx.obj, by rw [upd_ne z2]; exact hx.tn, h.hd, h.tnd, fun t ht => by show t < (g.rows.set s []).length; rw [List.length_set]; exact h.tlt t ht, by rw [upd_ne z3]; exact hx.fr,
    h.rw.fresh hs e c upd_same (by rw [upd_ne pA]; exact q) Cells.nil, ok_set h.ok hs (Nat.zero_le _) h.ok.fr⟩, c.mono fun b m => .inl (by rw [List.mem_singleton.1 m]; simp [Ad.own]), fun b m => ?_⟩
  have m : b ∈ [a.g, a.T, a.F] ++ (a.A :: a.as.set s p) := m
  simp only [List.mem_append, List.mem_cons, List.not_mem_nil, or_false] at m
  rcases m with (m | m | m) | m | m
  · left; simp [Ad.own, m]
  · left; simp [Ad.own, m]
  · left; simp [Ad.own, m]
  · left; simp [Ad.own, m]
  · rcases List.mem_or_eq_of_mem_set m with m | m
    · left; simp [Ad.own, m]
    · right; rw [m]; exact e
/-- the counts of freeing change -/
theorem LogAt.frs (h : LogAt K H a w g ts) {f : List Nat} (hf : f.length = g.rows.length) : LogAt K (upd H a.F (.lst (vns f))) a w { rows := g.rows, head := g.head, frees := f } ts ∧ Ch a.own H (upd H a.F (.lst (vns f))) := by
  have z := h.sep2
  have c : Ch [a.F] H (upd H a.F (.lst (vns f))) := Ch.updL h.fr _ (by simp)
  refine ⟨⟨h.nd, by rw [upd_ne z.2.1]; exact h.obj, by rw [upd_ne z.2.2]; exact h.tn, h.hd, h.tnd, h.tlt, upd_same, h.rw.step c fun b m n => ?_, ⟨h.ok.n1, h.ok.n8, h.ok.w1, h.ok.w8, h.ok.hd, hf, h.ok.le⟩⟩, Ch.updL h.fr _ (by simp [Ad.own])⟩
  exact (h.sep m).2.2 (List.mem_singleton.1 n).symm
/-- a new list of turns -/
theorem LogAt.trn (h : LogAt K H a w g ts) {ts' : List Nat} {x : Nat} (e : H p = none) (q : H' p = some (.lst (vns ts'))) (ex : Ex H H') (h1 : ts'.getLast? = some x) (h2 : ts'.Nodup) (h3 : ∀ t ∈ ts', t < g.rows.length) :
    LogAt K (upd H' a.g (.ins (cL K) a.dx (lfs { a with T := p } w))) { a with T := p } w { rows := g.rows, head := x, frees := g.frees } ts' ∧ Stp a.own H ({ a with T := p } : Ad).own (upd H' a.g (.ins (cL K) a.dx (lfs { a with T := p } w))) := by
  have np := h.free_of e
  have z := h.sep2
  have hx := h.ex ex
  have c0 : Ch [a.g] H' (upd H' a.g (.ins (cL K) a.dx (lfs { a with T := p } w))) := Ch.updI hx.obj _ (by simp)
  have c : Ch [a.g] H (upd H' a.g (.ins (cL K) a.dx (lfs { a with T := p } w))) := (ex.ch _).trans c0
  have pg : p ≠ a.g := fun z => np (by simp [z, Ad.own])
  have pF : p ≠ a.F := fun z => np (by simp [z, Ad.own])
  have pA : ∀ b ∈ a.A :: a.as, p ≠ b := fun b m z => np (by rw [z]; exact List.mem_append_right _ m)
  refine ⟨⟨?_, upd_same, by rw [upd_ne pg]; exact q, h1, h2, h3, by rw [upd_ne z.2.1.symm]; exact hx.fr, h.rw.step c fun b m n => (h.sep m).1 (List.mem_singleton.1 n).symm, ⟨h.ok.n1, h.ok.n8, h.ok.w1, h.ok.w8, h3 x (List.mem_of_getLast? h1), h.ok.fr, h.ok.le⟩⟩, c.mono fun b m => .inl (by rw [List.mem_singleton.1 m]; simp [Ad.own]), fun b m => ?_⟩
  · have h4 := List.nodup_append.1 h.nd
    refine List.nodup_append.2 ⟨?_, h4.2.1, fun x hx y hy => ?_⟩
    · simp [pg.symm, z.2.1, pF]
    · simp only [List.mem_cons, List.not_mem_nil, or_false] at hx
      rcases hx with rfl | rfl | rfl
      · exact (h.sep hy).1
      · exact pA y hy
      · exact (h.sep hy).2.2
  · have m : b ∈ [a.g, p, a.F] ++ (a.A :: a.as) := m
    simp only [List.mem_append, List.mem_cons, List.not_mem_nil, or_false] at m
    rcases m with (m | m | m) | m | m
    · left; simp [Ad.own, m]
    · right; rw [m]; exact e
    · left; simp [Ad.own, m]
    · left; simp [Ad.own, m]
    · left; simp [Ad.own, m]
end
/-! ### the law's list of segments -/
structure Md where
  M : Addr
  A : Addr
  B : Addr
  F : Addr
  as : List Addr
def Md.own (a : Md) : List Addr := [a.M, a.B, a.F] ++ (a.A :: a.as)
structure Tm where
  wide : Nat
  bound : Int
  load : Nat
  first : Bool
structure Ct where
  deeds : Nat
  moved : Nat
  waits : Nat
def mkv (a : Md) (t : Tm) (c : Ct) (hd : Nat) : List (Key × V) :=
  [(.inr "rows", .ref a.A), (.inr "head", .int hd), (.inr "born", .ref a.B), (.inr "frees", .ref a.F), (.inr "deeds", .int c.deeds), (.inr "moved", .int c.moved), (.inr "waits", .int c.waits),
   (.inr "wide", .int t.wide), (.inr "bound", .int t.bound), (.inr "load", .int t.load), (.inr "first", .bl t.first)]
structure MdAt (H : Hp) (a : Md) (t : Tm) (c : Ct) (g : Lg) : Prop where
  nd : a.own.Nodup
  obj : H a.M = some (.dK (mkv a t c g.head))
  bn : ∃ bs : List Int, H a.B = some (.lst (bs.map V.int)) ∧ bs.length = g.rows.length
  fr : H a.F = some (.lst (vns g.frees))
  rw : Rows true H a.A a.as g.rows
  ok : Ok t.wide g
section
variable {H H' : Hp} {a : Md} {t : Tm} {c : Ct} {g : Lg} {ow : List Addr}
theorem MdAt.tr (h : MdAt H a t c g) : Tr a.own H := fun b m z => by
  rcases List.mem_append.1 m with m | m
  · simp only [List.mem_cons, List.not_mem_nil, or_false] at m
    rcases m with rfl | rfl | rfl
    · rw [h.obj] at z; cases z
    · obtain ⟨bs, e, _⟩ := h.bn; rw [e] at z; cases z
    · rw [h.fr] at z; cases z
  · exact h.rw.tr b m z
theorem MdAt.step (h : MdAt H a t c g) (k : Ch ow H H') (d : Dj a.own ow) : MdAt H' a t c g := by
  obtain ⟨bs, e, l⟩ := h.bn
  exact ⟨h.nd, k.at h.obj (d _ (by simp [Md.own])), ⟨bs, k.at e (d _ (by simp [Md.own])), l⟩, k.at h.fr (d _ (by simp [Md.own])), h.rw.step k fun b m => d b (by simp only [Md.own]; exact List.mem_append_right _ m), h.ok⟩
theorem MdAt.ex (h : MdAt H a t c g) (k : Evl.Ex H H') : MdAt H' a t c g := h.step (k.ch []) fun _ _ z => by cases z
end
end CLg
end

section
/-! More of what evaluates to what: fields, methods, dicts, enumerate. -/
namespace CLg
open PySem PySem.Spec PyProof.Rows L2 Evl
section
variable {K : Kf} {σ : L2.St} {H H' : Hp} {ta tb te td : TE} {tl : TA} {x y z v : V} {vs xs : List V} {a C dx : Addr} {fs : List (Str × V)} {f m : Str} {kvs : List (Key × V)}
theorem ev_fld (ha : Ev ta σ H (.ref a)) (ho : H a = some (.ins C dx fs)) (hc : Cls K C) (hn : NoAttr K C f) (hl : fs.lookup f = some v) : Ev (tFld K ta f) σ H v := fun H1 e Q q =>
  ha H1 e _ fun H2 e2 => ⟨a, C, dx, fs, v, rfl, (e.trans e2) a _ ho, hc, hn, hl, q H2 e2⟩
theorem ev_dget {n : Str} (hd : Ev td σ H (.ref a)) (hk : Ev ta σ H (.str n)) (ho : H a = some (.dK kvs)) (hv : valV kvs (Sum.inr n) = some v) : Ev (tDGet td ta) σ H v := fun H1 e Q q =>
  hd H1 e _ fun H2 e2 => hk H2 (e.trans e2) _ fun H3 e3 => ⟨a, v, rfl, by rw [← hv]; exact DGet.k (k := Sum.inr n) (((e.trans e2).trans e3) a _ ho), q H3 (e2.trans e3)⟩
theorem ev_meth {sp : Sp} {dvs : List V} {E : XK} (ha : Ev ta σ H (.ref a)) (ho : H a = some (.ins C dx fs)) (hl : fs.lookup m = none) (hv : EvA tl σ H vs) (hs : SpV sp (.ref a :: (vs ++ dvs)) H z) : Ev (tMeth C m sp dvs E ta tl) σ H z := fun H1 e Q q =>
  ha H1 e _ fun H2 e2 => ⟨a, dx, fs, rfl, (e.trans e2) a _ ho, hl, hv H2 (e.trans e2) _ fun H3 e3 => hs H3 ((e.trans e2).trans e3) Q (fun H4 e4 => q H4 ((e2.trans e3).trans e4)) E⟩
theorem el_meth {sp : Sp} {dvs : List V} {E : XK} (ha : Ev ta σ H (.ref a)) (ho : H a = some (.ins C dx fs)) (hl : fs.lookup m = none) (hv : EvA tl σ H vs) (hs : SpL sp (.ref a :: (vs ++ dvs)) H xs) : EvL (tMeth C m sp dvs E ta tl) σ H xs := fun H1 e Q q =>
  ha H1 e _ fun H2 e2 => ⟨a, dx, fs, rfl, (e.trans e2) a _ ho, hl, hv H2 (e.trans e2) _ fun H3 e3 => hs H3 ((e.trans e2).trans e3) Q (fun p H4 hp e4 h4 => q p H4 (fresh_back (e2.trans e3) hp) ((e2.trans e3).trans e4) h4) E⟩
theorem rv_isN : RV rIsN x .non H (.bl (decide (x = .non))) := fun H1 _ _ q => ⟨rfl, q H1 (Ex.refl H1)⟩
theorem rv_notN : RV rNotN x .non H (.bl (!decide (x = .non))) := fun H1 _ _ q => ⟨rfl, q H1 (Ex.refl H1)⟩
/-- an enumerated list, its place and its item in two names -/
theorem el_lcE {t : TT} {tx : TE} {i j : Nat} {ws : List Nat} (f : Nat → Bool) (v : Nat → V) (h : Ev tx σ H (.ref a)) (hx : SqL K H a xs) (hz : xs.length ≤ 40000)
    (hw : ∀ x y, wipe (((wipe σ ws).set i (some x)).set j (some y)) ws = wipe σ ws)
    (ht : ∀ (n : Nat) (x : V) H1, Ex H H1 → xs[n]? = some x → EvT t (((wipe σ ws).set i (some (.int (n : Int)))).set j (some x)) H1 (f n))
    (he : ∀ (n : Nat) (x : V) H1, Ex H H1 → xs[n]? = some x → f n = true → Ev te (((wipe σ ws).set i (some (.int (n : Int)))).set j (some x)) H1 (v n)) :
    EvL (tLc (iEnum K (tCons tx tNil)) (gTup K 2 (gCons (gName i) (gCons (gName j) gNil))) t te ws) σ H (given xs.length f v) := fun H0 e Q q => h H0 e _ fun H1 e1 => ⟨a, xs, rfl, ex_l (e.trans e1) hx, fun Dl hD =>
  lc_it (walk_enum (K := K) (a := a) (xs := xs)) (Cw H1 f v Dl) ⟨hD, Ex.new hD, upd_same⟩ (fun n H' _ p => ex_l ((e.trans e1).trans p.2.1) hx) (fun n x H' H'' hn p y => by
    obtain ⟨T, u, w, rfl, hT, rfl, e2, e3⟩ := y
    cases e2
    have p2 : Cw H1 f v Dl n (upd H' T (.tup [.int (n : Int), w])) := ⟨p.1, p.2.1.trans (Ex.new hT), by rw [upd_ne (ne_of_none p.2.2 hT)]; exact p.2.2⟩
    exact ⟨T, [.int (n : Int), w], rfl, st_of upd_same, rfl, _, _, rfl, _, _, rfl, rfl, hw _ _, cw_turn p2 (by omega) (ht n w H1 (e.trans e1) e3) (fun hf => he n w H1 (e.trans e1) e3 hf)⟩)
    (fun H' p => q Dl H' (fresh_back e1 p.1) (e1.trans p.2.1) p.2.2)⟩
/-! ### many new lists -/
def lstAt (H : Hp) (a : Addr) : List V := match H a with | some (.lst xs) => xs | _ => []
theorem lstAt_eq (h : H a = some (.lst xs)) : lstAt H a = xs := by unfold lstAt; rw [h]
/-- a new list D of new lists, the i-th holding v i -/
structure NewL (H : Hp) (v : Nat → List V) (n : Nat) (D : Addr) (as : List Addr) (H' : Hp) : Prop where
  fr : H D = none
  len : as.length = n
  nd : (D :: as).Nodup
  fa : ∀ a ∈ as, H a = none
  row : ∀ (i : Nat) (a : Addr), as[i]? = some a → H' a = some (.lst (v i))
  ex : Ex H H'
  at_ : H' D = some (.lst (as.map V.ref))
def EvN (te : TE) (σ : L2.St) (H : Hp) (n : Nat) (v : Nat → List V) : Prop := ∀ H1, Ex H H1 → ∀ Q : VK, (∀ D as H2, NewL H1 v n D as H2 → Q (.ref D) H2) → te σ H1 Q
theorem nw_turn {H1 : Hp} {u : Nat → List V} {D : Addr} {i : Nat} {σ2 : L2.St} (p : ∃ as, NewL H1 u i D as H') (hi : i < 40000) (h : EvL tb σ2 H1 (u i)) :
    tb σ2 H' fun y H4 => ∃ acc, H4 D = some (.lst acc) ∧ acc.length < sizeLine ∧ ∃ as, NewL H1 u (i + 1) D as (upd H4 D (.lst (acc ++ [y]))) := by
  obtain ⟨as, p⟩ := p
  refine h H' p.ex _ fun b H4 hb e4 h4 => ?_
  have nd := List.nodup_cons.1 p.nd
  have nb : b ∉ as := fun m => by
    obtain ⟨j, hj, e⟩ := List.mem_iff_getElem.1 m
    have z := p.row j b (by rw [List.getElem?_eq_getElem hj, e])
    rw [hb] at z
    cases z
  have nD : b ≠ D := fun z => by rw [z] at hb; rw [p.at_] at hb; cases hb
  refine ⟨as.map V.ref, e4 _ _ p.at_, by rw [List.length_map, p.len]; exact sz_lt (by omega), as ++ [b], p.fr, by simp [p.len], ?_, ?_, ?_, ?_, ?_⟩
  · refine List.nodup_cons.2 ⟨fun m => ?_, ?_⟩
    · rcases List.mem_append.1 m with m | m
      · exact nd.1 m
      · exact nD (List.mem_singleton.1 m).symm
    · refine List.nodup_append.2 ⟨nd.2, by simp, fun x hx y hy => ?_⟩
      rw [List.mem_singleton.1 hy]
      exact fun z => nb (z ▸ hx)
  · intro x m
    rcases List.mem_append.1 m with m | m
    · exact p.fa x m
    · rw [List.mem_singleton.1 m]; exact fresh_back p.ex hb
  · intro j x e
    by_cases hj : j < as.length
    · rw [List.getElem?_append_left hj] at e
      have hx : x ≠ D := fun z => nd.1 (z ▸ List.mem_of_getElem? e)
      rw [upd_ne hx]
      exact e4 _ _ (p.row j x e)
    · rw [List.getElem?_append_right (by omega)] at e
      have hj0 : j - as.length = 0 := by
        have := (List.getElem?_eq_some_iff.1 e).1
        simp at this
        omega
      rw [hj0] at e
      have e : b = x := by simpa using e
      subst e
      rw [upd_ne nD, show j = i by have := p.len; omega]
      exact h4
  · exact (p.ex.trans e4).mut p.fr
  · rw [upd_same, List.map_append]
    rfl
theorem nw_zero {H1 : Hp} {u : Nat → List V} {D : Addr} (hD : H1 D = none) : ∃ as, NewL H1 u 0 D as (upd H1 D (.lst [])) :=
  ⟨[], hD, rfl, by simp, fun a m => (by cases m), fun i a e => (by simp at e), Ex.new hD, upd_same⟩
theorem NewL.back {H1 : Hp} {u : Nat → List V} {n : Nat} {D : Addr} {as : List Addr} (p : NewL H1 u n D as H') (e : Ex H H1) : NewL H u n D as H' :=
  ⟨fresh_back e p.fr, p.len, p.nd, fun a m => fresh_back e (p.fa a m), p.row, e.trans p.ex, p.at_⟩
theorem en_lcR {ta : TA} {j : Nat} {ws : List Nat} {n : Nat} (u : Nat → List V) (h : EvA ta σ H [.int (n : Int)]) (hn : n ≤ 20000) (hw : ∀ x, wipe ((wipe σ ws).set j (some x)) ws = wipe σ ws)
    (he : ∀ (i : Nat) H1, Ex H H1 → i < n → EvL te ((wipe σ ws).set j (some (.int (i : Int)))) H1 (u i)) : EvN (tLc (iRng1 ta) (gName j) tYes te ws) σ H n u := fun H0 e Q q => h H0 e _ fun H1 e1 => ⟨n, rfl, by omega, by omega, fun D hD => by
  rw [Int.toNat_natCast]
  exact lc_it (walk_range (lo := 0) (n := n)) (fun i H' => ∃ as, NewL H1 u i D as H') (nw_zero hD) (fun _ _ _ _ => trivial) (fun i x H' H'' hi p y => by
    obtain ⟨rfl, rfl⟩ := y
    have e0 : (0 : Int) + (i : Int) = (i : Int) := Int.zero_add _
    simp only [e0]
    exact ⟨hw _, nw_turn p (by omega) (he i H1 (e.trans e1) hi)⟩) fun H' ⟨as, p⟩ => q D as H' (p.back e1)⟩
theorem en_lcL {tx : TE} {j : Nat} {ws : List Nat} (u : Nat → List V) (h : Ev tx σ H (.ref a)) (hx : SqL K H a xs) (hn : xs.length ≤ 20000) (hw : ∀ x, wipe ((wipe σ ws).set j (some x)) ws = wipe σ ws)
    (he : ∀ (i : Nat) (x : V) H1, Ex H H1 → xs[i]? = some x → EvL te ((wipe σ ws).set j (some x)) H1 (u i)) : EvN (tLc (iList K tx) (gName j) tYes te ws) σ H xs.length u := fun H0 e Q q => h H0 e _ fun H1 e1 => ⟨a, rfl, ⟨xs, ex_l (e.trans e1) hx⟩, fun D hD =>
  lc_it (walk_list (K := K) (a := a) (xs := xs)) (fun i H' => ∃ as, NewL H1 u i D as H') (nw_zero hD) (fun i H' _ ⟨as, p⟩ => ex_l ((e.trans e1).trans p.ex) hx) (fun i x H' H'' hi p y => by
    obtain ⟨rfl, y⟩ := y
    exact ⟨hw _, nw_turn p (by omega) (he i x H1 (e.trans e1) y)⟩) fun H' ⟨as, p⟩ => q D as H' (p.back e1)⟩
theorem flat_rep (x : V) : ∀ n : Nat, (List.replicate n [x]).flatten = List.replicate n x
  | 0 => rfl
  | n + 1 => by rw [List.replicate_succ, List.flatten_cons, List.replicate_succ, flat_rep x n]; rfl
/-- list(xs), xs + ys, [x] * n -/
theorem el_cat {ys : List V} (h1 : EvL ta σ H xs) (h2 : EvL tb σ H ys) (hz : xs.length + ys.length ≤ 100000) : EvL (tOp rCat ta tb) σ H (xs ++ ys) := fun H1 e Q q =>
  h1 H1 e _ fun p H2 hp e2 hx => h2 H2 (e.trans e2) _ fun r H3 hr e3 hy => ⟨p, r, xs, ys, rfl, rfl, e3 _ _ hx, hy, sz_of hz, fun l hl => q l _ (fresh_back (e2.trans e3) hl) ((e2.trans e3).trans (Ex.new hl)) upd_same⟩
theorem el_rep {n : Nat} (h1 : EvL ta σ H [x]) (h2 : ∀ H1, Ex H H1 → Ev tb σ H1 (.int (n : Int))) (hz : n ≤ 100000) : EvL (tOp rRep ta tb) σ H (List.replicate n x) := fun H1 e Q q =>
  h1 H1 e _ fun p H2 hp e2 hx => h2 H2 (e.trans e2) H2 (Ex.refl _) _ fun H3 e3 => ⟨p, n, [x], rfl, rfl, e3 _ _ hx, by omega, by omega, by simpa using sz_of hz, fun l hl => by
    rw [Int.toNat_natCast, flat_rep]
    exact q l _ (fresh_back (e2.trans e3) hl) ((e2.trans e3).trans (Ex.new hl)) upd_same⟩
theorem given_vns {n : Nat} {f : Nat → Bool} : given n f (fun i => .int (i : Int)) = vns ((List.range n).filter f) := rfl
theorem given_len' {n : Nat} {f : Nat → Bool} {v : Nat → V} : (given n f v).length = ((List.range n).filter f).length := by unfold given; simp
theorem vns_len {l : List Nat} : (vns l).length = l.length := by unfold vns; simp
theorem vns_get {l : List Nat} {i n : Nat} (h : l[i]? = some n) : (vns l)[i]? = some (.int (n : Int)) := by unfold vns; rw [List.getElem?_map, h]; rfl
theorem vns_inv {l : List Nat} {i : Nat} {x : V} (h : (vns l)[i]? = some x) : ∃ n, l[i]? = some n ∧ x = .int (n : Int) := by
  unfold vns at h
  rw [List.getElem?_map] at h
  cases e : l[i]? with
  | none => rw [e] at h; cases h
  | some n => rw [e] at h; cases h; exact ⟨n, rfl, rfl⟩
theorem vns_last {l : List Nat} {n : Nat} (h : l.getLast? = some n) : atI (vns l) (-1) = some (.int (n : Int)) := by
  obtain ⟨ys, e⟩ := List.getLast?_eq_some_iff.1 h
  subst e
  unfold vns
  rw [List.map_append]
  exact atI_last _ _
end
end CLg
end

section
/-! A put in plain Lean. -/
namespace CLg
open PySem
inductive Out where
  | ok (g : Lg)
  | full
  | many
  | pick (p : Nat)
  | stall
noncomputable def killOld (k : Str) (g g1 : Lg) : Lg := match find k g with
  | none => g1
  | some (s, j) => kill s j g1
noncomputable def pre (w : Nat) (first : Bool) (k : Str) (g : Lg) : Option Lg := if first = true ∧ room w g = 0 then none else some (killOld k g (if first = true then write w k g else g))
def moves (w : Nat) : List Nat → Lg → Nat ⊕ Lg
  | [], g => .inr g
  | p :: ps, g => if p ∈ shut g ∧ room w g ≠ 0 then moves w ps (move w p g) else .inl p
def fin (w : Nat) (first : Bool) (k : Str) (g : Lg) : Out := if first = true then .ok g else if room w g = 0 then .stall else .ok (write w k g)
noncomputable def putOut (w : Nat) (bound : Int) (load : Nat) (first : Bool) (k : Str) (picks : List Nat) (g : Lg) : Out :=
  if find k g = none ∧ bound ≤ total g then .full
  else if load < picks.length then .many
  else match pre w first k g with
    | none => .stall
    | some g1 => match moves w picks g1 with
      | .inl p => .pick p
      | .inr g2 => fin w first k g2
theorem least_aux {P : Nat → Prop} : ∀ (b n : Nat), n < b → P n → ∃ n, P n ∧ ∀ m, m < n → ¬ P m
  | 0, n, h, _ => absurd h (by omega)
  | b + 1, n, h, hn => by
    by_cases e : ∃ m, m < n ∧ P m
    · obtain ⟨m, h1, h2⟩ := e
      exact least_aux b m (by omega) h2
    · exact ⟨n, hn, fun m hm hp => e ⟨m, hm, hp⟩⟩
theorem least {P : Nat → Prop} (h : ∃ n, P n) : ∃ n, P n ∧ ∀ m, m < n → ¬ P m := by
  obtain ⟨n, hn⟩ := h
  exact least_aux (n + 1) n (by omega) hn
section
variable {w s j p : Nat} {g g1 g2 : Lg} {k : Str} {picks : List Nat} {first : Bool}
theorem find_found : Found k g (find k g) := by
  unfold find
  by_cases h : ∃ x, Found k g x
  · rw [dif_pos h]
    exact h.choose_spec
  · rw [dif_neg h]
    intro s hs
    -- the first place
    exfalso
    have e1 : ∃ n, some k ∈ g.row n := ⟨s, hs⟩
    obtain ⟨n, hn, hmin⟩ : ∃ n, some k ∈ g.row n ∧ ∀ m, m < n → some k ∉ g.row m := by
      exact least e1
    obtain ⟨i, hi, e⟩ := List.mem_iff_getElem.1 hn
    have e2 : ∃ i : Nat, (g.row n)[i]? = some (some k) := ⟨i, by rw [List.getElem?_eq_getElem hi, e]⟩
    obtain ⟨q, hq, hqm⟩ : ∃ q : Nat, (g.row n)[q]? = some (some k) ∧ ∀ m : Nat, m < q → (g.row n)[m]? ≠ some (some k) := by
      exact least e2
    exact h ⟨some (n, q), hq, hqm, hmin⟩
theorem find_none : find k g = none ↔ k ∉ keys g := find_found.none_iff
theorem find_at (h : find k g = some (s, j)) : (g.row s)[j]? = some (some k) := by
  have := find_found (k := k) (g := g)
  rw [h] at this
  exact this.1
theorem find_lt (h : find k g = some (s, j)) : s < g.rows.length := row_lt fun e => by
  have := find_at h
  rw [e] at this
  cases this
theorem moves_drop {i : Nat} (h : picks[i]? = some p) : moves w (picks.drop i) g = if p ∈ shut g ∧ room w g ≠ 0 then moves w (picks.drop (i + 1)) (move w p g) else .inl p := by
  have e : picks.drop i = p :: picks.drop (i + 1) := by
    obtain ⟨hi, e⟩ := List.getElem?_eq_some_iff.1 h
    rw [← e]
    exact (List.getElem_cons_drop hi).symm
  rw [e]
  rfl
theorem moves_ok : ∀ {ps : List Nat} {g g2 : Lg}, Ok w g → moves w ps g = .inr g2 → Ok w g2 ∧ (keys g2).Perm (keys g)
  | [], g, g2, o, h => by cases h; exact ⟨o, List.Perm.refl _⟩
  | p :: ps, g, g2, o, h => by
    unfold moves at h
    split at h
    · next c =>
      have z := moves_ok (ok_move o c.2 c.1) h
      exact ⟨z.1, z.2.trans (keys_move o c.2 c.1)⟩
    · cases h
/-- the state with the old place killed -/
theorem old_ok (o : Ok w g) : Ok w (killOld k g g) ∧ ((k ∈ keys g → (k :: keys (killOld k g g)).Perm (keys g)) ∧ (k ∉ keys g → killOld k g g = g)) := by
  unfold killOld
  cases e : find k g with
  | none =>
    have n := find_none.1 e
    exact ⟨o, fun m => absurd m n, fun _ => rfl⟩
  | some q =>
    obtain ⟨s, j⟩ := q
    refine ⟨ok_kill o (find_lt e), fun _ => keys_kill (find_at e), fun n => ?_⟩
    rw [find_none.2 n] at e
    cases e
theorem oldw_ok (o : Ok w g) (h : room w g ≠ 0) : Ok w (killOld k g (write w k g)) ∧ ((k ∈ keys g → (keys (killOld k g (write w k g))).Perm (keys g)) ∧ (k ∉ keys g → (keys (killOld k g (write w k g))).Perm (k :: keys g))) := by
  have o1 := ok_write (k := k) o h
  have p1 := keys_write (k := k) o h
  unfold killOld
  cases e : find k g with
  | none =>
    have n := find_none.1 e
    exact ⟨o1, fun m => absurd m n, fun _ => p1⟩
  | some q =>
    obtain ⟨s, j⟩ := q
    refine ⟨ok_kill o1 (by rw [len_write]; exact find_lt e), fun _ => ?_, fun n => ?_⟩
    · exact (List.perm_cons _).1 ((keys_kill (at_write o h (find_at e))).trans p1)
    · rw [find_none.2 n] at e
      cases e
theorem put_keys {bound : Int} {load : Nat} (o : Ok w g) (h : putOut w bound load first k picks g = .ok g2) : Ok w g2 ∧ (k ∈ keys g → (keys g2).Perm (keys g)) ∧ (k ∉ keys g → (keys g2).Perm (k :: keys g)) := by
  unfold putOut at h
  split at h
  · cases h
  split at h
  · cases h
  split at h
  · cases h
  next g1 e =>
  split at h
  · cases h
  next g3 e3 =>
  unfold pre at e
  split at e
  · cases e
  next c =>
  cases e
  unfold fin at h
  cases first with
  | true =>
    simp only [if_true] at h e3 c
    cases h
    have z := oldw_ok (k := k) o (fun y => c ⟨trivial, y⟩)
    have m := moves_ok z.1 e3
    exact ⟨m.1, fun y => m.2.trans (z.2.1 y), fun y => m.2.trans (z.2.2 y)⟩
  | false =>
    simp only [Bool.false_eq_true, if_false] at h e3
    split at h
    · cases h
    next r =>
    cases h
    have z := old_ok (k := k) o
    have m := moves_ok z.1 e3
    refine ⟨ok_write m.1 r, fun y => ?_, fun y => ?_⟩
    · exact (keys_write m.1 r).trans ((m.2.cons k).trans (z.2.1 y))
    · have p := m.2
      rw [z.2.2 y] at p
      exact (keys_write m.1 r).trans (p.cons k)
theorem len_move : (move w p g).rows.length = g.rows.length := by unfold move; rw [len_kill, len_write]
theorem moves_len : ∀ {ps : List Nat} {g g2 : Lg}, moves w ps g = .inr g2 → g2.rows.length = g.rows.length
  | [], g, g2, h => by cases h; rfl
  | p :: ps, g, g2, h => by
    unfold moves at h
    split at h
    · exact (moves_len h).trans len_move
    · cases h
theorem old_len : (killOld k g g1).rows.length = g1.rows.length := by
  unfold killOld
  split
  · rfl
  · exact len_kill
theorem put_len {bound : Int} {load : Nat} (h : putOut w bound load first k picks g = .ok g2) : g2.rows.length = g.rows.length := by
  unfold putOut at h
  split at h
  · cases h
  split at h
  · cases h
  split at h
  · cases h
  next g1 e =>
  split at h
  · cases h
  next g3 e3 =>
  unfold pre at e
  split at e
  · cases e
  cases e
  unfold fin at h
  have l1 := (moves_len e3).trans old_len
  have l2 : (if first = true then write w k g else g).rows.length = g.rows.length := by
    split
    · exact len_write
    · rfl
  split at h
  · cases h
    exact l1.trans l2
  · split at h
    · cases h
    · cases h
      exact len_write.trans (l1.trans l2)
theorem row_sum : ∀ (l : List (List (Option Str))) (w : Nat), (∀ r ∈ l, r.length ≤ w) → (l.map alive).sum ≤ l.length * w
  | [], w, _ => by simp
  | r :: l, w, h => by
    have h1 := row_sum l w fun r hr => h r (by simp [hr])
    have h2 := alive_le (r := r)
    have h3 := h r (by simp)
    simp only [List.map_cons, List.sum_cons, List.length_cons, Nat.add_mul, Nat.one_mul]
    omega
theorem keys_len (o : Ok w g) : (keys g).length ≤ 64 := by
  rw [← total_eq]
  unfold total
  have h := row_sum g.rows w fun r hr => by
    obtain ⟨i, hi, e⟩ := List.mem_iff_getElem.1 hr
    have z := o.le i
    unfold Lg.row at z
    rw [List.getD_eq_getElem?_getD, List.getElem?_eq_getElem hi, e] at z
    exact z
  have h2 := o.n8
  have h3 := o.w8
  exact Nat.le_trans h (Nat.le_trans (Nat.mul_le_mul h2 h3) (by decide))
end
end CLg
end

section
/-! The store's log: what only reads. -/
namespace CLg
open PySem PySem.Spec PyProof.Rows L2 Evl
abbrev mL (K : Kf) (m : Str) : Addr := He.ma K (cL K) m
section
variable {w : World} {K : Kf} {mg : Str → Option Value} {base : Heap}
def spHead (K : Kf) : Sp := fun vs H Q _ => ∃ ad w g ts, vs = [.ref ad.g] ∧ LogAt K H ad w g ts ∧ RetV (.int (g.head : Int)) H Q
theorem spv_head {H : Hp} {ad : Ad} {w : Nat} {g : Lg} {ts : List Nat} (h : LogAt K H ad w g ts) : SpV (spHead K) [.ref ad.g] H (.int (g.head : Int)) := fun H1 e Q q E => ⟨ad, w, g, ts, rfl, h.ex e, q⟩
theorem sc_l_head_segment : FnScope ["self"] ["self"] (defScope x_l_head_segment) := ⟨rfl, rfl, rfl, by decide +kernel, rfl, by decide +kernel, by decide +kernel⟩
theorem ok_l_head (T : Tx K mg) : Fnc PP w K mg base CX0 1 (mL K "head_segment") ["self"] (spHead K) := by
  refine mk0 T.d_l_head_segment sc_l_head_segment (by rintro _ H Q E ⟨ad, w, g, ts, rfl, _⟩; rfl) (by intro kV doc pm an cdv ct us h; match us, h with | [_], _ => rfl) ?_
  rintro cdv A outer s H _ Q E hr ⟨ad, w, g, ts, rfl, hL, q⟩
  have nd := sc_l_head_segment.nd
  refine ⟨_, (pss_one (ps_ret (pe_ix ix_list (pe_fld (pv 0) rfl) (pe_un un_neg pe_int) (fun _ _ => rfl)))), ?_⟩
  exact s_ret (ev_op (ev_fld (ev_var rfl) hL.obj T.cl T.nl_turns rfl) (ev_un ev_c ru_neg) (rv_ixL (SqL.of hL.tn) (vns_last hL.hd))) q
def spAlive (K : Kf) : Sp := fun vs H Q _ => ∃ ad w g ts s, vs = [.ref ad.g, .int ((s : Nat) : Int)] ∧ LogAt K H ad w g ts ∧ s < g.rows.length ∧ RetV (.int (alive (g.row s) : Int)) H Q
theorem spv_alive {H : Hp} {ad : Ad} {w : Nat} {g : Lg} {ts : List Nat} (h : LogAt K H ad w g ts) {s : Nat} (hs : s < g.rows.length) : SpV (spAlive K) [.ref ad.g, .int (s : Int)] H (.int (alive (g.row s) : Int)) := fun H1 e Q q E => ⟨ad, w, g, ts, s, rfl, h.ex e, hs, q⟩
theorem sc_l_alive : FnScope ["self", "segment", "key"] ["self", "segment"] (defScope x_l_alive) := ⟨rfl, rfl, rfl, by decide +kernel, rfl, by decide +kernel, by decide +kernel⟩
theorem ok_l_alive (T : Tx K mg) : Fnc PP w K mg base CX0 1 (mL K "alive") ["self", "segment"] (spAlive K) := by
  refine mk0 T.d_l_alive sc_l_alive (by rintro _ H Q E ⟨ad, w, g, ts, s, rfl, _⟩; rfl) (by intro kV doc pm an cdv ct us h; match us, h with | [_, _], _ => rfl) ?_
  rintro cdv A outer s0 H _ Q E hr ⟨ad, w, g, ts, s, rfl, hL, hs, q⟩
  have nd := sc_l_alive.nd
  refine ⟨_, (pss_one (ps_ret (pe_callB call_len_seq (by rfl) T.b_len PySem.boot_len (pa_cons (pe_lc (own := [("key", 2)]) (g := gName 2) rfl nd (pi_list (pe_ix ix_list (pe_fld (pv 0) rfl) (pv 1) (fun _ _ => rfl))) (blkOk_by (N := ["self", "segment", "key"]) (sc := defScope x_l_alive) (by decide +kernel)) (fun _ _ _ _ _ => (pg_name (i := 2) nd rfl (Or.inl rfl))) (fun _ _ _ _ _ => (pts_one (pt_cmpR op_notN (pv 2) pe_non (nomark _)))) (fun _ _ _ _ _ => (pv 2))) pa_nil)))), ?_⟩
  obtain ⟨a, xs, h1, h2, h3, h4, _⟩ := hL.rw.get hs
  refine s_ret (v := .int ((given xs.length (fun i => ((g.row s).getD i none).isSome) (fun i => xs.getD i .non)).length : Int)) (ev_lenN (el_lcL (fun i => ((g.row s).getD i none).isSome) (fun i => xs.getD i .non)
    (ev_op (ev_fld (ev_var rfl) hL.obj T.cl T.nl_rows rfl) (ev_var rfl) (rv_ixL (SqL.of hL.rw.at_) (atI_nat h2))) (SqL.of h3) ?_ (fun _ => rfl) ?_ ?_)) ?_
  · have := hL.ok.le s; have := hL.ok.w8; rw [h4.1]; show (g.row s).length ≤ 40000; omega
  · intro i x H1 e hx
    refine et_is (et_B (ev_op (ev_var rfl) ev_c rv_notN)) ?_
    have hi : i < (g.row s).length := by rw [← show xs.length = (g.row s).length from h4.1]; exact (List.getElem?_eq_some_iff.1 hx).1
    have := (h4.getD hi).isN
    rw [List.getD_eq_getElem?_getD, hx] at this
    rw [show decide (x = .non) = !((g.row s).getD i none).isSome from this]
    simp
  · intro i x H1 e hx _
    rw [List.getD_eq_getElem?_getD, hx]
    exact ev_var rfl
  · rw [given_len', h4.1]
    exact q
def spClosed (K : Kf) : Sp := fun vs H Q _ => ∃ ad w g ts s, vs = [.ref ad.g, .int ((s : Nat) : Int)] ∧ LogAt K H ad w g ts ∧ s < g.rows.length ∧ RetV (.bl (decide (s ∈ shut g))) H Q
theorem spv_closed {H : Hp} {ad : Ad} {w : Nat} {g : Lg} {ts : List Nat} (h : LogAt K H ad w g ts) {s : Nat} (hs : s < g.rows.length) : SpV (spClosed K) [.ref ad.g, .int (s : Int)] H (.bl (decide (s ∈ shut g))) := fun H1 e Q q E => ⟨ad, w, g, ts, s, rfl, h.ex e, hs, q⟩
theorem dec_shut {g : Lg} {s : Nat} (hs : s < g.rows.length) : decide (s ∈ shut g) = (!decide (V.int (s : Int) = V.int (g.head : Int)) && decide ((alive (g.row s) : Int) > 0)) := by
  have e : decide (s ∈ shut g) = decide (s < g.rows.length ∧ s ≠ g.head ∧ 0 < alive (g.row s)) := by simp only [mem_shut]
  rw [e]
  by_cases h1 : s = g.head <;> by_cases h2 : 0 < alive (g.row s) <;> simp [hs, h1, h2] <;> omega
theorem sc_l_is_closed : FnScope ["self", "segment"] ["self", "segment"] (defScope x_l_is_closed) := ⟨rfl, rfl, rfl, by decide +kernel, rfl, by decide +kernel, by decide +kernel⟩
theorem ok_l_closed (T : Tx K mg) : Fnc PP w K mg base CX0 2 (mL K "is_closed") ["self", "segment"] (spClosed K) := by
  refine mk0 T.d_l_is_closed sc_l_is_closed (by rintro _ H Q E ⟨ad, w, g, ts, s, rfl, _⟩; rfl) (by intro kV doc pm an cdv ct us h; match us, h with | [_, _], _ => rfl) ?_
  rintro cdv A outer s0 H _ Q E hr ⟨ad, w, g, ts, s, rfl, hL, hs, q⟩
  have nd := sc_l_is_closed.nd
  refine ⟨_, (pss_one (ps_ret (pe_and (pe_cmpR op_ne (pv 1) (pe_m0 (pv 0) T.cl T.m_l_head_segment (ok_l_head T) hr pass0) (nomark _)) (pe_one (pe_cmpR op_gt (pe_m (pv 0) T.cl T.m_l_alive (ok_l_alive T) hr pass0 (pa_cons (pv 1) pa_nil)) pe_int (nomark _)))))), ?_⟩
  refine s_ret (ev_is (ev_andV (ev_op (ev_var rfl) (ev_meth (ev_var rfl) hL.obj rfl ea_nil (spv_head hL)) (rv_ne rfl)) fun _ => ev_op (ev_meth (ev_var rfl) hL.obj rfl (ea_cons (ev_var rfl) ea_nil) (spv_alive hL hs)) ev_c rv_I0) ?_) q
  rw [dec_shut hs]
def spUnw (K : Kf) : Sp := fun vs H Q _ => ∃ ad w g ts, vs = [.ref ad.g] ∧ LogAt K H ad w g ts ∧ RetL (vns (free g)) H Q
theorem spl_unw {H : Hp} {ad : Ad} {w : Nat} {g : Lg} {ts : List Nat} (h : LogAt K H ad w g ts) : SpL (spUnw K) [.ref ad.g] H (vns (free g)) := fun H1 e Q q E => ⟨ad, w, g, ts, rfl, h.ex e, q⟩
theorem sc_l_unwritten : FnScope ["self", "head", "segment", "row"] ["self"] (defScope x_l_unwritten) := ⟨rfl, rfl, rfl, by decide +kernel, rfl, by decide +kernel, by decide +kernel⟩
theorem ok_l_unw (T : Tx K mg) : Fnc PP w K mg base CX0 2 (mL K "unwritten") ["self"] (spUnw K) := by
  refine mk0 T.d_l_unwritten sc_l_unwritten (by rintro _ H Q E ⟨ad, w, g, ts, rfl, _⟩; rfl) (by intro kV doc pm an cdv ct us h; match us, h with | [_], _ => rfl) ?_
  rintro cdv A outer s0 H _ Q E hr ⟨ad, w, g, ts, rfl, hL, q⟩
  have nd := sc_l_unwritten.nd
  refine ⟨_, (pss_cons (ps_set (i := 1) nd rfl (Or.inr rfl) (pe_m0 (pv 0) T.cl T.m_l_head_segment (ok_l_head T) hr pass0))
    (pss_one (ps_ret (pe_lc (own := [("segment", 2), ("row", 3)]) (g := gTup K 2 (gCons (gName 2) (gCons (gName 3) gNil))) (tt := tAnd (tNot (tTru K (tVar 3))) (tB (tOp rNe (tVar 2) (tVar 1)))) rfl nd (pi_enum (by rfl) T.b_enumerate (pa_cons (pe_fld (pv 0) rfl) pa_nil)) (blkOk_by (N := ["self", "head", "segment", "row"]) (sc := defScope x_l_unwritten) (by decide +kernel)) (fun _ _ _ _ _ => (pg_tup rfl (pgs_cons (pg_name (i := 2) nd rfl (Or.inl rfl)) (pgs_cons (pg_name (i := 3) nd rfl (Or.inl rfl)) pgs_nil)))) (fun _ _ _ _ _ => (pts_one (PW.pt (pw_and (pt_not (pt_truth (pv 3) (by intro _; rfl))) (pw_and1 (pt_cmpR op_ne (pv 2) (pv 1) (nomark _))))))) (fun _ _ _ _ _ => (pv 2)))))), ?_⟩
  refine q_asg (ev_meth (ev_var rfl) hL.obj rfl ea_nil (spv_head hL)) fun H1 e1 => ?_
  have hL1 := hL.ex e1
  refine s_retL (xs := given (ad.as.map V.ref).length (fun s => decide ((g.row s).length = 0) && decide (s ≠ g.head)) (fun i => .int (i : Int))) (el_lcE (fun s => decide ((g.row s).length = 0) && decide (s ≠ g.head)) (fun i => .int (i : Int)) (ev_fld (ev_var rfl) hL1.obj T.cl T.nl_rows rfl) (SqL.of hL1.rw.at_) ?_ (fun _ _ => rfl) ?_ ?_) ?_
  · rw [List.length_map, hL.rw.len]; have := hL.ok.n8; omega
  · intro n x H2 e2 hx
    have hn : n < g.rows.length := by have := (List.getElem?_eq_some_iff.1 hx).1; rw [List.length_map, hL.rw.len] at this; exact this
    obtain ⟨a, xs, h1, h2, h3, h4, _⟩ := (hL1.ex e2).rw.get hn
    rw [h2] at hx
    cases hx
    refine et_and (et_is (et_not (a := !xs.isEmpty) ?_) ?_) fun _ => et_is (et_B (ev_op (ev_var rfl) (ev_var rfl) (rv_ne rfl))) ?_
    · intro H3 e3 Q' q'
      exact ⟨_, rfl, !xs.isEmpty, .inl ⟨xs, SqL.of (e3 _ _ h3), rfl⟩, q' H3 (Ex.refl _)⟩
    · have := h4.1
      rw [Bool.not_not]
      show xs.isEmpty = decide ((g.rows.getD n []).length = 0)
      rw [← this]
      cases xs <;> simp
    · by_cases z : n = g.head
      · simp [z]
      · simp [z]
        omega
  · intro n x H2 e2 hx _
    exact ev_var rfl
  · intro p H2 hp e2 h2
    rw [given_vns, List.length_map, hL.rw.len] at h2
    exact RetL.go q e1 hp e2 h2
def spRoom (K : Kf) : Sp := fun vs H Q _ => ∃ ad w g ts, vs = [.ref ad.g] ∧ LogAt K H ad w g ts ∧ RetV (.int (room w g)) H Q
theorem spv_room {H : Hp} {ad : Ad} {w : Nat} {g : Lg} {ts : List Nat} (h : LogAt K H ad w g ts) : SpV (spRoom K) [.ref ad.g] H (.int (room w g)) := fun H1 e Q q E => ⟨ad, w, g, ts, rfl, h.ex e, q⟩
theorem sc_l_room_left : FnScope ["self", "left"] ["self"] (defScope x_l_room_left) := ⟨rfl, rfl, rfl, by decide +kernel, rfl, by decide +kernel, by decide +kernel⟩
theorem ok_l_room (T : Tx K mg) : Fnc PP w K mg base CX0 3 (mL K "room_left") ["self"] (spRoom K) := by
  refine mk0 T.d_l_room_left sc_l_room_left (by rintro _ H Q E ⟨ad, w, g, ts, rfl, _⟩; rfl) (by intro kV doc pm an cdv ct us h; match us, h with | [_], _ => rfl) ?_
  rintro cdv A outer s0 H _ Q E hr ⟨ad, w, g, ts, rfl, hL, q⟩
  have nd := sc_l_room_left.nd
  refine ⟨_, (pss_cons (ps_set (i := 1) nd rfl (Or.inl rfl) (pe_op op_sub (pe_fld (pv 0) rfl) (pe_callB call_len_seq (by rfl) T.b_len PySem.boot_len (pa_cons (pe_ix ix_list (pe_fld (pv 0) rfl) (pe_m0 (pv 0) T.cl T.m_l_head_segment (ok_l_head T) (hr.mono (by decide)) pass0) (fun _ _ => rfl)) pa_nil))))
    (pss_one (ps_ret (pe_op op_add (pv 1) (pe_op op_mul (pe_fld (pv 0) rfl) (pe_callB call_len_seq (by rfl) T.b_len PySem.boot_len (pa_cons (pe_m0 (pv 0) T.cl T.m_l_unwritten (ok_l_unw T) hr pass0) pa_nil))))))), ?_⟩
  obtain ⟨a, xs, h1, h2, h3, h4, _⟩ := hL.rw.get hL.ok.hd
  refine q_asg (ev_op (ev_fld (ev_var rfl) hL.obj T.cl T.nl_span rfl) (ev_len (ev_op (ev_fld (ev_var rfl) hL.obj T.cl T.nl_rows rfl) (ev_meth (ev_var rfl) hL.obj rfl ea_nil (spv_head hL)) (rv_ixL (SqL.of hL.rw.at_) (atI_nat h2))) (SqL.of h3)) rv_I0) fun H1 e1 => ?_
  have hL1 := hL.ex e1
  refine s_ret (ev_is (ev_op (ev_var rfl) (ev_op (ev_fld (ev_var rfl) hL1.obj T.cl T.nl_span rfl) (ev_lenN (el_meth (ev_var rfl) hL1.obj rfl ea_nil (spl_unw hL1))) (rv_I ?_)) rv_I0) ?_) fun H2 e2 => q H2 (e1.trans e2)
  · have := hL.ok.w8
    left; omega
  · show V.int (((w : Int) - (xs.length : Int)) + (w : Int) * ((vns (free g)).length : Int)) = V.int (room w g)
    rw [vns_len, h4.1]
    rfl
end
end CLg
end

section
/-! The store's log: where a key stands, and the changes. -/
namespace CLg
open PySem PySem.Spec PyProof.Rows L2 Evl
def RetU (xs : List V) (H : Hp) (Q : VK) : Prop := ∀ p H2, H p = none → Ex H H2 → H2 p = some (.tup xs) → Q (.ref p) H2
theorem get_list {X : Cx} : PGet X (fun o i H Q => ∃ p xs n v, o = .ref p ∧ i = .int ((n : Nat) : Int) ∧ SqL X.K H p xs ∧ xs[n]? = some v ∧ Q v H) := by
  intro pins s σ H o i ov iv Q I ro ri h
  obtain ⟨p, xs, n, v, rfl, rfl, hq, hx, q⟩ := h
  cases ro
  obtain ⟨t, rfl⟩ := ri
  obtain ⟨its, r, pl, hz⟩ := I.list hq
  obtain ⟨u, ew, rw'⟩ := r.get hx
  have hn := (List.getElem?_eq_some_iff.1 hx).1
  have h63 := line63
  exact wpAny_getItem_list pl.isList (by omega) (by omega) (by simpa using ew) ⟨v, H, I, rw', q⟩
theorem fst_at {k : Str} : ∀ {r : List (Option Str)}, some k ∈ r → ∃ j : Nat, r[j]? = some (some k) ∧ ∀ j' : Nat, j' < j → r[j']? ≠ some (some k)
  | [], h => by cases h
  | x :: r, h => by
    by_cases e : x = some k
    · exact ⟨0, by simp [e], fun j' z => by omega⟩
    · obtain ⟨j, h1, h2⟩ := fst_at (k := k) (r := r) ((List.mem_cons.1 h).resolve_left fun z => e z.symm)
      refine ⟨j + 1, by simpa using h1, fun j' z => ?_⟩
      cases j' with
      | zero => simpa using e
      | succ n => simpa using h2 n (by omega)
theorem cellS_flat {H : Hp} {o : Option Str} {v : V} (c : Cell false H o v) : flatV v = true := by
  cases o with
  | none => rw [show v = .non from c]; rfl
  | some k => rw [show v = .str k from by simpa [Cell] using c]; rfl
theorem cellS_eq {H : Hp} {o : Option Str} {v : V} {k : Str} (c : Cell false H o v) : eqV v (.str k) = decide (o = some k) := by
  cases o with
  | none => rw [show v = .non from c]; rfl
  | some a =>
    rw [show v = .str a from by simpa [Cell] using c]
    show (a == k) = _
    by_cases h : a = k
    · subst h; simp
    · simp [h]
theorem cellsS_flat {H : Hp} {r : List (Option Str)} {xs : List V} (c : Cells false H r xs) : xs.all flatV = true := by
  rw [List.all_eq_true]
  intro x m
  obtain ⟨i, hi, e⟩ := List.mem_iff_getElem.1 m
  have hr : i < r.length := by rw [← c.1]; exact hi
  obtain ⟨v, e1, d⟩ := c.get hr
  rw [List.getElem?_eq_getElem hi, e] at e1
  cases e1
  exact cellS_flat d
theorem cellsS_in {H : Hp} {r : List (Option Str)} {xs : List V} {k : Str} (c : Cells false H r xs) : inV (.str k) xs = decide (some k ∈ r) := by
  rw [Bool.eq_iff_iff, decide_eq_true_iff]
  unfold inV
  rw [List.any_eq_true]
  constructor
  · rintro ⟨x, m, e⟩
    obtain ⟨i, hi, e2⟩ := List.mem_iff_getElem.1 m
    have hr : i < r.length := by rw [← c.1]; exact hi
    obtain ⟨v, e1, d⟩ := c.2 i _ (List.getElem?_eq_getElem hr)
    rw [List.getElem?_eq_getElem hi, e2] at e1
    cases e1
    rw [cellS_eq d, decide_eq_true_iff] at e
    rw [← e]
    exact List.getElem_mem hr
  · intro m
    obtain ⟨i, hi, e⟩ := List.mem_iff_getElem.1 m
    obtain ⟨v, e1, d⟩ := c.2 i _ (List.getElem?_eq_getElem hi)
    refine ⟨v, List.mem_of_getElem? e1, ?_⟩
    rw [cellS_eq d, e]
    simp
section
variable {w : World} {K : Kf} {mg : Str → Option Value} {base : Heap}
def spSpot (K : Kf) : Sp := fun vs H Q _ => ∃ ad w g ts k, vs = [.ref ad.g, .str k] ∧ LogAt K H ad w g ts ∧ (match find k g with | none => RetV .non H Q | some (s, j) => RetU [.int (s : Int), .int (j : Int)] H Q)
theorem sc_l_spot_of : FnScope ["self", "key", "segment", "row"] ["self", "key"] (defScope x_l_spot_of) := ⟨rfl, rfl, rfl, by decide +kernel, rfl, by decide +kernel, by decide +kernel⟩
theorem ok_l_spot (T : Tx K mg) : Fnc PP w K mg base CX0 1 (mL K "spot_of") ["self", "key"] (spSpot K) := by
  refine mk0 T.d_l_spot_of sc_l_spot_of (by rintro _ H Q E ⟨ad, w, g, ts, k, rfl, _⟩; rfl) (by intro kV doc pm an cdv ct us h; match us, h with | [_, _], _ => rfl) ?_
  rintro cdv A outer s0 H _ Q E hr ⟨ad, w, g, ts, k, rfl, hL, q⟩
  have nd := sc_l_spot_of.nd
  refine ⟨_, (pss_cons (ps_for PassesOwn.never rfl (pi_enum (by rfl) T.b_enumerate (pa_cons (pe_fld (pv 0) rfl) pa_nil)) (pg_tup rfl (pgs_cons (pg_name (i := 2) nd rfl (by first | exact Or.inl rfl | exact Or.inr rfl)) (pgs_cons (pg_name (i := 3) nd rfl (by first | exact Or.inl rfl | exact Or.inr rfl)) pgs_nil)))
      (pss_one (ps_if (pt_cmpR op_in_seq (pv 1) (pv 3) rfl) (pss_one (ps_ret (pe_tup (pa_cons (pv 2) (pa_cons (pe_bm PySem.F.plainAttrs_list PySem.F.slot_list_index PySem.F.type_list_index mt_index (pv 3) (pa_cons (pv 1) pa_nil)) pa_nil))))) pss_nil)))
    (pss_one (ps_ret pe_non))), ?_⟩
  refine ev_fld (ev_var rfl) hL.obj T.cl T.nl_rows rfl H (Ex.refl _) _ fun H1 e1 => ?_
  have hL1 := hL.ex e1
  refine ⟨_, _, rfl, SqL.of hL1.rw.at_, for_it (walk_enum (K := K) (a := ad.A) (xs := ad.as.map V.ref)) (fun n σ H' => Ex H1 H' ∧ (∀ s', s' < n → some k ∉ g.row s') ∧ ∃ x y, σ = [some (.ref ad.g), some (.str k), x, y])
    ⟨Ex.refl _, fun s' z => by omega, _, _, rfl⟩ (fun n σ H' _ p => SqL.of (p.1 _ _ hL1.rw.at_)) ?_ ?_⟩
  · rintro n x σ H2 H3 hn ⟨e2, hb, x0, y0, rfl⟩ ⟨t, u, v, rfl, hT, rfl, ea, eb⟩
    cases ea
    rw [List.length_map, hL1.rw.len] at hn
    have e3 : Ex H1 (upd H2 t (.tup [.int (n : Int), v])) := e2.trans (Ex.new hT)
    have hL3 := hL1.ex e3
    obtain ⟨a, xs, h1, h2, h3, h4, _⟩ := hL3.rw.get hn
    have eb : (ad.as.map V.ref)[n]? = some v := eb
    rw [h2] at eb
    cases eb
    refine ⟨t, _, rfl, SqT.of upd_same, rfl, _, _, rfl, _, _, rfl, rfl, ?_⟩
    refine s_if (b := inV (.str k) xs) (et_B (ev_op (ev_var rfl) (ev_var rfl) (rv_isL (SqL.of h3) rfl (cellsS_flat h4)))) ?_ ?_
    · intro hin H4 e4
      rw [cellsS_in h4, decide_eq_true_iff] at hin
      obtain ⟨j, j1, j2⟩ := fst_at hin
      have hf : find k g = some (n, j) := Found.eq ⟨j1, j2, hb⟩
      rw [hf] at q
      obtain ⟨z, z1, z2⟩ := h4.2 j _ j1
      refine ⟨_, rfl, _, rfl, .inl ⟨rfl, _, SqL.of (e4 _ _ h3)⟩, _, rfl, _, xs, .str k, j, z, rfl, rfl, SqL.of (e4 _ _ h3), rfl, cellsS_flat h4, z1, by rw [cellS_eq z2]; simp, ?_, ?_⟩
      · intro m z' hm hz
        have hm2 : m < (g.row n).length := by have := (List.getElem?_eq_some_iff.1 hz).1; rw [h4.1] at this; exact this
        obtain ⟨v', e5, e6⟩ := h4.2 m _ (List.getElem?_eq_getElem hm2)
        rw [hz] at e5
        cases e5
        rw [cellS_eq e6, decide_eq_false_iff_not]
        intro z5
        exact j2 m hm ((List.getElem?_eq_getElem (show m < (g.rows.getD n []).length from hm2)).trans (congrArg some z5))
      · refine ⟨by show 2 ≤ sizeLine; decide, fun p hp => q p _ (fresh_back (e1.trans (e3.trans e4)) hp) ((e1.trans (e3.trans e4)).trans (Ex.new hp)) upd_same⟩
    · intro hin H4 e4
      rw [cellsS_in h4, decide_eq_false_iff_not] at hin
      refine ⟨e3.trans e4, fun s' z => ?_, _, _, rfl⟩
      by_cases z2 : s' = n
      · rw [z2]; exact hin
      · exact hb s' (by omega)
  · rintro σ H2 ⟨e2, hb, _⟩
    have hf : find k g = none := Found.eq (show Found k g none from fun s' z => hb s' (by
      rw [List.length_map, hL1.rw.len]
      exact row_lt fun e => by rw [e] at z; cases z) z)
    rw [hf] at q
    exact q H2 (e1.trans e2)
end
end CLg
end

section
/-! The store's log: the changes. -/
namespace CLg
open PySem PySem.Spec PyProof.Rows L2 Evl
/-- what follows holds wherever the log then stands -/
def LogTo (K : Kf) (H : Hp) (ad : Ad) (w : Nat) (g : Lg) (R : Hp → Prop) : Prop := ∀ H2 ad2 ts2, LogAt K H2 ad2 w g ts2 → ad2.g = ad.g → Stp ad.own H ad2.own H2 → R H2
theorem LogTo.ex {K : Kf} {H H1 : Hp} {ad : Ad} {w : Nat} {g : Lg} {R : Hp → Prop} (q : LogTo K H ad w g R) (e : Ex H H1) : LogTo K H1 ad w g R := fun H2 ad2 ts2 h e2 s => q H2 ad2 ts2 h e2 ((Stp.ex e).trans s)
theorem LogTo.step {K : Kf} {H H1 : Hp} {ad ad1 : Ad} {w : Nat} {g : Lg} {R : Hp → Prop} (q : LogTo K H ad w g R) (e : ad1.g = ad.g) (s : Stp ad.own H ad1.own H1) : LogTo K H1 ad1 w g R := fun H2 ad2 ts2 h e2 s2 => q H2 ad2 ts2 h (e2.trans e) (s.trans s2)
theorem cellS {H : Hp} {k : Str} : Cell false H (some k) (.str k) := by simp [Cell]
theorem given_filter (l : List Nat) (p : Nat → Bool) : given l.length (fun i => p (l.getD i 0)) (fun i => .int ((l.getD i 0 : Nat) : Int)) = vns (l.filter p) := by
  have h : (List.range l.length).map (fun i => l.getD i 0) = l := by
    apply List.ext_getElem
    · simp
    · intro i h1 h2
      simp [List.getD_eq_getElem?_getD, h2]
  unfold given vns
  conv => rhs; rw [← h]
  rw [List.filter_map, List.map_map]
  rfl
section
variable {w : World} {K : Kf} {mg : Str → Option Value} {base : Heap}
theorem sc_l_can_carry : FnScope ["self", "segment"] ["self", "segment"] (defScope x_l_can_carry) := ⟨rfl, rfl, rfl, by decide +kernel, rfl, by decide +kernel, by decide +kernel⟩
def spCan (K : Kf) : Sp := fun vs H Q _ => ∃ ad w g ts s, vs = [.ref ad.g, .int ((s : Nat) : Int)] ∧ LogAt K H ad w g ts ∧ RetV (.bl (decide (s ∈ shut g ∧ room w g ≠ 0))) H Q
theorem spv_can {H : Hp} {ad : Ad} {w : Nat} {g : Lg} {ts : List Nat} (h : LogAt K H ad w g ts) {s : Nat} : SpV (spCan K) [.ref ad.g, .int (s : Int)] H (.bl (decide (s ∈ shut g ∧ room w g ≠ 0))) := fun H1 e Q q E => ⟨ad, w, g, ts, s, rfl, h.ex e, q⟩
theorem ok_l_can (T : Tx K mg) : Fnc PP w K mg base CX0 4 (mL K "can_carry") ["self", "segment"] (spCan K) := by
  refine mk0 T.d_l_can_carry sc_l_can_carry (by rintro _ H Q E ⟨ad, w, g, ts, s, rfl, _⟩; rfl) (by intro kV doc pm an cdv ct us h; match us, h with | [_, _], _ => rfl) ?_
  rintro cdv A outer s0 H _ Q E hr ⟨ad, w, g, ts, s, rfl, hL, q⟩
  have nd := sc_l_can_carry.nd
  refine ⟨_, (pss_cons (ps_if (PW.pt (pw_or (pt_cmpR op_lt (pv 1) pe_int (nomark _)) (pw_or1 (pt_cmpR op_ge (pv 1) (pe_callB call_len_seq (by rfl) T.b_len PySem.boot_len (pa_cons (pe_fld (pv 0) rfl) pa_nil)) (nomark _))))) (pss_one (ps_ret pe_bl)) pss_nil)
    (pss_one (ps_ret (pe_and (pe_m (pv 0) T.cl T.m_l_is_closed (ok_l_closed T) (hr.mono (by decide)) pass0 (pa_cons (pv 1) pa_nil)) (pe_one (pe_cmpR op_gt (pe_m0 (pv 0) T.cl T.m_l_room_left (ok_l_room T) hr pass0) pe_int (nomark _))))))), ?_⟩
  have hlen : (ad.as.map V.ref).length = g.rows.length := by rw [List.length_map, hL.rw.len]
  refine q_when (et_or (et_B (ev_op (ev_var rfl) ev_c rv_I0)) fun _ => et_B (ev_op (ev_var rfl) (ev_len (ev_fld (ev_var rfl) hL.obj T.cl T.nl_rows rfl) (SqL.of hL.rw.at_)) rv_I0)) ?_ ?_
  · intro hb H1 e1
    have hs : ¬ s < g.rows.length := by
      rw [hlen] at hb
      simp only [Bool.or_eq_true, decide_eq_true_eq] at hb
      omega
    refine s_ret (ev_is ev_c ?_) fun H2 e2 => q H2 (e1.trans e2)
    rw [decide_eq_false fun z => hs (mem_shut.1 z.1).1]
  · intro hb H1 e1
    have hs : s < g.rows.length := by
      rw [hlen] at hb
      simp only [Bool.or_eq_false_iff, decide_eq_false_iff_not] at hb
      omega
    have hL1 := hL.ex e1
    refine s_ret (ev_is (ev_andV (ev_meth (ev_var rfl) hL1.obj rfl (ea_cons (ev_var rfl) ea_nil) (spv_closed hL1 hs)) fun _ => ev_op (ev_meth (ev_var rfl) hL1.obj rfl ea_nil (spv_room hL1)) ev_c rv_I0) ?_) fun H2 e2 => q H2 (e1.trans e2)
    have := room_nn hL.ok
    by_cases z1 : s ∈ shut g <;> by_cases z2 : room w g = 0 <;> simp [z1, z2] <;> omega
theorem sc_l_append_key : FnScope ["self", "key", "fresh", "segment"] ["self", "key"] (defScope x_l_append_key) := ⟨rfl, rfl, rfl, by decide +kernel, rfl, by decide +kernel, by decide +kernel⟩
def spApp (K : Kf) : Sp := fun vs H Q _ => ∃ ad w g ts k, vs = [.ref ad.g, .str k] ∧ LogAt K H ad w g ts ∧ room w g ≠ 0 ∧ LogTo K H ad w (write w k g) fun H2 => Q .non H2
theorem ok_l_app (T : Tx K mg) : Fnc PP w K mg base CX0 3 (mL K "append_key") ["self", "key"] (spApp K) := by
  refine mk0 T.d_l_append_key sc_l_append_key (by rintro _ H Q E ⟨ad, w, g, ts, k, rfl, _⟩; rfl) (by intro kV doc pm an cdv ct us h; match us, h with | [_, _], _ => rfl) ?_
  rintro cdv A outer s0 H _ Q E hr ⟨ad, w, g, ts, k, rfl, hL, hroom, q⟩
  have nd := sc_l_append_key.nd
  refine ⟨_, (pss_cut (ps_if (pt_cmpR op_eq (pe_callB call_len_seq (by rfl) T.b_len PySem.boot_len (pa_cons (pe_ix ix_list (pe_fld (pv 0) rfl) (pe_m0 (pv 0) T.cl T.m_l_head_segment (ok_l_head T) (hr.mono (by decide)) pass0) (fun _ _ => rfl)) pa_nil)) (pe_fld (pv 0) rfl) (nomark _)) (pss_cons (ps_set (i := 2) nd rfl (by first | exact Or.inl rfl | exact Or.inr rfl) (pe_ix ix_list (pe_m0 (pv 0) T.cl T.m_l_unwritten (ok_l_unw T) hr pass0) pe_int (fun _ _ => rfl)))
      (pss_one (ps_fld (pv 0) (pe_op op_cat (pe_lc (own := [("segment", 3)]) (g := gName 3) rfl nd (pi_list (pe_fld (pv 0) rfl)) (blkOk_by (N := ["self", "key", "fresh", "segment"]) (sc := defScope x_l_append_key) (by decide +kernel)) (fun _ _ _ _ _ => (pg_name (i := 3) nd rfl (Or.inl rfl))) (fun _ _ _ _ _ => (pts_one (pt_cmpR op_ne (pv 3) (pv 2) (nomark _)))) (fun _ _ _ _ _ => (pv 3))) (pe_lst (pa_cons (pv 2) pa_nil))) rfl))) pss_nil)
    (pss_one (ps_expr (pe_bm PySem.F.plainAttrs_list PySem.F.slot_list_append PySem.F.type_list_append mt_append (pe_ix ix_list (pe_fld (pv 0) rfl) (pe_m0 (pv 0) T.cl T.m_l_head_segment (ok_l_head T) (hr.mono (by decide)) pass0) (fun _ _ => rfl)) (pa_cons (pv 1) pa_nil))))), ?_⟩
  obtain ⟨a, xs, h1, h2, h3, h4, _⟩ := hL.rw.get hL.ok.hd
  refine q_cut (M := fun σ' H' => ∃ ad' ts' x y, σ' = [some (.ref ad.g), some (.str k), x, y] ∧ LogAt K H' ad' w (turn w g) ts' ∧ ad'.g = ad.g ∧ Stp ad.own H ad'.own H') ?_ ?_
  · refine s_when (et_B (ev_op (ev_len (ev_op (ev_fld (ev_var rfl) hL.obj T.cl T.nl_rows rfl) (ev_meth (ev_var rfl) hL.obj rfl ea_nil (spv_head hL)) (rv_ixL (SqL.of hL.rw.at_) (atI_nat h2))) (SqL.of h3)) (ev_fld (ev_var rfl) hL.obj T.cl T.nl_span rfl) (rv_eq rfl))) ?_ ?_
    · intro hb H1 e1
      have hf : (g.row g.head).length = w := by
        have z := of_decide_eq_true hb
        rw [h4.1] at z
        injection z with z
        have z : ((g.row g.head).length : Int) = (w : Int) := z
        omega
      have hL1 := hL.ex e1
      have fs := free_some hroom hf
      have fm := mem_free.1 (List.mem_of_getElem? fs)
      refine q_asg (ev_opL1 (el_meth (ev_var rfl) hL1.obj rfl ea_nil (spl_unw hL1)) (fun _ _ => ev_c) fun p H2 hp e2 => rv_ixL (SqL.of hp) (atI_nat (j := 0) (vns_get fs))) fun H2 e2 => ?_
      have hL2 := hL1.ex e2
      refine r_setfld (el_cat (xs := vns (ts.filter fun t => decide (t ≠ (free g).getD 0 0))) (ys := [.int (((free g).getD 0 0 : Nat) : Int)]) ?_ (el_lst (ea_cons (ev_var rfl) ea_nil) (show 1 ≤ 100000 by decide)) ?_ H2 (Ex.refl _) _ fun p H3 hp e3 h3 => ?_)
      · rw [← given_filter]
        rw [show (given ts.length (fun i => decide (ts.getD i 0 ≠ (free g).getD 0 0)) fun i => V.int ((ts.getD i 0 : Nat) : Int)) = given (vns ts).length (fun i => decide (ts.getD i 0 ≠ (free g).getD 0 0)) (fun i => V.int ((ts.getD i 0 : Nat) : Int)) by rw [vns_len]]
        refine el_lcL _ _ (ev_fld (ev_var rfl) hL2.obj T.cl T.nl_turns rfl) (SqL.of hL2.tn) ?_ (fun _ => rfl) ?_ ?_
        · rw [vns_len]; have := hL.tlen; omega
        · intro i x H4 e4 hx
          obtain ⟨n, hn, rfl⟩ := vns_inv hx
          rw [List.getD_eq_getElem?_getD (l := ts), hn]
          refine et_is (et_B (ev_op (ev_var rfl) (ev_var rfl) (rv_ne rfl))) ?_
          show (!decide (V.int (n : Int) = V.int (((free g).getD 0 0 : Nat) : Int))) = decide (n ≠ (free g).getD 0 0)
          by_cases z : n = (free g).getD 0 0
          · rw [z]; simp
          · have : ¬ V.int (n : Int) = V.int (((free g).getD 0 0 : Nat) : Int) := fun y => z (by injection y with y; omega)
            rw [decide_eq_false this, decide_eq_true z]
            rfl
        · intro i x H4 e4 hx _
          obtain ⟨n, hn, rfl⟩ := vns_inv hx
          rw [List.getD_eq_getElem?_getD (l := ts), hn]
          exact ev_var rfl
      · rw [vns_len]
        have h1 := List.length_filter_le (fun t => decide (t ≠ (free g).getD 0 0)) ts
        have h2 := hL.tlen
        simp only [List.length_cons, List.length_nil]
        omega
      · have hL3 := hL2.ex e3
        have key := hL.trn (p := p) (H' := H3) (ts' := ts.filter (fun t => decide (t ≠ (free g).getD 0 0)) ++ [(free g).getD 0 0]) (x := (free g).getD 0 0) (fresh_back (e1.trans e2) hp) (by rw [h3]; unfold vns; rw [List.map_append]; rfl) ((e1.trans e2).trans e3)
          (by simp) ?_ ?_
        · refine ⟨_, rfl, ad.g, cL K, ad.dx, lfs ad w, rfl, hL3.obj, T.cl, T.nl_turns, (by decide : (4 : Nat) < 1000), ?_⟩
          have e : turn w g = { rows := g.rows, head := (free g).getD 0 0, frees := g.frees } := by unfold turn; rw [if_pos hf]
          exact ⟨{ ad with T := p }, ts.filter (fun t => decide (t ≠ (free g).getD 0 0)) ++ [(free g).getD 0 0], _, _, rfl, by rw [e]; exact key.1, rfl, key.2⟩
        · refine List.nodup_append.2 ⟨hL.tnd.filter _, by simp, fun x hx y hy => ?_⟩
          rw [List.mem_singleton.1 hy]
          exact of_decide_eq_true (List.mem_filter.1 hx).2
        · intro t ht
          rcases List.mem_append.1 ht with ht | ht
          · exact hL.tlt t (List.mem_filter.1 ht).1
          · rw [List.mem_singleton.1 ht]
            exact fm.1
    · intro hb H1 e1
      have hf : ¬ (g.row g.head).length = w := by
        have z := of_decide_eq_false hb
        intro y
        rw [h4.1, show g.rows.getD g.head [] = g.row g.head from rfl, y] at z
        exact z rfl
      refine ⟨ad, ts, _, _, rfl, ?_, rfl, Stp.ex e1⟩
      have e : turn w g = g := by unfold turn; rw [if_neg hf]
      rw [e]
      exact hL.ex e1
  · rintro σ' H' ⟨ad', ts', x, y, rfl, hL', eg, st⟩
    have ot := ok_turn hL.ok hroom
    obtain ⟨a', xs', k1, k2, k3, k4, _⟩ := hL'.rw.get hL'.ok.hd
    rw [← eg]
    refine s_app k3 (ev_op (ev_fld (ev_var rfl) hL'.obj T.cl T.nl_rows rfl) (ev_meth (ev_var rfl) hL'.obj rfl ea_nil (spv_head hL')) (rv_ixL (SqL.of hL'.rw.at_) (atI_nat k2))) (ev_var rfl) ?_ fun H1 e1 => ?_
    · rw [k4.1]
      have z := ot.2
      have z8 := hL.ok.w8
      show ((turn w g).row (turn w g).head).length < 100000
      omega
    · have hL1 := hL'.ex e1
      have z := hL1.chg (xs' := xs' ++ [.str k]) (r := (turn w g).row (turn w g).head ++ [some k]) k1 (e1 _ _ k3) ((k4.step (e1.ch [])).step (ow := [a']) (Ch.updL (e1 _ _ k3) _ (by simp)) |>.app cellS) (by have := ot.2; simp; omega)
      exact q _ ad' ts' z.1 eg (st.trans ((Stp.ex e1).trans ⟨z.2, fun b m => .inl m⟩))
end
end CLg
end

section
/-! The store's log: killing, carrying, copying, making. -/
namespace CLg
open PySem PySem.Spec PyProof.Rows L2 Evl
section
variable {w : World} {K : Kf} {mg : Str → Option Value} {base : Heap}
theorem r_augS {to ti te : TE} {tget : V → V → Hp → VK → Prop} {tip : TIp} {tset : TSet} {D : Ends} {σ : L2.St} {H : Hp} (h : to σ H fun o H1 => ti σ H1 fun i H2 => tget o i H2 fun x H3 => te σ H3 fun y H4 => tip x y H4 fun z H5 => tset o i z H5 fun H6 => D.nx σ H6) : tAugS to ti te tget tip tset D σ H := h
def killRow (s j : Nat) (g : Lg) : Lg := { rows := g.rows.set s ((g.row s).set j none), head := g.head, frees := g.frees }
theorem kill_yes {s j : Nat} {g : Lg} (h : alive ((g.row s).set j none) = 0) : kill s j g = { rows := (killRow s j g).rows.set s [], head := g.head, frees := g.frees.set s (g.frees.getD s 0 + 1) } := by
  unfold kill killRow
  rw [if_pos h, List.set_set]
theorem kill_no {s j : Nat} {g : Lg} (h : ¬ alive ((g.row s).set j none) = 0) : kill s j g = killRow s j g := by
  unfold kill killRow
  rw [if_neg h]
theorem vns_set {l : List Nat} {i n : Nat} : vns (l.set i n) = (vns l).set i (.int (n : Int)) := by unfold vns; rw [List.map_set]
theorem sc_l_kill_at : FnScope ["self", "segment", "place"] ["self", "segment", "place"] (defScope x_l_kill_at) := ⟨rfl, rfl, rfl, by decide +kernel, rfl, by decide +kernel, by decide +kernel⟩
def spKill (K : Kf) : Sp := fun vs H Q _ => ∃ ad w g ts s j o, vs = [.ref ad.g, .int ((s : Nat) : Int), .int ((j : Nat) : Int)] ∧ LogAt K H ad w g ts ∧ (g.row s)[j]? = some o ∧ LogTo K H ad w (kill s j g) fun H2 => Q .non H2
theorem ok_l_kill (T : Tx K mg) : Fnc PP w K mg base CX0 2 (mL K "kill_at") ["self", "segment", "place"] (spKill K) := by
  refine mk0 T.d_l_kill_at sc_l_kill_at (by rintro _ H Q E ⟨ad, w, g, ts, s, j, o, rfl, _⟩; rfl) (by intro kV doc pm an cdv ct us h; match us, h with | [_, _, _], _ => rfl) ?_
  rintro cdv A outer s0 H _ Q E hr ⟨ad, w, g, ts, s, j, o, rfl, hL, ho, q⟩
  have nd := sc_l_kill_at.nd
  refine ⟨_, (pss_cons (ps_asg pe_non (pg_sub (pe_ix ix_list (pe_fld (pv 0) rfl) (pv 1) (fun _ _ => rfl)) (pv 2) set_list))
    (pss_one (ps_if (pt_cmpR op_eq (pe_m (pv 0) T.cl T.m_l_alive (ok_l_alive T) hr pass0 (pa_cons (pv 1) pa_nil)) pe_int (nomark _)) (pss_cons (ps_asg (pe_lst pa_nil) (pg_sub (pe_fld (pv 0) rfl) (pv 1) set_list))
      (pss_one (ps_augS (pe_fld (pv 0) rfl) (pv 1) get_list pe_int ip_add set_list))) pss_nil))), ?_⟩
  have hs : s < g.rows.length := row_lt fun e => by rw [e] at ho; cases ho
  have hj : j < (g.row s).length := (List.getElem?_eq_some_iff.1 ho).1
  obtain ⟨a, xs, h1, h2, h3, h4, _⟩ := hL.rw.get hs
  have hjx : j < xs.length := by rw [h4.1]; exact hj
  refine q_setL h3 ev_c (ev_op (ev_fld (ev_var rfl) hL.obj T.cl T.nl_rows rfl) (ev_var rfl) (rv_ixL (SqL.of hL.rw.at_) (atI_nat h2))) (ev_var rfl) hjx fun H1 e1 => ?_
  have hL1 := hL.ex e1
  have z := hL1.chg (xs' := xs.set j .non) (r := (g.row s).set j none) h1 (e1 _ _ h3) (((h4.step (e1.ch [])).step (ow := [a]) (Ch.updL (e1 _ _ h3) _ (by simp))).set j rfl) (by rw [List.length_set]; exact hL.ok.le s)
  have st1 : Stp ad.own H ad.own (upd H1 a (.lst (xs.set j .non))) := (Stp.ex e1).trans ⟨z.2, fun b m => .inl m⟩
  have hL2 := z.1
  have lenk : (killRow s j g).rows.length = g.rows.length := by show (g.rows.set _ _).length = _; rw [List.length_set]
  have rowk : (killRow s j g).row s = (g.row s).set j none := by unfold killRow; rw [row_set hs, if_pos rfl]
  have hL2 : LogAt K (upd H1 a (.lst (xs.set j .non))) ad w (killRow s j g) ts := hL2
  clear z
  refine s_when (et_B (ev_op (ev_meth (ev_var rfl) hL2.obj rfl (ea_cons (ev_var rfl) ea_nil) (spv_alive hL2 (by rw [lenk]; exact hs))) ev_c (rv_eq rfl))) ?_ ?_
  · intro hb H3 e3
    have hz : alive ((g.row s).set j none) = 0 := by
      have y := of_decide_eq_true hb
      injection y with y
      rw [rowk] at y
      have y : (alive ((g.row s).set j none) : Int) = 0 := y
      omega
    have hL3 := hL2.ex e3
    refine r_seq (el_lst ea_nil (by decide) H3 (Ex.refl _) _ fun p H4 hp e4 h4 => ?_)
    have hL4 := hL3.ex e4
    refine ev_fld (ev_var rfl) hL4.obj T.cl T.nl_rows rfl H4 (Ex.refl _) _ fun H5 e5 => ?_
    have y := hL3.fresh (s := s) (by rw [lenk]; exact hs) hp (e5 _ _ h4) (e4.trans e5)
    have hA := (hL4.ex e5).rw.at_
    have hsA : s < (ad.as.map V.ref).length := by rw [List.length_map, hL.rw.len]; exact hs
    refine ⟨_, rfl, ad.A, _, (s : Int), s, rfl, rfl, hA, ixN_nat hsA, ?_⟩
    obtain ⟨y1, y2⟩ := y
    have hfr : s < g.frees.length := by rw [hL.ok.fr]; exact hs
    dsimp only
    refine r_augS (ev_fld (ev_var rfl) y1.obj T.cl T.nl_frees rfl _ (Ex.refl _) _ fun H6 e6 => ?_)
    have y3 := y1.ex e6
    have hfv : (vns g.frees)[s]? = some (.int ((g.frees.getD s 0 : Nat) : Int)) := vns_get (by rw [List.getD_eq_getElem?_getD, List.getElem?_eq_getElem hfr]; rfl)
    refine ⟨_, rfl, ad.F, vns g.frees, s, _, rfl, rfl, SqL.of y3.fr, hfv, ?_⟩
    refine ⟨_, _, rfl, rfl, ad.F, vns g.frees, (s : Int), s, rfl, rfl, y3.fr, ixN_nat (by rw [vns_len]; exact hfr), ?_⟩
    have y4 := y3.frs (f := g.frees.set s (g.frees.getD s 0 + 1)) (by
      show (g.frees.set s _).length = ((killRow s j g).rows.set s []).length
      rw [List.length_set, List.length_set, lenk]; exact hL.ok.fr)
    rw [vns_set, Int.natCast_add, Int.natCast_one] at y4
    refine q _ { ad with as := ad.as.set s p } ts ?_ rfl ?_
    · rw [kill_yes hz]
      exact y4.1
    · exact ((((st1.trans (Stp.ex e3)).trans y2).trans (Stp.ex e6)).trans ⟨y4.2, fun b m => .inl m⟩)
  · intro hb H3 e3
    have hz : ¬ alive ((g.row s).set j none) = 0 := by
      intro y
      have z := of_decide_eq_false hb
      rw [rowk, y] at z
      exact z rfl
    refine q _ ad ts ?_ rfl (st1.trans (Stp.ex e3))
    rw [kill_no hz]
    exact hL2.ex e3
theorem sc_l_carry_from : FnScope ["self", "segment", "row", "places", "place", "key"] ["self", "segment"] (defScope x_l_carry_from) := ⟨rfl, rfl, rfl, by decide +kernel, rfl, by decide +kernel, by decide +kernel⟩
def spCarry (K : Kf) : Sp := fun vs H Q _ => ∃ ad w g ts p, vs = [.ref ad.g, .int ((p : Nat) : Int)] ∧ LogAt K H ad w g ts ∧ p ∈ shut g ∧ room w g ≠ 0 ∧ LogTo K H ad w (move w p g) fun H2 => Q .non H2
theorem ok_l_carry (T : Tx K mg) : Fnc PP w K mg base CX0 4 (mL K "carry_from") ["self", "segment"] (spCarry K) := by
  refine mk0 T.d_l_carry_from sc_l_carry_from (by rintro _ H Q E ⟨ad, w, g, ts, p, rfl, _⟩; rfl) (by intro kV doc pm an cdv ct us h; match us, h with | [_, _], _ => rfl) ?_
  rintro cdv A outer s0 H _ Q E hr ⟨ad, w, g, ts, p, rfl, hL, hp, hroom, q⟩
  have nd := sc_l_carry_from.nd
  refine ⟨_, (pss_cons (ps_set (i := 2) nd rfl (by first | exact Or.inl rfl | exact Or.inr rfl) (pe_ix ix_list (pe_fld (pv 0) rfl) (pv 1) (fun _ _ => rfl)))
    (pss_cons (ps_setLc (i := 3) (own := [("place", 4), ("key", 5)]) (g := gTup K 2 (gCons (gName 4) (gCons (gName 5) gNil))) rfl nd rfl rfl (sw_true rfl rfl rfl (by decide +kernel)) (pi_enum (by rfl) T.b_enumerate (pa_cons (pv 2) pa_nil)) (blkOk_by (N := ["self", "segment", "row", "places", "place", "key"]) (sc := defScope x_l_carry_from) (by decide +kernel)) (fun _ _ _ _ _ => (pg_tup rfl (pgs_cons (pg_name (i := 4) nd rfl (Or.inl rfl)) (pgs_cons (pg_name (i := 5) nd rfl (Or.inl rfl)) pgs_nil)))) (fun _ _ _ _ _ => (pts_one (pt_cmpR op_notN (pv 5) pe_non (nomark _)))) (fun _ _ _ _ _ => (pv 4)))
    (pss_cons (ps_expr (pe_m (pv 0) T.cl T.m_l_append_key (ok_l_app T) hr pass0 (pa_cons (pe_ix ix_list (pv 2) (pe_ix ix_list (pv 3) pe_int (fun _ _ => rfl)) (fun _ _ => rfl)) pa_nil)))
    (pss_one (ps_expr (pe_m (pv 0) T.cl T.m_l_kill_at (ok_l_kill T) (hr.mono (by decide)) pass0 (pa_cons (pv 1) (pa_cons (pe_ix ix_list (pv 3) pe_int (fun _ _ => rfl)) pa_nil)))))))), ?_⟩
  have ms := mem_shut.1 hp
  have hs := ms.1
  obtain ⟨a, xs, h1, h2, h3, h4, _⟩ := hL.rw.get hs
  refine q_asg (ev_op (ev_fld (ev_var rfl) hL.obj T.cl T.nl_rows rfl) (ev_var rfl) (rv_ixL (SqL.of hL.rw.at_) (atI_nat h2))) fun H1 e1 => ?_
  have hL1 := hL.ex e1
  refine q_asgL (el_lcE (fun i => ((g.row p).getD i none).isSome) (fun i => .int (i : Int)) (ev_var rfl) (SqL.of (e1 _ _ h3)) ?_ (fun _ _ => rfl) ?_ ?_) fun D H2 hD e2 h5 => ?_
  · have := hL.ok.le p; have := hL.ok.w8; rw [h4.1]; show (g.row p).length ≤ 40000; omega
  · intro i x H3 e3 hx
    refine et_is (et_B (ev_op (ev_var rfl) ev_c rv_notN)) ?_
    have hi : i < (g.row p).length := by rw [← show xs.length = (g.row p).length from h4.1]; exact (List.getElem?_eq_some_iff.1 hx).1
    have := (h4.getD hi).isN
    rw [List.getD_eq_getElem?_getD, hx] at this
    rw [show decide (x = .non) = !((g.row p).getD i none).isSome from this]
    simp
  · intro i x H3 e3 hx _
    exact ev_var rfl
  rw [given_vns, h4.1] at h5
  have h5 : H2 D = some (.lst (vns (liv (g.row p)))) := h5
  have hL2 := hL1.ex e2
  have fm := fst_mem ms.2.2
  have f0 : (liv (g.row p))[0]? = some (fstAt g p) := by
    unfold fstAt
    cases e : liv (g.row p) with
    | nil => rw [e] at fm; cases fm
    | cons x l => rfl
  have hkey := key_at ms.2.2
  obtain ⟨kv, k1, k2⟩ := h4.2 _ _ hkey
  have k2 : kv = .str (keyAt g p (fstAt g p)) := by simpa [Cell] using k2
  subst k2
  have ev0 : ∀ {H3 : Hp} {σ : L2.St}, H3 D = some (.lst (vns (liv (g.row p)))) → σ[3]? = some (some (.ref D)) → Ev (tOp (rIxL K) (tVar 3) (tC (.int 0))) σ H3 (.int (fstAt g p : Int)) := fun hD e => ev_op (ev_var e) ev_c (rv_ixL (SqL.of hD) (atI_nat (j := 0) (vns_get f0)))
  refine r_seq (r_drop ?_)
  refine ⟨_, rfl, ad.g, ad.dx, _, rfl, hL2.obj, rfl, ?_⟩
  refine ea_cons (ev_op (ev_var rfl) (ev0 h5 rfl) (rv_ixL (SqL.of ((e1.trans e2) _ _ h3)) (atI_nat k1))) ea_nil H2 (Ex.refl _) _ fun H3 e3 => ?_
  have hL3 := hL2.ex e3
  refine ⟨ad, w, g, ts, _, rfl, hL3, hroom, fun H4 ad4 ts4 hL4 eg s4 => ?_⟩
  have nD : D ∉ ad.own := hL1.free_of hD
  have h6 : H4 D = some (.lst (vns (liv (g.row p)))) := s4.ch.at (e3 _ _ h5) nD
  dsimp only
  refine r_drop ?_
  rw [← eg]
  refine ⟨_, rfl, ad4.g, ad4.dx, _, rfl, hL4.obj, rfl, ?_⟩
  refine ea_cons (ev_var rfl) (ea_cons (ev0 h6 rfl) ea_nil) H4 (Ex.refl _) _ fun H5 e5 => ?_
  have hL5 := hL4.ex e5
  refine ⟨ad4, w, _, ts4, p, fstAt g p, _, rfl, hL5, at_write hL.ok hroom hkey, ?_⟩
  exact fun H6 ad6 ts6 hL6 eg6 s6 => q H6 ad6 ts6 hL6 (eg6.trans eg) (((Stp.ex ((e1.trans e2).trans e3)).trans s4).trans ((Stp.ex e5).trans s6))
end
end CLg
end

section
/-! The store's log: making, copying. -/
namespace CLg
open PySem PySem.Spec PyProof.Rows L2 Evl
theorem Ch.exNew {o : List Addr} {H H' : Hp} (c : Ch o H H') (n : ∀ b ∈ o, H b = none) : Ex H H' := fun b u e => c.at e fun m => by rw [n b m] at e; cases e
theorem NewL.rows {m : Bool} {H H' H2 : Hp} {v : Nat → List V} {n : Nat} {D : Addr} {as ow : List Addr} {rows : List (List (Option Str))} (p : NewL H v n D as H') (c : Ch ow H' H2) (d : Dj (D :: as) ow) (hl : rows.length = n)
    (hv : ∀ (i : Nat) r, rows[i]? = some r → Cells m H2 r (v i)) : Rows m H2 D as rows :=
  ⟨p.nd, c.at p.at_ (d D (by simp)), p.len.trans hl.symm, fun i r e => by
    have hi : i < as.length := by rw [p.len, ← hl]; exact (List.getElem?_eq_some_iff.1 e).1
    refine ⟨as[i], List.getElem?_eq_getElem hi, v i, c.at (p.row i _ (List.getElem?_eq_getElem hi)) (d _ (by simp)), hv i r e⟩⟩
theorem NewL.tr {H H' : Hp} {v : Nat → List V} {n : Nat} {D : Addr} {as : List Addr} (p : NewL H v n D as H') : Tr (D :: as) H' := fun b m z => by
  rcases List.mem_cons.1 m with rfl | m
  · rw [p.at_] at z; cases z
  · obtain ⟨i, hi, e⟩ := List.mem_iff_getElem.1 m
    have := p.row i b (by rw [List.getElem?_eq_getElem hi, e])
    rw [z] at this
    cases this
theorem NewL.fr' {H H' : Hp} {v : Nat → List V} {n : Nat} {D : Addr} {as : List Addr} (p : NewL H v n D as H') : ∀ b ∈ D :: as, H b = none := fun b m => by
  rcases List.mem_cons.1 m with rfl | m
  · exact p.fr
  · exact p.fa b m
def Lg0 (n : Nat) : Lg := { rows := List.replicate n [], head := 0, frees := List.replicate n 0 }
theorem Lg0_ok {n w : Nat} (h1 : 1 ≤ n) (h2 : n ≤ 8) (h3 : 1 ≤ w) (h4 : w ≤ 8) : Ok w (Lg0 n) := by
  refine ⟨by simpa [Lg0] using h1, by simpa [Lg0] using h2, h3, h4, by simp [Lg0]; omega, by simp [Lg0], fun s => ?_⟩
  unfold Lg0 Lg.row
  rw [List.getD_eq_getElem?_getD, List.getElem?_replicate]
  split <;> simp
theorem vns_rep (n : Nat) : List.replicate n (V.int 0) = vns (List.replicate n 0) := by unfold vns; simp
theorem getD_some {α : Type} {l : List α} {i : Nat} {x d : α} (h : l[i]? = some x) : l.getD i d = x := by rw [List.getD_eq_getElem?_getD, h]; rfl
section
variable {w : World} {K : Kf} {mg : Str → Option Value} {base : Heap}
theorem sc_l_init : FnScope ["self", "segments", "size", "_"] ["self", "segments", "size"] (defScope x_l_init) := ⟨rfl, rfl, rfl, by decide +kernel, rfl, by decide +kernel, by decide +kernel⟩
def spInit (K : Kf) : Sp := fun vs H Q _ => ∃ x dx n w, vs = [.ref x, .int ((n : Nat) : Int), .int ((w : Nat) : Int)] ∧ H x = some (.ins (cL K) dx []) ∧ 1 ≤ n ∧ n ≤ 8 ∧ 1 ≤ w ∧ w ≤ 8 ∧
  ∀ H2 ad ts, LogAt K H2 ad w (Lg0 n) ts → ad.g = x → Stp [x] H ad.own H2 → Q .non H2
theorem ok_l_init (T : Tx K mg) : Fnc PP w K mg base CX0 1 (mL K "__init__") ["self", "segments", "size"] (spInit K) := by
  refine mk0 T.d_l_init sc_l_init (by rintro _ H Q E ⟨x, dx, n, w, rfl, _⟩; rfl) (by intro kV doc pm an cdv ct us h; match us, h with | [_, _, _], _ => rfl) ?_
  rintro cdv A outer s0 H0 _ Q E hr ⟨x, dx, n, w, rfl, hx, n1, n8, w1, w8, q⟩
  have nd := sc_l_init.nd
  refine ⟨_, (pss_cons (ps_fld (pv 0) (pv 2) rfl)
    (pss_cons (ps_fld (pv 0) (pe_lc (own := [("_", 3)]) (g := gName 3) (tt := tYes) rfl nd (pi_range1 rfl T.b_range (pa_cons (pv 1) pa_nil)) (blkOk_by (N := ["self", "segments", "size", "_"]) (sc := defScope x_l_init) (by decide +kernel)) (fun _ _ _ _ _ => (pg_name (i := 3) nd rfl (Or.inl rfl))) (fun _ _ _ _ _ => pts_nil) (fun _ _ _ _ _ => (pe_lst pa_nil))) rfl)
    (pss_cons (ps_fld (pv 0) (pe_lst (pa_cons pe_int pa_nil)) rfl)
    (pss_one (ps_fld (pv 0) (pe_op op_rep (pe_lst (pa_cons pe_int pa_nil)) (pv 1)) rfl))))), ?_⟩
  refine r_seq (r_setfld ⟨_, rfl, _, rfl, r_setfldK hx T.cl T.nl_span (by decide : (0:Nat) < 1000) rfl fun H1 h1 c1 => ?_⟩)
  refine r_seq (r_setfld (en_lcR (fun _ => []) (ea_cons (ev_var rfl) ea_nil) (by omega) (fun _ => rfl) (fun i H' e hi => el_lst ea_nil (by decide)) H1 (Ex.refl _) _ fun D as H2 nl => ⟨_, rfl, r_setfldK (nl.ex _ _ h1) T.cl T.nl_rows (by decide : (1:Nat) < 1000) rfl fun H3 h3 c3 => ?_⟩))
  refine r_seq (r_setfld (el_lst (ea_cons ev_c ea_nil) (show 1 ≤ 100000 by decide) H3 (Ex.refl _) _ fun p H4 hp e4 h4 => ⟨_, rfl, r_setfldK (e4 _ _ h3) T.cl T.nl_turns (by decide : (2:Nat) < 1000) rfl fun H5 h5 c5 => ?_⟩))
  refine r_setfld (el_rep (n := n) (el_lst (ea_cons ev_c ea_nil) (show 1 ≤ 100000 by decide)) (fun _ _ => ev_var rfl) (by omega) H5 (Ex.refl _) _ fun r H6 hr e6 h6 => ⟨_, rfl, r_setfldK (e6 _ _ h5) T.cl T.nl_frees (by decide : (3:Nat) < 1000) rfl fun H7 h7 c7 => ?_⟩)
  have tnl := nl.tr
  have fnl := nl.fr'
  have xn : ∀ b ∈ D :: as, b ≠ x := fun b m z => by have := fnl b m; rw [z, h1] at this; cases this
  have px : p ≠ x := fun z => by rw [z, h3] at hp; cases hp
  have rx : r ≠ x := fun z => by rw [z, h5] at hr; cases hr
  have t3 : Tr (D :: as) H3 := tnl.step c3
  have t5 : Tr (D :: as) H5 := (t3.step (e4.ch [])).step c5
  have pn : ∀ b ∈ D :: as, p ≠ b := fun b m z => t3 b m (by rw [← z]; exact hp)
  have rn : ∀ b ∈ D :: as, r ≠ b := fun b m z => t5 b m (by rw [← z]; exact hr)
  have p5 : H5 p = some (.lst [.int 0]) := c5.at h4 (by simp [px])
  have rp : r ≠ p := fun z => by rw [z, p5] at hr; cases hr
  have c37 : Ch [x] H2 H7 := ((c3.trans (e4.ch _)).trans c5).trans ((e6.ch _).trans c7)
  have c17 : Ch [x] H1 H7 := (nl.ex.ch _).trans c37
  refine q H7 { g := x, dx := dx, A := D, T := p, F := r, as := as } [0] ⟨?_, h7, ?_, rfl, by simp, fun t ht => ?_, ?_, nl.rows c37 (fun b m z => xn b m (List.mem_singleton.1 z)) (by simp [Lg0]) ?_, Lg0_ok n1 n8 w1 w8⟩ rfl ⟨c1.trans c17, fun b m => ?_⟩
  · refine List.nodup_append.2 ⟨?_, nl.nd, fun y hy z hz => ?_⟩
    · simp [px.symm, rx.symm, rp.symm]
    · simp only [List.mem_cons, List.not_mem_nil, or_false] at hy
      rcases hy with rfl | rfl | rfl
      · exact (xn z hz).symm
      · exact pn z hz
      · exact rn z hz
  · exact c7.at (e6 _ _ p5) (by simp [px])
  · rw [List.mem_singleton.1 ht]; simp [Lg0]; omega
  · rw [show (Lg0 n).frees = List.replicate n 0 from rfl, ← vns_rep]
    exact c7.at h6 (by simp [rx])
  · intro i r' e
    have e : r' = [] := by
      have : (List.replicate n ([] : List (Option Str)))[i]? = some r' := e
      rw [List.getElem?_replicate] at this
      split at this
      · cases this; rfl
      · cases this
    subst e
    exact Cells.nil
  · have m : b ∈ [x, p, r] ++ (D :: as) := m
    rcases List.mem_append.1 m with m | m
    · simp only [List.mem_cons, List.not_mem_nil, or_false] at m
      rcases m with rfl | rfl | rfl
      · left; simp
      · right; exact c1.free ((nl.ex.ch []).free (c3.free hp))
      · right; exact c1.free ((nl.ex.ch []).free (c3.free ((e4.ch []).free (c5.free hr))))
    · right; exact c1.free (fnl b m)
theorem sc_l_copied : FnScope ["self", "other", "row"] ["self"] (defScope x_l_copied) := ⟨rfl, rfl, rfl, by decide +kernel, rfl, by decide +kernel, by decide +kernel⟩
def spCopied (K : Kf) : Sp := fun vs H Q _ => ∃ ad w g ts, vs = [.ref ad.g] ∧ LogAt K H ad w g ts ∧ ∀ H2 ad2, LogAt K H2 ad2 w g ts → Ex H H2 → (∀ b ∈ ad2.own, H b = none) → Q (.ref ad2.g) H2
theorem ok_l_copied (T : Tx K mg) : Fnc PP w K mg base CX0 3 (mL K "copied") ["self"] (spCopied K) := by
  refine mk0 T.d_l_copied sc_l_copied (by rintro _ H Q E ⟨ad, w, g, ts, rfl, _⟩; rfl) (by intro kV doc pm an cdv ct us h; match us, h with | [_], _ => rfl) ?_
  rintro cdv A outer s0 H _ Q E hr ⟨ad, w, g, ts, rfl, hL, q⟩
  have nd := sc_l_copied.nd
  refine ⟨_, (pss_cons (ps_set (i := 1) nd rfl (by first | exact Or.inl rfl | exact Or.inr rfl) (pe_mk T.mkl (ok_l_init T) T.g_SegmentLog hr pass0 (pa_cons (pe_callB call_len_seq (by rfl) T.b_len PySem.boot_len (pa_cons (pe_fld (pv 0) rfl) pa_nil)) (pa_cons (pe_fld (pv 0) rfl) pa_nil))))
    (pss_cons (ps_fld (pv 1) (pe_lc (own := [("row", 2)]) (g := gName 2) (tt := tYes) (te := tCB (rListS K) (tCons (tVar 2) tNil)) rfl nd (pi_list (pe_fld (pv 0) rfl)) (blkOk_by (N := ["self", "other", "row"]) (sc := defScope x_l_copied) (by decide +kernel)) (fun _ _ _ _ _ => (pg_name (i := 2) nd rfl (Or.inl rfl))) (fun _ _ _ _ _ => pts_nil) (fun _ _ _ _ _ => (pe_callTy call_list_of (by rfl) T.b_list (by decide +kernel) (pa_cons (pv 2) pa_nil)))) rfl)
    (pss_cons (ps_fld (pv 1) (pe_callTy call_list_of (by rfl) T.b_list (by decide +kernel) (pa_cons (pe_fld (pv 0) rfl) pa_nil)) rfl)
    (pss_cons (ps_fld (pv 1) (pe_callTy call_list_of (by rfl) T.b_list (by decide +kernel) (pa_cons (pe_fld (pv 0) rfl) pa_nil)) rfl)
    (pss_one (ps_ret (pv 1))))))), ?_⟩
  have nlen : (ad.as.map V.ref).length = g.rows.length := by rw [List.length_map, hL.rw.len]
  refine r_seq (r_asg (ea_cons (ev_len (ev_fld (ev_var rfl) hL.obj T.cl T.nl_rows rfl) (SqL.of hL.rw.at_)) (ea_cons (ev_fld (ev_var rfl) hL.obj T.cl T.nl_span rfl) ea_nil) H (Ex.refl _) _ fun H1 e1 => ?_))
  rw [nlen]
  intro x dx hx hdx ndx
  have ex0 : Ex H1 (upd (upd H1 dx (.own x)) x (.ins (cL K) dx [])) := (Ex.new hdx).trans (Ex.new (by rw [upd_ne ndx.symm]; exact hx))
  refine ⟨x, dx, g.rows.length, w, rfl, upd_same, hL.ok.n1, hL.ok.n8, hL.ok.w1, hL.ok.w8, fun H2 ad2 ts2 hN eg st => ⟨rfl, ?_⟩⟩
  have c12 : Ch [x] H1 H2 := (ex0.ch _).trans st.ch
  have ex2 : Ex H H2 := e1.trans (c12.exNew fun b m => by rw [List.mem_singleton.1 m]; exact hx)
  have hx0 : H x = none := fresh_back e1 hx
  refine r_name ?_
  have hL2 := hL.ex ex2
  have o2 := hN.obj
  rw [eg] at o2
  have asl : ad.as.length = g.rows.length := hL.rw.len
  refine r_seq (r_setfld (en_lcL (fun i => lstAt H2 (ad.as.getD i 0)) (ev_fld (ev_var rfl) hL2.obj T.cl T.nl_rows rfl) (SqL.of hL2.rw.at_) (by rw [nlen]; have := hL.ok.n8; omega) (fun _ => rfl) ?_ H2 (Ex.refl _) _ fun D as H3 nl => ⟨_, rfl, r_setfldK (nl.ex _ _ o2) T.cl T.nl_rows (by decide : (4:Nat) < 1000) rfl fun H4 h4 c4 => ?_⟩))
  · intro i y H' e' hy
    rw [List.getElem?_map] at hy
    cases ha : ad.as[i]? with
    | none => rw [ha] at hy; cases hy
    | some a =>
      rw [ha] at hy
      cases hy
      rw [getD_some ha]
      have hi : i < g.rows.length := by rw [← asl]; exact (List.getElem?_eq_some_iff.1 ha).1
      obtain ⟨a', xs, h1, h2, h3, h5, _⟩ := hL2.rw.get hi
      rw [ha] at h1
      cases h1
      rw [lstAt_eq h3]
      exact el_list (ev_var rfl) (SqL.of (e' _ _ h3))
  have xad : Dj ad.own [x] := fun b m z => hL.tr b m (by rw [List.mem_singleton.1 z]; exact hx0)
  have hL4 := (hL2.ex nl.ex).step c4 xad
  refine r_seq (r_setfld (el_list (ev_fld (ev_var rfl) hL4.obj T.cl T.nl_turns rfl) (SqL.of hL4.tn) H4 (Ex.refl _) _ fun p H5 hp e5 h5 => ⟨_, rfl, r_setfldK (e5 _ _ h4) T.cl T.nl_turns (by decide : (4:Nat) < 1000) rfl fun H6 h6 c6 => ?_⟩))
  have hL6 := (hL4.ex e5).step c6 xad
  refine r_seq (r_setfld (el_list (ev_fld (ev_var rfl) hL6.obj T.cl T.nl_frees rfl) (SqL.of hL6.fr) H6 (Ex.refl _) _ fun r H7 hr e7 h7 => ⟨_, rfl, r_setfldK (e7 _ _ h6) T.cl T.nl_frees (by decide : (4:Nat) < 1000) rfl fun H8 h8 c8 => ?_⟩))
  have tnl := nl.tr
  have fnl := nl.fr'
  have xn : ∀ b ∈ D :: as, b ≠ x := fun b m z => by have := fnl b m; rw [z, o2] at this; cases this
  have px : p ≠ x := fun z => by rw [z, h4] at hp; cases hp
  have rx : r ≠ x := fun z => by rw [z, h6] at hr; cases hr
  have t4 : Tr (D :: as) H4 := tnl.step c4
  have t6 : Tr (D :: as) H6 := (t4.step (e5.ch [])).step c6
  have pn : ∀ b ∈ D :: as, p ≠ b := fun b m z => t4 b m (by rw [← z]; exact hp)
  have rn : ∀ b ∈ D :: as, r ≠ b := fun b m z => t6 b m (by rw [← z]; exact hr)
  have p6 : H6 p = some (.lst (vns ts)) := c6.at h5 (by simp [px])
  have rp : r ≠ p := fun z => by rw [z, p6] at hr; cases hr
  have c38 : Ch [x] H3 H8 := ((c4.trans (e5.ch _)).trans c6).trans ((e7.ch _).trans c8)
  have c28 : Ch [x] H2 H8 := (nl.ex.ch _).trans c38
  have cA : Ch [x] H H8 := (ex2.ch _).trans c28
  have exA : Ex H H8 := cA.exNew fun b m => by rw [List.mem_singleton.1 m]; exact hx0
  refine ⟨_, rfl, q H8 { g := x, dx := ad2.dx, A := D, T := p, F := r, as := as } ⟨?_, h8, ?_, hL.hd, hL.tnd, hL.tlt, ?_, nl.rows c38 (fun b m z => xn b m (List.mem_singleton.1 z)) nlen.symm ?_, hL.ok⟩ exA fun b m => ?_⟩
  · refine List.nodup_append.2 ⟨?_, nl.nd, fun y hy z hz => ?_⟩
    · simp [px.symm, rx.symm, rp.symm]
    · simp only [List.mem_cons, List.not_mem_nil, or_false] at hy
      rcases hy with rfl | rfl | rfl
      · exact (xn z hz).symm
      · exact pn z hz
      · exact rn z hz
  · exact c8.at (e7 _ _ p6) (by simp [px])
  · exact c8.at h7 (by simp [rx])
  · intro i r' e
    have hi : i < g.rows.length := (List.getElem?_eq_some_iff.1 e).1
    obtain ⟨a', xs, h1, h2, h3, h5, _⟩ := hL2.rw.get hi
    rw [getD_some h1, lstAt_eq h3, ← getD_some (d := []) e]
    exact h5.step c28
  · have m : b ∈ [x, p, r] ++ (D :: as) := m
    have f2 : ∀ b, H2 b = none → H b = none := fun b z => (ex2.ch []).free z
    rcases List.mem_append.1 m with m | m
    · simp only [List.mem_cons, List.not_mem_nil, or_false] at m
      rcases m with rfl | rfl | rfl
      · exact hx0
      · exact f2 _ ((nl.ex.ch []).free (c4.free hp))
      · exact f2 _ ((nl.ex.ch []).free (c4.free ((e5.ch []).free (c6.free hr))))
    · exact f2 _ (fnl b m)
end
end CLg
end

section
/-! The store: what only reads. -/
namespace CLg
open PySem PySem.Spec PyProof.Rows L2 Evl
abbrev mS (K : Kf) (m : Str) : Addr := He.ma K (cS K) m
structure Sd where
  S : Addr
  dx : Addr
  V : Addr
  ad : Ad
def Sd.own (s : Sd) : List Addr := [s.S, s.V] ++ s.ad.own
def sfs (s : Sd) (n : Nat) (t : Tm) (c : Ct) : List (Str × V) :=
  [("_segments", .int n), ("_size", .int t.wide), ("_limit", .int t.bound), ("_budget", .int t.load), ("_late", .bl t.first), ("_log", .ref s.ad.g), ("_values", .ref s.V), ("_done", .int c.deeds), ("_carried", .int c.moved), ("_last_wait", .int c.waits)]
structure StAt (K : Kf) (H : Hp) (s : Sd) (t : Tm) (c : Ct) (g : Lg) (ts : List Nat) (kvs : List (Key × V)) : Prop where
  nd : s.own.Nodup
  obj : H s.S = some (.ins (cS K) s.dx (sfs s g.rows.length t c))
  vs : H s.V = some (.dK kvs)
  log : LogAt K H s.ad t.wide g ts
  kp : (kvs.map (·.1)).Perm ((keys g).map Sum.inr)
  kn : (kvs.map (·.1)).Nodup
section
variable {K : Kf} {H H' : Hp} {s : Sd} {t : Tm} {c : Ct} {g : Lg} {ts : List Nat} {kvs : List (Key × V)} {ow : List Addr}
theorem StAt.tr (h : StAt K H s t c g ts kvs) : Tr s.own H := fun b m z => by
  rcases List.mem_append.1 m with m | m
  · simp only [List.mem_cons, List.not_mem_nil, or_false] at m
    rcases m with rfl | rfl
    · rw [h.obj] at z; cases z
    · rw [h.vs] at z; cases z
  · exact h.log.tr b m z
theorem StAt.step (h : StAt K H s t c g ts kvs) (k : Ch ow H H') (d : Dj s.own ow) : StAt K H' s t c g ts kvs :=
  ⟨h.nd, k.at h.obj (d _ (by simp [Sd.own])), k.at h.vs (d _ (by simp [Sd.own])), h.log.step k fun b m => d b (by simp only [Sd.own]; exact List.mem_append_right _ m), h.kp, h.kn⟩
theorem StAt.ex (h : StAt K H s t c g ts kvs) (k : Ex H H') : StAt K H' s t c g ts kvs := h.step (k.ch []) fun _ _ z => by cases z
end
section
variable {K : Kf} {σ : L2.St} {H H' : Hp} {ta : TE} {z : V} {a C dx : Addr} {fs : List (Str × V)}
theorem ev_prop {sp : Sp} {dvs : List V} {E : XK} (ha : Ev ta σ H (.ref a)) (ho : H a = some (.ins C dx fs)) (hs : SpV sp (.ref a :: dvs) H z) : Ev (tProp C sp dvs E ta) σ H z := fun H1 e Q q =>
  ha H1 e _ fun H2 e2 => ⟨a, dx, fs, rfl, (e.trans e2) a _ ho, hs H2 (e.trans e2) Q (fun H3 e3 => q H3 (e2.trans e3)) E⟩
end
theorem ev_isi {K : Kf} {σ : L2.St} {H : Hp} {ta : TA} {x : V} {n m : String} {b : Bool} (ha : EvA ta σ H [x, .ty n]) (ty : TyOf K H x (.type m)) (up : ∀ H1, Ex H H1 → TyOf K H1 x (.type m)) (k : kitB m n = some b) : Ev (tCB (rIsi K) ta) σ H (.bl b) := fun H1 e Q q =>
  ha H1 e _ fun H2 e2 => ⟨x, .ty n, .type m, .type n, b, rfl, .ty n, .base (up H2 (e.trans e2)), kit_ty k, q H2 e2⟩
section
variable {X : Cx} {CX : CXT} {k : Nat} {C p g : Addr} {f : Str} {ps : List Str} {sp : Sp} {E : XK} {e : Expr} {pos : Pos} {ta : TE}
theorem pe_p (he : PE X e ta) (c : Cls X.K C) (hp : PropOf X.K C f p g) (F : Fnc X.prog X.w X.K X.mg X.base CX k g ps sp) (hr : Room (k + 1) X.A) (hx : Passes CX X.nox E)
    (hab : attributeBase e f X.env (eval e X.env) = eval e X.env := by rfl) : PE X (.Attribute e f pos) (tProp C sp [] E ta) := by
  obtain ⟨fd, F, b⟩ := F.ex
  exact pe_prop he c hp F hr b .nil hx hab
end
section
variable {w : World} {K : Kf} {mg : Str → Option Value} {base : Heap}
def spGet (K : Kf) (f : Str) : Sp := fun vs H Q _ => ∃ a dx fs v, vs = [.ref a] ∧ H a = some (.ins (cS K) dx fs) ∧ fs.lookup f = some v ∧ RetV v H Q
theorem spv_get {H : Hp} {a dx : Addr} {fs : List (Str × V)} {f : Str} {v : V} (h : H a = some (.ins (cS K) dx fs)) (hl : fs.lookup f = some v) : SpV (spGet K f) [.ref a] H v := fun H1 e Q q E => ⟨a, dx, fs, v, rfl, e _ _ h, hl, q⟩
theorem sc_s_segments : FnScope ["self"] ["self"] (defScope x_s_segments) := ⟨rfl, rfl, rfl, by decide +kernel, rfl, by decide +kernel, by decide +kernel⟩
theorem ok_s_segments (T : Tx K mg) : Fnc PP w K mg base CX0 1 (propG K (cS K) "segments") ["self"] (spGet K "_segments") := by
  refine mk0 T.d_s_segments sc_s_segments (by rintro _ H Q E ⟨a, dx, fs, v, rfl, _⟩; rfl) (by intro kV doc pm an cdv ct us h; match us, h with | [_], _ => rfl) ?_
  rintro cdv A outer s0 H _ Q E hr ⟨a, dx, fs, v, rfl, h, hl, q⟩
  refine ⟨_, (pss_one (ps_ret (pe_fld (pv 0) rfl))), ?_⟩
  exact s_ret (ev_fld (ev_var rfl) h T.cs T.ns_segments hl) q
theorem sc_s_size : FnScope ["self"] ["self"] (defScope x_s_size) := ⟨rfl, rfl, rfl, by decide +kernel, rfl, by decide +kernel, by decide +kernel⟩
theorem ok_s_size (T : Tx K mg) : Fnc PP w K mg base CX0 1 (propG K (cS K) "size") ["self"] (spGet K "_size") := by
  refine mk0 T.d_s_size sc_s_size (by rintro _ H Q E ⟨a, dx, fs, v, rfl, _⟩; rfl) (by intro kV doc pm an cdv ct us h; match us, h with | [_], _ => rfl) ?_
  rintro cdv A outer s0 H _ Q E hr ⟨a, dx, fs, v, rfl, h, hl, q⟩
  refine ⟨_, (pss_one (ps_ret (pe_fld (pv 0) rfl))), ?_⟩
  exact s_ret (ev_fld (ev_var rfl) h T.cs T.ns_size hl) q
theorem sc_s_limit : FnScope ["self"] ["self"] (defScope x_s_limit) := ⟨rfl, rfl, rfl, by decide +kernel, rfl, by decide +kernel, by decide +kernel⟩
theorem ok_s_limit (T : Tx K mg) : Fnc PP w K mg base CX0 1 (propG K (cS K) "limit") ["self"] (spGet K "_limit") := by
  refine mk0 T.d_s_limit sc_s_limit (by rintro _ H Q E ⟨a, dx, fs, v, rfl, _⟩; rfl) (by intro kV doc pm an cdv ct us h; match us, h with | [_], _ => rfl) ?_
  rintro cdv A outer s0 H _ Q E hr ⟨a, dx, fs, v, rfl, h, hl, q⟩
  refine ⟨_, (pss_one (ps_ret (pe_fld (pv 0) rfl))), ?_⟩
  exact s_ret (ev_fld (ev_var rfl) h T.cs T.ns_limit hl) q
theorem sc_s_budget : FnScope ["self"] ["self"] (defScope x_s_budget) := ⟨rfl, rfl, rfl, by decide +kernel, rfl, by decide +kernel, by decide +kernel⟩
theorem ok_s_budget (T : Tx K mg) : Fnc PP w K mg base CX0 1 (propG K (cS K) "budget") ["self"] (spGet K "_budget") := by
  refine mk0 T.d_s_budget sc_s_budget (by rintro _ H Q E ⟨a, dx, fs, v, rfl, _⟩; rfl) (by intro kV doc pm an cdv ct us h; match us, h with | [_], _ => rfl) ?_
  rintro cdv A outer s0 H _ Q E hr ⟨a, dx, fs, v, rfl, h, hl, q⟩
  refine ⟨_, (pss_one (ps_ret (pe_fld (pv 0) rfl))), ?_⟩
  exact s_ret (ev_fld (ev_var rfl) h T.cs T.ns_budget hl) q
theorem sc_s_late : FnScope ["self"] ["self"] (defScope x_s_late) := ⟨rfl, rfl, rfl, by decide +kernel, rfl, by decide +kernel, by decide +kernel⟩
theorem ok_s_late (T : Tx K mg) : Fnc PP w K mg base CX0 1 (propG K (cS K) "late") ["self"] (spGet K "_late") := by
  refine mk0 T.d_s_late sc_s_late (by rintro _ H Q E ⟨a, dx, fs, v, rfl, _⟩; rfl) (by intro kV doc pm an cdv ct us h; match us, h with | [_], _ => rfl) ?_
  rintro cdv A outer s0 H _ Q E hr ⟨a, dx, fs, v, rfl, h, hl, q⟩
  refine ⟨_, (pss_one (ps_ret (pe_fld (pv 0) rfl))), ?_⟩
  exact s_ret (ev_fld (ev_var rfl) h T.cs T.ns_late hl) q
theorem sc_s_done : FnScope ["self"] ["self"] (defScope x_s_done) := ⟨rfl, rfl, rfl, by decide +kernel, rfl, by decide +kernel, by decide +kernel⟩
theorem ok_s_done (T : Tx K mg) : Fnc PP w K mg base CX0 1 (propG K (cS K) "done") ["self"] (spGet K "_done") := by
  refine mk0 T.d_s_done sc_s_done (by rintro _ H Q E ⟨a, dx, fs, v, rfl, _⟩; rfl) (by intro kV doc pm an cdv ct us h; match us, h with | [_], _ => rfl) ?_
  rintro cdv A outer s0 H _ Q E hr ⟨a, dx, fs, v, rfl, h, hl, q⟩
  refine ⟨_, (pss_one (ps_ret (pe_fld (pv 0) rfl))), ?_⟩
  exact s_ret (ev_fld (ev_var rfl) h T.cs T.ns_done hl) q
theorem sc_s_carried : FnScope ["self"] ["self"] (defScope x_s_carried) := ⟨rfl, rfl, rfl, by decide +kernel, rfl, by decide +kernel, by decide +kernel⟩
theorem ok_s_carried (T : Tx K mg) : Fnc PP w K mg base CX0 1 (propG K (cS K) "carried") ["self"] (spGet K "_carried") := by
  refine mk0 T.d_s_carried sc_s_carried (by rintro _ H Q E ⟨a, dx, fs, v, rfl, _⟩; rfl) (by intro kV doc pm an cdv ct us h; match us, h with | [_], _ => rfl) ?_
  rintro cdv A outer s0 H _ Q E hr ⟨a, dx, fs, v, rfl, h, hl, q⟩
  refine ⟨_, (pss_one (ps_ret (pe_fld (pv 0) rfl))), ?_⟩
  exact s_ret (ev_fld (ev_var rfl) h T.cs T.ns_carried hl) q
theorem sc_s_last_wait : FnScope ["self"] ["self"] (defScope x_s_last_wait) := ⟨rfl, rfl, rfl, by decide +kernel, rfl, by decide +kernel, by decide +kernel⟩
theorem ok_s_last_wait (T : Tx K mg) : Fnc PP w K mg base CX0 1 (propG K (cS K) "last_wait") ["self"] (spGet K "_last_wait") := by
  refine mk0 T.d_s_last_wait sc_s_last_wait (by rintro _ H Q E ⟨a, dx, fs, v, rfl, _⟩; rfl) (by intro kV doc pm an cdv ct us h; match us, h with | [_], _ => rfl) ?_
  rintro cdv A outer s0 H _ Q E hr ⟨a, dx, fs, v, rfl, h, hl, q⟩
  refine ⟨_, (pss_one (ps_ret (pe_fld (pv 0) rfl))), ?_⟩
  exact s_ret (ev_fld (ev_var rfl) h T.cs T.ns_last_wait hl) q

/-- the head, the room: by the log -/
def spAtt (K : Kf) (F : Nat → Lg → V) : Sp := fun vs H Q _ => ∃ s t c g ts kvs, vs = [.ref s.S] ∧ StAt K H s t c g ts kvs ∧ RetV (F t.wide g) H Q
theorem spv_att {F : Nat → Lg → V} {H : Hp} {s : Sd} {t : Tm} {c : Ct} {g : Lg} {ts : List Nat} {kvs : List (Key × V)} (h : StAt K H s t c g ts kvs) : SpV (spAtt K F) [.ref s.S] H (F t.wide g) := fun H1 e Q q E => ⟨s, t, c, g, ts, kvs, rfl, h.ex e, q⟩
theorem sc_s_head : FnScope ["self"] ["self"] (defScope x_s_head) := ⟨rfl, rfl, rfl, by decide +kernel, rfl, by decide +kernel, by decide +kernel⟩
theorem ok_s_head (T : Tx K mg) : Fnc PP w K mg base CX0 2 (propG K (cS K) "head") ["self"] (spAtt K fun _ g => .int (g.head : Int)) := by
  refine mk0 T.d_s_head sc_s_head (by rintro _ H Q E ⟨s, t, c, g, ts, kvs, rfl, _⟩; rfl) (by intro kV doc pm an cdv ct us h; match us, h with | [_], _ => rfl) ?_
  rintro cdv A outer s0 H _ Q E hr ⟨s, t, c, g, ts, kvs, rfl, h, q⟩
  refine ⟨_, (pss_one (ps_ret (pe_m0 (pe_fld (pv 0) rfl) T.cl T.m_l_head_segment (ok_l_head T) hr pass0))), ?_⟩
  exact s_ret (ev_meth (ev_fld (ev_var rfl) h.obj T.cs T.ns_log rfl) h.log.obj rfl ea_nil (spv_head h.log)) q
theorem sc_s_room : FnScope ["self"] ["self"] (defScope x_s_room) := ⟨rfl, rfl, rfl, by decide +kernel, rfl, by decide +kernel, by decide +kernel⟩
theorem ok_s_room (T : Tx K mg) : Fnc PP w K mg base CX0 4 (propG K (cS K) "room") ["self"] (spAtt K fun w g => .int (room w g)) := by
  refine mk0 T.d_s_room sc_s_room (by rintro _ H Q E ⟨s, t, c, g, ts, kvs, rfl, _⟩; rfl) (by intro kV doc pm an cdv ct us h; match us, h with | [_], _ => rfl) ?_
  rintro cdv A outer s0 H _ Q E hr ⟨s, t, c, g, ts, kvs, rfl, h, q⟩
  refine ⟨_, (pss_one (ps_ret (pe_m0 (pe_fld (pv 0) rfl) T.cl T.m_l_room_left (ok_l_room T) hr pass0))), ?_⟩
  exact s_ret (ev_meth (ev_fld (ev_var rfl) h.obj T.cs T.ns_log rfl) h.log.obj rfl ea_nil (spv_room h.log)) q
/-! checks -/
def spLeast : Sp := fun vs H Q _ => ∃ (a b : Int) (x : V), vs = [.int a, .int b, x] ∧ b ≤ a ∧ RetV .non H Q
theorem spv_least {H : Hp} {a b : Int} {x : V} (h : b ≤ a) : SpV spLeast [.int a, .int b, x] H .non := fun H1 e Q q E => ⟨a, b, x, rfl, h, q⟩
theorem sc_f_at_least : FnScope ["value", "least", "field"] ["value", "least", "field"] (defScope x_f_at_least) := ⟨rfl, rfl, rfl, by decide +kernel, rfl, by decide +kernel, by decide +kernel⟩
theorem ok_f_at_least (T : Tx K mg) : Fnc PP w K mg base CX0 1 (He.ga K "at_least") ["value", "least", "field"] spLeast := by
  refine mk0 T.d_f_at_least sc_f_at_least (by rintro _ H Q E ⟨a, b, x, rfl, _⟩; rfl) (by intro kV doc pm an cdv ct us h; match us, h with | [_, _, _], _ => rfl) ?_
  rintro cdv A outer s0 H _ Q E hr ⟨a, b, x, rfl, h, q⟩
  refine ⟨_, (pss_one (ps_if (pt_cmpR op_lt (pv 0) (pv 1) (nomark _)) pss_never pss_nil)), ?_⟩
  refine s_if (et_B (ev_op (ev_var rfl) (ev_var rfl) rv_I0)) ?_ fun _ H1 e1 => q H1 e1
  intro hb
  exact absurd (of_decide_eq_true hb) (by omega)
def spMost : Sp := fun vs H Q _ => ∃ (a b : Int) (x : V), vs = [.int a, .int b, x] ∧ a ≤ b ∧ RetV .non H Q
theorem spv_most {H : Hp} {a b : Int} {x : V} (h : a ≤ b) : SpV spMost [.int a, .int b, x] H .non := fun H1 e Q q E => ⟨a, b, x, rfl, h, q⟩
theorem sc_f_at_most : FnScope ["value", "most", "field"] ["value", "most", "field"] (defScope x_f_at_most) := ⟨rfl, rfl, rfl, by decide +kernel, rfl, by decide +kernel, by decide +kernel⟩
theorem ok_f_at_most (T : Tx K mg) : Fnc PP w K mg base CX0 1 (He.ga K "at_most") ["value", "most", "field"] spMost := by
  refine mk0 T.d_f_at_most sc_f_at_most (by rintro _ H Q E ⟨a, b, x, rfl, _⟩; rfl) (by intro kV doc pm an cdv ct us h; match us, h with | [_, _, _], _ => rfl) ?_
  rintro cdv A outer s0 H _ Q E hr ⟨a, b, x, rfl, h, q⟩
  refine ⟨_, (pss_one (ps_if (pt_cmpR op_gt (pv 0) (pv 1) (nomark _)) pss_never pss_nil)), ?_⟩
  refine s_if (et_B (ev_op (ev_var rfl) (ev_var rfl) rv_I0)) ?_ fun _ H1 e1 => q H1 e1
  intro hb
  exact absurd (of_decide_eq_true hb) (by omega)
def signs : Str := "abcdefghijklmnopqrstuvwxyz0123456789"
structure GoodK (k : Str) : Prop where
  l1 : 1 ≤ k.length
  l12 : k.length ≤ 12
  ch : ∀ c ∈ k.cps.toList, c ∈ signs.cps.toList
def spGood : Sp := fun vs H Q _ => ∃ k, vs = [.str k] ∧ GoodK k ∧ RetV .non H Q
theorem sc_f_good_key : FnScope ["key", "character"] ["key"] (defScope x_f_good_key) := ⟨rfl, rfl, rfl, by decide +kernel, rfl, by decide +kernel, by decide +kernel⟩
theorem ok_f_good_key (T : Tx K mg) : Fnc PP w K mg base CX0 1 (He.ga K "good_key") ["key"] spGood := by
  refine mk0 T.d_f_good_key sc_f_good_key (by rintro _ H Q E ⟨k, rfl, _⟩; rfl) (by intro kV doc pm an cdv ct us h; match us, h with | [_], _ => rfl) ?_
  rintro cdv A outer s0 H _ Q E hr ⟨k, rfl, hk, q⟩
  have nd := sc_f_good_key.nd
  obtain ⟨t1, gl⟩ := T.g_KEY_LENGTH
  obtain ⟨t2, gc⟩ := T.g_KEY_CHARACTERS
  refine ⟨_, (pss_cons (ps_if (PW.pt (pw_or (pt_not (pt_val (pe_callB call_isi (by rfl) T.b_isinstance (by decide +kernel) (pa_cons (pv 0) (pa_cons (pe_bltn (v := .ty "str") (by rfl) T.b_str (by decide +kernel) rfl) pa_nil))))) (pw_or1 (pt_not (pt_chain op_le op_le pe_int (pe_callB call_len_str (by rfl) T.b_len PySem.boot_len (pa_cons (pv 0) pa_nil)) (pe_glob (x := "KEY_LENGTH") (v := .int 12) rfl gl ⟨_, rfl⟩)))))) pss_never pss_nil)
    (pss_one (ps_for PassesOwn.never rfl (pi_str (pv 0)) (pg_name (i := 1) nd rfl (by first | exact Or.inl rfl | exact Or.inr rfl))
      (pss_one (ps_if (pt_cmpR op_notIn_sign (pv 1) (pe_glob (x := "KEY_CHARACTERS") (v := .str signs) rfl gc ⟨_, rfl⟩) rfl) pss_never pss_nil))))), ?_⟩
  have h13 : k.length ≤ sizeLine := small_le (by have := hk.l12; omega)
  refine q_when (b := false) (et_or (a := false) (et_is (et_not (a := true) (et_B (ev_isi (ea_cons (ev_var rfl) (ea_cons ev_c ea_nil)) (.str k) (fun _ _ => .str k) (by decide +kernel)))) rfl) fun _ => et_is (et_not (a := true) ?_) rfl) (fun z => nomatch z) ?_
  · intro H1 e1 Q' q'
    refine ⟨_, rfl, k, rfl, h13, _, _, rfl, rfl, _, rfl, ?_⟩
    have z1 : decide ((1 : Int) ≤ (k.length : Int)) = true := decide_eq_true (by have := hk.l1; omega)
    rw [z1]
    refine iteT ⟨_, _, rfl, rfl, ?_⟩
    have z2 : decide ((k.length : Int) ≤ 12) = true := decide_eq_true (by have := hk.l12; omega)
    exact ⟨true, congrArg V.bl z2, q' H1 (Ex.refl _)⟩
  · intro _ H1 e1
    refine ⟨_, rfl, k, rfl, for_it (walk_str (z := k)) (fun n σ H' => Ex H1 H' ∧ ∃ y, σ = [some (.str k), y]) ⟨Ex.refl _, _, rfl⟩ (fun _ _ _ _ _ => trivial) ?_ fun σ H' p => q H' (e1.trans p.1)⟩
    rintro n x σ H2 H3 hn ⟨e2, y0, rfl⟩ ⟨rfl, c, hc, rfl⟩
    have hm : c ∈ signs.cps.toList := hk.ch c (by
      obtain ⟨hi, e⟩ := Array.getElem?_eq_some_iff.1 hc
      rw [← e]
      exact Array.mem_toList_iff.2 (Array.getElem_mem hi))
    refine s_when (b := false) (et_B (ev_op (ev_var rfl) ev_c (z := .bl false) fun H4 e4 Q' q' => ⟨c, signs, rfl, rfl, ?_⟩)) (fun z => nomatch z) fun _ H4 e4 => ⟨e2.trans e4, _, rfl⟩
    rw [decide_eq_true hm]
    exact q' H4 (Ex.refl _)
def spChk (K : Kf) : Sp := fun vs H Q _ => ∃ s t c g ts kvs j, vs = [.ref s.S, .int ((j : Nat) : Int)] ∧ StAt K H s t c g ts kvs ∧ j < g.rows.length ∧ RetV .non H Q
theorem spv_chk {H : Hp} {s : Sd} {t : Tm} {c : Ct} {g : Lg} {ts : List Nat} {kvs : List (Key × V)} (h : StAt K H s t c g ts kvs) {j : Nat} (hj : j < g.rows.length) : SpV (spChk K) [.ref s.S, .int (j : Int)] H .non := fun H1 e Q q E => ⟨s, t, c, g, ts, kvs, j, rfl, h.ex e, hj, q⟩
theorem sc_s_check_segment : FnScope ["self", "segment"] ["self", "segment"] (defScope x_s_check_segment) := ⟨rfl, rfl, rfl, by decide +kernel, rfl, by decide +kernel, by decide +kernel⟩
theorem ok_s_chk (T : Tx K mg) : Fnc PP w K mg base CX0 2 (mS K "_check_segment") ["self", "segment"] (spChk K) := by
  refine mk0 T.d_s_check_segment sc_s_check_segment (by rintro _ H Q E ⟨s, t, c, g, ts, kvs, j, rfl, _⟩; rfl) (by intro kV doc pm an cdv ct us h; match us, h with | [_, _], _ => rfl) ?_
  rintro cdv A outer s0 H _ Q E hr ⟨s, t, c, g, ts, kvs, j, rfl, h, hj, q⟩
  refine ⟨_, (pss_cons (ps_expr (pe_f (ok_f_at_least T) T.g_at_least hr pass0 (pa_cons (pv 1) (pa_cons pe_int (pa_cons pe_str pa_nil)))))
    (pss_one (ps_expr (pe_f (ok_f_at_most T) T.g_at_most hr pass0 (pa_cons (pv 1) (pa_cons (pe_op op_sub (pe_fld (pv 0) rfl) pe_int) (pa_cons pe_str pa_nil))))))), ?_⟩
  refine q_drop (ev_call (ea_cons (ev_var rfl) (ea_cons ev_c (ea_cons ev_c ea_nil))) (spv_least (by omega))) fun H1 e1 => ?_
  have h1 := h.ex e1
  exact s_drop (ev_call (ea_cons (ev_var rfl) (ea_cons (ev_op (ev_fld (ev_var rfl) h1.obj T.cs T.ns_segments rfl) ev_c rv_I0) (ea_cons ev_c ea_nil))) (spv_most (by omega))) fun H2 e2 => q H2 (e1.trans e2)
/-- written, living, freed: by the segment -/
def spSeg (K : Kf) (F : Lg → Nat → Nat) : Sp := fun vs H Q _ => ∃ s t c g ts kvs j, vs = [.ref s.S, .int ((j : Nat) : Int)] ∧ StAt K H s t c g ts kvs ∧ j < g.rows.length ∧ RetV (.int (F g j : Int)) H Q
theorem spv_seg {F : Lg → Nat → Nat} {H : Hp} {s : Sd} {t : Tm} {c : Ct} {g : Lg} {ts : List Nat} {kvs : List (Key × V)} (h : StAt K H s t c g ts kvs) {j : Nat} (hj : j < g.rows.length) : SpV (spSeg K F) [.ref s.S, .int (j : Int)] H (.int (F g j : Int)) := fun H1 e Q q E => ⟨s, t, c, g, ts, kvs, j, rfl, h.ex e, hj, q⟩
theorem sc_s_written : FnScope ["self", "segment"] ["self", "segment"] (defScope x_s_written) := ⟨rfl, rfl, rfl, by decide +kernel, rfl, by decide +kernel, by decide +kernel⟩
theorem ok_s_written (T : Tx K mg) : Fnc PP w K mg base CX0 3 (mS K "written") ["self", "segment"] (spSeg K fun g j => (g.row j).length) := by
  refine mk0 T.d_s_written sc_s_written (by rintro _ H Q E ⟨s, t, c, g, ts, kvs, j, rfl, _⟩; rfl) (by intro kV doc pm an cdv ct us h; match us, h with | [_, _], _ => rfl) ?_
  rintro cdv A outer s0 H _ Q E hr ⟨s, t, c, g, ts, kvs, j, rfl, h, hj, q⟩
  refine ⟨_, (pss_cons (ps_expr (pe_m (pv 0) T.cs T.m_s_check_segment (ok_s_chk T) hr pass0 (pa_cons (pv 1) pa_nil)))
    (pss_one (ps_ret (pe_callB call_len_seq (by rfl) T.b_len PySem.boot_len (pa_cons (pe_ix ix_list (pe_fld (pe_fld (pv 0) rfl) rfl) (pv 1) (fun _ _ => rfl)) pa_nil))))), ?_⟩
  refine q_drop (ev_meth (ev_var rfl) h.obj rfl (ea_cons (ev_var rfl) ea_nil) (spv_chk h hj)) fun H1 e1 => ?_
  have h1 := h.ex e1
  obtain ⟨a, xs, k1, k2, k3, k4, _⟩ := h1.log.rw.get hj
  refine s_ret (ev_is (ev_len (ev_op (ev_fld (ev_fld (ev_var rfl) h1.obj T.cs T.ns_log rfl) h1.log.obj T.cl T.nl_rows rfl) (ev_var rfl) (rv_ixL (SqL.of h1.log.rw.at_) (atI_nat k2))) (SqL.of k3)) ?_) fun H2 e2 => q H2 (e1.trans e2)
  rw [k4.1]
  rfl
theorem sc_s_living : FnScope ["self", "segment"] ["self", "segment"] (defScope x_s_living) := ⟨rfl, rfl, rfl, by decide +kernel, rfl, by decide +kernel, by decide +kernel⟩
theorem ok_s_living (T : Tx K mg) : Fnc PP w K mg base CX0 3 (mS K "living") ["self", "segment"] (spSeg K fun g j => alive (g.row j)) := by
  refine mk0 T.d_s_living sc_s_living (by rintro _ H Q E ⟨s, t, c, g, ts, kvs, j, rfl, _⟩; rfl) (by intro kV doc pm an cdv ct us h; match us, h with | [_, _], _ => rfl) ?_
  rintro cdv A outer s0 H _ Q E hr ⟨s, t, c, g, ts, kvs, j, rfl, h, hj, q⟩
  refine ⟨_, (pss_cons (ps_expr (pe_m (pv 0) T.cs T.m_s_check_segment (ok_s_chk T) hr pass0 (pa_cons (pv 1) pa_nil)))
    (pss_one (ps_ret (pe_m (pe_fld (pv 0) rfl) T.cl T.m_l_alive (ok_l_alive T) (hr.mono (by decide)) pass0 (pa_cons (pv 1) pa_nil))))), ?_⟩
  refine q_drop (ev_meth (ev_var rfl) h.obj rfl (ea_cons (ev_var rfl) ea_nil) (spv_chk h hj)) fun H1 e1 => ?_
  have h1 := h.ex e1
  exact s_ret (ev_meth (ev_fld (ev_var rfl) h1.obj T.cs T.ns_log rfl) h1.log.obj rfl (ea_cons (ev_var rfl) ea_nil) (spv_alive h1.log hj)) fun H2 e2 => q H2 (e1.trans e2)
theorem sc_s_freed : FnScope ["self", "segment"] ["self", "segment"] (defScope x_s_freed) := ⟨rfl, rfl, rfl, by decide +kernel, rfl, by decide +kernel, by decide +kernel⟩
theorem ok_s_freed (T : Tx K mg) : Fnc PP w K mg base CX0 3 (mS K "freed") ["self", "segment"] (spSeg K fun g j => g.frees.getD j 0) := by
  refine mk0 T.d_s_freed sc_s_freed (by rintro _ H Q E ⟨s, t, c, g, ts, kvs, j, rfl, _⟩; rfl) (by intro kV doc pm an cdv ct us h; match us, h with | [_, _], _ => rfl) ?_
  rintro cdv A outer s0 H _ Q E hr ⟨s, t, c, g, ts, kvs, j, rfl, h, hj, q⟩
  refine ⟨_, (pss_cons (ps_expr (pe_m (pv 0) T.cs T.m_s_check_segment (ok_s_chk T) hr pass0 (pa_cons (pv 1) pa_nil)))
    (pss_one (ps_ret (pe_ix ix_list (pe_fld (pe_fld (pv 0) rfl) rfl) (pv 1) (fun _ _ => rfl))))), ?_⟩
  refine q_drop (ev_meth (ev_var rfl) h.obj rfl (ea_cons (ev_var rfl) ea_nil) (spv_chk h hj)) fun H1 e1 => ?_
  have h1 := h.ex e1
  have hf : j < g.frees.length := by rw [h.log.ok.fr]; exact hj
  exact s_ret (ev_op (ev_fld (ev_fld (ev_var rfl) h1.obj T.cs T.ns_log rfl) h1.log.obj T.cl T.nl_frees rfl) (ev_var rfl) (rv_ixL (SqL.of h1.log.fr) (atI_nat (vns_get (n := g.frees.getD j 0) (by rw [List.getD_eq_getElem?_getD, List.getElem?_eq_getElem hf]; rfl))))) fun H2 e2 => q H2 (e1.trans e2)
def spCls (K : Kf) : Sp := fun vs H Q _ => ∃ s t c g ts kvs, vs = [.ref s.S] ∧ StAt K H s t c g ts kvs ∧ RetL (vns (shut g)) H Q
theorem spl_cls {H : Hp} {s : Sd} {t : Tm} {c : Ct} {g : Lg} {ts : List Nat} {kvs : List (Key × V)} (h : StAt K H s t c g ts kvs) : SpL (spCls K) [.ref s.S] H (vns (shut g)) := fun H1 e Q q E => ⟨s, t, c, g, ts, kvs, rfl, h.ex e, q⟩
theorem sc_s_closed : FnScope ["self", "segment"] ["self"] (defScope x_s_closed) := ⟨rfl, rfl, rfl, by decide +kernel, rfl, by decide +kernel, by decide +kernel⟩
theorem given_shut {g : Lg} : given g.rows.length (fun j => decide (j ∈ shut g)) (fun i => V.int (i : Int)) = vns (shut g) := by
  rw [given_vns]
  congr 1
  unfold shut
  apply List.filter_congr
  intro x hx
  simp only [List.mem_range] at hx
  rw [Bool.eq_iff_iff]
  simp [hx]
theorem ok_s_closed (T : Tx K mg) : Fnc PP w K mg base CX0 3 (mS K "closed") ["self"] (spCls K) := by
  refine mk0 T.d_s_closed sc_s_closed (by rintro _ H Q E ⟨s, t, c, g, ts, kvs, rfl, _⟩; rfl) (by intro kV doc pm an cdv ct us h; match us, h with | [_], _ => rfl) ?_
  rintro cdv A outer s0 H _ Q E hr ⟨s, t, c, g, ts, kvs, rfl, h, q⟩
  have nd := sc_s_closed.nd
  refine ⟨_, (pss_one (ps_ret (pe_lc (own := [("segment", 1)]) (g := gName 1) (tt := tB (tMeth (cL K) "is_closed" (spClosed K) [] E0 (tFld K (tVar 0) "_log") (tCons (tVar 1) tNil))) rfl nd (pi_range1 rfl T.b_range (pa_cons (pe_fld (pv 0) rfl) pa_nil)) (blkOk_by (N := ["self", "segment"]) (sc := defScope x_s_closed) (by decide +kernel)) (fun _ _ _ _ _ => (pg_name (i := 1) nd rfl (Or.inl rfl))) (fun _ _ _ _ _ => (pts_one (pt_val (pe_m (pe_fld (pv 0) rfl) T.cl T.m_l_is_closed (ok_l_closed T) hr pass0 (pa_cons (pv 1) pa_nil))))) (fun _ _ _ _ _ => (pv 1))))), ?_⟩
  have n8 := h.log.ok.n8
  refine s_retL (xs := vns (shut g)) ?_ q
  rw [← given_shut, ← Int.toNat_natCast g.rows.length]
  refine el_lcR1 _ _ (ea_cons (ev_fld (ev_var rfl) h.obj T.cs T.ns_segments rfl) ea_nil) (by omega) (fun _ => rfl) ?_ ?_
  · intro i H1 e1 hi
    have h1 := h.ex e1
    exact et_B (ev_meth (ev_fld (ev_var rfl) h1.obj T.cs T.ns_log rfl) h1.log.obj rfl (ea_cons (ev_var rfl) ea_nil) (spv_closed h1.log (by omega)))
  · intro i H1 e1 hi _
    exact ev_var rfl
def spPic (K : Kf) : Sp := fun vs H Q _ => ∃ s t c g ts kvs, vs = [.ref s.S] ∧ StAt K H s t c g ts kvs ∧ ∀ D as H2, Rows false H2 D as g.rows → Ex H H2 → (∀ b ∈ D :: as, H b = none) → Q (.ref D) H2
theorem sc_s_picture : FnScope ["self", "row"] ["self"] (defScope x_s_picture) := ⟨rfl, rfl, rfl, by decide +kernel, rfl, by decide +kernel, by decide +kernel⟩
theorem ok_s_picture (T : Tx K mg) : Fnc PP w K mg base CX0 1 (mS K "picture") ["self"] (spPic K) := by
  refine mk0 T.d_s_picture sc_s_picture (by rintro _ H Q E ⟨s, t, c, g, ts, kvs, rfl, _⟩; rfl) (by intro kV doc pm an cdv ct us h; match us, h with | [_], _ => rfl) ?_
  rintro cdv A outer s0 H _ Q E hr ⟨s, t, c, g, ts, kvs, rfl, h, q⟩
  have nd := sc_s_picture.nd
  refine ⟨_, (pss_one (ps_ret (pe_lc (own := [("row", 1)]) (g := gName 1) (tt := tYes) (te := tCB (rListS K) (tCons (tVar 1) tNil)) rfl nd (pi_list (pe_fld (pe_fld (pv 0) rfl) rfl)) (blkOk_by (N := ["self", "row"]) (sc := defScope x_s_picture) (by decide +kernel)) (fun _ _ _ _ _ => (pg_name (i := 1) nd rfl (Or.inl rfl))) (fun _ _ _ _ _ => pts_nil) (fun _ _ _ _ _ => (pe_callTy call_list_of (by rfl) T.b_list (by decide +kernel) (pa_cons (pv 1) pa_nil)))))), ?_⟩
  have hR := h.log.rw
  have nlen : (s.ad.as.map V.ref).length = g.rows.length := by rw [List.length_map, hR.len]
  refine r_ret (en_lcL (fun i => lstAt H (s.ad.as.getD i 0)) (ev_fld (ev_fld (ev_var rfl) h.obj T.cs T.ns_log rfl) h.log.obj T.cl T.nl_rows rfl) (SqL.of hR.at_) (by rw [nlen]; have := h.log.ok.n8; omega) (fun _ => rfl) ?_ H (Ex.refl _) _ fun D as H3 nl => ?_)
  · intro i y H' e' hy
    rw [List.getElem?_map] at hy
    cases ha : s.ad.as[i]? with
    | none => rw [ha] at hy; cases hy
    | some a =>
      rw [ha] at hy
      cases hy
      rw [getD_some ha]
      have hi : i < g.rows.length := by rw [← hR.len]; exact (List.getElem?_eq_some_iff.1 ha).1
      obtain ⟨a', xs, h1, h2, h3, h5, _⟩ := hR.get hi
      rw [ha] at h1
      cases h1
      rw [lstAt_eq h3]
      exact el_list (ev_var rfl) (SqL.of (e' _ _ h3))
  · refine q D as H3 (nl.rows (ow := []) (Ch.refl _ _) (fun _ _ z => by cases z) nlen.symm ?_) nl.ex nl.fr'
    intro i r' e
    have hi : i < g.rows.length := (List.getElem?_eq_some_iff.1 e).1
    obtain ⟨a', xs, h1, h2, h3, h5, _⟩ := hR.get hi
    rw [getD_some h1, lstAt_eq h3, ← getD_some (d := []) e]
    exact h5.step (nl.ex.ch [])
end
end CLg
end

section
/-! The box of draws. -/
namespace CLg
open PySem PySem.Spec PyProof.Rows L2 Evl
abbrev fA (K : Kf) (m : Str) : Addr := He.ga K m
structure Bx where
  B : Addr
  C : Addr
def Bx.own (b : Bx) : List Addr := [b.B, b.C]
def boxkv (C : Addr) (rest seed turn : Int) : List (Key × V) := [(.inr "cells", .ref C), (.inr "rest", .int rest), (.inr "seed", .int seed), (.inr "turn", .int turn)]
theorem bk_cells (C : Addr) (r s t : Int) : valV (boxkv C r s t) (Sum.inr "cells") = some (.ref C) := by kernel_rfl
theorem bk_rest (C : Addr) (r s t : Int) : valV (boxkv C r s t) (Sum.inr "rest") = some (.int r) := by kernel_rfl
theorem bk_seed (C : Addr) (r s t : Int) : valV (boxkv C r s t) (Sum.inr "seed") = some (.int s) := by kernel_rfl
theorem bk_turn (C : Addr) (r s t : Int) : valV (boxkv C r s t) (Sum.inr "turn") = some (.int t) := by kernel_rfl
theorem bk_len {C : Addr} {r s t : Int} : (boxkv C r s t).length < sizeLine := show 4 < sizeLine by decide
theorem bp_rest (C : Addr) (r s t x : Int) : putK (boxkv C r s t) (Sum.inr "rest") (.int x) = boxkv C x s t := by kernel_rfl
theorem bp_seed (C : Addr) (r s t x : Int) : putK (boxkv C r s t) (Sum.inr "seed") (.int x) = boxkv C r x t := by kernel_rfl
theorem bp_turn (C : Addr) (r s t x : Int) : putK (boxkv C r s t) (Sum.inr "turn") (.int x) = boxkv C r s x := by kernel_rfl
structure BoxS (H : Hp) (b : Bx) (cells : List Int) (rest seed turn : Int) : Prop where
  ne : b.B ≠ b.C
  dict : H b.B = some (.dK (boxkv b.C rest seed turn))
  cel : H b.C = some (.lst (cells.map V.int))
  len : cells.length ≤ 63
  r0 : 0 ≤ rest
  s0 : 0 ≤ seed
  s1 : seed < 2305843009213693951
  t0 : 0 ≤ turn
def BoxAt (H : Hp) (b : Bx) (T : Nat) : Prop := ∃ cells rest seed turn, BoxS H b cells rest seed turn ∧ turn ≤ T
section
variable {H H' : Hp} {b : Bx} {T T' : Nat} {ow : List Addr} {cells : List Int} {rest seed turn : Int}
theorem BoxS.step (h : BoxS H b cells rest seed turn) (c : Ch ow H H') (d : Dj b.own ow) : BoxS H' b cells rest seed turn :=
  ⟨h.ne, c.at h.dict (d _ (by simp [Bx.own])), c.at h.cel (d _ (by simp [Bx.own])), h.len, h.r0, h.s0, h.s1, h.t0⟩
theorem BoxS.ex (h : BoxS H b cells rest seed turn) (e : Ex H H') : BoxS H' b cells rest seed turn := h.step (e.ch []) fun _ _ z => by cases z
theorem BoxAt.step (h : BoxAt H b T) (c : Ch ow H H') (d : Dj b.own ow) : BoxAt H' b T := by
  obtain ⟨a1, a2, a3, a4, h, t⟩ := h
  exact ⟨a1, a2, a3, a4, h.step c d, t⟩
theorem BoxAt.ex (h : BoxAt H b T) (e : Ex H H') : BoxAt H' b T := h.step (e.ch []) fun _ _ z => by cases z
theorem BoxAt.mono (h : BoxAt H b T) (l : T ≤ T') : BoxAt H b T' := by
  obtain ⟨a1, a2, a3, a4, h, t⟩ := h
  exact ⟨a1, a2, a3, a4, h, by omega⟩
theorem BoxAt.tr (h : BoxAt H b T) : Tr b.own H := fun x m z => by
  obtain ⟨a1, a2, a3, a4, h, t⟩ := h
  simp only [Bx.own, List.mem_cons, List.not_mem_nil, or_false] at m
  rcases m with rfl | rfl
  · rw [h.dict] at z; cases z
  · rw [h.cel] at z; cases z
end
theorem ev_int1 {K : Kf} {σ : L2.St} {H : Hp} {ta : TE} {i : Int} (ha : Ev ta σ H (.int i)) : Ev (tCB (fun xs H Q => (∃ i : Int, xs = [V.int i] ∧ Q (.int i) H) ∨ ∃ k : Bool, xs = [V.bl k] ∧ Q (.int (if k then 1 else 0)) H) (tCons ta tNil)) σ H (.int i) := fun H1 e Q q =>
  ha H1 e _ fun H2 e2 => .inl ⟨i, rfl, q H2 e2⟩
section
variable {w : World} {K : Kf} {mg : Str → Option Value} {base : Heap}
def spDraw (K : Kf) : Sp := fun vs H Q _ => ∃ b T m, vs = [.ref b.B, .int m] ∧ BoxAt H b T ∧ T ≤ 1000000 ∧ 1 ≤ m ∧ m < 2 ^ 63 ∧ ∀ H2 (r : Nat), BoxAt H2 b (T + 1) → Ch b.own H H2 → (r : Int) < m → Q (.int (r : Int)) H2
theorem sc_f_law_draw : FnScope ["_law_box_here", "_law_many", "_law_cells", "_law_cell", "_law_digit", "_law_base", "_law_once", "_law_twice"] ["_law_box_here", "_law_many"] (defScope x_f_law_draw) := ⟨rfl, rfl, rfl, by decide +kernel, rfl, by decide +kernel, by decide +kernel⟩
theorem ok_draw (T : Tx K mg) : Fnc PP w K mg base CX0 1 (fA K "_law_draw") ["_law_box_here", "_law_many"] (spDraw K) := by
  refine mk0 T.d_f_law_draw sc_f_law_draw (by rintro _ H Q E ⟨b, T, m, rfl, _⟩; rfl) (by intro kV doc pm an cdv ct us h; match us, h with | [_, _], _ => rfl) ?_
  rintro cdv A outer s0 H _ Q E hr ⟨b, TT, m, rfl, ⟨cells, rest, seed, turn, hB, ht⟩, hT, m1, m2, q⟩
  have nd := sc_f_law_draw.nd
  have hu := hu_of hr
  refine ⟨_, (pss_cons (ps_set (i := 2) nd rfl (by first | exact Or.inl rfl | exact Or.inr rfl) (pe_dget hu (pv 0) pe_str (fun _ _ => rfl)))
    (pss_cut (ps_if (PW.pt (pw_and (pt_cmpR op_eq (pe_dget hu (pv 0) pe_str (fun _ _ => rfl)) pe_int (nomark _)) (pw_and1 (pt_cmpR op_gt (pe_callB call_len_seq (by rfl) T.b_len PySem.boot_len (pa_cons (pv 2) pa_nil)) pe_int (nomark _))))) (pss_cons (ps_set (i := 3) nd rfl (by first | exact Or.inl rfl | exact Or.inr rfl) (pe_bm PySem.F.plainAttrs_list PySem.F.slot_list_pop PySem.F.type_list_pop mt_popAt (pv 2) (pa_cons pe_int pa_nil)))
      (pss_one (ps_if (pt_cmpR op_ge (pv 3) (pe_op op_pow pe_int pe_int) (nomark _)) (pss_one (ps_dput hu (pv 0) pe_str (pv 3) rfl)) (pss_one (ps_dput hu (pv 0) pe_str (pe_op op_mod (pe_callTy call_int1 (by rfl) T.b_int (by decide +kernel) (pa_cons (pe_op op_add (pe_op op_add (pe_op op_mul (pe_dget hu (pv 0) pe_str (fun _ _ => rfl)) pe_int) (pv 3)) pe_int) pa_nil)) pe_int) rfl))))) pss_nil)
    (pss_cons (ps_if (pt_cmpR op_gt (pe_dget hu (pv 0) pe_str (fun _ _ => rfl)) pe_int (nomark _)) (pss_cons (ps_set (i := 4) nd rfl (by first | exact Or.inl rfl | exact Or.inr rfl) (pe_op op_mod (pe_callTy call_int1 (by rfl) T.b_int (by decide +kernel) (pa_cons (pe_dget hu (pv 0) pe_str (fun _ _ => rfl)) pa_nil)) (pv 1)))
      (pss_cons (ps_dput hu (pv 0) pe_str (pe_op op_fdivW (pe_callTy call_int1 (by rfl) T.b_int (by decide +kernel) (pa_cons (pe_dget hu (pv 0) pe_str (fun _ _ => rfl)) pa_nil)) (pv 1)) rfl)
      (pss_one (ps_ret (pv 4))))) pss_nil)
    (pss_cons (ps_dput hu (pv 0) pe_str (pe_op op_add (pe_dget hu (pv 0) pe_str (fun _ _ => rfl)) pe_int) rfl)
    (pss_cons (ps_set (i := 5) nd rfl (by first | exact Or.inl rfl | exact Or.inr rfl) (pe_op op_add (pe_op op_add (pe_op op_mul (pe_dget hu (pv 0) pe_str (fun _ _ => rfl)) pe_int) (pe_op op_mul (pe_dget hu (pv 0) pe_str (fun _ _ => rfl)) pe_int)) pe_int))
    (pss_cons (ps_set (i := 6) nd rfl (by first | exact Or.inl rfl | exact Or.inr rfl) (pe_op op_mod (pe_callTy call_int1 (by rfl) T.b_int (by decide +kernel) (pa_cons (pe_op op_add (pe_op op_mulW (pv 5) (pv 5)) (pe_dget hu (pv 0) pe_str (fun _ _ => rfl))) pa_nil)) pe_int))
    (pss_cons (ps_set (i := 7) nd rfl (by first | exact Or.inl rfl | exact Or.inr rfl) (pe_op op_mod (pe_callTy call_int1 (by rfl) T.b_int (by decide +kernel) (pa_cons (pe_op op_add (pe_op op_mul (pv 6) (pv 6)) (pv 5)) pa_nil)) pe_int))
    (pss_one (ps_ret (pe_op op_mod (pe_callTy call_int1 (by rfl) T.b_int (by decide +kernel) (pa_cons (pe_op op_fdiv (pv 7) pe_int) pa_nil)) (pv 1))))))))))), ?_⟩
  refine q_asg (ev_dget (ev_var rfl) ev_c hB.dict (bk_cells ..)) fun H1 e1 => ?_
  have hB1 := hB.ex e1
  refine q_cut (M := fun σ' H' => ∃ cells' rest' seed' x3, σ' = [some (.ref b.B), some (.int m), some (.ref b.C), x3, none, none, none, none] ∧ BoxS H' b cells' rest' seed' turn ∧ Ch b.own H H') ?_ ?_
  · refine s_when (et_and (et_B (ev_op (ev_dget (ev_var rfl) ev_c hB1.dict (bk_rest ..)) ev_c (rv_eq rfl))) fun _ => et_B (ev_op (ev_len (ev_var rfl) (SqL.of hB1.cel)) ev_c rv_I0)) ?_ ?_
    · intro hc H2 e2
      have hB2 := hB1.ex e2
      have hne : 0 < cells.length := by
        simp only [Bool.and_eq_true, decide_eq_true_eq, List.length_map] at hc
        omega
      obtain ⟨x, xs, rfl⟩ : ∃ x xs, cells = x :: xs := by
        cases cells with
        | nil => simp at hne
        | cons x xs => exact ⟨x, xs, rfl⟩
      refine r_seq ?_
      refine r_asg ⟨_, rfl, .inl ⟨rfl, _, SqL.of hB2.cel⟩, b.C, _, 0, 0, .int x, rfl, rfl, hB2.cel, by decide, by decide, seqIndex_of (by decide) (by simp), rfl, ?_⟩
      refine r_name ?_
      dsimp only
      have c3 : Ch [b.C] H2 (upd H2 b.C (.lst ((List.map V.int (x :: xs)).eraseIdx 0))) := Ch.updL hB2.cel _ (by simp)
      have hB3 : BoxS (upd H2 b.C (.lst ((List.map V.int (x :: xs)).eraseIdx 0))) b xs rest seed turn := ⟨hB.ne, by rw [upd_ne hB.ne]; exact hB2.dict, by rw [upd_same]; rfl, by have := hB.len; simp at this; omega, hB.r0, hB.s0, hB.s1, hB.t0⟩
      generalize (upd H2 b.C (.lst ((List.map V.int (x :: xs)).eraseIdx 0))) = H3 at c3 hB3 ⊢
      have c03 : Ch b.own H H3 := ((e1.trans e2).ch _).trans (c3.mono fun y hy => .inl (by simp [Bx.own, List.mem_singleton.1 hy]))
      refine s_if (et_B (ev_op (ev_var rfl) (ev_op ev_c ev_c (rv_I ⟨by decide, by decide, by decide⟩)) rv_I0)) ?_ ?_
      · intro hx H4 e4
        have hx := of_decide_eq_true hx
        have hB4 := hB3.ex e4
        refine r_dput ⟨_, rfl, _, rfl, r_dputK hB4.dict bk_len (bp_rest ..) fun H5 h5 c5 => ?_⟩
        have hx0 : 0 ≤ x := by
          have : (10 : Int) ^ (18 : Int).toNat ≤ x := hx
          have h18 : (10 : Int) ^ (18 : Int).toNat = 1000000000000000000 := by decide
          omega
        exact ⟨xs, x, seed, _, rfl, ⟨hB.ne, h5, c5.at hB4.cel (by simp [hB.ne.symm]), hB4.len, hx0, hB.s0, hB.s1, hB.t0⟩, (c03.trans (e4.ch _)).trans (c5.mono fun y hy => .inl (by simp [Bx.own, List.mem_singleton.1 hy]))⟩
      · intro hx H4 e4
        have hB4 := hB3.ex e4
        refine r_dput (ev_op (ev_int1 (K := K) (ev_op (ev_op (ev_op (ev_dget (ev_var rfl) ev_c hB4.dict (bk_seed ..)) ev_c (rv_I (.inl ⟨by have := hB.s0; omega, by have := hB.s1; omega⟩))) (ev_var rfl) rv_I0) ev_c rv_I0)) ev_c (rv_I (by show (0 : Int) < 2305843009213693951; decide)) H4 (Ex.refl _) _ fun H5 e5 => ?_)
        have hB5 := hB4.ex e5
        refine ⟨_, rfl, r_dputK hB5.dict bk_len (bp_seed ..) fun H6 h6 c6 => ?_⟩
        exact ⟨xs, rest, _, _, rfl, ⟨hB.ne, h6, c6.at hB5.cel (by simp [hB.ne.symm]), hB5.len, hB.r0, Int.emod_nonneg _ (by decide), Int.emod_lt_of_pos _ (by decide), hB.t0⟩, ((c03.trans (e4.ch _)).trans (e5.ch _)).trans (c6.mono fun y hy => .inl (by simp [Bx.own, List.mem_singleton.1 hy]))⟩
    · intro hc H2 e2
      exact ⟨cells, rest, seed, _, rfl, hB1.ex e2, (e1.trans e2).ch _⟩
  clear hB1 e1
  rintro σ2 H2 ⟨cells2, rest2, seed2, x3, rfl, hB2, c02⟩
  refine q_when (et_B (ev_op (ev_dget (ev_var rfl) ev_c hB2.dict (bk_rest ..)) ev_c rv_I0)) ?_ ?_
  · intro hc H3 e3
    have hB3 := hB2.ex e3
    have md : (0 : Int) < m := by omega
    refine q_asg (ev_op (ev_int1 (K := K) (ev_dget (ev_var rfl) ev_c hB3.dict (bk_rest ..))) (ev_var rfl) (rv_I md)) fun H4 e4 => ?_
    have hB4 := hB3.ex e4
    refine r_seq (r_dput (ev_op (ev_int1 (K := K) (ev_dget (ev_var rfl) ev_c hB4.dict (bk_rest ..))) (ev_var rfl) (rv_I (wide_div (b := 63) md (by omega) (by decide) (by decide))) H4 (Ex.refl _) _ fun H5 e5 => ?_))
    have hB5 := hB4.ex e5
    refine ⟨_, rfl, r_dputK hB5.dict bk_len (bp_rest ..) fun H6 h6 c6 => ?_⟩
    have c06 : Ch b.own H H6 := ((c02.trans (e3.ch _)).trans ((e4.trans e5).ch _)).trans (c6.mono fun y hy => .inl (by simp [Bx.own, List.mem_singleton.1 hy]))
    have hm0 := Int.emod_nonneg rest2 (show m ≠ 0 by omega)
    have hm1 := Int.emod_lt_of_pos rest2 md
    obtain ⟨r, hrr⟩ := Int.eq_ofNat_of_zero_le hm0
    refine r_ret (r_var rfl ?_)
    rw [hrr]
    refine q H6 r ⟨cells2, _, seed2, turn, ⟨hB.ne, h6, c6.at hB5.cel (by simp [hB.ne.symm]), hB2.len, Int.ediv_nonneg hB2.r0 (by omega), hB2.s0, hB2.s1, hB2.t0⟩, by omega⟩ c06 (by omega)
  · intro hc H3 e3
    have hB3 := hB2.ex e3
    refine r_seq (r_dput (ev_op (ev_dget (ev_var rfl) ev_c hB3.dict (bk_turn ..)) ev_c rv_I0 H3 (Ex.refl _) _ fun H4 e4 => ?_))
    have hB4 := hB3.ex e4
    refine ⟨_, rfl, r_dputK hB4.dict bk_len (bp_turn ..) fun H5 h5 c5 => ?_⟩
    have hB5 : BoxS H5 b cells2 rest2 seed2 (turn + 1) := ⟨hB.ne, h5, c5.at hB4.cel (by simp [hB.ne.symm]), hB2.len, hB2.r0, hB2.s0, hB2.s1, by have := hB2.t0; omega⟩
    have c05 : Ch b.own H H5 := ((c02.trans (e3.ch _)).trans (e4.ch _)).trans (c5.mono fun y hy => .inl (by simp [Bx.own, List.mem_singleton.1 hy]))
    have s0 := hB2.s0
    have s1 := hB2.s1
    have t0 := hB2.t0
    refine q_asg (ev_op (ev_op (ev_op (ev_dget (ev_var rfl) ev_c hB5.dict (bk_seed ..)) ev_c (rv_I (.inl ⟨by omega, by omega⟩))) (ev_op (ev_dget (ev_var rfl) ev_c hB5.dict (bk_turn ..)) ev_c (rv_I (.inl ⟨by omega, by omega⟩))) rv_I0) ev_c rv_I0) fun H6 e6 => ?_
    generalize hbase : seed2 * 69621 + (turn + 1) * 1442695040888963407 + 30956 = bs
    have hb0 : bs.natAbs < 2 ^ 100 := by omega
    have hB6 := hB5.ex e6
    refine q_asg (ev_op (ev_int1 (K := K) (ev_op (ev_op (ev_var rfl) (ev_var rfl) (rv_I (wide_mul hb0 hb0 (by decide) (by decide) (by decide)))) (ev_dget (ev_var rfl) ev_c hB6.dict (bk_turn ..)) rv_I0)) ev_c (rv_I (by show (0 : Int) < 2305843009213693951; decide))) fun H7 e7 => ?_
    generalize hon : (bs * bs + (turn + 1)) % 2305843009213693951 = on
    have on0 : 0 ≤ on := by rw [← hon]; exact Int.emod_nonneg _ (by decide)
    have on1 : on < 2305843009213693951 := by rw [← hon]; exact Int.emod_lt_of_pos _ (by decide)
    refine q_asg (ev_op (ev_int1 (K := K) (ev_op (ev_op (ev_var rfl) (ev_var rfl) (rv_I (.inl ⟨by omega, by omega⟩))) (ev_var rfl) rv_I0)) ev_c (rv_I (by show (0 : Int) < 618970019642690137449562111; decide))) fun H8 e8 => ?_
    have md : (0 : Int) < m := by omega
    generalize (on * on + bs) % 618970019642690137449562111 = tw
    refine s_ret (ev_op (ev_int1 (K := K) (ev_op (ev_var rfl) ev_c (rv_I ⟨by decide, by decide⟩))) (ev_var rfl) (rv_I md)) fun H9 e9 => ?_
    have hm0 := Int.emod_nonneg (tw / 1048576) (show m ≠ 0 by omega)
    have hm1 := Int.emod_lt_of_pos (tw / 1048576) md
    obtain ⟨r, hrr⟩ := Int.eq_ofNat_of_zero_le hm0
    have ea := (e6.trans e7).trans (e8.trans e9)
    show Q (.int ((tw / 1048576) % m)) H9
    rw [hrr]
    exact q H9 r ⟨cells2, rest2, seed2, turn + 1, hB5.ex ea, by omega⟩ (c05.trans (ea.ch _)) (by omega)
end
end CLg
end

section
/-! Terms, keys. -/
namespace CLg
open PySem PySem.Spec PyProof.Rows L2 Evl
section
variable {w : World} {K : Kf} {mg : Str → Option Value} {base : Heap}
theorem q_asgK {te : TE} {i : Nat} {tz : TS} {D : Ends} {σ : L2.St} {H : Hp} (h : te σ H fun x H1 => tz D (σ.set i (some x)) H1) : tSeq (tAsg te (gName i)) tz D σ H := h
theorem s_asgK {te : TE} {i : Nat} {D : Ends} {σ : L2.St} {H : Hp} (h : te σ H fun x H1 => D.nx (σ.set i (some x)) H1) : tAsg te (gName i) D σ H := h
theorem q_dropK {te : TE} {tz : TS} {D : Ends} {σ : L2.St} {H : Hp} (h : te σ H fun _ H1 => tz D σ H1) : tSeq (tDrop te) tz D σ H := h
theorem r_draw {b : Bx} {T : Nat} {m : Int} {σ : L2.St} {H : Hp} {ta tm : TE} {E : XK} {Q : VK} (hb : Ev ta σ H (.ref b.B)) (hm : Ev tm σ H (.int m)) (hB : BoxAt H b T) (hT : T ≤ 1000000) (m1 : 1 ≤ m) (m2 : m < 2 ^ 63)
    (k : ∀ H2 (r : Nat), BoxAt H2 b (T + 1) → Ch b.own H H2 → (r : Int) < m → Q (.int (r : Int)) H2) : tCall (spDraw K) [] E (tCons ta (tCons tm tNil)) σ H Q :=
  ea_cons hb (ea_cons hm ea_nil) H (Ex.refl _) _ fun H1 e1 => ⟨b, T, m, rfl, hB.ex e1, hT, m1, m2, fun H2 r h c l => k H2 r h ((e1.ch _).trans c) l⟩
theorem sc_f_law_terms : FnScope ["_law_box_here", "_law_cap", "_law_parts", "_law_wide", "_law_load", "_law_edge", "_law_way", "_law_bound"] ["_law_box_here"] (defScope x_f_law_terms) := ⟨rfl, rfl, rfl, by decide +kernel, rfl, by decide +kernel, by decide +kernel⟩
def spTerms (K : Kf) : Sp := fun vs H Q _ => ∃ b T, vs = [.ref b.B] ∧ BoxAt H b T ∧ T ≤ 900000 ∧ ∀ H2 p (n : Nat) (t : Tm), BoxAt H2 b (T + 8) → Ch b.own H H2 → H2 p = some (.tup [.int (n : Int), .int (t.wide : Int), .int t.bound, .int (t.load : Int)]) → H p = none →
  1 ≤ n → n ≤ 8 → 1 ≤ t.wide → t.wide ≤ 8 → t.load ≤ 40 → 1 ≤ t.bound → t.bound ≤ 66 → Q (.ref p) H2
theorem edge_le {p w l : Int} (p1 : 1 ≤ p) (p8 : p ≤ 8) (w1 : 1 ≤ w) (w8 : w ≤ 8) (l0 : 0 ≤ l) (l1 : l ≤ 40) : 1 ≤ (p - 1) * (l * w / (l + 1) + 1) + 1 ∧ (p - 1) * (l * w / (l + 1) + 1) + 1 ≤ 64 := by
  have h1 : 0 ≤ l * w / (l + 1) := Int.ediv_nonneg (Int.mul_nonneg l0 (by omega)) (by omega)
  have h2 : l * w / (l + 1) ≤ 8 := by
    refine Int.le_of_lt_add_one ((Int.ediv_lt_iff_lt_mul (by omega)).2 ?_)
    have : l * w ≤ l * 8 := Int.mul_le_mul_of_nonneg_left w8 l0
    omega
  generalize l * w / (l + 1) = d at h1 h2
  have h3 : 0 ≤ (p - 1) * (d + 1) := Int.mul_nonneg (by omega) (by omega)
  have h4 : (p - 1) * (d + 1) ≤ 7 * 9 := Int.mul_le_mul (by omega) (by omega) (by omega) (by omega)
  omega
theorem ok_terms (T : Tx K mg) : Fnc PP w K mg base CX0 2 (fA K "_law_terms") ["_law_box_here"] (spTerms K) := by
  refine mk0 T.d_f_law_terms sc_f_law_terms (by rintro _ H Q E ⟨b, T, rfl, _⟩; rfl) (by intro kV doc pm an cdv ct us h; match us, h with | [_], _ => rfl) ?_
  rintro cdv A outer s0 H _ Q E hr ⟨b, N, rfl, hB, hN, q⟩
  have nd := sc_f_law_terms.nd
  refine ⟨_, (pss_cons (ps_set (i := 1) nd rfl (by first | exact Or.inl rfl | exact Or.inr rfl) pe_int)
    (pss_cut (ps_if (pt_cmpR op_eq (pe_f (ok_draw T) T.g_law_draw hr pass0 (pa_cons (pv 0) (pa_cons pe_int pa_nil))) pe_int (nomark _)) (pss_one (ps_set (i := 1) nd rfl (by first | exact Or.inl rfl | exact Or.inr rfl) pe_int)) pss_nil)
    (pss_cons (ps_set (i := 2) nd rfl (by first | exact Or.inl rfl | exact Or.inr rfl) (pe_op op_add pe_int (pe_f (ok_draw T) T.g_law_draw hr pass0 (pa_cons (pv 0) (pa_cons (pv 1) pa_nil)))))
    (pss_cons (ps_set (i := 3) nd rfl (by first | exact Or.inl rfl | exact Or.inr rfl) (pe_op op_add pe_int (pe_f (ok_draw T) T.g_law_draw hr pass0 (pa_cons (pv 0) (pa_cons (pv 1) pa_nil)))))
    (pss_cons (ps_set (i := 4) nd rfl (by first | exact Or.inl rfl | exact Or.inr rfl) (pe_f (ok_draw T) T.g_law_draw hr pass0 (pa_cons (pv 0) (pa_cons pe_int pa_nil))))
    (pss_cut (ps_if (pt_cmpR op_eq (pe_f (ok_draw T) T.g_law_draw hr pass0 (pa_cons (pv 0) (pa_cons pe_int pa_nil))) pe_int (nomark _)) (pss_one (ps_set (i := 4) nd rfl (by first | exact Or.inl rfl | exact Or.inr rfl) (pe_f (ok_draw T) T.g_law_draw hr pass0 (pa_cons (pv 0) (pa_cons pe_int pa_nil))))) pss_nil)
    (pss_cons (ps_set (i := 5) nd rfl (by first | exact Or.inl rfl | exact Or.inr rfl) (pe_op op_add (pe_op op_mul (pe_op op_sub (pv 2) pe_int) (pe_op op_add (pe_op op_fdiv (pe_op op_mul (pv 4) (pv 3)) (pe_op op_add (pv 4) pe_int)) pe_int)) pe_int))
    (pss_cons (ps_set (i := 6) nd rfl (by first | exact Or.inl rfl | exact Or.inr rfl) (pe_f (ok_draw T) T.g_law_draw hr pass0 (pa_cons (pv 0) (pa_cons pe_int pa_nil))))
    (pss_cons (ps_set (i := 7) nd rfl (by first | exact Or.inl rfl | exact Or.inr rfl) (pv 5))
    (pss_cut (ps_if (pt_cmpR op_eq (pv 6) pe_int (nomark _)) (pss_one (ps_set (i := 7) nd rfl (by first | exact Or.inl rfl | exact Or.inr rfl) (pe_op op_add pe_int (pe_f (ok_draw T) T.g_law_draw hr pass0 (pa_cons (pv 0) (pa_cons (pe_op op_add (pe_op op_mul (pv 2) (pv 3)) pe_int) pa_nil)))))) pss_nil)
    (pss_cut (ps_if (pt_cmpR op_eq (pv 6) pe_int (nomark _)) (pss_one (ps_set (i := 7) nd rfl (by first | exact Or.inl rfl | exact Or.inr rfl) (pe_op op_add (pv 5) pe_int))) pss_nil)
    (pss_cut (ps_if (pt_cmpR op_eq (pv 6) pe_int (nomark _)) (pss_one (ps_set (i := 7) nd rfl (by first | exact Or.inl rfl | exact Or.inr rfl) (pe_callB (call_max2 rfl) (by rfl) T.b_max (by decide +kernel) (pa_cons pe_int (pa_cons (pe_op op_sub (pv 5) pe_int) pa_nil))))) pss_nil)
    (pss_one (ps_ret (pe_tup (pa_cons (pv 2) (pa_cons (pv 3) (pa_cons (pv 7) (pa_cons (pv 4) pa_nil))))))))))))))))))), ?_⟩
  refine q_asg ev_c fun H1 e1 => ?_
  have hB1 := hB.ex e1
  refine q_cut (M := fun σ' H' => ∃ cap : Int, σ' = [some (.ref b.B), some (.int cap), none, none, none, none, none, none] ∧ (1 ≤ cap ∧ cap ≤ 8) ∧ BoxAt H' b (N + 1) ∧ Ch b.own H H') ?_ ?_
  · refine r_ifS (r_test (r_op (r_draw (ev_var rfl) ev_c hB1 (by omega) (by decide) (by decide) fun H2 r hB2 c2 hr2 => ⟨rfl, _, rfl, iteD (fun _ => ?_) fun _ => ?_⟩)))
    · exact s_asg ev_c fun H3 e3 => ⟨8, rfl, by omega, hB2.ex e3, ((e1.ch _).trans c2).trans (e3.ch _)⟩
    · exact ⟨5, rfl, by omega, hB2, (e1.ch _).trans c2⟩
  clear hB1 e1
  rintro σ2 H2 ⟨cap, rfl, hcap, hB2, c2⟩
  refine q_asgK (r_op (r_draw (ev_var rfl) (ev_var rfl) hB2 (by omega) (by omega) (by omega) fun H3 r3 hB3 c3 hr3 => r_I0 ?_))
  refine q_asgK (r_op (r_draw (ev_var rfl) (ev_var rfl) hB3 (by omega) (by omega) (by omega) fun H4 r4 hB4 c4 hr4 => r_I0 ?_))
  refine q_asgK (r_draw (ev_var rfl) ev_c hB4 (by omega) (by decide) (by decide) fun H5 r5 hB5 c5 hr5 => ?_)
  refine q_cut (M := fun σ' H' => ∃ ld : Nat, σ' = [some (.ref b.B), some (.int cap), some (.int (1 + (r3 : Int))), some (.int (1 + (r4 : Int))), some (.int (ld : Int)), none, none, none] ∧ ld ≤ 40 ∧ BoxAt H' b (N + 6) ∧ Ch b.own H H') ?_ ?_
  · refine r_ifS (r_test (r_op (r_draw (ev_var rfl) ev_c hB5 (by omega) (by decide) (by decide) fun H6 r6 hB6 c6 hr6 => ⟨rfl, _, rfl, iteD (fun _ => ?_) fun _ => ?_⟩)))
    · refine s_asgK (r_draw (ev_var rfl) ev_c hB6 (by omega) (by decide) (by decide) fun H7 r7 hB7 c7 hr7 => ?_)
      exact ⟨r7, rfl, by omega, hB7.mono (by omega), ((c2.trans c3).trans (c4.trans c5)).trans (c6.trans c7)⟩
    · exact ⟨r5, rfl, by omega, hB6.mono (by omega), ((c2.trans c3).trans (c4.trans c5)).trans c6⟩
  clear hB3 hB4 hB5
  rintro σ6 H6 ⟨ld, rfl, hld, hB6, c6⟩
  have ed := edge_le (p := 1 + (r3 : Int)) (w := 1 + (r4 : Int)) (l := (ld : Int)) (by omega) (by omega) (by omega) (by omega) (by omega) (by omega)
  refine q_asg (ev_op (ev_op (ev_op (ev_var rfl) ev_c rv_I0) (ev_op (ev_op (ev_op (ev_var rfl) (ev_var rfl) (rv_I (.inl ⟨by omega, by omega⟩))) (ev_op (ev_var rfl) ev_c rv_I0) (rv_I ⟨by omega, by omega⟩)) ev_c rv_I0) (rv_I (.inl ⟨by omega, by omega⟩))) ev_c rv_I0) fun H7 e7 => ?_
  generalize (1 + (r3 : Int) - 1) * ((ld : Int) * (1 + (r4 : Int)) / ((ld : Int) + 1) + 1) + 1 = edge at ed
  have hB7 := hB6.ex e7
  refine q_asgK (r_draw (ev_var rfl) ev_c hB7 (by omega) (by decide) (by decide) fun H8 way hB8 c8 hr8 => ?_)
  refine q_asg (ev_var rfl) fun H9 e9 => ?_
  have hB9 := hB8.ex e9
  have c9 : Ch b.own H H9 := ((c6.trans (e7.ch _)).trans c8).trans (e9.ch _)
  have pw : (1 : Int) ≤ (1 + (r3 : Int)) * (1 + (r4 : Int)) ∧ (1 + (r3 : Int)) * (1 + (r4 : Int)) ≤ 64 := by
    have a1 : (1 : Int) * 1 ≤ (1 + (r3 : Int)) * (1 + (r4 : Int)) := Int.mul_le_mul (by omega) (by omega) (by omega) (by omega)
    have a2 : (1 + (r3 : Int)) * (1 + (r4 : Int)) ≤ 8 * 8 := Int.mul_le_mul (by omega) (by omega) (by omega) (by omega)
    omega
  refine q_cut (M := fun σ' H' => ∃ bd : Int, σ' = [some (.ref b.B), some (.int cap), some (.int (1 + (r3 : Int))), some (.int (1 + (r4 : Int))), some (.int (ld : Int)), some (.int edge), some (.int (way : Int)), some (.int bd)] ∧ (1 ≤ bd ∧ bd ≤ 66) ∧ BoxAt H' b (N + 8) ∧ Ch b.own H H') ?_ ?_
  · refine s_when (et_B (ev_op (ev_var rfl) ev_c (rv_eq rfl))) ?_ ?_
    · intro _ H10 e10
      refine s_asgK (r_op (r_draw (ev_var rfl) (ev_op (ev_op (ev_var rfl) (ev_var rfl) (rv_I (.inl ⟨by omega, by omega⟩))) ev_c rv_I0) (hB9.ex e10) (by omega) (by omega) (by omega) fun H11 r11 hB11 c11 hr11 => r_I0 ?_))
      exact ⟨_, rfl, ⟨by omega, by omega⟩, hB11, (c9.trans (e10.ch _)).trans c11⟩
    · intro _ H10 e10
      exact ⟨_, rfl, ⟨by omega, by omega⟩, (hB9.ex e10).mono (by omega), c9.trans (e10.ch _)⟩
  rintro σ10 H10 ⟨bd, rfl, hbd, hB10, c10⟩
  refine q_cut (M := fun σ' H' => ∃ bd : Int, σ' = [some (.ref b.B), some (.int cap), some (.int (1 + (r3 : Int))), some (.int (1 + (r4 : Int))), some (.int (ld : Int)), some (.int edge), some (.int (way : Int)), some (.int bd)] ∧ (1 ≤ bd ∧ bd ≤ 66) ∧ BoxAt H' b (N + 8) ∧ Ch b.own H H') ?_ ?_
  · refine s_when (et_B (ev_op (ev_var rfl) ev_c (rv_eq rfl))) ?_ ?_
    · intro _ H11 e11
      exact s_asg (ev_op (ev_var rfl) ev_c rv_I0) fun H12 e12 => ⟨_, rfl, ⟨by omega, by omega⟩, hB10.ex (e11.trans e12), c10.trans ((e11.trans e12).ch _)⟩
    · intro _ H11 e11
      exact ⟨_, rfl, hbd, hB10.ex e11, c10.trans (e11.ch _)⟩
  clear hB10 c10 hbd
  rintro σ11 H11 ⟨bd2, rfl, hbd, hB11, c11⟩
  refine q_cut (M := fun σ' H' => ∃ bd : Int, σ' = [some (.ref b.B), some (.int cap), some (.int (1 + (r3 : Int))), some (.int (1 + (r4 : Int))), some (.int (ld : Int)), some (.int edge), some (.int (way : Int)), some (.int bd)] ∧ (1 ≤ bd ∧ bd ≤ 66) ∧ BoxAt H' b (N + 8) ∧ Ch b.own H H') ?_ ?_
  · refine s_when (et_B (ev_op (ev_var rfl) ev_c (rv_eq rfl))) ?_ ?_
    · intro _ H12 e12
      refine s_asg (ev_max2 ev_c (ev_op (ev_var rfl) ev_c rv_I0)) fun H13 e13 => ⟨_, rfl, ?_, hB11.ex (e12.trans e13), c11.trans ((e12.trans e13).ch _)⟩
      split <;> omega
    · intro _ H12 e12
      exact ⟨_, rfl, hbd, hB11.ex e12, c11.trans (e12.ch _)⟩
  clear hB11 c11 hbd
  rintro σ12 H12 ⟨bd3, rfl, hbd, hB12, c12⟩
  refine s_retU (eu_tup (ea_cons (ev_var rfl) (ea_cons (ev_var rfl) (ea_cons (ev_var rfl) (ea_cons (ev_var rfl) ea_nil)))) (show 4 ≤ 100000 by decide)) fun p H13 hp e13 hp2 => ?_
  have h1 : ((1 + r3 : Nat) : Int) = 1 + (r3 : Int) := by omega
  have h2 : ((1 + r4 : Nat) : Int) = 1 + (r4 : Int) := by omega
  exact q H13 p (1 + r3) ⟨1 + r4, bd3, ld, false⟩ (hB12.ex e13) (c12.trans (e13.ch _)) (by rw [h1]; simp only; rw [h2]; exact hp2) (c12.free hp) (by omega) (by omega) (by show 1 ≤ 1 + r4; omega) (by show 1 + r4 ≤ 8; omega) hld hbd.1 hbd.2
end
end CLg
end

section
/-! The four own exceptions. -/
namespace CLg
open PySem PySem.Spec PyProof.Rows L2 PySem.W
def okI (v : Value) : Prop := ∃ i t, v = .int i t ∧ i.natAbs.log2 < 1920
def okA (_ : Value) : Prop := True
def okS (v : Value) : Prop := ∃ x t, v = .str x t ∧ (reprText x).length ≤ 1000
theorem bad_tx (w : World) : ∃ D : OwnX.Tx, D.qual = "BadChoice.__init__" ∧ D.params = defArgs x_BadChoice ∧ D.scope = defScope x_BadChoice ∧ D.body "choice" = defBody x_BadChoice ∧ OwnX.TxOk PP w "choice" okA D := by
  refine ⟨⟨"BadChoice.__init__", defArgs x_BadChoice, defScope x_BadChoice, _, _, _, _, _, _, _, _, _, _⟩, rfl, rfl, rfl, rfl, ?_⟩
  refine ⟨⟨_, rfl, rfl⟩, fun _ _ _ _ _ _ _ _ _ => rfl, rfl, rfl, rfl, by decide +kernel, rfl, rfl, rfl, rfl, by decide, by decide, by kernel_rfl, fun _ _ _ _ => ⟨_, rfl⟩, fun _ _ _ _ => rfl, fun _ _ _ _ => rfl, ?_⟩
  intro A L a cc cdv s m v Q Ex hns hm hok hq
  exact wpAny_Constant_str (hq _ _ _)
theorem fstr_int {prog : Program} {w : World} {A : Around} {Ex : Value → Shared → Prop} {s : Shared} {env : Env} {m : Str → Option Value} {fld a b : Str} {k1 k2 : Nat} {p0 p1 p2 p3 p4 : Pos} {v : Value} {Q : Value → Shared → Prop}
    (hns : s.heap.Ns env.locals m) (hm : m fld = some v) (hok : okI v) (hk : env.scope.kind = .function) (hl : env.kindOf fld = some .local) (hd : (fld == ("__debug__" : Str)) = false) (la : a.length ≤ 1000) (lb : b.length ≤ 1000)
    (hq : ∀ (y : Str) (t : Tok) (tk : Nat), Q (.str y t) { s with toks := tk }) :
    wpAny (model prog w) A (eval (.JoinedStr [.Constant (.str a) k1 p0, .FormattedValue (.Name fld p1) (-1) none p2, .Constant (.str b) k2 p3] p4) env) Q Ex s := by
  obtain ⟨i, t, rfl, hi⟩ := hok
  have hz := PySem.int_text_length_le (k := 1920) (by decide) hi
  have hz2 : (Str.ofString (toString i)).length ≤ 1921 := by rw [PySem.ofString_length]; exact hz
  have e0 : evalEach [.Constant (.str a) k1 p0, .FormattedValue (.Name fld p1) (-1) none p2, .Constant (.str b) k2 p3] env = [eval (.Constant (.str a) k1 p0) env, eval (.FormattedValue (.Name fld p1) (-1) none p2) env, eval (.Constant (.str b) k2 p3) env] := by
    first | rfl | simp [evalEach]
  have line : 16777216 = sizeLine := sizeLine_eq.symm
  refine wpAny_JoinedStr ?_
  rw [e0]
  refine wpAny_Constant_str ⟨a, _, rfl, ?_, ?_⟩
  · rw [strLen_append]
    show 0 + a.length ≤ sizeLine
    omega
  refine wpAny_FormattedValue_plain (wpAny_Name (wpAny_loadName_local hk hl hns hm ?_) hd)
  refine wpAny_formatField_int hi ⟨_, _, rfl, ?_, ?_⟩
  · rw [strLen_append, strLen_append]
    show 0 + a.length + (Str.ofString (toString i)).length ≤ sizeLine
    omega
  refine wpAny_Constant_str ⟨b, _, rfl, ?_, ?_, ?_⟩
  · rw [strLen_append, strLen_append, strLen_append]
    show 0 + a.length + (Str.ofString (toString i)).length + b.length ≤ sizeLine
    omega
  · rw [strLen_append, strLen_append, strLen_append]
    show 0 + a.length + (Str.ofString (toString i)).length + b.length ≤ sizeLine
    omega
  · exact hq _ _ _
theorem lim_tx (w : World) : ∃ D : OwnX.Tx, D.qual = "KeyLimit.__init__" ∧ D.params = defArgs x_KeyLimit ∧ D.scope = defScope x_KeyLimit ∧ D.body "most" = defBody x_KeyLimit ∧ OwnX.TxOk PP w "most" okI D := by
  refine ⟨⟨"KeyLimit.__init__", defArgs x_KeyLimit, defScope x_KeyLimit, _, _, _, _, _, _, _, _, _, _⟩, rfl, rfl, rfl, rfl, ?_⟩
  refine ⟨⟨_, rfl, rfl⟩, fun _ _ _ _ _ _ _ _ _ => rfl, rfl, rfl, rfl, by decide +kernel, rfl, rfl, rfl, rfl, by decide, by decide, by kernel_rfl, fun _ _ _ _ => ⟨_, rfl⟩, fun _ _ _ _ => rfl, fun _ _ _ _ => rfl, ?_⟩
  intro A L a cc cdv s m v Q Ex hns hm hok hq
  exact fstr_int hns hm hok rfl rfl (by decide) (by decide) (by decide) hq
theorem sta_tx (w : World) : ∃ D : OwnX.Tx, D.qual = "Stalled.__init__" ∧ D.params = defArgs x_Stalled ∧ D.scope = defScope x_Stalled ∧ D.body "deeds" = defBody x_Stalled ∧ OwnX.TxOk PP w "deeds" okI D := by
  refine ⟨⟨"Stalled.__init__", defArgs x_Stalled, defScope x_Stalled, _, _, _, _, _, _, _, _, _, _⟩, rfl, rfl, rfl, rfl, ?_⟩
  refine ⟨⟨_, rfl, rfl⟩, fun _ _ _ _ _ _ _ _ _ => rfl, rfl, rfl, rfl, by decide +kernel, rfl, rfl, rfl, rfl, by decide, by decide, by kernel_rfl, fun _ _ _ _ => ⟨_, rfl⟩, fun _ _ _ _ => rfl, fun _ _ _ _ => rfl, ?_⟩
  intro A L a cc cdv s m v Q Ex hns hm hok hq
  exact fstr_int hns hm hok rfl rfl (by decide) (by decide) (by decide) hq
theorem unk_tx (w : World) : ∃ D : OwnX.Tx, D.qual = "UnknownKey.__init__" ∧ D.params = defArgs x_UnknownKey ∧ D.scope = defScope x_UnknownKey ∧ D.body "key" = defBody x_UnknownKey ∧ OwnX.TxOk PP w "key" okS D := by
  refine ⟨⟨"UnknownKey.__init__", defArgs x_UnknownKey, defScope x_UnknownKey, _, _, _, _, _, _, _, _, _, _⟩, rfl, rfl, rfl, rfl, ?_⟩
  refine ⟨⟨_, rfl, rfl⟩, fun _ _ _ _ _ _ _ _ _ => rfl, rfl, rfl, rfl, by decide +kernel, rfl, rfl, rfl, rfl, by decide, by decide, by kernel_rfl, fun _ _ _ _ => ⟨_, rfl⟩, fun _ _ _ _ => rfl, fun _ _ _ _ => rfl, ?_⟩
  intro A L a cc cdv s m v Q Ex hns hm hok hq
  obtain ⟨x, t, rfl, hz⟩ := hok
  have line : 16777216 = sizeLine := sizeLine_eq.symm
  refine wpAny_JoinedStr (env := _) ?_
  refine wpAny_Constant_str ⟨_, _, rfl, by decide +kernel, ?_⟩
  refine wpAny_FormattedValue_repr (ESX.ldL hns hm ?_)
  refine pyReprObj_str ?_ (by omega)
  refine wpAny_formatField_str ⟨_, _, rfl, ?_, ?_, hq _ _ _⟩ ⟨_, _, rfl, ?_, ?_, hq _ _ _⟩ (by omega)
  all_goals
    rw [strLen_append]
    show 13 + (reprText x).length ≤ sizeLine
    omega
end CLg
end

section
/-! The store: put. -/
namespace CLg
open PySem PySem.Spec PyProof.Rows L2 Evl
theorem okI_small {i : Int} (h0 : 0 ≤ i) (h1 : i ≤ 1000) : ∀ u, RelV (.int i) u → okI u := fun u r => by
  obtain ⟨t, rfl⟩ := r
  refine ⟨i, t, rfl, ?_⟩
  have h : i.natAbs < 2 ^ 10 := by
    have : i.natAbs ≤ 1000 := by omega
    omega
  by_cases z : i.natAbs = 0
  · rw [z]; decide
  · exact Nat.lt_trans ((Nat.log2_lt z).2 h) (by decide)
/-- an own exception in the air with one field -/
def Air (K : Kf) (H : Hp) (E : XK) (x fld : Str) (v : V) : Prop := ∀ d H2, Ex H H2 → H2 d = some (.xd [(fld, v)]) → E (.ref (He.ga K x)) (some d) H2
theorem Air.ex {K : Kf} {H H1 : Hp} {E : XK} {x fld : Str} {v : V} (a : Air K H E x fld v) (e : Ex H H1) : Air K H1 E x fld v := fun d H2 e2 h => a d H2 (e.trans e2) h
theorem Air.go {K : Kf} {H : Hp} {E : XK} {x fld : Str} {v : V} (a : Air K H E x fld v) {d : Addr} (hd : H d = none) : E (.ref (He.ga K x)) (some d) (upd H d (.xd [(fld, v)])) := a d _ (Ex.new hd) upd_same
section
variable {w : World} {K : Kf} {mg : Str → Option Value} {base : Heap}
theorem sc_f_append_or_stall : FnScope ["draft", "key", "deeds"] ["draft", "key", "deeds"] (defScope x_f_append_or_stall) := ⟨rfl, rfl, rfl, by decide +kernel, rfl, by decide +kernel, by decide +kernel⟩
def spAoS (K : Kf) : Sp := fun vs H Q E => ∃ ad w g ts k d, vs = [.ref ad.g, .str k, .int d] ∧ LogAt K H ad w g ts ∧ 0 ≤ d ∧ d ≤ 1000 ∧ (room w g ≠ 0 → LogTo K H ad w (write w k g) fun H2 => Q .non H2) ∧ (room w g = 0 → Air K H E "Stalled" "deeds" (.int d))
theorem ok_f_aos (T : Tx K mg) : Fnc PP w K mg base (L2.CX PP w) 4 (He.ga K "_append_or_stall") ["draft", "key", "deeds"] (spAoS K) := by
  refine mkX T.d_f_append_or_stall sc_f_append_or_stall (by rintro _ H Q E ⟨ad, w, g, ts, k, d, rfl, _⟩; rfl) (by intro kV doc pm an cdv ct us h; match us, h with | [_, _, _], _ => rfl) ?_
  rintro cdv A outer s0 H _ Q E hr ⟨ad, w0, g, ts, k, d, rfl, hL, d0, d1, q1, q2⟩
  obtain ⟨D, x1, x2, x3, x4, O⟩ := sta_tx w
  refine ⟨_, (pss_cons (ps_if (pt_cmpR op_eq (pe_m0 (pv 0) T.cl T.m_l_room_left (ok_l_room T) hr pass0) pe_int (nomark _)) (pss_one (ps_raiseOwn rfl O (T.f_Stalled x1 x2 x3 x4) T.g_Stalled hr (takes_of rfl rfl rfl rfl) (pa_cons (pv 2) pa_nil))) pss_nil)
    (pss_one (ps_expr (pe_m (pv 0) T.cl T.m_l_append_key (ok_l_app T) hr pass0 (pa_cons (pv 1) pa_nil))))), ?_⟩
  refine q_when (et_B (ev_op (ev_meth (ev_var rfl) hL.obj rfl ea_nil (spv_room hL)) ev_c (rv_eq rfl))) ?_ ?_
  · intro hb H1 e1
    have hz : room w0 g = 0 := by
      have z := of_decide_eq_true hb
      injection z with z
    exact ⟨_, rfl, _, rfl, okI_small d0 d1, fun dd hd => ((q2 hz).ex e1).go hd⟩
  · intro hb H1 e1
    have hz : room w0 g ≠ 0 := fun z => by
      have y := of_decide_eq_false hb
      rw [z] at y
      exact y rfl
    have hL1 := hL.ex e1
    refine r_drop ⟨_, rfl, ad.g, ad.dx, _, rfl, hL1.obj, rfl, ?_⟩
    refine ea_cons (ev_var rfl) ea_nil H1 (Ex.refl _) _ fun H2 e2 => ?_
    exact ⟨ad, w0, g, ts, k, rfl, hL1.ex e2, hz, (q1 hz).ex (e1.trans e2)⟩
end
end CLg
end

section
/-! The store: put. -/
namespace CLg
open PySem PySem.Spec PyProof.Rows L2 Evl
theorem r_raise {C : Addr} {fld : Str} {okV : Value → Prop} {W : WX} {ta : TA} {D : Ends} {σ : L2.St} {H : Hp} (h : ta σ H fun vs H1 => ∃ v, vs = [v] ∧ (∀ u, RelV v u → okV u) ∧ ∀ d, H1 d = none → W (.ref C) (some d) σ (upd H1 d (.xd [(fld, v)]))) : tRaiseOwn C fld okV W ta D σ H := h
theorem r_fldaug {K : Kf} {ta tv : TE} {rd : V → V → Hp → VK → Prop} {f : Str} {D : Ends} {σ : L2.St} {H : Hp} (h : ta σ H fun x H1 => ∃ a C dx fs v, x = .ref a ∧ H1 a = some (.ins C dx fs) ∧ Cls K C ∧ NoAttr K C f ∧ fs.lookup f = some v ∧
  tv σ H1 fun y H2 => rd v y H2 fun z H3 => ∃ dx' fs', H3 a = some (.ins C dx' fs') ∧ fs'.length < 1000 ∧ D.nx σ (upd H3 a (.ins C dx' (putF f z fs')))) : sFldAug K ta tv rd f D σ H := h
noncomputable def putGo (w : Nat) (first : Bool) (k : Str) (picks : List Nat) (g : Lg) : Out := match pre w first k g with
  | none => .stall
  | some g1 => match moves w picks g1 with
    | .inl p => .pick p
    | .inr g2 => fin w first k g2
theorem putOut_go {w : Nat} {bound : Int} {load : Nat} {first : Bool} {k : Str} {picks : List Nat} {g : Lg} (h1 : ¬ (find k g = none ∧ bound ≤ (total g : Int))) (h2 : ¬ load < picks.length) : putOut w bound load first k picks g = putGo w first k picks g := by
  unfold putOut putGo
  rw [if_neg h1, if_neg h2]
  all_goals rfl
/-- a draft: new as seen from H -/
structure Dr (H H' : Hp) (ad : Ad) : Prop where
  ex : Ex H H'
  own : ∀ b ∈ ad.own, H b = none
theorem Dr.step {H H1 H2 : Hp} {a1 a2 : Ad} (d : Dr H H1 a1) (s : Stp a1.own H1 a2.own H2) : Dr H H2 a2 :=
  ⟨fun b u e => s.ch.at (d.ex b u e) fun m => (by rw [d.own b m] at e; cases e), fun b m => (s.own b m).elim (d.own b) fun z => (d.ex.ch []).free z⟩
theorem Dr.up {H H1 H2 : Hp} {a1 : Ad} (d : Dr H H1 a1) (e : Ex H1 H2) : Dr H H2 a1 := ⟨d.ex.trans e, d.own⟩
def OldV (H : Hp) (o : V) : Option (Nat × Nat) → Prop
  | none => o = .non
  | some (s, j) => ∃ t, o = .ref t ∧ H t = some (.tup [.int (s : Int), .int (j : Int)])
theorem OldV.step {H H1 : Hp} {o : V} {ow : List Addr} {f : Option (Nat × Nat)} (h : OldV H o f) (c : Ch ow H H1) : OldV H1 o f := by
  cases f with
  | none => exact h
  | some q => obtain ⟨t, e, ht⟩ := h; exact ⟨t, e, c.tup ht⟩
theorem OldV.isN {H : Hp} {o : V} {f : Option (Nat × Nat)} (h : OldV H o f) : decide (o = .non) = f.isNone := by
  cases f with
  | none => rw [show o = .non from h]; rfl
  | some q => obtain ⟨t, e, ht⟩ := h; rw [e]; rfl
theorem valV_mem {kvs : List (Key × V)} {k : Key} : (valV kvs k).isSome = true ↔ k ∈ kvs.map (·.1) := by
  constructor
  · intro h
    cases e : valV kvs k with
    | none => rw [e] at h; cases h
    | some v => exact valV_in e
  · intro h
    cases e : valV kvs k with
    | none => exact absurd h (valV_not e)
    | some v => rfl
open Classical in
theorem putK_keys {kvs : List (Key × V)} {k : Key} {v : V} : (putK kvs k v).map (·.1) = if k ∈ kvs.map (·.1) then kvs.map (·.1) else kvs.map (·.1) ++ [k] := by
  by_cases h : k ∈ kvs.map (·.1)
  · rw [if_pos h]
    unfold putK
    rw [valV_any, if_pos (valV_mem.2 h), List.map_map]
    apply List.map_congr_left
    intro x _
    simp only [Function.comp]
    split
    · next e => rw [e]
    · rfl
  · rw [if_neg h, putK_new v (by
      cases e : valV kvs k with
      | none => rfl
      | some x => exact absurd (valV_in e) h), List.map_append]
    rfl
section
variable {K : Kf} {σ : L2.St} {H : Hp} {ta td : TE} {a : Addr} {kvs : List (Key × V)} {z : Str}
theorem ev_dnotin (hk : Ev ta σ H (.str z)) (hd : Ev td σ H (.ref a)) (ho : H a = some (.dK kvs)) : Ev (tDNotIn ta td) σ H (.bl (!(valV kvs (Sum.inr z)).isSome)) := fun H1 e Q q =>
  hk H1 e _ fun H2 e2 => hd H2 (e.trans e2) _ fun H3 e3 => ⟨a, valV kvs (Sum.inr z), rfl, DGet.k (k := Sum.inr z) (((e.trans e2).trans e3) a _ ho), q H3 (e2.trans e3)⟩
theorem ev_lenD (hd : Ev td σ H (.ref a)) (ho : H a = some (.dK kvs)) : Ev (tCB (fun xs H Q => ∃ a kvs, xs = [V.ref a] ∧ H a = some (.dK kvs) ∧ Q (.int kvs.length) H) (tCons td tNil)) σ H (.int (kvs.length : Int)) := fun H1 e Q q =>
  hd H1 e _ fun H2 e2 => ⟨a, kvs, rfl, (e.trans e2) a _ ho, q H2 e2⟩
theorem ev_lenT {p : Addr} {xs : List V} (ha : Ev ta σ H (.ref p)) (h : SqT K H p xs) : Ev (tCB (rLenS K) (tCons ta tNil)) σ H (.int (xs.length : Int)) := fun H1 e Q q =>
  ha H1 e _ fun H2 e2 => ⟨p, xs, rfl, Or.inr (ex_t (e.trans e2) h), q H2 e2⟩
end
section
variable {w : World} {K : Kf} {mg : Str → Option Value} {base : Heap}
theorem StAt.find {K : Kf} {H : Hp} {s : Sd} {t : Tm} {c : Ct} {g : Lg} {ts : List Nat} {kvs : List (Key × V)} (h : StAt K H s t c g ts kvs) (k : Str) : (valV kvs (Sum.inr k)).isSome = (find k g).isSome := by
  rw [Bool.eq_iff_iff, valV_mem, h.kp.mem_iff]
  have e : (Sum.inr k : Key) ∈ (keys g).map Sum.inr ↔ k ∈ keys g := by simp
  rw [e]
  cases f : CLg.find k g with
  | none => simp [find_none.1 f]
  | some q =>
    have : k ∈ keys g := by
      by_cases z : k ∈ keys g
      · exact z
      · rw [find_none.2 z] at f; cases f
    simp [this]
theorem StAt.klen {K : Kf} {H : Hp} {s : Sd} {t : Tm} {c : Ct} {g : Lg} {ts : List Nat} {kvs : List (Key × V)} (h : StAt K H s t c g ts kvs) : kvs.length = total g := by
  have := h.kp.length_eq
  rw [List.length_map, List.length_map] at this
  rw [total_eq, this]
def PutTo (K : Kf) (H : Hp) (s : Sd) (t : Tm) (c : Ct) (g : Lg) (k : Str) (picks : List Nat) (Q : VK) (E : XK) : Prop :=
  match putOut t.wide t.bound t.load t.first k picks g with
  | .ok g' => ∀ H2 s2 ts2 kvs2, StAt K H2 s2 t ⟨c.deeds + 1, c.moved + picks.length, picks.length⟩ g' ts2 kvs2 → s2.S = s.S → Stp s.own H s2.own H2 → Q .non H2
  | .full => Air K H E "KeyLimit" "most" (.int t.bound)
  | .many => Air K H E "BadChoice" "choice" (.int (picks.length : Int))
  | .pick p => Air K H E "BadChoice" "choice" (.int (p : Int))
  | .stall => Air K H E "Stalled" "deeds" (.int (c.deeds : Int))
theorem spv_good {H : Hp} {k : Str} (h : GoodK k) : SpV spGood [.str k] H .non := fun H1 e Q q E => ⟨k, rfl, h, q⟩
def spPut (K : Kf) : Sp := fun vs H Q E => ∃ s t c g ts kvs k x p picks, vs = [.ref s.S, .str k, x, .ref p] ∧ StAt K H s t c g ts kvs ∧ H p = some (.tup (vns picks)) ∧ GoodK k ∧ (1 ≤ t.bound ∧ t.bound ≤ 1000) ∧ c.deeds ≤ 1000 ∧ PutTo K H s t c g k picks Q E
theorem sc_s_put : FnScope ["self", "key", "value", "sources", "draft", "old", "segment", "place", "source"] ["self", "key", "value", "sources"] (defScope x_s_put) := ⟨rfl, rfl, rfl, by decide +kernel, rfl, by decide +kernel, by decide +kernel⟩
theorem put_body (T : Tx K mg) (cdv : Value) (A : Around) (outer : List Env) (s0 : Shared) (H : Hp) (vs : List V) (Q : VK) (E : XK) (hr : Room 5 (A.deeper (envOfC "Segments.put" (defScope x_s_put) s0.heap.objs.size (mS K "put") cdv))) (h : spPut K vs H Q E) :
    ∃ t, PSs (cxOf (L2.CX PP w) PP w K mg base ["self", "key", "value", "sources", "draft", "old", "segment", "place", "source"] "Segments.put" (defScope x_s_put) (mS K "put") cdv A outer s0 H E) (defBody x_s_put) t ∧ t { nx := fun _ H' => Q .non H', rt := Q } (start ["self", "key", "value", "sources", "draft", "old", "segment", "place", "source"] vs) H := by
  obtain ⟨s, t, c, g, ts, kvs, k, x, p, picks, rfl, hS, hp, hk, hb, hd, q⟩ := h
  have nd := sc_s_put.nd
  have hu := hu_of hr
  obtain ⟨D1, x1, x2, x3, x4, O1⟩ := lim_tx w
  obtain ⟨D2, y1, y2, y3, y4, O2⟩ := bad_tx w
  refine ⟨_, (pss_cons (ps_expr (pe_f (ok_f_good_key T) T.g_good_key (hr.mono (by decide)) pass0 (pa_cons (pv 1) pa_nil)))
    (pss_cons (ps_if (PW.pt (pw_and (pt_cmp (pc_dnotin hu (pv 1) (pe_fld (pv 0) rfl))) (pw_and1 (pt_cmpR op_ge (pe_callB call_lenD (by rfl) T.b_len PySem.boot_len (pa_cons (pe_fld (pv 0) rfl) pa_nil)) (pe_fld (pv 0) rfl) (nomark _))))) (pss_one (ps_raiseOwn rfl O1 (T.f_KeyLimit x1 x2 x3 x4) T.g_KeyLimit hr (takes_of rfl rfl rfl rfl) (pa_cons (pe_fld (pv 0) rfl) pa_nil))) pss_nil)
    (pss_cons (ps_if (pt_cmpR op_gt (pe_callB call_len_seq (by rfl) T.b_len PySem.boot_len (pa_cons (pv 3) pa_nil)) (pe_fld (pv 0) rfl) (nomark _)) (pss_one (ps_raiseOwn rfl O2 (T.f_BadChoice y1 y2 y3 y4) T.g_BadChoice hr (takes_of rfl rfl rfl rfl) (pa_cons (pe_callB call_len_seq (by rfl) T.b_len PySem.boot_len (pa_cons (pv 3) pa_nil)) pa_nil))) pss_nil)
    (pss_cons (ps_set (i := 4) nd rfl (by first | exact Or.inl rfl | exact Or.inr rfl) (pe_m0 (pe_fld (pv 0) rfl) T.cl T.m_l_copied (ok_l_copied T) (hr.mono (by decide)) pass0))
    (pss_cut (ps_set (i := 5) nd rfl (by first | exact Or.inl rfl | exact Or.inr rfl) (pe_m (pv 4) T.cl T.m_l_spot_of (ok_l_spot T) (hr.mono (by decide)) pass0 (pa_cons (pv 1) pa_nil)))
    (pss_cut (ps_if (pt_val (pe_fld (pv 0) rfl)) (pss_one (ps_expr (pe_f (ok_f_aos T) T.g_append_or_stall (hr.mono (by decide)) (passes_call (takes_of rfl rfl rfl rfl) fun _ _ _ _ h => h) (pa_cons (pv 4) (pa_cons (pv 1) (pa_cons (pe_fld (pv 0) rfl) pa_nil)))))) pss_nil)
    (pss_cut (ps_if (pt_cmpR op_notN (pv 5) pe_non (nomark _)) (pss_cons (ps_asg (pv 5) (pg_tup rfl (pgs_cons (pg_name (i := 6) nd rfl (by first | exact Or.inl rfl | exact Or.inr rfl)) (pgs_cons (pg_name (i := 7) nd rfl (by first | exact Or.inl rfl | exact Or.inr rfl)) pgs_nil))))
      (pss_one (ps_expr (pe_m (pv 4) T.cl T.m_l_kill_at (ok_l_kill T) (hr.mono (by decide)) pass0 (pa_cons (pv 6) (pa_cons (pv 7) pa_nil)))))) pss_nil)
    (pss_cut (ps_for (passes_of rfl) rfl (pi_tup (pv 3)) (pg_name (i := 8) nd rfl (by first | exact Or.inl rfl | exact Or.inr rfl))
      (pss_cons (ps_if (pt_not (pt_val (pe_m (pv 4) T.cl T.m_l_can_carry (ok_l_can T) (hr.mono (by decide)) pass0 (pa_cons (pv 8) pa_nil)))) (pss_one (ps_raiseOwn rfl O2 (T.f_BadChoice y1 y2 y3 y4) T.g_BadChoice hr (takes_of rfl rfl rfl rfl) (pa_cons (pv 8) pa_nil))) pss_nil)
      (pss_one (ps_expr (pe_m (pv 4) T.cl T.m_l_carry_from (ok_l_carry T) (hr.mono (by decide)) pass0 (pa_cons (pv 8) pa_nil))))))
    (pss_cut (ps_if (pt_not (pt_val (pe_fld (pv 0) rfl))) (pss_one (ps_expr (pe_f (ok_f_aos T) T.g_append_or_stall (hr.mono (by decide)) (passes_call (takes_of rfl rfl rfl rfl) fun _ _ _ _ h => h) (pa_cons (pv 4) (pa_cons (pv 1) (pa_cons (pe_fld (pv 0) rfl) pa_nil)))))) pss_nil)
    (pss_cons (ps_fld (pv 0) (pv 4) rfl)
    (pss_cons (ps_dput hu (pe_fld (pv 0) rfl) (pv 1) (pv 2) rfl)
    (pss_cons (ps_fldaug (pv 0) pe_int in_add)
    (pss_cons (ps_fldaug (pv 0) (pe_callB call_len_seq (by rfl) T.b_len PySem.boot_len (pa_cons (pv 3) pa_nil)) in_add)
    (pss_one (ps_fld (pv 0) (pe_callB call_len_seq (by rfl) T.b_len PySem.boot_len (pa_cons (pv 3) pa_nil)) rfl))))))))))))))), ?_⟩
  refine q_drop (ev_call (ea_cons (ev_var rfl) ea_nil) (spv_good hk)) fun H1 e1 => ?_
  have hS1 := hS.ex e1
  have hf := hS.find k
  have hl := hS.klen
  refine q_when (et_and (et_B (ev_dnotin (ev_var rfl) (ev_fld (ev_var rfl) hS1.obj T.cs T.ns_values rfl) hS1.vs)) fun _ => et_B (ev_op (ev_lenD (ev_fld (ev_var rfl) hS1.obj T.cs T.ns_values rfl) hS1.vs) (ev_fld (ev_var rfl) hS1.obj T.cs T.ns_limit rfl) rv_I0)) ?_ ?_
  · intro hc H2 e2
    rw [hf, hl] at hc
    simp only [Bool.and_eq_true, Bool.not_eq_true', Option.isSome_eq_false_iff, Option.isNone_iff_eq_none, decide_eq_true_eq] at hc
    have ho : putOut t.wide t.bound t.load t.first k picks g = .full := by unfold putOut; rw [if_pos ⟨hc.1, hc.2⟩]
    unfold PutTo at q
    rw [ho] at q
    have hS2 := hS1.ex e2
    refine r_raise (ea_cons (ev_fld (ev_var rfl) hS2.obj T.cs T.ns_limit rfl) ea_nil H2 (Ex.refl _) _ fun H3 e3 => ?_)
    exact ⟨_, rfl, okI_small (by omega) hb.2, fun dd hd => (Air.ex q ((e1.trans e2).trans e3)).go hd⟩
  intro hc H2 e2
  rw [hf, hl] at hc
  have hc1 : ¬ (find k g = none ∧ t.bound ≤ (total g : Int)) := by
    rintro ⟨z1, z2⟩
    rw [z1, decide_eq_true z2] at hc
    exact Bool.noConfusion hc
  have e02 := e1.trans e2
  have hS2 := hS.ex e02
  refine q_when (et_B (ev_op (ev_lenT (ev_var rfl) (SqT.of (e02 _ _ hp))) (ev_fld (ev_var rfl) hS2.obj T.cs T.ns_budget rfl) rv_I0)) ?_ ?_
  · intro hc2 H3 e3
    have hc2 := of_decide_eq_true hc2
    rw [vns_len] at hc2
    have ho : putOut t.wide t.bound t.load t.first k picks g = .many := by unfold putOut; rw [if_neg hc1, if_pos (by omega)]
    unfold PutTo at q
    rw [ho] at q
    refine r_raise (ea_cons (ev_lenT (ev_var rfl) (SqT.of ((e02.trans e3) _ _ hp))) ea_nil H3 (Ex.refl _) _ fun H4 e4 => ?_)
    rw [vns_len]
    exact ⟨_, rfl, fun _ _ => trivial, fun dd hd => (Air.ex q ((e02.trans e3).trans e4)).go hd⟩
  intro hc2 H3 e3
  have hc2 := of_decide_eq_false hc2
  rw [vns_len] at hc2
  have hc3 : ¬ t.load < picks.length := by omega
  unfold PutTo at q
  rw [putOut_go hc1 hc3] at q
  have e03 := e02.trans e3
  have hS3 := hS.ex e03
  refine r_seq (r_asg (ev_fld (ev_var rfl) hS3.obj T.cs T.ns_log rfl H3 (Ex.refl _) _ fun H4 e4 => ⟨_, s.ad.dx, _, rfl, e4 _ _ hS3.log.obj, rfl, s.ad, t.wide, g, ts, rfl, hS3.log.ex e4, fun H5 ad5 hN e5 fr => r_name ?_⟩))
  have e05 : Ex H H5 := (e03.trans e4).trans e5
  have dr5 : Dr H H5 ad5 := ⟨e05, fun b m => (((e03.trans e4)).ch []).free (fr b m)⟩
  refine q_cut (M := fun σ' H' => ∃ ad2 o, σ' = [some (.ref s.S), some (.str k), some x, some (.ref p), some (.ref ad2.g), some o, none, none, none] ∧ LogAt K H' ad2 t.wide g ts ∧ Dr H H' ad2 ∧ OldV H' o (find k g)) ?_ ?_
  · refine r_asg ⟨_, rfl, ad5.g, ad5.dx, _, rfl, hN.obj, rfl, ?_⟩
    refine ea_cons (ev_var rfl) ea_nil H5 (Ex.refl _) _ fun H6 e6 => ?_
    refine ⟨ad5, t.wide, g, ts, k, rfl, hN.ex e6, ?_⟩
    cases hfd : find k g with
    | none => exact fun H7 e7 => ⟨ad5, _, rfl, hN.ex (e6.trans e7), dr5.up (e6.trans e7), by rw [show OldV H7 .non none = (V.non = V.non) from rfl]⟩
    | some sj =>
      obtain ⟨a, b⟩ := sj
      exact fun r H7 hr e7 h7 => ⟨ad5, _, rfl, hN.ex (e6.trans e7), dr5.up (e6.trans e7), r, rfl, h7⟩
  clear dr5 hN
  rintro σ6 H6 ⟨ad6, o, rfl, hN6, dr6, hold6⟩
  have hS6 := hS.ex dr6.ex
  have hdn : (0 : Int) ≤ (c.deeds : Int) ∧ (c.deeds : Int) ≤ 1000 := ⟨by omega, by omega⟩
  have stall_of : ∀ {H' : Hp}, Ex H H' → putGo t.wide t.first k picks g = .stall → Air K H' E "Stalled" "deeds" (.int (c.deeds : Int)) := fun e z => by
    rw [z] at q
    exact Air.ex q e
  refine q_cut (M := fun σ' H' => ∃ ad2 ts2, σ' = [some (.ref s.S), some (.str k), some x, some (.ref p), some (.ref ad2.g), some o, none, none, none] ∧ ¬ (t.first = true ∧ room t.wide g = 0) ∧ LogAt K H' ad2 t.wide (if t.first = true then write t.wide k g else g) ts2 ∧ Dr H H' ad2 ∧ OldV H' o (find k g)) ?_ ?_
  · refine s_when (et_B (ev_fld (ev_var rfl) hS6.obj T.cs T.ns_late rfl)) ?_ ?_
    · intro ht H7 e7
      have hS7 := hS6.ex e7
      refine r_drop (ea_cons (ev_var rfl) (ea_cons (ev_var rfl) (ea_cons (ev_fld (ev_var rfl) hS7.obj T.cs T.ns_done rfl) ea_nil)) H7 (Ex.refl _) _ fun H8 e8 => ?_)
      have e68 := e7.trans e8
      refine ⟨ad6, t.wide, g, ts, k, _, rfl, hN6.ex e68, hdn.1, hdn.2, fun hz H9 ad9 ts9 hN9 eg st => ?_, fun hz => ?_⟩
      · refine ⟨ad9, ts9, by rw [eg], fun z => hz z.2, by rw [if_pos ht]; exact hN9, (dr6.up e68).step st, (hold6.step (e68.ch [])).step st.ch⟩
      · refine stall_of (dr6.ex.trans e68) ?_
        unfold putGo pre
        rw [if_pos ⟨ht, hz⟩]
    · intro ht H7 e7
      have ht' : ¬ t.first = true := fun z => by rw [z] at ht; cases ht
      exact ⟨ad6, ts, rfl, fun z => ht' z.1, by rw [if_neg ht']; exact hN6.ex e7, dr6.up e7, hold6.step (e7.ch [])⟩
  clear hN6 hold6 dr6 hS6
  rintro σ7 H7 ⟨ad7, ts7, rfl, hnb, hN7, dr7, hold7⟩
  have hpre : pre t.wide t.first k g = some (killOld k g (if t.first = true then write t.wide k g else g)) := by unfold pre; rw [if_neg hnb]
  have hat : ∀ {a b : Nat}, find k g = some (a, b) → ((if t.first = true then write t.wide k g else g).row a)[b]? = some (some k) := fun z => by
    split
    · next ht => exact at_write hS.log.ok (fun y => hnb ⟨ht, y⟩) (find_at z)
    · exact find_at z
  refine q_cut (M := fun σ' H' => ∃ ad2 ts2 u1 u2, σ' = [some (.ref s.S), some (.str k), some x, some (.ref p), some (.ref ad2.g), some o, u1, u2, none] ∧ LogAt K H' ad2 t.wide (killOld k g (if t.first = true then write t.wide k g else g)) ts2 ∧ Dr H H' ad2) ?_ ?_
  · refine s_when (et_B (ev_op (ev_var rfl) ev_c rv_notN)) ?_ ?_
    · intro hne H8 e8
      rw [hold7.isN] at hne
      cases hfd : find k g with
      | none => rw [hfd] at hne; cases hne
      | some sj =>
        obtain ⟨a, b⟩ := sj
        rw [hfd] at hold7
        obtain ⟨r, rfl, hr7⟩ := hold7
        have hN8 := hN7.ex e8
        refine r_seq (r_asg ⟨_, rfl, r, _, rfl, SqT.of (e8 _ _ hr7), rfl, _, _, rfl, _, _, rfl, rfl, ?_⟩)
        dsimp only
        refine r_drop ⟨_, rfl, ad7.g, ad7.dx, _, rfl, hN8.obj, rfl, ?_⟩
        refine ea_cons (ev_var rfl) (ea_cons (ev_var rfl) ea_nil) H8 (Ex.refl _) _ fun H9 e9 => ?_
        refine ⟨ad7, t.wide, _, ts7, a, b, _, rfl, hN8.ex e9, hat hfd, fun H10 ad10 ts10 hN10 eg st => ?_⟩
        refine ⟨ad10, ts10, _, _, by rw [eg]; rfl, ?_, (dr7.up (e8.trans e9)).step st⟩
        unfold killOld
        rw [hfd]
        exact hN10
    · intro hne H8 e8
      rw [hold7.isN] at hne
      have hfd : find k g = none := by
        cases z : find k g with
        | none => rfl
        | some _ => rw [z] at hne; cases hne
      refine ⟨ad7, ts7, _, _, rfl, ?_, dr7.up e8⟩
      unfold killOld
      rw [hfd]
      exact hN7.ex e8
  clear hN7 hold7 dr7 hat
  rintro σ8 H8 ⟨ad8, ts8, u1, u2, rfl, hN8, dr8⟩
  have pick_of : ∀ {H' : Hp} {b : Nat}, Ex H H' → putGo t.wide t.first k picks g = .pick b → Air K H' E "BadChoice" "choice" (.int (b : Int)) := fun e z => by
    rw [z] at q
    exact Air.ex q e
  generalize hg1 : killOld k g (if t.first = true then write t.wide k g else g) = g1 at hN8 hpre
  refine q_cut (M := fun σ' H' => ∃ ad2 ts2 u1 u2 u3 g2, σ' = [some (.ref s.S), some (.str k), some x, some (.ref p), some (.ref ad2.g), some o, u1, u2, u3] ∧ moves t.wide picks g1 = .inr g2 ∧ LogAt K H' ad2 t.wide g2 ts2 ∧ Dr H H' ad2) ?_ ?_
  · refine ⟨_, rfl, p, rfl, ⟨_, SqT.of (dr8.ex _ _ hp)⟩, for_it (walk_tup (K := K) (a := p) (xs := vns picks)) (fun i σ' H' => ∃ ad2 ts2 u1 u2 u3 g2, σ' = [some (.ref s.S), some (.str k), some x, some (.ref p), some (.ref ad2.g), some o, u1, u2, u3] ∧ moves t.wide picks g1 = moves t.wide (picks.drop i) g2 ∧ LogAt K H' ad2 t.wide g2 ts2 ∧ Dr H H' ad2)
      ⟨ad8, ts8, _, _, _, g1, rfl, by simp, hN8, dr8⟩ (fun i σ' H' _ ⟨_, _, _, _, _, _, _, _, _, d⟩ => SqT.of (d.ex _ _ hp)) ?_ ?_⟩
    · rintro i y σ' H9 H10 hi ⟨ad9, ts9, v1, v2, v3, g2, rfl, hm, hN9, dr9⟩ ⟨rfl, hy⟩
      obtain ⟨b, hb2, rfl⟩ := vns_inv hy
      rw [moves_drop hb2] at hm
      refine r_name ?_
      refine q_when (et_not (et_B (ev_meth (ev_var rfl) hN9.obj rfl (ea_cons (ev_var rfl) ea_nil) (spv_can hN9)))) ?_ ?_
      · intro hc4 H11 e11
        have hc5 : ¬ (b ∈ shut g2 ∧ room t.wide g2 ≠ 0) := fun z => by rw [decide_eq_true z] at hc4; cases hc4
        rw [if_neg hc5] at hm
        refine r_raise (ea_cons (ev_var rfl) ea_nil H11 (Ex.refl _) _ fun H12 e12 => ?_)
        refine ⟨_, rfl, fun _ _ => trivial, fun dd hd => (pick_of ((dr9.ex.trans e11).trans e12) ?_).go hd⟩
        unfold putGo
        rw [hpre]
        simp only
        rw [hm]
      · intro hc4 H11 e11
        have hc5 : b ∈ shut g2 ∧ room t.wide g2 ≠ 0 := by
          by_cases z : b ∈ shut g2 ∧ room t.wide g2 ≠ 0
          · exact z
          · rw [decide_eq_false z] at hc4; cases hc4
        rw [if_pos hc5] at hm
        have hN11 := hN9.ex e11
        refine r_drop ⟨_, rfl, ad9.g, ad9.dx, _, rfl, hN11.obj, rfl, ?_⟩
        refine ea_cons (ev_var rfl) ea_nil H11 (Ex.refl _) _ fun H12 e12 => ?_
        refine ⟨ad9, t.wide, g2, ts9, b, rfl, hN11.ex e12, hc5.1, hc5.2, fun H13 ad13 ts13 hN13 eg st => ?_⟩
        exact ⟨ad13, ts13, _, _, _, _, by rw [eg]; rfl, hm, hN13, (dr9.up (e11.trans e12)).step st⟩
    · rintro σ' H9 ⟨ad9, ts9, v1, v2, v3, g2, rfl, hm, hN9, dr9⟩
      rw [vns_len, List.drop_length] at hm
      exact ⟨ad9, ts9, v1, v2, v3, g2, rfl, hm, hN9, dr9⟩
  clear hN8 dr8
  rintro σ9 H9 ⟨ad9, ts9, v1, v2, v3, g2, rfl, hm, hN9, dr9⟩
  have hgo : putGo t.wide t.first k picks g = fin t.wide t.first k g2 := by
    unfold putGo
    rw [hpre]
    simp only
    rw [hm]
  have hS9 := hS.ex dr9.ex
  refine q_cut (M := fun σ' H' => ∃ ad2 ts2 u1 u2 u3 g3, σ' = [some (.ref s.S), some (.str k), some x, some (.ref p), some (.ref ad2.g), some o, u1, u2, u3] ∧ putGo t.wide t.first k picks g = .ok g3 ∧ LogAt K H' ad2 t.wide g3 ts2 ∧ Dr H H' ad2) ?_ ?_
  · refine s_when (et_not (et_B (ev_fld (ev_var rfl) hS9.obj T.cs T.ns_late rfl))) ?_ ?_
    · intro ht H10 e10
      have ht' : ¬ t.first = true := fun z => by rw [z] at ht; cases ht
      have hS10 := hS9.ex e10
      refine r_drop (ea_cons (ev_var rfl) (ea_cons (ev_var rfl) (ea_cons (ev_fld (ev_var rfl) hS10.obj T.cs T.ns_done rfl) ea_nil)) H10 (Ex.refl _) _ fun H11 e11 => ?_)
      have e911 := e10.trans e11
      refine ⟨ad9, t.wide, g2, ts9, k, _, rfl, hN9.ex e911, hdn.1, hdn.2, fun hz H12 ad12 ts12 hN12 eg st => ?_, fun hz => ?_⟩
      · refine ⟨ad12, ts12, _, _, _, _, by rw [eg], ?_, hN12, (dr9.up e911).step st⟩
        rw [hgo]
        unfold fin
        rw [if_neg ht', if_neg hz]
      · refine stall_of (dr9.ex.trans e911) ?_
        rw [hgo]
        unfold fin
        rw [if_neg ht', if_pos hz]
    · intro ht H10 e10
      have ht' : t.first = true := by cases z : t.first with
        | true => rfl
        | false => rw [z] at ht; cases ht
      refine ⟨ad9, ts9, _, _, _, g2, rfl, ?_, hN9.ex e10, dr9.up e10⟩
      rw [hgo]
      unfold fin
      rw [if_pos ht']
  clear hN9 dr9 hS9
  rintro σ10 H10 ⟨ad10, ts10, v1, v2, v3, g3, rfl, hok, hN10, dr10⟩
  rw [hok] at q
  have hput : putOut t.wide t.bound t.load t.first k picks g = .ok g3 := by rw [putOut_go hc1 hc3, hok]
  have hS10 := hS.ex dr10.ex
  have nS : s.S ∉ ad10.own := fun m => hS.tr s.S (by simp [Sd.own]) (dr10.own _ m)
  have nV : s.V ∉ ad10.own := fun m => hS.tr s.V (by simp [Sd.own]) (dr10.own _ m)
  have hSV : s.S ≠ s.V := by
    have z := (List.nodup_append.1 hS.nd).1
    simpa using z
  -- the commit
  refine r_seq (r_setfld ⟨_, rfl, _, rfl, r_setfldK hS10.obj T.cs T.ns_log (by decide : (10 : Nat) < 1000) (fs' := sfs { s with ad := ad10 } g.rows.length t c) rfl fun H11 h11 c11 => ?_⟩)
  have v11 : H11 s.V = some (.dK kvs) := c11.at hS10.vs (by simp [hSV.symm])
  dsimp only
  refine r_seq (r_dput ⟨_, rfl, ev_fld (ev_var rfl) h11 T.cs T.ns_values rfl H11 (Ex.refl _) _ fun H12 e12 => ⟨_, rfl, r_dputK (e12 _ _ v11) (small_lt ?_) rfl fun H13 h13 c13 => ?_⟩⟩)
  · have := hS.klen
    have h64 := keys_len hS.log.ok
    rw [← total_eq, ← this] at h64
    omega
  have h13S : H13 s.S = some (.ins (cS K) s.dx (sfs { s with ad := ad10 } g.rows.length t c)) := c13.at (e12 _ _ h11) (by simp [hSV])
  dsimp only
  have fin1 : ∀ H14, H14 = upd H13 s.S (.ins (cS K) s.dx (sfs { s with ad := ad10 } g.rows.length t ⟨c.deeds + 1, c.moved, c.waits⟩)) → Ch [s.S] H13 H14 ∧ H14 s.S = some (.ins (cS K) s.dx (sfs { s with ad := ad10 } g.rows.length t ⟨c.deeds + 1, c.moved, c.waits⟩)) := fun H14 e => by
    subst e
    exact ⟨Ch.updI h13S _ (by simp), upd_same⟩
  refine r_seq (r_fldaug ⟨_, rfl, s.S, cS K, s.dx, _, .int (c.deeds : Int), rfl, h13S, T.cs, T.ns_done, rfl, _, _, rfl, rfl, s.dx, _, h13S, (by decide : (10 : Nat) < 1000), ?_⟩)
  dsimp only
  obtain ⟨c14, h14⟩ := fin1 _ rfl
  clear fin1
  refine r_seq (r_fldaug ?_)
  have hp10 : H10 p = some (.tup (vns picks)) := dr10.ex _ _ hp
  have hp13 : H13 p = some (.tup (vns picks)) := c13.tup (e12 _ _ (c11.tup hp10))
  have hp14 := c14.tup hp13
  refine ⟨_, rfl, s.S, cS K, s.dx, _, .int (c.moved : Int), rfl, h14, T.cs, T.ns_carried, rfl, ev_lenT (ev_var rfl) (SqT.of hp14) _ (Ex.refl _) _ fun H15 e15 => ⟨_, _, rfl, rfl, s.dx, _, e15 _ _ h14, (by decide : (10 : Nat) < 1000), ?_⟩⟩
  rw [vns_len]
  have fin2 : ∀ H16, H16 = upd H15 s.S (.ins (cS K) s.dx (sfs { s with ad := ad10 } g.rows.length t ⟨c.deeds + 1, c.moved + picks.length, c.waits⟩)) → Ch [s.S] H15 H16 ∧ H16 s.S = some (.ins (cS K) s.dx (sfs { s with ad := ad10 } g.rows.length t ⟨c.deeds + 1, c.moved + picks.length, c.waits⟩)) := fun H16 e => by
    subst e
    exact ⟨Ch.updI (e15 _ _ h14) _ (by simp), upd_same⟩
  obtain ⟨c16, h16⟩ := fin2 _ rfl
  clear fin2
  dsimp only
  have hp16 := c16.tup (e15 _ _ hp14)
  refine r_setfld (ev_lenT (ev_var rfl) (SqT.of hp16) _ (Ex.refl _) _ fun H17 e17 => ⟨_, rfl, r_setfldK (e17 _ _ h16) T.cs T.ns_last_wait (by decide : (10 : Nat) < 1000) (fs' := sfs { s with ad := ad10 } g.rows.length t ⟨c.deeds + 1, c.moved + picks.length, picks.length⟩) (by rw [vns_len]; rfl) fun H18 h18 c18 => ?_⟩)
  have cS1 : Ch [s.S] H13 H18 := ((c14.trans (e15.ch _)).trans c16).trans ((e17.ch _).trans c18)
  have cA : Ch [s.S, s.V] H10 H18 := ((c11.mono (o' := [s.S, s.V]) fun b m => .inl (by simp [List.mem_singleton.1 m])).trans ((e12.ch _).trans (c13.mono (o' := [s.S, s.V]) fun b m => .inl (by simp [List.mem_singleton.1 m])))).trans (cS1.mono (o' := [s.S, s.V]) fun b m => .inl (by simp [List.mem_singleton.1 m]))
  have dj : Dj ad10.own [s.S, s.V] := fun b m z => by
    simp only [List.mem_cons, List.not_mem_nil, or_false] at z
    rcases z with rfl | rfl
    · exact nS m
    · exact nV m
  have hN18 := hN10.step cA dj
  have pk := put_keys hS.log.ok hput
  have memk : (Sum.inr k : Key) ∈ kvs.map (·.1) ↔ k ∈ keys g := by rw [hS.kp.mem_iff]; simp
  refine q H18 { s with ad := ad10 } ts10 (putK kvs (Sum.inr k) x) ⟨?_, ?_, ?_, hN18, ?_, ?_⟩ rfl ⟨?_, fun b m => ?_⟩
  · refine List.nodup_append.2 ⟨by simpa using hSV, hN10.nd, fun y hy z hz => ?_⟩
    simp only [List.mem_cons, List.not_mem_nil, or_false] at hy
    rcases hy with rfl | rfl
    · exact fun e => nS (by rw [e]; exact hz)
    · exact fun e => nV (by rw [e]; exact hz)
  · rw [put_len hput]
    exact h18
  · exact cS1.at h13 (by simp [hSV.symm])
  · rw [putK_keys]
    by_cases mk : k ∈ keys g
    · rw [if_pos (memk.2 mk)]
      exact hS.kp.trans ((pk.2.1 mk).symm.map _)
    · rw [if_neg fun z => mk (memk.1 z)]
      exact (List.perm_append_comm.trans (List.Perm.cons _ hS.kp)).trans ((pk.2.2 mk).symm.map _)
  · rw [putK_keys]
    by_cases mk : k ∈ keys g
    · rw [if_pos (memk.2 mk)]
      exact hS.kn
    · have z : (Sum.inr k : Key) ∉ kvs.map (·.1) := fun z => mk (memk.1 z)
      rw [if_neg z]
      exact List.nodup_append.2 ⟨hS.kn, by simp, fun y hy u hu => by rw [List.mem_singleton.1 hu]; exact fun e => z (e ▸ hy)⟩
  · exact ((dr10.ex.ch [s.S, s.V]).trans cA).mono fun b m => .inl (by
      simp only [List.mem_cons, List.not_mem_nil, or_false] at m
      rcases m with rfl | rfl <;> simp [Sd.own])
  · have m : b ∈ [s.S, s.V] ++ ad10.own := m
    rcases List.mem_append.1 m with m | m
    · left
      exact List.mem_append_left _ m
    · right
      exact dr10.own b m
end
end CLg
end

section
/-! The store: put as it is called, delete, making, summary. -/
namespace CLg
open PySem PySem.Spec PyProof.Rows L2 Evl
theorem dropK_keys : ∀ {kvs : List (Key × V)} {k : Key}, (kvs.map (·.1)).Nodup → k ∈ kvs.map (·.1) → (k :: (dropK kvs k).map (·.1)).Perm (kvs.map (·.1))
  | [], k, n, m => by cases m
  | x :: r, k, n, m => by
    have n2 := List.nodup_cons.1 n
    by_cases h : x.1 = k
    · rw [dropK_pos h, dropK_no (by rw [← h]; exact n2.1), List.map_cons, h]
    · have m2 : k ∈ r.map (·.1) := (List.mem_cons.1 m).resolve_left fun z => h z.symm
      rw [dropK_neg h]
      exact (List.Perm.swap _ _ _).trans ((dropK_keys n2.2 m2).cons _)
theorem r_ddel {td ty : TE} {D : Ends} {σ : L2.St} {H : Hp} (h : td σ H fun x H1 => ty σ H1 fun y H2 => ∃ a kvs k, x = .ref a ∧ H2 a = some (.dK kvs) ∧ y = kV k ∧ (valV kvs k).isSome = true ∧ D.nx σ (upd H2 a (.dK (dropK kvs k)))) : sDDel td ty D σ H := h
theorem good_repr {k : Str} (h : GoodK k) : ∀ u, RelV (.str k) u → okS u := fun u r => by
  obtain ⟨t, rfl⟩ := r
  refine ⟨k, t, rfl, ?_⟩
  have hs : ∀ c ∈ signs.cps.toList, c < 16 ^ 8 := by decide +kernel
  have := PySem.StrLaws.reprText_len k fun c hc => hs c (h.ch c hc)
  have := h.l12
  omega
section
variable {w : World} {K : Kf} {mg : Str → Option Value} {base : Heap}
def spPutR (K : Kf) : Sp := fun vs H Q E => ∃ s t c g ts kvs k x picks, vs = .ref s.S :: .str k :: x :: vns picks ∧ StAt K H s t c g ts kvs ∧ picks.length ≤ 1000 ∧ GoodK k ∧ (1 ≤ t.bound ∧ t.bound ≤ 1000) ∧ c.deeds ≤ 1000 ∧ PutTo K H s t c g k picks Q E
theorem PutTo.ex {K : Kf} {H H1 : Hp} {s : Sd} {t : Tm} {c : Ct} {g : Lg} {k : Str} {picks : List Nat} {Q : VK} {E : XK} (q : PutTo K H s t c g k picks Q E) (e : Ex H H1) : PutTo K H1 s t c g k picks Q E := by
  unfold PutTo at q ⊢
  split
  · next g' h =>
    rw [h] at q
    exact fun H2 s2 ts2 kvs2 a b c => q H2 s2 ts2 kvs2 a b ((Stp.ex e).trans c)
  · next h => rw [h] at q; exact Air.ex q e
  · next h => rw [h] at q; exact Air.ex q e
  · next p h => rw [h] at q; exact Air.ex q e
  · next h => rw [h] at q; exact Air.ex q e
theorem ok_s_put (T : Tx K mg) : FnR PP w K mg base (L2.CX PP w) 6 (mS K "put") (spPutR K) := by
  obtain ⟨fd, F⟩ := T.d_s_put
  obtain ⟨oc, od, dV, kV, doc, pm, an, cdv, ct, osl, rfl, lk, hcd, hD, hK⟩ := F.ex
  have e : dV = .none := hD.elim And.right fun z => absurd rfl z.1
  subst e
  have F := StX.fn_star (w := w) (mg := mg) (base := base) (k := 5) (sp := spPut K) (pv := "sources") (ps := ["self", "key", "value"]) lk hcd sc_s_put StX.cxUp (by intro us rest h; match us, rest, h with | [_, _, _], [], _ => rfl | [_, _, _], _ :: _, _ => rfl) (fun A outer s H vs Q E hr h => put_body T cdv A outer s H vs Q E hr h)
  refine fun A outer s0 H us vs Q E hr e0 rv h => F A outer s0 H us vs Q E hr e0 rv ?_
  obtain ⟨s, t, c, g, ts, kvs, k, x, picks, rfl, hS, hz, hk, hb, hd, q⟩ := h
  refine ⟨[.ref s.S, .str k, x], vns picks, rfl, rfl, by rw [vns_len]; exact small_le (by omega), fun p hp => ?_⟩
  exact ⟨s, t, c, g, ts, kvs, k, x, p, picks, rfl, hS.ex (Ex.new hp), upd_same, hk, hb, hd, q.ex (Ex.new hp)⟩
theorem sc_s_delete : FnScope ["self", "key", "segment", "place"] ["self", "key"] (defScope x_s_delete) := ⟨rfl, rfl, rfl, by decide +kernel, rfl, by decide +kernel, by decide +kernel⟩
def DelTo (K : Kf) (H : Hp) (s : Sd) (t : Tm) (c : Ct) (g : Lg) (k : Str) (Q : VK) (E : XK) : Prop := match find k g with
  | none => Air K H E "UnknownKey" "key" (.str k)
  | some (a, b) => ∀ H2 s2 ts2 kvs2, StAt K H2 s2 t c (kill a b g) ts2 kvs2 → s2.S = s.S → Stp s.own H s2.own H2 → Q .non H2
def spDel (K : Kf) : Sp := fun vs H Q E => ∃ s t c g ts kvs k, vs = [.ref s.S, .str k] ∧ StAt K H s t c g ts kvs ∧ GoodK k ∧ DelTo K H s t c g k Q E
theorem ok_s_delete (T : Tx K mg) : Fnc PP w K mg base (L2.CX PP w) 3 (mS K "delete") ["self", "key"] (spDel K) := by
  refine mkX T.d_s_delete sc_s_delete (by rintro _ H Q E ⟨s, t, c, g, ts, kvs, k, rfl, _⟩; rfl) (by intro kV doc pm an cdv ct us h; match us, h with | [_, _], _ => rfl) ?_
  rintro cdv A outer s0 H _ Q E hr ⟨s, t, c, g, ts, kvs, k, rfl, hS, hk, q⟩
  have nd := sc_s_delete.nd
  have hu := hu_of hr
  obtain ⟨D1, x1, x2, x3, x4, O1⟩ := unk_tx w
  refine ⟨_, (pss_cons (ps_if (pt_cmp (pc_dnotin hu (pv 1) (pe_fld (pv 0) rfl))) (pss_one (ps_raiseOwn rfl O1 (T.f_UnknownKey x1 x2 x3 x4) T.g_UnknownKey hr (takes_of rfl rfl rfl rfl) (pa_cons (pv 1) pa_nil))) pss_nil)
    (pss_cons (ps_asg (pe_m (pe_fld (pv 0) rfl) T.cl T.m_l_spot_of (ok_l_spot T) (hr.mono (by decide)) pass0 (pa_cons (pv 1) pa_nil)) (pg_tup rfl (pgs_cons (pg_name (i := 2) nd rfl (by first | exact Or.inl rfl | exact Or.inr rfl)) (pgs_cons (pg_name (i := 3) nd rfl (by first | exact Or.inl rfl | exact Or.inr rfl)) pgs_nil))))
    (pss_cons (ps_expr (pe_m (pe_fld (pv 0) rfl) T.cl T.m_l_kill_at (ok_l_kill T) hr pass0 (pa_cons (pv 2) (pa_cons (pv 3) pa_nil))))
    (pss_one (ps_ddel (pe_fld (pv 0) rfl) (pv 1)))))), ?_⟩
  have hf := hS.find k
  unfold DelTo at q
  refine q_when (et_B (ev_dnotin (ev_var rfl) (ev_fld (ev_var rfl) hS.obj T.cs T.ns_values rfl) hS.vs)) ?_ ?_
  · intro hc H1 e1
    rw [hf] at hc
    have hn : find k g = none := by
      cases z : find k g with
      | none => rfl
      | some _ => rw [z] at hc; cases hc
    rw [hn] at q
    refine r_raise (ea_cons (ev_var rfl) ea_nil H1 (Ex.refl _) _ fun H2 e2 => ?_)
    exact ⟨_, rfl, good_repr hk, fun dd hd => (Air.ex q (e1.trans e2)).go hd⟩
  · intro hc H1 e1
    rw [hf] at hc
    cases hn : find k g with
    | none => rw [hn] at hc; cases hc
    | some ab =>
      obtain ⟨a, b⟩ := ab
      rw [hn] at q
      have hS1 := hS.ex e1
      refine r_seq (r_asg (ev_fld (ev_var rfl) hS1.obj T.cs T.ns_log rfl H1 (Ex.refl _) _ fun H2 e2 => ⟨_, s.ad.dx, _, rfl, e2 _ _ hS1.log.obj, rfl, ?_⟩))
      refine ea_cons (ev_var rfl) ea_nil H2 (Ex.refl _) _ fun H3 e3 => ?_
      have hS3 := hS1.ex (e2.trans e3)
      refine ⟨s.ad, t.wide, g, ts, k, rfl, hS3.log, ?_⟩
      rw [hn]
      intro r H4 hr4 e4 h4
      have hS4 := hS3.ex e4
      refine ⟨r, _, rfl, SqT.of h4, rfl, _, _, rfl, _, _, rfl, rfl, ?_⟩
      dsimp only
      refine r_seq (r_drop (ev_fld (ev_var rfl) hS4.obj T.cs T.ns_log rfl H4 (Ex.refl _) _ fun H5 e5 => ⟨_, s.ad.dx, _, rfl, e5 _ _ hS4.log.obj, rfl, ?_⟩))
      refine ea_cons (ev_var rfl) (ea_cons (ev_var rfl) ea_nil) H5 (Ex.refl _) _ fun H6 e6 => ?_
      have hS6 := hS4.ex (e5.trans e6)
      have e06 : Ex H H6 := ((e1.trans e2).trans (e3.trans e4)).trans (e5.trans e6)
      refine ⟨s.ad, t.wide, g, ts, a, b, _, rfl, hS6.log, find_at hn, fun H7 ad7 ts7 hN7 eg st => ?_⟩
      have sn := List.nodup_append.1 hS.nd
      have djS : ∀ y ∈ [s.S, s.V], y ∉ s.ad.own := fun y hy m => sn.2.2 y hy y m rfl
      have trS : ∀ y ∈ [s.S, s.V], H6 y ≠ none := fun y hy => hS6.tr y (List.mem_append_left _ hy)
      have n7 : ∀ y ∈ [s.S, s.V], y ∉ ad7.own := fun y hy m => (st.own y m).elim (djS y hy) (trS y hy)
      have o7 : H7 s.S = some (.ins (cS K) s.dx (sfs s g.rows.length t c)) := st.ch.at hS6.obj (djS _ (by simp))
      have v7 : H7 s.V = some (.dK kvs) := st.ch.at hS6.vs (djS _ (by simp))
      dsimp only
      refine r_ddel (ev_fld (ev_var rfl) o7 T.cs T.ns_values rfl H7 (Ex.refl _) _ fun H8 e8 => ⟨_, rfl, s.V, kvs, Sum.inr k, rfl, e8 _ _ v7, rfl, by rw [hf, hn]; rfl, ?_⟩)
      dsimp only
      have c9 : Ch [s.V] H8 (upd H8 s.V (.dK (dropK kvs (Sum.inr k)))) := Ch.updK (e8 _ _ v7) _ (by simp)
      have hSV : s.S ≠ s.V := by simpa using sn.1
      refine q _ { s with ad := ad7 } ts7 (dropK kvs (Sum.inr k)) ⟨?_, ?_, upd_same, ?_, ?_, ?_⟩ rfl ⟨?_, fun y m => ?_⟩
      · exact List.nodup_append.2 ⟨sn.1, hN7.nd, fun y hy z hz e => n7 y hy (by rw [e]; exact hz)⟩
      · rw [upd_ne hSV, len_kill]
        have : sfs { s with ad := ad7 } g.rows.length t c = sfs s g.rows.length t c := by unfold sfs; rw [eg]
        rw [this]
        exact e8 _ _ o7
      · exact (hN7.ex e8).step c9 fun y m z => n7 s.V (by simp) (by rw [← List.mem_singleton.1 z]; exact m)
      · have p1 := dropK_keys hS.kn (k := Sum.inr k) (valV_mem.1 (by rw [hf, hn]; rfl))
        have p2 := (keys_kill (find_at hn)).map (Sum.inr : Str → Key)
        exact (List.perm_cons _).1 ((p1.trans hS.kp).trans p2.symm)
      · unfold dropK
        have := hS.kn.filter fun y => decide (y ≠ Sum.inr k)
        rw [List.filter_map] at this
        exact this
      · refine ((e06.ch s.own).trans (st.ch.mono fun y m => .inl (List.mem_append_right _ m))).trans ((e8.ch _).trans (c9.mono fun y m => .inl ?_))
        rw [List.mem_singleton.1 m]
        simp [Sd.own]
      · have m : y ∈ [s.S, s.V] ++ ad7.own := m
        rcases List.mem_append.1 m with m | m
        · exact .inl (List.mem_append_left _ m)
        · exact (st.own y m).imp (fun z => List.mem_append_right _ z) fun z => (e06.ch []).free z
end
end CLg
end

section
/-! The store: making, summary. -/
namespace CLg
open PySem PySem.Spec PyProof.Rows L2 Evl
section
variable {w : World} {K : Kf} {mg : Str → Option Value} {base : Heap}
theorem pf0 (a0 : V) : putF "_segments" a0 ([] : List (Str × V)) = ([("_segments", a0)] : List (Str × V)) := by kernel_rfl
theorem pf1 (a0 a1 : V) : putF "_size" a1 ([("_segments", a0)] : List (Str × V)) = ([("_segments", a0), ("_size", a1)] : List (Str × V)) := by kernel_rfl
theorem pf2 (a0 a1 a2 : V) : putF "_limit" a2 ([("_segments", a0), ("_size", a1)] : List (Str × V)) = ([("_segments", a0), ("_size", a1), ("_limit", a2)] : List (Str × V)) := by kernel_rfl
theorem pf3 (a0 a1 a2 a3 : V) : putF "_budget" a3 ([("_segments", a0), ("_size", a1), ("_limit", a2)] : List (Str × V)) = ([("_segments", a0), ("_size", a1), ("_limit", a2), ("_budget", a3)] : List (Str × V)) := by kernel_rfl
theorem pf4 (a0 a1 a2 a3 a4 : V) : putF "_late" a4 ([("_segments", a0), ("_size", a1), ("_limit", a2), ("_budget", a3)] : List (Str × V)) = ([("_segments", a0), ("_size", a1), ("_limit", a2), ("_budget", a3), ("_late", a4)] : List (Str × V)) := by kernel_rfl
theorem pf5 (a0 a1 a2 a3 a4 a5 : V) : putF "_log" a5 ([("_segments", a0), ("_size", a1), ("_limit", a2), ("_budget", a3), ("_late", a4)] : List (Str × V)) = ([("_segments", a0), ("_size", a1), ("_limit", a2), ("_budget", a3), ("_late", a4), ("_log", a5)] : List (Str × V)) := by kernel_rfl
theorem pf6 (a0 a1 a2 a3 a4 a5 a6 : V) : putF "_values" a6 ([("_segments", a0), ("_size", a1), ("_limit", a2), ("_budget", a3), ("_late", a4), ("_log", a5)] : List (Str × V)) = ([("_segments", a0), ("_size", a1), ("_limit", a2), ("_budget", a3), ("_late", a4), ("_log", a5), ("_values", a6)] : List (Str × V)) := by kernel_rfl
theorem pf7 (a0 a1 a2 a3 a4 a5 a6 a7 : V) : putF "_done" a7 ([("_segments", a0), ("_size", a1), ("_limit", a2), ("_budget", a3), ("_late", a4), ("_log", a5), ("_values", a6)] : List (Str × V)) = ([("_segments", a0), ("_size", a1), ("_limit", a2), ("_budget", a3), ("_late", a4), ("_log", a5), ("_values", a6), ("_done", a7)] : List (Str × V)) := by kernel_rfl
theorem pf8 (a0 a1 a2 a3 a4 a5 a6 a7 a8 : V) : putF "_carried" a8 ([("_segments", a0), ("_size", a1), ("_limit", a2), ("_budget", a3), ("_late", a4), ("_log", a5), ("_values", a6), ("_done", a7)] : List (Str × V)) = ([("_segments", a0), ("_size", a1), ("_limit", a2), ("_budget", a3), ("_late", a4), ("_log", a5), ("_values", a6), ("_done", a7), ("_carried", a8)] : List (Str × V)) := by kernel_rfl
theorem pf9 (a0 a1 a2 a3 a4 a5 a6 a7 a8 a9 : V) : putF "_last_wait" a9 ([("_segments", a0), ("_size", a1), ("_limit", a2), ("_budget", a3), ("_late", a4), ("_log", a5), ("_values", a6), ("_done", a7), ("_carried", a8)] : List (Str × V)) = ([("_segments", a0), ("_size", a1), ("_limit", a2), ("_budget", a3), ("_late", a4), ("_log", a5), ("_values", a6), ("_done", a7), ("_carried", a8), ("_last_wait", a9)] : List (Str × V)) := by kernel_rfl
theorem sc_s_init : FnScope ["self", "segments", "size", "limit", "budget", "late"] ["self", "segments", "size", "limit", "budget", "late"] (defScope x_s_init) := ⟨rfl, rfl, rfl, by decide +kernel, rfl, by decide +kernel, by decide +kernel⟩
def spSInit (K : Kf) : Sp := fun vs H Q _ => ∃ x dx n t, vs = [.ref x, .int ((n : Nat) : Int), .int ((t.wide : Nat) : Int), .int t.bound, .int ((t.load : Nat) : Int), .bl t.first] ∧ H x = some (.ins (cS K) dx []) ∧ 1 ≤ n ∧ n ≤ 8 ∧ 1 ≤ t.wide ∧ t.wide ≤ 8 ∧ 1 ≤ t.bound ∧
  ∀ H2 s ts, StAt K H2 s t ⟨0, 0, 0⟩ (Lg0 n) ts [] → s.S = x → Stp [x] H s.own H2 → Q .non H2
theorem lg0_keys (n : Nat) : keys (Lg0 n) = [] := by
  unfold keys Lg0 keysOf
  induction n with
  | zero => rfl
  | succ n ih => rw [List.replicate_succ, List.flatMap_cons, ih]; rfl
theorem s_init_fn (T : Tx K mg) : ∃ fd, FunD K "__init__" "Segments.__init__" (defArgs x_s_init) (defBody x_s_init) (defScope x_s_init) [] [("late", .bl false)] (mS K "__init__") fd ∧ FnOk PP w K mg base CX0 3 (mS K "__init__") fd ["self", "segments", "size", "limit", "budget", "late"] (spSInit K) := by
  obtain ⟨fd, F⟩ := T.d_s_init
  refine ⟨fd, F, F.ok sc_s_init (by rintro _ H Q E ⟨x, dx, n, t, rfl, _⟩; rfl) ?_⟩
  rintro cdv A outer s0 H0 _ Q E hr ⟨x, dx, n, t, rfl, hx, n1, n8, w1, w8, b1, q⟩
  have nd := sc_s_init.nd
  suffices hh : ∃ t', PSs (cxOf CX0 PP w K mg base ["self", "segments", "size", "limit", "budget", "late"] "Segments.__init__" (defScope x_s_init) (mS K "__init__") cdv A outer s0 H0 E).nox (defBody x_s_init) t' ∧ t' { nx := fun _ H' => Q .non H', rt := Q } (start ["self", "segments", "size", "limit", "budget", "late"] [.ref x, .int (n : Int), .int (t.wide : Int), .int t.bound, .int (t.load : Int), .bl t.first]) H0 by
    obtain ⟨t', h1, h2⟩ := hh
    exact ⟨t', h1.nox, h2⟩
  refine ⟨_, (pss_cons (ps_expr (pe_f (ok_f_at_least T) T.g_at_least (hr.mono (by decide)) pass0 (pa_cons (pv 1) (pa_cons pe_int (pa_cons pe_str pa_nil)))))
    (pss_cons (ps_expr (pe_f (ok_f_at_least T) T.g_at_least (hr.mono (by decide)) pass0 (pa_cons (pv 2) (pa_cons pe_int (pa_cons pe_str pa_nil)))))
    (pss_cons (ps_expr (pe_f (ok_f_at_least T) T.g_at_least (hr.mono (by decide)) pass0 (pa_cons (pv 3) (pa_cons pe_int (pa_cons pe_str pa_nil)))))
    (pss_cons (ps_expr (pe_f (ok_f_at_least T) T.g_at_least (hr.mono (by decide)) pass0 (pa_cons (pv 4) (pa_cons pe_int (pa_cons pe_str pa_nil)))))
    (pss_cons (ps_fld (pv 0) (pv 1) rfl)
    (pss_cons (ps_fld (pv 0) (pv 2) rfl)
    (pss_cons (ps_fld (pv 0) (pv 3) rfl)
    (pss_cons (ps_fld (pv 0) (pv 4) rfl)
    (pss_cons (ps_fld (pv 0) (pv 5) rfl)
    (pss_cons (ps_fld (pv 0) (pe_mk T.mkl (ok_l_init T) T.g_SegmentLog hr pass0 (pa_cons (pv 1) (pa_cons (pv 2) pa_nil))) rfl)
    (pss_cons (ps_fld (pv 0) pe_dnewK rfl)
    (pss_cons (ps_fld (pv 0) pe_int rfl)
    (pss_cons (ps_fld (pv 0) pe_int rfl)
    (pss_one (ps_fld (pv 0) pe_int rfl))))))))))))))), ?_⟩
  refine q_drop (ev_call (ea_cons (ev_var rfl) (ea_cons ev_c (ea_cons ev_c ea_nil))) (spv_least (by omega))) fun Ha ea => ?_
  refine q_drop (ev_call (ea_cons (ev_var rfl) (ea_cons ev_c (ea_cons ev_c ea_nil))) (spv_least (by omega))) fun Hb eb => ?_
  refine q_drop (ev_call (ea_cons (ev_var rfl) (ea_cons ev_c (ea_cons ev_c ea_nil))) (spv_least b1)) fun Hc ec => ?_
  refine q_drop (ev_call (ea_cons (ev_var rfl) (ea_cons ev_c (ea_cons ev_c ea_nil))) (spv_least (by omega))) fun Hd ed => ?_
  have e0 : Ex H0 Hd := (ea.trans eb).trans (ec.trans ed)
  dsimp only
  refine r_seq ?_
  refine r_setfld ?_
  refine ⟨_, rfl, _, rfl, ?_⟩
  refine r_setfldK (e0 _ _ hx) T.cs T.ns_segments (by decide : (0:Nat) < 1000) (fs' := [("_segments", .int (n : Int))]) (pf0 _) fun H1 h1 c1 => ?_
  dsimp only
  refine r_seq ?_
  refine r_setfld ?_
  refine ⟨_, rfl, _, rfl, ?_⟩
  refine r_setfldK h1 T.cs T.ns_size (by decide : (1:Nat) < 1000) (fs' := [("_segments", .int (n : Int)), ("_size", .int (t.wide : Int))]) (pf1 _ _) fun H2 h2 c2 => ?_
  dsimp only
  refine r_seq ?_
  refine r_setfld ?_
  refine ⟨_, rfl, _, rfl, ?_⟩
  refine r_setfldK h2 T.cs T.ns_limit (by decide : (2:Nat) < 1000) (fs' := [("_segments", .int (n : Int)), ("_size", .int (t.wide : Int)), ("_limit", .int t.bound)]) (pf2 _ _ _) fun H3 h3 c3 => ?_
  dsimp only
  refine r_seq ?_
  refine r_setfld ?_
  refine ⟨_, rfl, _, rfl, ?_⟩
  refine r_setfldK h3 T.cs T.ns_budget (by decide : (3:Nat) < 1000) (fs' := [("_segments", .int (n : Int)), ("_size", .int (t.wide : Int)), ("_limit", .int t.bound), ("_budget", .int (t.load : Int))]) (pf3 _ _ _ _) fun H4 h4 c4 => ?_
  dsimp only
  refine r_seq ?_
  refine r_setfld ?_
  refine ⟨_, rfl, _, rfl, ?_⟩
  refine r_setfldK h4 T.cs T.ns_late (by decide : (4:Nat) < 1000) (fs' := [("_segments", .int (n : Int)), ("_size", .int (t.wide : Int)), ("_limit", .int t.bound), ("_budget", .int (t.load : Int)), ("_late", .bl t.first)]) (pf4 _ _ _ _ _) fun H5 h5 c5 => ?_
  have cA : Ch [x] H0 H5 := (((e0.ch _).trans c1).trans (c2.trans c3)).trans (c4.trans c5)
  dsimp only
  refine r_seq ?_
  refine r_setfld (ea_cons (ev_var rfl) (ea_cons (ev_var rfl) ea_nil) H5 (Ex.refl _) _ fun H6 e6 => ?_)
  intro y dy hy hdy ndy
  have ex0 : Ex H6 (upd (upd H6 dy (.own y)) y (.ins (cL K) dy [])) := (Ex.new hdy).trans (Ex.new (by rw [upd_ne ndy.symm]; exact hy))
  refine ⟨y, dy, n, t.wide, rfl, upd_same, n1, n8, w1, w8, fun H7 ad ts hN eg st => ⟨rfl, ?_⟩⟩
  have c67 : Ch [y] H6 H7 := (ex0.ch _).trans st.ch
  have e67 : Ex H6 H7 := c67.exNew fun b m => by rw [List.mem_singleton.1 m]; exact hy
  have e57 : Ex H5 H7 := e6.trans e67
  have fr5 : ∀ b ∈ ad.own, H5 b = none := fun b m => (e6.ch []).free ((st.own b m).elim (fun z => by rw [List.mem_singleton.1 z]; exact hy) fun z => (ex0.ch []).free z)
  refine ⟨_, rfl, ?_⟩
  refine r_setfldK (e57 _ _ h5) T.cs T.ns_log (by decide : (5:Nat) < 1000) (fs' := [("_segments", .int (n : Int)), ("_size", .int (t.wide : Int)), ("_limit", .int t.bound), ("_budget", .int (t.load : Int)), ("_late", .bl t.first), ("_log", .ref y)]) (pf5 _ _ _ _ _ _) fun H8 h8 c8 => ?_
  rw [← eg] at h8
  dsimp only
  refine r_seq ?_
  refine r_setfld fun r hr8 => ?_
  refine ⟨_, rfl, ?_⟩
  refine r_setfldK (Ex.new hr8 _ _ h8) T.cs T.ns_values (by decide : (6:Nat) < 1000) (fs' := [("_segments", .int (n : Int)), ("_size", .int (t.wide : Int)), ("_limit", .int t.bound), ("_budget", .int (t.load : Int)), ("_late", .bl t.first), ("_log", .ref ad.g), ("_values", .ref r)]) (pf6 _ _ _ _ _ _ _) fun H9 h9 c9 => ?_
  dsimp only
  refine r_seq ?_
  refine r_setfld ?_
  refine ⟨_, rfl, ?_⟩
  refine r_setfldK h9 T.cs T.ns_done (by decide : (7:Nat) < 1000) (fs' := [("_segments", .int (n : Int)), ("_size", .int (t.wide : Int)), ("_limit", .int t.bound), ("_budget", .int (t.load : Int)), ("_late", .bl t.first), ("_log", .ref ad.g), ("_values", .ref r), ("_done", .int 0)]) (pf7 _ _ _ _ _ _ _ _) fun H10 h10 c10 => ?_
  dsimp only
  refine r_seq ?_
  refine r_setfld ?_
  refine ⟨_, rfl, ?_⟩
  refine r_setfldK h10 T.cs T.ns_carried (by decide : (8:Nat) < 1000) (fs' := [("_segments", .int (n : Int)), ("_size", .int (t.wide : Int)), ("_limit", .int t.bound), ("_budget", .int (t.load : Int)), ("_late", .bl t.first), ("_log", .ref ad.g), ("_values", .ref r), ("_done", .int 0), ("_carried", .int 0)]) (pf8 _ _ _ _ _ _ _ _ _) fun H11 h11 c11 => ?_
  dsimp only
  refine r_setfld ?_
  refine ⟨_, rfl, ?_⟩
  refine r_setfldK h11 T.cs T.ns_last_wait (by decide : (9:Nat) < 1000) (fs' := [("_segments", .int (n : Int)), ("_size", .int (t.wide : Int)), ("_limit", .int t.bound), ("_budget", .int (t.load : Int)), ("_late", .bl t.first), ("_log", .ref ad.g), ("_values", .ref r), ("_done", .int 0), ("_carried", .int 0), ("_last_wait", .int 0)]) (pf9 _ _ _ _ _ _ _ _ _ _) fun H12 h12 c12 => ?_
  have nx : x ∉ ad.own := fun m => by rw [fr5 x m] at h5; cases h5
  have rx : r ≠ x := fun z => by rw [z, h8] at hr8; cases hr8
  have nr : r ∉ ad.own := fun m => (hN.step c8 fun b m z => nx (by rw [← List.mem_singleton.1 z]; exact m)).tr r m hr8
  have cB : Ch [x] (upd H8 r (.dK [])) H12 := (c9.trans c10).trans (c11.trans c12)
  have cC : Ch [x] H7 H12 := (c8.trans ((Ex.new hr8).ch _)).trans cB
  refine q H12 { S := x, dx := dx, V := r, ad := ad } ts ⟨?_, ?_, ?_, hN.step cC fun b m z => nx (by rw [← List.mem_singleton.1 z]; exact m), ?_, by simp⟩ rfl ⟨(cA.trans (e57.ch _)).trans cC, fun b m => ?_⟩
  · refine List.nodup_append.2 ⟨by simp [rx.symm], hN.nd, fun u hu z hz e => ?_⟩
    simp only [List.mem_cons, List.not_mem_nil, or_false] at hu
    rcases hu with rfl | rfl
    · exact nx (by rw [e]; exact hz)
    · exact nr (by rw [e]; exact hz)
  · rw [show (Lg0 n).rows.length = n by simp [Lg0]]
    exact h12
  · exact cB.at upd_same (by simp [rx])
  · rw [lg0_keys]
    exact List.Perm.refl _
  · have m : b ∈ [x, r] ++ ad.own := m
    rcases List.mem_append.1 m with m | m
    · simp only [List.mem_cons, List.not_mem_nil, or_false] at m
      rcases m with rfl | rfl
      · left; simp
      · right; exact cA.free ((e57.ch []).free (c8.free hr8))
    · right; exact cA.free (fr5 b m)
def spSum (K : Kf) : Sp := fun vs H Q _ => ∃ s t c g ts kvs, vs = [.ref s.S] ∧ StAt K H s t c g ts kvs ∧
  ∀ p H2 tp (so : List Int), H2 p = some (.tup [.int ((g.row g.head).length : Int), .int (alive (g.row g.head) : Int), .ref tp]) → H2 tp = some (.tup (so.map V.int)) → so.Perm ((shut g).map fun s => (alive (g.row s) : Int)) → so.Pairwise (· ≤ ·) → Ex H H2 → Q (.ref p) H2
theorem given_map (l : List Nat) (f : Nat → V) : given l.length (fun _ => true) (fun i => f (l.getD i 0)) = l.map f := by
  have h : (List.range l.length).map (fun i => l.getD i 0) = l := by
    apply List.ext_getElem
    · simp
    · intro i h1 h2
      simp [List.getD_eq_getElem?_getD, h2]
  unfold given
  conv => rhs; rw [← h]
  rw [List.map_map, List.filter_eq_self.2 (fun _ _ => rfl)]
  rfl
theorem r_tup {ta : TA} {σ : L2.St} {H : Hp} {Q : VK} (h : ta σ H fun xs H1 => xs.length ≤ sizeLine ∧ ∀ p, H1 p = none → Q (.ref p) (upd H1 p (.tup xs))) : tTup ta σ H Q := h
theorem et_yes {σ : L2.St} {H : Hp} : EvT tYes σ H true := fun H1 _ _ q => q H1 (Ex.refl H1)
theorem sc_s_summary : FnScope ["self", "head", "counts", "segment"] ["self"] (defScope x_s_summary) := ⟨rfl, rfl, rfl, by decide +kernel, rfl, by decide +kernel, by decide +kernel⟩
theorem ok_s_summary (T : Tx K mg) : Fnc PP w K mg base CX0 4 (mS K "summary") ["self"] (spSum K) := by
  refine mk0 T.d_s_summary sc_s_summary (by rintro _ H Q E ⟨s, t, c, g, ts, kvs, rfl, _⟩; rfl) (by intro kV doc pm an cdv ct us h; match us, h with | [_], _ => rfl) ?_
  rintro cdv A outer s0 H _ Q E hr ⟨s, t, c, g, ts, kvs, rfl, h, q⟩
  have nd := sc_s_summary.nd
  refine ⟨_, (pss_cons (ps_set (i := 1) nd rfl (by first | exact Or.inl rfl | exact Or.inr rfl) (pe_m0 (pe_fld (pv 0) rfl) T.cl T.m_l_head_segment (ok_l_head T) (hr.mono (by decide)) pass0))
    (pss_cons (ps_setLc (i := 2) (own := [("segment", 3)]) (g := gName 3) (tt := tYes) (te := tMeth (cL K) "alive" (spAlive K) [] E0 (tFld K (tVar 0) "_log") (tCons (tVar 3) tNil)) rfl nd rfl rfl (sw_true rfl rfl rfl (by decide +kernel)) (pi_list (pe_m0 (pv 0) T.cs T.m_s_closed (ok_s_closed T) hr pass0)) (blkOk_by (N := ["self", "head", "counts", "segment"]) (sc := defScope x_s_summary) (by decide +kernel)) (fun _ _ _ _ _ => (pg_name (i := 3) nd rfl (Or.inl rfl))) (fun _ _ _ _ _ => pts_nil) (fun _ _ _ _ _ => (pe_m (pe_fld (pv 0) rfl) T.cl T.m_l_alive (ok_l_alive T) (hr.mono (by decide)) pass0 (pa_cons (pv 3) pa_nil))))
    (pss_one (ps_ret (pe_tup (pa_cons (pe_callB call_len_seq (by rfl) T.b_len PySem.boot_len (pa_cons (pe_ix ix_list (pe_fld (pe_fld (pv 0) rfl) rfl) (pv 1) (fun _ _ => rfl)) pa_nil)) (pa_cons (pe_m (pe_fld (pv 0) rfl) T.cl T.m_l_alive (ok_l_alive T) (hr.mono (by decide)) pass0 (pa_cons (pv 1) pa_nil)) (pa_cons (pe_callTy call_tuple_of (by rfl) T.b_tuple (by decide +kernel) (pa_cons (pe_callB cr_sorted (by rfl) T.b_sorted (by decide +kernel) (pa_cons (pv 2) pa_nil)) pa_nil)) pa_nil)))))))), ?_⟩
  refine q_asg (ev_meth (ev_fld (ev_var rfl) h.obj T.cs T.ns_log rfl) h.log.obj rfl ea_nil (spv_head h.log)) fun H1 e1 => ?_
  have h1 := h.ex e1
  have n8 := h.log.ok.n8
  have sl := shut_len (g := g)
  refine q_asgL (xs := (shut g).map fun s => V.int (alive (g.row s) : Int)) ?_ fun D H2 hD e2 hl2 => ?_
  · rw [← given_map, ← vns_len]
    refine el_lcNL (fun _ => true) (fun i => V.int (alive (g.row ((shut g).getD i 0)) : Int)) (el_meth (ev_var rfl) h1.obj rfl ea_nil (spl_cls h1)) (by rw [vns_len]; omega) (fun _ => rfl) (fun _ _ _ _ _ => et_yes) ?_
    intro i x H3 e3 hx _
    obtain ⟨m, hm, rfl⟩ := vns_inv hx
    rw [getD_some hm]
    have h3 := h1.ex e3
    exact ev_meth (ev_fld (ev_var rfl) h3.obj T.cs T.ns_log rfl) h3.log.obj rfl (ea_cons (ev_var rfl) ea_nil) (spv_alive h3.log (mem_shut.1 (List.mem_of_getElem? hm)).1)
  have h2 := h1.ex e2
  obtain ⟨a, xs, k1, k2, k3, k4, _⟩ := h2.log.rw.get h2.log.ok.hd
  refine r_ret (r_tup (r_cons (ev_len (ev_op (ev_fld (ev_fld (ev_var rfl) h2.obj T.cs T.ns_log rfl) h2.log.obj T.cl T.nl_rows rfl) (ev_var rfl) (rv_ixL (SqL.of h2.log.rw.at_) (atI_nat k2))) (SqL.of k3) H2 (Ex.refl _) _ fun H3 e3 => ?_)))
  have h3 := h2.ex e3
  refine r_cons (ev_meth (ev_fld (ev_var rfl) h3.obj T.cs T.ns_log rfl) h3.log.obj rfl (ea_cons (ev_var rfl) ea_nil) (spv_alive h3.log h3.log.ok.hd) H3 (Ex.refl _) _ fun H4 e4 => ?_)
  have hl4 : H4 D = some (.lst (((shut g).map fun s => (alive (g.row s) : Int)).map V.int)) := by
    rw [List.map_map]
    exact (e3.trans e4) _ _ hl2
  refine r_cons (r_CB (r_cons (r_CB (r_cons (r_var rfl (r_nil ⟨D, _, rfl, SqL.of hl4, by rw [List.length_map]; omega, fun so r hp hs hr => r_nil ⟨r, _, rfl, .inl ⟨SqL.of upd_same, fun tp htp => r_nil ⟨(show 3 ≤ sizeLine by decide), fun p hpp => ?_⟩⟩⟩⟩))))))
  have e5 : Ex H4 (upd H4 r (.lst (so.map V.int))) := Ex.new hr
  have e6 := e5.trans (Ex.new (o := .tup (so.map V.int)) htp)
  have e7 := e6.trans (Ex.new (o := .tup [.int (xs.length : Int), .int (alive (g.row g.head) : Int), .ref tp]) hpp)
  have ntp : tp ≠ p := fun z => by rw [← z, upd_same] at hpp; cases hpp
  refine q p _ tp so ?_ ?_ hp hs (((e1.trans e2).trans (e3.trans e4)).trans e7)
  · rw [upd_same, ← show xs.length = (g.row g.head).length from k4.1]
  · rw [upd_ne ntp, upd_same]
end
end CLg
end

section
/-! Keys and names. -/
namespace CLg
open PySem PySem.Spec PyProof.Rows L2 Evl
/-- a text of the signs alone -/
def Sg (k : Str) : Prop := ∀ c ∈ k.cps.toList, c ∈ signs.cps.toList
theorem sg_app {a b : Str} (ha : Sg a) (hb : Sg b) : Sg (a ++ b) := by
  intro c hc
  have e : (a ++ b).cps.toList = a.cps.toList ++ b.cps.toList := Array.toList_append
  rw [e] at hc
  exact (List.mem_append.1 hc).elim (ha c) (hb c)
theorem sg_cut {a : Str} (ha : Sg a) (lo hi : Option Int) : Sg (cutS a lo hi) := fun c hc => by
  unfold cutS at hc
  simp only at hc
  exact ha c (List.mem_of_mem_drop (List.mem_of_mem_take hc))
theorem len_cut (a : Str) (lo hi : Option Int) : (cutS a lo hi).length = min (HT.sIx a.length a.length hi - HT.sIx a.length 0 lo) (a.length - HT.sIx a.length 0 lo) := by
  unfold cutS
  show Array.size _ = _
  rw [List.size_toArray, List.length_take, List.length_drop]
  rfl
theorem sg_one {c : Nat} (h : c ∈ signs.cps.toList) : Sg ⟨#[c]⟩ := fun x hx => by
  have : x = c := by simpa using hx
  rw [this]; exact h
section
variable {w : World} {K : Kf} {mg : Str → Option Value} {base : Heap}
def spKey : Sp := fun vs H Q _ => ∃ (n : Int) (c : Nat), vs = [.int n, .int (c : Int)] ∧ c ≤ 12 ∧ ∀ H2 k, Ex H H2 → k.length = c → Sg k → Q (.str k) H2
theorem sc_f_law_key : FnScope ["_law_number", "_law_count", "_law_signs", "_law_text", "_law_k"] ["_law_number", "_law_count"] (defScope x_f_law_key) := ⟨rfl, rfl, rfl, by decide +kernel, rfl, by decide +kernel, by decide +kernel⟩
theorem signs_at (j : Nat) (h : j < 36) : ∃ c, atI signs.cps.toList (j : Int) = some c ∧ c ∈ signs.cps.toList := by
  have hl : signs.cps.toList.length = 36 := by decide +kernel
  have hj : j < signs.cps.toList.length := by omega
  exact ⟨signs.cps.toList[j], atI_nat (List.getElem?_eq_getElem hj), List.getElem_mem hj⟩
theorem ok_key (T : Tx K mg) : Fnc PP w K mg base CX0 1 (fA K "_law_key") ["_law_number", "_law_count"] spKey := by
  refine mk0 T.d_f_law_key sc_f_law_key (by rintro _ H Q E ⟨n, c, rfl, _⟩; rfl) (by intro kV doc pm an cdv ct us h; match us, h with | [_, _], _ => rfl) ?_
  rintro cdv A outer s0 H _ Q E hr ⟨n, c, rfl, hc, q⟩
  have nd := sc_f_law_key.nd
  refine ⟨_, (pss_cons (ps_set (i := 2) nd rfl (by first | exact Or.inl rfl | exact Or.inr rfl) pe_str)
    (pss_cons (ps_set (i := 3) nd rfl (by first | exact Or.inl rfl | exact Or.inr rfl) pe_str)
    (pss_cons (ps_for PassesOwn.never rfl (pi_range1 rfl T.b_range (pa_cons (pv 1) pa_nil)) (pg_name (i := 4) nd rfl (by first | exact Or.inl rfl | exact Or.inr rfl))
      (pss_cons (ps_set (i := 3) nd rfl (by first | exact Or.inl rfl | exact Or.inr rfl) (pe_op op_add_str (pv 3) (pe_ix ix_str (pv 2) (pe_op op_mod (pe_callTy call_int1 (by rfl) T.b_int (by decide +kernel) (pa_cons (pv 0) pa_nil)) pe_int) (fun _ _ => rfl))))
      (pss_one (ps_set (i := 0) nd rfl (by first | exact Or.inl rfl | exact Or.inr rfl) (pe_op op_fdiv (pv 0) pe_int)))))
    (pss_one (ps_ret (pv 3)))))), ?_⟩
  refine q_asg ev_c fun H1 e1 => ?_
  refine q_asg ev_c fun H2 e2 => ?_
  refine q_forR1 (n := (c : Int)) (ea_cons (ev_var rfl) ea_nil) (by omega) (fun i σ' H' => Ex H2 H' ∧ ∃ (m : Int) (k : Str) (y : Option V), σ' = [some (.int m), some (.int (c : Int)), some (.str signs), some (.str k), y] ∧ k.length = i ∧ Sg k) ?_ ?_ ?_
  · exact fun H3 e3 => ⟨e3, n, Str.empty, _, rfl, rfl, fun c hc => by cases hc⟩
  · rintro i σ' H' hi ⟨e3, m, k, y, rfl, hl, hk⟩
    have m0 := Int.emod_nonneg m (show (36 : Int) ≠ 0 by decide)
    have m1 := Int.emod_lt_of_pos m (show (0 : Int) < 36 by decide)
    obtain ⟨j, hj⟩ := Int.eq_ofNat_of_zero_le m0
    obtain ⟨ch, hch, hmem⟩ := signs_at j (by omega)
    have hk1 : (k ++ (⟨#[ch]⟩ : Str)).length = i + 1 := by rw [strLen_append, hl]; rfl
    refine q_asg (ev_op (ev_var rfl) (ev_op (ev_var rfl) (ev_op (ev_int1 (K := K) (ev_var rfl)) ev_c (rv_I (by show (0 : Int) < 36; decide))) (rv_ixS (by decide +kernel) (by rw [hj]; exact hch))) (z := .str (k ++ (⟨#[ch]⟩ : Str))) fun H4 _ Q' q' => ⟨k, ⟨#[ch]⟩, rfl, rfl, small_le (by rw [hl]; show i + 1 ≤ 100000; omega), q' H4 (Ex.refl _)⟩) fun H4 e4 => ?_
    exact s_asg (ev_op (ev_var rfl) ev_c (rv_I ⟨by decide, by decide⟩)) fun H5 e5 => ⟨e3.trans (e4.trans e5), _, _, _, rfl, hk1, sg_app hk (sg_one hmem)⟩
  · rintro σ' H' ⟨e3, m, k, y, rfl, hl, hk⟩
    exact s_ret (ev_var rfl) fun H4 e4 => q H4 k ((e1.trans e2).trans (e3.trans e4)) (by rw [hl]; simp) hk
end
end CLg
end

section
/-! Names. -/
namespace CLg
open PySem PySem.Spec PyProof.Rows L2 Evl
theorem good_of {k : Str} (h : Sg k) (h1 : 1 ≤ k.length) (h2 : k.length ≤ 12) : GoodK k := ⟨h1, h2, h⟩
section
variable {w : World} {K : Kf} {mg : Str → Option Value} {base : Heap}
theorem r_key {σ : L2.St} {H : Hp} {ta tm : TE} {E : XK} {Q : VK} {n : Int} {c : Nat} (hb : Ev ta σ H (.int n)) (hm : Ev tm σ H (.int (c : Int))) (hc : c ≤ 12) (k : ∀ H2 k, Ex H H2 → k.length = c → Sg k → Q (.str k) H2) : tCall spKey [] E (tCons ta (tCons tm tNil)) σ H Q :=
  ea_cons hb (ea_cons hm ea_nil) H (Ex.refl _) _ fun H1 e1 => ⟨n, c, rfl, hc, fun H2 x e l s => k H2 x (e1.trans e) l s⟩
theorem strs_flat (ks : List Str) : (ks.map V.str).all flatV = true := by
  rw [List.all_map, List.all_eq_true]
  intro x _
  rfl
def spNames (K : Kf) : Sp := fun vs H Q _ => ∃ b T m, vs = [.ref b.B, .int ((m : Nat) : Int)] ∧ BoxAt H b T ∧ T ≤ 800000 ∧ m ≤ 100 ∧ ∀ H2 p (ks : List Str), BoxAt H2 b (T + 5 + 2 * m) → Ch b.own H H2 → H2 p = some (.lst (ks.map V.str)) → H p = none → ks.length = m → (∀ k ∈ ks, GoodK k) → Q (.ref p) H2
theorem sc_f_law_names : FnScope ["_law_box_here", "_law_many", "_law_near", "_law_stem", "_law_spot", "_law_shift", "_law_names_here", "_law_k", "_law_name", "_law_turn_here"] ["_law_box_here", "_law_many"] (defScope x_f_law_names) := ⟨rfl, rfl, rfl, by decide +kernel, rfl, by decide +kernel, by decide +kernel⟩
theorem ok_names (T : Tx K mg) : Fnc PP w K mg base CX0 2 (fA K "_law_names") ["_law_box_here", "_law_many"] (spNames K) := by
  refine mk0 T.d_f_law_names sc_f_law_names (by rintro _ H Q E ⟨b, T, m, rfl, _⟩; rfl) (by intro kV doc pm an cdv ct us h; match us, h with | [_, _], _ => rfl) ?_
  rintro cdv A outer s0 H _ Q E hr ⟨b, N, m, rfl, hB, hN, hm, q⟩
  have nd := sc_f_law_names.nd
  refine ⟨_, (pss_cons (ps_set (i := 2) nd rfl (by first | exact Or.inl rfl | exact Or.inr rfl) (pe_cmpR op_eq (pe_f (ok_draw T) T.g_law_draw hr pass0 (pa_cons (pv 0) (pa_cons pe_int pa_nil))) pe_int (nomark _)))
    (pss_cons (ps_set (i := 3) nd rfl (by first | exact Or.inl rfl | exact Or.inr rfl) (pe_f (ok_key T) T.g_law_key hr pass0 (pa_cons (pe_f (ok_draw T) T.g_law_draw hr pass0 (pa_cons (pv 0) (pa_cons (pe_op op_pow pe_int pe_int) pa_nil))) (pa_cons (pe_op op_add pe_int (pe_f (ok_draw T) T.g_law_draw hr pass0 (pa_cons (pv 0) (pa_cons pe_int pa_nil)))) pa_nil))))
    (pss_cons (ps_set (i := 4) nd rfl (by first | exact Or.inl rfl | exact Or.inr rfl) (pe_f (ok_draw T) T.g_law_draw hr pass0 (pa_cons (pv 0) (pa_cons (pe_op op_sub (pe_callB call_len_str (by rfl) T.b_len PySem.boot_len (pa_cons (pv 3) pa_nil)) pe_int) pa_nil))))
    (pss_cons (ps_set (i := 5) nd rfl (by first | exact Or.inl rfl | exact Or.inr rfl) (pe_f (ok_draw T) T.g_law_draw hr pass0 (pa_cons (pv 0) (pa_cons pe_int pa_nil))))
    (pss_cons (ps_set (i := 6) nd rfl (by first | exact Or.inl rfl | exact Or.inr rfl) (pe_lst pa_nil))
    (pss_cons (ps_for PassesOwn.never rfl (pi_range1 rfl T.b_range (pa_cons (pv 1) pa_nil)) (pg_name (i := 7) nd rfl (by first | exact Or.inl rfl | exact Or.inr rfl))
      (pss_cut (ps_if (pt_val (pv 2)) (pss_one (ps_set (i := 8) nd rfl (by first | exact Or.inl rfl | exact Or.inr rfl) (pe_op op_add_str (pe_op op_add_str (pe_slice sl_str (pv 3) po_none (po_some (pv 4))) (pe_f (ok_key T) T.g_law_key hr pass0 (pa_cons (pe_op op_add (pe_op op_mod (pe_callTy call_int1 (by rfl) T.b_int (by decide +kernel) (pa_cons (pe_op op_add (pe_op op_mul (pv 7) pe_int) (pv 5)) pa_nil)) pe_int) (pe_op op_mul (pe_op op_fdiv (pv 7) pe_int) pe_int)) (pa_cons pe_int pa_nil)))) (pe_slice sl_str (pv 3) (po_some (pe_op op_add (pv 4) pe_int)) po_none)))) (pss_one (ps_set (i := 8) nd rfl (by first | exact Or.inl rfl | exact Or.inr rfl) (pe_f (ok_key T) T.g_law_key hr pass0 (pa_cons (pe_f (ok_draw T) T.g_law_draw hr pass0 (pa_cons (pv 0) (pa_cons (pe_op op_pow pe_int pe_int) pa_nil))) (pa_cons (pe_op op_add pe_int (pe_f (ok_draw T) T.g_law_draw hr pass0 (pa_cons (pv 0) (pa_cons pe_int pa_nil)))) pa_nil))))))
      (pss_cut (ps_for PassesOwn.never rfl (pi_range1 rfl T.b_range (pa_cons (pe_op op_add (pe_callB call_len_seq (by rfl) T.b_len PySem.boot_len (pa_cons (pv 6) pa_nil)) pe_int) pa_nil)) (pg_name (i := 9) nd rfl (by first | exact Or.inl rfl | exact Or.inr rfl))
        (pss_cons (ps_if (pt_cmpR op_notIn_seq (pv 8) (pv 6) rfl) (pss_one ps_break) pss_nil)
        (pss_one (ps_set (i := 8) nd rfl (by first | exact Or.inl rfl | exact Or.inr rfl) (pe_f (ok_key T) T.g_law_key hr pass0 (pa_cons (pe_op op_add (pv 5) (pv 9)) (pa_cons pe_int pa_nil)))))))
      (pss_one (ps_expr (pe_bm PySem.F.plainAttrs_list PySem.F.slot_list_append PySem.F.type_list_append mt_append (pv 6) (pa_cons (pv 8) pa_nil)))))))
    (pss_one (ps_ret (pv 6))))))))), ?_⟩
  have p36 : (36 : Int) ^ (12 : Int).toNat = 4738381338321616896 := by decide
  refine q_asgK (r_op (r_draw (ev_var rfl) ev_c hB (by omega) (by decide) (by decide) fun H1 r1 hB1 c1 hr1 => ⟨rfl, ?_⟩))
  generalize decide (V.int (r1 : Int) = V.int 1) = near
  refine q_asgK (r_call (r_cons (r_draw (ev_var rfl) (ev_op ev_c ev_c (rv_I ⟨by decide, by decide, by decide⟩)) hB1 (by omega) (by rw [p36]; decide) (by rw [p36]; decide) fun H2 r2 hB2 c2 hr2 => r_cons (r_op (r_draw (ev_var rfl) ev_c hB2 (by omega) (by decide) (by decide) fun H3 r3 hB3 c3 hr3 => r_I0 (r_nil ⟨(r2 : Int), 2 + r3, by rw [Int.natCast_add]; rfl, by omega, fun H4 st e4 hl4 hs4 => ?_⟩))))))
  have hB4 := hB3.ex e4
  refine q_asgK (r_draw (ev_var rfl) (ev_op (z := .int ((st.length : Int) - 1)) (ev_cb (z := .int (st.length : Int)) (ea_cons (ev_var rfl) ea_nil) fun H' e' Q' q' => ⟨st, rfl, small_le (by omega), q' H' (Ex.refl _)⟩) ev_c rv_I0) hB4 (by omega) (by omega) (by omega) fun H5 sp hB5 c5 hr5 => ?_)
  refine q_asgK (r_draw (ev_var rfl) ev_c hB5 (by omega) (by decide) (by decide) fun H6 sh hB6 c6 hr6 => ?_)
  have cc6 : Ch b.own H H6 := ((c1.trans c2).trans (c3.trans (e4.ch _))).trans (c5.trans c6)
  refine q_asgL (el_lst ea_nil (by decide)) fun p H7 hp e7 h7 => ?_
  have hp0 : H p = none := cc6.free hp
  refine q_forR1 (n := (m : Int)) (ea_cons (ev_var rfl) ea_nil) (by omega) (fun i σ' H' => ∃ (ks : List Str) (x7 x8 x9 : Option V), σ' = [some (.ref b.B), some (.int (m : Int)), some (.bl near), some (.str st), some (.int (sp : Int)), some (.int (sh : Int)), some (.ref p), x7, x8, x9] ∧ H' p = some (.lst (ks.map V.str)) ∧ ks.length = i ∧ (∀ k ∈ ks, GoodK k) ∧ BoxAt H' b (N + 5 + 2 * i) ∧ Ch b.own H H') ?_ ?_ ?_
  · exact fun H8 e8 => ⟨[], _, _, _, rfl, e8 _ _ h7, rfl, fun k hk => (by cases hk), hB6.ex (e7.trans e8), cc6.trans ((e7.trans e8).ch _)⟩
  · rintro i σ' H' hi ⟨ks, x7, x8, x9, rfl, hk, hl, hg, hB', c'⟩
    have hpo : p ∉ b.own := fun z => hB.tr p z hp0
    refine q_cut (M := fun σ'' H'' => ∃ k, σ'' = [some (.ref b.B), some (.int (m : Int)), some (.bl near), some (.str st), some (.int (sp : Int)), some (.int (sh : Int)), some (.ref p), some (.int (i : Int)), some (.str k), x9] ∧ GoodK k ∧ H'' p = some (.lst (ks.map V.str)) ∧ BoxAt H'' b (N + 5 + 2 * (i + 1)) ∧ Ch b.own H H'') ?_ ?_
    · refine s_if (et_B (ev_var rfl)) ?_ ?_
      · intro _ H8 e8
        refine s_asgK (r_op (r_op ?_))
        refine ⟨_, rfl, ⟨_, rfl, _, rfl, ?_⟩⟩
        have hst : st.length = 2 + r3 := hl4
        refine ⟨st, rfl, small_le (by omega), ?_⟩
        refine r_key (n := ((i : Int) * 7 + (sh : Int)) % 36 + (i : Int) / 36 * 36) (c := 2) ?_ ev_c (by decide) fun H9 k9 e9 hl9 hs9 => ?_
        · refine ev_op (ev_op (ev_int1 (K := K) (ev_op (ev_op (ev_var rfl) ev_c (rv_I (.inl ⟨by omega, by omega⟩))) (ev_var rfl) rv_I0)) ev_c (rv_I (by show (0 : Int) < 36; decide))) (ev_op (ev_op (ev_var rfl) ev_c (rv_I ⟨by decide, by decide⟩)) ev_c (rv_I (.inl ⟨by omega, by omega⟩))) rv_I0
        have l1 : (cutS st none (some (sp : Int))).length = sp := by
          rw [len_cut, HT.sIx_nat, HT.sIx_none]
          omega
        have l2 : (cutS st (some ((sp : Int) + 2)) none).length = st.length - (sp + 2) := by
          rw [len_cut, HT.sIx_none, show ((sp : Int) + 2) = ((sp + 2 : Nat) : Int) by omega, HT.sIx_nat]
          omega
        refine ⟨_, _, rfl, rfl, small_le (by rw [l1, hl9]; omega), ?_⟩
        refine ⟨_, rfl, _, rfl, _, _, rfl, rfl, _, rfl, st, rfl, small_le (by omega), ?_⟩
        refine ⟨_, _, rfl, rfl, small_le (by rw [strLen_append, l1, l2, hl9]; omega), ?_⟩
        have hb2 := hB'.ex (e8.trans e9)
        refine ⟨_, rfl, good_of (sg_app (sg_app (sg_cut hs4 _ _) hs9) (sg_cut hs4 _ _)) ?_ ?_, (e8.trans e9) _ _ hk, hb2.mono (by omega), c'.trans ((e8.trans e9).ch _)⟩
        · rw [strLen_append, strLen_append, l1, l2, hl9]; omega
        · rw [strLen_append, strLen_append, l1, l2, hl9]; omega
      · intro _ H8 e8
        refine s_asgK (r_call (r_cons (r_draw (ev_var rfl) (ev_op ev_c ev_c (rv_I ⟨by decide, by decide, by decide⟩)) (hB'.ex e8) (by omega) (by rw [p36]; decide) (by rw [p36]; decide) fun H9 r9 hB9 c9 hr9 => r_cons (r_op (r_draw (ev_var rfl) ev_c hB9 (by omega) (by decide) (by decide) fun H10 r10 hB10 c10 hr10 => r_I0 (r_nil ⟨(r9 : Int), 1 + r10, by rw [Int.natCast_add]; rfl, by omega, fun H11 k e11 hl11 hs11 => ?_⟩))))))
        exact ⟨k, rfl, good_of hs11 (by omega) (by omega), e11 _ _ (c10.at (c9.at (e8 _ _ hk) hpo) hpo), (hB10.ex e11).mono (by omega), ((c'.trans (e8.ch _)).trans (c9.trans c10)).trans (e11.ch _)⟩
    rintro σ8 H8 ⟨k, rfl, hgk, hk8, hB8, c8⟩
    refine q_cut (M := fun σ'' H'' => ∃ k x9, σ'' = [some (.ref b.B), some (.int (m : Int)), some (.bl near), some (.str st), some (.int (sp : Int)), some (.int (sh : Int)), some (.ref p), some (.int (i : Int)), some (.str k), x9] ∧ GoodK k ∧ Ex H8 H'') ?_ ?_
    · refine s_forR1 (n := (i : Int) + 2) (ea_cons (ev_op (z := .int ((i : Int) + 2)) (ev_is (ev_len (ev_var rfl) (SqL.of hk8)) (by rw [List.length_map, hl])) ev_c rv_I0) ea_nil) (by omega) (fun j σ'' H'' => ∃ (k : Str) (x9 : Option V), σ'' = [some (.ref b.B), some (.int (m : Int)), some (.bl near), some (.str st), some (.int (sp : Int)), some (.int (sh : Int)), some (.ref p), some (.int (i : Int)), some (.str k), x9] ∧ GoodK k ∧ Ex H8 H'') ?_ ?_ ?_
      · exact fun H9 e9 => ⟨k, _, rfl, hgk, e9⟩
      · rintro j σ'' H9 hj ⟨k9, x9', rfl, hg9, e9⟩
        refine q_when (et_B (ev_op (ev_var rfl) (ev_var rfl) (rv_niL (SqL.of (e9 _ _ hk8)) rfl (strs_flat ks)))) ?_ ?_
        · exact fun _ H10 e10 => ⟨k9, _, rfl, hg9, e9.trans e10⟩
        · intro _ H10 e10
          refine s_asgK (r_key (c := 12) (ev_op (ev_var rfl) (ev_var rfl) rv_I0) ev_c (by decide) fun H11 k11 e11 hl11 hs11 => ?_)
          exact ⟨k11, _, rfl, good_of hs11 (by omega) (by omega), (e9.trans e10).trans e11⟩
      · rintro σ'' H9 ⟨k9, x9', rfl, hg9, e9⟩
        exact ⟨k9, x9', rfl, hg9, e9⟩
    rintro σ9 H9 ⟨k9, x9', rfl, hg9, e9⟩
    refine s_app (e9 _ _ hk8) (ev_var rfl) (ev_var rfl) (by rw [List.length_map]; omega) fun H10 e10 => ?_
    have hk10 := (e9.trans e10) _ _ hk8
    have c10 : Ch [p] H10 (upd H10 p (.lst (ks.map V.str ++ [.str k9]))) := Ch.updL hk10 _ (by simp)
    refine ⟨ks ++ [k9], _, _, _, rfl, by rw [upd_same, List.map_append]; rfl, by simp [hl], ?_, ((hB8.ex (e9.trans e10)).step c10 fun y hy z => hpo (by rw [← List.mem_singleton.1 z]; exact hy)), (c8.trans ((e9.trans e10).ch _)).thenNew c10 fun y hy => .inr (by rw [List.mem_singleton.1 hy]; exact hp0)⟩
    intro x hx
    rcases List.mem_append.1 hx with hx | hx
    · exact hg x hx
    · rw [List.mem_singleton.1 hx]; exact hg9
  · rintro σ' H' ⟨ks, x7, x8, x9, rfl, hk, hl, hg, hB', c'⟩
    rw [Int.toNat_natCast] at hl hB'
    exact r_ret (r_var rfl (q H' p ks hB' c' hk hp0 hl hg))
end
end CLg
end

section
/-! The box itself, the next key. -/
namespace CLg
open PySem PySem.Spec PyProof.Rows L2 Evl
theorem mk_box (C : Addr) : mergeK [] (boxkv C 0 0 0) = boxkv C 0 0 0 := by kernel_rfl
section
variable {w : World} {K : Kf} {mg : Str → Option Value} {base : Heap}
def spBox (K : Kf) : Sp := fun vs H Q _ => ∃ (a : Addr) (ns : List Int), vs = [.ref a] ∧ SqL K H a (ns.map V.int) ∧ ∀ H2 b, BoxAt H2 b 0 → Ex H H2 → (∀ x ∈ b.own, H x = none) → Q (.ref b.B) H2
theorem sc_f_law_box : FnScope ["_law_script"] ["_law_script"] (defScope x_f_law_box) := ⟨rfl, rfl, rfl, by decide +kernel, rfl, by decide +kernel, by decide +kernel⟩
theorem ok_box (T : Tx K mg) : Fnc PP w K mg base CX0 1 (fA K "_law_box") ["_law_script"] (spBox K) := by
  refine mk0 T.d_f_law_box sc_f_law_box (by rintro _ H Q E ⟨a, ns, rfl, _⟩; rfl) (by intro kV doc pm an cdv ct us h; match us, h with | [_], _ => rfl) ?_
  rintro cdv A outer s0 H _ Q E hr ⟨a, ns, rfl, hs, q⟩
  refine ⟨_, (pss_one (ps_ret (pe_disp (pps_cons pe_str (pe_callTy call_list_of (by rfl) T.b_list (by decide +kernel) (pa_cons (pe_slice sl_list (pv 0) po_none (po_some pe_int)) pa_nil)) (pps_cons pe_str pe_int (pps_cons pe_str pe_int (pps_cons pe_str pe_int pps_nil)))) (by rfl) (by rfl) (fun z => by cases z) (by decide)))), ?_⟩
  refine r_ret fun p hp => ?_
  have s1 : SqL K (upd H p (.dK [])) a (ns.map V.int) := ex_l (Ex.new hp) hs
  refine ⟨_, rfl, 63, rfl, a, ns.map V.int, rfl, s1, fun p1 hp1 => ⟨p1, _, rfl, .inl (SqL.of upd_same), fun p2 hp2 => ?_⟩⟩
  have n1 : p ≠ p1 := fun z => by rw [← z, upd_same] at hp1; cases hp1
  have n2 : p2 ≠ p := fun z => by rw [z, upd_ne n1, upd_same] at hp2; cases hp2
  refine ⟨by rw [upd_ne n2.symm, upd_ne n1, upd_same], boxkv p2 0 0 0, rfl, (show 4 ≤ 15 by decide), ?_⟩
  rw [mk_box]
  have ec : cutV (ns.map V.int) none (some 63) = (ns.take 63).map V.int := by
    unfold cutV
    rw [HT.sIx_none, show (63 : Int) = ((63 : Nat) : Int) from rfl, HT.sIx_nat, List.drop_zero, List.length_map, Nat.sub_zero, ← List.map_take]
    congr 1
    rw [List.take_eq_take_iff]
    omega
  have hp0 : (upd H p (.dK [])) p2 = none := by
    have := hp2
    by_cases z : p2 = p1
    · rw [z, upd_same] at this; cases this
    · rw [upd_ne z] at this; exact this
  have hp20 : H p2 = none := by rw [upd_ne n2] at hp0; exact hp0
  refine q _ ⟨p, p2⟩ ⟨ns.take 63, 0, 0, 0, ⟨n2.symm, upd_same, ?_, by simp; omega, Int.le_refl _, Int.le_refl _, by decide, Int.le_refl _⟩, Int.le_refl _⟩ ?_ ?_
  · rw [upd_ne n2, upd_same, ec]
  · exact (((Ex.new hp).trans (Ex.new hp1)).trans (Ex.new hp2)).mut hp
  · intro x m
    simp only [Bx.own, List.mem_cons, List.not_mem_nil, or_false] at m
    rcases m with rfl | rfl
    · exact hp
    · exact hp20
def spNext (K : Kf) : Sp := fun vs H Q _ => ∃ (b : Bx) (T : Nat) (p : Addr) (ks : List Str) (nm : Str), vs = [.ref b.B, .ref p, .str nm] ∧ BoxAt H b T ∧ T ≤ 900000 ∧ H p = some (.lst (ks.map V.str)) ∧ p ∉ b.own ∧ 1 ≤ ks.length ∧ ks.length ≤ 100 ∧ (∀ k ∈ ks, GoodK k) ∧ GoodK nm ∧ ∀ H2 k, BoxAt H2 b (T + 2) → Ch b.own H H2 → GoodK k → Q (.str k) H2
theorem sc_f_law_next : FnScope ["_law_box_here", "_law_names_here", "_law_name"] ["_law_box_here", "_law_names_here", "_law_name"] (defScope x_f_law_next) := ⟨rfl, rfl, rfl, by decide +kernel, rfl, by decide +kernel, by decide +kernel⟩
theorem ok_next (T : Tx K mg) : Fnc PP w K mg base CX0 2 (fA K "_law_next") ["_law_box_here", "_law_names_here", "_law_name"] (spNext K) := by
  refine mk0 T.d_f_law_next sc_f_law_next (by rintro _ H Q E ⟨b, T, p, ks, nm, rfl, _⟩; rfl) (by intro kV doc pm an cdv ct us h; match us, h with | [_, _, _], _ => rfl) ?_
  rintro cdv A outer s0 H _ Q E hr ⟨b, N, p, ks, nm, rfl, hB, hN, hp, np, l1, l2, hg, hn, q⟩
  refine ⟨_, (pss_cons (ps_if (pt_cmpR op_eq (pe_f (ok_draw T) T.g_law_draw hr pass0 (pa_cons (pv 0) (pa_cons pe_int pa_nil))) pe_int (nomark _)) (pss_one (ps_ret (pv 2))) pss_nil)
    (pss_one (ps_ret (pe_ix ix_list (pv 1) (pe_f (ok_draw T) T.g_law_draw hr pass0 (pa_cons (pv 0) (pa_cons (pe_callB call_len_seq (by rfl) T.b_len PySem.boot_len (pa_cons (pv 1) pa_nil)) pa_nil))) (fun _ _ => rfl))))), ?_⟩
  refine r_seq (r_ifS (r_test (r_op (r_draw (ev_var rfl) ev_c hB (by omega) (by decide) (by decide) fun H1 r1 hB1 c1 hr1 => ⟨rfl, _, rfl, iteD (fun _ => ?_) fun _ => ?_⟩))))
  · exact r_ret (r_var rfl (q H1 nm (hB1.mono (by omega)) c1 hn))
  · have hp1 := c1.at hp np
    refine r_ret (r_op (r_var rfl (r_draw (ev_var rfl) (ev_len (ev_var rfl) (SqL.of hp1)) hB1 (by omega) (by rw [List.length_map]; omega) (by rw [List.length_map]; omega) fun H2 r2 hB2 c2 hr2 => ?_)))
    rw [List.length_map] at hr2
    have hi : r2 < ks.length := by omega
    refine r_ixL (SqL.of (c2.at hp1 np)) (atI_nat (by rw [List.getElem?_map, List.getElem?_eq_getElem hi]; rfl)) (q H2 ks[r2] hB2 (c1.trans c2) (hg _ (List.getElem_mem hi)))
end
end CLg
end

section
/-! The law's list of segments: what only reads. -/
namespace CLg
open PySem PySem.Spec PyProof.Rows L2 Evl
theorem mv_rows (a : Md) (t : Tm) (c : Ct) (hd : Nat) : valV (mkv a t c hd) (Sum.inr "rows") = some (.ref a.A) := by kernel_rfl
theorem mv_head (a : Md) (t : Tm) (c : Ct) (hd : Nat) : valV (mkv a t c hd) (Sum.inr "head") = some (.int (hd : Int)) := by kernel_rfl
theorem mv_born (a : Md) (t : Tm) (c : Ct) (hd : Nat) : valV (mkv a t c hd) (Sum.inr "born") = some (.ref a.B) := by kernel_rfl
theorem mv_frees (a : Md) (t : Tm) (c : Ct) (hd : Nat) : valV (mkv a t c hd) (Sum.inr "frees") = some (.ref a.F) := by kernel_rfl
theorem mv_deeds (a : Md) (t : Tm) (c : Ct) (hd : Nat) : valV (mkv a t c hd) (Sum.inr "deeds") = some (.int (c.deeds : Int)) := by kernel_rfl
theorem mv_moved (a : Md) (t : Tm) (c : Ct) (hd : Nat) : valV (mkv a t c hd) (Sum.inr "moved") = some (.int (c.moved : Int)) := by kernel_rfl
theorem mv_waits (a : Md) (t : Tm) (c : Ct) (hd : Nat) : valV (mkv a t c hd) (Sum.inr "waits") = some (.int (c.waits : Int)) := by kernel_rfl
theorem mv_wide (a : Md) (t : Tm) (c : Ct) (hd : Nat) : valV (mkv a t c hd) (Sum.inr "wide") = some (.int (t.wide : Int)) := by kernel_rfl
theorem mv_bound (a : Md) (t : Tm) (c : Ct) (hd : Nat) : valV (mkv a t c hd) (Sum.inr "bound") = some (.int t.bound) := by kernel_rfl
theorem mv_load (a : Md) (t : Tm) (c : Ct) (hd : Nat) : valV (mkv a t c hd) (Sum.inr "load") = some (.int (t.load : Int)) := by kernel_rfl
theorem mv_first (a : Md) (t : Tm) (c : Ct) (hd : Nat) : valV (mkv a t c hd) (Sum.inr "first") = some (.bl t.first) := by kernel_rfl
theorem mk_len {a : Md} {t : Tm} {c : Ct} {hd : Nat} : (mkv a t c hd).length < sizeLine := show 11 < sizeLine by decide
theorem mp_rows (a : Md) (t : Tm) (c : Ct) (hd : Nat) (x : Addr) : putK (mkv a t c hd) (Sum.inr "rows") (.ref x) = mkv { a with A := x } t c hd := by kernel_rfl
theorem mp_head (a : Md) (t : Tm) (c : Ct) (hd x : Nat) : putK (mkv a t c hd) (Sum.inr "head") (.int (x : Int)) = mkv a t c x := by kernel_rfl
theorem mp_born (a : Md) (t : Tm) (c : Ct) (hd : Nat) (x : Addr) : putK (mkv a t c hd) (Sum.inr "born") (.ref x) = mkv { a with B := x } t c hd := by kernel_rfl
theorem mp_frees (a : Md) (t : Tm) (c : Ct) (hd : Nat) (x : Addr) : putK (mkv a t c hd) (Sum.inr "frees") (.ref x) = mkv { a with F := x } t c hd := by kernel_rfl
theorem mp_deeds (a : Md) (t : Tm) (c : Ct) (hd x : Nat) : putK (mkv a t c hd) (Sum.inr "deeds") (.int (x : Int)) = mkv a t { c with deeds := x } hd := by kernel_rfl
theorem mp_moved (a : Md) (t : Tm) (c : Ct) (hd x : Nat) : putK (mkv a t c hd) (Sum.inr "moved") (.int (x : Int)) = mkv a t { c with moved := x } hd := by kernel_rfl
theorem mp_waits (a : Md) (t : Tm) (c : Ct) (hd x : Nat) : putK (mkv a t c hd) (Sum.inr "waits") (.int (x : Int)) = mkv a t { c with waits := x } hd := by kernel_rfl
theorem mk_mrg (a : Md) (t : Tm) (c : Ct) (hd : Nat) : mergeK [] (mkv a t c hd) = mkv a t c hd := by kernel_rfl
section
variable {w : World} {K : Kf} {mg : Str → Option Value} {base : Heap}
def spMAlive : Sp := fun vs H Q _ => ∃ (a : Addr) (r : List (Option Str)), vs = [.ref a] ∧ Row true H a r ∧ r.length ≤ 8 ∧ RetV (.int (alive r : Int)) H Q
theorem spv_malive {H : Hp} {a : Addr} {r : List (Option Str)} (h : Row true H a r) (l : r.length ≤ 8) : SpV spMAlive [.ref a] H (.int (alive r : Int)) := fun H1 e Q q E => ⟨a, r, rfl, h.step (e.ch []) (by simp), l, q⟩
theorem sc_f_law_alive : FnScope ["_law_row", "_law_one"] ["_law_row"] (defScope x_f_law_alive) := ⟨rfl, rfl, rfl, by decide +kernel, rfl, by decide +kernel, by decide +kernel⟩
theorem ok_malive (T : Tx K mg) : Fnc PP w K mg base CX0 1 (fA K "_law_alive") ["_law_row"] spMAlive := by
  refine mk0 T.d_f_law_alive sc_f_law_alive (by rintro _ H Q E ⟨a, r, rfl, _⟩; rfl) (by intro kV doc pm an cdv ct us h; match us, h with | [_], _ => rfl) ?_
  rintro cdv A outer s0 H _ Q E hr ⟨a, r, rfl, ⟨xs, h3, h4⟩, hl, q⟩
  have nd := sc_f_law_alive.nd
  refine ⟨_, (pss_one (ps_ret (pe_callB call_len_seq (by rfl) T.b_len PySem.boot_len (pa_cons (pe_lc (own := [("_law_one", 1)]) (g := gName 1) rfl nd (pi_list (pv 0)) (blkOk_by (N := ["_law_row", "_law_one"]) (sc := defScope x_f_law_alive) (by decide +kernel)) (fun _ _ _ _ _ => (pg_name (i := 1) nd rfl (Or.inl rfl))) (fun _ _ _ _ _ => (pts_one (pt_cmpR op_notN (pv 1) pe_non (nomark _)))) (fun _ _ _ _ _ => (pv 1))) pa_nil)))), ?_⟩
  refine s_ret (v := .int ((given xs.length (fun i => (r.getD i none).isSome) (fun i => xs.getD i .non)).length : Int)) (ev_lenN (el_lcL (fun i => (r.getD i none).isSome) (fun i => xs.getD i .non) (ev_var rfl) (SqL.of h3) (by rw [h4.1]; omega) (fun _ => rfl) ?_ ?_)) ?_
  · intro i x H1 e hx
    refine et_is (et_B (ev_op (ev_var rfl) ev_c rv_notN)) ?_
    have hi : i < r.length := by rw [← h4.1]; exact (List.getElem?_eq_some_iff.1 hx).1
    have := (h4.getD hi).isN
    rw [List.getD_eq_getElem?_getD, hx] at this
    rw [show decide (x = .non) = !(r.getD i none).isSome from this]
    simp
  · intro i x H1 e hx _
    rw [List.getD_eq_getElem?_getD, hx]
    exact ev_var rfl
  · rw [given_len', h4.1]
    exact q
def spMShut : Sp := fun vs H Q _ => ∃ a t c g, vs = [.ref a.M] ∧ MdAt H a t c g ∧ RetL (vns (shut g)) H Q
theorem spl_mshut {H : Hp} {a : Md} {t : Tm} {c : Ct} {g : Lg} (h : MdAt H a t c g) : SpL spMShut [.ref a.M] H (vns (shut g)) := fun H1 e Q q E => ⟨a, t, c, g, rfl, h.ex e, q⟩
theorem sc_f_law_shut : FnScope ["_law_model_here", "_law_rows", "_law_spot"] ["_law_model_here"] (defScope x_f_law_shut) := ⟨rfl, rfl, rfl, by decide +kernel, rfl, by decide +kernel, by decide +kernel⟩
theorem ok_mshut (T : Tx K mg) : Fnc PP w K mg base CX0 2 (fA K "_law_shut") ["_law_model_here"] spMShut := by
  refine mk0 T.d_f_law_shut sc_f_law_shut (by rintro _ H Q E ⟨a, t, c, g, rfl, _⟩; rfl) (by intro kV doc pm an cdv ct us h; match us, h with | [_], _ => rfl) ?_
  rintro cdv A outer s0 H _ Q E hr ⟨a, t, c, g, rfl, h, q⟩
  have nd := sc_f_law_shut.nd
  have hu := hu_of hr
  refine ⟨_, (pss_cons (ps_set (i := 1) nd rfl (by first | exact Or.inl rfl | exact Or.inr rfl) (pe_dget hu (pv 0) pe_str (fun _ _ => rfl)))
    (pss_one (ps_ret (pe_lc (own := [("_law_spot", 2)]) (g := gName 2) (tt := tAnd (tTest (tOp rNe (tVar 2) (tDGet (tVar 0) (tC (.str "head"))))) (tTest (tOp (rI0 fun i j => .bl (decide (i > j))) (tCall spMAlive [] E0 (tCons (tOp (rIxL K) (tVar 1) (tVar 2)) tNil)) (tC (.int 0))))) rfl nd (pi_range1 rfl T.b_range (pa_cons (pe_callB call_len_seq (by rfl) T.b_len PySem.boot_len (pa_cons (pv 1) pa_nil)) pa_nil)) (blkOk_by (N := ["_law_model_here", "_law_rows", "_law_spot"]) (sc := defScope x_f_law_shut) (by decide +kernel)) (fun _ _ _ _ _ => (pg_name (i := 2) nd rfl (Or.inl rfl))) (fun _ _ _ _ _ => (pts_one (PW.pt (pw_and (pt_cmpR op_ne (pv 2) (pe_dget hu (pv 0) pe_str (fun _ _ => rfl)) (nomark _)) (pw_and1 (pt_cmpR op_gt (pe_f (ok_malive T) T.g_law_alive hr pass0 (pa_cons (pe_ix ix_list (pv 1) (pv 2) (fun _ _ => rfl)) pa_nil)) pe_int (nomark _))))))) (fun _ _ _ _ _ => (pv 2)))))), ?_⟩
  refine q_asg (ev_dget (ev_var rfl) ev_c h.obj (mv_rows ..)) fun H1 e1 => ?_
  have h1 := h.ex e1
  have n8 := h.ok.n8
  have nlen : (a.as.map V.ref).length = g.rows.length := by rw [List.length_map, h.rw.len]
  refine s_retL (xs := vns (shut g)) ?_ fun p H2 hp e2 h2 => RetL.go q e1 hp e2 h2
  rw [show vns (shut g) = given (g.rows.length : Int).toNat (fun s => decide (s ≠ g.head) && decide (0 < alive (g.row s))) (fun i => .int (i : Int)) from by rw [Int.toNat_natCast, given_vns]; rfl]
  refine el_lcR1 _ _ (ea_cons (ev_is (ev_len (ev_var rfl) (SqL.of h1.rw.at_)) (by rw [nlen])) ea_nil) (by omega) (fun _ => rfl) ?_ (fun i H2 e2 hi _ => ev_var rfl)
  intro i H2 e2 hi
  have hi : i < g.rows.length := by omega
  have h2 := h1.ex e2
  obtain ⟨x, xs, k1, k2, k3, k4, _⟩ := h2.rw.get hi
  refine et_and (et_is (et_B (ev_op (ev_var rfl) (ev_dget (ev_var rfl) ev_c h2.obj (mv_head ..)) (rv_ne rfl))) ?_) fun _ => et_is (et_B (ev_op (ev_call (ea_cons (ev_op (ev_var rfl) (ev_var rfl) (rv_ixL (SqL.of h2.rw.at_) (atI_nat k2))) ea_nil) (spv_malive (r := g.row i) ⟨xs, k3, k4⟩ (Nat.le_trans (h.ok.le i) h.ok.w8))) ev_c rv_I0)) ?_
  · by_cases z : i = g.head
    · simp [z]
    · simp [z]
      omega
  · rw [Bool.eq_iff_iff, decide_eq_true_iff, decide_eq_true_iff]
    omega
def spMEmpty : Sp := fun vs H Q _ => ∃ a t c g, vs = [.ref a.M] ∧ MdAt H a t c g ∧ RetL (vns (empt g)) H Q
theorem spl_mempty {H : Hp} {a : Md} {t : Tm} {c : Ct} {g : Lg} (h : MdAt H a t c g) : SpL spMEmpty [.ref a.M] H (vns (empt g)) := fun H1 e Q q E => ⟨a, t, c, g, rfl, h.ex e, q⟩
theorem sc_f_law_empty : FnScope ["_law_model_here", "_law_rows", "_law_spot"] ["_law_model_here"] (defScope x_f_law_empty) := ⟨rfl, rfl, rfl, by decide +kernel, rfl, by decide +kernel, by decide +kernel⟩
theorem ok_mempty (T : Tx K mg) : Fnc PP w K mg base CX0 1 (fA K "_law_empty") ["_law_model_here"] spMEmpty := by
  refine mk0 T.d_f_law_empty sc_f_law_empty (by rintro _ H Q E ⟨a, t, c, g, rfl, _⟩; rfl) (by intro kV doc pm an cdv ct us h; match us, h with | [_], _ => rfl) ?_
  rintro cdv A outer s0 H _ Q E hr ⟨a, t, c, g, rfl, h, q⟩
  have nd := sc_f_law_empty.nd
  have hu := hu_of hr
  refine ⟨_, (pss_cons (ps_set (i := 1) nd rfl (by first | exact Or.inl rfl | exact Or.inr rfl) (pe_dget hu (pv 0) pe_str (fun _ _ => rfl)))
    (pss_one (ps_ret (pe_lc (own := [("_law_spot", 2)]) (g := gName 2) (tt := tTest (tOp rEq (tCB (rLenS K) (tCons (tOp (rIxL K) (tVar 1) (tVar 2)) tNil)) (tC (.int 0)))) rfl nd (pi_range1 rfl T.b_range (pa_cons (pe_callB call_len_seq (by rfl) T.b_len PySem.boot_len (pa_cons (pv 1) pa_nil)) pa_nil)) (blkOk_by (N := ["_law_model_here", "_law_rows", "_law_spot"]) (sc := defScope x_f_law_empty) (by decide +kernel)) (fun _ _ _ _ _ => (pg_name (i := 2) nd rfl (Or.inl rfl))) (fun _ _ _ _ _ => (pts_one (pt_cmpR op_eq (pe_callB call_len_seq (by rfl) T.b_len PySem.boot_len (pa_cons (pe_ix ix_list (pv 1) (pv 2) (fun _ _ => rfl)) pa_nil)) pe_int (nomark _)))) (fun _ _ _ _ _ => (pv 2)))))), ?_⟩
  refine q_asg (ev_dget (ev_var rfl) ev_c h.obj (mv_rows ..)) fun H1 e1 => ?_
  have h1 := h.ex e1
  have n8 := h.ok.n8
  have nlen : (a.as.map V.ref).length = g.rows.length := by rw [List.length_map, h.rw.len]
  refine s_retL (xs := vns (empt g)) ?_ fun p H2 hp e2 h2 => RetL.go q e1 hp e2 h2
  rw [show vns (empt g) = given (g.rows.length : Int).toNat (fun s => decide ((g.row s).length = 0)) (fun i => .int (i : Int)) from by rw [Int.toNat_natCast, given_vns]; rfl]
  refine el_lcR1 _ _ (ea_cons (ev_is (ev_len (ev_var rfl) (SqL.of h1.rw.at_)) (by rw [nlen])) ea_nil) (by omega) (fun _ => rfl) ?_ (fun i H2 e2 hi _ => ev_var rfl)
  intro i H2 e2 hi
  have hi : i < g.rows.length := by omega
  have h2 := h1.ex e2
  obtain ⟨x, xs, k1, k2, k3, k4, _⟩ := h2.rw.get hi
  refine et_is (et_B (ev_op (ev_len (ev_op (ev_var rfl) (ev_var rfl) (rv_ixL (SqL.of h2.rw.at_) (atI_nat k2))) (SqL.of k3)) ev_c (rv_eq rfl))) ?_
  rw [k4.1]
  rw [Bool.eq_iff_iff, decide_eq_true_iff, decide_eq_true_iff]
  show V.int ((g.row i).length : Int) = V.int 0 ↔ _
  constructor
  · intro z
    injection z with z
    omega
  · intro z
    rw [z]; rfl
def spMRoom : Sp := fun vs H Q _ => ∃ a t c g, vs = [.ref a.M] ∧ MdAt H a t c g ∧ RetV (.int (room t.wide g)) H Q
theorem spv_mroom {H : Hp} {a : Md} {t : Tm} {c : Ct} {g : Lg} (h : MdAt H a t c g) : SpV spMRoom [.ref a.M] H (.int (room t.wide g)) := fun H1 e Q q E => ⟨a, t, c, g, rfl, h.ex e, q⟩
theorem sc_f_law_room : FnScope ["_law_model_here", "_law_others", "_law_spot"] ["_law_model_here"] (defScope x_f_law_room) := ⟨rfl, rfl, rfl, by decide +kernel, rfl, by decide +kernel, by decide +kernel⟩
theorem ok_mroom (T : Tx K mg) : Fnc PP w K mg base CX0 2 (fA K "_law_room") ["_law_model_here"] spMRoom := by
  refine mk0 T.d_f_law_room sc_f_law_room (by rintro _ H Q E ⟨a, t, c, g, rfl, _⟩; rfl) (by intro kV doc pm an cdv ct us h; match us, h with | [_], _ => rfl) ?_
  rintro cdv A outer s0 H _ Q E hr ⟨a, t, c, g, rfl, h, q⟩
  have nd := sc_f_law_room.nd
  have hu := hu_of hr
  refine ⟨_, (pss_cons (ps_setLc (i := 1) (own := [("_law_spot", 2)]) (g := gName 2) (tt := tTest (tOp rNe (tVar 2) (tDGet (tVar 0) (tC (.str "head"))))) rfl nd rfl rfl (sw_true rfl rfl rfl (by decide +kernel)) (pi_list (pe_f (ok_mempty T) T.g_law_empty hr pass0 (pa_cons (pv 0) pa_nil))) (blkOk_by (N := ["_law_model_here", "_law_others", "_law_spot"]) (sc := defScope x_f_law_room) (by decide +kernel)) (fun _ _ _ _ _ => (pg_name (i := 2) nd rfl (Or.inl rfl))) (fun _ _ _ _ _ => (pts_one (pt_cmpR op_ne (pv 2) (pe_dget hu (pv 0) pe_str (fun _ _ => rfl)) (nomark _)))) (fun _ _ _ _ _ => (pv 2)))
    (pss_one (ps_ret (pe_op op_add (pe_op op_sub (pe_dget hu (pv 0) pe_str (fun _ _ => rfl)) (pe_callB call_len_seq (by rfl) T.b_len PySem.boot_len (pa_cons (pe_ix ix_list (pe_dget hu (pv 0) pe_str (fun _ _ => rfl)) (pe_dget hu (pv 0) pe_str (fun _ _ => rfl)) (fun _ _ => rfl)) pa_nil))) (pe_op op_mul (pe_dget hu (pv 0) pe_str (fun _ _ => rfl)) (pe_callB call_len_seq (by rfl) T.b_len PySem.boot_len (pa_cons (pv 1) pa_nil))))))), ?_⟩
  have n8 := h.ok.n8
  have el := empt_len (g := g)
  refine q_asgL (xs := vns (free g)) ?_ fun p H1 hp e1 h1 => ?_
  · rw [free_eq, ← given_filter, show given (empt g).length = given (vns (empt g)).length from by rw [vns_len]]
    refine el_lcNL _ _ (el_call (ea_cons (ev_var rfl) ea_nil) (spl_mempty h)) (by rw [vns_len]; omega) (fun _ => rfl) ?_ ?_
    · intro i x H2 e2 hx
      obtain ⟨m, hm, rfl⟩ := vns_inv hx
      rw [getD_some hm]
      refine et_is (et_B (ev_op (ev_var rfl) (ev_dget (ev_var rfl) ev_c (h.ex e2).obj (mv_head ..)) (rv_ne rfl))) ?_
      by_cases z : m = g.head
      · simp [z]
      · simp [z]
        omega
    · intro i x H2 e2 hx _
      obtain ⟨m, hm, rfl⟩ := vns_inv hx
      rw [getD_some hm]
      exact ev_var rfl
  have hm1 := h.ex e1
  obtain ⟨x, xs, k1, k2, k3, k4, _⟩ := hm1.rw.get h.ok.hd
  have w8 := h.ok.w8
  refine s_ret (ev_is (ev_op (ev_op (ev_dget (ev_var rfl) ev_c hm1.obj (mv_wide ..)) (ev_len (ev_op (ev_dget (ev_var rfl) ev_c hm1.obj (mv_rows ..)) (ev_dget (ev_var rfl) ev_c hm1.obj (mv_head ..)) (rv_ixL (SqL.of hm1.rw.at_) (atI_nat k2))) (SqL.of k3)) rv_I0) (ev_op (ev_dget (ev_var rfl) ev_c hm1.obj (mv_wide ..)) (ev_len (ev_var rfl) (SqL.of h1)) (rv_I (.inl ⟨by omega, by omega⟩))) rv_I0) ?_) fun H2 e2 => q H2 (e1.trans e2)
  rw [vns_len, k4.1]
  rfl
end
end CLg
end

section
/-! The law's list of segments: write, kill. -/
namespace CLg
open PySem PySem.Spec PyProof.Rows L2 Evl
section
variable {H H' : Hp} {a : Md} {t : Tm} {c : Ct} {g : Lg} {p : Addr} {s : Nat} {r : List (Option Str)} {xs xs' : List V}
theorem MdAt.free_of (h : MdAt H a t c g) (e : H p = none) : p ∉ a.own := fun m => h.tr p m e
theorem MdAt.mem (h : MdAt H a t c g) (e : a.as[s]? = some p) : p ∈ a.own := by
  have := List.mem_of_getElem? e
  simp [Md.own, this]
theorem MdAt.sep (h : MdAt H a t c g) (m : p ∈ a.A :: a.as) : a.M ≠ p ∧ a.B ≠ p ∧ a.F ≠ p := by
  have z := (List.nodup_append.1 h.nd).2.2
  exact ⟨z _ (by simp) p m, z _ (by simp) p m, z _ (by simp) p m⟩
theorem MdAt.sep2 (h : MdAt H a t c g) : a.M ≠ a.B ∧ a.M ≠ a.F ∧ a.B ≠ a.F := by
  have z := (List.nodup_append.1 h.nd).1
  simp at z
  exact ⟨z.1.1, z.1.2, z.2⟩
theorem MdAt.chg (h : MdAt H a t c g) (e : a.as[s]? = some p) (q : H p = some (.lst xs)) (d : Cells true (upd H p (.lst xs')) r xs') (hr : r.length ≤ t.wide) :
    MdAt (upd H p (.lst xs')) a t c { rows := g.rows.set s r, head := g.head, frees := g.frees } ∧ Ch a.own H (upd H p (.lst xs')) := by
  have m := List.mem_of_getElem? e
  have k : Ch [p] H (upd H p (.lst xs')) := Ch.updL q _ (by simp)
  obtain ⟨z1, z2, z3⟩ := h.sep (p := p) (by simp [m])
  obtain ⟨bs, b1, b2⟩ := h.bn
  have hs : s < g.rows.length := by rw [← h.rw.len]; exact (List.getElem?_eq_some_iff.1 e).1
  exact ⟨⟨h.nd, by rw [upd_ne z1]; exact h.obj, ⟨bs, by rw [upd_ne z2]; exact b1, by show bs.length = (g.rows.set s r).length; rw [List.length_set]; exact b2⟩, by rw [upd_ne z3]; exact h.fr, h.rw.chg e k upd_same d, ok_set h.ok hs hr h.ok.fr⟩, Ch.updL q _ (h.mem e)⟩
theorem MdAt.fresh (h : MdAt H a t c g) (hs : s < g.rows.length) (e : H p = none) (q : H' p = some (.lst [])) (x : Ex H H') :
    MdAt (upd H' a.A (.lst ((a.as.map V.ref).set s (.ref p)))) { a with as := a.as.set s p } t c { rows := g.rows.set s [], head := g.head, frees := g.frees } ∧ Stp a.own H ({ a with as := a.as.set s p } : Md).own (upd H' a.A (.lst ((a.as.map V.ref).set s (.ref p)))) := by
  obtain ⟨z1, z2, z3⟩ := h.sep (p := a.A) (by simp)
  have np := h.free_of e
  have k : Ch [a.A] H (upd H' a.A (.lst ((a.as.map V.ref).set s (.ref p)))) := (x.ch _).trans (Ch.updL (x _ _ h.rw.at_) _ (by simp))
  have hx := h.ex x
  obtain ⟨bs, b1, b2⟩ := hx.bn
  have pA : p ≠ a.A := fun z => np (by simp [z, Md.own])
  refine ⟨⟨own_set h.nd np s, by rw [upd_ne z1]; exact hx.obj, ⟨bs, by rw [upd_ne z2]; exact b1, by show bs.length = (g.rows.set s []).length; rw [List.length_set]; exact b2⟩, by rw [upd_ne z3]; exact hx.fr,
    h.rw.fresh hs e k upd_same (by rw [upd_ne pA]; exact q) Cells.nil, ok_set h.ok hs (Nat.zero_le _) h.ok.fr⟩, k.mono fun b m => .inl (by rw [List.mem_singleton.1 m]; simp [Md.own]), fun b m => ?_⟩
  have m : b ∈ [a.M, a.B, a.F] ++ (a.A :: a.as.set s p) := m
  simp only [List.mem_append, List.mem_cons, List.not_mem_nil, or_false] at m
  rcases m with (m | m | m) | m | m
  · left; simp [Md.own, m]
  · left; simp [Md.own, m]
  · left; simp [Md.own, m]
  · left; simp [Md.own, m]
  · rcases List.mem_or_eq_of_mem_set m with m | m
    · left; simp [Md.own, m]
    · right; rw [m]; exact e
theorem MdAt.frs (h : MdAt H a t c g) {f : List Nat} (hf : f.length = g.rows.length) : MdAt (upd H a.F (.lst (vns f))) a t c { rows := g.rows, head := g.head, frees := f } ∧ Ch a.own H (upd H a.F (.lst (vns f))) := by
  have z := h.sep2
  have k : Ch [a.F] H (upd H a.F (.lst (vns f))) := Ch.updL h.fr _ (by simp)
  obtain ⟨bs, b1, b2⟩ := h.bn
  exact ⟨⟨h.nd, by rw [upd_ne z.2.1]; exact h.obj, ⟨bs, by rw [upd_ne z.2.2]; exact b1, b2⟩, upd_same, h.rw.step k fun b m n => (h.sep m).2.2 (List.mem_singleton.1 n).symm, ⟨h.ok.n1, h.ok.n8, h.ok.w1, h.ok.w8, h.ok.hd, hf, h.ok.le⟩⟩, Ch.updL h.fr _ (by simp [Md.own])⟩
/-- the dict changes: the head or a counter -/
theorem MdAt.dict (h : MdAt H a t c g) {c' : Ct} {x : Nat} (hx : x < g.rows.length) (k : Ch [a.M] H H') (e : H' a.M = some (.dK (mkv a t c' x))) : MdAt H' a t c' { rows := g.rows, head := x, frees := g.frees } := by
  have z := h.sep2
  obtain ⟨bs, b1, b2⟩ := h.bn
  exact ⟨h.nd, e, ⟨bs, k.at b1 (by simp [z.1.symm]), b2⟩, k.at h.fr (by simp [z.2.1.symm]), h.rw.step k fun b m n => (h.sep m).1 (List.mem_singleton.1 n).symm, ⟨h.ok.n1, h.ok.n8, h.ok.w1, h.ok.w8, hx, h.ok.fr, h.ok.le⟩⟩
theorem MdAt.born (h : MdAt H a t c g) {bs bs' : List Int} (e : H a.B = some (.lst (bs.map V.int))) (hb : bs'.length = g.rows.length) : MdAt (upd H a.B (.lst (bs'.map V.int))) a t c g ∧ Ch a.own H (upd H a.B (.lst (bs'.map V.int))) := by
  have z := h.sep2
  have k : Ch [a.B] H (upd H a.B (.lst (bs'.map V.int))) := Ch.updL e _ (by simp)
  exact ⟨⟨h.nd, by rw [upd_ne z.1]; exact h.obj, ⟨bs', upd_same, hb⟩, by rw [upd_ne z.2.2.symm]; exact h.fr, h.rw.step k fun b m n => (h.sep m).2.1 (List.mem_singleton.1 n).symm, h.ok⟩, Ch.updL e _ (by simp [Md.own])⟩
end
def MdTo (H : Hp) (a : Md) (t : Tm) (c : Ct) (g : Lg) (R : Hp → Prop) : Prop := ∀ H2 a2, MdAt H2 a2 t c g → a2.M = a.M → Stp a.own H a2.own H2 → R H2
theorem MdTo.ex {H H1 : Hp} {a : Md} {t : Tm} {c : Ct} {g : Lg} {R : Hp → Prop} (q : MdTo H a t c g R) (e : Ex H H1) : MdTo H1 a t c g R := fun H2 a2 h e2 s => q H2 a2 h e2 ((Stp.ex e).trans s)
theorem MdTo.step {H H1 : Hp} {a a1 : Md} {t : Tm} {c : Ct} {g : Lg} {R : Hp → Prop} (q : MdTo H a t c g R) (e : a1.M = a.M) (s : Stp a.own H a1.own H1) : MdTo H1 a1 t c g R := fun H2 a2 h e2 s2 => q H2 a2 h (e2.trans e) (s.trans s2)
theorem cellM {H : Hp} {k : Str} {tu : Addr} {x : V} (h : H tu = some (.tup [.str k, x])) : Cell true H (some k) (.ref tu) := by
  unfold Cell
  simp only [if_true]
  exact ⟨tu, x, rfl, h⟩
section
variable {w : World} {K : Kf} {mg : Str → Option Value} {base : Heap}
def spMWrite : Sp := fun vs H Q _ => ∃ (a : Md) (t : Tm) (c : Ct) (g : Lg) (tu : Addr) (k : Str) (x : V), vs = [.ref a.M, .ref tu] ∧ MdAt H a t c g ∧ H tu = some (.tup [.str k, x]) ∧ (room t.wide g = 0 → RetV (.bl false) H Q) ∧ (room t.wide g ≠ 0 → MdTo H a t c (write t.wide k g) (Q (.bl true)))
theorem sc_f_law_write : FnScope ["_law_model_here", "_law_one"] ["_law_model_here", "_law_one"] (defScope x_f_law_write) := ⟨rfl, rfl, rfl, by decide +kernel, rfl, by decide +kernel, by decide +kernel⟩
theorem ok_mwrite (T : Tx K mg) : Fnc PP w K mg base CX0 3 (fA K "_law_write") ["_law_model_here", "_law_one"] spMWrite := by
  refine mk0 T.d_f_law_write sc_f_law_write (by rintro _ H Q E ⟨a, t, c, g, tu, k, x, rfl, _⟩; rfl) (by intro kV doc pm an cdv ct us h; match us, h with | [_, _], _ => rfl) ?_
  rintro cdv A outer s0 H _ Q E hr ⟨a, t, c, g, tu, k, x, rfl, h, htu, q0, q⟩
  have nd := sc_f_law_write.nd
  have hu := hu_of hr
  refine ⟨_, (pss_cons (ps_if (pt_cmpR op_eq (pe_f (ok_mroom T) T.g_law_room hr pass0 (pa_cons (pv 0) pa_nil)) pe_int (nomark _)) (pss_one (ps_ret pe_bl)) pss_nil)
    (pss_cut (ps_if (pt_cmpR op_eq (pe_callB call_len_seq (by rfl) T.b_len PySem.boot_len (pa_cons (pe_ix ix_list (pe_dget hu (pv 0) pe_str (fun _ _ => rfl)) (pe_dget hu (pv 0) pe_str (fun _ _ => rfl)) (fun _ _ => rfl)) pa_nil)) (pe_dget hu (pv 0) pe_str (fun _ _ => rfl)) (nomark _)) (pss_cons (ps_dput hu (pv 0) pe_str (pe_ix ix_list (pe_f (ok_mempty T) T.g_law_empty (hr.mono (by decide)) pass0 (pa_cons (pv 0) pa_nil)) pe_int (fun _ _ => rfl)) rfl)
      (pss_one (ps_asg (pe_op op_add (pe_callB (cr_max rfl) (by rfl) T.b_max (by decide +kernel) (pa_cons (pe_dget hu (pv 0) pe_str (fun _ _ => rfl)) pa_nil)) pe_int) (pg_sub (pe_dget hu (pv 0) pe_str (fun _ _ => rfl)) (pe_dget hu (pv 0) pe_str (fun _ _ => rfl)) set_list)))) pss_nil)
    (pss_cons (ps_expr (pe_bm PySem.F.plainAttrs_list PySem.F.slot_list_append PySem.F.type_list_append mt_append (pe_ix ix_list (pe_dget hu (pv 0) pe_str (fun _ _ => rfl)) (pe_dget hu (pv 0) pe_str (fun _ _ => rfl)) (fun _ _ => rfl)) (pa_cons (pv 1) pa_nil)))
    (pss_one (ps_ret pe_bl))))), ?_⟩
  refine q_when (et_B (ev_op (ev_call (ea_cons (ev_var rfl) ea_nil) (spv_mroom h)) ev_c (rv_eq rfl))) ?_ ?_
  · intro hb H1 e1
    have hz : room t.wide g = 0 := by
      have z := of_decide_eq_true hb
      injection z with z
    exact s_ret ev_c fun H2 e2 => q0 hz H2 (e1.trans e2)
  intro hb H1 e1
  have hroom : room t.wide g ≠ 0 := fun z => by
    have y := of_decide_eq_false hb
    rw [z] at y
    exact y rfl
  have q := q hroom
  have h1 := h.ex e1
  obtain ⟨b, xs, k1, k2, k3, k4, _⟩ := h1.rw.get h.ok.hd
  refine q_cut (M := fun σ' H' => ∃ a', σ' = [some (.ref a.M), some (.ref tu)] ∧ MdAt H' a' t c (turn t.wide g) ∧ a'.M = a.M ∧ Stp a.own H a'.own H') ?_ ?_
  · refine s_when (et_B (ev_op (ev_len (ev_op (ev_dget (ev_var rfl) ev_c h1.obj (mv_rows ..)) (ev_dget (ev_var rfl) ev_c h1.obj (mv_head ..)) (rv_ixL (SqL.of h1.rw.at_) (atI_nat k2))) (SqL.of k3)) (ev_dget (ev_var rfl) ev_c h1.obj (mv_wide ..)) (rv_eq rfl))) ?_ ?_
    · intro hb2 H2 e2
      have hf : (g.row g.head).length = t.wide := by
        have z := of_decide_eq_true hb2
        rw [k4.1] at z
        injection z with z
        have z : ((g.row g.head).length : Int) = (t.wide : Int) := z
        omega
      have h2 := h1.ex e2
      have fs := free_some hroom hf
      have fm := mem_free.1 (List.mem_of_getElem? fs)
      have es : (empt g)[0]? = some ((free g).getD 0 0) := by rw [← free_full h.ok hf]; exact fs
      refine r_seq (r_dput (ev_opL1 (el_call (ea_cons (ev_var rfl) ea_nil) (spl_mempty h2)) (fun _ _ => ev_c) (fun p H3 hp e3 => rv_ixL (SqL.of hp) (atI_nat (j := 0) (vns_get es))) H2 (Ex.refl _) _ fun H3 e3 => ⟨_, rfl, r_dputK (h2.ex e3).obj mk_len (mp_head ..) fun H4 h4 c4 => ?_⟩))
      have h3 := h2.ex e3
      have hd4 : MdAt H4 a t c (turn t.wide g) := by
        have z := h3.dict fm.1 c4 h4
        unfold turn
        rw [if_pos hf]
        exact z
      obtain ⟨bs, b1, b2⟩ := hd4.bn
      have nb : 0 < bs.length := by rw [b2]; exact hd4.ok.n1
      dsimp only
      refine ev_dget (ev_var rfl) ev_c hd4.obj (mv_born ..) H4 (Ex.refl _) _ fun H5 e5 => ⟨a.B, bs, rfl, SqL.of (e5 _ _ b1), nb, fun mx hmx hle => ?_⟩
      have h5 := hd4.ex e5
      refine ⟨mx, 1, rfl, rfl, ?_⟩
      refine ev_dget (ev_var rfl) ev_c h5.obj (mv_born ..) H5 (Ex.refl _) _ fun H6 e6 => ?_
      refine ev_dget (ev_var rfl) ev_c (h5.ex e6).obj (mv_head ..) H6 (Ex.refl _) _ fun H7 e7 => ?_
      have h7 := h5.ex (e6.trans e7)
      have b7 := (e5.trans (e6.trans e7)) _ _ b1
      have hb7 : (turn t.wide g).head < (bs.map V.int).length := by rw [List.length_map, b2]; exact hd4.ok.hd
      refine ⟨a.B, _, _, (turn t.wide g).head, rfl, rfl, b7, ixN_nat hb7, ?_⟩
      have z := h7.born b7 (bs' := bs.set (turn t.wide g).head (mx + 1)) (by rw [List.length_set]; exact b2)
      rw [List.map_set] at z
      refine ⟨a, rfl, z.1, rfl, ⟨?_, fun y m => .inl m⟩⟩
      exact (((((e1.trans e2).trans e3).ch _).trans (c4.mono fun y m => .inl (by rw [List.mem_singleton.1 m]; simp [Md.own]))).trans ((e5.trans (e6.trans e7)).ch _)).trans z.2
    · intro hb2 H2 e2
      have hf : ¬ (g.row g.head).length = t.wide := by
        have z := of_decide_eq_false hb2
        intro y
        rw [k4.1, show g.rows.getD g.head [] = g.row g.head from rfl, y] at z
        exact z rfl
      refine ⟨a, rfl, ?_, rfl, Stp.ex (e1.trans e2)⟩
      have e : turn t.wide g = g := by unfold turn; rw [if_neg hf]
      rw [e]
      exact h1.ex e2
  rintro σ2 H2 ⟨a2, rfl, h2, em, st⟩
  have htu2 : H2 tu = some (.tup [.str k, x]) := st.ch.tup htu
  have ot := ok_turn h.ok hroom
  obtain ⟨b', xs', l1, l2, l3, l4, _⟩ := h2.rw.get h2.ok.hd
  rw [← em]
  refine q_app l3 (ev_op (ev_dget (ev_var rfl) ev_c h2.obj (mv_rows ..)) (ev_dget (ev_var rfl) ev_c h2.obj (mv_head ..)) (rv_ixL (SqL.of h2.rw.at_) (atI_nat l2))) (ev_var rfl) ?_ fun H3 e3 => ?_
  · rw [l4.1]
    have z := ot.2
    have z8 := h.ok.w8
    show ((turn t.wide g).row (turn t.wide g).head).length < 100000
    omega
  · have h3 := h2.ex e3
    have cu : Ch [b'] H3 (upd H3 b' (.lst (xs' ++ [.ref tu]))) := Ch.updL (e3 _ _ l3) _ (by simp)
    have z := h3.chg (xs' := xs' ++ [.ref tu]) (r := (turn t.wide g).row (turn t.wide g).head ++ [some k]) l1 (e3 _ _ l3) ((((l4.step (e3.ch [])).step cu)).app (cellM (cu.tup (e3 _ _ htu2)))) (by have := ot.2; simp; omega)
    exact s_ret ev_c fun H4 e4 => q H4 a2 (z.1.ex e4) em ((st.trans ((Stp.ex e3).trans ⟨z.2, fun y m => .inl m⟩)).trans (Stp.ex e4))
def spMKill : Sp := fun vs H Q _ => ∃ (a : Md) (t : Tm) (c : Ct) (g : Lg) (s j : Nat) (o : Option Str), vs = [.ref a.M, .int (s : Int), .int (j : Int)] ∧ MdAt H a t c g ∧ (g.row s)[j]? = some o ∧ MdTo H a t c (kill s j g) (Q .non)
theorem sc_f_law_kill : FnScope ["_law_model_here", "_law_spot", "_law_rank"] ["_law_model_here", "_law_spot", "_law_rank"] (defScope x_f_law_kill) := ⟨rfl, rfl, rfl, by decide +kernel, rfl, by decide +kernel, by decide +kernel⟩
theorem ok_mkill (T : Tx K mg) : Fnc PP w K mg base CX0 2 (fA K "_law_kill") ["_law_model_here", "_law_spot", "_law_rank"] spMKill := by
  refine mk0 T.d_f_law_kill sc_f_law_kill (by rintro _ H Q E ⟨a, t, c, g, s, j, o, rfl, _⟩; rfl) (by intro kV doc pm an cdv ct us h; match us, h with | [_, _, _], _ => rfl) ?_
  rintro cdv A outer s0 H _ Q E hr ⟨a, t, c, g, s, j, o, rfl, h, ho, q⟩
  have nd := sc_f_law_kill.nd
  have hu := hu_of hr
  refine ⟨_, (pss_cons (ps_asg pe_non (pg_sub (pe_ix ix_list (pe_dget hu (pv 0) pe_str (fun _ _ => rfl)) (pv 1) (fun _ _ => rfl)) (pv 2) set_list))
    (pss_one (ps_if (pt_cmpR op_eq (pe_f (ok_malive T) T.g_law_alive hr pass0 (pa_cons (pe_ix ix_list (pe_dget hu (pv 0) pe_str (fun _ _ => rfl)) (pv 1) (fun _ _ => rfl)) pa_nil)) pe_int (nomark _)) (pss_cons (ps_asg (pe_lst pa_nil) (pg_sub (pe_dget hu (pv 0) pe_str (fun _ _ => rfl)) (pv 1) set_list))
      (pss_one (ps_asg (pe_op op_add (pe_ix ix_list (pe_dget hu (pv 0) pe_str (fun _ _ => rfl)) (pv 1) (fun _ _ => rfl)) pe_int) (pg_sub (pe_dget hu (pv 0) pe_str (fun _ _ => rfl)) (pv 1) set_list)))) pss_nil))), ?_⟩
  have hs : s < g.rows.length := row_lt fun e => by rw [e] at ho; cases ho
  have hj : j < (g.row s).length := (List.getElem?_eq_some_iff.1 ho).1
  obtain ⟨b, xs, h1, h2, h3, h4, _⟩ := h.rw.get hs
  have hjx : j < xs.length := by rw [h4.1]; exact hj
  refine q_setL h3 ev_c (ev_op (ev_dget (ev_var rfl) ev_c h.obj (mv_rows ..)) (ev_var rfl) (rv_ixL (SqL.of h.rw.at_) (atI_nat h2))) (ev_var rfl) hjx fun H1 e1 => ?_
  have hL1 := h.ex e1
  have z := hL1.chg (xs' := xs.set j .non) (r := (g.row s).set j none) h1 (e1 _ _ h3) (((h4.step (e1.ch [])).step (ow := [b]) (Ch.updL (e1 _ _ h3) _ (by simp))).set j rfl) (by rw [List.length_set]; exact h.ok.le s)
  have st1 : Stp a.own H a.own (upd H1 b (.lst (xs.set j .non))) := (Stp.ex e1).trans ⟨z.2, fun b m => .inl m⟩
  have lenk : (killRow s j g).rows.length = g.rows.length := by show (g.rows.set _ _).length = _; rw [List.length_set]
  have rowk : (killRow s j g).row s = (g.row s).set j none := by unfold killRow; rw [row_set hs, if_pos rfl]
  have hL2 : MdAt (upd H1 b (.lst (xs.set j .non))) a t c (killRow s j g) := z.1
  clear z
  obtain ⟨b', ys, g1, g2, g3, g4, _⟩ := hL2.rw.get (s := s) (by rw [lenk]; exact hs)
  have hrow : Row true (upd H1 b (.lst (xs.set j .non))) b' ((killRow s j g).row s) := ⟨ys, g3, g4⟩
  refine s_when (et_B (ev_op (ev_call (ea_cons (ev_op (ev_dget (ev_var rfl) ev_c hL2.obj (mv_rows ..)) (ev_var rfl) (rv_ixL (SqL.of hL2.rw.at_) (atI_nat g2))) ea_nil) (spv_malive hrow (Nat.le_trans (hL2.ok.le s) h.ok.w8))) ev_c (rv_eq rfl))) ?_ ?_
  · intro hb H3 e3
    have hz : alive ((g.row s).set j none) = 0 := by
      have y := of_decide_eq_true hb
      injection y with y
      rw [rowk] at y
      have y : (alive ((g.row s).set j none) : Int) = 0 := y
      omega
    have hL3 := hL2.ex e3
    refine r_seq (el_lst ea_nil (by decide) H3 (Ex.refl _) _ fun p H4 hp e4 h4' => ?_)
    have hL4 := hL3.ex e4
    refine ev_dget (ev_var rfl) ev_c hL4.obj (mv_rows ..) H4 (Ex.refl _) _ fun H5 e5 => ?_
    have y := hL3.fresh (s := s) (by rw [lenk]; exact hs) hp (e5 _ _ h4') (e4.trans e5)
    have hA := (hL4.ex e5).rw.at_
    have hsA : s < (a.as.map V.ref).length := by rw [List.length_map, h.rw.len]; exact hs
    refine ⟨_, rfl, a.A, _, (s : Int), s, rfl, rfl, hA, ixN_nat hsA, ?_⟩
    obtain ⟨y1, y2⟩ := y
    have hfr : s < g.frees.length := by rw [h.ok.fr]; exact hs
    have hfv : (vns g.frees)[s]? = some (.int ((g.frees.getD s 0 : Nat) : Int)) := vns_get (by rw [List.getD_eq_getElem?_getD, List.getElem?_eq_getElem hfr]; rfl)
    dsimp only
    refine s_setL y1.fr (ev_op (ev_op (ev_dget (ev_var rfl) ev_c y1.obj (mv_frees ..)) (ev_var rfl) (rv_ixL (SqL.of y1.fr) (atI_nat hfv))) ev_c rv_I0) (ev_dget (ev_var rfl) ev_c y1.obj (mv_frees ..)) (ev_var rfl) (by rw [vns_len]; exact hfr) fun H6 e6 => ?_
    have y3 := y1.ex e6
    have y4 := y3.frs (f := g.frees.set s (g.frees.getD s 0 + 1)) (by
      show (g.frees.set s _).length = ((killRow s j g).rows.set s []).length
      rw [List.length_set, List.length_set, lenk]; exact h.ok.fr)
    rw [vns_set, Int.natCast_add, Int.natCast_one] at y4
    refine q _ { a with as := a.as.set s p } ?_ rfl ?_
    · rw [kill_yes hz]
      exact y4.1
    · exact ((((st1.trans (Stp.ex e3)).trans y2).trans (Stp.ex e6)).trans ⟨y4.2, fun b m => .inl m⟩)
  · intro hb H3 e3
    have hz : ¬ alive ((g.row s).set j none) = 0 := by
      intro y
      have z := of_decide_eq_false hb
      rw [rowk, y] at z
      exact z rfl
    refine q _ a ?_ rfl (st1.trans (Stp.ex e3))
    rw [kill_no hz]
    exact hL2.ex e3
end
end CLg
end

section
/-! The law's list of segments: find, move. -/
namespace CLg
open PySem PySem.Spec PyProof.Rows L2 Evl
theorem inV_vns {p : Nat} {l : List Nat} : inV (.int (p : Int)) (vns l) = decide (p ∈ l) := by
  rw [Bool.eq_iff_iff, decide_eq_true_iff]
  unfold inV vns
  rw [List.any_map, List.any_eq_true]
  constructor
  · rintro ⟨x, m, e⟩
    have e : ((x : Int) == (p : Int)) = true := e
    have := eq_of_beq e
    have : x = p := by omega
    rw [← this]; exact m
  · intro m
    exact ⟨p, m, beq_self_eq_true (p : Int)⟩
theorem vns_flat (l : List Nat) : (vns l).all flatV = true := by
  unfold vns
  rw [List.all_map, List.all_eq_true]
  intro x _
  rfl
section
variable {w : World} {K : Kf} {mg : Str → Option Value} {base : Heap}
def FindTo (H : Hp) (k : Str) (g : Lg) (Q : VK) : Prop := match find k g with
  | none => RetV .non H Q
  | some (s, j) => RetU [.int (s : Int), .int (j : Int)] H Q
def spMFind : Sp := fun vs H Q _ => ∃ (a : Md) (t : Tm) (c : Ct) (g : Lg) (k : Str), vs = [.ref a.M, .str k] ∧ MdAt H a t c g ∧ FindTo H k g Q
theorem sc_f_law_find : FnScope ["_law_model_here", "_law_name", "_law_rows", "_law_spot", "_law_rank", "_law_one"] ["_law_model_here", "_law_name"] (defScope x_f_law_find) := ⟨rfl, rfl, rfl, by decide +kernel, rfl, by decide +kernel, by decide +kernel⟩
theorem ok_mfind (T : Tx K mg) : Fnc PP w K mg base CX0 1 (fA K "_law_find") ["_law_model_here", "_law_name"] spMFind := by
  refine mk0 T.d_f_law_find sc_f_law_find (by rintro _ H Q E ⟨a, t, c, g, k, rfl, _⟩; rfl) (by intro kV doc pm an cdv ct us h; match us, h with | [_, _], _ => rfl) ?_
  rintro cdv A outer s0 H _ Q E hr ⟨a, t, c, g, k, rfl, h, q⟩
  have nd := sc_f_law_find.nd
  have hu := hu_of hr
  refine ⟨_, (pss_cons (ps_set (i := 2) nd rfl (by first | exact Or.inl rfl | exact Or.inr rfl) (pe_dget hu (pv 0) pe_str (fun _ _ => rfl)))
    (pss_cons (ps_for PassesOwn.never rfl (pi_range1 rfl T.b_range (pa_cons (pe_callB call_len_seq (by rfl) T.b_len PySem.boot_len (pa_cons (pv 2) pa_nil)) pa_nil)) (pg_name (i := 3) nd rfl (by first | exact Or.inl rfl | exact Or.inr rfl))
      (pss_one (ps_for PassesOwn.never rfl (pi_range1 rfl T.b_range (pa_cons (pe_callB call_len_seq (by rfl) T.b_len PySem.boot_len (pa_cons (pe_ix ix_list (pv 2) (pv 3) (fun _ _ => rfl)) pa_nil)) pa_nil)) (pg_name (i := 4) nd rfl (by first | exact Or.inl rfl | exact Or.inr rfl))
        (pss_cons (ps_set (i := 5) nd rfl (by first | exact Or.inl rfl | exact Or.inr rfl) (pe_ix ix_list (pe_ix ix_list (pv 2) (pv 3) (fun _ _ => rfl)) (pv 4) (fun _ _ => rfl)))
        (pss_one (ps_if (PW.pt (pw_and (pt_cmpR op_notN (pv 5) pe_non (nomark _)) (pw_and1 (pt_cmpR op_eq (pe_ix ix_tup (pv 5) pe_int (fun _ _ => rfl)) (pv 1) (nomark _))))) (pss_one (ps_ret (pe_tup (pa_cons (pv 3) (pa_cons (pv 4) pa_nil))))) pss_nil))))))
    (pss_one (ps_ret pe_non)))), ?_⟩
  refine q_asg (ev_dget (ev_var rfl) ev_c h.obj (mv_rows ..)) fun H1 e1 => ?_
  have h1 := h.ex e1
  have n8 := h.ok.n8
  have nlen : (a.as.map V.ref).length = g.rows.length := by rw [List.length_map, h.rw.len]
  refine q_forR1 (n := (g.rows.length : Int)) (ea_cons (ev_is (ev_len (ev_var rfl) (SqL.of h1.rw.at_)) (by rw [nlen])) ea_nil) (by omega) (fun i σ' H' => Ex H1 H' ∧ (∀ s', s' < i → some k ∉ g.row s') ∧ ∃ x3 x4 x5, σ' = [some (.ref a.M), some (.str k), some (.ref a.A), x3, x4, x5]) ?_ ?_ ?_
  · exact fun H2 e2 => ⟨e2, fun s' z => by omega, _, _, _, rfl⟩
  · rintro i σ' H2 hi ⟨e2, hb, x3, x4, x5, rfl⟩
    have hi : i < g.rows.length := by omega
    have h2 := h1.ex e2
    obtain ⟨b, xs, k1, k2, k3, k4, _⟩ := h2.rw.get hi
    have hl8 : (g.row i).length ≤ 8 := Nat.le_trans (h.ok.le i) h.ok.w8
    refine s_forR1 (n := ((g.row i).length : Int)) (ea_cons (ev_is (ev_len (ev_op (ev_var rfl) (ev_var rfl) (rv_ixL (SqL.of h2.rw.at_) (atI_nat k2))) (SqL.of k3)) (by rw [k4.1]; rfl)) ea_nil) (by omega) (fun j σ' H' => Ex H2 H' ∧ (∀ j' : Nat, j' < j → (g.row i)[j']? ≠ some (some k)) ∧ ∃ x4 x5, σ' = [some (.ref a.M), some (.str k), some (.ref a.A), some (.int (i : Int)), x4, x5]) ?_ ?_ ?_
    · exact fun H3 e3 => ⟨e3, fun j' z => by omega, _, _, rfl⟩
    · rintro j σ' H3 hj ⟨e3, hb3, y4, y5, rfl⟩
      have hj : j < (g.row i).length := by omega
      obtain ⟨v, v1, v2⟩ := k4.get hj
      have v2 : Cell true H2 ((g.row i).getD j none) v := v2
      have h3 := h2.ex e3
      refine q_asg (ev_op (ev_op (ev_var rfl) (ev_var rfl) (rv_ixL (SqL.of h3.rw.at_) (atI_nat k2))) (ev_var rfl) (rv_ixL (SqL.of (e3 _ _ k3)) (atI_nat v1))) fun H4 e4 => ?_
      have hget : (g.row i)[j]? = some ((g.row i).getD j none) := by rw [List.getD_eq_getElem?_getD, List.getElem?_eq_getElem hj]; rfl
      have next : (g.row i).getD j none ≠ some k → ∀ j' : Nat, j' < j + 1 → (g.row i)[j']? ≠ some (some k) := fun z j' hj' => by
        by_cases y : j' = j
        · rw [y, hget]
          exact fun u => z (Option.some.inj u)
        · exact hb3 j' (by omega)
      cases hc : (g.row i).getD j none with
      | none =>
        rw [hc] at v2
        have v2 : v = .non := v2
        subst v2
        exact s_when (b := false) (et_and (a := false) (b := false) (et_is (et_B (ev_op (ev_var rfl) ev_c rv_notN)) (by rfl)) fun z => nomatch z) (fun z => nomatch z) fun _ H5 e5 => ⟨(e3.trans e4).trans e5, next (by rw [hc]; simp), _, _, rfl⟩
      | some k' =>
        rw [hc] at v2 hget
        unfold Cell at v2
        simp only [if_true] at v2
        obtain ⟨tu, x, rfl, htu⟩ := v2
        refine s_when (et_and (a := true) (et_is (et_B (ev_op (ev_var rfl) ev_c rv_notN)) (by rfl)) fun _ => et_B (ev_op (ev_op (ev_var rfl) ev_c (rv_ixT (SqT.of ((e3.trans e4) _ _ htu)) (atI_nat (j := 0) rfl))) (ev_var rfl) (rv_eq rfl))) ?_ ?_
        · intro hb5 H5 e5
          have hk : k' = k := by
            simp only [Bool.true_and] at hb5
            have := of_decide_eq_true hb5
            injection this
          subst hk
          have hf : find k' g = some (i, j) := Found.eq ⟨hget, hb3, hb⟩
          unfold FindTo at q
          rw [hf] at q
          refine s_retU (eu_tup (ea_cons (ev_var rfl) (ea_cons (ev_var rfl) ea_nil)) (show 2 ≤ 100000 by decide)) fun p H6 hp e6 h6 => ?_
          have ee := (e1.trans e2).trans ((e3.trans e4).trans e5)
          exact q p H6 (fresh_back ee hp) (ee.trans e6) h6
        · intro hb5 H5 e5
          have hk : k' ≠ k := by
            intro z
            subst z
            simp at hb5
          exact ⟨(e3.trans e4).trans e5, next (by rw [hc]; intro z; exact hk (Option.some.inj z)), _, _, rfl⟩
    · rintro σ' H3 ⟨e3, hb3, y4, y5, rfl⟩
      rw [Int.toNat_natCast] at hb3
      refine ⟨e2.trans e3, fun s' z => ?_, _, _, _, rfl⟩
      by_cases y : s' = i
      · rw [y]
        intro m
        obtain ⟨j, j1, j2⟩ := fst_at m
        exact hb3 j (List.getElem?_eq_some_iff.1 j1).1 j1
      · exact hb s' (by omega)
  · rintro σ' H2 ⟨e2, hb, x3, x4, x5, rfl⟩
    rw [Int.toNat_natCast] at hb
    have hf : find k g = none := Found.eq (show Found k g none from fun s' z => hb s' (row_lt fun e => by rw [e] at z; cases z) z)
    unfold FindTo at q
    rw [hf] at q
    exact s_ret ev_c fun H3 e3 => q H3 ((e1.trans e2).trans e3)
def spMMove : Sp := fun vs H Q _ => ∃ (a : Md) (t : Tm) (c : Ct) (g : Lg) (p : Nat), vs = [.ref a.M, .int (p : Int)] ∧ MdAt H a t c g ∧ (¬ (p ∈ shut g ∧ room t.wide g ≠ 0) → RetV (.bl false) H Q) ∧ (p ∈ shut g ∧ room t.wide g ≠ 0 → MdTo H a t c (move t.wide p g) (Q (.bl true)))
theorem sc_f_law_move : FnScope ["_law_model_here", "_law_pick", "_law_row", "_law_rank", "_law_k"] ["_law_model_here", "_law_pick"] (defScope x_f_law_move) := ⟨rfl, rfl, rfl, by decide +kernel, rfl, by decide +kernel, by decide +kernel⟩
theorem ok_mmove (T : Tx K mg) : Fnc PP w K mg base CX0 4 (fA K "_law_move") ["_law_model_here", "_law_pick"] spMMove := by
  refine mk0 T.d_f_law_move sc_f_law_move (by rintro _ H Q E ⟨a, t, c, g, p, rfl, _⟩; rfl) (by intro kV doc pm an cdv ct us h; match us, h with | [_, _], _ => rfl) ?_
  rintro cdv A outer s0 H _ Q E hr ⟨a, t, c, g, p, rfl, h, q0, q⟩
  have nd := sc_f_law_move.nd
  have hu := hu_of hr
  refine ⟨_, (pss_cons (ps_if (pt_cmpR op_notIn_seq (pv 1) (pe_f (ok_mshut T) T.g_law_shut (hr.mono (by decide)) pass0 (pa_cons (pv 0) pa_nil)) rfl) (pss_one (ps_ret pe_bl)) pss_nil)
    (pss_cons (ps_set (i := 2) nd rfl (by first | exact Or.inl rfl | exact Or.inr rfl) (pe_ix ix_list (pe_dget hu (pv 0) pe_str (fun _ _ => rfl)) (pv 1) (fun _ _ => rfl)))
    (pss_cons (ps_set (i := 3) nd rfl (by first | exact Or.inl rfl | exact Or.inr rfl) (pe_ix ix_list (pe_lc (own := [("_law_k", 4)]) (g := gName 4) (tt := tTest (tOp rNotN (tOp (rIxL K) (tVar 2) (tVar 4)) (tC .non))) rfl nd (pi_range1 rfl T.b_range (pa_cons (pe_callB call_len_seq (by rfl) T.b_len PySem.boot_len (pa_cons (pv 2) pa_nil)) pa_nil)) (blkOk_by (N := ["_law_model_here", "_law_pick", "_law_row", "_law_rank", "_law_k"]) (sc := defScope x_f_law_move) (by decide +kernel)) (fun _ _ _ _ _ => (pg_name (i := 4) nd rfl (Or.inl rfl))) (fun _ _ _ _ _ => (pts_one (pt_cmpR op_notN (pe_ix ix_list (pv 2) (pv 4) (fun _ _ => rfl)) pe_non (nomark _)))) (fun _ _ _ _ _ => (pv 4))) pe_int (fun _ _ => rfl)))
    (pss_cons (ps_if (pt_not (pt_val (pe_f (ok_mwrite T) T.g_law_write hr pass0 (pa_cons (pv 0) (pa_cons (pe_ix ix_list (pv 2) (pv 3) (fun _ _ => rfl)) pa_nil))))) (pss_one (ps_ret pe_bl)) pss_nil)
    (pss_cons (ps_expr (pe_f (ok_mkill T) T.g_law_kill (hr.mono (by decide)) pass0 (pa_cons (pv 0) (pa_cons (pv 1) (pa_cons (pv 3) pa_nil)))))
    (pss_one (ps_ret pe_bl))))))), ?_⟩
  refine q_when (et_B (ev_opL (ev_var rfl) (el_call (ea_cons (ev_var rfl) ea_nil) (spl_mshut h)) fun r H1 hr1 _ => rv_niL (SqL.of hr1) rfl (vns_flat _))) ?_ ?_
  · intro hb H1 e1
    rw [inV_vns] at hb
    have hns : ¬ p ∈ shut g := fun z => by rw [decide_eq_true z] at hb; cases hb
    exact s_ret ev_c fun H2 e2 => q0 (fun z => hns z.1) H2 (e1.trans e2)
  intro hb H1 e1
  rw [inV_vns] at hb
  have hp : p ∈ shut g := by
    by_cases z : p ∈ shut g
    · exact z
    · rw [decide_eq_false z] at hb; cases hb
  have h1 := h.ex e1
  have ms := mem_shut.1 hp
  obtain ⟨b, xs, k1, k2, k3, k4, _⟩ := h1.rw.get ms.1
  refine q_asg (ev_op (ev_dget (ev_var rfl) ev_c h1.obj (mv_rows ..)) (ev_var rfl) (rv_ixL (SqL.of h1.rw.at_) (atI_nat k2))) fun H2 e2 => ?_
  have h2 := h1.ex e2
  have hl8 : (g.row p).length ≤ 8 := Nat.le_trans (h.ok.le p) h.ok.w8
  have fm := fst_mem ms.2.2
  have f0 : (liv (g.row p))[0]? = some (fstAt g p) := by
    unfold fstAt
    cases e : liv (g.row p) with
    | nil => rw [e] at fm; cases fm
    | cons x l => rfl
  have hl : EvL (tLc (iRng1 (tCons (tCB (rLenS K) (tCons (tVar 2) tNil)) tNil)) (gName 4) (tTest (tOp rNotN (tOp (rIxL K) (tVar 2) (tVar 4)) (tC .non))) (tVar 4) [4]) [some (.ref a.M), some (.int (p : Int)), some (.ref b), none, none] H2 (vns (liv (g.row p))) := by
    rw [show vns (liv (g.row p)) = given ((g.row p).length : Int).toNat (fun i => ((g.row p).getD i none).isSome) (fun i => .int (i : Int)) from by rw [Int.toNat_natCast, given_vns]; rfl]
    refine el_lcR1 _ _ (ea_cons (ev_is (ev_len (ev_var rfl) (SqL.of (e2 _ _ k3))) (by rw [k4.1]; rfl)) ea_nil) (by omega) (fun _ => rfl) ?_ (fun i H3 e3 hi _ => ev_var rfl)
    intro i H3 e3 hi
    have hi : i < (g.row p).length := by omega
    obtain ⟨v, v1, v2⟩ := k4.get hi
    refine et_is (et_B (ev_op (ev_op (ev_var rfl) (ev_var rfl) (rv_ixL (SqL.of ((e2.trans e3) _ _ k3)) (atI_nat v1))) ev_c rv_notN)) ?_
    rw [v2.isN]
    simp
    rfl
  refine q_asg (ev_opL1 hl (fun _ _ => ev_c) fun r H3 hr3 e3 => rv_ixL (SqL.of hr3) (atI_nat (j := 0) (vns_get f0))) fun H3 e3 => ?_
  have h3 := h2.ex e3
  have hkey := key_at ms.2.2
  obtain ⟨kv, c1, c2⟩ := k4.2 _ _ hkey
  unfold Cell at c2
  simp only [if_true] at c2
  obtain ⟨tu, x, rfl, htu⟩ := c2
  have e13 := e2.trans e3
  refine r_seq (r_ifS (r_not (r_B ?_)))
  refine r_call (ea_cons (ev_var rfl) (ea_cons (ev_op (ev_var rfl) (ev_var rfl) (rv_ixL (SqL.of (e13 _ _ k3)) (atI_nat c1))) ea_nil) H3 (Ex.refl _) _ fun H4 e4 => ?_)
  have e04 := (e1.trans e13).trans e4
  refine ⟨a, t, c, g, tu, _, x, rfl, h3.ex e4, (e13.trans e4) _ _ htu, fun hz => ?_, fun hz => ?_⟩
  · exact fun H5 e5 => ⟨false, rfl, iteT (s_ret ev_c fun H6 e6 => q0 (fun z => z.2 hz) H6 ((e04.trans e5).trans e6))⟩
  · intro H5 a5 h5 em st
    refine ⟨true, rfl, iteF ?_⟩
    refine r_next ?_
    dsimp only
    rw [← em]
    refine q_dropK (r_call (ea_cons (ev_var rfl) (ea_cons (ev_var rfl) (ea_cons (ev_var rfl) ea_nil)) H5 (Ex.refl _) _ fun H6 e6 => ?_))
    refine ⟨a5, t, c, _, p, fstAt g p, _, rfl, h5.ex e6, at_write h.ok hz hkey, fun H7 a7 h7 em7 st7 => ?_⟩
    exact s_ret ev_c fun H8 e8 => q ⟨hp, hz⟩ H8 a7 (h7.ex e8) (em7.trans em) (((Stp.ex e04).trans st).trans (((Stp.ex e6).trans st7).trans (Stp.ex e8)))
end
end CLg
end

section
/-! The law's list of segments: begin. -/
namespace CLg
open PySem PySem.Spec PyProof.Rows L2 Evl
/-- a refusal is told -/
def Told (ow : List Addr) (H : Hp) (Q : VK) (s : Str) (v : V) : Prop := ∀ p H2, H2 p = some (.tup [.str s, v, .bl true]) → H p = none → Ch ow H H2 → Q (.ref p) H2
theorem Told.ex {ow : List Addr} {H H1 : Hp} {Q : VK} {s : Str} {v : V} (t : Told ow H Q s v) (e : Ex H H1) : Told ow H1 Q s v := fun p H2 h n c => t p H2 h ((e.ch []).free n) ((e.ch _).trans c)
theorem Told.step {o1 o2 : List Addr} {H H1 : Hp} {Q : VK} {s : Str} {v : V} (t : Told o1 H Q s v) (x : Stp o1 H o2 H1) : Told o2 H1 Q s v := fun p H2 h n c => t p H2 h (x.ch.free n) (x.ch.thenNew c x.own)
theorem r_told {ow : List Addr} {H : Hp} {Q : VK} {s : Str} {v : V} {σ : L2.St} {te : TE} {D : Ends} (t : Told ow H Q s v) (hv : Ev te σ H v) (hD : D.rt = Q) : tRet (tTup (tCons (tC (.str s)) (tCons te (tCons (tC (.bl true)) tNil)))) D σ H := by
  refine s_retU (eu_tup (ea_cons ev_c (ea_cons hv (ea_cons ev_c ea_nil))) (show 3 ≤ 100000 by decide)) fun p H1 hp e1 h1 => ?_
  rw [hD]
  exact t p H1 h1 hp (e1.ch _)
def BeginTo (H : Hp) (a : Md) (t : Tm) (c : Ct) (g : Lg) (k : Str) (cnt : Nat) (Q : VK) : Prop :=
  (find k g = none ∧ t.bound ≤ (total g : Int) → Told a.own H Q "KeyLimit" (.int t.bound)) ∧
  (¬ (find k g = none ∧ t.bound ≤ (total g : Int)) → t.load < cnt → Told a.own H Q "BadChoice" (.int (cnt : Int))) ∧
  (¬ (find k g = none ∧ t.bound ≤ (total g : Int)) → ¬ t.load < cnt → pre t.wide t.first k g = none → Told a.own H Q "Stalled" (.int (c.deeds : Int))) ∧
  (∀ g1, ¬ (find k g = none ∧ t.bound ≤ (total g : Int)) → ¬ t.load < cnt → pre t.wide t.first k g = some g1 → MdTo H a t c g1 (Q .non))
theorem et_yes' {σ : L2.St} {H : Hp} : EvT tYes σ H true := fun H1 _ _ q => q H1 (Ex.refl H1)
theorem rows_eq (g : Lg) : (List.range g.rows.length).map g.row = g.rows := by
  apply List.ext_getElem
  · simp
  · intro i h1 h2
    simp [Lg.row, List.getD_eq_getElem?_getD, h2]
theorem sum_eq (l : List (List (Option Str))) : (l.map fun r => (alive r : Int)).sum = ((l.map alive).sum : Nat) := by
  induction l with
  | nil => rfl
  | cons r l ih => rw [List.map_cons, List.sum_cons, ih, List.map_cons, List.sum_cons, Int.natCast_add]
section
variable {w : World} {K : Kf} {mg : Str → Option Value} {base : Heap}
def spMBegin : Sp := fun vs H Q _ => ∃ (a : Md) (t : Tm) (c : Ct) (g : Lg) (k : Str) (x : V) (cnt : Nat), vs = [.ref a.M, .str k, x, .int (cnt : Int)] ∧ MdAt H a t c g ∧ BeginTo H a t c g k cnt Q
theorem sc_f_law_begin : FnScope ["_law_model_here", "_law_name", "_law_worth", "_law_count", "_law_old", "_law_row"] ["_law_model_here", "_law_name", "_law_worth", "_law_count"] (defScope x_f_law_begin) := ⟨rfl, rfl, rfl, by decide +kernel, rfl, by decide +kernel, by decide +kernel⟩
theorem ok_mbegin (T : Tx K mg) : Fnc PP w K mg base CX0 4 (fA K "_law_begin") ["_law_model_here", "_law_name", "_law_worth", "_law_count"] spMBegin := by
  refine mk0 T.d_f_law_begin sc_f_law_begin (by rintro _ H Q E ⟨a, t, c, g, k, x, cnt, rfl, _⟩; rfl) (by intro kV doc pm an cdv ct us h; match us, h with | [_, _, _, _], _ => rfl) ?_
  rintro cdv A outer s0 H _ Q E hr ⟨a, t, c, g, k, x, cnt, rfl, h, q1, q2, q3, q4⟩
  have nd := sc_f_law_begin.nd
  have hu := hu_of hr
  refine ⟨_, (pss_cut (ps_set (i := 4) nd rfl (by first | exact Or.inl rfl | exact Or.inr rfl) (pe_f (ok_mfind T) T.g_law_find (hr.mono (by decide)) pass0 (pa_cons (pv 0) (pa_cons (pv 1) pa_nil))))
    (pss_cons (ps_if (PW.pt (pw_and (pt_cmpR op_isN (pv 4) pe_non (nomark _)) (pw_and1 (pt_cmpR op_ge (pe_callB (cr_sum rfl) (by rfl) T.b_sum (by decide +kernel) (pa_cons (pe_lc (own := [("_law_row", 5)]) (g := gName 5) (tt := tYes) (te := tCall spMAlive [] E0 (tCons (tVar 5) tNil)) rfl nd (pi_list (pe_dget hu (pv 0) pe_str (fun _ _ => rfl))) (blkOk_by (N := ["_law_model_here", "_law_name", "_law_worth", "_law_count", "_law_old", "_law_row"]) (sc := defScope x_f_law_begin) (by decide +kernel)) (fun _ _ _ _ _ => (pg_name (i := 5) nd rfl (Or.inl rfl))) (fun _ _ _ _ _ => pts_nil) (fun _ _ _ _ _ => (pe_f (ok_malive T) T.g_law_alive (hr.mono (by decide)) pass0 (pa_cons (pv 5) pa_nil)))) pa_nil)) (pe_dget hu (pv 0) pe_str (fun _ _ => rfl)) (nomark _))))) (pss_one (ps_ret (pe_tup (pa_cons pe_str (pa_cons (pe_dget hu (pv 0) pe_str (fun _ _ => rfl)) (pa_cons pe_bl pa_nil)))))) pss_nil)
    (pss_cons (ps_if (pt_cmpR op_gt (pv 3) (pe_dget hu (pv 0) pe_str (fun _ _ => rfl)) (nomark _)) (pss_one (ps_ret (pe_tup (pa_cons pe_str (pa_cons (pv 3) (pa_cons pe_bl pa_nil)))))) pss_nil)
    (pss_cut (ps_if (pt_val (pe_dget hu (pv 0) pe_str (fun _ _ => rfl))) (pss_one (ps_if (pt_not (pt_val (pe_f (ok_mwrite T) T.g_law_write hr pass0 (pa_cons (pv 0) (pa_cons (pe_tup (pa_cons (pv 1) (pa_cons (pv 2) pa_nil))) pa_nil))))) (pss_one (ps_ret (pe_tup (pa_cons pe_str (pa_cons (pe_dget hu (pv 0) pe_str (fun _ _ => rfl)) (pa_cons pe_bl pa_nil)))))) pss_nil)) pss_nil)
    (pss_cut (ps_if (pt_cmpR op_notN (pv 4) pe_non (nomark _)) (pss_one (ps_expr (pe_f (ok_mkill T) T.g_law_kill (hr.mono (by decide)) pass0 (pa_cons (pv 0) (pa_cons (pe_ix ix_tup (pv 4) pe_int (fun _ _ => rfl)) (pa_cons (pe_ix ix_tup (pv 4) pe_int (fun _ _ => rfl)) pa_nil)))))) pss_nil)
    (pss_one (ps_ret pe_non))))))), ?_⟩
  refine q_cut (M := fun σ' H' => ∃ o, σ' = [some (.ref a.M), some (.str k), some x, some (.int (cnt : Int)), some o, none] ∧ OldV H' o (find k g) ∧ Ex H H') ?_ ?_
  · refine s_asgK (r_call (ea_cons (ev_var rfl) (ea_cons (ev_var rfl) ea_nil) H (Ex.refl _) _ fun H1 e1 => ⟨a, t, c, g, k, rfl, h.ex e1, ?_⟩))
    unfold FindTo
    cases hfd : find k g with
    | none => exact fun H2 e2 => ⟨_, rfl, rfl, e1.trans e2⟩
    | some sj =>
      obtain ⟨i, j⟩ := sj
      exact fun r H2 _ e2 h2 => ⟨_, rfl, ⟨r, rfl, h2⟩, e1.trans e2⟩
  rintro σ1 H1 ⟨o, rfl, ho, e1⟩
  have h1 := h.ex e1
  have n8 := h.ok.n8
  have nlen : (a.as.map V.ref).length = g.rows.length := by rw [List.length_map, h.rw.len]
  have hsum : Ev (tCB (rSum K) (tCons (tLc (iList K (tDGet (tVar 0) (tC (.str "rows")))) (gName 5) tYes (tCall spMAlive [] E0 (tCons (tVar 5) tNil)) [5]) tNil)) [some (.ref a.M), some (.str k), some x, some (.int (cnt : Int)), some o, none] H1 (.int (total g : Int)) := by
    intro H2 e2 Q' q'
    have h2 := h1.ex e2
    refine r_CB (r_cons (el_lcL (fun _ => true) (fun i => .int (alive (g.row i) : Int)) (ev_dget (ev_var rfl) ev_c h2.obj (mv_rows ..)) (SqL.of h2.rw.at_) (by rw [nlen]; omega) (fun _ => rfl) (fun _ _ _ _ _ => et_yes') ?_ H2 (Ex.refl _) _ fun D H3 hD e3 h3 => r_nil ?_))
    · intro i y H3 e3 hy _
      rw [List.getElem?_map] at hy
      have h3 := h2.ex e3
      cases ha : a.as[i]? with
      | none => rw [ha] at hy; cases hy
      | some b =>
        rw [ha] at hy
        cases hy
        have hi : i < g.rows.length := by rw [← h.rw.len]; exact (List.getElem?_eq_some_iff.1 ha).1
        obtain ⟨b', xs, k1, k2, k3, k4, _⟩ := h3.rw.get hi
        rw [ha] at k1
        cases k1
        exact ev_call (ea_cons (ev_var rfl) ea_nil) (spv_malive (r := g.row i) ⟨xs, k3, k4⟩ (Nat.le_trans (h.ok.le i) h.ok.w8))
    · refine ⟨D, g.rows.map fun r => (alive r : Int), rfl, SqL.of ?_, ?_⟩
      · rw [h3, nlen]
        unfold given
        rw [List.filter_eq_self.2 (fun _ _ => rfl)]
        conv => rhs; rw [← rows_eq g]
        rw [List.map_map, List.map_map]
        rfl
      · rw [sum_eq]
        exact q' H3 e3
  refine q_when (et_and (et_is (et_B (ev_op (ev_var rfl) ev_c rv_isN)) (ho.isN)) fun _ => et_B (ev_op hsum (ev_dget (ev_var rfl) ev_c h1.obj (mv_bound ..)) rv_I0)) ?_ ?_
  · intro hb H2 e2
    have hc : find k g = none ∧ t.bound ≤ (total g : Int) := by
      simp only [Bool.and_eq_true, decide_eq_true_eq, Option.isNone_iff_eq_none] at hb
      exact ⟨hb.1, hb.2⟩
    exact r_told ((q1 hc).ex (e1.trans e2)) (ev_dget (ev_var rfl) ev_c (h1.ex e2).obj (mv_bound ..)) rfl
  intro hb H2 e2
  have hc : ¬ (find k g = none ∧ t.bound ≤ (total g : Int)) := by
    rintro ⟨z1, z2⟩
    rw [z1, decide_eq_true z2] at hb
    exact Bool.noConfusion hb
  have q2 := q2 hc
  have q3 := q3 hc
  have h2 := h1.ex e2
  refine q_when (et_B (ev_op (ev_var rfl) (ev_dget (ev_var rfl) ev_c h2.obj (mv_load ..)) rv_I0)) ?_ ?_
  · intro hb2 H3 e3
    have hb2 := of_decide_eq_true hb2
    exact r_told ((q2 (by omega)).ex ((e1.trans e2).trans e3)) (ev_var rfl) rfl
  intro hb2 H3 e3
  have hb2 := of_decide_eq_false hb2
  have hl : ¬ t.load < cnt := by omega
  have q3 := q3 hl
  have e03 := (e1.trans e2).trans e3
  have h3 := h.ex e03
  have ho3 := ho.step ((e2.trans e3).ch [])
  refine q_cut (M := fun σ' H' => ∃ a', σ' = [some (.ref a'.M), some (.str k), some x, some (.int (cnt : Int)), some o, none] ∧ ¬ (t.first = true ∧ room t.wide g = 0) ∧ MdAt H' a' t c (if t.first = true then write t.wide k g else g) ∧ a'.M = a.M ∧ Stp a.own H a'.own H' ∧ OldV H' o (find k g)) ?_ ?_
  · refine s_when (et_B (ev_dget (ev_var rfl) ev_c h3.obj (mv_first ..))) ?_ ?_
    · intro ht H4 e4
      have h4 := h3.ex e4
      refine r_ifS (r_not (r_B (r_call (r_cons (r_var rfl (r_cons (r_tup (r_cons (r_var rfl (r_cons (r_var rfl (r_nil ⟨(show 2 ≤ sizeLine by decide), fun tu htu => r_nil ?_⟩))))))))))))
      have e5 : Ex H4 (upd H4 tu (.tup [.str k, x])) := Ex.new htu
      have e35 := e4.trans e5
      refine ⟨a, t, c, g, tu, k, x, rfl, h4.ex e5, upd_same, fun hz H6 e6 => ⟨false, rfl, iteT ?_⟩, fun hz H6 a6 h6 em st => ⟨true, rfl, iteF ?_⟩⟩
      · refine r_told ((q3 ?_).ex ((e03.trans e35).trans e6)) (ev_dget (ev_var rfl) ev_c (h3.ex (e35.trans e6)).obj (mv_deeds ..)) rfl
        unfold pre
        rw [if_pos ⟨ht, hz⟩]
      · exact ⟨a6, by rw [em], fun z => hz z.2, by rw [if_pos ht]; exact h6, em, (Stp.ex (e03.trans e35)).trans st, (ho3.step (e35.ch [])).step st.ch⟩
    · intro ht H4 e4
      have ht' : ¬ t.first = true := fun z => by rw [z] at ht; cases ht
      exact ⟨a, rfl, fun z => ht' z.1, by rw [if_neg ht']; exact h3.ex e4, rfl, Stp.ex (e03.trans e4), ho3.step (e4.ch [])⟩
  rintro σ4 H4 ⟨a4, rfl, hnb, h4, em4, st4, ho4⟩
  have hpre : pre t.wide t.first k g = some (killOld k g (if t.first = true then write t.wide k g else g)) := by unfold pre; rw [if_neg hnb]
  have q5 := q4 _ hc hl hpre
  have hat : ∀ {i j : Nat}, find k g = some (i, j) → ((if t.first = true then write t.wide k g else g).row i)[j]? = some (some k) := fun z => by
    split
    · next ht => exact at_write h.ok (fun y => hnb ⟨ht, y⟩) (find_at z)
    · exact find_at z
  refine q_cut (M := fun σ' H' => ∃ a', MdAt H' a' t c (killOld k g (if t.first = true then write t.wide k g else g)) ∧ a'.M = a.M ∧ Stp a.own H a'.own H') ?_ ?_
  · refine s_when (et_B (ev_op (ev_var rfl) ev_c rv_notN)) ?_ ?_
    · intro hne H5 e5
      rw [ho4.isN] at hne
      cases hfd : find k g with
      | none => rw [hfd] at hne; cases hne
      | some sj =>
        obtain ⟨i, j⟩ := sj
        rw [hfd] at ho4
        obtain ⟨r, rfl, hr4⟩ := ho4
        have h5 := h4.ex e5
        refine r_drop (r_call (ea_cons (ev_var rfl) (ea_cons (ev_op (ev_var rfl) ev_c (rv_ixT (SqT.of (e5 _ _ hr4)) (atI_nat (j := 0) rfl))) (ea_cons (ev_op (ev_var rfl) ev_c (rv_ixT (SqT.of (e5 _ _ hr4)) (atI_nat (j := 1) rfl))) ea_nil)) H5 (Ex.refl _) _ fun H6 e6 => ?_))
        refine ⟨a4, t, c, _, i, j, _, rfl, h5.ex e6, hat hfd, fun H7 a7 h7 em st => ⟨a7, ?_, em.trans em4, (st4.trans (Stp.ex (e5.trans e6))).trans st⟩⟩
        unfold killOld
        rw [hfd]
        exact h7
    · intro hne H5 e5
      rw [ho4.isN] at hne
      have hfd : find k g = none := by
        cases z : find k g with
        | none => rfl
        | some _ => rw [z] at hne; cases hne
      refine ⟨a4, ?_, em4, st4.trans (Stp.ex e5)⟩
      unfold killOld
      rw [hfd]
      exact h4.ex e5
  rintro σ5 H5 ⟨a5, h5, em5, st5⟩
  exact s_ret ev_c fun H6 e6 => q5 H6 a5 (h5.ex e6) em5 (st5.trans (Stp.ex e6))
end
end CLg
end

section
/-! The law's list of segments: put, drop. -/
namespace CLg
open PySem PySem.Spec PyProof.Rows L2 Evl
def MPutTo (H : Hp) (a : Md) (t : Tm) (c : Ct) (g : Lg) (k : Str) (picks : List Nat) (Q : VK) : Prop := match putOut t.wide t.bound t.load t.first k picks g with
  | .ok g' => MdTo H a t ⟨c.deeds + 1, c.moved + picks.length, picks.length⟩ g' (Q .non)
  | .full => Told a.own H Q "KeyLimit" (.int t.bound)
  | .many => Told a.own H Q "BadChoice" (.int (picks.length : Int))
  | .pick p => Told a.own H Q "BadChoice" (.int (p : Int))
  | .stall => Told a.own H Q "Stalled" (.int (c.deeds : Int))
def MDropTo (H : Hp) (a : Md) (t : Tm) (c : Ct) (g : Lg) (k : Str) (Q : VK) : Prop := match find k g with
  | none => Told a.own H Q "UnknownKey" (.str k)
  | some (i, j) => MdTo H a t c (kill i j g) (Q .non)
section
variable {w : World} {K : Kf} {mg : Str → Option Value} {base : Heap}
def spMPut : Sp := fun vs H Q _ => ∃ (a : Md) (t : Tm) (c : Ct) (g : Lg) (k : Str) (x : V) (lp : Addr) (picks : List Nat), vs = [.ref a.M, .str k, x, .ref lp] ∧ MdAt H a t c g ∧ H lp = some (.lst (vns picks)) ∧ lp ∉ a.own ∧ MPutTo H a t c g k picks Q
theorem sc_f_law_put : FnScope ["_law_model_here", "_law_name", "_law_worth", "_law_picks_here", "_law_due", "_law_pick"] ["_law_model_here", "_law_name", "_law_worth", "_law_picks_here"] (defScope x_f_law_put) := ⟨rfl, rfl, rfl, by decide +kernel, rfl, by decide +kernel, by decide +kernel⟩
theorem ok_mput (T : Tx K mg) : Fnc PP w K mg base CX0 5 (fA K "_law_put") ["_law_model_here", "_law_name", "_law_worth", "_law_picks_here"] spMPut := by
  refine mk0 T.d_f_law_put sc_f_law_put (by rintro _ H Q E ⟨a, t, c, g, k, x, lp, picks, rfl, _⟩; rfl) (by intro kV doc pm an cdv ct us h; match us, h with | [_, _, _, _], _ => rfl) ?_
  rintro cdv A outer s0 H _ Q E hr ⟨a, t, c, g, k, x, lp, picks, rfl, h, hlp, nlp, q⟩
  have nd := sc_f_law_put.nd
  have hu := hu_of hr
  refine ⟨_, (pss_cut (ps_set (i := 4) nd rfl (by first | exact Or.inl rfl | exact Or.inr rfl) (pe_f (ok_mbegin T) T.g_law_begin hr pass0 (pa_cons (pv 0) (pa_cons (pv 1) (pa_cons (pv 2) (pa_cons (pe_callB call_len_seq (by rfl) T.b_len PySem.boot_len (pa_cons (pv 3) pa_nil)) pa_nil))))))
    (pss_cons (ps_if (pt_cmpR op_notN (pv 4) pe_non (nomark _)) (pss_one (ps_ret (pv 4))) pss_nil)
    (pss_cut (ps_for PassesOwn.never rfl (pi_list (pv 3)) (pg_name (i := 5) nd rfl (by first | exact Or.inl rfl | exact Or.inr rfl))
      (pss_one (ps_if (pt_not (pt_val (pe_f (ok_mmove T) T.g_law_move hr pass0 (pa_cons (pv 0) (pa_cons (pv 5) pa_nil))))) (pss_one (ps_ret (pe_tup (pa_cons pe_str (pa_cons (pv 5) (pa_cons pe_bl pa_nil)))))) pss_nil)))
    (pss_cut (ps_if (pt_not (pt_val (pe_dget hu (pv 0) pe_str (fun _ _ => rfl)))) (pss_one (ps_if (pt_not (pt_val (pe_f (ok_mwrite T) T.g_law_write (hr.mono (by decide)) pass0 (pa_cons (pv 0) (pa_cons (pe_tup (pa_cons (pv 1) (pa_cons (pv 2) pa_nil))) pa_nil))))) (pss_one (ps_ret (pe_tup (pa_cons pe_str (pa_cons (pe_dget hu (pv 0) pe_str (fun _ _ => rfl)) (pa_cons pe_bl pa_nil)))))) pss_nil)) pss_nil)
    (pss_cons (ps_dput hu (pv 0) pe_str (pe_op op_add (pe_dget hu (pv 0) pe_str (fun _ _ => rfl)) pe_int) rfl)
    (pss_cons (ps_dput hu (pv 0) pe_str (pe_op op_add (pe_dget hu (pv 0) pe_str (fun _ _ => rfl)) (pe_callB call_len_seq (by rfl) T.b_len PySem.boot_len (pa_cons (pv 3) pa_nil))) rfl)
    (pss_cons (ps_dput hu (pv 0) pe_str (pe_callB call_len_seq (by rfl) T.b_len PySem.boot_len (pa_cons (pv 3) pa_nil)) rfl)
    (pss_one (ps_ret pe_non))))))))), ?_⟩
  unfold MPutTo at q
  -- what begin tells
  refine q_cut (M := fun σ' H' => ∃ o x5, σ' = [some (.ref a.M), some (.str k), some x, some (.ref lp), some o, x5] ∧ ((∃ p, o = .ref p ∧ Q (.ref p) H') ∨ (o = .non ∧ ∃ g1 a', ¬ (find k g = none ∧ t.bound ≤ (total g : Int)) ∧ ¬ t.load < picks.length ∧ pre t.wide t.first k g = some g1 ∧ MdAt H' a' t c g1 ∧ a'.M = a.M ∧ Stp a.own H a'.own H'))) ?_ ?_
  · refine s_asgK (r_call (ea_cons (ev_var rfl) (ea_cons (ev_var rfl) (ea_cons (ev_var rfl) (ea_cons (ev_is (ev_len (ev_var rfl) (SqL.of hlp)) (by rw [vns_len])) ea_nil))) H (Ex.refl _) _ fun H1 e1 => ⟨a, t, c, g, k, x, picks.length, rfl, h.ex e1, ?_, ?_, ?_, ?_⟩))
    · intro hc
      unfold putOut at q
      rw [if_pos hc] at q
      exact fun p H2 h2 hn2 c2 => ⟨_, _, rfl, .inl ⟨p, rfl, (q.ex e1) p H2 h2 hn2 c2⟩⟩
    · intro hc hl
      unfold putOut at q
      rw [if_neg hc, if_pos hl] at q
      exact fun p H2 h2 hn2 c2 => ⟨_, _, rfl, .inl ⟨p, rfl, (Told.ex q e1) p H2 h2 hn2 c2⟩⟩
    · intro hc hl hp
      rw [putOut_go hc hl] at q
      unfold putGo at q
      rw [hp] at q
      exact fun p H2 h2 hn2 c2 => ⟨_, _, rfl, .inl ⟨p, rfl, (Told.ex q e1) p H2 h2 hn2 c2⟩⟩
    · intro g1 hc hl hp H2 a2 h2 em st
      exact ⟨_, _, rfl, .inr ⟨rfl, g1, a2, hc, hl, hp, h2, em, (Stp.ex e1).trans st⟩⟩
  rintro σ1 H1 ⟨o, x5, rfl, hcase⟩
  rcases hcase with ⟨p, rfl, hq⟩ | ⟨rfl, g1, a1, hc, hl, hpre, h1, em1, st1⟩
  · refine r_seq (r_ifS (r_test (r_op (r_var rfl ⟨rfl, _, rfl, ?_⟩))))
    exact iteT (r_ret (r_var rfl hq))
  refine r_seq (r_ifS (r_test (r_op (r_var rfl ⟨rfl, _, rfl, ?_⟩))))
  refine iteF ?_
  refine r_next ?_
  dsimp only
  rw [putOut_go hc hl] at q
  have l1 : H1 lp = some (.lst (vns picks)) := st1.ch.at hlp nlp
  have trl : Tr [lp] H := fun b m z => by rw [List.mem_singleton.1 m, hlp] at z; cases z
  have djl : Dj [lp] a.own := fun b m => by rw [List.mem_singleton.1 m]; exact nlp
  refine q_cut (M := fun σ' H' => ∃ x5 a' g2, σ' = [some (.ref a'.M), some (.str k), some x, some (.ref lp), some .non, x5] ∧ moves t.wide picks g1 = .inr g2 ∧ MdAt H' a' t c g2 ∧ a'.M = a.M ∧ Stp a.own H a'.own H') ?_ ?_
  · refine s_forL (K := K) (ev_var rfl) (SqL.of l1) (fun i σ' H' => ∃ x5 a' g2, σ' = [some (.ref a'.M), some (.str k), some x, some (.ref lp), some .non, x5] ∧ moves t.wide picks g1 = moves t.wide (picks.drop i) g2 ∧ MdAt H' a' t c g2 ∧ a'.M = a.M ∧ Stp a.own H a'.own H')
      (fun H2 e2 => ⟨_, a1, g1, by rw [em1], by simp, h1.ex e2, em1, st1.trans (Stp.ex e2)⟩) (fun i σ' H' _ ⟨_, _, _, _, _, _, _, s⟩ => SqL.of (s.ch.at hlp nlp)) ?_ ?_
    · rintro i y σ' H2 hy ⟨x5', a2, g2, rfl, hm, h2, em2, st2⟩
      obtain ⟨b, hb2, rfl⟩ := vns_inv hy
      rw [moves_drop hb2] at hm
      refine r_name ?_
      refine r_ifS (r_not (r_B (r_call (ea_cons (ev_var rfl) (ea_cons (ev_var rfl) ea_nil) H2 (Ex.refl _) _ fun H3 e3 => ?_))))
      refine ⟨a2, t, c, g2, b, rfl, h2.ex e3, fun hz H4 e4 => ⟨false, rfl, iteT ?_⟩, fun hz H4 a4 h4 em4 st4 => ⟨true, rfl, iteF ?_⟩⟩
      · rw [if_neg hz] at hm
        have hgo : putGo t.wide t.first k picks g = .pick b := by
          unfold putGo
          rw [hpre]
          simp only
          rw [hm]
        rw [hgo] at q
        exact r_told ((Told.step q st2).ex (e3.trans e4)) (ev_var rfl) rfl
      · rw [if_pos hz] at hm
        exact ⟨_, a4, _, by rw [em4]; rfl, hm, h4, em4.trans em2, (st2.trans (Stp.ex e3)).trans st4⟩
    · rintro σ' H2 ⟨x5', a2, g2, rfl, hm, h2, em2, st2⟩
      rw [vns_len, List.drop_length] at hm
      exact ⟨x5', a2, g2, rfl, hm, h2, em2, st2⟩
  rintro σ2 H2 ⟨x5', a2, g2, rfl, hm, h2, em2, st2⟩
  have hgo : putGo t.wide t.first k picks g = fin t.wide t.first k g2 := by
    unfold putGo
    rw [hpre]
    simp only
    rw [hm]
  rw [hgo] at q
  refine q_cut (M := fun σ' H' => ∃ x5 a' g3, σ' = [some (.ref a'.M), some (.str k), some x, some (.ref lp), some .non, x5] ∧ fin t.wide t.first k g2 = .ok g3 ∧ MdAt H' a' t c g3 ∧ a'.M = a.M ∧ Stp a.own H a'.own H') ?_ ?_
  · refine s_when (et_not (et_B (ev_dget (ev_var rfl) ev_c h2.obj (mv_first ..)))) ?_ ?_
    · intro ht H3 e3
      have ht' : ¬ t.first = true := fun z => by rw [z] at ht; cases ht
      have h3 := h2.ex e3
      refine r_ifS (r_not (r_B (r_call (r_cons (r_var rfl (r_cons (r_tup (r_cons (r_var rfl (r_cons (r_var rfl (r_nil ⟨(show 2 ≤ sizeLine by decide), fun tu htu => r_nil ?_⟩))))))))))))
      have e5 : Ex H3 (upd H3 tu (.tup [.str k, x])) := Ex.new htu
      have e35 := e3.trans e5
      refine ⟨a2, t, c, g2, tu, k, x, rfl, h3.ex e5, upd_same, fun hz H6 e6 => ⟨false, rfl, iteT ?_⟩, fun hz H6 a6 h6 em st => ⟨true, rfl, iteF ?_⟩⟩
      · unfold fin at q
        rw [if_neg ht', if_pos hz] at q
        exact r_told ((Told.step q st2).ex (e35.trans e6)) (ev_dget (ev_var rfl) ev_c (h2.ex (e35.trans e6)).obj (mv_deeds ..)) rfl
      · refine ⟨_, a6, _, by rw [em], ?_, h6, em.trans em2, (st2.trans (Stp.ex e35)).trans st⟩
        unfold fin
        rw [if_neg ht', if_neg hz]
    · intro ht H3 e3
      have ht' : t.first = true := by cases z : t.first with
        | true => rfl
        | false => rw [z] at ht; cases ht
      refine ⟨_, a2, g2, rfl, ?_, h2.ex e3, em2, st2.trans (Stp.ex e3)⟩
      unfold fin
      rw [if_pos ht']
  rintro σ3 H3 ⟨x6, a3, g3, rfl, hok, h3, em3, st3⟩
  rw [hok] at q
  have l3 : H3 lp = some (.lst (vns picks)) := st3.ch.at hlp nlp
  have nl3 : lp ∉ a3.own := (djl.step trl st3) lp (by simp)
  have nM : lp ≠ a3.M := fun z => nl3 (by rw [z]; simp [Md.own])
  refine r_seq (r_dput (ev_op (ev_dget (ev_var rfl) ev_c h3.obj (mv_deeds ..)) ev_c rv_I0 H3 (Ex.refl _) _ fun H4 e4 => ⟨_, rfl, r_dputK (h3.ex e4).obj mk_len (mp_deeds a3 t c g3.head (c.deeds + 1)) fun H5 h5 c5 => ?_⟩))
  have m5 := (h3.ex e4).dict h3.ok.hd c5 h5
  have l5 : H5 lp = some (.lst (vns picks)) := c5.at (e4 _ _ l3) (by simp [nM])
  dsimp only
  refine r_seq (r_dput (ev_op (ev_dget (ev_var rfl) ev_c m5.obj (mv_moved ..)) (ev_is (ev_len (ev_var rfl) (SqL.of l5)) (by rw [vns_len])) rv_I0 H5 (Ex.refl _) _ fun H6 e6 => ⟨_, rfl, r_dputK (m5.ex e6).obj mk_len (mp_moved a3 t _ g3.head (c.moved + picks.length)) fun H7 h7 c7 => ?_⟩))
  have m7 := (m5.ex e6).dict h3.ok.hd c7 h7
  have l7 : H7 lp = some (.lst (vns picks)) := c7.at (e6 _ _ l5) (by simp [nM])
  dsimp only
  refine r_seq (r_dput (ev_is (ev_len (ev_var rfl) (SqL.of l7)) (by rw [vns_len]) H7 (Ex.refl _) _ fun H8 e8 => ⟨_, rfl, r_dputK (m7.ex e8).obj mk_len (mp_waits a3 t _ g3.head picks.length) fun H9 h9 c9 => ?_⟩))
  have m9 := (m7.ex e8).dict h3.ok.hd c9 h9
  have c39 : Ch [a3.M] H3 H9 := ((((e4.ch _).trans c5).trans (e6.ch _)).trans c7).trans ((e8.ch _).trans c9)
  have s39 : Stp a3.own H3 a3.own H9 := ⟨c39.mono fun y m => .inl (by rw [List.mem_singleton.1 m]; simp [Md.own]), fun y m => .inl m⟩
  dsimp only
  exact s_ret ev_c fun H10 e10 => q H10 a3 (m9.ex e10) em3 ((st3.trans s39).trans (Stp.ex e10))
def spMDrop : Sp := fun vs H Q _ => ∃ (a : Md) (t : Tm) (c : Ct) (g : Lg) (k : Str), vs = [.ref a.M, .str k] ∧ MdAt H a t c g ∧ MDropTo H a t c g k Q
theorem sc_f_law_drop : FnScope ["_law_model_here", "_law_name", "_law_old"] ["_law_model_here", "_law_name"] (defScope x_f_law_drop) := ⟨rfl, rfl, rfl, by decide +kernel, rfl, by decide +kernel, by decide +kernel⟩
theorem ok_mdrop (T : Tx K mg) : Fnc PP w K mg base CX0 3 (fA K "_law_drop") ["_law_model_here", "_law_name"] spMDrop := by
  refine mk0 T.d_f_law_drop sc_f_law_drop (by rintro _ H Q E ⟨a, t, c, g, k, rfl, _⟩; rfl) (by intro kV doc pm an cdv ct us h; match us, h with | [_, _], _ => rfl) ?_
  rintro cdv A outer s0 H _ Q E hr ⟨a, t, c, g, k, rfl, h, q⟩
  have nd := sc_f_law_drop.nd
  have hu := hu_of hr
  refine ⟨_, (pss_cons (ps_set (i := 2) nd rfl (by first | exact Or.inl rfl | exact Or.inr rfl) (pe_f (ok_mfind T) T.g_law_find (hr.mono (by decide)) pass0 (pa_cons (pv 0) (pa_cons (pv 1) pa_nil))))
    (pss_cons (ps_if (pt_cmpR op_isN (pv 2) pe_non (nomark _)) (pss_one (ps_ret (pe_tup (pa_cons pe_str (pa_cons (pv 1) (pa_cons pe_bl pa_nil)))))) pss_nil)
    (pss_cons (ps_expr (pe_f (ok_mkill T) T.g_law_kill hr pass0 (pa_cons (pv 0) (pa_cons (pe_ix ix_tup (pv 2) pe_int (fun _ _ => rfl)) (pa_cons (pe_ix ix_tup (pv 2) pe_int (fun _ _ => rfl)) pa_nil)))))
    (pss_one (ps_ret pe_non))))), ?_⟩
  refine q_asgK (r_call (ea_cons (ev_var rfl) (ea_cons (ev_var rfl) ea_nil) H (Ex.refl _) _ fun H1 e1 => ⟨a, t, c, g, k, rfl, h.ex e1, ?_⟩))
  unfold FindTo
  unfold MDropTo at q
  cases hfd : find k g with
  | none =>
    rw [hfd] at q
    intro H2 e2
    refine r_seq (r_ifS (r_test (r_op (r_var rfl ⟨rfl, _, rfl, ?_⟩))))
    exact iteT (r_told (Told.ex q (e1.trans e2)) (ev_var rfl) rfl)
  | some ij =>
    obtain ⟨i, j⟩ := ij
    rw [hfd] at q
    intro r H2 hr2 e2 h2
    refine r_seq (r_ifS (r_test (r_op (r_var rfl ⟨rfl, _, rfl, ?_⟩))))
    refine iteF (r_next ?_)
    dsimp only
    have h0 := h.ex (e1.trans e2)
    refine q_dropK (r_call (ea_cons (ev_var rfl) (ea_cons (ev_op (ev_var rfl) ev_c (rv_ixT (SqT.of h2) (atI_nat (j := 0) rfl))) (ea_cons (ev_op (ev_var rfl) ev_c (rv_ixT (SqT.of h2) (atI_nat (j := 1) rfl))) ea_nil)) H2 (Ex.refl _) _ fun H3 e3 => ?_))
    refine ⟨a, t, c, g, i, j, _, rfl, h0.ex e3, find_at hfd, fun H4 a4 h4 em st => ?_⟩
    exact s_ret ev_c fun H5 e5 => q H5 a4 (h4.ex e5) em (((Stp.ex ((e1.trans e2).trans e3)).trans st).trans (Stp.ex e5))
end
end CLg
end

section
/-! The law's list of segments: made, copied. -/
namespace CLg
open PySem PySem.Spec PyProof.Rows L2 Evl
theorem r_pair {tk tv : TE} {r : List (TE × TE)} {σ : L2.St} {H : Hp} {Q : List (V × V) → Hp → Prop} (h : tk σ H fun x H1 => tv σ H1 fun y H2 => tPairs r σ H2 fun ps H3 => Q ((x, y) :: ps) H3) : tPairs ((tk, tv) :: r) σ H Q := h
theorem r_pnil {σ : L2.St} {H : Hp} {Q : List (V × V) → Hp → Prop} (h : Q [] H) : tPairs [] σ H Q := h
section
variable {w : World} {K : Kf} {mg : Str → Option Value} {base : Heap}
def MkTo (H : Hp) (t : Tm) (c : Ct) (g : Lg) (Q : VK) : Prop := ∀ H2 a2, MdAt H2 a2 t c g → Ex H H2 → (∀ b ∈ a2.own, H b = none) → Q (.ref a2.M) H2
def spMCopy : Sp := fun vs H Q _ => ∃ (a : Md) (t : Tm) (c : Ct) (g : Lg), vs = [.ref a.M] ∧ MdAt H a t c g ∧ MkTo H t c g Q
theorem sc_f_law_copy : FnScope ["_law_model_here", "_law_other", "_law_row"] ["_law_model_here"] (defScope x_f_law_copy) := ⟨rfl, rfl, rfl, by decide +kernel, rfl, by decide +kernel, by decide +kernel⟩
theorem ok_mcopy (T : Tx K mg) : Fnc PP w K mg base CX0 1 (fA K "_law_copy") ["_law_model_here"] spMCopy := by
  refine mk0 T.d_f_law_copy sc_f_law_copy (by rintro _ H Q E ⟨a, t, c, g, rfl, _⟩; rfl) (by intro kV doc pm an cdv ct us h; match us, h with | [_], _ => rfl) ?_
  rintro cdv A outer s0 H _ Q E hr ⟨a, t, c, g, rfl, h, q⟩
  have nd := sc_f_law_copy.nd
  have hu := hu_of hr
  refine ⟨_, (pss_cons (ps_set (i := 1) nd rfl (by first | exact Or.inl rfl | exact Or.inr rfl) (pe_callTy call_dictD (by rfl) T.b_dict (by decide +kernel) (pa_cons (pv 0) pa_nil)))
    (pss_cons (ps_dput hu (pv 1) pe_str (pe_lc (own := [("_law_row", 2)]) (g := gName 2) (tt := tYes) (te := tCB (rListS K) (tCons (tVar 2) tNil)) rfl nd (pi_list (pe_dget hu (pv 0) pe_str (fun _ _ => rfl))) (blkOk_by (N := ["_law_model_here", "_law_other", "_law_row"]) (sc := defScope x_f_law_copy) (by decide +kernel)) (fun _ _ _ _ _ => (pg_name (i := 2) nd rfl (Or.inl rfl))) (fun _ _ _ _ _ => pts_nil) (fun _ _ _ _ _ => (pe_callTy call_list_of (by rfl) T.b_list (by decide +kernel) (pa_cons (pv 2) pa_nil)))) rfl)
    (pss_cons (ps_dput hu (pv 1) pe_str (pe_callTy call_list_of (by rfl) T.b_list (by decide +kernel) (pa_cons (pe_dget hu (pv 0) pe_str (fun _ _ => rfl)) pa_nil)) rfl)
    (pss_cons (ps_dput hu (pv 1) pe_str (pe_callTy call_list_of (by rfl) T.b_list (by decide +kernel) (pa_cons (pe_dget hu (pv 0) pe_str (fun _ _ => rfl)) pa_nil)) rfl)
    (pss_one (ps_ret (pv 1))))))), ?_⟩
  refine q_asgK (r_CB (r_cons (r_var rfl (r_nil ⟨a.M, _, rfl, Rd.of h.obj, fun p hp => ?_⟩))))
  have ex1 : Ex H (upd H p (.dK (mkv a t c g.head))) := Ex.new hp
  have o1 : (upd H p (.dK (mkv a t c g.head))) p = some (.dK (mkv a t c g.head)) := upd_same
  generalize upd H p (.dK (mkv a t c g.head)) = H1 at ex1 o1 ⊢
  have h1 := h.ex ex1
  have hR := h1.rw
  have nlen : (a.as.map V.ref).length = g.rows.length := by rw [List.length_map, hR.len]
  have np : p ∉ a.own := h.free_of hp
  have dj : Dj a.own [p] := fun b m z => np (by rw [← List.mem_singleton.1 z]; exact m)
  refine r_seq (r_dput (en_lcL (fun i => lstAt H1 (a.as.getD i 0)) (ev_dget (ev_var rfl) ev_c h1.obj (mv_rows ..)) (SqL.of hR.at_) (by rw [nlen]; have := h.ok.n8; omega) (fun _ => rfl) ?_ H1 (Ex.refl _) _ fun D as H3 nl => ⟨_, rfl, r_dputK (nl.ex _ _ o1) mk_len (mp_rows a t c g.head D) fun H4 h4 c4 => ?_⟩))
  · intro i y H' e' hy
    rw [List.getElem?_map] at hy
    cases ha : a.as[i]? with
    | none => rw [ha] at hy; cases hy
    | some b =>
      rw [ha] at hy
      cases hy
      rw [getD_some ha]
      have hi : i < g.rows.length := by rw [← hR.len]; exact (List.getElem?_eq_some_iff.1 ha).1
      obtain ⟨b', xs, k1, k2, k3, k5, _⟩ := hR.get hi
      rw [ha] at k1
      cases k1
      rw [lstAt_eq k3]
      exact el_list (ev_var rfl) (SqL.of (e' _ _ k3))
  have m4 := (h1.ex nl.ex).step c4 dj
  obtain ⟨bs, b1, b2⟩ := m4.bn
  dsimp only
  refine r_seq (r_dput (el_list (ev_dget (ev_var rfl) ev_c m4.obj (mv_born ..)) (SqL.of b1) H4 (Ex.refl _) _ fun B H5 hB e5 h5 => ⟨_, rfl, r_dputK (e5 _ _ h4) mk_len (mp_born { a with A := D } t c g.head B) fun H6 h6 c6 => ?_⟩))
  have m6 := (m4.ex e5).step c6 dj
  dsimp only
  refine r_seq (r_dput (el_list (ev_dget (ev_var rfl) ev_c m6.obj (mv_frees ..)) (SqL.of m6.fr) H6 (Ex.refl _) _ fun F H7 hF e7 h7 => ⟨_, rfl, r_dputK (e7 _ _ h6) mk_len (mp_frees { a with A := D, B := B } t c g.head F) fun H8 h8 c8 => ?_⟩))
  have tnl := nl.tr
  have fnl := nl.fr'
  have xn : ∀ b ∈ D :: as, b ≠ p := fun b m z => by have := fnl b m; rw [z, o1] at this; cases this
  have px : B ≠ p := fun z => by rw [z, h4] at hB; cases hB
  have rx : F ≠ p := fun z => by rw [z, h6] at hF; cases hF
  have t4 : Tr (D :: as) H4 := tnl.step c4
  have t6 : Tr (D :: as) H6 := (t4.step (e5.ch [])).step c6
  have pn : ∀ b ∈ D :: as, B ≠ b := fun b m z => t4 b m (by rw [← z]; exact hB)
  have rn : ∀ b ∈ D :: as, F ≠ b := fun b m z => t6 b m (by rw [← z]; exact hF)
  have p6 : H6 B = some (.lst (bs.map V.int)) := c6.at h5 (by simp [px])
  have rp : F ≠ B := fun z => by rw [z, p6] at hF; cases hF
  have c38 : Ch [p] H3 H8 := ((c4.trans (e5.ch _)).trans c6).trans ((e7.ch _).trans c8)
  have cA : Ch [p] H H8 := (ex1.ch _).trans ((nl.ex.ch _).trans c38)
  have exA : Ex H H8 := cA.exNew fun b m => by rw [List.mem_singleton.1 m]; exact hp
  dsimp only
  refine r_ret (r_var rfl (q H8 { M := p, A := D, B := B, F := F, as := as } ⟨?_, h8, ⟨bs, c8.at (e7 _ _ p6) (by simp [px]), b2⟩, c8.at h7 (by simp [rx]), nl.rows c38 (fun b m z => xn b m (List.mem_singleton.1 z)) nlen.symm ?_, h.ok⟩ exA fun b m => ?_))
  · refine List.nodup_append.2 ⟨?_, nl.nd, fun y hy z hz => ?_⟩
    · simp [px.symm, rx.symm, rp.symm]
    · simp only [List.mem_cons, List.not_mem_nil, or_false] at hy
      rcases hy with rfl | rfl | rfl
      · exact (xn z hz).symm
      · exact pn z hz
      · exact rn z hz
  · intro i r' e
    have hi : i < g.rows.length := (List.getElem?_eq_some_iff.1 e).1
    obtain ⟨b', xs, k1, k2, k3, k5, _⟩ := hR.get hi
    rw [getD_some k1, lstAt_eq k3, ← getD_some (d := []) e]
    exact k5.step ((nl.ex.ch [p]).trans c38)
  · have m : b ∈ [p, B, F] ++ (D :: as) := m
    have f2 : ∀ b, H1 b = none → H b = none := fun b z => (ex1.ch []).free z
    rcases List.mem_append.1 m with m | m
    · simp only [List.mem_cons, List.not_mem_nil, or_false] at m
      rcases m with rfl | rfl | rfl
      · exact hp
      · exact f2 _ ((nl.ex.ch []).free (c4.free hB))
      · exact f2 _ ((nl.ex.ch []).free (c4.free ((e5.ch []).free (c6.free hF))))
    · exact f2 _ (fnl b m)
def spMModel : Sp := fun vs H Q _ => ∃ (tp : Addr) (n : Nat) (t : Tm), vs = [.ref tp, .bl t.first] ∧ H tp = some (.tup [.int (n : Int), .int (t.wide : Int), .int t.bound, .int (t.load : Int)]) ∧ 1 ≤ n ∧ n ≤ 8 ∧ 1 ≤ t.wide ∧ t.wide ≤ 8 ∧ MkTo H t ⟨0, 0, 0⟩ (Lg0 n) Q
theorem sc_f_law_model : FnScope ["_law_terms_here", "_law_first", "_law_rows", "_law_zeros", "_law_k"] ["_law_terms_here", "_law_first"] (defScope x_f_law_model) := ⟨rfl, rfl, rfl, by decide +kernel, rfl, by decide +kernel, by decide +kernel⟩
theorem ok_mmodel (T : Tx K mg) : Fnc PP w K mg base CX0 1 (fA K "_law_model") ["_law_terms_here", "_law_first"] spMModel := by
  refine mk0 T.d_f_law_model sc_f_law_model (by rintro _ H Q E ⟨tp, n, t, rfl, _⟩; rfl) (by intro kV doc pm an cdv ct us h; match us, h with | [_, _], _ => rfl) ?_
  rintro cdv A outer s0 H _ Q E hr ⟨tp, n, t, rfl, htp, n1, n8, w1, w8, q⟩
  have nd := sc_f_law_model.nd
  have hu := hu_of hr
  refine ⟨_, (pss_cons (ps_setLc (i := 2) (own := [("_law_k", 4)]) (g := gName 4) (tt := tYes) rfl nd rfl rfl (sw_true rfl rfl rfl (by decide +kernel)) (pi_range1 rfl T.b_range (pa_cons (pe_ix ix_tup (pv 0) pe_int (fun _ _ => rfl)) pa_nil)) (blkOk_by (N := ["_law_terms_here", "_law_first", "_law_rows", "_law_zeros", "_law_k"]) (sc := defScope x_f_law_model) (by decide +kernel)) (fun _ _ _ _ _ => (pg_name (i := 4) nd rfl (Or.inl rfl))) (fun _ _ _ _ _ => pts_nil) (fun _ _ _ _ _ => (pe_lst pa_nil)))
    (pss_cons (ps_setLc (i := 3) (own := [("_law_k", 4)]) (g := gName 4) (tt := tYes) rfl nd rfl rfl (sw_true rfl rfl rfl (by decide +kernel)) (pi_range1 rfl T.b_range (pa_cons (pe_ix ix_tup (pv 0) pe_int (fun _ _ => rfl)) pa_nil)) (blkOk_by (N := ["_law_terms_here", "_law_first", "_law_rows", "_law_zeros", "_law_k"]) (sc := defScope x_f_law_model) (by decide +kernel)) (fun _ _ _ _ _ => (pg_name (i := 4) nd rfl (Or.inl rfl))) (fun _ _ _ _ _ => pts_nil) (fun _ _ _ _ _ => pe_int))
    (pss_one (ps_ret (pe_disp (pps_cons pe_str (pv 2) (pps_cons pe_str pe_int (pps_cons pe_str (pe_callTy call_list_of (by rfl) T.b_list (by decide +kernel) (pa_cons (pv 3) pa_nil)) (pps_cons pe_str (pv 3) (pps_cons pe_str pe_int (pps_cons pe_str pe_int (pps_cons pe_str pe_int (pps_cons pe_str (pe_ix ix_tup (pv 0) pe_int (fun _ _ => rfl)) (pps_cons pe_str (pe_ix ix_tup (pv 0) pe_int (fun _ _ => rfl)) (pps_cons pe_str (pe_ix ix_tup (pv 0) pe_int (fun _ _ => rfl)) (pps_cons pe_str (pv 1) pps_nil))))))))))) (by rfl) (by rfl) (fun z => by cases z) (by decide)))))), ?_⟩
  refine q_asgK (en_lcR (n := n) (fun _ => []) (ea_cons (ev_op (ev_var rfl) ev_c (rv_ixT (SqT.of htp) (atI_nat (j := 0) rfl))) ea_nil) (by omega) (fun _ => rfl) (fun i H' e hi => el_lst ea_nil (by decide)) H (Ex.refl _) _ fun D as H1 nl => ?_)
  have ht1 := nl.ex _ _ htp
  refine q_asgL (xs := vns (List.replicate n 0)) ?_ fun Z H2 hZ e2 h2 => ?_
  · have e : vns (List.replicate n 0) = given (n : Int).toNat (fun _ => true) (fun _ => .int 0) := by
      rw [Int.toNat_natCast, ← vns_rep]
      unfold given
      rw [List.filter_eq_self.2 (fun _ _ => rfl), List.map_const', List.length_range]
    rw [e]
    exact el_lcR1 _ _ (ea_cons (ev_op (ev_var rfl) ev_c (rv_ixT (SqT.of ht1) (atI_nat (j := 0) rfl))) ea_nil) (by omega) (fun _ => rfl) (fun _ _ _ _ => et_yes) (fun _ _ _ _ _ => ev_c)
  refine r_ret fun p hp => ?_
  have ep : Ex H2 (upd H2 p (.dK [])) := Ex.new hp
  have ht2 := (e2.trans ep) _ _ ht1
  have hZ2 := ep _ _ h2
  refine r_pair (r_c (r_var rfl ?_))
  refine r_pair (r_c (r_c ?_))
  refine r_pair (r_c (r_CB (r_cons (r_var rfl (r_nil ⟨Z, _, rfl, .inl (SqL.of hZ2), fun B hB => ?_⟩)))))
  have eB : Ex (upd H2 p (.dK [])) (upd (upd H2 p (.dK [])) B (.lst (vns (List.replicate n 0)))) := Ex.new hB
  have ht3 := eB _ _ ht2
  refine r_pair (r_c (r_var rfl ?_))
  refine r_pair (r_c (r_c ?_))
  refine r_pair (r_c (r_c ?_))
  refine r_pair (r_c (r_c ?_))
  refine r_pair (r_c (r_op (r_var rfl (r_c (r_ixT (SqT.of ht3) (atI_nat (j := 1) rfl) ?_)))))
  refine r_pair (r_c (r_op (r_var rfl (r_c (r_ixT (SqT.of ht3) (atI_nat (j := 2) rfl) ?_)))))
  refine r_pair (r_c (r_op (r_var rfl (r_c (r_ixT (SqT.of ht3) (atI_nat (j := 3) rfl) ?_)))))
  refine r_pair (r_c (r_var rfl ?_))
  refine r_pnil ?_
  have pB : p ≠ B := fun z => by rw [← z, upd_same] at hB; cases hB
  refine ⟨by rw [upd_ne pB, upd_same], mkv ⟨p, D, B, Z, as⟩ t ⟨0, 0, 0⟩ 0, rfl, (show 11 ≤ 15 by decide), ?_⟩
  rw [mk_mrg]
  have hB2 : H2 B = none := by rw [upd_ne pB.symm] at hB; exact hB
  have tnl := nl.tr
  have fnl := nl.fr'
  have t2 : Tr (D :: as) H2 := tnl.step (e2.ch [])
  have nZ : ∀ b ∈ D :: as, Z ≠ b := fun b m z => tnl b m (by rw [← z]; exact hZ)
  have np : ∀ b ∈ D :: as, p ≠ b := fun b m z => t2 b m (by rw [← z]; exact hp)
  have nB : ∀ b ∈ D :: as, B ≠ b := fun b m z => t2 b m (by rw [← z]; exact hB2)
  have pZ : p ≠ Z := fun z => by rw [z, h2] at hp; cases hp
  have BZ : B ≠ Z := fun z => by rw [z, h2] at hB2; cases hB2
  have eF : Ex H2 (upd (upd (upd H2 p (.dK [])) B (.lst (vns (List.replicate n 0)))) p (.dK (mkv ⟨p, D, B, Z, as⟩ t ⟨0, 0, 0⟩ 0))) := (ep.trans eB).mut hp
  refine q _ ⟨p, D, B, Z, as⟩ ⟨?_, upd_same, ⟨List.replicate n 0, ?_, by simp [Lg0]⟩, eF _ _ h2, nl.rows (ow := []) ((e2.trans eF).ch _) (fun _ _ z => by cases z) (by simp [Lg0]) ?_, Lg0_ok n1 n8 w1 w8⟩ ((nl.ex.trans e2).trans eF) fun b m => ?_
  · refine List.nodup_append.2 ⟨?_, nl.nd, fun y hy z hz => ?_⟩
    · simp [pB, pZ, BZ]
    · simp only [List.mem_cons, List.not_mem_nil, or_false] at hy
      rcases hy with rfl | rfl | rfl
      · exact np z hz
      · exact nB z hz
      · exact nZ z hz
  · rw [upd_ne pB.symm, upd_same]
    congr 2
    unfold vns
    rw [List.map_replicate, List.map_replicate]
    rfl
  · intro i r' e
    have e : r' = [] := by
      have : (List.replicate n ([] : List (Option Str)))[i]? = some r' := e
      rw [List.getElem?_replicate] at this
      split at this
      · cases this; rfl
      · cases this
    subst e
    exact Cells.nil
  · have m : b ∈ [p, B, Z] ++ (D :: as) := m
    have f2 : ∀ b, H2 b = none → H b = none := fun b z => ((nl.ex.trans e2).ch []).free z
    rcases List.mem_append.1 m with m | m
    · simp only [List.mem_cons, List.not_mem_nil, or_false] at m
      rcases m with rfl | rfl | rfl
      · exact f2 _ hp
      · exact f2 _ hB2
      · exact (nl.ex.ch []).free hZ
    · exact fnl b m
end
end CLg
end

section
/-! The law's choices. -/
namespace CLg
open PySem PySem.Spec PyProof.Rows L2 Evl
def Fr (H : Hp) (o : List Addr) : Prop := ∀ y ∈ o, H y = none
theorem Fr.dj {H : Hp} {o q : List Addr} (f : Fr H o) (t : Tr q H) : Dj q o := fun y m n => t y m (f y n)
theorem stp_fr {H H1 H2 : Hp} {o o1 q : List Addr} (f : Fr H o) (c : Ch q H H1) (s : Stp o H1 o1 H2) : Ch q H H2 ∧ Fr H o1 :=
  ⟨c.thenNew s.ch fun y m => .inr (f y m), fun y m => (s.own y m).elim (f y) fun z => c.free z⟩
section
variable {w : World} {K : Kf} {mg : Str → Option Value} {base : Heap}
def spPicks : Sp := fun vs H Q _ => ∃ (b : Bx) (N : Nat) (a : Md) (t : Tm) (c : Ct) (g : Lg) (k : Str) (mood : Int), vs = [.ref b.B, .ref a.M, .str k, .int mood] ∧ BoxAt H b N ∧ N ≤ 900000 ∧ MdAt H a t c g ∧ Dj a.own b.own ∧
  ∀ H2 lp (picks : List Nat), BoxAt H2 b (N + 15) → Ch b.own H H2 → H2 lp = some (.lst (vns picks)) → H lp = none → picks.length ≤ 12 → Q (.ref lp) H2
theorem sc_f_law_picks : FnScope ["_law_box_here", "_law_model_here", "_law_name", "_law_mood", "_law_probe", "_law_picks_here", "_law_way", "_law_many", "_law_k", "_law_shut_here", "_law_pick", "_law_spot"] ["_law_box_here", "_law_model_here", "_law_name", "_law_mood"] (defScope x_f_law_picks) := ⟨rfl, rfl, rfl, by decide +kernel, rfl, by decide +kernel, by decide +kernel⟩
theorem ok_picks (T : Tx K mg) : Fnc PP w K mg base CX0 5 (fA K "_law_picks") ["_law_box_here", "_law_model_here", "_law_name", "_law_mood"] spPicks := by
  refine mk0 T.d_f_law_picks sc_f_law_picks (by rintro _ H Q E ⟨b, N, a, t, c, g, k, mood, rfl, _⟩; rfl) (by intro kV doc pm an cdv ct us h; match us, h with | [_, _, _, _], _ => rfl) ?_
  rintro cdv A outer s0 H _ Q E hr ⟨b, N, a, t, c, g, k, mood, rfl, hB, hN, h, dj, q⟩
  have nd := sc_f_law_picks.nd
  have hu := hu_of hr
  refine ⟨_, (pss_cons (ps_set (i := 4) nd rfl (by first | exact Or.inl rfl | exact Or.inr rfl) (pe_f (ok_mcopy T) T.g_law_copy (hr.mono (by decide)) pass0 (pa_cons (pv 1) pa_nil)))
    (pss_cons (ps_set (i := 5) nd rfl (by first | exact Or.inl rfl | exact Or.inr rfl) (pe_lst pa_nil))
    (pss_cut (ps_if (pt_cmpR op_notN (pe_f (ok_mbegin T) T.g_law_begin hr pass0 (pa_cons (pv 4) (pa_cons (pv 2) (pa_cons pe_int (pa_cons pe_int pa_nil))))) pe_non (nomark _)) (pss_one (ps_ret (pv 5))) pss_nil)
    (pss_cons (ps_set (i := 6) nd rfl (by first | exact Or.inl rfl | exact Or.inr rfl) (pv 3))
    (pss_cut (ps_if (pt_cmpR op_gt (pv 3) pe_int (nomark _)) (pss_one (ps_set (i := 6) nd rfl (by first | exact Or.inl rfl | exact Or.inr rfl) (pe_f (ok_draw T) T.g_law_draw (hr.mono (by decide)) pass0 (pa_cons (pv 0) (pa_cons pe_int pa_nil))))) pss_nil)
    (pss_cons (ps_set (i := 7) nd rfl (by first | exact Or.inl rfl | exact Or.inr rfl) (pe_callB (call_min2 rfl) (by rfl) T.b_min (by decide +kernel) (pa_cons (pe_dget hu (pv 1) pe_str (fun _ _ => rfl)) (pa_cons pe_int pa_nil))))
    (pss_cut (ps_if (pt_cmpR op_eq (pv 6) pe_int (nomark _)) (pss_one (ps_set (i := 7) nd rfl (by first | exact Or.inl rfl | exact Or.inr rfl) (pe_f (ok_draw T) T.g_law_draw (hr.mono (by decide)) pass0 (pa_cons (pv 0) (pa_cons (pe_op op_add (pv 7) pe_int) pa_nil))))) pss_nil)
    (pss_cut (ps_if (pt_cmpR op_eq (pv 6) pe_int (nomark _)) (pss_one (ps_set (i := 7) nd rfl (by first | exact Or.inl rfl | exact Or.inr rfl) pe_int)) pss_nil)
    (pss_cut (ps_for PassesOwn.never rfl (pi_range1 rfl T.b_range (pa_cons (pv 7) pa_nil)) (pg_name (i := 8) nd rfl (by first | exact Or.inl rfl | exact Or.inr rfl))
      (pss_cons (ps_set (i := 9) nd rfl (by first | exact Or.inl rfl | exact Or.inr rfl) (pe_f (ok_mshut T) T.g_law_shut (hr.mono (by decide)) pass0 (pa_cons (pv 4) pa_nil)))
      (pss_cons (ps_if (PW.pt (pw_or (pt_cmpR op_eq (pe_callB call_len_seq (by rfl) T.b_len PySem.boot_len (pa_cons (pv 9) pa_nil)) pe_int (nomark _)) (pw_or1 (pt_cmpR op_eq (pe_f (ok_mroom T) T.g_law_room (hr.mono (by decide)) pass0 (pa_cons (pv 4) pa_nil)) pe_int (nomark _))))) (pss_one ps_break) pss_nil)
      (pss_cons (ps_if (PW.pt (pw_and (pt_cmpR op_eq (pv 6) pe_int (nomark _)) (pw_and1 (pt_cmpR op_gt (pe_callB call_len_seq (by rfl) T.b_len PySem.boot_len (pa_cons (pe_f (ok_mempty T) T.g_law_empty (hr.mono (by decide)) pass0 (pa_cons (pv 4) pa_nil)) pa_nil)) pe_int (nomark _))))) (pss_one ps_break) pss_nil)
      (pss_cons (ps_set (i := 10) nd rfl (by first | exact Or.inl rfl | exact Or.inr rfl) (pe_ix ix_list (pv 9) pe_int (fun _ _ => rfl)))
      (pss_cut (ps_if (pt_cmpR op_eq (pv 6) pe_int (nomark _)) (pss_one (ps_set (i := 10) nd rfl (by first | exact Or.inl rfl | exact Or.inr rfl) (pe_ix ix_list (pv 9) (pe_f (ok_draw T) T.g_law_draw (hr.mono (by decide)) pass0 (pa_cons (pv 0) (pa_cons (pe_callB call_len_seq (by rfl) T.b_len PySem.boot_len (pa_cons (pv 9) pa_nil)) pa_nil))) (fun _ _ => rfl)))) (pss_one (ps_for PassesOwn.never rfl (pi_list (pv 9)) (pg_name (i := 11) nd rfl (by first | exact Or.inl rfl | exact Or.inr rfl))
          (pss_one (ps_if (pt_cmpR op_lt (pe_f (ok_malive T) T.g_law_alive (hr.mono (by decide)) pass0 (pa_cons (pe_ix ix_list (pe_dget hu (pv 4) pe_str (fun _ _ => rfl)) (pv 11) (fun _ _ => rfl)) pa_nil)) (pe_f (ok_malive T) T.g_law_alive (hr.mono (by decide)) pass0 (pa_cons (pe_ix ix_list (pe_dget hu (pv 4) pe_str (fun _ _ => rfl)) (pv 10) (fun _ _ => rfl)) pa_nil)) (nomark _)) (pss_one (ps_set (i := 10) nd rfl (by first | exact Or.inl rfl | exact Or.inr rfl) (pv 11))) pss_nil)))))
      (pss_cons (ps_expr (pe_f (ok_mmove T) T.g_law_move hr pass0 (pa_cons (pv 4) (pa_cons (pv 10) pa_nil))))
      (pss_one (ps_expr (pe_bm PySem.F.plainAttrs_list PySem.F.slot_list_append PySem.F.type_list_append mt_append (pv 5) (pa_cons (pv 10) pa_nil)))))))))))
    (pss_one (ps_ret (pv 5)))))))))))), ?_⟩
  have trB := hB.tr
  have hl8 : ∀ (g' : Lg), Ok t.wide g' → ∀ s, (g'.row s).length ≤ 8 := fun g' o s => Nat.le_trans (o.le s) o.w8
  refine q_asgK (r_call (ea_cons (ev_var rfl) ea_nil H (Ex.refl _) _ fun H1 e1 => ⟨a, t, c, g, rfl, h.ex e1, fun H2 p hp e2 fr2 => ?_⟩))
  have e02 := e1.trans e2
  have frp : Fr H p.own := fun y m => (e1.ch []).free (fr2 y m)
  refine q_asgL (el_lst ea_nil (by decide)) fun lp H3 hlp e3 hl3 => ?_
  have e03 := e02.trans e3
  have hlp0 : H lp = none := (e02.ch []).free hlp
  have nlb : lp ∉ b.own := fun z => trB lp z hlp0
  have hp3 := hp.ex e3
  have nlp : lp ∉ p.own := fun z => hp.tr lp z hlp
  -- the state, wherever
  refine q_cut (M := fun σ' H' => ∃ p' g', σ' = [some (.ref b.B), some (.ref a.M), some (.str k), some (.int mood), some (.ref p'.M), some (.ref lp), none, none, none, none, none, none] ∧ MdAt H' p' t c g' ∧ Fr H p'.own ∧ lp ∉ p'.own ∧ Ex H H' ∧ H' lp = some (.lst [])) ?_ ?_
  · have fin1 : ∀ H', Ex H H' → H' lp = some (.lst []) → Q (.ref lp) H' := fun H' e hl => q H' lp [] ((hB.ex e).mono (by omega)) (e.ch _) hl hlp0 (by simp)
    refine r_ifS (r_test (r_op (r_call (ea_cons (ev_var rfl) (ea_cons (ev_var rfl) (ea_cons ev_c (ea_cons ev_c ea_nil))) H3 (Ex.refl _) _ fun H4 e4 => ?_))))
    have exx : ∀ {H5 : Hp}, Ch p.own H4 H5 → Ex H H5 := fun c5 y u e => c5.at ((e03.trans e4) y u e) fun m => by rw [frp y m] at e; cases e
    refine ⟨p, t, c, g, k, .int 0, 0, rfl, hp3.ex e4, ?_, ?_, ?_, ?_⟩
    · exact fun _ r H5 h5 hn5 c5 => ⟨rfl, _, rfl, iteT (r_ret (r_var rfl (fin1 H5 (exx c5) (c5.at (e4 _ _ hl3) nlp))))⟩
    · exact fun _ _ r H5 h5 hn5 c5 => ⟨rfl, _, rfl, iteT (r_ret (r_var rfl (fin1 H5 (exx c5) (c5.at (e4 _ _ hl3) nlp))))⟩
    · exact fun _ _ _ r H5 h5 hn5 c5 => ⟨rfl, _, rfl, iteT (r_ret (r_var rfl (fin1 H5 (exx c5) (c5.at (e4 _ _ hl3) nlp))))⟩
    · intro g1 _ _ _ H5 p5 h5 em st
      have z := stp_fr frp ((e03.trans e4).ch []) st
      refine ⟨rfl, _, rfl, iteF (r_next ⟨p5, g1, by rw [em]; rfl, h5, z.2, fun m => (st.own lp m).elim nlp fun y => (by rw [e4 _ _ hl3] at y; cases y), z.1.exNew fun y m => (by cases m), st.ch.at (e4 _ _ hl3) nlp⟩)⟩
  rintro σ4 H4 ⟨p4, g4, rfl, hp4, fr4, nl4, e4, hl4⟩
  refine q_asg (ev_var rfl) fun H5 e5 => ?_
  have e05 := e4.trans e5
  have hB5 := hB.ex e05
  have hp5 := hp4.ex e5
  -- the box may be drawn from: what then stands
  refine q_cut (M := fun σ' H' => ∃ way : Int, σ' = [some (.ref b.B), some (.ref a.M), some (.str k), some (.int mood), some (.ref p4.M), some (.ref lp), some (.int way), none, none, none, none, none] ∧ BoxAt H' b (N + 1) ∧ Ch b.own H5 H') ?_ ?_
  · refine s_when (et_B (ev_op (ev_var rfl) ev_c rv_I0)) ?_ ?_
    · intro _ H6 e6
      exact s_asgK (r_draw (ev_var rfl) ev_c (hB5.ex e6) (by omega) (by decide) (by decide) fun H7 r hB7 c7 hr7 => ⟨r, rfl, hB7, (e6.ch _).trans c7⟩)
    · intro _ H6 e6
      exact ⟨mood, rfl, (hB5.ex e6).mono (by omega), e6.ch _⟩
  rintro σ6 H6 ⟨way, rfl, hB6, c6⟩
  have djp4 : Dj p4.own b.own := (fr4.dj trB).symm
  have ha6 : MdAt H6 a t c g := (h.ex e05).step c6 dj
  have hp6 := hp5.step c6 djp4
  have hl6 : H6 lp = some (.lst []) := c6.at (e5 _ _ hl4) nlb
  have cH6 : Ch b.own H H6 := (e05.ch _).trans c6
  refine q_asg (ev_cb (z := .int (if (12 : Int) < (t.load : Int) then 12 else (t.load : Int))) (ea_cons (ev_dget (ev_var rfl) ev_c ha6.obj (mv_load ..)) (ea_cons ev_c ea_nil)) fun H' e' Q' q' => ⟨_, _, rfl, q' H' (Ex.refl _)⟩) fun H7 e7 => ?_
  refine q_cut (M := fun σ' H' => ∃ many : Nat, σ' = [some (.ref b.B), some (.ref a.M), some (.str k), some (.int mood), some (.ref p4.M), some (.ref lp), some (.int way), some (.int (many : Int)), none, none, none, none] ∧ many ≤ 12 ∧ BoxAt H' b (N + 2) ∧ Ch b.own H6 H') ?_ ?_
  · refine s_when (et_B (ev_op (ev_var rfl) ev_c (rv_eq rfl))) ?_ ?_
    · intro _ H8 e8
      refine s_asgK (r_draw (ev_var rfl) (ev_op (ev_var rfl) ev_c rv_I0) (hB6.ex (e7.trans e8)) (by omega) (by split <;> omega) (by split <;> omega) fun H9 r hB9 c9 hr9 => ⟨r, rfl, ?_, hB9, ((e7.trans e8).ch _).trans c9⟩)
      split at hr9 <;> omega
    · intro _ H8 e8
      by_cases z : (12 : Int) < (t.load : Int)
      · rw [if_pos z]
        exact ⟨12, rfl, by omega, (hB6.ex (e7.trans e8)).mono (by omega), (e7.trans e8).ch _⟩
      · rw [if_neg z]
        exact ⟨t.load, rfl, by omega, (hB6.ex (e7.trans e8)).mono (by omega), (e7.trans e8).ch _⟩
  rintro σ8 H8 ⟨many, rfl, hm, hB8, c8⟩
  refine q_cut (M := fun σ' H' => ∃ many : Nat, σ' = [some (.ref b.B), some (.ref a.M), some (.str k), some (.int mood), some (.ref p4.M), some (.ref lp), some (.int way), some (.int (many : Int)), none, none, none, none] ∧ many ≤ 12 ∧ Ex H8 H') ?_ ?_
  · refine s_when (et_B (ev_op (ev_var rfl) ev_c (rv_eq rfl))) ?_ ?_
    · intro _ H9 e9
      exact s_asg ev_c fun H10 e10 => ⟨0, rfl, by omega, e9.trans e10⟩
    · intro _ H9 e9
      exact ⟨many, rfl, hm, e9⟩
  clear hm
  rintro σ9 H9 ⟨many, rfl, hm, e9⟩
  have c69 : Ch b.own H6 H9 := c8.trans (e9.ch _)
  have hp9 := hp6.step c69 djp4
  have hl9 : H9 lp = some (.lst []) := c69.at hl6 nlb
  refine q_cut (M := fun σ' H' => ∃ (picks : List Nat) (x8 x9 x10 x11 : Option V), σ' = [some (.ref b.B), some (.ref a.M), some (.str k), some (.int mood), some (.ref p4.M), some (.ref lp), some (.int way), some (.int (many : Int)), x8, x9, x10, x11] ∧ picks.length ≤ 12 ∧ H' lp = some (.lst (vns picks)) ∧ BoxAt H' b (N + 15) ∧ Ch b.own H H') ?_ ?_
  · refine s_forR1 (n := (many : Int)) (ea_cons (ev_var rfl) ea_nil) (by omega) (fun i σ' H' => ∃ (picks : List Nat) (x8 x9 x10 x11 : Option V) (p' : Md) (g' : Lg), σ' = [some (.ref b.B), some (.ref a.M), some (.str k), some (.int mood), some (.ref p'.M), some (.ref lp), some (.int way), some (.int (many : Int)), x8, x9, x10, x11] ∧ p'.M = p4.M ∧ picks.length ≤ i ∧ H' lp = some (.lst (vns picks)) ∧ lp ∉ p'.own ∧ MdAt H' p' t c g' ∧ Fr H p'.own ∧ BoxAt H' b (N + 2 + i) ∧ Ch b.own H H') ?_ ?_ ?_
    · exact fun H10 e10 => ⟨[], _, _, _, _, p4, g4, rfl, rfl, by simp, e10 _ _ hl9, nl4, hp9.ex e10, fr4, ((hB8.ex e9).ex e10).mono (by omega), (cH6.trans c69).trans (e10.ch _)⟩
    · rintro i σ' H10 hi ⟨picks, x8, x9, x10, x11, p', g', rfl, emp, hpl, hl10, nl10, hp10, fr10, hB10, c10⟩
      have djp : Dj p'.own b.own := (fr10.dj trB).symm
      have brk : ∀ {H' : Hp} (y8 y9 y10 y11 : Option V), Ex H10 H' → ∃ (picks : List Nat) (x8 x9 x10 x11 : Option V), [some (.ref b.B), some (.ref a.M), some (.str k), some (.int mood), some (.ref p'.M), some (.ref lp), some (.int way), some (.int (many : Int)), y8, y9, y10, y11] = [some (.ref b.B), some (.ref a.M), some (.str k), some (.int mood), some (.ref p4.M), some (.ref lp), some (.int way), some (.int (many : Int)), x8, x9, x10, x11] ∧ picks.length ≤ 12 ∧ H' lp = some (.lst (vns picks)) ∧ BoxAt H' b (N + 15) ∧ Ch b.own H H' := fun y8 y9 y10 y11 e => ⟨picks, y8, y9, y10, y11, by rw [emp], by omega, e _ _ hl10, (hB10.ex e).mono (by omega), c10.trans (e.ch _)⟩
      refine q_asgL (el_call (ea_cons (ev_var rfl) ea_nil) (spl_mshut hp10)) fun sh H11 hsh e11 hs11 => ?_
      have hp11 := hp10.ex e11
      refine q_when (et_or (et_B (ev_op (ev_len (ev_var rfl) (SqL.of hs11)) ev_c (rv_eq rfl))) fun _ => et_B (ev_op (ev_call (ea_cons (ev_var rfl) ea_nil) (spv_mroom hp11)) ev_c (rv_eq rfl))) ?_ ?_
      · exact fun _ H12 e12 => brk _ _ _ _ (e11.trans e12)
      intro hc H12 e12
      have hne : 0 < (shut g').length := by
        rw [vns_len] at hc
        simp only [Bool.or_eq_false_iff, decide_eq_false_iff_not] at hc
        have := hc.1
        by_cases z : (shut g').length = 0
        · rw [z] at this; exact absurd rfl this
        · omega
      have hp12 := hp11.ex e12
      refine q_when (et_and (et_B (ev_op (ev_var rfl) ev_c (rv_eq rfl))) fun _ => et_B (ev_op (ev_lenN (el_call (ea_cons (ev_var rfl) ea_nil) (spl_mempty hp12))) ev_c rv_I0)) ?_ ?_
      · exact fun _ H13 e13 => brk _ _ _ _ ((e11.trans e12).trans e13)
      intro _ H13 e13
      have e1113 := (e12.trans e13)
      have hs13 := e1113 _ _ hs11
      obtain ⟨f0, f0e⟩ : ∃ f0, (shut g')[0]? = some f0 := ⟨_, List.getElem?_eq_getElem hne⟩
      refine q_asg (ev_op (ev_var rfl) ev_c (rv_ixL (SqL.of hs13) (atI_nat (j := 0) (vns_get f0e)))) fun H14 e14 => ?_
      have e1014 := (e11.trans e1113).trans e14
      have hs14 := e14 _ _ hs13
      have hp14 := hp10.ex e1014
      have hsz := shut_len (g := g')
      have hn8 := hp10.ok.n8
      refine q_cut (M := fun σ' H' => ∃ (pk : Nat) (x11 : Option V), σ' = [some (.ref b.B), some (.ref a.M), some (.str k), some (.int mood), some (.ref p'.M), some (.ref lp), some (.int way), some (.int (many : Int)), some (.int (i : Int)), some (.ref sh), some (.int (pk : Int)), x11] ∧ BoxAt H' b (N + 3 + i) ∧ Ch b.own H14 H') ?_ ?_
      · refine s_if (et_B (ev_op (ev_var rfl) ev_c (rv_eq rfl))) ?_ ?_
        · intro _ H15 e15
          refine s_asgK (r_op (r_var rfl (r_draw (ev_var rfl) (ev_len (ev_var rfl) (SqL.of (e15 _ _ hs14))) ((hB10.ex e1014).ex e15) (by omega) (by rw [vns_len]; omega) (by rw [vns_len]; omega) fun H16 r hB16 c16 hr16 => ?_)))
          rw [vns_len] at hr16
          have hrr : r < (shut g').length := by omega
          have nsb : sh ∉ b.own := fun z => trB.step c10 sh z hsh
          refine r_ixL (SqL.of (c16.at (e15 _ _ hs14) nsb)) (atI_nat (vns_get (List.getElem?_eq_getElem hrr))) ⟨_, _, rfl, hB16.mono (by omega), (e15.ch _).trans c16⟩
        · intro _ H15 e15
          refine s_forL (K := K) (ev_var rfl) (SqL.of (e15 _ _ hs14)) (fun j σ' H' => ∃ (pk : Nat) (x11 : Option V), σ' = [some (.ref b.B), some (.ref a.M), some (.str k), some (.int mood), some (.ref p'.M), some (.ref lp), some (.int way), some (.int (many : Int)), some (.int (i : Int)), some (.ref sh), some (.int (pk : Int)), x11] ∧ pk ∈ shut g' ∧ Ex H14 H')
            (fun H16 e16 => ⟨f0, _, rfl, List.mem_of_getElem? f0e, e15.trans e16⟩) (fun j σ' H' _ ⟨_, _, _, _, e⟩ => SqL.of (e _ _ hs14)) ?_ ?_
          · rintro j y σ' H16 hy ⟨pk, y11, rfl, mpk, e16⟩
            obtain ⟨m, hm2, rfl⟩ := vns_inv hy
            have mm := List.mem_of_getElem? hm2
            refine r_name ?_
            have hp16 := hp14.ex e16
            obtain ⟨b1, xs1, k1, k2, k3, k4, _⟩ := hp16.rw.get (mem_shut.1 mm).1
            obtain ⟨b2, xs2, l1, l2, l3, l4, _⟩ := hp16.rw.get (mem_shut.1 mpk).1
            refine s_when (et_B (ev_op (ev_call (ea_cons (ev_op (ev_dget (ev_var rfl) ev_c hp16.obj (mv_rows ..)) (ev_var rfl) (rv_ixL (SqL.of hp16.rw.at_) (atI_nat k2))) ea_nil) (spv_malive (r := g'.row m) ⟨xs1, k3, k4⟩ (hl8 g' hp10.ok m))) (ev_call (ea_cons (ev_op (ev_dget (ev_var rfl) ev_c hp16.obj (mv_rows ..)) (ev_var rfl) (rv_ixL (SqL.of hp16.rw.at_) (atI_nat l2))) ea_nil) (spv_malive (r := g'.row pk) ⟨xs2, l3, l4⟩ (hl8 g' hp10.ok pk))) rv_I0)) ?_ ?_
            · exact fun _ H17 e17 => s_asg (ev_var rfl) fun H18 e18 => ⟨m, _, rfl, mm, (e16.trans e17).trans e18⟩
            · exact fun _ H17 e17 => ⟨pk, _, rfl, mpk, e16.trans e17⟩
          · rintro σ' H16 ⟨pk, y11, rfl, mpk, e16⟩
            exact ⟨pk, y11, rfl, ((hB10.ex e1014).ex e16).mono (by omega), e16.ch _⟩
      rintro σ15 H15 ⟨pk, y11, rfl, hB15, c15⟩
      have hp15 := hp14.step c15 djp
      have hl15 : H15 lp = some (.lst (vns picks)) := c15.at (e1014 _ _ hl10) nlb
      have c015 : Ch b.own H H15 := (c10.trans (e1014.ch _)).trans c15
      have last : ∀ {H' : Hp} {p2 : Md} {g2 : Lg} {v : V}, MdAt H' p2 t c g2 → p2.M = p'.M → Fr H p2.own → lp ∉ p2.own → H' lp = some (.lst (vns picks)) → BoxAt H' b (N + 3 + i) → Ch b.own H H' → True := fun _ _ _ _ _ _ _ => trivial
      refine q_dropK (r_call (ea_cons (ev_var rfl) (ea_cons (ev_var rfl) ea_nil) H15 (Ex.refl _) _ fun H16 e16 => ?_))
      have fin2 : ∀ {H' : Hp} {p2 : Md} {g2 : Lg}, MdAt H' p2 t c g2 → p2.M = p'.M → Fr H p2.own → lp ∉ p2.own → H' lp = some (.lst (vns picks)) → BoxAt H' b (N + 3 + i) → Ch b.own H H' → tDrop (tBM K "list" rAppend (tVar 5) (tCons (tVar 10) tNil)) { nx := fun σ' H' => ∃ (picks : List Nat) (x8 x9 x10 x11 : Option V) (p' : Md) (g' : Lg), σ' = [some (.ref b.B), some (.ref a.M), some (.str k), some (.int mood), some (.ref p'.M), some (.ref lp), some (.int way), some (.int (many : Int)), x8, x9, x10, x11] ∧ p'.M = p4.M ∧ picks.length ≤ i + 1 ∧ H' lp = some (.lst (vns picks)) ∧ lp ∉ p'.own ∧ MdAt H' p' t c g' ∧ Fr H p'.own ∧ BoxAt H' b (N + 2 + (i + 1)) ∧ Ch b.own H H', rt := Q, bk := fun _ _ => True, ct := fun _ _ => True } [some (.ref b.B), some (.ref a.M), some (.str k), some (.int mood), some (.ref p'.M), some (.ref lp), some (.int way), some (.int (many : Int)), some (.int (i : Int)), some (.ref sh), some (.int (pk : Int)), y11] H' := by
        intro H' p2 g2 h2 em2 f2 n2 l2 b2 cc2
        refine s_app l2 (ev_var rfl) (ev_var rfl) (by rw [vns_len]; omega) fun H17 e17 => ?_
        have cu : Ch [lp] H17 (upd H17 lp (.lst (vns picks ++ [.int (pk : Int)]))) := Ch.updL (e17 _ _ l2) _ (by simp)
        refine ⟨picks ++ [pk], _, _, _, _, p2, g2, by rw [em2], em2.trans emp, by simp; omega, by rw [upd_same]; unfold vns; rw [List.map_append]; rfl, n2, (h2.ex e17).step cu fun y m z => n2 (by rw [← List.mem_singleton.1 z]; exact m), f2, ((b2.ex e17).step cu fun y m z => nlb (by rw [← List.mem_singleton.1 z]; exact m)).mono (by omega), (cc2.trans (e17.ch _)).thenNew cu fun y m => .inr (by rw [List.mem_singleton.1 m]; exact hlp0)⟩
      refine ⟨p', t, c, g', pk, rfl, hp15.ex e16, fun _ H17 e17 => ?_, fun _ H17 p17 h17 em17 st17 => ?_⟩
      · have ee := e16.trans e17
        exact fin2 (hp15.ex ee) rfl fr10 nl10 (ee _ _ hl15) (hB15.ex ee) (c015.trans (ee.ch _))
      · have z := stp_fr fr10 (c015.trans (e16.ch _)) st17
        have djb : Dj b.own p'.own := djp.symm
        exact fin2 h17 em17 z.2 (fun m => (st17.own lp m).elim nl10 fun y => (by rw [e16 _ _ hl15] at y; cases y)) (st17.ch.at (e16 _ _ hl15) nl10) ((hB15.ex e16).step st17.ch djb) z.1
    · rintro σ' H10 ⟨picks, x8, x9, x10, x11, p', g', rfl, emp, hpl, hl10, nl10, hp10, fr10, hB10, c10⟩
      rw [Int.toNat_natCast] at hpl hB10
      exact ⟨picks, x8, x9, x10, x11, by rw [emp], by omega, hl10, hB10.mono (by omega), c10⟩
  rintro σ10 H10 ⟨picks, x8, x9, x10, x11, rfl, hpl, hl10, hB10, c10⟩
  exact r_ret (r_var rfl (q H10 lp picks hB10 c10 hl10 hlp0 hpl))
end
end CLg
end

section
/-! Comparing. -/
namespace CLg
open PySem PySem.Spec PyProof.Rows L2 Evl
section
variable {w : World} {K : Kf} {mg : Str → Option Value} {base : Heap}
def spIsInt : Sp := fun vs H Q _ => ∃ i : Int, vs = [.int i] ∧ RetV (.bl true) H Q
theorem spv_isint {H : Hp} {i : Int} : SpV spIsInt [.int i] H (.bl true) := fun H1 e Q q E => ⟨i, rfl, q⟩
theorem sc_f_law_is_integer : FnScope ["_law_told"] ["_law_told"] (defScope x_f_law_is_integer) := ⟨rfl, rfl, rfl, by decide +kernel, rfl, by decide +kernel, by decide +kernel⟩
theorem ok_isint (T : Tx K mg) : Fnc PP w K mg base CX0 1 (fA K "_law_is_integer") ["_law_told"] spIsInt := by
  refine mk0 T.d_f_law_is_integer sc_f_law_is_integer (by rintro _ H Q E ⟨i, rfl, _⟩; rfl) (by intro kV doc pm an cdv ct us h; match us, h with | [_], _ => rfl) ?_
  rintro cdv A outer s0 H _ Q E hr ⟨i, rfl, q⟩
  refine ⟨_, (pss_one (ps_ret (pe_and (pe_callB call_isi (by rfl) T.b_isinstance (by decide +kernel) (pa_cons (pv 0) (pa_cons (pe_bltn (v := .ty "int") (by rfl) T.b_int (by decide +kernel) rfl) pa_nil))) (pe_one (pe_not (pe_callB call_isi (by rfl) T.b_isinstance (by decide +kernel) (pa_cons (pv 0) (pa_cons (pe_bltn (v := .ty "bool") (by rfl) T.b_bool (by decide +kernel) rfl) pa_nil)))))))), ?_⟩
  exact s_ret (ev_is (ev_andV (a := true) (b := true) (ev_isi (ea_cons (ev_var rfl) (ea_cons ev_c ea_nil)) (.int i) (fun _ _ => .int i) (by decide +kernel)) fun _ => ev_is (ev_notV (a := false) (ev_isi (ea_cons (ev_var rfl) (ea_cons ev_c ea_nil)) (.int i) (fun _ _ => .int i) (by decide +kernel))) rfl) rfl) q
def spNums : Sp := fun vs H Q _ => ∃ (p r : Addr) (ns : List Int), vs = [.ref p, .ref r] ∧ H p = some (.lst (ns.map V.int)) ∧ H r = some (.lst (ns.map V.int)) ∧ ns.length ≤ 1000 ∧ RetV (.bl true) H Q
theorem spv_nums {H : Hp} {p r : Addr} {ns : List Int} (h1 : H p = some (.lst (ns.map V.int))) (h2 : H r = some (.lst (ns.map V.int))) (l : ns.length ≤ 1000) : SpV spNums [.ref p, .ref r] H (.bl true) := fun H1 e Q q E => ⟨p, r, ns, rfl, e _ _ h1, e _ _ h2, l, q⟩
theorem ty_lst {K : Kf} {H : Hp} {a : Addr} {xs : List V} (h : H a = some (.lst xs)) : ∀ H1, Ex H H1 → TyOf K H1 (.ref a) (.type "list") := fun H1 e => .lst (e _ _ h)
theorem ty_tup {K : Kf} {H : Hp} {a : Addr} {xs : List V} (h : H a = some (.tup xs)) : ∀ H1, Ex H H1 → TyOf K H1 (.ref a) (.type "tuple") := fun H1 e => .tup (e _ _ h)
theorem ev_isi' {σ : L2.St} {H : Hp} {ta : TA} {x : V} {n m : String} {b : Bool} (ha : EvA ta σ H [x, .ty n]) (up : ∀ H1, Ex H H1 → TyOf K H1 x (.type m)) (k : kitB m n = some b) : Ev (tCB (rIsi K) ta) σ H (.bl b) := ev_isi ha (up H (Ex.refl H)) up k
theorem int_get {ns : List Int} {i : Nat} (h : i < ns.length) : (ns.map V.int)[i]? = some (.int ns[i]) := by rw [List.getElem?_map, List.getElem?_eq_getElem h]; rfl
theorem sc_f_law_numbers_are : FnScope ["_law_told", "_law_due", "_law_k"] ["_law_told", "_law_due"] (defScope x_f_law_numbers_are) := ⟨rfl, rfl, rfl, by decide +kernel, rfl, by decide +kernel, by decide +kernel⟩
theorem ok_nums (T : Tx K mg) : Fnc PP w K mg base CX0 2 (fA K "_law_numbers_are") ["_law_told", "_law_due"] spNums := by
  refine mk0 T.d_f_law_numbers_are sc_f_law_numbers_are (by rintro _ H Q E ⟨p, r, ns, rfl, _⟩; rfl) (by intro kV doc pm an cdv ct us h; match us, h with | [_, _], _ => rfl) ?_
  rintro cdv A outer s0 H _ Q E hr ⟨p, r, ns, rfl, h1, h2, hl, q⟩
  have nd := sc_f_law_numbers_are.nd
  refine ⟨_, (pss_cons (ps_if (PW.pt (pw_or (pt_not (pt_val (pe_callB call_isi (by rfl) T.b_isinstance (by decide +kernel) (pa_cons (pv 0) (pa_cons (pe_bltn (v := .ty "list") (by rfl) T.b_list (by decide +kernel) rfl) pa_nil))))) (pw_or1 (pt_cmpR op_ne (pe_callB call_len_seq (by rfl) T.b_len PySem.boot_len (pa_cons (pv 0) pa_nil)) (pe_callB call_len_seq (by rfl) T.b_len PySem.boot_len (pa_cons (pv 1) pa_nil)) (nomark _))))) (pss_one (ps_ret pe_bl)) pss_nil)
    (pss_cons (ps_for PassesOwn.never rfl (pi_range1 rfl T.b_range (pa_cons (pe_callB call_len_seq (by rfl) T.b_len PySem.boot_len (pa_cons (pv 1) pa_nil)) pa_nil)) (pg_name (i := 2) nd rfl (by first | exact Or.inl rfl | exact Or.inr rfl))
      (pss_one (ps_if (PW.pt (pw_or (pt_not (pt_val (pe_f (ok_isint T) T.g_law_is_integer hr pass0 (pa_cons (pe_ix ix_list (pv 0) (pv 2) (fun _ _ => rfl)) pa_nil)))) (pw_or1 (pt_cmpR op_ne (pe_ix ix_list (pv 0) (pv 2) (fun _ _ => rfl)) (pe_ix ix_list (pv 1) (pv 2) (fun _ _ => rfl)) (nomark _))))) (pss_one (ps_ret pe_bl)) pss_nil)))
    (pss_one (ps_ret pe_bl)))), ?_⟩
  refine q_when (b := false) (et_is (et_or (a := false) (et_is (et_not (a := true) (et_B (ev_isi' (ea_cons (ev_var rfl) (ea_cons ev_c ea_nil)) (ty_lst h1) (by decide +kernel)))) rfl) fun _ => et_B (ev_op (ev_len (ev_var rfl) (SqL.of h1)) (ev_len (ev_var rfl) (SqL.of h2)) (rv_ne rfl))) (by simp)) (fun z => nomatch z) fun _ H1 e1 => ?_
  refine q_forR1 (n := (ns.length : Int)) (ea_cons (ev_is (ev_len (ev_var rfl) (SqL.of (e1 _ _ h2))) (by simp)) ea_nil) (by omega) (fun i σ' H' => Ex H1 H' ∧ ∃ x, σ' = [some (.ref p), some (.ref r), x]) ?_ ?_ ?_
  · exact fun H2 e2 => ⟨e2, _, rfl⟩
  · rintro i σ' H2 hi ⟨e2, x, rfl⟩
    have hi : i < ns.length := by omega
    have a1 := (e1.trans e2) _ _ h1
    have a2 := (e1.trans e2) _ _ h2
    refine s_when (b := false) (et_is (et_or (a := false) (et_is (et_not (a := true) (et_B (ev_call (ea_cons (ev_op (ev_var rfl) (ev_var rfl) (rv_ixL (SqL.of a1) (atI_nat (int_get hi)))) ea_nil) spv_isint))) rfl) fun _ => et_B (ev_op (ev_op (ev_var rfl) (ev_var rfl) (rv_ixL (SqL.of a1) (atI_nat (int_get hi)))) (ev_op (ev_var rfl) (ev_var rfl) (rv_ixL (SqL.of a2) (atI_nat (int_get hi)))) (rv_ne rfl))) (by simp)) (fun z => nomatch z) fun _ H3 e3 => ⟨e2.trans e3, _, rfl⟩
  · rintro σ' H2 ⟨e2, x, rfl⟩
    exact s_ret ev_c fun H3 e3 => q H3 ((e1.trans e2).trans e3)
def spPicIs : Sp := fun vs H Q _ => ∃ (p r : Addr) (as bs : List Addr) (rows : List (List (Option Str))), vs = [.ref p, .ref r] ∧ Rows false H p as rows ∧ Rows false H r bs rows ∧ rows.length ≤ 8 ∧ (∀ x ∈ rows, x.length ≤ 8) ∧ RetV (.bl true) H Q
theorem spv_picis {H : Hp} {p r : Addr} {as bs : List Addr} {rows : List (List (Option Str))} (h1 : Rows false H p as rows) (h2 : Rows false H r bs rows) (l : rows.length ≤ 8) (l2 : ∀ x ∈ rows, x.length ≤ 8) : SpV spPicIs [.ref p, .ref r] H (.bl true) := fun H1 e Q q E => ⟨p, r, as, bs, rows, rfl, h1.ex e, h2.ex e, l, l2, q⟩
theorem sc_f_law_picture_is : FnScope ["_law_told", "_law_due", "_law_k", "_law_rank", "_law_one"] ["_law_told", "_law_due"] (defScope x_f_law_picture_is) := ⟨rfl, rfl, rfl, by decide +kernel, rfl, by decide +kernel, by decide +kernel⟩
theorem ok_picis (T : Tx K mg) : Fnc PP w K mg base CX0 1 (fA K "_law_picture_is") ["_law_told", "_law_due"] spPicIs := by
  refine mk0 T.d_f_law_picture_is sc_f_law_picture_is (by rintro _ H Q E ⟨p, r, as, bs, rows, rfl, _⟩; rfl) (by intro kV doc pm an cdv ct us h; match us, h with | [_, _], _ => rfl) ?_
  rintro cdv A outer s0 H _ Q E hr ⟨p, r, as, bs, rows, rfl, h1, h2, hl, hl2, q⟩
  have nd := sc_f_law_picture_is.nd
  refine ⟨_, (pss_cons (ps_if (PW.pt (pw_or (pt_not (pt_val (pe_callB call_isi (by rfl) T.b_isinstance (by decide +kernel) (pa_cons (pv 0) (pa_cons (pe_bltn (v := .ty "list") (by rfl) T.b_list (by decide +kernel) rfl) pa_nil))))) (pw_or1 (pt_cmpR op_ne (pe_callB call_len_seq (by rfl) T.b_len PySem.boot_len (pa_cons (pv 0) pa_nil)) (pe_callB call_len_seq (by rfl) T.b_len PySem.boot_len (pa_cons (pv 1) pa_nil)) (nomark _))))) (pss_one (ps_ret pe_bl)) pss_nil)
    (pss_cons (ps_for PassesOwn.never rfl (pi_range1 rfl T.b_range (pa_cons (pe_callB call_len_seq (by rfl) T.b_len PySem.boot_len (pa_cons (pv 1) pa_nil)) pa_nil)) (pg_name (i := 2) nd rfl (by first | exact Or.inl rfl | exact Or.inr rfl))
      (pss_cons (ps_if (PW.pt (pw_or (pt_not (pt_val (pe_callB call_isi (by rfl) T.b_isinstance (by decide +kernel) (pa_cons (pe_ix ix_list (pv 0) (pv 2) (fun _ _ => rfl)) (pa_cons (pe_bltn (v := .ty "list") (by rfl) T.b_list (by decide +kernel) rfl) pa_nil))))) (pw_or1 (pt_cmpR op_ne (pe_callB call_len_seq (by rfl) T.b_len PySem.boot_len (pa_cons (pe_ix ix_list (pv 0) (pv 2) (fun _ _ => rfl)) pa_nil)) (pe_callB call_len_seq (by rfl) T.b_len PySem.boot_len (pa_cons (pe_ix ix_list (pv 1) (pv 2) (fun _ _ => rfl)) pa_nil)) (nomark _))))) (pss_one (ps_ret pe_bl)) pss_nil)
      (pss_one (ps_for PassesOwn.never rfl (pi_range1 rfl T.b_range (pa_cons (pe_callB call_len_seq (by rfl) T.b_len PySem.boot_len (pa_cons (pe_ix ix_list (pv 1) (pv 2) (fun _ _ => rfl)) pa_nil)) pa_nil)) (pg_name (i := 3) nd rfl (by first | exact Or.inl rfl | exact Or.inr rfl))
        (pss_cons (ps_set (i := 4) nd rfl (by first | exact Or.inl rfl | exact Or.inr rfl) (pe_ix ix_list (pe_ix ix_list (pv 0) (pv 2) (fun _ _ => rfl)) (pv 3) (fun _ _ => rfl)))
        (pss_one (ps_if (pt_cmpR op_isN (pe_ix ix_list (pe_ix ix_list (pv 1) (pv 2) (fun _ _ => rfl)) (pv 3) (fun _ _ => rfl)) pe_non (nomark _)) (pss_one (ps_if (pt_cmpR op_notN (pv 4) pe_non (nomark _)) (pss_one (ps_ret pe_bl)) pss_nil)) (pss_one (ps_if (PW.pt (pw_or (pt_not (pt_val (pe_callB call_isi (by rfl) T.b_isinstance (by decide +kernel) (pa_cons (pv 4) (pa_cons (pe_bltn (v := .ty "str") (by rfl) T.b_str (by decide +kernel) rfl) pa_nil))))) (pw_or1 (pt_cmpR op_ne (pv 4) (pe_ix ix_list (pe_ix ix_list (pv 1) (pv 2) (fun _ _ => rfl)) (pv 3) (fun _ _ => rfl)) (nomark _))))) (pss_one (ps_ret pe_bl)) pss_nil)))))))))
    (pss_one (ps_ret pe_bl)))), ?_⟩
  have la : (as.map V.ref).length = rows.length := by rw [List.length_map, h1.len]
  have lb : (bs.map V.ref).length = rows.length := by rw [List.length_map, h2.len]
  refine q_when (b := false) (et_is (et_or (a := false) (et_is (et_not (a := true) (et_B (ev_isi' (ea_cons (ev_var rfl) (ea_cons ev_c ea_nil)) (ty_lst h1.at_) (by decide +kernel)))) rfl) fun _ => et_B (ev_op (ev_len (ev_var rfl) (SqL.of h1.at_)) (ev_len (ev_var rfl) (SqL.of h2.at_)) (rv_ne rfl))) (by rw [la, lb]; simp)) (fun z => nomatch z) fun _ H1 e1 => ?_
  refine q_forR1 (n := (rows.length : Int)) (ea_cons (ev_is (ev_len (ev_var rfl) (SqL.of (h2.ex e1).at_)) (by rw [lb])) ea_nil) (by omega) (fun i σ' H' => Ex H1 H' ∧ ∃ x y z, σ' = [some (.ref p), some (.ref r), x, y, z]) ?_ ?_ ?_
  · exact fun H2 e2 => ⟨e2, _, _, _, rfl⟩
  · rintro i σ' H2 hi ⟨e2, x, y, z, rfl⟩
    have hi : i < rows.length := by omega
    have a1 := h1.ex (e1.trans e2)
    have a2 := h2.ex (e1.trans e2)
    obtain ⟨b1, xs, k1, k2, k3, k4, _⟩ := a1.get hi
    obtain ⟨b2, ys, l1, l2, l3, l4, _⟩ := a2.get hi
    have hrl : (rows.getD i []).length ≤ 8 := by
      rw [List.getD_eq_getElem?_getD, List.getElem?_eq_getElem hi]
      exact hl2 _ (List.getElem_mem hi)
    have g1 : ∀ {H' : Hp} {σ : L2.St}, Ex H2 H' → σ[0]? = some (some (.ref p)) → σ[2]? = some (some (.int (i : Int))) → Ev (tOp (rIxL K) (tVar 0) (tVar 2)) σ H' (.ref b1) := fun e s1 s2 => ev_op (ev_var s1) (ev_var s2) (rv_ixL (SqL.of (e _ _ a1.at_)) (atI_nat k2))
    have g2 : ∀ {H' : Hp} {σ : L2.St}, Ex H2 H' → σ[1]? = some (some (.ref r)) → σ[2]? = some (some (.int (i : Int))) → Ev (tOp (rIxL K) (tVar 1) (tVar 2)) σ H' (.ref b2) := fun e s1 s2 => ev_op (ev_var s1) (ev_var s2) (rv_ixL (SqL.of (e _ _ a2.at_)) (atI_nat l2))
    refine q_when (b := false) (et_is (et_or (a := false) (et_is (et_not (a := true) (et_B (ev_isi' (ea_cons (g1 (Ex.refl _) rfl rfl) (ea_cons ev_c ea_nil)) (ty_lst k3) (by decide +kernel)))) rfl) fun _ => et_B (ev_op (ev_len (g1 (Ex.refl _) rfl rfl) (SqL.of k3)) (ev_len (g2 (Ex.refl _) rfl rfl) (SqL.of l3)) (rv_ne rfl))) (by rw [k4.1, l4.1]; simp)) (fun z => nomatch z) fun _ H3 e3 => ?_
    refine s_forR1 (n := ((rows.getD i []).length : Int)) (ea_cons (ev_is (ev_len (g2 e3 rfl rfl) (SqL.of (e3 _ _ l3))) (by rw [l4.1])) ea_nil) (by omega) (fun j σ' H' => Ex H3 H' ∧ ∃ y z, σ' = [some (.ref p), some (.ref r), some (.int (i : Int)), y, z]) ?_ ?_ ?_
    · exact fun H4 e4 => ⟨e4, _, _, rfl⟩
    · rintro j σ' H4 hj ⟨e4, y', z', rfl⟩
      have hj : j < (rows.getD i []).length := by omega
      obtain ⟨v, v1, v2⟩ := k4.get hj
      obtain ⟨u, u1, u2⟩ := l4.get hj
      have e24 := e3.trans e4
      refine q_asg (ev_op (g1 e24 rfl rfl) (ev_var rfl) (rv_ixL (SqL.of (e24 _ _ k3)) (atI_nat v1))) fun H5 e5 => ?_
      have e25 := e24.trans e5
      refine s_if (et_B (ev_op (ev_op (g2 e25 rfl rfl) (ev_var rfl) (rv_ixL (SqL.of (e25 _ _ l3)) (atI_nat u1))) ev_c rv_isN)) ?_ ?_
      · intro hn H6 e6
        rw [u2.isN] at hn
        refine s_when (b := false) (et_is (et_B (ev_op (ev_var rfl) ev_c rv_notN)) ?_) (fun z => nomatch z) fun _ H7 e7 => ⟨((e4.trans e5).trans e6).trans e7, _, _, rfl⟩
        rw [v2.isN]
        simp at hn ⊢
        rw [hn]
      · intro hn H6 e6
        rw [u2.isN] at hn
        have e26 := e25.trans e6
        cases hc : (rows.getD i []).getD j none with
        | none => rw [hc] at hn; cases hn
        | some k =>
          rw [hc] at u2 v2
          have hu : u = .str k := by simpa [Cell] using u2
          have hv : v = .str k := by simpa [Cell] using v2
          subst hu hv
          exact s_when (b := false) (et_is (et_or (a := false) (et_is (et_not (a := true) (et_B (ev_isi' (ea_cons (ev_var rfl) (ea_cons ev_c ea_nil)) (fun _ _ => .str k) (by decide +kernel)))) rfl) fun _ => et_B (ev_op (ev_var rfl) (ev_op (g2 e26 rfl rfl) (ev_var rfl) (rv_ixL (SqL.of (e26 _ _ l3)) (atI_nat u1))) (rv_ne rfl))) (by simp)) (fun z => nomatch z) fun _ H7 e7 => ⟨((e4.trans e5).trans e6).trans e7, _, _, rfl⟩
    · rintro σ' H4 ⟨e4, y', z', rfl⟩
      exact ⟨(e2.trans e3).trans e4, _, _, _, rfl⟩
  · rintro σ' H2 ⟨e2, x, y, z, rfl⟩
    exact s_ret ev_c fun H3 e3 => q H3 ((e1.trans e2).trans e3)
end
end CLg
end

section
/-! Comparing: the terms, the counters. -/
namespace CLg
open PySem PySem.Spec PyProof.Rows L2 Evl
def cSh : Option Str → V
  | none => .non
  | some k => .str k
theorem cSh_cell {H : Hp} (o : Option Str) : Cell false H o (cSh o) := by
  cases o with
  | none => rfl
  | some k => simp [Cell, cSh]
def shownRow (r : List (Option Str)) : List V := (List.range r.length).map fun j => cSh (r.getD j none)
theorem shown_cells {H : Hp} (r : List (Option Str)) : Cells false H r (shownRow r) := ⟨by simp [shownRow], fun i o e => by
  have hi := (List.getElem?_eq_some_iff.1 e).1
  refine ⟨cSh (r.getD i none), by simp [shownRow, hi], ?_⟩
  rw [getD_some e]
  exact cSh_cell o⟩
theorem given_all (n : Nat) (v : Nat → V) : given n (fun _ => true) v = (List.range n).map v := by
  unfold given
  rw [List.filter_eq_self.2 (fun _ _ => rfl)]
theorem nw_step {H1 H' H4 : Hp} {u : Nat → List V} {D b : Addr} {i : Nat} (p : ∃ as, NewL H1 u i D as H') (hi : i < 40000) (hb : H' b = none) (e4 : Ex H' H4) (h4 : H4 b = some (.lst (u i))) :
    ∃ acc, H4 D = some (.lst acc) ∧ acc.length < sizeLine ∧ ∃ as, NewL H1 u (i + 1) D as (upd H4 D (.lst (acc ++ [.ref b]))) :=
  nw_turn (tb := fun _ Hx Q => Hx = H' → Q (.ref b) H4) (σ2 := []) p hi (fun Hx _ Q q e => by subst e; exact q b H4 hb e4 h4) rfl
section
variable {w : World} {K : Kf} {mg : Str → Option Value} {base : Heap}
theorem r_lst {ta : TA} {σ : L2.St} {H : Hp} {Q : VK} (h : ta σ H fun xs H1 => xs.length ≤ sizeLine ∧ ∀ p, H1 p = none → Q (.ref p) (upd H1 p (.lst xs))) : tLst ta σ H Q := h
theorem ev_nums {σ : L2.St} {H : Hp} {ta tb : TE} {E : XK} {p : Addr} {ns : List Int} (h1 : Ev ta σ H (.ref p)) (hp : H p = some (.lst (ns.map V.int))) (h2 : EvL tb σ H (ns.map V.int)) (l : ns.length ≤ 1000) : Ev (tCall spNums [] E (tCons ta (tCons tb tNil))) σ H (.bl true) := fun H1 e Q q =>
  h1 H1 e _ fun H2 e2 => h2 H2 (e.trans e2) _ fun r H3 hr e3 h3 => spv_nums ((e.trans (e2.trans e3)) _ _ hp) h3 l H3 (Ex.refl _) Q (fun H4 e4 => q H4 ((e2.trans e3).trans e4)) E
theorem ev_numsV {σ : L2.St} {H : Hp} {ta tb : TE} {E : XK} {p r : Addr} {ns : List Int} (h1 : Ev ta σ H (.ref p)) (hp : H p = some (.lst (ns.map V.int))) (h2 : Ev tb σ H (.ref r)) (hr : H r = some (.lst (ns.map V.int))) (l : ns.length ≤ 1000) : Ev (tCall spNums [] E (tCons ta (tCons tb tNil))) σ H (.bl true) :=
  ev_call (ea_cons h1 (ea_cons h2 ea_nil)) (spv_nums hp hr l)
theorem ev_numsLL {σ : L2.St} {H : Hp} {ta tb : TE} {E : XK} {ns : List Int} (h1 : EvL ta σ H (ns.map V.int)) (h2 : EvL tb σ H (ns.map V.int)) (l : ns.length ≤ 1000) : Ev (tCall spNums [] E (tCons ta (tCons tb tNil))) σ H (.bl true) := fun H1 e Q q =>
  h1 H1 e _ fun p H2 hp e2 hl2 => h2 H2 (e.trans e2) _ fun r H3 hr e3 h3 => spv_nums (e3 _ _ hl2) h3 l H3 (Ex.refl _) Q (fun H4 e4 => q H4 ((e2.trans e3).trans e4)) E
def PicTo (H : Hp) (g : Lg) (Q : VK) : Prop := ∀ D as H2, Rows false H2 D as g.rows → Ex H H2 → (∀ b ∈ D :: as, H b = none) → Q (.ref D) H2
def spShown : Sp := fun vs H Q _ => ∃ (a : Md) (t : Tm) (c : Ct) (g : Lg), vs = [.ref a.M] ∧ MdAt H a t c g ∧ PicTo H g Q
theorem sc_f_law_shown : FnScope ["_law_model_here", "_law_shown_here", "_law_row", "_law_one"] ["_law_model_here"] (defScope x_f_law_shown) := ⟨rfl, rfl, rfl, by decide +kernel, rfl, by decide +kernel, by decide +kernel⟩
theorem ok_shown (T : Tx K mg) : Fnc PP w K mg base CX0 1 (fA K "_law_shown") ["_law_model_here"] spShown := by
  refine mk0 T.d_f_law_shown sc_f_law_shown (by rintro _ H Q E ⟨a, t, c, g, rfl, _⟩; rfl) (by intro kV doc pm an cdv ct us h; match us, h with | [_], _ => rfl) ?_
  rintro cdv A outer s0 H _ Q E hr ⟨a, t, c, g, rfl, h, q⟩
  have nd := sc_f_law_shown.nd
  have hu := hu_of hr
  refine ⟨_, (pss_cons (ps_set (i := 1) nd rfl (by first | exact Or.inl rfl | exact Or.inr rfl) (pe_lst pa_nil))
    (pss_cons (ps_for PassesOwn.never rfl (pi_list (pe_dget hu (pv 0) pe_str (fun _ _ => rfl))) (pg_name (i := 2) nd rfl (by first | exact Or.inl rfl | exact Or.inr rfl))
      (pss_one (ps_expr (pe_bm PySem.F.plainAttrs_list PySem.F.slot_list_append PySem.F.type_list_append mt_append (pv 1) (pa_cons (pe_lc (own := [("_law_one", 3)]) (g := gName 3) (tt := tYes) (te := tIf (tTest (tOp rIsN (tVar 3) (tC .non))) (tC .non) (tOp (rIxT K) (tVar 3) (tC (.int 0)))) rfl nd (pi_list (pv 2)) (blkOk_by (N := ["_law_model_here", "_law_shown_here", "_law_row", "_law_one"]) (sc := defScope x_f_law_shown) (by decide +kernel)) (fun _ _ _ _ _ => (pg_name (i := 3) nd rfl (Or.inl rfl))) (fun _ _ _ _ _ => pts_nil) (fun _ _ _ _ _ => (pe_ifExp (pt_cmpR op_isN (pv 3) pe_non (nomark _)) pe_non (pe_ix ix_tup (pv 3) pe_int (fun _ _ => rfl))))) pa_nil)))))
    (pss_one (ps_ret (pv 1))))), ?_⟩
  refine q_asgK (r_lst (r_nil ⟨(show 0 ≤ sizeLine by decide), fun D hD => ?_⟩))
  have n8 := h.ok.n8
  have nlen : (a.as.map V.ref).length = g.rows.length := by rw [List.length_map, h.rw.len]
  have h1 := h.ex (Ex.new (o := .lst []) hD)
  refine q_forL (K := K) (ev_dget (ev_var rfl) ev_c h1.obj (mv_rows ..)) (SqL.of h1.rw.at_) (fun i σ' H' => (∃ as, NewL H (fun i => shownRow (g.row i)) i D as H') ∧ ∃ x y, σ' = [some (.ref a.M), some (.ref D), x, y]) ?_ (fun i σ' H' _ p => by obtain ⟨⟨as, nl⟩, _⟩ := p; exact SqL.of (nl.ex _ _ h.rw.at_)) ?_ ?_
  · intro H2 e2
    refine ⟨⟨[], hD, rfl, by simp, fun b m => (by cases m), fun i b e => (by simp at e), (Ex.new hD).trans e2, e2 _ _ upd_same⟩, _, _, rfl⟩
  · rintro i y σ' H2 hy ⟨⟨as, nl⟩, x3, y3, rfl⟩
    rw [List.getElem?_map] at hy
    cases ha : a.as[i]? with
    | none => rw [ha] at hy; cases hy
    | some b =>
      rw [ha] at hy
      cases hy
      have hi : i < g.rows.length := by rw [← h.rw.len]; exact (List.getElem?_eq_some_iff.1 ha).1
      have h2 := h.ex nl.ex
      obtain ⟨b', xs, k1, k2, k3, k4, _⟩ := h2.rw.get hi
      rw [ha] at k1
      cases k1
      have hrl : (g.row i).length ≤ 8 := Nat.le_trans (h.ok.le i) h.ok.w8
      refine r_name (r_drop ⟨_, rfl, .inl ⟨rfl, _, SqL.of nl.at_⟩, ?_⟩)
      refine r_cons (el_lcL (fun _ => true) (fun j => cSh ((g.row i).getD j none)) (ev_var rfl) (SqL.of k3) (by rw [k4.1]; show (g.row i).length ≤ 40000; omega) (fun _ => rfl) (fun _ _ _ _ _ => et_yes) ?_ H2 (Ex.refl _) _ fun r H3 hr3 e3 h3 => r_nil ?_)
      · intro j v H3 e3 hv _
        have hj : j < (g.row i).length := by rw [← show xs.length = (g.row i).length from k4.1]; exact (List.getElem?_eq_some_iff.1 hv).1
        obtain ⟨v', v1, v2⟩ := k4.get hj
        rw [hv] at v1
        cases v1
        have v2 : Cell true H2 ((g.row i).getD j none) v := v2
        cases hc : (g.row i).getD j none with
        | none =>
          rw [hc] at v2
          have v2 : v = .non := v2
          subst v2
          exact ev_if (b := true) (et_is (et_B (ev_op (ev_var rfl) ev_c rv_isN)) (by simp)) (fun _ => ev_c) fun z => nomatch z
        | some k =>
          rw [hc] at v2
          unfold Cell at v2
          simp only [if_true] at v2
          obtain ⟨tu, x, rfl, htu⟩ := v2
          exact ev_if (b := false) (et_is (et_B (ev_op (ev_var rfl) ev_c rv_isN)) (by simp)) (fun z => nomatch z) fun _ => ev_op (ev_var rfl) ev_c (rv_ixT (SqT.of (e3 _ _ htu)) (atI_nat (j := 0) rfl))
      · rw [given_all, k4.1] at h3
        obtain ⟨acc, z1, z2, z3⟩ := nw_step ⟨as, nl⟩ (by omega) hr3 e3 h3
        exact ⟨D, acc, .ref r, rfl, rfl, z1, z2, z3, _, _, rfl⟩
  · rintro σ' H2 ⟨⟨as, nl⟩, x3, y3, rfl⟩
    rw [nlen] at nl
    refine r_ret (r_var rfl (q D as H2 (nl.rows (ow := []) (Ch.refl _ _) (fun _ _ z => by cases z) rfl ?_) nl.ex nl.fr'))
    intro i r e
    rw [show g.row i = r from getD_some e]
    exact shown_cells r
def spHold (K : Kf) : Sp := fun vs H Q _ => ∃ s t c g ts kvs a, vs = [.ref s.S, .ref a.M] ∧ StAt K H s t c g ts kvs ∧ MdAt H a t c g ∧ RetV (.bl true) H Q
theorem spv_hold {H : Hp} {s : Sd} {t : Tm} {c : Ct} {g : Lg} {ts : List Nat} {kvs : List (Key × V)} {a : Md} (h : StAt K H s t c g ts kvs) (m : MdAt H a t c g) : SpV (spHold K) [.ref s.S, .ref a.M] H (.bl true) := fun H1 e Q q E => ⟨s, t, c, g, ts, kvs, a, rfl, h.ex e, m.ex e, q⟩
theorem sc_f_law_terms_hold : FnScope ["_law_store_here", "_law_model_here", "_law_told"] ["_law_store_here", "_law_model_here"] (defScope x_f_law_terms_hold) := ⟨rfl, rfl, rfl, by decide +kernel, rfl, by decide +kernel, by decide +kernel⟩
theorem ok_terms_hold (T : Tx K mg) : Fnc PP w K mg base CX0 3 (fA K "_law_terms_hold") ["_law_store_here", "_law_model_here"] (spHold K) := by
  refine mk0 T.d_f_law_terms_hold sc_f_law_terms_hold (by rintro _ H Q E ⟨s, t, c, g, ts, kvs, a, rfl, _⟩; rfl) (by intro kV doc pm an cdv ct us h; match us, h with | [_, _], _ => rfl) ?_
  rintro cdv A outer s0 H _ Q E hr ⟨s, t, c, g, ts, kvs, a, rfl, h, m, q⟩
  have nd := sc_f_law_terms_hold.nd
  have hu := hu_of hr
  refine ⟨_, (pss_cons (ps_set (i := 2) nd rfl (by first | exact Or.inl rfl | exact Or.inr rfl) (pe_lst (pa_cons (pe_p (pv 0) T.cs T.p_s_segments (ok_s_segments T) (hr.mono (by decide)) pass0) (pa_cons (pe_p (pv 0) T.cs T.p_s_size (ok_s_size T) (hr.mono (by decide)) pass0) (pa_cons (pe_p (pv 0) T.cs T.p_s_limit (ok_s_limit T) (hr.mono (by decide)) pass0) (pa_cons (pe_p (pv 0) T.cs T.p_s_budget (ok_s_budget T) (hr.mono (by decide)) pass0) pa_nil))))))
    (pss_cons (ps_if (pt_not (pt_val (pe_f (ok_nums T) T.g_law_numbers_are (hr.mono (by decide)) pass0 (pa_cons (pv 2) (pa_cons (pe_lst (pa_cons (pe_callB call_len_seq (by rfl) T.b_len PySem.boot_len (pa_cons (pe_dget hu (pv 1) pe_str (fun _ _ => rfl)) pa_nil)) (pa_cons (pe_dget hu (pv 1) pe_str (fun _ _ => rfl)) (pa_cons (pe_dget hu (pv 1) pe_str (fun _ _ => rfl)) (pa_cons (pe_dget hu (pv 1) pe_str (fun _ _ => rfl)) pa_nil))))) pa_nil))))) (pss_one (ps_ret pe_bl)) pss_nil)
    (pss_one (ps_ret (pe_and (pe_callB call_isi (by rfl) T.b_isinstance (by decide +kernel) (pa_cons (pe_p (pv 0) T.cs T.p_s_late (ok_s_late T) (hr.mono (by decide)) pass0) (pa_cons (pe_bltn (v := .ty "bool") (by rfl) T.b_bool (by decide +kernel) rfl) pa_nil))) (pe_one (pe_cmpR op_eq (pe_p (pv 0) T.cs T.p_s_late (ok_s_late T) (hr.mono (by decide)) pass0) (pe_dget hu (pv 1) pe_str (fun _ _ => rfl)) (nomark _)))))))), ?_⟩
  have pr : ∀ {H' : Hp} {σ : L2.St} {f : Str} {v : V} {E' : XK}, Ex H H' → σ[0]? = some (some (.ref s.S)) → (sfs s g.rows.length t c).lookup f = some v → Ev (tProp (cS K) (spGet K f) [] E' (tVar 0)) σ H' v := fun e z l => ev_prop (ev_var z) ((h.ex e).obj) (spv_get ((h.ex e).obj) l)
  have nlen : (a.as.map V.ref).length = g.rows.length := by rw [List.length_map, m.rw.len]
  refine q_asgL (xs := [(g.rows.length : Int), (t.wide : Int), t.bound, (t.load : Int)].map V.int) (el_lst (ea_cons (pr (Ex.refl _) rfl rfl) (ea_cons (pr (Ex.refl _) rfl rfl) (ea_cons (pr (Ex.refl _) rfl rfl) (ea_cons (pr (Ex.refl _) rfl rfl) ea_nil)))) (show 4 ≤ 100000 by decide)) fun p H1 hp e1 h1 => ?_
  have m1 := m.ex e1
  refine q_when (b := false) (et_is (et_not (a := true) (et_B (ev_nums (ns := [(g.rows.length : Int), (t.wide : Int), t.bound, (t.load : Int)]) (ev_var rfl) h1 (el_lst (ea_cons (ev_is (ev_len (ev_dget (ev_var rfl) ev_c m1.obj (mv_rows ..)) (SqL.of m1.rw.at_)) (by rw [nlen])) (ea_cons (ev_dget (ev_var rfl) ev_c m1.obj (mv_wide ..)) (ea_cons (ev_dget (ev_var rfl) ev_c m1.obj (mv_bound ..)) (ea_cons (ev_dget (ev_var rfl) ev_c m1.obj (mv_load ..)) ea_nil)))) (show 4 ≤ 100000 by decide)) (show 4 ≤ 1000 by decide)))) rfl) (fun z => nomatch z) fun _ H2 e2 => ?_
  have m2 := m1.ex e2
  exact s_ret (ev_is (ev_andV (a := true) (ev_isi' (ea_cons (pr (e1.trans e2) rfl rfl) (ea_cons ev_c ea_nil)) (fun _ _ => .bl t.first) (by decide +kernel)) fun _ => ev_op (pr (e1.trans e2) rfl rfl) (ev_dget (ev_var rfl) ev_c m2.obj (mv_first ..)) (rv_eq rfl)) (by simp)) fun H3 e3 => q H3 ((e1.trans e2).trans e3)
theorem sc_f_law_counters_hold : FnScope ["_law_store_here", "_law_model_here", "_law_rows", "_law_spot", "_law_told", "_law_due"] ["_law_store_here", "_law_model_here"] (defScope x_f_law_counters_hold) := ⟨rfl, rfl, rfl, by decide +kernel, rfl, by decide +kernel, by decide +kernel⟩
theorem ok_counters_hold (T : Tx K mg) : Fnc PP w K mg base CX0 6 (fA K "_law_counters_hold") ["_law_store_here", "_law_model_here"] (spHold K) := by
  refine mk0 T.d_f_law_counters_hold sc_f_law_counters_hold (by rintro _ H Q E ⟨s, t, c, g, ts, kvs, a, rfl, _⟩; rfl) (by intro kV doc pm an cdv ct us h; match us, h with | [_, _], _ => rfl) ?_
  rintro cdv A outer s0 H _ Q E hr ⟨s, t, c, g, ts, kvs, a, rfl, h, m, q⟩
  have nd := sc_f_law_counters_hold.nd
  have hu := hu_of hr
  refine ⟨_, (pss_cons (ps_set (i := 2) nd rfl (by first | exact Or.inl rfl | exact Or.inr rfl) (pe_dget hu (pv 1) pe_str (fun _ _ => rfl)))
    (pss_cons (ps_for PassesOwn.never rfl (pi_range1 rfl T.b_range (pa_cons (pe_callB call_len_seq (by rfl) T.b_len PySem.boot_len (pa_cons (pv 2) pa_nil)) pa_nil)) (pg_name (i := 3) nd rfl (by first | exact Or.inl rfl | exact Or.inr rfl))
      (pss_cons (ps_set (i := 4) nd rfl (by first | exact Or.inl rfl | exact Or.inr rfl) (pe_lst (pa_cons (pe_m (pv 0) T.cs T.m_s_written (ok_s_written T) (hr.mono (by decide)) pass0 (pa_cons (pv 3) pa_nil)) (pa_cons (pe_m (pv 0) T.cs T.m_s_living (ok_s_living T) (hr.mono (by decide)) pass0 (pa_cons (pv 3) pa_nil)) (pa_cons (pe_m (pv 0) T.cs T.m_s_freed (ok_s_freed T) (hr.mono (by decide)) pass0 (pa_cons (pv 3) pa_nil)) pa_nil)))))
      (pss_one (ps_if (pt_not (pt_val (pe_f (ok_nums T) T.g_law_numbers_are (hr.mono (by decide)) pass0 (pa_cons (pv 4) (pa_cons (pe_lst (pa_cons (pe_callB call_len_seq (by rfl) T.b_len PySem.boot_len (pa_cons (pe_ix ix_list (pv 2) (pv 3) (fun _ _ => rfl)) pa_nil)) (pa_cons (pe_f (ok_malive T) T.g_law_alive (hr.mono (by decide)) pass0 (pa_cons (pe_ix ix_list (pv 2) (pv 3) (fun _ _ => rfl)) pa_nil)) (pa_cons (pe_ix ix_list (pe_dget hu (pv 1) pe_str (fun _ _ => rfl)) (pv 3) (fun _ _ => rfl)) pa_nil)))) pa_nil))))) (pss_one (ps_ret pe_bl)) pss_nil))))
    (pss_cons (ps_set (i := 4) nd rfl (by first | exact Or.inl rfl | exact Or.inr rfl) (pe_lst (pa_cons (pe_p (pv 0) T.cs T.p_s_head (ok_s_head T) (hr.mono (by decide)) pass0) (pa_cons (pe_p (pv 0) T.cs T.p_s_room (ok_s_room T) (hr.mono (by decide)) pass0) (pa_cons (pe_p (pv 0) T.cs T.p_s_done (ok_s_done T) (hr.mono (by decide)) pass0) (pa_cons (pe_p (pv 0) T.cs T.p_s_carried (ok_s_carried T) (hr.mono (by decide)) pass0) (pa_cons (pe_p (pv 0) T.cs T.p_s_last_wait (ok_s_last_wait T) (hr.mono (by decide)) pass0) pa_nil)))))))
    (pss_cons (ps_set (i := 5) nd rfl (by first | exact Or.inl rfl | exact Or.inr rfl) (pe_lst (pa_cons (pe_dget hu (pv 1) pe_str (fun _ _ => rfl)) (pa_cons (pe_f (ok_mroom T) T.g_law_room (hr.mono (by decide)) pass0 (pa_cons (pv 1) pa_nil)) (pa_cons (pe_dget hu (pv 1) pe_str (fun _ _ => rfl)) (pa_cons (pe_dget hu (pv 1) pe_str (fun _ _ => rfl)) (pa_cons (pe_dget hu (pv 1) pe_str (fun _ _ => rfl)) pa_nil)))))))
    (pss_one (ps_ret (pe_f (ok_nums T) T.g_law_numbers_are (hr.mono (by decide)) pass0 (pa_cons (pv 4) (pa_cons (pv 5) pa_nil))))))))), ?_⟩
  have pr : ∀ {H' : Hp} {σ : L2.St} {f : Str} {v : V} {E' : XK}, Ex H H' → σ[0]? = some (some (.ref s.S)) → (sfs s g.rows.length t c).lookup f = some v → Ev (tProp (cS K) (spGet K f) [] E' (tVar 0)) σ H' v := fun e z l => ev_prop (ev_var z) ((h.ex e).obj) (spv_get ((h.ex e).obj) l)
  have nlen : (a.as.map V.ref).length = g.rows.length := by rw [List.length_map, m.rw.len]
  have n8 := m.ok.n8
  refine q_asg (ev_dget (ev_var rfl) ev_c m.obj (mv_rows ..)) fun H1 e1 => ?_
  have m1 := m.ex e1
  refine q_forR1 (n := (g.rows.length : Int)) (ea_cons (ev_is (ev_len (ev_var rfl) (SqL.of m1.rw.at_)) (by rw [nlen])) ea_nil) (by omega) (fun i σ' H' => Ex H1 H' ∧ ∃ x y z, σ' = [some (.ref s.S), some (.ref a.M), some (.ref a.A), x, y, z]) ?_ ?_ ?_
  · exact fun H2 e2 => ⟨e2, _, _, _, rfl⟩
  · rintro i σ' H2 hi ⟨e2, x, y, z, rfl⟩
    have hi : i < g.rows.length := by omega
    have h2 := h.ex (e1.trans e2)
    refine q_asgL (xs := [((g.row i).length : Int), (alive (g.row i) : Int), ((g.frees.getD i 0 : Nat) : Int)].map V.int) (el_lst (ea_cons (ev_meth (ev_var rfl) h2.obj rfl (ea_cons (ev_var rfl) ea_nil) (spv_seg (F := fun g j => (g.row j).length) h2 hi)) (ea_cons (ev_meth (ev_var rfl) h2.obj rfl (ea_cons (ev_var rfl) ea_nil) (spv_seg (F := fun g j => alive (g.row j)) h2 hi)) (ea_cons (ev_meth (ev_var rfl) h2.obj rfl (ea_cons (ev_var rfl) ea_nil) (spv_seg (F := fun g j => g.frees.getD j 0) h2 hi)) ea_nil))) (show 3 ≤ 100000 by decide)) fun p H3 hp e3 h3 => ?_
    have m3 := m1.ex (e2.trans e3)
    obtain ⟨b, xs, k1, k2, k3, k4, _⟩ := m3.rw.get hi
    have hf : i < g.frees.length := by rw [m.ok.fr]; exact hi
    refine s_when (b := false) (et_is (et_not (a := true) (et_B (ev_nums (ns := [((g.row i).length : Int), (alive (g.row i) : Int), ((g.frees.getD i 0 : Nat) : Int)]) (ev_var rfl) h3 (el_lst (ea_cons (ev_is (ev_len (ev_op (ev_var rfl) (ev_var rfl) (rv_ixL (SqL.of m3.rw.at_) (atI_nat k2))) (SqL.of k3)) (by rw [k4.1]; rfl)) (ea_cons (ev_call (ea_cons (ev_op (ev_var rfl) (ev_var rfl) (rv_ixL (SqL.of m3.rw.at_) (atI_nat k2))) ea_nil) (spv_malive (r := g.row i) ⟨xs, k3, k4⟩ (Nat.le_trans (m.ok.le i) m.ok.w8))) (ea_cons (ev_op (ev_dget (ev_var rfl) ev_c m3.obj (mv_frees ..)) (ev_var rfl) (rv_ixL (SqL.of m3.fr) (atI_nat (vns_get (n := g.frees.getD i 0) (by rw [List.getD_eq_getElem?_getD, List.getElem?_eq_getElem hf]; rfl))))) ea_nil))) (show 3 ≤ 100000 by decide)) (show 3 ≤ 1000 by decide)))) rfl) (fun z => nomatch z) fun _ H4 e4 => ⟨(e2.trans e3).trans e4, _, _, _, rfl⟩
  · rintro σ' H2 ⟨e2, x, y, z, rfl⟩
    have e02 := e1.trans e2
    have h2 := h.ex e02
    refine q_asgL (xs := [(g.head : Int), room t.wide g, (c.deeds : Int), (c.moved : Int), (c.waits : Int)].map V.int) (el_lst (ea_cons (ev_prop (ev_var rfl) h2.obj (spv_att (F := fun _ g => .int (g.head : Int)) h2)) (ea_cons (ev_prop (ev_var rfl) h2.obj (spv_att (F := fun w g => .int (room w g)) h2)) (ea_cons (pr e02 rfl rfl) (ea_cons (pr e02 rfl rfl) (ea_cons (pr e02 rfl rfl) ea_nil))))) (show 5 ≤ 100000 by decide)) fun p H3 hp e3 h3 => ?_
    have m3 := m.ex (e02.trans e3)
    refine q_asgL (xs := [(g.head : Int), room t.wide g, (c.deeds : Int), (c.moved : Int), (c.waits : Int)].map V.int) (el_lst (ea_cons (ev_dget (ev_var rfl) ev_c m3.obj (mv_head ..)) (ea_cons (ev_call (ea_cons (ev_var rfl) ea_nil) (spv_mroom m3)) (ea_cons (ev_dget (ev_var rfl) ev_c m3.obj (mv_deeds ..)) (ea_cons (ev_dget (ev_var rfl) ev_c m3.obj (mv_moved ..)) (ea_cons (ev_dget (ev_var rfl) ev_c m3.obj (mv_waits ..)) ea_nil))))) (show 5 ≤ 100000 by decide)) fun r H4 hr4 e4 h4 => ?_
    exact s_ret (ev_numsV (ns := [(g.head : Int), room t.wide g, (c.deeds : Int), (c.moved : Int), (c.waits : Int)]) (ev_var rfl) (e4 _ _ h3) (ev_var rfl) h4 (show 5 ≤ 1000 by decide)) fun H5 e5 => q H5 ((e02.trans e3).trans (e4.trans e5))
end
end CLg
end

section
/-! Comparing: the lists. -/
namespace CLg
open PySem PySem.Spec PyProof.Rows L2 Evl
section
variable {w : World} {K : Kf} {mg : Str → Option Value} {base : Heap}
def spSumIs : Sp := fun vs H Q _ => ∃ (p tp : Addr) (a : Md) (t : Tm) (c : Ct) (g : Lg) (so : List Int), vs = [.ref p, .ref a.M] ∧ MdAt H a t c g ∧ H p = some (.tup [.int ((g.row g.head).length : Int), .int (alive (g.row g.head) : Int), .ref tp]) ∧ H tp = some (.tup (so.map V.int)) ∧ so.Perm ((shut g).map fun s => (alive (g.row s) : Int)) ∧ so.Pairwise (· ≤ ·) ∧ RetV (.bl true) H Q
theorem sc_f_law_summary_is : FnScope ["_law_told", "_law_model_here", "_law_rows", "_law_top", "_law_spot"] ["_law_told", "_law_model_here"] (defScope x_f_law_summary_is) := ⟨rfl, rfl, rfl, by decide +kernel, rfl, by decide +kernel, by decide +kernel⟩
theorem ok_sumis (T : Tx K mg) : Fnc PP w K mg base CX0 3 (fA K "_law_summary_is") ["_law_told", "_law_model_here"] spSumIs := by
  refine mk0 T.d_f_law_summary_is sc_f_law_summary_is (by rintro _ H Q E ⟨p, tp, a, t, c, g, so, rfl, _⟩; rfl) (by intro kV doc pm an cdv ct us h; match us, h with | [_, _], _ => rfl) ?_
  rintro cdv A outer s0 H _ Q E hr ⟨p, tp, a, t, c, g, so, rfl, m, hp, htp, perm, srt, q⟩
  have nd := sc_f_law_summary_is.nd
  have hu := hu_of hr
  refine ⟨_, (pss_cons (ps_if (PW.pt (pw_or (pt_not (pt_val (pe_callB call_isi (by rfl) T.b_isinstance (by decide +kernel) (pa_cons (pv 0) (pa_cons (pe_bltn (v := .ty "tuple") (by rfl) T.b_tuple (by decide +kernel) rfl) pa_nil))))) (pw_or (pt_cmpR op_ne (pe_callB call_len_seq (by rfl) T.b_len PySem.boot_len (pa_cons (pv 0) pa_nil)) pe_int (nomark _)) (pw_or1 (pt_not (pt_val (pe_callB call_isi (by rfl) T.b_isinstance (by decide +kernel) (pa_cons (pe_ix ix_tup (pv 0) pe_int (fun _ _ => rfl)) (pa_cons (pe_bltn (v := .ty "tuple") (by rfl) T.b_tuple (by decide +kernel) rfl) pa_nil))))))))) (pss_one (ps_ret pe_bl)) pss_nil)
    (pss_cons (ps_set (i := 2) nd rfl (by first | exact Or.inl rfl | exact Or.inr rfl) (pe_dget hu (pv 1) pe_str (fun _ _ => rfl)))
    (pss_cons (ps_set (i := 3) nd rfl (by first | exact Or.inl rfl | exact Or.inr rfl) (pe_ix ix_list (pv 2) (pe_dget hu (pv 1) pe_str (fun _ _ => rfl)) (fun _ _ => rfl)))
    (pss_cons (ps_if (pt_not (pt_val (pe_f (ok_nums T) T.g_law_numbers_are hr pass0 (pa_cons (pe_lst (pa_cons (pe_ix ix_tup (pv 0) pe_int (fun _ _ => rfl)) (pa_cons (pe_ix ix_tup (pv 0) pe_int (fun _ _ => rfl)) pa_nil))) (pa_cons (pe_lst (pa_cons (pe_callB call_len_seq (by rfl) T.b_len PySem.boot_len (pa_cons (pv 3) pa_nil)) (pa_cons (pe_f (ok_malive T) T.g_law_alive (hr.mono (by decide)) pass0 (pa_cons (pv 3) pa_nil)) pa_nil))) pa_nil))))) (pss_one (ps_ret pe_bl)) pss_nil)
    (pss_one (ps_ret (pe_f (ok_nums T) T.g_law_numbers_are hr pass0 (pa_cons (pe_callTy call_list_of (by rfl) T.b_list (by decide +kernel) (pa_cons (pe_ix ix_tup (pv 0) pe_int (fun _ _ => rfl)) pa_nil)) (pa_cons (pe_callB cr_sorted (by rfl) T.b_sorted (by decide +kernel) (pa_cons (pe_lc (own := [("_law_spot", 4)]) (g := gName 4) (tt := tYes) (te := tCall spMAlive [] E0 (tCons (tOp (rIxL K) (tVar 2) (tVar 4)) tNil)) rfl nd (pi_list (pe_f (ok_mshut T) T.g_law_shut hr pass0 (pa_cons (pv 1) pa_nil))) (blkOk_by (N := ["_law_told", "_law_model_here", "_law_rows", "_law_top", "_law_spot"]) (sc := defScope x_f_law_summary_is) (by decide +kernel)) (fun _ _ _ _ _ => (pg_name (i := 4) nd rfl (Or.inl rfl))) (fun _ _ _ _ _ => pts_nil) (fun _ _ _ _ _ => (pe_f (ok_malive T) T.g_law_alive (hr.mono (by decide)) pass0 (pa_cons (pe_ix ix_list (pv 2) (pv 4) (fun _ _ => rfl)) pa_nil)))) pa_nil)) pa_nil))))))))), ?_⟩
  refine q_when (b := false) (et_is (et_or (a := false) (et_is (et_not (a := true) (et_B (ev_isi' (ea_cons (ev_var rfl) (ea_cons ev_c ea_nil)) (ty_tup hp) (by decide +kernel)))) rfl) fun _ => et_is (et_or (a := false) (et_is (et_B (ev_op (ev_lenT (ev_var rfl) (SqT.of hp)) ev_c (rv_ne rfl))) (by rfl)) fun _ => et_is (et_not (a := true) (et_B (ev_isi' (ea_cons (ev_op (ev_var rfl) ev_c (rv_ixT (SqT.of hp) (atI_nat (j := 2) rfl))) (ea_cons ev_c ea_nil)) (ty_tup htp) (by decide +kernel)))) rfl) rfl) rfl) (fun z => nomatch z) fun _ H1 e1 => ?_
  have m1 := m.ex e1
  refine q_asg (ev_dget (ev_var rfl) ev_c m1.obj (mv_rows ..)) fun H2 e2 => ?_
  have m2 := m1.ex e2
  obtain ⟨b, xs, k1, k2, k3, k4, _⟩ := m2.rw.get m.ok.hd
  refine q_asg (ev_op (ev_var rfl) (ev_dget (ev_var rfl) ev_c m2.obj (mv_head ..)) (rv_ixL (SqL.of m2.rw.at_) (atI_nat k2))) fun H3 e3 => ?_
  have e03 := (e1.trans e2).trans e3
  have hp3 := e03 _ _ hp
  have m3 := m2.ex e3
  refine q_when (b := false) (et_is (et_not (a := true) (et_B (ev_numsLL (ns := [((g.row g.head).length : Int), (alive (g.row g.head) : Int)]) (el_lst (ea_cons (ev_op (ev_var rfl) ev_c (rv_ixT (SqT.of hp3) (atI_nat (j := 0) rfl))) (ea_cons (ev_op (ev_var rfl) ev_c (rv_ixT (SqT.of hp3) (atI_nat (j := 1) rfl))) ea_nil)) (show 2 ≤ 100000 by decide))
    (el_lst (ea_cons (ev_is (ev_len (ev_var rfl) (SqL.of (e3 _ _ k3))) (by rw [k4.1]; rfl)) (ea_cons (ev_call (ea_cons (ev_var rfl) ea_nil) (spv_malive (r := g.row g.head) ⟨xs, e3 _ _ k3, k4.step (e3.ch [])⟩ (Nat.le_trans (m.ok.le g.head) m.ok.w8))) ea_nil)) (show 2 ≤ 100000 by decide)) (show 2 ≤ 1000 by decide)))) rfl) (fun z => nomatch z) fun _ H4 e4 => ?_
  have e04 := e03.trans e4
  have m4 := m3.ex e4
  have n8 := m.ok.n8
  have sl := shut_len (g := g)
  have len : so.length ≤ 8 := by rw [perm.length_eq, List.length_map]; omega
  refine s_ret (ev_numsLL (ns := so) ?_ ?_ (by omega)) fun H5 e5 => q H5 (e04.trans e5)
  · intro H5 e5 Q' q'
    exact r_CB (r_cons (ev_op (ev_var rfl) ev_c (rv_ixT (SqT.of (e04 _ _ hp)) (atI_nat (j := 2) rfl)) H5 e5 _ fun H6 e6 => r_nil ⟨tp, _, rfl, .inr (SqT.of ((e04.trans (e5.trans e6)) _ _ htp)), fun l hl => q' l _ ((e6.ch []).free hl) (e6.trans (Ex.new hl)) upd_same⟩))
  · intro H5 e5 Q' q'
    have m5 := m4.ex e5
    have hl : EvL (tLc (iList K (tCall spMShut [] E0 (tCons (tVar 1) tNil))) (gName 4) tYes (tCall spMAlive [] E0 (tCons (tOp (rIxL K) (tVar 2) (tVar 4)) tNil)) [4]) [some (.ref p), some (.ref a.M), some (.ref a.A), some (.ref b), none] H5 ((shut g).map fun s => V.int (alive (g.row s) : Int)) := by
      rw [← given_map, ← vns_len]
      refine el_lcNL (fun _ => true) (fun i => V.int (alive (g.row ((shut g).getD i 0)) : Int)) (el_call (ea_cons (ev_var rfl) ea_nil) (spl_mshut m5)) (by rw [vns_len]; omega) (fun _ => rfl) (fun _ _ _ _ _ => et_yes) ?_
      intro i x H6 e6 hx _
      obtain ⟨n, hn, rfl⟩ := vns_inv hx
      rw [getD_some hn]
      have m6 := m5.ex e6
      obtain ⟨b', ys, l1, l2, l3, l4, _⟩ := m6.rw.get (mem_shut.1 (List.mem_of_getElem? hn)).1
      exact ev_call (ea_cons (ev_op (ev_var rfl) (ev_var rfl) (rv_ixL (SqL.of m6.rw.at_) (atI_nat l2))) ea_nil) (spv_malive (r := g.row n) ⟨ys, l3, l4⟩ (Nat.le_trans (m.ok.le n) m.ok.w8))
    refine r_CB (r_cons (hl H5 (Ex.refl _) _ fun D H6 hD e6 h6 => r_nil ⟨D, (shut g).map fun s => (alive (g.row s) : Int), rfl, SqL.of (by rw [List.map_map]; exact h6), by rw [List.length_map]; omega, fun so2 r2 perm2 srt2 hr2 => ?_⟩))
    have e : so2 = so := List.Perm.eq_of_pairwise (le := fun x y : Int => x ≤ y) (fun x y _ _ h1 h2 => Int.le_antisymm h1 h2) srt2 srt (perm2.trans perm.symm)
    rw [e]
    exact q' r2 _ ((e6.ch []).free hr2) (e6.trans (Ex.new hr2)) upd_same
theorem sc_f_law_lists_hold : FnScope ["_law_store_here", "_law_model_here", "_law_due", "_law_shut_here", "_law_turn_here", "_law_told", "_law_row"] ["_law_store_here", "_law_model_here"] (defScope x_f_law_lists_hold) := ⟨rfl, rfl, rfl, by decide +kernel, rfl, by decide +kernel, by decide +kernel⟩
theorem rows_le {w : Nat} {g : Lg} (o : Ok w g) : ∀ x ∈ g.rows, x.length ≤ 8 := fun x hx => by
  obtain ⟨i, hi, e⟩ := List.mem_iff_getElem.1 hx
  have := o.le i
  rw [show g.row i = x from getD_some (by rw [List.getElem?_eq_getElem hi, e])] at this
  exact Nat.le_trans this o.w8
theorem vns_ints (l : List Nat) : vns l = (l.map fun (n : Nat) => (n : Int)).map V.int := by unfold vns; rw [List.map_map]; rfl
theorem ok_lists_hold (T : Tx K mg) : Fnc PP w K mg base CX0 5 (fA K "_law_lists_hold") ["_law_store_here", "_law_model_here"] (spHold K) := by
  refine mk0 T.d_f_law_lists_hold sc_f_law_lists_hold (by rintro _ H Q E ⟨s, t, c, g, ts, kvs, a, rfl, _⟩; rfl) (by intro kV doc pm an cdv ct us h; match us, h with | [_, _], _ => rfl) ?_
  rintro cdv A outer s0 H _ Q E hr ⟨s, t, c, g, ts, kvs, a, rfl, h, m, q⟩
  have nd := sc_f_law_lists_hold.nd
  have hu := hu_of hr
  refine ⟨_, (pss_cons (ps_set (i := 2) nd rfl (by first | exact Or.inl rfl | exact Or.inr rfl) (pe_f (ok_shown T) T.g_law_shown (hr.mono (by decide)) pass0 (pa_cons (pv 1) pa_nil)))
    (pss_cons (ps_set (i := 3) nd rfl (by first | exact Or.inl rfl | exact Or.inr rfl) (pe_f (ok_mshut T) T.g_law_shut (hr.mono (by decide)) pass0 (pa_cons (pv 1) pa_nil)))
    (pss_cons (ps_for PassesOwn.never rfl (pi_range1 rfl T.b_range (pa_cons pe_int pa_nil)) (pg_name (i := 4) nd rfl (by first | exact Or.inl rfl | exact Or.inr rfl))
      (pss_cons (ps_set (i := 5) nd rfl (by first | exact Or.inl rfl | exact Or.inr rfl) (pe_m0 (pv 0) T.cs T.m_s_picture (ok_s_picture T) (hr.mono (by decide)) pass0))
      (pss_cons (ps_if (pt_not (pt_val (pe_f (ok_picis T) T.g_law_picture_is (hr.mono (by decide)) pass0 (pa_cons (pv 5) (pa_cons (pv 2) pa_nil))))) (pss_one (ps_ret pe_bl)) pss_nil)
      (pss_cut (ps_for PassesOwn.never rfl (pi_list (pv 5)) (pg_name (i := 6) nd rfl (by first | exact Or.inl rfl | exact Or.inr rfl))
        (pss_one (ps_expr (pe_bm PySem.F.plainAttrs_list PySem.F.slot_list_append PySem.F.type_list_append mt_append (pv 6) (pa_cons pe_non pa_nil)))))
      (pss_cons (ps_expr (pe_bm0 PySem.F.plainAttrs_list PySem.F.slot_list_reverse PySem.F.type_list_reverse mt_reverse (pv 5)))
      (pss_cons (ps_expr (pe_bm PySem.F.plainAttrs_list PySem.F.slot_list_append PySem.F.type_list_append mt_append (pv 5) (pa_cons (pe_lst pa_nil) pa_nil)))
      (pss_cons (ps_set (i := 5) nd rfl (by first | exact Or.inl rfl | exact Or.inr rfl) (pe_m0 (pv 0) T.cs T.m_s_closed (ok_s_closed T) (hr.mono (by decide)) pass0))
      (pss_cons (ps_if (pt_not (pt_val (pe_f (ok_nums T) T.g_law_numbers_are (hr.mono (by decide)) pass0 (pa_cons (pv 5) (pa_cons (pv 3) pa_nil))))) (pss_one (ps_ret pe_bl)) pss_nil)
      (pss_cons (ps_expr (pe_bm PySem.F.plainAttrs_list PySem.F.slot_list_insert PySem.F.type_list_insert mt_insert (pv 5) (pa_cons pe_int (pa_cons (pe_un un_neg pe_int) pa_nil))))
      (pss_one (ps_if (pt_not (pt_val (pe_f (ok_sumis T) T.g_law_summary_is (hr.mono (by decide)) pass0 (pa_cons (pe_m0 (pv 0) T.cs T.m_s_summary (ok_s_summary T) hr pass0) (pa_cons (pv 1) pa_nil))))) (pss_one (ps_ret pe_bl)) pss_nil)))))))))))
    (pss_one (ps_ret pe_bl))))), ?_⟩
  have n8 := m.ok.n8
  refine q_asgK (r_call (ea_cons (ev_var rfl) ea_nil H (Ex.refl _) _ fun H1 e1 => ⟨a, t, c, g, rfl, m.ex e1, fun D2 as2 H2 hR2 e2 fr2 => ?_⟩))
  have e02 := e1.trans e2
  refine q_asgL (el_call (ea_cons (ev_var rfl) ea_nil) (spl_mshut (m.ex e02))) fun sh H3 hsh e3 hs3 => ?_
  have e03 := e02.trans e3
  have hR3 := hR2.ex e3
  refine q_forR1 (n := 2) (ea_cons ev_c ea_nil) (by omega) (fun i σ' H' => Ex H3 H' ∧ ∃ x y z, σ' = [some (.ref s.S), some (.ref a.M), some (.ref D2), some (.ref sh), x, y, z]) ?_ ?_ ?_
  · exact fun H4 e4 => ⟨e4, _, _, _, rfl⟩
  · rintro i σ' H4 hi ⟨e4, x, y, z, rfl⟩
    have e04 := e03.trans e4
    have h4 := h.ex e04
    have hR4 := hR3.ex e4
    refine q_asgK ⟨_, rfl, s.S, s.dx, _, rfl, h4.obj, rfl, s, t, c, g, ts, kvs, rfl, h4, fun D as H5 hR5 e5 fr5 => ?_⟩
    refine q_when (b := false) (et_is (et_not (a := true) (et_B (ev_call (ea_cons (ev_var rfl) (ea_cons (ev_var rfl) ea_nil)) (spv_picis hR5 (hR4.ex e5) n8 (rows_le m.ok))))) rfl) (fun z => nomatch z) fun _ H6 e6 => ?_
    have hR6 := hR5.ex e6
    have e46 := e5.trans e6
    have frA : ∀ b ∈ as, H4 b = none := fun b mb => fr5 b (by simp [mb])
    have frD : H4 D = none := fr5 D (by simp)
    have ndD := List.nodup_cons.1 hR6.nd
    refine q_cut (M := fun σ' H' => ∃ z, σ' = [some (.ref s.S), some (.ref a.M), some (.ref D2), some (.ref sh), some (.int (i : Int)), some (.ref D), z] ∧ Ex H4 H' ∧ H' D = some (.lst (as.map V.ref))) ?_ ?_
    · refine s_forL (K := K) (ev_var rfl) (SqL.of hR6.at_) (fun j σ' H' => (∃ z, σ' = [some (.ref s.S), some (.ref a.M), some (.ref D2), some (.ref sh), some (.int (i : Int)), some (.ref D), z]) ∧ Ex H4 H' ∧ H' D = some (.lst (as.map V.ref)) ∧ ∀ (b : Addr), b ∈ as → ∃ xs, H' b = some (.lst xs) ∧ xs.length ≤ 8 + j) ?_ (fun j σ' H' _ p => SqL.of p.2.2.1) ?_ ?_
      · intro H7 e7
        refine ⟨⟨_, rfl⟩, e46.trans e7, e7 _ _ hR6.at_, fun b mb => ?_⟩
        obtain ⟨n, hn, e⟩ := List.mem_iff_getElem.1 mb
        have hn2 : n < g.rows.length := by rw [← hR6.len]; exact hn
        obtain ⟨b', xs, k1, k2, k3, k4, _⟩ := hR6.get hn2
        rw [List.getElem?_eq_getElem hn, e] at k1
        cases k1
        refine ⟨xs, e7 _ _ k3, ?_⟩
        rw [k4.1]
        exact rows_le m.ok _ (by rw [List.getD_eq_getElem?_getD, List.getElem?_eq_getElem hn2]; exact List.getElem_mem hn2)
      · rintro j v σ' H7 hv ⟨⟨z, rfl⟩, e7, hD7, hr7⟩
        rw [List.getElem?_map] at hv
        cases ha : as[j]? with
        | none => rw [ha] at hv; cases hv
        | some b =>
          rw [ha] at hv
          cases hv
          have mb := List.mem_of_getElem? ha
          obtain ⟨xs, x1, x2⟩ := hr7 b mb
          have hj : j < as.length := (List.getElem?_eq_some_iff.1 ha).1
          have hl8 : as.length ≤ 8 := by rw [hR6.len]; exact n8
          refine r_name (s_app x1 (ev_var rfl) ev_c (by omega) fun H8 e8 => ?_)
          have nDb : D ≠ b := fun z => ndD.1 (by rw [z]; exact mb)
          refine ⟨⟨_, rfl⟩, (e7.trans e8).mut (frA b mb), by rw [upd_ne nDb]; exact e8 _ _ hD7, fun b' mb' => ?_⟩
          by_cases zz : b' = b
          · rw [zz, upd_same]
            exact ⟨_, rfl, by simp; omega⟩
          · rw [upd_ne zz]
            obtain ⟨ys, y1, y2⟩ := hr7 b' mb'
            exact ⟨ys, e8 _ _ y1, by omega⟩
      · rintro σ' H7 ⟨⟨z, rfl⟩, e7, hD7, hr7⟩
        exact ⟨z, rfl, e7, hD7⟩
    rintro σ7 H7 ⟨z7, rfl, e7, hD7⟩
    refine q_dropK ⟨_, rfl, .inl ⟨rfl, _, SqL.of hD7⟩, D, _, rfl, rfl, hD7, ?_⟩
    have e8 : Ex H4 (upd H7 D (.lst (as.map V.ref).reverse)) := e7.mut frD
    have hD8 : (upd H7 D (.lst (as.map V.ref).reverse)) D = some (.lst (as.map V.ref).reverse) := upd_same
    generalize upd H7 D (.lst (as.map V.ref).reverse) = H8 at e8 hD8 ⊢
    refine q_appL hD8 (ev_var rfl) (el_lst ea_nil (by decide)) (by rw [List.length_reverse, List.length_map, hR6.len]; omega) fun r H9 hr9 e9 hl9 => ?_
    have e10 : Ex H4 (upd H9 D (.lst ((as.map V.ref).reverse ++ [.ref r]))) := (e8.trans e9).mut frD
    generalize upd H9 D (.lst ((as.map V.ref).reverse ++ [.ref r])) = H10 at e10 ⊢
    have h10 := h4.ex e10
    refine q_asgL (el_meth (ev_var rfl) h10.obj rfl ea_nil (spl_cls h10)) fun cl H11 hcl e11 hc11 => ?_
    have e411 := e10.trans e11
    have hs11 := (e4.trans e411) _ _ hs3
    have sl := shut_len (g := g)
    refine q_when (b := false) (et_is (et_not (a := true) (et_B (ev_numsV (ns := (shut g).map fun (n : Nat) => (n : Int)) (ev_var rfl) (by rw [← vns_ints]; exact hc11) (ev_var rfl) (by rw [← vns_ints]; exact hs11) (by rw [List.length_map]; omega)))) rfl) (fun z => nomatch z) fun _ H12 e12 => ?_
    have hc12 := e12 _ _ hc11
    refine q_dropK ⟨_, rfl, .inl ⟨rfl, _, SqL.of hc12⟩, ?_⟩
    refine r_cons (r_c (r_cons (r_un (r_c (r_U (r_nil ⟨cl, _, 0, _, rfl, rfl, hc12, small_lt (by rw [vns_len]; omega), by decide, by decide, ?_⟩))))))
    have frC : H4 cl = none := (e10.ch []).free hcl
    have e13 : Ex H4 (upd H12 cl (.lst (List.take (0 : Int).toNat (vns (shut g)) ++ [V.int (-1)] ++ List.drop (0 : Int).toNat (vns (shut g))))) := (e411.trans e12).mut frC
    generalize upd H12 cl (.lst (List.take (0 : Int).toNat (vns (shut g)) ++ [V.int (-1)] ++ List.drop (0 : Int).toNat (vns (shut g)))) = H13 at e13 ⊢
    have h13 := h4.ex e13
    refine r_ifS (r_not (r_B (r_call (r_cons ⟨_, rfl, s.S, s.dx, _, rfl, h13.obj, rfl, ?_⟩))))
    refine r_nil ⟨s, t, c, g, ts, kvs, rfl, h13, fun sp H14 tp so hsp htp perm srt e14 => ?_⟩
    refine r_cons (r_var rfl (r_nil ⟨sp, tp, a, t, c, g, so, rfl, m.ex ((e04.trans e13).trans e14), hsp, htp, perm, srt, fun H15 e15 => ⟨true, rfl, iteF ?_⟩⟩))
    exact ⟨(e4.trans e13).trans (e14.trans e15), _, _, _, rfl⟩
  · rintro σ' H4 ⟨e4, x, y, z, rfl⟩
    exact s_ret ev_c fun H5 e5 => q H5 ((e03.trans e4).trans e5)
theorem sc_f_law_places_hold : FnScope ["_law_store_here", "_law_model_here"] ["_law_store_here", "_law_model_here"] (defScope x_f_law_places_hold) := ⟨rfl, rfl, rfl, by decide +kernel, rfl, by decide +kernel, by decide +kernel⟩
theorem ok_places_hold (T : Tx K mg) : Fnc PP w K mg base CX0 7 (fA K "_law_places_hold") ["_law_store_here", "_law_model_here"] (spHold K) := by
  refine mk0 T.d_f_law_places_hold sc_f_law_places_hold (by rintro _ H Q E ⟨s, t, c, g, ts, kvs, a, rfl, _⟩; rfl) (by intro kV doc pm an cdv ct us h; match us, h with | [_, _], _ => rfl) ?_
  rintro cdv A outer s0 H _ Q E hr ⟨s, t, c, g, ts, kvs, a, rfl, h, m, q⟩
  refine ⟨_, (pss_cons (ps_if (PW.pt (pw_or (pt_not (pt_val (pe_f (ok_terms_hold T) T.g_law_terms_hold (hr.mono (by decide)) pass0 (pa_cons (pv 0) (pa_cons (pv 1) pa_nil))))) (pw_or1 (pt_not (pt_val (pe_f (ok_counters_hold T) T.g_law_counters_hold hr pass0 (pa_cons (pv 0) (pa_cons (pv 1) pa_nil)))))))) (pss_one (ps_ret pe_bl)) pss_nil)
    (pss_one (ps_ret (pe_f (ok_lists_hold T) T.g_law_lists_hold (hr.mono (by decide)) pass0 (pa_cons (pv 0) (pa_cons (pv 1) pa_nil)))))), ?_⟩
  have hh : ∀ {H' : Hp} {σ : L2.St} {E' : XK}, Ex H H' → σ[0]? = some (some (.ref s.S)) → σ[1]? = some (some (.ref a.M)) → Ev (tCall (spHold K) [] E' (tCons (tVar 0) (tCons (tVar 1) tNil))) σ H' (.bl true) := fun e s1 s2 => ev_call (ea_cons (ev_var s1) (ea_cons (ev_var s2) ea_nil)) (spv_hold (h.ex e) (m.ex e))
  refine q_when (b := false) (et_is (et_or (a := false) (et_is (et_not (a := true) (et_B (hh (Ex.refl _) rfl rfl))) rfl) fun _ => et_is (et_not (a := true) (et_B (hh (Ex.refl _) rfl rfl))) rfl) rfl) (fun z => nomatch z) fun _ H1 e1 => ?_
  exact s_ret (hh e1 rfl rfl) fun H2 e2 => q H2 (e1.trans e2)
end
end CLg
end

section
/-! A def called while an exception is handled: one that neither raises nor walks. -/
namespace CLg
open PySem PySem.Spec PyProof.Rows L2 Evl
/-- its promise: nothing is asked of the exception at p but that it stands apart -/
def FnQ (P : Program) (w : World) (K : Kf) (mg : Str → Option Value) (base : Heap) (CX : CXT) (k : Nat) (f : Addr) (fd : FuncData) (ps : List Str) (sp : Sp) : Prop :=
  (∀ vs H Q E, sp vs H Q E → vs.length = ps.length) ∧
  ∀ (A : Around) (outer : List Env) (s : Shared) (H : Hp) (args : Args) (us : List Value) (vs : List V) (Q : VK) (E : XK) (p : Addr × Obj), L2H.RoomH k A → L2H.PinOk outer H s p → Env0 P w K mg base A outer s H → BindsTo s fd args (ps.zip us) → Vals vs us → sp vs H Q E →
    codeAny (model P w) A (.call (.ref f) args) (CR CX outer P w H s Q E) s
theorem fnq_of {P : Program} {w : World} {K : Kf} {mg : Str → Option Value} {base : Heap} {x qual : Str} {ars : Arguments} {body : List Stmt} {scope : Scope} {f : Addr} {fd : FuncData} {CX : CXT} {N ps : List Str} {k : Nat} {sp : Sp}
    (F : FunD K x qual ars body scope [] [] f fd) (S : FnScope N ps scope) (len : ∀ vs H Q E, sp vs H Q E → vs.length = ps.length)
    (hbody : ∀ (cdv : Value) (A : Around) (outer : List Env) (s : Shared) (H : Hp) (vs : List V) (Q : VK) (E : XK) (p : Addr × Obj), L2H.RoomH k (A.deeper (envOfC qual scope s.heap.objs.size f cdv)) → sp vs H Q E →
      ∃ t, PSs (L2H.cxH CX P w K mg base N qual scope f cdv A outer s H E p) body t ∧ t { nx := fun _ H' => Q .non H', rt := Q } (L2.start N vs) H) : FnQ P w K mg base CX (k + 1) f fd ps sp := by
  obtain ⟨oc, od, dV, kV, doc, pm, an, cdv, ct, osl, rfl, lk, hcd, _, _⟩ := F.ex
  refine ⟨len, fun A outer s H args us vs Q E p hr hpin e0 hb r hsp => ?_⟩
  have KX : K.In s.heap := e0.mod.kin.keeps fun b o e => (e0.bs b o e).1
  obtain ⟨t, ht, hq⟩ := hbody cdv A outer s H vs Q E p (hr.deeper _) hsp
  have kinds : ∀ y ∈ ps.zip us, scope.names.lookup y.1 = some .local ∨ (scope.names.lookup y.1 = some .cell ∧ ((cellsFrom (s.heap.objs.size + 1) scope.names []).lookup y.1).isSome = true) := by
    rintro ⟨n, v⟩ hy
    exact (S.par n (List.of_mem_zip hy).1).imp id fun z => ⟨z, PySem.W.cellsFrom_some _ _ _ (.inl z)⟩
  refine codeAny_call_function hr.depth (KX _ _ lk) rfl S.co S.gen rfl (PySem.W.codeRec_of KX hcd) (hb _ _ _ _ (wpAny_newFunctionEnv_cells S.kind kinds fun env he s1 ic => ?_))
  subst he
  refine ⟨(e0.mod.nolimit.keeps fun b o e => (e0.bs b o e).1).keeps ic.toInCall.keep, codeAny_func (wpAny_mono (ht.run [] s1 (L2.start N vs) H _ (L2H.inv_startH S hpin e0 (len _ _ _ _ hsp) r ic) hq) (fun fl s' hs => ?_) fun e s' hs => hs)⟩
  rcases fl with _ | _ | _ | u
  · obtain ⟨_, H', J, z⟩ := hs
    exact ⟨V.non, H', J.os, J.bare, J.base, J.hok, rfl, z⟩
  · exact hs.choose_spec.choose_spec.2.elim
  · exact hs.choose_spec.choose_spec.2.elim
  · obtain ⟨v, _, H', J, rv, z⟩ := hs
    exact ⟨v, H', J.os, J.bare, J.base, J.hok, rv, z⟩
section
variable {X : Cx} {k : Nat} {f : Addr} {fd : FuncData} {ps : List Str} {sp : Sp} {x : Str} {q pos : Pos} {e : Expr} {es : List Expr} {t : TA}
/-- f(e, ..) there -/
theorem pe_callQ (F : FnQ X.prog X.w X.K X.mg X.base CX0 k f fd ps sp) (hr : L2H.RoomH k X.A) {p : Addr × Obj} (hp : p ∈ X.pn) (hg : Gl X x) (hm : X.mg x = some (.ref f)) (hk : PySem.W.keepIn X.K (.ref f) = true) (hb : Binds X.K fd ps [])
    (ha : PA X (e :: es) t) (hdb : (x == ("__debug__" : Str)) = false := by decide) (he : starEach (e :: es) X.env = (false, eval e X.env) :: starEach es X.env := by rfl) (hpl : (backTo pos (starEach es X.env)).any (·.1) = false := by rfl) :
    PE X (.Call (.Name x q) (e :: es) [] pos) (tCallS sp (fun _ => E0) t) := ⟨fun pins s σ H Q I h => by
  refine wpAny_Call_Name_kw (ld_glob I hg hm (PySem.W.callWith_K (h₀ := X.base) I.ok.mod.kin hk (thn (ha.run pos pins s σ H _ I h) fun us s1 ⟨vs, H1, I1, r, z⟩ => ⟨I1.kIn, ?_⟩) he hpl) hdb)
  have P1 := I1.pin p (List.mem_append_left _ hp)
  have pinned : L2H.PinOk X.stack H1 s1 p := by
    refine ⟨P1.1, P1.2.1, fun hm => ?_, P1.2.2.2.2⟩
    rcases List.mem_cons.mp (I1.stkSub p.1 hm) with y | y
    · exact P1.2.2.1 y
    · exact P1.2.2.2.1 y
  have bd := hb s1 us I1.kIn (by rw [List.append_nil, ← r.length]; exact F.1 _ _ _ _ z)
  rw [List.append_nil] at bd
  refine wpAny_call (codeAny_mono (F.2 X.A X.stack s1 H1 ⟨us, []⟩ us vs Q E0 p hr pinned I1.env0 bd r z) fun res s' hq => ?_)
  rcases res with er | fl
  · exact hq.elim
  · rcases fl with _ | _ | _ | u
    · exact hq.elim
    · exact hq.elim
    · exact hq.elim
    · exact I1.after hq⟩
end
section
variable {w : World} {K : Kf} {mg : Str → Option Value} {base : Heap}
theorem q_isint (T : Tx K mg) : ∃ fd, FnQ PP w K mg base CX0 1 (fA K "_law_is_integer") fd ["_law_told"] spIsInt ∧ PySem.W.keepIn K (.ref (fA K "_law_is_integer")) = true ∧ Binds K fd ["_law_told"] [] := by
  obtain ⟨fd, F⟩ := T.d_f_law_is_integer
  refine ⟨fd, fnq_of F sc_f_law_is_integer (by rintro _ H Q E ⟨i, rfl, _⟩; rfl) ?_, F.kp, F.bindsN (by intro kV doc pm an cdv ct us h; match us, h with | [_], _ => rfl)⟩
  rintro cdv A outer s0 H _ Q E p hr ⟨i, rfl, q⟩
  refine ⟨_, (pss_one (ps_ret (pe_and (pe_callB call_isi (by rfl) T.b_isinstance (by decide +kernel) (pa_cons (pv 0) (pa_cons (pe_bltn (v := .ty "int") (by rfl) T.b_int (by decide +kernel) rfl) pa_nil))) (pe_one (pe_not (pe_callB call_isi (by rfl) T.b_isinstance (by decide +kernel) (pa_cons (pv 0) (pa_cons (pe_bltn (v := .ty "bool") (by rfl) T.b_bool (by decide +kernel) rfl) pa_nil)))))))), ?_⟩
  exact s_ret (ev_is (ev_andV (a := true) (b := true) (ev_isi (ea_cons (ev_var rfl) (ea_cons ev_c ea_nil)) (.int i) (fun _ _ => .int i) (by decide +kernel)) fun _ => ev_is (ev_notV (a := false) (ev_isi (ea_cons (ev_var rfl) (ea_cons ev_c ea_nil)) (.int i) (fun _ _ => .int i) (by decide +kernel))) rfl) rfl) q
end
end CLg
end

section
/-! Telling: the call of put. -/
namespace CLg
open PySem PySem.Spec PyProof.Rows L2 Evl
section
variable {w : World} {K : Kf} {mg : Str → Option Value} {base : Heap}
def spCall (K : Kf) : Sp := fun vs H Q E => ∃ s t c g ts kvs k x lp picks, vs = [.ref s.S, .str k, x, .ref lp] ∧ StAt K H s t c g ts kvs ∧ H lp = some (.lst (vns picks)) ∧ picks.length ≤ 12 ∧ GoodK k ∧ (1 ≤ t.bound ∧ t.bound ≤ 1000) ∧ c.deeds ≤ 1000 ∧ PutTo K H s t c g k picks Q E
theorem sc_f_law_call : FnScope ["_law_store_here", "_law_name", "_law_worth", "_law_c"] ["_law_store_here", "_law_name", "_law_worth", "_law_c"] (defScope x_f_law_call) := ⟨rfl, rfl, rfl, by decide +kernel, rfl, by decide +kernel, by decide +kernel⟩
theorem ok_call (T : Tx K mg) : Fnc PP w K mg base (L2.CX PP w) 7 (fA K "_law_call") ["_law_store_here", "_law_name", "_law_worth", "_law_c"] (spCall K) := by
  refine mkX T.d_f_law_call sc_f_law_call (by rintro _ H Q E ⟨s, t, c, g, ts, kvs, k, x, lp, picks, rfl, _⟩; rfl) (by intro kV doc pm an cdv ct us h; match us, h with | [_, _, _, _], _ => rfl) ?_
  rintro cdv A outer s0 H _ Q E hr ⟨s, t, c, g, ts, kvs, k, x, lp, picks, rfl, h, hl, hp12, hk, hb, hd, q⟩
  refine ⟨_, (pss_cons (ps_if (pt_cmpR op_eq (pe_callB call_len_seq (by rfl) T.b_len PySem.boot_len (pa_cons (pv 3) pa_nil)) pe_int (nomark _)) (pss_one (ps_ret (pe_methR (pv 0) T.cs T.m_s_put (ok_s_put T) hr (passes_call (takes_of rfl rfl rfl rfl) fun _ _ _ _ h => h) (pa_cons (pv 1) (pa_cons (pv 2) pa_nil))))) pss_nil)
    (pss_cons (ps_if (pt_cmpR op_eq (pe_callB call_len_seq (by rfl) T.b_len PySem.boot_len (pa_cons (pv 3) pa_nil)) pe_int (nomark _)) (pss_one (ps_ret (pe_methR (pv 0) T.cs T.m_s_put (ok_s_put T) hr (passes_call (takes_of rfl rfl rfl rfl) fun _ _ _ _ h => h) (pa_cons (pv 1) (pa_cons (pv 2) (pa_cons (pe_ix ix_list (pv 3) pe_int (fun _ _ => rfl)) pa_nil)))))) pss_nil)
    (pss_cons (ps_if (pt_cmpR op_eq (pe_callB call_len_seq (by rfl) T.b_len PySem.boot_len (pa_cons (pv 3) pa_nil)) pe_int (nomark _)) (pss_one (ps_ret (pe_methR (pv 0) T.cs T.m_s_put (ok_s_put T) hr (passes_call (takes_of rfl rfl rfl rfl) fun _ _ _ _ h => h) (pa_cons (pv 1) (pa_cons (pv 2) (pa_cons (pe_ix ix_list (pv 3) pe_int (fun _ _ => rfl)) (pa_cons (pe_ix ix_list (pv 3) pe_int (fun _ _ => rfl)) pa_nil))))))) pss_nil)
    (pss_cons (ps_if (pt_cmpR op_eq (pe_callB call_len_seq (by rfl) T.b_len PySem.boot_len (pa_cons (pv 3) pa_nil)) pe_int (nomark _)) (pss_one (ps_ret (pe_methR (pv 0) T.cs T.m_s_put (ok_s_put T) hr (passes_call (takes_of rfl rfl rfl rfl) fun _ _ _ _ h => h) (pa_cons (pv 1) (pa_cons (pv 2) (pa_cons (pe_ix ix_list (pv 3) pe_int (fun _ _ => rfl)) (pa_cons (pe_ix ix_list (pv 3) pe_int (fun _ _ => rfl)) (pa_cons (pe_ix ix_list (pv 3) pe_int (fun _ _ => rfl)) pa_nil)))))))) pss_nil)
    (pss_cons (ps_if (pt_cmpR op_eq (pe_callB call_len_seq (by rfl) T.b_len PySem.boot_len (pa_cons (pv 3) pa_nil)) pe_int (nomark _)) (pss_one (ps_ret (pe_methR (pv 0) T.cs T.m_s_put (ok_s_put T) hr (passes_call (takes_of rfl rfl rfl rfl) fun _ _ _ _ h => h) (pa_cons (pv 1) (pa_cons (pv 2) (pa_cons (pe_ix ix_list (pv 3) pe_int (fun _ _ => rfl)) (pa_cons (pe_ix ix_list (pv 3) pe_int (fun _ _ => rfl)) (pa_cons (pe_ix ix_list (pv 3) pe_int (fun _ _ => rfl)) (pa_cons (pe_ix ix_list (pv 3) pe_int (fun _ _ => rfl)) pa_nil))))))))) pss_nil)
    (pss_cons (ps_if (pt_cmpR op_eq (pe_callB call_len_seq (by rfl) T.b_len PySem.boot_len (pa_cons (pv 3) pa_nil)) pe_int (nomark _)) (pss_one (ps_ret (pe_methR (pv 0) T.cs T.m_s_put (ok_s_put T) hr (passes_call (takes_of rfl rfl rfl rfl) fun _ _ _ _ h => h) (pa_cons (pv 1) (pa_cons (pv 2) (pa_cons (pe_ix ix_list (pv 3) pe_int (fun _ _ => rfl)) (pa_cons (pe_ix ix_list (pv 3) pe_int (fun _ _ => rfl)) (pa_cons (pe_ix ix_list (pv 3) pe_int (fun _ _ => rfl)) (pa_cons (pe_ix ix_list (pv 3) pe_int (fun _ _ => rfl)) (pa_cons (pe_ix ix_list (pv 3) pe_int (fun _ _ => rfl)) pa_nil)))))))))) pss_nil)
    (pss_cons (ps_if (pt_cmpR op_eq (pe_callB call_len_seq (by rfl) T.b_len PySem.boot_len (pa_cons (pv 3) pa_nil)) pe_int (nomark _)) (pss_one (ps_ret (pe_methR (pv 0) T.cs T.m_s_put (ok_s_put T) hr (passes_call (takes_of rfl rfl rfl rfl) fun _ _ _ _ h => h) (pa_cons (pv 1) (pa_cons (pv 2) (pa_cons (pe_ix ix_list (pv 3) pe_int (fun _ _ => rfl)) (pa_cons (pe_ix ix_list (pv 3) pe_int (fun _ _ => rfl)) (pa_cons (pe_ix ix_list (pv 3) pe_int (fun _ _ => rfl)) (pa_cons (pe_ix ix_list (pv 3) pe_int (fun _ _ => rfl)) (pa_cons (pe_ix ix_list (pv 3) pe_int (fun _ _ => rfl)) (pa_cons (pe_ix ix_list (pv 3) pe_int (fun _ _ => rfl)) pa_nil))))))))))) pss_nil)
    (pss_cons (ps_if (pt_cmpR op_eq (pe_callB call_len_seq (by rfl) T.b_len PySem.boot_len (pa_cons (pv 3) pa_nil)) pe_int (nomark _)) (pss_one (ps_ret (pe_methR (pv 0) T.cs T.m_s_put (ok_s_put T) hr (passes_call (takes_of rfl rfl rfl rfl) fun _ _ _ _ h => h) (pa_cons (pv 1) (pa_cons (pv 2) (pa_cons (pe_ix ix_list (pv 3) pe_int (fun _ _ => rfl)) (pa_cons (pe_ix ix_list (pv 3) pe_int (fun _ _ => rfl)) (pa_cons (pe_ix ix_list (pv 3) pe_int (fun _ _ => rfl)) (pa_cons (pe_ix ix_list (pv 3) pe_int (fun _ _ => rfl)) (pa_cons (pe_ix ix_list (pv 3) pe_int (fun _ _ => rfl)) (pa_cons (pe_ix ix_list (pv 3) pe_int (fun _ _ => rfl)) (pa_cons (pe_ix ix_list (pv 3) pe_int (fun _ _ => rfl)) pa_nil)))))))))))) pss_nil)
    (pss_cons (ps_if (pt_cmpR op_eq (pe_callB call_len_seq (by rfl) T.b_len PySem.boot_len (pa_cons (pv 3) pa_nil)) pe_int (nomark _)) (pss_one (ps_ret (pe_methR (pv 0) T.cs T.m_s_put (ok_s_put T) hr (passes_call (takes_of rfl rfl rfl rfl) fun _ _ _ _ h => h) (pa_cons (pv 1) (pa_cons (pv 2) (pa_cons (pe_ix ix_list (pv 3) pe_int (fun _ _ => rfl)) (pa_cons (pe_ix ix_list (pv 3) pe_int (fun _ _ => rfl)) (pa_cons (pe_ix ix_list (pv 3) pe_int (fun _ _ => rfl)) (pa_cons (pe_ix ix_list (pv 3) pe_int (fun _ _ => rfl)) (pa_cons (pe_ix ix_list (pv 3) pe_int (fun _ _ => rfl)) (pa_cons (pe_ix ix_list (pv 3) pe_int (fun _ _ => rfl)) (pa_cons (pe_ix ix_list (pv 3) pe_int (fun _ _ => rfl)) (pa_cons (pe_ix ix_list (pv 3) pe_int (fun _ _ => rfl)) pa_nil))))))))))))) pss_nil)
    (pss_cons (ps_if (pt_cmpR op_eq (pe_callB call_len_seq (by rfl) T.b_len PySem.boot_len (pa_cons (pv 3) pa_nil)) pe_int (nomark _)) (pss_one (ps_ret (pe_methR (pv 0) T.cs T.m_s_put (ok_s_put T) hr (passes_call (takes_of rfl rfl rfl rfl) fun _ _ _ _ h => h) (pa_cons (pv 1) (pa_cons (pv 2) (pa_cons (pe_ix ix_list (pv 3) pe_int (fun _ _ => rfl)) (pa_cons (pe_ix ix_list (pv 3) pe_int (fun _ _ => rfl)) (pa_cons (pe_ix ix_list (pv 3) pe_int (fun _ _ => rfl)) (pa_cons (pe_ix ix_list (pv 3) pe_int (fun _ _ => rfl)) (pa_cons (pe_ix ix_list (pv 3) pe_int (fun _ _ => rfl)) (pa_cons (pe_ix ix_list (pv 3) pe_int (fun _ _ => rfl)) (pa_cons (pe_ix ix_list (pv 3) pe_int (fun _ _ => rfl)) (pa_cons (pe_ix ix_list (pv 3) pe_int (fun _ _ => rfl)) (pa_cons (pe_ix ix_list (pv 3) pe_int (fun _ _ => rfl)) pa_nil)))))))))))))) pss_nil)
    (pss_cons (ps_if (pt_cmpR op_eq (pe_callB call_len_seq (by rfl) T.b_len PySem.boot_len (pa_cons (pv 3) pa_nil)) pe_int (nomark _)) (pss_one (ps_ret (pe_methR (pv 0) T.cs T.m_s_put (ok_s_put T) hr (passes_call (takes_of rfl rfl rfl rfl) fun _ _ _ _ h => h) (pa_cons (pv 1) (pa_cons (pv 2) (pa_cons (pe_ix ix_list (pv 3) pe_int (fun _ _ => rfl)) (pa_cons (pe_ix ix_list (pv 3) pe_int (fun _ _ => rfl)) (pa_cons (pe_ix ix_list (pv 3) pe_int (fun _ _ => rfl)) (pa_cons (pe_ix ix_list (pv 3) pe_int (fun _ _ => rfl)) (pa_cons (pe_ix ix_list (pv 3) pe_int (fun _ _ => rfl)) (pa_cons (pe_ix ix_list (pv 3) pe_int (fun _ _ => rfl)) (pa_cons (pe_ix ix_list (pv 3) pe_int (fun _ _ => rfl)) (pa_cons (pe_ix ix_list (pv 3) pe_int (fun _ _ => rfl)) (pa_cons (pe_ix ix_list (pv 3) pe_int (fun _ _ => rfl)) (pa_cons (pe_ix ix_list (pv 3) pe_int (fun _ _ => rfl)) pa_nil))))))))))))))) pss_nil)
    (pss_cons (ps_if (pt_cmpR op_eq (pe_callB call_len_seq (by rfl) T.b_len PySem.boot_len (pa_cons (pv 3) pa_nil)) pe_int (nomark _)) (pss_one (ps_ret (pe_methR (pv 0) T.cs T.m_s_put (ok_s_put T) hr (passes_call (takes_of rfl rfl rfl rfl) fun _ _ _ _ h => h) (pa_cons (pv 1) (pa_cons (pv 2) (pa_cons (pe_ix ix_list (pv 3) pe_int (fun _ _ => rfl)) (pa_cons (pe_ix ix_list (pv 3) pe_int (fun _ _ => rfl)) (pa_cons (pe_ix ix_list (pv 3) pe_int (fun _ _ => rfl)) (pa_cons (pe_ix ix_list (pv 3) pe_int (fun _ _ => rfl)) (pa_cons (pe_ix ix_list (pv 3) pe_int (fun _ _ => rfl)) (pa_cons (pe_ix ix_list (pv 3) pe_int (fun _ _ => rfl)) (pa_cons (pe_ix ix_list (pv 3) pe_int (fun _ _ => rfl)) (pa_cons (pe_ix ix_list (pv 3) pe_int (fun _ _ => rfl)) (pa_cons (pe_ix ix_list (pv 3) pe_int (fun _ _ => rfl)) (pa_cons (pe_ix ix_list (pv 3) pe_int (fun _ _ => rfl)) (pa_cons (pe_ix ix_list (pv 3) pe_int (fun _ _ => rfl)) pa_nil)))))))))))))))) pss_nil)
    (pss_one (ps_ret (pe_methR (pv 0) T.cs T.m_s_put (ok_s_put T) hr (passes_call (takes_of rfl rfl rfl rfl) fun _ _ _ _ h => h) (pa_cons (pv 1) (pa_cons (pv 2) (pa_cons (pe_ix ix_list (pv 3) pe_int (fun _ _ => rfl)) (pa_cons (pe_ix ix_list (pv 3) pe_int (fun _ _ => rfl)) (pa_cons (pe_ix ix_list (pv 3) pe_int (fun _ _ => rfl)) (pa_cons (pe_ix ix_list (pv 3) pe_int (fun _ _ => rfl)) (pa_cons (pe_ix ix_list (pv 3) pe_int (fun _ _ => rfl)) (pa_cons (pe_ix ix_list (pv 3) pe_int (fun _ _ => rfl)) (pa_cons (pe_ix ix_list (pv 3) pe_int (fun _ _ => rfl)) (pa_cons (pe_ix ix_list (pv 3) pe_int (fun _ _ => rfl)) (pa_cons (pe_ix ix_list (pv 3) pe_int (fun _ _ => rfl)) (pa_cons (pe_ix ix_list (pv 3) pe_int (fun _ _ => rfl)) (pa_cons (pe_ix ix_list (pv 3) pe_int (fun _ _ => rfl)) (pa_cons (pe_ix ix_list (pv 3) pe_int (fun _ _ => rfl)) pa_nil))))))))))))))))))))))))))))), ?_⟩
  have e0 : Ex H H := Ex.refl H
  have yes : ∀ {H' : Hp} (picks : List Nat) {ta : TA} {E' : XK} (_ : StAt K H' s t c g ts kvs) (hq : H' lp = some (.lst (vns picks))) (_ : PutTo K H' s t c g k picks Q E) {n : picks.length ≤ 1000},
      (H' lp = some (.lst (vns picks)) → EvA ta [some (.ref s.S), some (.str k), some x, some (.ref lp)] H' (.str k :: x :: vns picks)) → tRet (tMethR (cS K) "put" (spPutR K) E (tVar 0) ta) { nx := fun _ H' => Q .non H', rt := Q } [some (.ref s.S), some (.str k), some x, some (.ref lp)] H' := by
    intro H' picks ta E' h' hq q' n ha
    refine r_ret ⟨_, rfl, s.S, s.dx, _, rfl, h'.obj, rfl, ha hq H' (Ex.refl _) _ fun H2 e2 => ?_⟩
    exact ⟨s, t, c, g, ts, kvs, k, x, picks, rfl, h'.ex e2, n, hk, hb, hd, q'.ex e2⟩
  refine q_when (et_B (ev_op (ev_len (ev_var rfl) (SqL.of (e0 _ _ hl))) ev_c (rv_eq rfl))) ?_ ?_
  · intro hc H' e'
    have hn : picks.length = 0 := by
      have z := of_decide_eq_true hc
      injection z with z
      rw [vns_len] at z
      omega
    have e'' := e0.trans e'
    obtain rfl : picks = [] := by match picks, hn with | [], _ => rfl
    refine yes (n := Nat.le_trans hp12 (by decide)) (E' := E) [] (h.ex e'') (e'' _ _ hl) (q.ex e'') ?_
    exact fun hq => ea_cons (ev_var rfl) (ea_cons (ev_var rfl) ea_nil)
  intro hc0 H1 f0
  have hn0 : picks.length ≠ 0 := fun z => by
    have y := of_decide_eq_false hc0
    rw [vns_len, z] at y
    exact y rfl
  have e1 := e0.trans f0
  refine q_when (et_B (ev_op (ev_len (ev_var rfl) (SqL.of (e1 _ _ hl))) ev_c (rv_eq rfl))) ?_ ?_
  · intro hc H' e'
    have hn : picks.length = 1 := by
      have z := of_decide_eq_true hc
      injection z with z
      rw [vns_len] at z
      omega
    have e'' := e1.trans e'
    obtain ⟨p0, rfl⟩ : ∃ p0, picks = [p0] := by match picks, hn with | [p0], _ => exact ⟨p0, rfl⟩
    refine yes (n := Nat.le_trans hp12 (by decide)) (E' := E) [p0] (h.ex e'') (e'' _ _ hl) (q.ex e'') ?_
    exact fun hq => ea_cons (ev_var rfl) (ea_cons (ev_var rfl) (ea_cons (ev_op (ev_var rfl) ev_c (rv_ixL (SqL.of hq) (atI_nat (j := 0) rfl))) ea_nil))
  intro hc1 H2 f1
  have hn1 : picks.length ≠ 1 := fun z => by
    have y := of_decide_eq_false hc1
    rw [vns_len, z] at y
    exact y rfl
  have e2 := e1.trans f1
  refine q_when (et_B (ev_op (ev_len (ev_var rfl) (SqL.of (e2 _ _ hl))) ev_c (rv_eq rfl))) ?_ ?_
  · intro hc H' e'
    have hn : picks.length = 2 := by
      have z := of_decide_eq_true hc
      injection z with z
      rw [vns_len] at z
      omega
    have e'' := e2.trans e'
    obtain ⟨p0, p1, rfl⟩ : ∃ p0 p1, picks = [p0, p1] := by match picks, hn with | [p0, p1], _ => exact ⟨p0, p1, rfl⟩
    refine yes (n := Nat.le_trans hp12 (by decide)) (E' := E) [p0, p1] (h.ex e'') (e'' _ _ hl) (q.ex e'') ?_
    exact fun hq => ea_cons (ev_var rfl) (ea_cons (ev_var rfl) (ea_cons (ev_op (ev_var rfl) ev_c (rv_ixL (SqL.of hq) (atI_nat (j := 0) rfl))) (ea_cons (ev_op (ev_var rfl) ev_c (rv_ixL (SqL.of hq) (atI_nat (j := 1) rfl))) ea_nil)))
  intro hc2 H3 f2
  have hn2 : picks.length ≠ 2 := fun z => by
    have y := of_decide_eq_false hc2
    rw [vns_len, z] at y
    exact y rfl
  have e3 := e2.trans f2
  refine q_when (et_B (ev_op (ev_len (ev_var rfl) (SqL.of (e3 _ _ hl))) ev_c (rv_eq rfl))) ?_ ?_
  · intro hc H' e'
    have hn : picks.length = 3 := by
      have z := of_decide_eq_true hc
      injection z with z
      rw [vns_len] at z
      omega
    have e'' := e3.trans e'
    obtain ⟨p0, p1, p2, rfl⟩ : ∃ p0 p1 p2, picks = [p0, p1, p2] := by match picks, hn with | [p0, p1, p2], _ => exact ⟨p0, p1, p2, rfl⟩
    refine yes (n := Nat.le_trans hp12 (by decide)) (E' := E) [p0, p1, p2] (h.ex e'') (e'' _ _ hl) (q.ex e'') ?_
    exact fun hq => ea_cons (ev_var rfl) (ea_cons (ev_var rfl) (ea_cons (ev_op (ev_var rfl) ev_c (rv_ixL (SqL.of hq) (atI_nat (j := 0) rfl))) (ea_cons (ev_op (ev_var rfl) ev_c (rv_ixL (SqL.of hq) (atI_nat (j := 1) rfl))) (ea_cons (ev_op (ev_var rfl) ev_c (rv_ixL (SqL.of hq) (atI_nat (j := 2) rfl))) ea_nil))))
  intro hc3 H4 f3
  have hn3 : picks.length ≠ 3 := fun z => by
    have y := of_decide_eq_false hc3
    rw [vns_len, z] at y
    exact y rfl
  have e4 := e3.trans f3
  refine q_when (et_B (ev_op (ev_len (ev_var rfl) (SqL.of (e4 _ _ hl))) ev_c (rv_eq rfl))) ?_ ?_
  · intro hc H' e'
    have hn : picks.length = 4 := by
      have z := of_decide_eq_true hc
      injection z with z
      rw [vns_len] at z
      omega
    have e'' := e4.trans e'
    obtain ⟨p0, p1, p2, p3, rfl⟩ : ∃ p0 p1 p2 p3, picks = [p0, p1, p2, p3] := by match picks, hn with | [p0, p1, p2, p3], _ => exact ⟨p0, p1, p2, p3, rfl⟩
    refine yes (n := Nat.le_trans hp12 (by decide)) (E' := E) [p0, p1, p2, p3] (h.ex e'') (e'' _ _ hl) (q.ex e'') ?_
    exact fun hq => ea_cons (ev_var rfl) (ea_cons (ev_var rfl) (ea_cons (ev_op (ev_var rfl) ev_c (rv_ixL (SqL.of hq) (atI_nat (j := 0) rfl))) (ea_cons (ev_op (ev_var rfl) ev_c (rv_ixL (SqL.of hq) (atI_nat (j := 1) rfl))) (ea_cons (ev_op (ev_var rfl) ev_c (rv_ixL (SqL.of hq) (atI_nat (j := 2) rfl))) (ea_cons (ev_op (ev_var rfl) ev_c (rv_ixL (SqL.of hq) (atI_nat (j := 3) rfl))) ea_nil)))))
  intro hc4 H5 f4
  have hn4 : picks.length ≠ 4 := fun z => by
    have y := of_decide_eq_false hc4
    rw [vns_len, z] at y
    exact y rfl
  have e5 := e4.trans f4
  refine q_when (et_B (ev_op (ev_len (ev_var rfl) (SqL.of (e5 _ _ hl))) ev_c (rv_eq rfl))) ?_ ?_
  · intro hc H' e'
    have hn : picks.length = 5 := by
      have z := of_decide_eq_true hc
      injection z with z
      rw [vns_len] at z
      omega
    have e'' := e5.trans e'
    obtain ⟨p0, p1, p2, p3, p4, rfl⟩ : ∃ p0 p1 p2 p3 p4, picks = [p0, p1, p2, p3, p4] := by match picks, hn with | [p0, p1, p2, p3, p4], _ => exact ⟨p0, p1, p2, p3, p4, rfl⟩
    refine yes (n := Nat.le_trans hp12 (by decide)) (E' := E) [p0, p1, p2, p3, p4] (h.ex e'') (e'' _ _ hl) (q.ex e'') ?_
    exact fun hq => ea_cons (ev_var rfl) (ea_cons (ev_var rfl) (ea_cons (ev_op (ev_var rfl) ev_c (rv_ixL (SqL.of hq) (atI_nat (j := 0) rfl))) (ea_cons (ev_op (ev_var rfl) ev_c (rv_ixL (SqL.of hq) (atI_nat (j := 1) rfl))) (ea_cons (ev_op (ev_var rfl) ev_c (rv_ixL (SqL.of hq) (atI_nat (j := 2) rfl))) (ea_cons (ev_op (ev_var rfl) ev_c (rv_ixL (SqL.of hq) (atI_nat (j := 3) rfl))) (ea_cons (ev_op (ev_var rfl) ev_c (rv_ixL (SqL.of hq) (atI_nat (j := 4) rfl))) ea_nil))))))
  intro hc5 H6 f5
  have hn5 : picks.length ≠ 5 := fun z => by
    have y := of_decide_eq_false hc5
    rw [vns_len, z] at y
    exact y rfl
  have e6 := e5.trans f5
  refine q_when (et_B (ev_op (ev_len (ev_var rfl) (SqL.of (e6 _ _ hl))) ev_c (rv_eq rfl))) ?_ ?_
  · intro hc H' e'
    have hn : picks.length = 6 := by
      have z := of_decide_eq_true hc
      injection z with z
      rw [vns_len] at z
      omega
    have e'' := e6.trans e'
    obtain ⟨p0, p1, p2, p3, p4, p5, rfl⟩ : ∃ p0 p1 p2 p3 p4 p5, picks = [p0, p1, p2, p3, p4, p5] := by match picks, hn with | [p0, p1, p2, p3, p4, p5], _ => exact ⟨p0, p1, p2, p3, p4, p5, rfl⟩
    refine yes (n := Nat.le_trans hp12 (by decide)) (E' := E) [p0, p1, p2, p3, p4, p5] (h.ex e'') (e'' _ _ hl) (q.ex e'') ?_
    exact fun hq => ea_cons (ev_var rfl) (ea_cons (ev_var rfl) (ea_cons (ev_op (ev_var rfl) ev_c (rv_ixL (SqL.of hq) (atI_nat (j := 0) rfl))) (ea_cons (ev_op (ev_var rfl) ev_c (rv_ixL (SqL.of hq) (atI_nat (j := 1) rfl))) (ea_cons (ev_op (ev_var rfl) ev_c (rv_ixL (SqL.of hq) (atI_nat (j := 2) rfl))) (ea_cons (ev_op (ev_var rfl) ev_c (rv_ixL (SqL.of hq) (atI_nat (j := 3) rfl))) (ea_cons (ev_op (ev_var rfl) ev_c (rv_ixL (SqL.of hq) (atI_nat (j := 4) rfl))) (ea_cons (ev_op (ev_var rfl) ev_c (rv_ixL (SqL.of hq) (atI_nat (j := 5) rfl))) ea_nil)))))))
  intro hc6 H7 f6
  have hn6 : picks.length ≠ 6 := fun z => by
    have y := of_decide_eq_false hc6
    rw [vns_len, z] at y
    exact y rfl
  have e7 := e6.trans f6
  refine q_when (et_B (ev_op (ev_len (ev_var rfl) (SqL.of (e7 _ _ hl))) ev_c (rv_eq rfl))) ?_ ?_
  · intro hc H' e'
    have hn : picks.length = 7 := by
      have z := of_decide_eq_true hc
      injection z with z
      rw [vns_len] at z
      omega
    have e'' := e7.trans e'
    obtain ⟨p0, p1, p2, p3, p4, p5, p6, rfl⟩ : ∃ p0 p1 p2 p3 p4 p5 p6, picks = [p0, p1, p2, p3, p4, p5, p6] := by match picks, hn with | [p0, p1, p2, p3, p4, p5, p6], _ => exact ⟨p0, p1, p2, p3, p4, p5, p6, rfl⟩
    refine yes (n := Nat.le_trans hp12 (by decide)) (E' := E) [p0, p1, p2, p3, p4, p5, p6] (h.ex e'') (e'' _ _ hl) (q.ex e'') ?_
    exact fun hq => ea_cons (ev_var rfl) (ea_cons (ev_var rfl) (ea_cons (ev_op (ev_var rfl) ev_c (rv_ixL (SqL.of hq) (atI_nat (j := 0) rfl))) (ea_cons (ev_op (ev_var rfl) ev_c (rv_ixL (SqL.of hq) (atI_nat (j := 1) rfl))) (ea_cons (ev_op (ev_var rfl) ev_c (rv_ixL (SqL.of hq) (atI_nat (j := 2) rfl))) (ea_cons (ev_op (ev_var rfl) ev_c (rv_ixL (SqL.of hq) (atI_nat (j := 3) rfl))) (ea_cons (ev_op (ev_var rfl) ev_c (rv_ixL (SqL.of hq) (atI_nat (j := 4) rfl))) (ea_cons (ev_op (ev_var rfl) ev_c (rv_ixL (SqL.of hq) (atI_nat (j := 5) rfl))) (ea_cons (ev_op (ev_var rfl) ev_c (rv_ixL (SqL.of hq) (atI_nat (j := 6) rfl))) ea_nil))))))))
  intro hc7 H8 f7
  have hn7 : picks.length ≠ 7 := fun z => by
    have y := of_decide_eq_false hc7
    rw [vns_len, z] at y
    exact y rfl
  have e8 := e7.trans f7
  refine q_when (et_B (ev_op (ev_len (ev_var rfl) (SqL.of (e8 _ _ hl))) ev_c (rv_eq rfl))) ?_ ?_
  · intro hc H' e'
    have hn : picks.length = 8 := by
      have z := of_decide_eq_true hc
      injection z with z
      rw [vns_len] at z
      omega
    have e'' := e8.trans e'
    obtain ⟨p0, p1, p2, p3, p4, p5, p6, p7, rfl⟩ : ∃ p0 p1 p2 p3 p4 p5 p6 p7, picks = [p0, p1, p2, p3, p4, p5, p6, p7] := by match picks, hn with | [p0, p1, p2, p3, p4, p5, p6, p7], _ => exact ⟨p0, p1, p2, p3, p4, p5, p6, p7, rfl⟩
    refine yes (n := Nat.le_trans hp12 (by decide)) (E' := E) [p0, p1, p2, p3, p4, p5, p6, p7] (h.ex e'') (e'' _ _ hl) (q.ex e'') ?_
    exact fun hq => ea_cons (ev_var rfl) (ea_cons (ev_var rfl) (ea_cons (ev_op (ev_var rfl) ev_c (rv_ixL (SqL.of hq) (atI_nat (j := 0) rfl))) (ea_cons (ev_op (ev_var rfl) ev_c (rv_ixL (SqL.of hq) (atI_nat (j := 1) rfl))) (ea_cons (ev_op (ev_var rfl) ev_c (rv_ixL (SqL.of hq) (atI_nat (j := 2) rfl))) (ea_cons (ev_op (ev_var rfl) ev_c (rv_ixL (SqL.of hq) (atI_nat (j := 3) rfl))) (ea_cons (ev_op (ev_var rfl) ev_c (rv_ixL (SqL.of hq) (atI_nat (j := 4) rfl))) (ea_cons (ev_op (ev_var rfl) ev_c (rv_ixL (SqL.of hq) (atI_nat (j := 5) rfl))) (ea_cons (ev_op (ev_var rfl) ev_c (rv_ixL (SqL.of hq) (atI_nat (j := 6) rfl))) (ea_cons (ev_op (ev_var rfl) ev_c (rv_ixL (SqL.of hq) (atI_nat (j := 7) rfl))) ea_nil)))))))))
  intro hc8 H9 f8
  have hn8 : picks.length ≠ 8 := fun z => by
    have y := of_decide_eq_false hc8
    rw [vns_len, z] at y
    exact y rfl
  have e9 := e8.trans f8
  refine q_when (et_B (ev_op (ev_len (ev_var rfl) (SqL.of (e9 _ _ hl))) ev_c (rv_eq rfl))) ?_ ?_
  · intro hc H' e'
    have hn : picks.length = 9 := by
      have z := of_decide_eq_true hc
      injection z with z
      rw [vns_len] at z
      omega
    have e'' := e9.trans e'
    obtain ⟨p0, p1, p2, p3, p4, p5, p6, p7, p8, rfl⟩ : ∃ p0 p1 p2 p3 p4 p5 p6 p7 p8, picks = [p0, p1, p2, p3, p4, p5, p6, p7, p8] := by match picks, hn with | [p0, p1, p2, p3, p4, p5, p6, p7, p8], _ => exact ⟨p0, p1, p2, p3, p4, p5, p6, p7, p8, rfl⟩
    refine yes (n := Nat.le_trans hp12 (by decide)) (E' := E) [p0, p1, p2, p3, p4, p5, p6, p7, p8] (h.ex e'') (e'' _ _ hl) (q.ex e'') ?_
    exact fun hq => ea_cons (ev_var rfl) (ea_cons (ev_var rfl) (ea_cons (ev_op (ev_var rfl) ev_c (rv_ixL (SqL.of hq) (atI_nat (j := 0) rfl))) (ea_cons (ev_op (ev_var rfl) ev_c (rv_ixL (SqL.of hq) (atI_nat (j := 1) rfl))) (ea_cons (ev_op (ev_var rfl) ev_c (rv_ixL (SqL.of hq) (atI_nat (j := 2) rfl))) (ea_cons (ev_op (ev_var rfl) ev_c (rv_ixL (SqL.of hq) (atI_nat (j := 3) rfl))) (ea_cons (ev_op (ev_var rfl) ev_c (rv_ixL (SqL.of hq) (atI_nat (j := 4) rfl))) (ea_cons (ev_op (ev_var rfl) ev_c (rv_ixL (SqL.of hq) (atI_nat (j := 5) rfl))) (ea_cons (ev_op (ev_var rfl) ev_c (rv_ixL (SqL.of hq) (atI_nat (j := 6) rfl))) (ea_cons (ev_op (ev_var rfl) ev_c (rv_ixL (SqL.of hq) (atI_nat (j := 7) rfl))) (ea_cons (ev_op (ev_var rfl) ev_c (rv_ixL (SqL.of hq) (atI_nat (j := 8) rfl))) ea_nil))))))))))
  intro hc9 H10 f9
  have hn9 : picks.length ≠ 9 := fun z => by
    have y := of_decide_eq_false hc9
    rw [vns_len, z] at y
    exact y rfl
  have e10 := e9.trans f9
  refine q_when (et_B (ev_op (ev_len (ev_var rfl) (SqL.of (e10 _ _ hl))) ev_c (rv_eq rfl))) ?_ ?_
  · intro hc H' e'
    have hn : picks.length = 10 := by
      have z := of_decide_eq_true hc
      injection z with z
      rw [vns_len] at z
      omega
    have e'' := e10.trans e'
    obtain ⟨p0, p1, p2, p3, p4, p5, p6, p7, p8, p9, rfl⟩ : ∃ p0 p1 p2 p3 p4 p5 p6 p7 p8 p9, picks = [p0, p1, p2, p3, p4, p5, p6, p7, p8, p9] := by match picks, hn with | [p0, p1, p2, p3, p4, p5, p6, p7, p8, p9], _ => exact ⟨p0, p1, p2, p3, p4, p5, p6, p7, p8, p9, rfl⟩
    refine yes (n := Nat.le_trans hp12 (by decide)) (E' := E) [p0, p1, p2, p3, p4, p5, p6, p7, p8, p9] (h.ex e'') (e'' _ _ hl) (q.ex e'') ?_
    exact fun hq => ea_cons (ev_var rfl) (ea_cons (ev_var rfl) (ea_cons (ev_op (ev_var rfl) ev_c (rv_ixL (SqL.of hq) (atI_nat (j := 0) rfl))) (ea_cons (ev_op (ev_var rfl) ev_c (rv_ixL (SqL.of hq) (atI_nat (j := 1) rfl))) (ea_cons (ev_op (ev_var rfl) ev_c (rv_ixL (SqL.of hq) (atI_nat (j := 2) rfl))) (ea_cons (ev_op (ev_var rfl) ev_c (rv_ixL (SqL.of hq) (atI_nat (j := 3) rfl))) (ea_cons (ev_op (ev_var rfl) ev_c (rv_ixL (SqL.of hq) (atI_nat (j := 4) rfl))) (ea_cons (ev_op (ev_var rfl) ev_c (rv_ixL (SqL.of hq) (atI_nat (j := 5) rfl))) (ea_cons (ev_op (ev_var rfl) ev_c (rv_ixL (SqL.of hq) (atI_nat (j := 6) rfl))) (ea_cons (ev_op (ev_var rfl) ev_c (rv_ixL (SqL.of hq) (atI_nat (j := 7) rfl))) (ea_cons (ev_op (ev_var rfl) ev_c (rv_ixL (SqL.of hq) (atI_nat (j := 8) rfl))) (ea_cons (ev_op (ev_var rfl) ev_c (rv_ixL (SqL.of hq) (atI_nat (j := 9) rfl))) ea_nil)))))))))))
  intro hc10 H11 f10
  have hn10 : picks.length ≠ 10 := fun z => by
    have y := of_decide_eq_false hc10
    rw [vns_len, z] at y
    exact y rfl
  have e11 := e10.trans f10
  refine q_when (et_B (ev_op (ev_len (ev_var rfl) (SqL.of (e11 _ _ hl))) ev_c (rv_eq rfl))) ?_ ?_
  · intro hc H' e'
    have hn : picks.length = 11 := by
      have z := of_decide_eq_true hc
      injection z with z
      rw [vns_len] at z
      omega
    have e'' := e11.trans e'
    obtain ⟨p0, p1, p2, p3, p4, p5, p6, p7, p8, p9, p10, rfl⟩ : ∃ p0 p1 p2 p3 p4 p5 p6 p7 p8 p9 p10, picks = [p0, p1, p2, p3, p4, p5, p6, p7, p8, p9, p10] := by match picks, hn with | [p0, p1, p2, p3, p4, p5, p6, p7, p8, p9, p10], _ => exact ⟨p0, p1, p2, p3, p4, p5, p6, p7, p8, p9, p10, rfl⟩
    refine yes (n := Nat.le_trans hp12 (by decide)) (E' := E) [p0, p1, p2, p3, p4, p5, p6, p7, p8, p9, p10] (h.ex e'') (e'' _ _ hl) (q.ex e'') ?_
    exact fun hq => ea_cons (ev_var rfl) (ea_cons (ev_var rfl) (ea_cons (ev_op (ev_var rfl) ev_c (rv_ixL (SqL.of hq) (atI_nat (j := 0) rfl))) (ea_cons (ev_op (ev_var rfl) ev_c (rv_ixL (SqL.of hq) (atI_nat (j := 1) rfl))) (ea_cons (ev_op (ev_var rfl) ev_c (rv_ixL (SqL.of hq) (atI_nat (j := 2) rfl))) (ea_cons (ev_op (ev_var rfl) ev_c (rv_ixL (SqL.of hq) (atI_nat (j := 3) rfl))) (ea_cons (ev_op (ev_var rfl) ev_c (rv_ixL (SqL.of hq) (atI_nat (j := 4) rfl))) (ea_cons (ev_op (ev_var rfl) ev_c (rv_ixL (SqL.of hq) (atI_nat (j := 5) rfl))) (ea_cons (ev_op (ev_var rfl) ev_c (rv_ixL (SqL.of hq) (atI_nat (j := 6) rfl))) (ea_cons (ev_op (ev_var rfl) ev_c (rv_ixL (SqL.of hq) (atI_nat (j := 7) rfl))) (ea_cons (ev_op (ev_var rfl) ev_c (rv_ixL (SqL.of hq) (atI_nat (j := 8) rfl))) (ea_cons (ev_op (ev_var rfl) ev_c (rv_ixL (SqL.of hq) (atI_nat (j := 9) rfl))) (ea_cons (ev_op (ev_var rfl) ev_c (rv_ixL (SqL.of hq) (atI_nat (j := 10) rfl))) ea_nil))))))))))))
  intro hc11 H12 f11
  have hn11 : picks.length ≠ 11 := fun z => by
    have y := of_decide_eq_false hc11
    rw [vns_len, z] at y
    exact y rfl
  have e12 := e11.trans f11
  have hn : picks.length = 12 := by omega
  obtain ⟨p0, p1, p2, p3, p4, p5, p6, p7, p8, p9, p10, p11, rfl⟩ : ∃ p0 p1 p2 p3 p4 p5 p6 p7 p8 p9 p10 p11, picks = [p0, p1, p2, p3, p4, p5, p6, p7, p8, p9, p10, p11] := by match picks, hn with | [p0, p1, p2, p3, p4, p5, p6, p7, p8, p9, p10, p11], _ => exact ⟨p0, p1, p2, p3, p4, p5, p6, p7, p8, p9, p10, p11, rfl⟩
  refine yes (n := Nat.le_trans hp12 (by decide)) (E' := E) [p0, p1, p2, p3, p4, p5, p6, p7, p8, p9, p10, p11] (h.ex e12) (e12 _ _ hl) (q.ex e12) ?_
  exact fun hq => ea_cons (ev_var rfl) (ea_cons (ev_var rfl) (ea_cons (ev_op (ev_var rfl) ev_c (rv_ixL (SqL.of hq) (atI_nat (j := 0) rfl))) (ea_cons (ev_op (ev_var rfl) ev_c (rv_ixL (SqL.of hq) (atI_nat (j := 1) rfl))) (ea_cons (ev_op (ev_var rfl) ev_c (rv_ixL (SqL.of hq) (atI_nat (j := 2) rfl))) (ea_cons (ev_op (ev_var rfl) ev_c (rv_ixL (SqL.of hq) (atI_nat (j := 3) rfl))) (ea_cons (ev_op (ev_var rfl) ev_c (rv_ixL (SqL.of hq) (atI_nat (j := 4) rfl))) (ea_cons (ev_op (ev_var rfl) ev_c (rv_ixL (SqL.of hq) (atI_nat (j := 5) rfl))) (ea_cons (ev_op (ev_var rfl) ev_c (rv_ixL (SqL.of hq) (atI_nat (j := 6) rfl))) (ea_cons (ev_op (ev_var rfl) ev_c (rv_ixL (SqL.of hq) (atI_nat (j := 7) rfl))) (ea_cons (ev_op (ev_var rfl) ev_c (rv_ixL (SqL.of hq) (atI_nat (j := 8) rfl))) (ea_cons (ev_op (ev_var rfl) ev_c (rv_ixL (SqL.of hq) (atI_nat (j := 9) rfl))) (ea_cons (ev_op (ev_var rfl) ev_c (rv_ixL (SqL.of hq) (atI_nat (j := 10) rfl))) (ea_cons (ev_op (ev_var rfl) ev_c (rv_ixL (SqL.of hq) (atI_nat (j := 11) rfl))) ea_nil)))))))))))))
end
end CLg
end

section
/-! Telling: what the store says. -/
namespace CLg
open PySem PySem.Spec PyProof.Rows L2 Evl
theorem no_takes {X : Cx} : Takes X (fun _ _ _ _ => False) := fun _ _ ⟨_, _, _, _, _, _, _, _, _, _, _, _, _, _, _, _, z⟩ => z.elim
section
variable {X : Cx} {CX : CXT} {k : Nat} {f C : Addr} {fd : FuncData} {ps : List Str} {sp : Sp} {E : L2.St → XK} {m : Str} {pos apos : Pos} {e o : Expr} {es : List Expr} {ta : TE} {t : TA} {pl : Sem Bool}
/-- o.m(e, ..), what leaves it told at the slots -/
def tMethW (C : Addr) (m : Str) (sp : Sp) (E : L2.St → XK) (ta : TE) (t : TA) : TE := fun σ H Q => ta σ H fun x H1 => ∃ a dx fs, x = .ref a ∧ H1 a = some (.ins C dx fs) ∧ fs.lookup m = none ∧ t σ H1 fun vs H2 => sp (x :: vs) H2 Q (E σ)
theorem pe_methW (he : PE X o ta) (c : Cls X.K C) (hm : Meth X.K C m f) (F : FnOk X.prog X.w X.K X.mg X.base CX k f fd ps sp) (hr : Room k X.A) (hb : Binds X.K fd ps []) (hx : ∀ σ, PassesAt CX X σ (E σ)) (ha : PA X (e :: es) t)
    (hst : starEach (e :: es) X.env = (false, eval e X.env) :: starEach es X.env := by rfl) (hpl : (backTo pos (starEach es X.env)).any (·.1) = false := by rfl)
    (ht : eval (.Call (.Attribute o m apos) (e :: es) [] pos) X.env = (do
      let ov ← eval o X.env
      standAt apos.atName
      let (f, first) ← holding [ov] (getMethod ov m pl)
      callWith pos f first (backTo pos (starEach (e :: es) X.env)) (backToKw pos (keywordEach [] X.env))) := by rfl) :
    PE X (.Call (.Attribute o m apos) (e :: es) [] pos) (tMethW C m sp E ta t) := ⟨fun pins s σ H Q I h => by
  refine PySem.W.methodCall_KW (pl := pl) (thn (he.run pins s σ H _ I h) fun u s1 hh => ?_) ht
  obtain ⟨x, H1, I1, rx, a, dx, fs, rfl, ea, l, q⟩ := hh
  have eu : u = Value.ref a := rx
  rw [eu]
  refine getmeth_ok I1 ea c hm l (PySem.W.callWith_K (first := [.ref a]) (h₀ := X.base) I1.ok.mod.kin hm.kp (thn (ha.run pos pins s1 σ H1 _ I1 q) fun us s2 h2 => ?_) hst hpl)
  obtain ⟨vs, H2, I2, r, q2⟩ := h2
  exact ⟨I2.kIn, run_fnS (us := .ref a :: us) (vs := .ref a :: vs) F hr hb (hx σ) I2 (.cons rfl r) q2⟩⟩
end
theorem ev_xf {σ : L2.St} {H : Hp} {ta : TE} {a C dd : Addr} {f : Str} {fs : List (Str × V)} {v : V} (ha : Ev ta σ H (.ref a)) (hd : H dd = some (.xd fs)) (hl : fs.lookup f = some v) : Ev (tXf a (.ref C) (some dd) C f ta) σ H v := fun H1 e Q q =>
  ha H1 e _ fun H2 e2 => ⟨rfl, rfl, dd, fs, v, rfl, (e.trans e2) _ _ hd, hl, q H2 e2⟩
theorem ev_callS {σ : L2.St} {H : Hp} {sp : Sp} {E : L2.St → XK} {ta : TA} {vs : List V} {z : V} (h : EvA ta σ H vs) (hs : SpV sp vs H z) : Ev (tCallS sp E ta) σ H z := fun H1 e Q q =>
  h H1 e _ fun H2 e2 => hs H2 (e.trans e2) Q (fun H3 e3 => q H3 (e2.trans e3)) (E σ)
/-- what is told of a refusal: a new tuple -/
def Tell (H : Hp) (Q : VK) (s : Str) (v : V) : Prop := ∀ p H2, H2 p = some (.tup [.str s, v, .bl true]) → Ex H H2 → Q (.ref p) H2
theorem Tell.ex {H H1 : Hp} {Q : VK} {s : Str} {v : V} (t : Tell H Q s v) (e : Ex H H1) : Tell H1 Q s v := fun p H2 h x => t p H2 h (e.trans x)
theorem r_tell {H H0 : Hp} {Q : VK} {s : Str} {v : V} {σ : L2.St} {t1 t2 : TE} {D : Ends} (t : Tell H0 Q s v) (e : Ex H0 H) (h1 : Ev t1 σ H v) (h2 : Ev t2 σ H (.bl true)) (hD : D.rt = Q) : tRet (tTup (tCons (tC (.str s)) (tCons t1 (tCons t2 tNil)))) D σ H := by
  refine s_retU (eu_tup (ea_cons ev_c (ea_cons h1 (ea_cons h2 ea_nil))) (show 3 ≤ 100000 by decide)) fun p H1 hp e1 hh => ?_
  rw [hD]
  exact t p H1 hh (e.trans e1)
def TellPut (K : Kf) (H : Hp) (s : Sd) (t : Tm) (c : Ct) (g : Lg) (k : Str) (picks : List Nat) (Q : VK) : Prop := match putOut t.wide t.bound t.load t.first k picks g with
  | .ok g' => ∀ H2 s2 ts2 kvs2, StAt K H2 s2 t ⟨c.deeds + 1, c.moved + picks.length, picks.length⟩ g' ts2 kvs2 → s2.S = s.S → Stp s.own H s2.own H2 → Q .non H2
  | .full => Tell H Q "KeyLimit" (.int t.bound)
  | .many => Tell H Q "BadChoice" (.int (picks.length : Int))
  | .pick p => Tell H Q "BadChoice" (.int (p : Int))
  | .stall => Tell H Q "Stalled" (.int (c.deeds : Int))
def TellDrop (K : Kf) (H : Hp) (s : Sd) (t : Tm) (c : Ct) (g : Lg) (k : Str) (Q : VK) : Prop := match find k g with
  | none => Tell H Q "UnknownKey" (.str k)
  | some (a, b) => ∀ H2 s2 ts2 kvs2, StAt K H2 s2 t c (kill a b g) ts2 kvs2 → s2.S = s.S → Stp s.own H s2.own H2 → Q .non H2
section
variable {w : World} {K : Kf} {mg : Str → Option Value} {base : Heap}
def spTold (K : Kf) : Sp := fun vs H Q E => ∃ s t c g ts kvs k x lp picks, vs = [.ref s.S, .str k, x, .ref lp] ∧ StAt K H s t c g ts kvs ∧ H lp = some (.lst (vns picks)) ∧ picks.length ≤ 12 ∧ GoodK k ∧ (1 ≤ t.bound ∧ t.bound ≤ 1000) ∧ c.deeds ≤ 1000 ∧ TellPut K H s t c g k picks Q
theorem xfc {C fI : Addr} {fld : Str} {D : OwnX.Tx} (h : OwnX.Txt PP K mg C fI fld D) : XfC K C := ⟨h.ga, h.gg, h.exC, h.hdC⟩
theorem sc_f_law_told_put : FnScope ["_law_store_here", "_law_name", "_law_worth", "_law_picks_here", "_law_told", "e"] ["_law_store_here", "_law_name", "_law_worth", "_law_picks_here"] (defScope x_f_law_told_put) := ⟨rfl, rfl, rfl, by decide +kernel, rfl, by decide +kernel, by decide +kernel⟩
theorem ok_told_put (T : Tx K mg) : Fnc PP w K mg base CX0 8 (fA K "_law_told_put") ["_law_store_here", "_law_name", "_law_worth", "_law_picks_here"] (spTold K) := by
  refine mk0 T.d_f_law_told_put sc_f_law_told_put (by rintro _ H Q E ⟨s, t, c, g, ts, kvs, k, x, lp, picks, rfl, _⟩; rfl) (by intro kV doc pm an cdv ct us h; match us, h with | [_, _, _, _], _ => rfl) ?_
  rintro cdv A outer s0 H _ Q E hr ⟨s, t, c, g, ts, kvs, k, x, lp, picks, rfl, h, hl, hp12, hk, hb, hd, q⟩
  have nd := sc_f_law_told_put.nd
  obtain ⟨fc, Fc, bc⟩ := (ok_call (w := w) (base := base) T).ex
  obtain ⟨fq, FQ, kQ, bQ⟩ := q_isint (w := w) (base := base) T
  have rq : ∀ a, L2H.RoomH 1 ((A.deeper (envOfC "_law_told_put" (defScope x_f_law_told_put) s0.heap.objs.size (fA K "_law_told_put") cdv)).mark (some (.ref a))) := fun a => L2H.RoomH.mono (j := 1) (k := 7) ⟨hr.dp, hr.un⟩ (by decide)
  obtain ⟨D1, x1, x2, x3, x4, _⟩ := lim_tx w
  obtain ⟨D2, y1, y2, y3, y4, _⟩ := bad_tx w
  obtain ⟨D3, z1, z2, z3, z4, _⟩ := sta_tx w
  have X_KeyLimit := xfc (T.f_KeyLimit x1 x2 x3 x4)
  have N_KeyLimit := (T.f_KeyLimit x1 x2 x3 x4).noF
  have X_BadChoice := xfc (T.f_BadChoice y1 y2 y3 y4)
  have N_BadChoice := (T.f_BadChoice y1 y2 y3 y4).noF
  have X_Stalled := xfc (T.f_Stalled z1 z2 z3 z4)
  have N_Stalled := (T.f_Stalled z1 z2 z3 z4).noF
  refine ⟨_, (pss_cons (ps_tryClauses rfl rfl nd no_takes (fun W pn xe tk _ => pss_one (ps_set (i := 4) nd rfl (by first | exact Or.inl rfl | exact Or.inr rfl) (pe_callS Fc (hr.mono (by decide)) rfl T.g_law_call (ok_call (w := w) (base := base) T).kp bc (fun σ => passAt tk σ) (pa_cons (pv 0) (pa_cons (pv 1) (pa_cons (pv 2) (pa_cons (pv 3) pa_nil)))))))
      (.more ⟨rfl, by decide, .inl T.g_KeyLimit⟩ (i := 5) rfl rfl (fun a oe cls d pn hz hf => pss_one (ps_ret (pe_tup (pa_cons pe_str (pa_cons (pe_xf X_KeyLimit N_KeyLimit hz hf (pv 5)) (pa_cons (pe_callQ FQ (rq a) (List.mem_cons_self ..) rfl T.g_law_is_integer kQ bQ (pa_cons (pe_xf X_KeyLimit N_KeyLimit hz hf (pv 5)) pa_nil)) pa_nil)))))) (.more ⟨rfl, by decide, .inl T.g_BadChoice⟩ (i := 5) rfl rfl (fun a oe cls d pn hz hf => pss_one (ps_ret (pe_tup (pa_cons pe_str (pa_cons (pe_xf X_BadChoice N_BadChoice hz hf (pv 5)) (pa_cons (pe_callQ FQ (rq a) (List.mem_cons_self ..) rfl T.g_law_is_integer kQ bQ (pa_cons (pe_xf X_BadChoice N_BadChoice hz hf (pv 5)) pa_nil)) pa_nil)))))) (.more ⟨rfl, by decide, .inl T.g_Stalled⟩ (i := 5) rfl rfl (fun a oe cls d pn hz hf => pss_one (ps_ret (pe_tup (pa_cons pe_str (pa_cons (pe_xf X_Stalled N_Stalled hz hf (pv 5)) (pa_cons (pe_callQ FQ (rq a) (List.mem_cons_self ..) rfl T.g_law_is_integer kQ bQ (pa_cons (pe_xf X_Stalled N_Stalled hz hf (pv 5)) pa_nil)) pa_nil)))))) .done))))
    (pss_cons (ps_if (pt_cmpR op_notN (pv 4) pe_non (nomark _)) (pss_one (ps_ret (pe_tup (pa_cons pe_str (pa_cons pe_int (pa_cons pe_bl pa_nil)))))) pss_nil)
    (pss_one (ps_ret pe_non)))), ?_⟩
  refine r_seq ?_
  refine r_asg (ea_cons (ev_var rfl) (ea_cons (ev_var rfl) (ea_cons (ev_var rfl) (ea_cons (ev_var rfl) ea_nil))) H (Ex.refl _) _ fun H1 e1 => ⟨s, t, c, g, ts, kvs, k, x, lp, picks, rfl, h.ex e1, e1 _ _ hl, hp12, hk, hb, hd, ?_⟩)
  unfold PutTo
  unfold TellPut at q
  generalize putOut t.wide t.bound t.load t.first k picks g = out at q ⊢
  cases out with
  | ok g' =>
    intro H2 s2 ts2 kvs2 h2 es st
    refine r_name ?_
    dsimp only
    refine q_when (b := false) (et_is (et_B (ev_op (ev_var rfl) ev_c rv_notN)) (by rfl)) (fun z => nomatch z) fun _ H3 e3 => ?_
    exact s_ret ev_c fun H4 e4 => q H4 s2 ts2 kvs2 (h2.ex (e3.trans e4)) es (((Stp.ex e1).trans st).trans (Stp.ex (e3.trans e4)))
  | full => exact fun d H2 e2 hd2 => ⟨true, T.e_KeyLimit_KeyLimit, fun _ a ha => r_tell q (e1.trans e2) (ev_xf (ev_var rfl) hd2 rfl) (ev_callS (ea_cons (ev_xf (ev_var rfl) hd2 rfl) ea_nil) spv_isint) rfl, fun z => nomatch z⟩
  | many => exact fun d H2 e2 hd2 => ⟨false, T.e_BadChoice_KeyLimit, (fun z => nomatch z), fun _ => ⟨true, T.e_BadChoice_BadChoice, fun _ a ha => r_tell q (e1.trans e2) (ev_xf (ev_var rfl) hd2 rfl) (ev_callS (ea_cons (ev_xf (ev_var rfl) hd2 rfl) ea_nil) spv_isint) rfl, fun z => nomatch z⟩⟩
  | pick p => exact fun d H2 e2 hd2 => ⟨false, T.e_BadChoice_KeyLimit, (fun z => nomatch z), fun _ => ⟨true, T.e_BadChoice_BadChoice, fun _ a ha => r_tell q (e1.trans e2) (ev_xf (ev_var rfl) hd2 rfl) (ev_callS (ea_cons (ev_xf (ev_var rfl) hd2 rfl) ea_nil) spv_isint) rfl, fun z => nomatch z⟩⟩
  | stall => exact fun d H2 e2 hd2 => ⟨false, T.e_Stalled_KeyLimit, (fun z => nomatch z), fun _ => ⟨false, T.e_Stalled_BadChoice, (fun z => nomatch z), fun _ => ⟨true, T.e_Stalled_Stalled, fun _ a ha => r_tell q (e1.trans e2) (ev_xf (ev_var rfl) hd2 rfl) (ev_callS (ea_cons (ev_xf (ev_var rfl) hd2 rfl) ea_nil) spv_isint) rfl, fun z => nomatch z⟩⟩⟩
def spToldD (K : Kf) : Sp := fun vs H Q E => ∃ s t c g ts kvs k, vs = [.ref s.S, .str k] ∧ StAt K H s t c g ts kvs ∧ GoodK k ∧ TellDrop K H s t c g k Q
theorem sc_f_law_told_drop : FnScope ["_law_store_here", "_law_name", "_law_told", "e"] ["_law_store_here", "_law_name"] (defScope x_f_law_told_drop) := ⟨rfl, rfl, rfl, by decide +kernel, rfl, by decide +kernel, by decide +kernel⟩
theorem ok_told_drop (T : Tx K mg) : Fnc PP w K mg base CX0 4 (fA K "_law_told_drop") ["_law_store_here", "_law_name"] (spToldD K) := by
  refine mk0 T.d_f_law_told_drop sc_f_law_told_drop (by rintro _ H Q E ⟨s, t, c, g, ts, kvs, k, rfl, _⟩; rfl) (by intro kV doc pm an cdv ct us h; match us, h with | [_, _], _ => rfl) ?_
  rintro cdv A outer s0 H _ Q E hr ⟨s, t, c, g, ts, kvs, k, rfl, h, hk, q⟩
  have nd := sc_f_law_told_drop.nd
  obtain ⟨fc, Fc, bc⟩ := (ok_s_delete (w := w) (base := base) T).ex
  obtain ⟨D1, x1, x2, x3, x4, _⟩ := unk_tx w
  have X_UnknownKey := xfc (T.f_UnknownKey x1 x2 x3 x4)
  have N_UnknownKey := (T.f_UnknownKey x1 x2 x3 x4).noF
  refine ⟨_, (pss_cons (ps_tryClauses rfl rfl nd no_takes (fun W pn xe tk _ => pss_one (ps_set (i := 2) nd rfl (by first | exact Or.inl rfl | exact Or.inr rfl) (pe_methW (pv 0) T.cs T.m_s_delete Fc hr bc (fun σ => passAt tk σ) (pa_cons (pv 1) pa_nil))))
      (.more (ts := fun a cls d => tRet (tTup (tCons (tC (.str "UnknownKey")) (tCons (tXf a cls d (He.ga K "UnknownKey") "key" (tVar 3)) (tCons (tCB (rIsi K) (tCons (tXf a cls d (He.ga K "UnknownKey") "key" (tVar 3)) (tCons (tC (.ty "str")) tNil))) tNil))))) ⟨rfl, by decide, .inl T.g_UnknownKey⟩ (i := 3) rfl rfl (fun a oe cls d pn hz hf => pss_one (ps_ret (pe_tup (pa_cons pe_str (pa_cons (pe_xf X_UnknownKey N_UnknownKey hz hf (pv 3)) (pa_cons (pe_callB call_isi (by rfl) T.b_isinstance (by decide +kernel) (pa_cons (pe_xf X_UnknownKey N_UnknownKey hz hf (pv 3)) (pa_cons (pe_bltn (v := .ty "str") (by rfl) T.b_str (by decide +kernel) rfl) pa_nil))) pa_nil)))))) .done))
    (pss_cons (ps_if (pt_cmpR op_notN (pv 2) pe_non (nomark _)) (pss_one (ps_ret (pe_tup (pa_cons pe_str (pa_cons pe_int (pa_cons pe_bl pa_nil)))))) pss_nil)
    (pss_one (ps_ret pe_non)))), ?_⟩
  refine r_seq ?_
  refine r_asg ⟨_, rfl, s.S, s.dx, _, rfl, h.obj, rfl, ?_⟩
  refine ea_cons (ev_var rfl) ea_nil H (Ex.refl _) _ fun H1 e1 => ⟨s, t, c, g, ts, kvs, k, rfl, h.ex e1, hk, ?_⟩
  unfold DelTo
  unfold TellDrop at q
  generalize find k g = out at q ⊢
  cases out with
  | none => exact fun d H2 e2 hd2 => ⟨true, T.e_UnknownKey_UnknownKey, fun _ a ha => r_tell q (e1.trans e2) (ev_xf (ev_var rfl) hd2 rfl) (ev_isi (ea_cons (ev_xf (ev_var rfl) hd2 rfl) (ea_cons ev_c ea_nil)) (.str k) (fun _ _ => .str k) (by decide +kernel)) rfl, fun z => nomatch z⟩
  | some ij =>
    obtain ⟨i, j⟩ := ij
    intro H2 s2 ts2 kvs2 h2 es st
    refine r_name ?_
    dsimp only
    refine q_when (b := false) (et_is (et_B (ev_op (ev_var rfl) ev_c rv_notN)) (by rfl)) (fun z => nomatch z) fun _ H3 e3 => ?_
    exact s_ret ev_c fun H4 e4 => q H4 s2 ts2 kvs2 (h2.ex (e3.trans e4)) es (((Stp.ex e1).trans st).trans (Stp.ex (e3.trans e4)))
end
end CLg
end

section
/-! One turn on both sides. -/
namespace CLg
open PySem PySem.Spec PyProof.Rows L2 Evl
/-- how both stand after a turn, seen from H -/
structure Aft (K : Kf) (H H2 : Hp) (s s2 : Sd) (a a2 : Md) (t : Tm) (c c2 : Ct) (g2 : Lg) (ts2 : List Nat) (kvs2 : List (Key × V)) : Prop where
  st : StAt K H2 s2 t c2 g2 ts2 kvs2
  md : MdAt H2 a2 t c2 g2
  S : s2.S = s.S
  ch : Ch s.own H H2
  so : ∀ b ∈ s2.own, b ∈ s.own ∨ H b = none
  ao : ∀ b ∈ a2.own, b ∈ a.own ∨ H b = none
  dj : Dj s2.own a2.own
  dd : c2.deeds ≤ c.deeds + 1
section
variable {w : World} {K : Kf} {mg : Str → Option Value} {base : Heap}
def spTurn (K : Kf) : Sp := fun vs H Q _ => ∃ (s : Sd) (t : Tm) (c : Ct) (g : Lg) (ts : List Nat) (kvs : List (Key × V)) (a : Md) (kind : Int) (k : Str) (x : V) (lp : Addr) (picks : List Nat), vs = [.ref s.S, .ref a.M, .int kind, .str k, x, .ref lp] ∧ StAt K H s t c g ts kvs ∧ MdAt H a t c g ∧ Dj s.own a.own ∧ H lp = some (.lst (vns picks)) ∧ lp ∉ s.own ∧ picks.length ≤ 12 ∧ GoodK k ∧ (1 ≤ t.bound ∧ t.bound ≤ 1000) ∧ c.deeds ≤ 1000 ∧
  ∀ H2 s2 a2 c2 g2 ts2 kvs2, Aft K H H2 s s2 a a2 t c c2 g2 ts2 kvs2 → Q (.ref a2.M) H2
theorem good_ok {k : Str} (h : GoodK k) : PyData.strOk k = true := by
  have hs : ∀ c ∈ signs.cps.toList, c < 128 := by decide +kernel
  have hc : ∀ c ∈ k.cps.toList, c < 128 := fun c hc => hs c (h.ch c hc)
  unfold PyData.strOk
  rw [← Array.all_toList, List.all_eq_true]
  intro c m
  exact decide_eq_true (Nat.lt_trans (hc c m) (by decide))
theorem shp_int {s : Str} (i : Int) (h : PyData.strOk s = true) : SeqAt.shaped (.tuple [.str s, .int i, .bool true]) = true := by
  unfold SeqAt.shaped
  simp [PyData.canLay0, PyData.canLayAll0, PyData.depth, PyData.depthAll, h]
theorem shp_str {s k : Str} (h : PyData.strOk s = true) (h2 : PyData.strOk k = true) : SeqAt.shaped (.tuple [.str s, .str k, .bool true]) = true := by
  unfold SeqAt.shaped
  simp [PyData.canLay0, PyData.canLayAll0, PyData.depth, PyData.depthAll, h, h2]
theorem dp_told {H : Hp} {p : Addr} {s : Str} {v : V} {d : PyData} (h : H p = some (.tup [.str s, v, .bl true])) (hv : Dp K H v d) : Dp K H (.ref p) (.tuple [.str s, d, .bool true]) := .tup (SqT.of h) (.cons (.str s) (.cons hv (.cons (.bl true) .nil)))
theorem sc_f_law_turn : FnScope ["_law_store_here", "_law_model_here", "_law_kind", "_law_name", "_law_worth", "_law_picks_here", "_law_probe", "_law_due", "_law_told"] ["_law_store_here", "_law_model_here", "_law_kind", "_law_name", "_law_worth", "_law_picks_here"] (defScope x_f_law_turn) := ⟨rfl, rfl, rfl, by decide +kernel, rfl, by decide +kernel, by decide +kernel⟩
theorem ok_turn_fn (T : Tx K mg) : Fnc PP w K mg base CX0 9 (fA K "_law_turn") ["_law_store_here", "_law_model_here", "_law_kind", "_law_name", "_law_worth", "_law_picks_here"] (spTurn K) := by
  refine mk0 T.d_f_law_turn sc_f_law_turn (by rintro _ H Q E ⟨s, t, c, g, ts, kvs, a, kind, k, x, lp, picks, rfl, _⟩; rfl) (by intro kV doc pm an cdv ct us h; match us, h with | [_, _, _, _, _, _], _ => rfl) ?_
  rintro cdv A outer s0 H _ Q E hr ⟨s, t, c, g, ts, kvs, a, kind, k, x, lp, picks, rfl, h, m, dj, hlp, nls, hp12, hk, hb, hd, q⟩
  have nd := sc_f_law_turn.nd
  refine ⟨_, (pss_cons (ps_set (i := 6) nd rfl (by first | exact Or.inl rfl | exact Or.inr rfl) (pe_f (ok_mcopy T) T.g_law_copy (hr.mono (by decide)) pass0 (pa_cons (pv 1) pa_nil)))
    (pss_cut (ps_if (pt_cmpR op_eq (pv 2) pe_int (nomark _)) (pss_cons (ps_set (i := 7) nd rfl (by first | exact Or.inl rfl | exact Or.inr rfl) (pe_f (ok_mdrop T) T.g_law_drop (hr.mono (by decide)) pass0 (pa_cons (pv 6) (pa_cons (pv 3) pa_nil))))
      (pss_one (ps_set (i := 8) nd rfl (by first | exact Or.inl rfl | exact Or.inr rfl) (pe_f (ok_told_drop T) T.g_law_told_drop (hr.mono (by decide)) pass0 (pa_cons (pv 0) (pa_cons (pv 3) pa_nil)))))) (pss_cons (ps_set (i := 7) nd rfl (by first | exact Or.inl rfl | exact Or.inr rfl) (pe_f (ok_mput T) T.g_law_put (hr.mono (by decide)) pass0 (pa_cons (pv 6) (pa_cons (pv 3) (pa_cons (pv 4) (pa_cons (pv 5) pa_nil))))))
      (pss_one (ps_set (i := 8) nd rfl (by first | exact Or.inl rfl | exact Or.inr rfl) (pe_f (ok_told_put T) T.g_law_told_put hr pass0 (pa_cons (pv 0) (pa_cons (pv 3) (pa_cons (pv 4) (pa_cons (pv 5) pa_nil)))))))))
    (pss_cons (ps_if (pt_cmpR (op_neD hr.units) (pv 8) (pv 7) (nomark _)) (pss_one (ps_ret pe_non)) pss_nil)
    (pss_cons (ps_if (pt_cmpR op_notN (pv 7) pe_non (nomark _)) (pss_one (ps_ret (pv 1))) pss_nil)
    (pss_one (ps_ret (pv 6))))))), ?_⟩
  refine q_asgK (r_call (ea_cons (ev_var rfl) ea_nil H (Ex.refl _) _ fun H1 e1 => ⟨a, t, c, g, rfl, m.ex e1, fun H2 p hp e2 fr2 => ?_⟩))
  have e02 := e1.trans e2
  have frp : Fr H p.own := fun y my => (e1.ch []).free (fr2 y my)
  have nlp : lp ∉ p.own := fun z => by rw [frp lp z] at hlp; cases hlp
  have h2 := h.ex e02
  have l2 := e02 _ _ hlp
  -- refusal: from the told of the probe at H', the store as it was
  have refu : ∀ {Hs : Hp}, Ch p.own H2 Hs → Ex H Hs := fun cc y u e => cc.at (e02 y u e) fun my => by rw [frp y my] at e; cases e
  let M : L2.St → Hp → Prop := fun σ' H' => ∃ due told, σ' = [some (.ref s.S), some (.ref a.M), some (.int kind), some (.str k), some x, some (.ref lp), some (.ref p.M), some due, some told] ∧
    ((∃ p1 p2 str v d, due = .ref p1 ∧ told = .ref p2 ∧ H' p1 = some (.tup [.str str, v, .bl true]) ∧ H' p2 = some (.tup [.str str, v, .bl true]) ∧ Dp K H' v d ∧ SeqAt.shaped (.tuple [.str str, d, .bool true]) = true ∧ Ex H H') ∨
     (due = .non ∧ told = .non ∧ ∃ s2 p2 c2 g2 ts2 kvs2, p2.M = p.M ∧ Aft K H H' s s2 a p2 t c c2 g2 ts2 kvs2))
  have both : ∀ {H5 H6 : Hp} {p2 : Md} {s2 : Sd} {c2 : Ct} {g2 : Lg} {ts2 : List Nat} {kvs2 : List (Key × V)}, MdAt H5 p2 t c2 g2 → p2.M = p.M → Stp p.own H2 p2.own H5 → StAt K H6 s2 t c2 g2 ts2 kvs2 → s2.S = s.S → Stp s.own H5 s2.own H6 → c2.deeds ≤ c.deeds + 1 → Aft K H H6 s s2 a p2 t c c2 g2 ts2 kvs2 := by
    intro H5 H6 p2 s2 c2 g2 ts2 kvs2 hp5 em st5 h6 es st6 dd
    have z := stp_fr frp (e02.ch []) st5
    have d1 : Dj p2.own s.own := (z.2.dj h.tr).symm
    have d2 : Dj p2.own s2.own := d1.step hp5.tr st6
    exact ⟨h6, hp5.step st6.ch d1, es, (z.1.mono fun y my => (by cases my)).trans st6.ch, fun y my => (st6.own y my).imp id fun e => (z.1).free e, fun y my => .inr (z.2 y my), d2.symm, dd⟩
  refine q_cut (M := M) ?_ ?_
  · refine s_if (et_B (ev_op (ev_var rfl) ev_c (rv_eq rfl))) ?_ ?_
    · intro _ H3 e3
      have st3 : Stp p.own H2 p.own H3 := Stp.ex e3
      refine q_asgK (r_call (ea_cons (ev_var rfl) (ea_cons (ev_var rfl) ea_nil) H3 (Ex.refl _) _ fun H4 e4 => ⟨p, t, c, g, k, rfl, (hp.ex e3).ex e4, ?_⟩))
      unfold MDropTo
      cases hf : find k g with
      | none =>
        intro p1 H5 h5 hn5 c5
        have ee : Ex H H5 := refu ((((e3.trans e4).ch _)).trans c5)
        refine s_asgK (r_call (ea_cons (ev_var rfl) (ea_cons (ev_var rfl) ea_nil) H5 (Ex.refl _) _ fun H6 e6 => ⟨s, t, c, g, ts, kvs, k, rfl, (h.ex ee).ex e6, hk, ?_⟩))
        unfold TellDrop
        rw [hf]
        exact fun p2 H7 h7 e7 => ⟨_, _, rfl, .inl ⟨p1, p2, _, _, _, rfl, rfl, (e6.trans e7) _ _ h5, h7, .str k, shp_str (by decide +kernel) (good_ok hk), ee.trans (e6.trans e7)⟩⟩
      | some ij =>
        obtain ⟨i, j⟩ := ij
        intro H5 p5 h5 em st
        have st5 := (Stp.ex (o := p.own) (e3.trans e4)).trans st
        have z := stp_fr frp (e02.ch []) st5
        have h5' : StAt K H5 s t c g ts kvs := h.step z.1 fun y my w => by cases w
        refine s_asgK (r_call (ea_cons (ev_var rfl) (ea_cons (ev_var rfl) ea_nil) H5 (Ex.refl _) _ fun H6 e6 => ⟨s, t, c, g, ts, kvs, k, rfl, h5'.ex e6, hk, ?_⟩))
        unfold TellDrop
        rw [hf]
        exact fun H7 s7 ts7 kvs7 h7 es st7 => ⟨_, _, rfl, .inr ⟨rfl, rfl, s7, p5, c, _, ts7, kvs7, em, both h5 em st5 h7 es ((Stp.ex e6).trans st7) (by omega)⟩⟩
    · intro _ H3 e3
      refine q_asgK (r_call (ea_cons (ev_var rfl) (ea_cons (ev_var rfl) (ea_cons (ev_var rfl) (ea_cons (ev_var rfl) ea_nil))) H3 (Ex.refl _) _ fun H4 e4 => ⟨p, t, c, g, k, x, lp, picks, rfl, (hp.ex e3).ex e4, (e3.trans e4) _ _ l2, nlp, ?_⟩))
      have no : ∀ (str : Str) (v : V) (d : PyData), (∀ H', Dp K H' v d) → SeqAt.shaped (.tuple [.str str, d, .bool true]) = true → (∀ H6 (Q' : VK), Tell H6 Q' str v → TellPut K H6 s t c g k picks Q') → Told p.own H4 (fun y H5 => tAsg (tCall (spTold K) [] E0 (tCons (tVar 0) (tCons (tVar 3) (tCons (tVar 4) (tCons (tVar 5) tNil))))) (gName 8) { nx := M, rt := Q } [some (.ref s.S), some (.ref a.M), some (.int kind), some (.str k), some x, some (.ref lp), some (.ref p.M), some y, none] H5) str v := by
        intro str v d hdp hsh htell p1 H5 h5 hn5 c5
        have ee : Ex H H5 := refu ((((e3.trans e4).ch _)).trans c5)
        refine s_asgK (r_call (ea_cons (ev_var rfl) (ea_cons (ev_var rfl) (ea_cons (ev_var rfl) (ea_cons (ev_var rfl) ea_nil))) H5 (Ex.refl _) _ fun H6 e6 => ⟨s, t, c, g, ts, kvs, k, x, lp, picks, rfl, (h.ex ee).ex e6, (ee.trans e6) _ _ hlp, hp12, hk, hb, hd, htell _ _ ?_⟩))
        exact fun p2 H7 h7 e7 => ⟨_, _, rfl, .inl ⟨p1, p2, str, v, d, rfl, rfl, (e6.trans e7) _ _ h5, h7, hdp _, hsh, ee.trans (e6.trans e7)⟩⟩
      unfold MPutTo
      cases ho : putOut t.wide t.bound t.load t.first k picks g with
      | ok g' =>
        intro H5 p5 h5 em st
        have st5 := (Stp.ex (o := p.own) (e3.trans e4)).trans st
        have z := stp_fr frp (e02.ch []) st5
        have h5' : StAt K H5 s t c g ts kvs := h.step z.1 fun y my w => by cases w
        have l5 : H5 lp = some (.lst (vns picks)) := z.1.at hlp (by simp)
        refine s_asgK (r_call (ea_cons (ev_var rfl) (ea_cons (ev_var rfl) (ea_cons (ev_var rfl) (ea_cons (ev_var rfl) ea_nil))) H5 (Ex.refl _) _ fun H6 e6 => ⟨s, t, c, g, ts, kvs, k, x, lp, picks, rfl, h5'.ex e6, e6 _ _ l5, hp12, hk, hb, hd, ?_⟩))
        unfold TellPut
        rw [ho]
        exact fun H7 s7 ts7 kvs7 h7 es st7 => ⟨_, _, rfl, .inr ⟨rfl, rfl, s7, p5, _, _, ts7, kvs7, em, both h5 em st5 h7 es ((Stp.ex e6).trans st7) (Nat.le_refl _)⟩⟩
      | full => exact no _ _ (.int t.bound) (fun _ => .int _) (shp_int _ (by decide +kernel)) fun H6 Q' tl => by unfold TellPut; rw [ho]; exact tl
      | many => exact no _ _ (.int _) (fun _ => .int _) (shp_int _ (by decide +kernel)) fun H6 Q' tl => by unfold TellPut; rw [ho]; exact tl
      | pick b => exact no _ _ (.int _) (fun _ => .int _) (shp_int _ (by decide +kernel)) fun H6 Q' tl => by unfold TellPut; rw [ho]; exact tl
      | stall => exact no _ _ (.int _) (fun _ => .int _) (shp_int _ (by decide +kernel)) fun H6 Q' tl => by unfold TellPut; rw [ho]; exact tl
  rintro σ3 H3 ⟨due, told, rfl, hcase⟩
  rcases hcase with ⟨p1, p2, str, v, d, rfl, rfl, h1, h2', hdp, hsh, ee⟩ | ⟨rfl, rfl, s2, p2, c2, g2, ts2, kvs2, em, af⟩
  · refine r_seq (r_ifS (r_test (r_op (r_var rfl (r_var rfl ⟨_, _, dp_told h2' hdp, dp_told h1 hdp, hsh, hsh, _, rfl, ?_⟩)))))
    rw [SeqAt.eqv_refl _ (SeqAt.canLay_of_shaped hsh)]
    refine iteF (r_next ?_)
    dsimp only
    refine r_seq (r_ifS (r_test (r_op (r_var rfl ⟨rfl, _, rfl, ?_⟩))))
    refine iteT (r_ret (r_var rfl (q H3 s a c g ts kvs ⟨h.ex ee, m.ex ee, rfl, ee.ch _, fun y my => .inl my, fun y my => .inl my, dj, by omega⟩)))
  · refine r_seq (r_ifS (r_test (r_op (r_var rfl (r_var rfl ⟨_, _, .non, .non, rfl, rfl, _, rfl, ?_⟩)))))
    refine iteF (r_next ?_)
    dsimp only
    refine r_seq (r_ifS (r_test (r_op (r_var rfl ⟨rfl, _, rfl, ?_⟩))))
    refine iteF (r_next ?_)
    dsimp only
    rw [← em]
    exact r_ret (r_var rfl (q H3 s2 p2 c2 g2 ts2 kvs2 af))
end
end CLg
end

section
/-! The store as the law makes it. -/
namespace CLg
open PySem PySem.Spec PyProof.Rows L2 Evl
section
variable {w : World} {K : Kf} {mg : Str → Option Value} {base : Heap}
def spStore (K : Kf) : Sp := fun vs H Q _ => ∃ (b : Bx) (N : Nat) (tp : Addr) (n : Nat) (t : Tm), vs = [.ref b.B, .ref tp, .bl t.first] ∧ BoxAt H b N ∧ N ≤ 900000 ∧ H tp = some (.tup [.int (n : Int), .int (t.wide : Int), .int t.bound, .int (t.load : Int)]) ∧ 1 ≤ n ∧ n ≤ 8 ∧ 1 ≤ t.wide ∧ t.wide ≤ 8 ∧ 1 ≤ t.bound ∧
  ∀ H2 s ts, BoxAt H2 b (N + 1) → StAt K H2 s t ⟨0, 0, 0⟩ (Lg0 n) ts [] → Ch b.own H H2 → Fr H s.own → Q (.ref s.S) H2
theorem sc_f_law_store : FnScope ["_law_box_here", "_law_terms_here", "_law_first"] ["_law_box_here", "_law_terms_here", "_law_first"] (defScope x_f_law_store) := ⟨rfl, rfl, rfl, by decide +kernel, rfl, by decide +kernel, by decide +kernel⟩
theorem init_kb {fd : FuncData} (F : FunD K "__init__" "Segments.__init__" (defArgs x_s_init) (defBody x_s_init) (defScope x_s_init) [] [("late", .bl false)] (mS K "__init__") fd) : ∃ mv : List Value, KBn K fd ["self", "segments", "size", "limit", "budget", "late"] 5 ["late"] (fun us ws => us ++ ws) (fun vs zs => vs ++ zs) :=
  F.kbinds0 5 ["late"] [] (fun us _ ws => us ++ ws) (by simp) (fun q hq => by cases hq) (fun r1 _ r3 => r1.append r3) (by
    intro D doc pm an cdv ct us mv ws h1 h2 h3
    match us, mv, ws, h1, h2, h3 with
    | [_, _, _, _, _], [], [_], _, _, _ => exact rfl)
theorem init_b {fd : FuncData} (F : FunD K "__init__" "Segments.__init__" (defArgs x_s_init) (defBody x_s_init) (defScope x_s_init) [] [("late", .bl false)] (mS K "__init__") fd) : ∃ ds, Vals [.bl false] ds ∧ Binds K fd ["self", "segments", "size", "limit", "budget", "late"] ds :=
  F.binds0 5 (by simp) rfl (by
    intro D doc pm an cdv ct us ks h1 h2
    match us, ks, h1, h2 with
    | [_, _, _, _, _], [_], _, _ => exact ⟨_, _, _, _, _, _, rfl, rfl, rfl⟩)
theorem ok_store (T : Tx K mg) : Fnc PP w K mg base CX0 5 (fA K "_law_store") ["_law_box_here", "_law_terms_here", "_law_first"] (spStore K) := by
  refine mk0 T.d_f_law_store sc_f_law_store (by rintro _ H Q E ⟨b, N, tp, n, t, rfl, _⟩; rfl) (by intro kV doc pm an cdv ct us h; match us, h with | [_, _, _], _ => rfl) ?_
  rintro cdv A outer s0 H _ Q E hr ⟨b, N, tp, n, t, rfl, hB, hN, htp, n1, n8, w1, w8, b1, q⟩
  obtain ⟨fd, F, G⟩ := s_init_fn (w := w) (base := base) T
  obtain ⟨mv, kb⟩ := init_kb F
  obtain ⟨ds, rd, bd⟩ := init_b F
  refine ⟨_, (pss_cons (ps_if (pt_val (pv 2)) (pss_one (ps_ret (pe_makeK (n := 4) T.mks G (hr.mono (by decide)) rfl T.g_Segments kb pass0 (pa_cons (pe_ix ix_tup (pv 1) pe_int (fun _ _ => rfl)) (pa_cons (pe_ix ix_tup (pv 1) pe_int (fun _ _ => rfl)) (pa_cons (pe_ix ix_tup (pv 1) pe_int (fun _ _ => rfl)) (pa_cons (pe_ix ix_tup (pv 1) pe_int (fun _ _ => rfl)) pa_nil)))) (pk_cons pe_bl pk_nil)))) pss_nil)
    (pss_cons (ps_if (pt_cmpR op_eq (pe_f (ok_draw T) T.g_law_draw (hr.mono (by decide)) pass0 (pa_cons (pv 0) (pa_cons pe_int pa_nil))) pe_int (nomark _)) (pss_one (ps_ret (pe_makeK (n := 4) T.mks G (hr.mono (by decide)) rfl T.g_Segments kb pass0 (pa_cons (pe_ix ix_tup (pv 1) pe_int (fun _ _ => rfl)) (pa_cons (pe_ix ix_tup (pv 1) pe_int (fun _ _ => rfl)) (pa_cons (pe_ix ix_tup (pv 1) pe_int (fun _ _ => rfl)) (pa_cons (pe_ix ix_tup (pv 1) pe_int (fun _ _ => rfl)) pa_nil)))) (pk_cons pe_bl pk_nil)))) pss_nil)
    (pss_one (ps_ret (pe_make T.mks G (hr.mono (by decide)) rfl T.g_Segments bd rd pass0 (pa_cons (pe_ix ix_tup (pv 1) pe_int (fun _ _ => rfl)) (pa_cons (pe_ix ix_tup (pv 1) pe_int (fun _ _ => rfl)) (pa_cons (pe_ix ix_tup (pv 1) pe_int (fun _ _ => rfl)) (pa_cons (pe_ix ix_tup (pv 1) pe_int (fun _ _ => rfl)) pa_nil))))))))), ?_⟩
  have ea : ∀ {H' : Hp} {σ : L2.St}, H' tp = some (.tup [.int (n : Int), .int (t.wide : Int), .int t.bound, .int (t.load : Int)]) → σ[1]? = some (some (.ref tp)) → EvA (tCons (tOp (rIxT K) (tVar 1) (tC (.int 0))) (tCons (tOp (rIxT K) (tVar 1) (tC (.int 1))) (tCons (tOp (rIxT K) (tVar 1) (tC (.int 2))) (tCons (tOp (rIxT K) (tVar 1) (tC (.int 3))) tNil)))) σ H' [.int (n : Int), .int (t.wide : Int), .int t.bound, .int (t.load : Int)] := fun hh hs =>
    ea_cons (ev_op (ev_var hs) ev_c (rv_ixT (SqT.of hh) (atI_nat (j := 0) rfl))) (ea_cons (ev_op (ev_var hs) ev_c (rv_ixT (SqT.of hh) (atI_nat (j := 1) rfl))) (ea_cons (ev_op (ev_var hs) ev_c (rv_ixT (SqT.of hh) (atI_nat (j := 2) rfl))) (ea_cons (ev_op (ev_var hs) ev_c (rv_ixT (SqT.of hh) (atI_nat (j := 3) rfl))) ea_nil)))
  have made : ∀ {H1 : Hp}, BoxAt H1 b (N + 1) → Ch b.own H H1 → ∀ x dx, H1 x = none → H1 dx = none → dx ≠ x → spSInit K [.ref x, .int (n : Int), .int (t.wide : Int), .int t.bound, .int (t.load : Int), .bl t.first] (upd (upd H1 dx (.own x)) x (.ins (cS K) dx [])) (fun v H3 => v = .non ∧ Q (.ref x) H3) E0 := by
    intro H1 hb c1 x dx hx hdx ndx
    have ex0 : Ex H1 (upd (upd H1 dx (.own x)) x (.ins (cS K) dx [])) := (Ex.new hdx).trans (Ex.new (by rw [upd_ne ndx.symm]; exact hx))
    refine ⟨x, dx, n, t, rfl, upd_same, n1, n8, w1, w8, b1, fun H2 s ts h2 es st => ⟨rfl, ?_⟩⟩
    have c2 : Ch [x] H1 H2 := (ex0.ch _).trans st.ch
    have e2 : Ex H1 H2 := c2.exNew fun y m => by rw [List.mem_singleton.1 m]; exact hx
    rw [← es]
    exact q H2 s ts (hb.ex e2) h2 (c1.trans (e2.ch _)) fun y m => c1.free ((st.own y m).elim (fun z => by rw [List.mem_singleton.1 z]; exact hx) fun z => (ex0.ch []).free z)
  have rk : ∀ {v : Bool} {ta : TA} {H' : Hp} {D : Ends}, D.rt = Q → v = t.first → BoxAt H' b (N + 1) → Ch b.own H H' → EvA ta [some (.ref b.B), some (.ref tp), some (.bl t.first)] H' [.int (n : Int), .int (t.wide : Int), .int t.bound, .int (t.load : Int)] →
      tRet (tMakeK (cS K) 4 1 (spSInit K) (fun vs zs => vs ++ zs) E0 ta (tCons (tC (.bl v)) tNil)) D [some (.ref b.B), some (.ref tp), some (.bl t.first)] H' := by
    intro v ta H' D hD hv hb cc ha
    subst hv
    refine r_ret (ha H' (Ex.refl _) _ fun H1 e1 => ?_)
    refine ⟨rfl, rfl, ?_⟩
    rw [hD]
    exact made (hb.ex e1) (cc.trans (e1.ch _))
  refine q_when (et_B (ev_var rfl)) ?_ ?_
  · intro hf H1 e1
    exact rk rfl hf.symm ((hB.ex e1).mono (by omega)) (e1.ch _) (ea (e1 _ _ htp) rfl)
  · intro hf H1 e1
    refine r_seq (r_ifS (r_test (r_op (r_draw (ev_var rfl) ev_c (hB.ex e1) (by omega) (by decide) (by decide) fun H2 r hB2 c2 hr2 => ⟨rfl, _, rfl, iteD (fun _ => ?_) fun _ => ?_⟩))))
    · exact rk rfl hf.symm hB2 ((e1.ch _).trans c2) (ea (c2.tup (e1 _ _ htp)) rfl)
    · refine r_next ?_
      dsimp only
      refine r_ret (ea (c2.tup (e1 _ _ htp)) rfl H2 (Ex.refl _) _ fun H3 e3 => ?_)
      have z := made (hB2.ex e3) (((e1.ch _).trans c2).trans (e3.ch _))
      rw [hf] at z
      exact z
end
end CLg
end

section
/-! What stands over the law's own loop. -/
namespace CLg
open PySem PySem.Spec PyProof.Rows L2 Evl
def own3 (b : Bx) (s : Sd) (a : Md) : List Addr := b.own ++ (s.own ++ a.own)
structure Inv (K : Kf) (H : Hp) (b : Bx) (N : Nat) (s : Sd) (t : Tm) (c : Ct) (g : Lg) (ts : List Nat) (kvs : List (Key × V)) (a : Md) : Prop where
  bx : BoxAt H b N
  st : StAt K H s t c g ts kvs
  md : MdAt H a t c g
  sa : Dj s.own a.own
  sb : Dj s.own b.own
  ab : Dj a.own b.own
structure Nm (H : Hp) (X : List Addr) (np : Addr) (ks : List Str) : Prop where
  at_ : H np = some (.lst (ks.map V.str))
  out : np ∉ X
structure Kp (H : Hp) (X : List Addr) (kp sh li hu : Addr) (as bs : List Addr) (rows : List (List (Option Str))) (sl : List Int) : Prop where
  k : Rows false H kp as rows
  s : Rows false H sh bs rows
  n8 : rows.length ≤ 8
  w8 : ∀ x ∈ rows, x.length ≤ 8
  l : H li = some (.lst (sl.map V.int))
  h : H hu = some (.lst (sl.map V.int))
  sz : sl.length ≤ 1000
  dk : Dj (kp :: as) X
  ds : Dj (sh :: bs) X
  dl : li ∉ X
  dh : hu ∉ X
section
variable {w : World} {K : Kf} {mg : Str → Option Value} {base : Heap}
variable {H H2 : Hp} {b : Bx} {N N2 : Nat} {s s2 : Sd} {t : Tm} {c c2 : Ct} {g g2 : Lg} {ts ts2 : List Nat} {kvs kvs2 : List (Key × V)} {a a2 : Md} {X X2 : List Addr} {np kp sh li hu p : Addr} {ks : List Str} {as bs : List Addr} {rows : List (List (Option Str))} {sl : List Int}
theorem Inv.tr (h : Inv K H b N s t c g ts kvs a) : Tr (own3 b s a) H := h.bx.tr.app (h.st.tr.app h.md.tr)
theorem Inv.box (h : Inv K H b N s t c g ts kvs a) (hb : BoxAt H2 b N2) (k : Ch b.own H H2) : Inv K H2 b N2 s t c g ts kvs a ∧ Stp (own3 b s a) H (own3 b s a) H2 :=
  ⟨⟨hb, h.st.step k h.sb, h.md.step k h.ab, h.sa, h.sb, h.ab⟩, ⟨k.mono fun x m => .inl (List.mem_append_left _ m), fun x m => .inl m⟩⟩
theorem Inv.ex (h : Inv K H b N s t c g ts kvs a) (e : Ex H H2) : Inv K H2 b N s t c g ts kvs a := (h.box (h.bx.ex e) (e.ch _)).1
theorem Inv.turn (h : Inv K H b N s t c g ts kvs a) (f : Aft K H H2 s s2 a a2 t c c2 g2 ts2 kvs2) : Inv K H2 b N s2 t c2 g2 ts2 kvs2 a2 ∧ Stp (own3 b s a) H (own3 b s2 a2) H2 := by
  have bs : Dj b.own s.own := h.sb.symm
  refine ⟨⟨h.bx.step f.ch bs, f.st, f.md, f.dj, fun x m n => (f.so x m).elim (fun z => h.sb x z n) (fun z => h.bx.tr x n z), fun x m n => (f.ao x m).elim (fun z => h.ab x z n) (fun z => h.bx.tr x n z)⟩, ⟨f.ch.mono fun x m => .inl (List.mem_append_right _ (List.mem_append_left _ m)), fun x m => ?_⟩⟩
  rcases List.mem_append.1 m with m | m
  · exact .inl (List.mem_append_left _ m)
  · rcases List.mem_append.1 m with m | m
    · exact (f.so x m).imp (fun z => List.mem_append_right _ (List.mem_append_left _ z)) id
    · exact (f.ao x m).imp (fun z => List.mem_append_right _ (List.mem_append_right _ z)) id
theorem out_stp {u : HO} (e : H p = some u) (n : p ∉ X) (z : Stp X H X2 H2) : H2 p = some u ∧ p ∉ X2 :=
  ⟨z.ch.at e n, fun m => (z.own p m).elim n fun y => (by rw [e] at y; cases y)⟩
theorem Nm.stp (h : Nm H X np ks) (z : Stp X H X2 H2) : Nm H2 X2 np ks := ⟨(out_stp h.at_ h.out z).1, (out_stp h.at_ h.out z).2⟩
theorem Nm.ex (h : Nm H X np ks) (e : Ex H H2) : Nm H2 X np ks := ⟨e _ _ h.at_, h.out⟩
theorem Kp.stp (h : Kp H X kp sh li hu as bs rows sl) (z : Stp X H X2 H2) : Kp H2 X2 kp sh li hu as bs rows sl :=
  ⟨h.k.step z.ch h.dk, h.s.step z.ch h.ds, h.n8, h.w8, (out_stp h.l h.dl z).1, (out_stp h.h h.dh z).1, h.sz, h.dk.step h.k.tr z, h.ds.step h.s.tr z, (out_stp h.l h.dl z).2, (out_stp h.h h.dh z).2⟩
theorem Kp.ex (h : Kp H X kp sh li hu as bs rows sl) (e : Ex H H2) : Kp H2 X kp sh li hu as bs rows sl := h.stp ⟨e.ch _, fun x m => .inl m⟩
def Fr1 (g0 : TG) (tu : TS) (D : Ends) (σ : L2.St) (vs : List V) (H1 : Hp) : Prop := ∃ j : Int, vs = [.int j] ∧ -(2 ^ 62) ≤ j ∧ j < 2 ^ 62 ∧ ∃ W : Nat → Nat → L2.St → Hp → Prop, (∃ m, W 0 m σ H1) ∧ ∀ i m σ H, W i m σ H →
  ((Itr 0 j.toNat).stop i H ∧ D.nx σ H) ∨ ((Itr 0 j.toNat).go i H ∧ ∃ N : L2.St → Hp → Prop, (∀ σ' H', N σ' H' → ∃ m', m' < m ∧ W (i + 1) m' σ' H') ∧ ∀ x H', (Itr 0 j.toNat).yld i H x H' → g0 x σ H' fun σ2 H2 => tu { D with nx := N, ct := N, bk := D.nx } σ2 H2)
theorem q_forF {ta : TA} {j : Nat} {tu tz : TS} {D : Ends} {σ : L2.St} {H : Hp} (h : ta σ H fun vs H1 => Fr1 (gName j) tu { D with nx := tz D } σ vs H1) : tSeq (tFor (iRng1 ta) (gName j) tu) tz D σ H := h
theorem fr1_mk {j : Nat} {n : Int} {tu : TS} {D : Ends} {σ : L2.St} {H1 : Hp} (hn : 0 ≤ n ∧ n ≤ 100000) (Pv : Nat → L2.St → Hp → Prop) (h0 : Pv 0 σ H1)
    (hs : ∀ (i : Nat) σ' H', (i : Int) < n → Pv i σ' H' → tu { D with nx := Pv (i + 1), ct := Pv (i + 1), bk := D.nx } (σ'.set j (some (.int (i : Int)))) H') (hd : ∀ σ' H', Pv n.toNat σ' H' → D.nx σ' H') : Fr1 (gName j) tu D σ [.int n] H1 := by
  refine ⟨n, rfl, by omega, by omega, for_range (lo := 0) (n := n.toNat) Pv h0 (fun i σ' H' hi p => ?_) hd⟩
  have z := hs i σ' H' (by omega) p
  rw [← Int.zero_add (i : Int)] at z
  exact z
end
end CLg
end

section
/-! The law itself. -/
namespace CLg
open PySem PySem.Spec PyProof.Rows L2 Evl
section
variable {w : World} {K : Kf} {mg : Str → Option Value} {base : Heap}
def spLaw (K : Kf) : Sp := fun vs H Q _ => ∃ (a : Addr) (ns : List Int), vs = [.ref a] ∧ SqL K H a (ns.map V.int) ∧ ∀ H2, Q (.bl true) H2
theorem shut_Lg0 {n : Nat} (h1 : 1 ≤ n) (h2 : n ≤ 8) : shut (Lg0 n) = [] := by
  rcases (by omega : n = 1 ∨ n = 2 ∨ n = 3 ∨ n = 4 ∨ n = 5 ∨ n = 6 ∨ n = 7 ∨ n = 8) with rfl | rfl | rfl | rfl | rfl | rfl | rfl | rfl <;> decide +kernel
theorem sc_f_law : FnScope ["_law_script", "_law_box_here", "_law_terms_here", "_law_first", "_law_names_here", "_law_mood", "_law_store_here", "_law_model_here", "_law_kept", "_law_shown_here", "_law_listed", "_law_shut_here", "_law_fill", "_law_name", "_law_k", "_law_kind", "_law_picks_here", "_law_asked"] ["_law_script"] (defScope x_f_law) := ⟨rfl, rfl, rfl, by decide +kernel, rfl, by decide +kernel, by decide +kernel⟩
theorem mk1 {P : Program} {x qual : Str} {st : Stmt} {f : Addr} {N ps : List Str} {k : Nat} {sp : Sp} {fd : FuncData} (F : FunD K x qual (defArgs st) (defBody st) (defScope st) [] [] f fd) (S : FnScope N ps (defScope st))
    (len : ∀ vs H Q E, sp vs H Q E → vs.length = ps.length)
    (body : ∀ (cdv : Value) (A : Around) (outer : List Env) (s : Shared) (H : Hp) (vs : List V) (Q : VK) (E : XK), Room k (A.deeper (envOfC qual (defScope st) s.heap.objs.size f cdv)) → sp vs H Q E →
      ∃ t, PSs (cxOf CX0 P w K mg base N qual (defScope st) f cdv A outer s H E).nox (defBody st) t ∧ t { nx := fun _ H' => Q .non H', rt := Q } (start N vs) H) : FnOk P w K mg base CX0 (k + 1) f fd ps sp := by
  refine F.ok S len fun cdv A outer s H vs Q E hr h => ?_
  obtain ⟨t, h1, h2⟩ := body cdv A outer s H vs Q E hr h
  exact ⟨t, h1.nox, h2⟩
theorem ok_law (T : Tx K mg) {fd : FuncData} (F : FunD K "law" "law" (defArgs x_f_law) (defBody x_f_law) (defScope x_f_law) [] [] (He.ga K "law") fd) : FnOk PP w K mg base CX0 10 (fA K "law") fd ["_law_script"] (spLaw K) := by
  refine mk1 F sc_f_law (by rintro _ H Q E ⟨a, ns, rfl, _⟩; rfl) ?_
  rintro cdv A outer s0 H0 _ Q E hr ⟨sc, ns, rfl, hsc, q⟩
  have nd := sc_f_law.nd
  have hu := hu_of hr
  refine ⟨_, (pss_cons (ps_set (i := 1) nd rfl (by first | exact Or.inl rfl | exact Or.inr rfl) (pe_f (ok_box T) T.g_law_box (hr.mono (by decide)) pass0 (pa_cons (pv 0) pa_nil)))
    (pss_cons (ps_set (i := 2) nd rfl (by first | exact Or.inl rfl | exact Or.inr rfl) (pe_f (ok_terms T) T.g_law_terms (hr.mono (by decide)) pass0 (pa_cons (pv 1) pa_nil)))
    (pss_cons (ps_set (i := 3) nd rfl (by first | exact Or.inl rfl | exact Or.inr rfl) (pe_cmpR op_eq (pe_f (ok_draw T) T.g_law_draw (hr.mono (by decide)) pass0 (pa_cons (pv 1) (pa_cons pe_int pa_nil))) pe_int (nomark _)))
    (pss_cons (ps_set (i := 4) nd rfl (by first | exact Or.inl rfl | exact Or.inr rfl) (pe_f (ok_names T) T.g_law_names (hr.mono (by decide)) pass0 (pa_cons (pv 1) (pa_cons (pe_op op_add (pe_ix ix_tup (pv 2) pe_int (fun _ _ => rfl)) pe_int) pa_nil))))
    (pss_cons (ps_set (i := 5) nd rfl (by first | exact Or.inl rfl | exact Or.inr rfl) (pe_f (ok_draw T) T.g_law_draw (hr.mono (by decide)) pass0 (pa_cons (pv 1) (pa_cons pe_int pa_nil))))
    (pss_cons (ps_set (i := 6) nd rfl (by first | exact Or.inl rfl | exact Or.inr rfl) (pe_f (ok_store T) T.g_law_store (hr.mono (by decide)) pass0 (pa_cons (pv 1) (pa_cons (pv 2) (pa_cons (pv 3) pa_nil)))))
    (pss_cons (ps_set (i := 7) nd rfl (by first | exact Or.inl rfl | exact Or.inr rfl) (pe_f (ok_mmodel T) T.g_law_model (hr.mono (by decide)) pass0 (pa_cons (pv 2) (pa_cons (pv 3) pa_nil))))
    (pss_cons (ps_if (pt_not (pt_val (pe_f (ok_places_hold T) T.g_law_places_hold (hr.mono (by decide)) pass0 (pa_cons (pv 6) (pa_cons (pv 7) pa_nil))))) (pss_one (ps_ret pe_bl)) pss_nil)
    (pss_cons (ps_set (i := 8) nd rfl (by first | exact Or.inl rfl | exact Or.inr rfl) (pe_m0 (pv 6) T.cs T.m_s_picture (ok_s_picture T) (hr.mono (by decide)) pass0))
    (pss_cons (ps_set (i := 9) nd rfl (by first | exact Or.inl rfl | exact Or.inr rfl) (pe_f (ok_shown T) T.g_law_shown (hr.mono (by decide)) pass0 (pa_cons (pv 7) pa_nil)))
    (pss_cons (ps_set (i := 10) nd rfl (by first | exact Or.inl rfl | exact Or.inr rfl) (pe_m0 (pv 6) T.cs T.m_s_closed (ok_s_closed T) (hr.mono (by decide)) pass0))
    (pss_cons (ps_set (i := 11) nd rfl (by first | exact Or.inl rfl | exact Or.inr rfl) (pe_lst pa_nil))
    (pss_cons (ps_set (i := 12) nd rfl (by first | exact Or.inl rfl | exact Or.inr rfl) (pe_f (ok_draw T) T.g_law_draw (hr.mono (by decide)) pass0 (pa_cons (pv 1) (pa_cons (pe_op op_add (pe_ix ix_tup (pv 2) pe_int (fun _ _ => rfl)) pe_int) pa_nil))))
    (pss_cut (ps_set (i := 13) nd rfl (by first | exact Or.inl rfl | exact Or.inr rfl) (pe_ix ix_list (pv 4) pe_int (fun _ _ => rfl)))
    (pss_cons (ps_for PassesOwn.never rfl (pi_range1 rfl T.b_range (pa_cons (pe_op op_add (pe_op op_add (pv 12) pe_int) (pe_f (ok_draw T) T.g_law_draw (hr.mono (by decide)) pass0 (pa_cons (pv 1) (pa_cons pe_int pa_nil)))) pa_nil)) (pg_name (i := 14) nd rfl (by first | exact Or.inl rfl | exact Or.inr rfl))
      (pss_cons (ps_set (i := 15) nd rfl (by first | exact Or.inl rfl | exact Or.inr rfl) pe_int)
      (pss_cons (ps_set (i := 16) nd rfl (by first | exact Or.inl rfl | exact Or.inr rfl) (pe_lst pa_nil))
      (pss_cut (ps_if (pt_cmpR op_lt (pv 14) (pv 12) (nomark _)) (pss_one (ps_set (i := 13) nd rfl (by first | exact Or.inl rfl | exact Or.inr rfl) (pe_ix ix_list (pv 4) (pv 14) (fun _ _ => rfl)))) (pss_cons (ps_set (i := 15) nd rfl (by first | exact Or.inl rfl | exact Or.inr rfl) (pe_f (ok_draw T) T.g_law_draw (hr.mono (by decide)) pass0 (pa_cons (pv 1) (pa_cons pe_int pa_nil))))
        (pss_one (ps_set (i := 13) nd rfl (by first | exact Or.inl rfl | exact Or.inr rfl) (pe_f (ok_next T) T.g_law_next (hr.mono (by decide)) pass0 (pa_cons (pv 1) (pa_cons (pv 4) (pa_cons (pv 13) pa_nil))))))))
      (pss_cut (ps_if (pt_cmpR op_ne (pv 15) pe_int (nomark _)) (pss_one (ps_set (i := 16) nd rfl (by first | exact Or.inl rfl | exact Or.inr rfl) (pe_f (ok_picks T) T.g_law_picks (hr.mono (by decide)) pass0 (pa_cons (pv 1) (pa_cons (pv 7) (pa_cons (pv 13) (pa_cons (pv 5) pa_nil))))))) pss_nil)
      (pss_cons (ps_set (i := 7) nd rfl (by first | exact Or.inl rfl | exact Or.inr rfl) (pe_f (ok_turn_fn T) T.g_law_turn (hr.mono (by decide)) pass0 (pa_cons (pv 6) (pa_cons (pv 7) (pa_cons (pv 15) (pa_cons (pv 13) (pa_cons (pe_op op_sub (pv 14) pe_int) (pa_cons (pv 16) pa_nil))))))))
      (pss_cons (ps_if (pt_cmpR op_isN (pv 7) pe_non (nomark _)) (pss_one (ps_ret pe_bl)) pss_nil)
      (pss_cons (ps_set (i := 17) nd rfl (by first | exact Or.inl rfl | exact Or.inr rfl) (pe_cmpR op_ge (pv 14) (pv 12) (nomark _)))
      (pss_cut (ps_if (pt_val (pv 17)) (pss_one (ps_set (i := 17) nd rfl (by first | exact Or.inl rfl | exact Or.inr rfl) (pe_cmpR op_ne (pe_f (ok_draw T) T.g_law_draw (hr.mono (by decide)) pass0 (pa_cons (pv 1) (pa_cons pe_int pa_nil))) pe_int (nomark _)))) pss_nil)
      (pss_cons (ps_if (PW.pt (pw_and (pt_val (pv 17)) (pw_and1 (pt_not (pt_val (pe_f (ok_places_hold T) T.g_law_places_hold (hr.mono (by decide)) pass0 (pa_cons (pv 6) (pa_cons (pv 7) pa_nil)))))))) (pss_one (ps_ret pe_bl)) pss_nil)
      (pss_one (ps_if (pt_cmpR op_eq (pv 14) (pe_op op_add (pv 12) pe_int) (nomark _)) (pss_cons (ps_if (PW.pt (pw_or (pt_not (pt_val (pe_f (ok_picis T) T.g_law_picture_is (hr.mono (by decide)) pass0 (pa_cons (pv 8) (pa_cons (pv 9) pa_nil))))) (pw_or1 (pt_not (pt_val (pe_f (ok_nums T) T.g_law_numbers_are (hr.mono (by decide)) pass0 (pa_cons (pv 10) (pa_cons (pv 11) pa_nil)))))))) (pss_one (ps_ret pe_bl)) pss_nil)
        (pss_cons (ps_set (i := 8) nd rfl (by first | exact Or.inl rfl | exact Or.inr rfl) (pe_m0 (pv 6) T.cs T.m_s_picture (ok_s_picture T) (hr.mono (by decide)) pass0))
        (pss_cons (ps_set (i := 9) nd rfl (by first | exact Or.inl rfl | exact Or.inr rfl) (pe_f (ok_shown T) T.g_law_shown (hr.mono (by decide)) pass0 (pa_cons (pv 7) pa_nil)))
        (pss_cons (ps_set (i := 10) nd rfl (by first | exact Or.inl rfl | exact Or.inr rfl) (pe_m0 (pv 6) T.cs T.m_s_closed (ok_s_closed T) (hr.mono (by decide)) pass0))
        (pss_one (ps_set (i := 11) nd rfl (by first | exact Or.inl rfl | exact Or.inr rfl) (pe_f (ok_mshut T) T.g_law_shut (hr.mono (by decide)) pass0 (pa_cons (pv 7) pa_nil)))))))) pss_nil))))))))))))
    (pss_cons (ps_if (PW.pt (pw_or (pt_not (pt_val (pe_f (ok_picis T) T.g_law_picture_is (hr.mono (by decide)) pass0 (pa_cons (pv 8) (pa_cons (pv 9) pa_nil))))) (pw_or1 (pt_not (pt_val (pe_f (ok_nums T) T.g_law_numbers_are (hr.mono (by decide)) pass0 (pa_cons (pv 10) (pa_cons (pv 11) pa_nil)))))))) (pss_one (ps_ret pe_bl)) pss_nil)
    (pss_one (ps_ret (pe_f (ok_places_hold T) T.g_law_places_hold (hr.mono (by decide)) pass0 (pa_cons (pv 6) (pa_cons (pv 7) pa_nil))))))))))))))))))))), ?_⟩
  refine q_asgK (r_call (ea_cons (ev_var rfl) ea_nil H0 (Ex.refl _) _ fun H1 e1 => ⟨sc, ns, rfl, ex_l e1 hsc, fun H b hB e2 fr2 => ?_⟩))
  refine q_asgK (r_call (ea_cons (ev_var rfl) ea_nil H (Ex.refl _) _ fun H3 e3 => ⟨b, 0, rfl, hB.ex e3, by omega, fun H4 tp n t0 hB4 c4 htp4 htp0 n1 n8 w1 w8 l40 b1 b66 => ?_⟩))
  refine q_asgK (r_op (r_draw (ev_var rfl) ev_c hB4 (by omega) (by decide) (by decide) fun H5 r5 hB5 c5 hr5 => ⟨rfl, ?_⟩))
  generalize decide (V.int (r5 : Int) = V.int 1) = first
  obtain ⟨t, hf, hw, hb, hl⟩ : ∃ t : Tm, t.first = first ∧ t.wide = t0.wide ∧ t.bound = t0.bound ∧ t.load = t0.load := ⟨{ t0 with first := first }, rfl, rfl, rfl, rfl⟩
  subst hf
  rw [← hw, ← hb, ← hl] at htp4
  rw [← hw] at w1 w8
  rw [← hb] at b1 b66
  clear hw hb hl l40
  have htp5 := c5.tup htp4
  obtain ⟨m, hm⟩ : ∃ m : Nat, (m : Int) = t.bound + 2 := ⟨(t.bound + 2).toNat, by omega⟩
  refine q_asgK (r_call (ea_cons (ev_var rfl) (ea_cons (ev_is (ev_op (ev_op (ev_var rfl) ev_c (rv_ixT (SqT.of htp5) (atI_nat (j := 2) rfl))) ev_c rv_I0) (by rw [← hm])) ea_nil) H5 (Ex.refl _) _ fun H6 e6 => ⟨b, _, m, rfl, hB5.ex e6, by omega, by omega, fun H7 np ks hB7 c7 hnp7 hnp0 hkl hkg => ?_⟩))
  have nb : np ∉ b.own := fun z => (hB5.ex e6).tr np z hnp0
  refine q_asgK (r_draw (ev_var rfl) ev_c hB7 (by omega) (by decide) (by decide) fun H8 mood hB8' c8 hr8 => ?_)
  have hB8 : BoxAt H8 b 200 := hB8'.mono (by omega)
  have htp8 := c8.tup (c7.tup (e6 _ _ htp5))
  refine q_asgK (r_call (ea_cons (ev_var rfl) (ea_cons (ev_var rfl) (ea_cons (ev_var rfl) ea_nil)) H8 (Ex.refl _) _ fun H9 e9 => ⟨b, 200, tp, n, t, rfl, hB8.ex e9, by omega, e9 _ _ htp8, n1, n8, w1, w8, b1, fun H10 s ts hB10 hst10 c10 fr10 => ?_⟩))
  have htp10 := c10.tup (e9 _ _ htp8)
  have hnp9 := e9 _ _ (c8.at hnp7 nb)
  have hnp10 := c10.at hnp9 nb
  refine q_asgK (r_call (ea_cons (ev_var rfl) (ea_cons (ev_var rfl) ea_nil) H10 (Ex.refl _) _ fun H11 e11 => ⟨tp, n, t, rfl, e11 _ _ htp10, n1, n8, w1, w8, fun H12 a hmd12 e12 fr12 => ?_⟩))
  have e1012 := e11.trans e12
  have iv12 : Inv K H12 b 201 s t ⟨0, 0, 0⟩ (Lg0 n) ts [] a := ⟨hB10.ex e1012, hst10.ex e1012, hmd12, fun x m z => (hst10.ex e11).tr x m (fr12 x z), fun x m z => (hB8.ex e9).tr x z (fr10 x m), fun x m z => (hB10.ex e11).tr x z (fr12 x m)⟩
  have hN12 : Nm H12 (own3 b s a) np ks := by
    refine ⟨e1012 _ _ hnp10, fun z => ?_⟩
    rcases List.mem_append.1 z with z | z
    · exact nb z
    · rcases List.mem_append.1 z with z | z
      · have y := fr10 np z
        rw [hnp9] at y; cases y
      · have y := fr12 np z
        rw [e11 _ _ hnp10] at y; cases y
  have htp12 := e1012 _ _ htp10
  clear e1012 hB10 hst10 c10 fr10 fr12 hmd12 e12 e11 htp10 htp8 hB8 hB8'
  refine q_when (b := false) (et_is (et_not (a := true) (et_B (ev_call (ea_cons (ev_var rfl) (ea_cons (ev_var rfl) ea_nil)) (spv_hold iv12.st iv12.md)))) rfl) (fun z => nomatch z) fun _ H13 e13 => ?_
  have iv13 := iv12.ex e13
  refine q_asgK ⟨_, rfl, s.S, s.dx, _, rfl, iv13.st.obj, rfl, s, t, _, _, ts, [], rfl, iv13.st, fun kp as H14 hR14 e14 fr14 => ?_⟩
  have iv14 := iv13.ex e14
  refine q_asgK (r_call (ea_cons (ev_var rfl) ea_nil H14 (Ex.refl _) _ fun H15 e15 => ⟨a, t, _, _, rfl, iv14.md.ex e15, fun sh bs H16 hS16 e16 fr16 => ?_⟩))
  have iv15 := iv14.ex e15
  have iv16 := iv15.ex e16
  refine q_asgL (el_meth (ev_var rfl) iv16.st.obj rfl ea_nil (spl_cls iv16.st)) fun li H17 hli0 e17 hli => ?_
  have iv17 := iv16.ex e17
  refine q_asgL (el_lst ea_nil (by decide)) fun hl H18 hhl0 e18 hhl => ?_
  have iv18 := iv17.ex e18
  rw [shut_Lg0 n1 n8] at hli
  have e1418 := ((e15.trans e16).trans e17).trans e18
  have hK18 : Kp H18 (own3 b s a) kp sh li hl as bs (Lg0 n).rows [] := ⟨hR14.ex e1418, hS16.ex (e17.trans e18), iv18.md.ok.n8, rows_le iv18.md.ok, e18 _ _ hli, hhl, by simp, fun y m z => iv13.tr y z (fr14 y m), fun y m z => iv15.tr y z (fr16 y m), fun z => iv16.tr li z hli0, fun z => iv17.tr hl z hhl0⟩
  have e1218 := (e13.trans e14).trans e1418
  have hN18 := hN12.ex e1218
  have htp18 := e1218 _ _ htp12
  refine q_asgK (r_draw (ev_var rfl) (ev_op (ev_op (ev_var rfl) ev_c (rv_ixT (SqT.of htp18) (atI_nat (j := 2) rfl))) ev_c rv_I0) iv18.bx (by omega) (by omega) (by omega) fun H19 fill hB19 c19 hr19 => ?_)
  obtain ⟨iv19, st19⟩ := iv18.box hB19 c19
  have hN19 := hN18.stp st19
  have hK19 := hK18.stp st19
  obtain ⟨k0, hk0⟩ : ∃ k0, ks[0]? = some k0 := ⟨_, List.getElem?_eq_getElem (by omega)⟩
  refine q_cut (M := fun σ' H' => ∃ nm : Str, σ' = [some (.ref sc), some (.ref b.B), some (.ref tp), some (.bl t.first), some (.ref np), some (.int (mood : Int)), some (.ref s.S), some (.ref a.M), some (.ref kp), some (.ref sh), some (.ref li), some (.ref hl), some (.int (fill : Int)), some (.str nm), none, none, none, none] ∧ GoodK nm ∧ Ex H19 H') ?_ ?_
  · exact s_asg (ev_op (ev_var rfl) ev_c (rv_ixL (SqL.of hN19.at_) (atI_nat (j := 0) (by rw [List.getElem?_map, hk0]; rfl)))) fun H20 e20 => ⟨k0, rfl, hkg k0 (List.mem_of_getElem? hk0), e20⟩
  rintro σ20 H20 ⟨nm, rfl, hnm, e20⟩
  have iv20 := iv19.ex e20
  have hN20 := hN19.ex e20
  have hK20 := hK19.ex e20
  refine q_forF (r_cons (r_op (ev_op (ev_var rfl) ev_c rv_I0 H20 (Ex.refl _) _ fun H20b eb => r_draw (ev_var rfl) ev_c (iv20.ex eb).bx (by omega) (by decide) (by decide) fun H21 r21 hB21 c21 hr21 => r_I0 (r_nil (fr1_mk (by omega) (fun i σ' H' => ∃ (kp sh li hl : Addr) (as bs : List Addr) (rows : List (List (Option Str))) (sl : List Int) (nm : Str) (x14 x15 x16 x17 : Option V) (s : Sd) (a : Md) (c : Ct) (g : Lg) (ts : List Nat) (kvs : List (Key × V)), σ' = [some (.ref sc), some (.ref b.B), some (.ref tp), some (.bl t.first), some (.ref np), some (.int (mood : Int)), some (.ref s.S), some (.ref a.M), some (.ref kp), some (.ref sh), some (.ref li), some (.ref hl), some (.int (fill : Int)), some (.str nm), x14, x15, x16, x17] ∧ GoodK nm ∧ c.deeds ≤ i ∧ Inv K H' b (300 + 25 * i) s t c g ts kvs a ∧ Nm H' (own3 b s a) np ks ∧ Kp H' (own3 b s a) kp sh li hl as bs rows sl) ?_ ?_ ?_)))))
  · obtain ⟨iv21, st21⟩ := (iv20.ex eb).box (hB21.mono (show 201 + 1 + 1 ≤ 300 + 25 * 0 by omega)) c21
    exact ⟨kp, sh, li, hl, as, bs, _, _, nm, _, _, _, _, s, a, _, _, _, _, rfl, hnm, Nat.le_refl _, iv21, (hN20.ex eb).stp st21, (hK20.ex eb).stp st21⟩
  · clear hK20 hN20 iv20 hK19 hN19 iv19 hK18 hN18 iv18 iv17 iv16 iv15 iv14 iv13 iv12 hN12 hR14 hS16 st19
    clear hnm e20
    have hfl : fill ≤ 66 := by omega
    have hkn : fill < ks.length := by omega
    have hi0 : r21 ≤ 35 := by omega
    rintro i σ' H1 hi ⟨kp, sh, li, hl, as, bs, rows, sl, nm, x14, x15, x16, x17, s, a, c, g, ts, kvs, rfl, hnm, hdd, iv, hN, hK⟩
    have hi105 : i ≤ 105 := by omega
    refine q_asg ev_c fun H2 e2 => ?_
    refine q_asgL (el_lst ea_nil (by decide)) fun lp0 H3 hlp0 e3 hlp3 => ?_
    have e13 := e2.trans e3
    have iv3 := iv.ex e13
    have hN3 := hN.ex e13
    have hK3 := hK.ex e13
    have nlb : lp0 ∉ b.own := fun z => (iv.bx.ex e2).tr lp0 z hlp0
    have nls0 : lp0 ∉ s.own := fun z => (iv.st.ex e2).tr lp0 z hlp0
    refine q_cut (M := fun σ' H' => ∃ (nm4 : Str) (kind : Int), σ' = [some (.ref sc), some (.ref b.B), some (.ref tp), some (.bl t.first), some (.ref np), some (.int (mood : Int)), some (.ref s.S), some (.ref a.M), some (.ref kp), some (.ref sh), some (.ref li), some (.ref hl), some (.int (fill : Int)), some (.str nm4), some (.int (i : Int)), some (.int kind), some (.ref lp0), x17] ∧ GoodK nm4 ∧ BoxAt H' b (303 + 25 * i) ∧ Ch b.own H3 H') ?_ ?_
    · refine s_if (et_B (ev_op (ev_var rfl) (ev_var rfl) rv_I0)) ?_ ?_
      · intro hc H4 e4
        have hlt : (i : Int) < (fill : Int) := of_decide_eq_true hc
        obtain ⟨k1, hk1⟩ : ∃ k1, ks[i]? = some k1 := ⟨_, List.getElem?_eq_getElem (by omega)⟩
        exact s_asg (ev_op (ev_var rfl) (ev_var rfl) (rv_ixL (SqL.of (e4 _ _ hN3.at_)) (atI_nat (j := i) (by rw [List.getElem?_map, hk1]; rfl)))) fun H5 e5 => ⟨k1, 1, rfl, hkg k1 (List.mem_of_getElem? hk1), (iv3.bx.ex (e4.trans e5)).mono (by omega), (e4.trans e5).ch _⟩
      · intro hc H4 e4
        refine q_asgK (r_draw (ev_var rfl) ev_c (iv3.bx.ex e4) (by omega) (by decide) (by decide) fun H5 r5 hB5 c5 hr5 => ?_)
        exact s_asgK (r_call (ea_cons (ev_var rfl) (ea_cons (ev_var rfl) (ea_cons (ev_var rfl) ea_nil)) H5 (Ex.refl _) _ fun H6 e6 => ⟨b, _, np, ks, nm, rfl, hB5.ex e6, by omega, e6 _ _ (c5.at (e4 _ _ hN3.at_) nb), nb, by omega, by omega, hkg, hnm, fun H7 k hB7 c7 hgk => ⟨k, r5, rfl, hgk, hB7.mono (by omega), (e4.ch _).trans (c5.trans ((e6.ch _).trans c7))⟩⟩))
    rintro σ4 H4 ⟨nm4, kind, rfl, hnm4, hB4, c4⟩
    obtain ⟨iv4, st4⟩ := iv3.box hB4 c4
    have hN4 := hN3.stp st4
    have hK4 := hK3.stp st4
    have hlp4 := c4.at hlp3 nlb
    refine q_cut (M := fun σ' H' => ∃ (lp : Addr) (picks : List Nat), σ' = [some (.ref sc), some (.ref b.B), some (.ref tp), some (.bl t.first), some (.ref np), some (.int (mood : Int)), some (.ref s.S), some (.ref a.M), some (.ref kp), some (.ref sh), some (.ref li), some (.ref hl), some (.int (fill : Int)), some (.str nm4), some (.int (i : Int)), some (.int kind), some (.ref lp), x17] ∧ H' lp = some (.lst (vns picks)) ∧ lp ∉ s.own ∧ picks.length ≤ 12 ∧ BoxAt H' b (320 + 25 * i) ∧ Ch b.own H4 H') ?_ ?_
    · refine s_when (et_B (ev_op (ev_var rfl) ev_c (rv_ne rfl))) ?_ ?_
      · intro _ H5 e5
        exact s_asgK (r_call (ea_cons (ev_var rfl) (ea_cons (ev_var rfl) (ea_cons (ev_var rfl) (ea_cons (ev_var rfl) ea_nil))) H5 (Ex.refl _) _ fun H6 e6 => ⟨b, _, a, t, c, g, nm4, _, rfl, iv4.bx.ex (e5.trans e6), by omega, iv4.md.ex (e5.trans e6), iv4.ab, fun H7 lp picks hB7 c7 hlp7 hl0 hp12 => ⟨lp, picks, rfl, hlp7, fun z => (iv4.st.ex (e5.trans e6)).tr lp z hl0, hp12, hB7.mono (by omega), ((e5.trans e6).ch _).trans c7⟩⟩))
      · intro _ H5 e5
        exact ⟨lp0, [], rfl, e5 _ _ hlp4, nls0, by simp, (iv4.bx.ex e5).mono (by omega), e5.ch _⟩
    rintro σ5 H5 ⟨lp, picks, rfl, hlp5, nls, hp12, hB5, c5⟩
    obtain ⟨iv5, st5⟩ := iv4.box hB5 c5
    have hN5 := hN4.stp st5
    have hK5 := hK4.stp st5
    refine q_asgK (r_call (ea_cons (ev_var rfl) (ea_cons (ev_var rfl) (ea_cons (ev_var rfl) (ea_cons (ev_var rfl) (ea_cons (ev_op (ev_var rfl) ev_c rv_I0) (ea_cons (ev_var rfl) ea_nil))))) H5 (Ex.refl _) _ fun H6 e6 => ⟨s, t, c, g, ts, kvs, a, kind, nm4, _, lp, picks, rfl, iv5.st.ex e6, iv5.md.ex e6, iv5.sa, e6 _ _ hlp5, nls, hp12, hnm4, ⟨b1, by omega⟩, by omega, fun H7 s2 a2 c2 g2 ts2 kvs2 aft => ?_⟩))
    obtain ⟨iv7, st7⟩ := (iv5.ex e6).turn aft
    have hN7 := (hN5.ex e6).stp st7
    have hK7 := (hK5.ex e6).stp st7
    have hd7 : c2.deeds ≤ i + 1 := Nat.le_trans aft.dd (by omega)
    rw [← aft.S]
    clear aft st7
    refine q_when (b := false) (et_is (et_B (ev_op (ev_var rfl) ev_c rv_isN)) (decide_eq_false (by intro z; cases z))) (fun z => nomatch z) fun _ H8 e8 => ?_
    refine q_asg (ev_op (ev_var rfl) (ev_var rfl) rv_I0) fun H9 e9 => ?_
    have iv9 := iv7.ex (e8.trans e9)
    have hN9 := hN7.ex (e8.trans e9)
    have hK9 := hK7.ex (e8.trans e9)
    refine q_cut (M := fun σ' H' => ∃ wb : Bool, σ' = [some (.ref sc), some (.ref b.B), some (.ref tp), some (.bl t.first), some (.ref np), some (.int (mood : Int)), some (.ref s2.S), some (.ref a2.M), some (.ref kp), some (.ref sh), some (.ref li), some (.ref hl), some (.int (fill : Int)), some (.str nm4), some (.int (i : Int)), some (.int kind), some (.ref lp), some (.bl wb)] ∧ BoxAt H' b (321 + 25 * i) ∧ Ch b.own H9 H') ?_ ?_
    · refine s_when (et_B (ev_var rfl)) ?_ ?_
      · intro _ H10 e10
        exact s_asgK (r_op (r_draw (ev_var rfl) ev_c (iv9.bx.ex e10) (by omega) (by decide) (by decide) fun H11 r11 hB11 c11 hr11 => ⟨rfl, _, rfl, hB11.mono (by omega), (e10.ch _).trans c11⟩))
      · intro _ H10 e10
        exact ⟨_, rfl, (iv9.bx.ex e10).mono (by omega), e10.ch _⟩
    rintro σ10 H10 ⟨wb, rfl, hB10, c10⟩
    obtain ⟨iv10, st10⟩ := iv9.box hB10 c10
    have hN10 := hN9.stp st10
    have hK10 := hK9.stp st10
    refine q_when (b := false) (et_is (et_and (b := false) (et_B (ev_var rfl)) fun _ => et_is (et_not (a := true) (et_B (ev_call (ea_cons (ev_var rfl) (ea_cons (ev_var rfl) ea_nil)) (spv_hold iv10.st iv10.md)))) rfl) (by cases wb <;> rfl)) (fun z => nomatch z) fun _ H11 e11 => ?_
    have iv11 := iv10.ex e11
    have hN11 := hN10.ex e11
    have hK11 := hK10.ex e11
    refine s_when (et_B (ev_op (ev_var rfl) (ev_op (ev_var rfl) ev_c rv_I0) (rv_eq rfl))) ?_ ?_
    · intro _ H12 e12
      have iv12 := iv11.ex e12
      have hK12 := hK11.ex e12
      refine q_when (b := false) (et_is (et_or (a := false) (et_is (et_not (a := true) (et_B (ev_call (ea_cons (ev_var rfl) (ea_cons (ev_var rfl) ea_nil)) (spv_picis hK12.k hK12.s hK12.n8 hK12.w8)))) rfl) fun _ => et_is (et_not (a := true) (et_B (ev_numsV (ev_var rfl) hK12.l (ev_var rfl) hK12.h hK12.sz))) rfl) rfl) (fun z => nomatch z) fun _ H13 e13 => ?_
      have iv13 := iv12.ex e13
      refine q_asgK ⟨_, rfl, s2.S, s2.dx, _, rfl, iv13.st.obj, rfl, s2, t, _, _, ts2, _, rfl, iv13.st, fun kp as H14 hR14 e14 fr14 => ?_⟩
      have iv14 := iv13.ex e14
      refine q_asgK (r_call (ea_cons (ev_var rfl) ea_nil H14 (Ex.refl _) _ fun H15 e15 => ⟨a2, t, _, _, rfl, iv14.md.ex e15, fun sh bs H16 hS16 e16 fr16 => ?_⟩))
      have iv15 := iv14.ex e15
      have iv16 := iv15.ex e16
      refine q_asgL (el_meth (ev_var rfl) iv16.st.obj rfl ea_nil (spl_cls iv16.st)) fun li H17 hli0 e17 hli => ?_
      have iv17 := iv16.ex e17
      refine s_asgL (el_call (ea_cons (ev_var rfl) ea_nil) (spl_mshut iv17.md)) fun hl H18 hhl0 e18 hhl => ?_
      have iv18 := iv17.ex e18
      have e1418 := ((e15.trans e16).trans e17).trans e18
      rw [vns_ints] at hli hhl
      have hs8 := shut_len (g := g2)
      have hn8 := iv18.md.ok.n8
      refine ⟨kp, sh, li, hl, as, bs, _, _, nm4, _, _, _, _, s2, a2, _, _, _, _, rfl, hnm4, hd7, ⟨iv18.bx.mono (by omega), iv18.st, iv18.md, iv18.sa, iv18.sb, iv18.ab⟩, hN11.ex ((e12.trans e13).trans (e14.trans e1418)), ⟨hR14.ex e1418, hS16.ex (e17.trans e18), iv18.md.ok.n8, rows_le iv18.md.ok, e18 _ _ hli, hhl, by rw [List.length_map]; omega, fun y m z => iv13.tr y z (fr14 y m), fun y m z => iv15.tr y z (fr16 y m), fun z => iv16.tr li z hli0, fun z => iv17.tr hl z hhl0⟩⟩
    · intro _ H12 e12
      have iv12 := iv11.ex e12
      exact ⟨kp, sh, li, hl, as, bs, rows, sl, nm4, _, _, _, _, s2, a2, _, _, _, _, rfl, hnm4, hd7, ⟨iv12.bx.mono (by omega), iv12.st, iv12.md, iv12.sa, iv12.sb, iv12.ab⟩, hN11.ex e12, hK11.ex e12⟩
  · rintro σ' H1 ⟨kp, sh, li, hl, as, bs, rows, sl, nm, x14, x15, x16, x17, s, a, c, g, ts, kvs, rfl, hnm, hdd, iv, hN, hK⟩
    refine q_when (b := false) (et_is (et_or (a := false) (et_is (et_not (a := true) (et_B (ev_call (ea_cons (ev_var rfl) (ea_cons (ev_var rfl) ea_nil)) (spv_picis hK.k hK.s hK.n8 hK.w8)))) rfl) fun _ => et_is (et_not (a := true) (et_B (ev_numsV (ev_var rfl) hK.l (ev_var rfl) hK.h hK.sz))) rfl) rfl) (fun z => nomatch z) fun _ H2 e2 => ?_
    have iv2 := iv.ex e2
    exact s_ret (ev_call (ea_cons (ev_var rfl) (ea_cons (ev_var rfl) ea_nil)) (spv_hold iv2.st iv2.md)) fun H3 e3 => q H3
end
end CLg
end

section
/-! The law's head. -/
namespace CLg
open PySem PySem.W PySem.Calls PyProof.Rows
theorem ob_eq (s : PySem.W.SharedT) : CLg.obsXG 5 CLg.fa CLg.fn (HandSHeadRun.getT s) = (CLg.hookX 5 CLg.fa CLg.fn).obs s.abs := CLg.obsXG_eq (HandSHeadRun.getT_eq s)
theorem law_fact {w : World} {K : PySem.W.Frag} {h : Heap} {mg : PySem.Str → Option Value} {f : Addr} (X : K.In h) (G : h.Ns mainGlobals mg) (hfa : mg ("law" : PySem.Str) = some (.ref f)) (c : SaysX fa fn K) :
    ∃ fd : FuncData, (∀ (s : Shared) (v : Value), BindsTo s fd ⟨[v], []⟩ [("_law_script", v)]) ∧ ∀ base : Heap, K.In base → base.Ns mainGlobals mg → L2.FnOk PP w K mg base L2.CX0 10 f fd ["_law_script"] (spLaw K) := by
  have T : Tx K mg := ⟨⟨h, X, G⟩, c⟩
  obtain ⟨fd, F⟩ := T.d_f_law
  have e := hfa.symm.trans T.g_law
  cases e
  have b := L2.FunD.bindsA (ps := ["_law_script"]) F fun _ _ _ _ _ _ us hl => match us, hl with | [_], _ => rfl
  exact ⟨fd, fun s v => b s [v] rfl, fun base _ _ => ok_law T F⟩
end CLg
open PySem PySem.W PySem.Calls PyProof.Rows
theorem PySem.Challenge.cw_carrylog_k31_whole_segment_places_holds : PySem.Challenge.rw_carrylog_k31_whole_segment_places.Holds := by
  w_on; o_law
  refine HandSHeadRun.head_any (r := HeadSmall2.R) (q := HeadSmall2.qv) (H := CLg.hookX 5 CLg.fa CLg.fn) (ob := fun s => CLg.obsXG 5 CLg.fa CLg.fn (HandSHeadRun.getT s)) (M := 8000) (loose := HeadSmall2.names) (d := HandSHeadRun.topDef HeadSmall2.R.prog 53) (kwd := []) CLg.ob_eq
    (by kernel_rfl) (fun s => by kernel_rfl) HeadSmall2.run (by kernel_rfl) (by kernel_rfl) (by kernel_rfl) (by rfl) (by first | assumption | decide +kernel) (by decide +kernel) ⟨rfl, rfl, rfl, rfl, rfl, by decide +kernel⟩ ?hw ?hc
  case hw => w_witness2
  case hc =>
    refine L2.walk_ofE (l := PySem.Challenge.rw_carrylog_k31_whole_segment_places) (n := 63) (k := 10) (x := "_law_script") (CX := L2.CX0) rfl (by decide) (by kernel_rfl) ⟨rfl, by decide, by decide⟩ ?F (fun _ _ _ _ z => z)
    intro w mg fa h Y G hmg0
    obtain ⟨K, KX, c⟩ := Y
    have hmg : mg ("law" : PySem.Str) = some (.ref fa) := by
      have e : (HandSHeadRun.topDef HeadSmall2.R.prog 53).name = ("law" : PySem.Str) := by kernel_rfl
      rw [← e]
      exact hmg0
    obtain ⟨fd, hb, hF⟩ := CLg.law_fact (w := w) KX G hmg c
    exact ⟨K, fd, CLg.spLaw K, KX, hb, fun H a ns hl _ hS => ⟨a, ns, rfl, hS, fun _ => rfl⟩, hF⟩
end
