import PyProof.Rows.All
import Wide.All
import OpenK.AllK
import Wide.FinOn
import KE.KExcSuper
import HandS.ForMost
import HandS.Exc
import HandS.ExcField
import HandS.TryMany
import HandS.Lambda
import HandS.ExcOwn
import PyProof.ReprReads
import KE.GoesEnum
import HandS.Iter
import HandS.Zip
import HandS.SortRule
import KE.LtData
import HandS.Walk
import HandS.IsInst
import HandS.Words
import HandS.WordsExc
import HandS.Star
import HandS.TupAny
import HandS.Wide
import HandS.Conv
import PyProof.ReprLen
import HandS.TupMul
import HandS.EndTab
import PySem.Challenge.RW_oftenenough_k03_whole_days
section
set_option Elab.async false
set_option linter.all false
set_option maxRecDepth 100000
set_option maxHeartbeats 4000000
/-! Own exceptions whose __init__ says super().__init__("..") and then stores one field, over a class of the program over ValueError. -/
namespace OFx
open PySem PySem.W PySem.Calls PyProof.Rows PySem.HandSPX
/-- the parameters: self and the field -/
def ia (fld : Str) (p1 p2 : Pos) : Arguments := { posonlyargs := [], args := [{ arg := "self", annotation := none, pos := p1 }, { arg := fld, annotation := none, pos := p2 }], vararg := none, kwonlyargs := [], kw_defaults := [], kwarg := none, defaults := [] }
def ib (msg fld : Str) (a0 a1 a2 a3 a4 a5 b1 b2 b3 b4 : Pos) : List Stmt :=
  [.Expr (.Call (.Attribute (.Call (.Name "super" a0) [] [] a1) "__init__" a2) [.Constant (.str msg) 0 a3] [] a4) a5, .Assign [.Attribute (.Name "self" b1) fld b2] (.Name fld b3) b4]
def isc (fld : Str) : Scope := { kind := .function, names := [(PySem.Str.ofString "self", .local), (fld, .local), (PySem.Str.ofString "__class__", .free), (PySem.Str.ofString "super", .globalImplicit)], isGenerator := false, isCoroutine := false, more := [] : PySem.Scope }
/-- the call stands on one line: how it is evaluated -/
def CallForm (msg : Str) (a0 a1 a2 a3 a4 : Pos) : Prop := ∀ env : Env, ∃ pl : Sem Bool, eval (.Call (.Attribute (.Call (.Name "super" a0) [] [] a1) "__init__" a2) [.Constant (.str msg) 0 a3] [] a4) env = (do
  let ov ← attributeBase (.Call (.Name "super" a0) [] [] a1) "__init__" env (eval (.Call (.Name "super" a0) [] [] a1) env)
  standAt a2.atName
  let (f, first) ← holding [ov] (getMethod ov "__init__" pl)
  callWith a4 f first (backTo a4 (starEach [.Constant (.str msg) 0 a3] env)) [])
/-- what the written part says of the class at C and of its __init__ at fI -/
structure XT (prog : Program) (K : Frag) (mg : Str → Option Value) (nm fld : Str) (C fI : Addr) : Prop where
  gC : mg nm = some (.ref C)
  cls : ∃ nm q N bs bm sn sub ab col dd k0 k1 k2 k3 k5, K.lookup C = some (excClassObj nm q C N bs bm true sn sub ab col dd k0 k1 k2 k3 k5 "ValueError.__new__") ∧ refsVE bm = true
  sa : findIn K (.ref C) "__setattr__" = some (some (.builtin "object.__setattr__"))
  ga : findIn K (.ref C) "__getattribute__" = some (some (.builtin "BaseException.__getattribute__"))
  gg : findIn K (.ref C) "__getattr__" = some none
  noN : findIn K (.ref C) fld = some none
  iC : findIn K (.ref C) "__init__" = some (some (.ref fI))
  tC : typeIn K (.ref fI) = some (.type "function")
  kC : keepIn K (.ref C) = true
  exC : subIn K (.ref C) (.type "BaseException") = some true
  veC : subIn K (.ref C) (.type "ValueError") = some true
  meC : mroIn K C (.ref C) = some true
  tyC : typeIn K (.ref C) = some (.type "type")
  hdC : hasDictIn K C = true
  sup : ks_superIn K C C "__init__" = some (some (.builtin "ValueError.__init__"))
  any : nsIn K cStatics "thirdparty.any" = some none
  sNo : mg "super" = none
  fn : ∃ (qual msg file : Str) (tf : Tok) (oc : Value) (od : Option Addr) (doc pm : Value) (an : Option Addr) (cda cc : Addr) (ct : Value) (osl : Array (Option Value)) (p1 p2 a0 a1 a2 a3 a4 a5 b1 b2 b3 b4 : Pos)
      (ccl cl : Value) (cdd cld : Option Addr) (vs : Array Value) (ccs csl : Array (Option Value)),
    K.lookup fI = some ⟨oc, od, .func (ksFn "__init__" qual (ia fld p1 p2) (ib msg fld a0 a1 a2 a3 a4 a5 b1 b2 b3 b4) (isc fld) .none .none doc pm an (.ref cda) ct cc), osl⟩ ∧ codeIn K (.ref cda) qual = true ∧
    K.lookup cc = some ⟨cl, cld, .cell (some (.ref C)), csl⟩ ∧ K.lookup cda = some ⟨ccl, cdd, .fields vs, ccs⟩ ∧ vs[2]? = some (.str file tf) ∧ ((prog.main.file : Str) == file) = true ∧ CallForm msg a0 a1 a2 a3 a4
  top : (prog.main.scope.names.lookup ("super" : Str)).isSome = false
/-- the names of the field that we have -/
structure FldN (fld : Str) : Prop where
  l1 : (isc fld).names.lookup fld = some .local
  l2 : (isc fld).names.lookup ("self" : Str) = some .local
  l3 : (isc fld).names.lookup ("__class__" : Str) = some .free
  l4 : (isc fld).names.lookup ("super" : Str) = some .globalImplicit
  ne : fld ≠ ("self" : Str)
  db : (fld == ("__debug__" : Str)) = false
  bd : ∀ (qual : Str) (body : List Stmt) (doc pm : Value) (an : Option Addr) (cd ct : Value) (cc : Addr) (p1 p2 : Pos) (x v : Value), bindArgs (ksFn "__init__" qual (ia fld p1 p2) body (isc fld) .none .none doc pm an cd ct cc) ⟨[x, v], []⟩ = pure [(PySem.Str.ofString "self", x), (fld, v)]
theorem fldPlace : FldN "place" := ⟨by decide +kernel, by decide +kernel, by decide +kernel, by decide +kernel, by decide +kernel, by decide +kernel, by intros; rfl⟩
theorem fldValue : FldN "value" := ⟨by decide +kernel, by decide +kernel, by decide +kernel, by decide +kernel, by decide +kernel, by decide +kernel, by intros; rfl⟩
/-- what __init__ leaves of a fresh exception at x -/
structure InitEnd (h h' : Heap) (fld : Str) (x C dx : Addr) (v : Value) : Prop where
  keep : ∀ b o, b ≠ x → h.get? b = some o → h'.get? b = some o
  obj : ∃ t1, h'.get? x = some { cls := .ref C, dict := some dx, data := .fields #[.ref t1, .none, .none, .none, .bool false, .none] }
  dbig : h.objs.size ≤ dx
  dne : dx ≠ x
  ns : h'.Ns1 dx (fun y => if y = fld then some v else none)
/-- a made one -/
structure OwnMade (h h' : Heap) (fld : Str) (e C d : Addr) (v : Value) : Prop where
  keep : ∀ b o, h.get? b = some o → h'.get? b = some o
  new : h.objs.size ≤ e
  obj : ∃ oe vs, h'.get? e = some oe ∧ oe.cls = .ref C ∧ oe.dict = some d ∧ oe.data = .fields vs ∧ vs[1]? = some .none
  dbig : h.objs.size ≤ d
  dne : d ≠ e
  ns : h'.Ns1 d (fun y => if y = fld then some v else none)
theorem one_size (v : Value) : [v].length ≤ sizeLine := by
  rw [sizeLine_eq]
  exact (by decide : 1 ≤ 16777216)
section
variable {prog : Program} {w : World} {A : Around} {E : Value → Shared → Prop} {R : Result → Shared → Prop} {K : Frag} {mg : Str → Option Value} {nm fld : Str} {C fI : Addr}
variable {h : Heap} {g : Array GenState} {d : Drawn} {t : Nat} {os : OsState}
/-- the wrapper of ValueError.__init__ bound to the exception at e, called -/
theorem call_ve {nmc q : Str} {N : Addr} {bs bm : List Value} {sn : List Str} {sub : List Value} {ab : Bool} {col : Option Bool} {dd : Option Addr} {k0 k1 k2 k3 k5 : Option Value} {u e t0 : Addr} {rest : List Value} {Q : Value → Shared → Prop}
    (hC : h.get? C = some (excClassObj nmc q C N bs bm true sn sub ab col dd k0 k1 k2 k3 k5 "ValueError.__new__")) (he : h.get? e = some (excO C t0)) (hu : h.get? u = some (kxs_mw "ValueError.__init__" e)) (hrest : rest.length ≤ sizeLine)
    (hq : ∀ h' t1, (∀ b o, b ≠ e → h.get? b = some o → h'.get? b = some o) → h'.get? e = some (excO C t1) → Q .none ⟨h', g, d, t, os⟩) :
    wpAny (model prog w) A (call (.ref u) rest) Q E ⟨h, g, d, t, os⟩ := by
  refine wpAny_call (codeAny_of_tree ?_)
  show wpAny _ A.in1 (callAny (.ref u) ⟨rest, []⟩) _ _ _
  simp only [callAny]
  refine wpAny_bind (wpAny_load hu ?_)
  simp only [kxs_mw, show (Value.type "method-wrapper" == Value.type "method" || Value.type "method-wrapper" == Value.type "builtin_function_or_method" || Value.type "method-wrapper" == Value.type "method-wrapper") = true by decide, if_true]
  refine KFB.if_so (by decide) ?_
  refine wpAny_bind (check_bound_init F.excBase_ValueError.toExcCallFacts hC he rfl ?_)
  refine wpAny_bind (wpAny_pure (wpAny_pure ?_))
  refine ⟨plainId_quiet F.excBase_ValueError.init.plain _, codeAny_builtin F.excBase_ValueError.initEntry ?_⟩
  exact exc_init_tree (cls := .ref C) (t0 := t0) (dv := none) (c2 := .none) (c3 := .none) (b4 := .bool false) he hrest fun h' k e' _ => hq h' _ k e'
/-- the def's call: the super object, its bound wrapper, the args anew; then the field -/
theorem x_init (T : XT prog K mg nm fld C fI) (FN : FldN fld) {x t0 : Addr} {v : Value} (X : K.In h) (hlim : h.NoLimit) (hG : h.Ns mainGlobals mg) (hB : ∃ mb, h.Ns builtinsNs mb ∧ ∀ x : Str, x ≠ "__name__" → mb x = bootBuiltins x)
    (hx : h.get? x = some (excO C t0)) (hnx : K.lookup x = none) (hroom : A.depth < recursionLimit)
    (hq : ∀ h' tk dx, InitEnd h h' fld x C dx v → R (.ok (.ret .none)) ⟨h', g, d, tk, os⟩) :
    codeAny (model prog w) A (.call (.ref fI) ⟨[.ref x, v], []⟩) R ⟨h, g, d, t, os⟩ := by
  obtain ⟨qual, msg, file, tf, oc, od, doc, pm, an, cda, cc, ct, osl, p1, p2, a0, a1, a2, a3, a4, a5, b1, b2, b3, b4, ccl, cl, cdd, cld, vs, ccs, csl, ho, hcd, hcell, hcode, hvs, hfile, hform⟩ := T.fn
  obtain ⟨nmc, q, N, bs, bm, sn, sub, ab, col, dd, k0, k1, k2, k3, k5, hC, hbm⟩ := T.cls
  have hcl : clsIn K C = some { name := nmc, bases := bs, mro := .ref C :: bm, ns := N, qualname := q, hasDict := true, slotNames := sn, subclasses := sub, abstract := ab, collection := col, hasDel := false } := by unfold clsIn; rw [hC] <;> rfl
  refine ks_codeAny_call_defAt (fd := ksFn "__init__" qual (ia fld p1 p2) (ib msg fld a0 a1 a2 a3 a4 a5 b1 b2 b3 b4) (isc fld) .none .none doc pm an (.ref cda) ct cc) (body := ib msg fld a0 a1 a2 a3 a4 a5 b1 b2 b3 b4) (binds := [("self", .ref x), (fld, v)])
    hroom (X _ _ ho) rfl hlim (codeRec_of X hcd) rfl (BindsTo.of_eq (FN.bd _ _ _ _ _ _ _ _ _ _ _ _)) ?_ ?_ (fun h₁ hns k => ?_)
  · intro y hy
    have hy' : y ∈ (isc fld).names := hy
    simp [isc] at hy'
    rcases hy' with rfl | rfl | rfl | rfl <;> (intro z; cases z)
  · intro y hy
    simp at hy
    rcases hy with rfl | rfl
    · exact FN.l2
    · exact FN.l1
  have X₁ : K.In h₁ := X.keeps k
  have hx₁ := k _ _ hx
  have g₁ := hG.keeps k
  obtain ⟨mb, hB1, hB2⟩ := hB
  have b₁ := hB1.keeps k
  obtain ⟨pl, hev⟩ := hform (ksEnv qual (isc fld) h.objs.size fI (.ref cda) cc)
  refine ks_wpAt_execs_cons (ks_wpAt_Expr_any (ks_wpAt_MethodCall (pl := pl) ?_ hev))
  refine ks_wpAt_super_base (env := ksEnv qual (isc fld) h.objs.size fI (.ref cda) cc) FN.l4 FN.l3 (by decide) rfl (X₁ _ _ ho) rfl rfl rfl (X₁ _ _ hcode) rfl hvs hfile T.top ?_
  refine ks_loadName_global rfl FN.l4 (loadGlobal_builtin (env := ksEnv qual (isc fld) h.objs.size fI (.ref cda) cc) g₁ T.sNo b₁ ((hB2 _ (by decide +kernel)).trans (by decide +kernel : bootBuiltins "super" = some (.type "super"))) ⟨rfl, ?_⟩)
  refine wpAny_loadName_free rfl FN.l3 rfl ⟨_, X₁ _ _ hcell, rfl⟩ ?_
  have eself : List.lookup ("self" : Str) [(("self" : Str), Value.ref x), (fld, v)].reverse = some (Value.ref x) := by
    have e1 : (("self" : Str) == fld) = false := beq_eq_false_iff_ne.mpr fun z => FN.ne z.symm
    simp [List.lookup, e1]
  have efld : List.lookup fld [(("self" : Str), Value.ref x), (fld, v)].reverse = some v := by simp [List.lookup]
  refine wpAny_loadName_local rfl FN.l2 hns eself ?_
  refine ks_wpAny_isType_cls (X₁ _ _ hC) rfl ⟨rfl, ?_⟩
  refine ks_wpAny_call_super (X₁ _ _ hC) rfl hx₁ rfl (fun c e => by cases e) (looks_mroIn X₁ T.meC) (fun h2 e2 k2 => ?_)
  have X2 : K.In h2 := X₁.keeps k2
  have hx2 := k2 _ _ hx₁
  have I2 : InstAt h2 x (excO C t0) C none := ⟨hx2, rfl, rfl, trivial⟩
  have hI : Looks (model prog w) h2 (isInstance (.ref x) (.type "ValueError")) true := I2.type.andThen (looks_subIn X2 T.veC)
  have hsup := T.sup
  unfold ks_superIn at hsup
  rw [hcl] at hsup
  refine kxs_getMethod kxs_ValueError e2 (looks_opaque X2 T.any) (l₀ := .ref C :: bm) (fun A Q E s k q => wpAny_bind ((looks_clsIn X2 hcl) A _ E s k (wpAny_pure q))) rfl X2 hsup hI (ks_ne X2 I2 hcl) (by decide) ?_
  refine kxs_callWith (i := "ValueError.__init__") (x := x) (by rfl) (evalArgs_plain ?_)
  have e3 : (h2.push (kxs_mw "ValueError.__init__" x)).get? h2.objs.size = some (kxs_mw "ValueError.__init__" x) := Heap.get?_push_at rfl rfl
  have k3 : ∀ b o, h2.get? b = some o → (h2.push (kxs_mw "ValueError.__init__" x)).get? b = some o := fun b o e => Heap.get?_push_of_some _ e
  have kall : ∀ b o, h.get? b = some o → (h2.push (kxs_mw "ValueError.__init__" x)).get? b = some o := fun b o e => k3 b o (k2 b o (k b o e))
  refine Calls.spliced_cons (Calls.Constant_str (k := 0) (pos := a3) (Calls.spliced_nil ⟨e3, ?_⟩))
  refine call_ve (k3 _ _ (k2 _ _ (X₁ _ _ hC))) (k3 _ _ hx2) e3 (one_size _) fun h4 t4 k4 hx4 => ?_
  have X4 : K.In h4 := fun b o e => k4 b o (fun z => by rw [z, hnx] at e; cases e) (kall b o (X b o e))
  have hLx : h.objs.size ≠ x := Nat.ne_of_gt (Heap.lt_size hx)
  have n4 : h4.Ns h.objs.size (fun y => List.lookup y [(("self" : Str), Value.ref x), (fld, v)].reverse) := by
    obtain ⟨oL, es, ep, eL, r⟩ := hns
    exact ⟨oL, es, ep, k4 _ _ hLx (k3 _ _ (k2 _ _ eL)), r⟩
  refine ks_wpAt_execs_cons (ks_wpAt_Assign_Attr ?_)
  refine wpAt_of_wpAny ?_
  refine wpAny_Name (wpAny_loadName_local (env := ksEnv qual (isc fld) h.objs.size fI (.ref cda) cc) (m := fun y => List.lookup y [(("self" : Str), Value.ref x), (fld, v)].reverse) (v := v) rfl FN.l1 n4 efld ?_) FN.db
  refine wpAny_Name (wpAny_loadName_local (env := ksEnv qual (isc fld) h.objs.size fI (.ref cda) cc) (m := fun y => List.lookup y [(("self" : Str), Value.ref x), (fld, v)].reverse) (v := .ref x) rfl FN.l2 n4 eself ?_) (by decide)
  refine set_plain X4 (ox := excO C t4) (od := none) ⟨hx4, rfl, rfl, trivial⟩ T.sa ?_
  refine exc_osa X4 hx4 hcl (show refsVE (.ref C :: bm) = true from hbm) rfl T.noN (fun h5 tk5 dx k5 dn dne hx5 hn5 => ?_)
  refine wpAt_of_wpAny (wpAny_execs_nil ?_)
  have hsz : h.objs.size ≤ h4.objs.size := by
    have : h.objs.size < h4.objs.size := n4.lt
    exact Nat.le_of_lt this
  exact hq h5 tk5 dx ⟨fun b o hb e => k5 b o hb (k4 b o hb (kall b o e)), ⟨_, hx5⟩, Nat.le_trans hsz dn, dne, hn5⟩
/-- C(v): the exception made -/
theorem x_made (T : XT prog K mg nm fld C fI) (FN : FldN fld) {v : Value} (X : K.In h) (hlim : h.NoLimit) (hG : h.Ns mainGlobals mg) (hB : ∃ mb, h.Ns builtinsNs mb ∧ ∀ x : Str, x ≠ "__name__" → mb x = bootBuiltins x) (hroom : A.depth + 1 < recursionLimit)
    (hq : ∀ h' tk e d', OwnMade h h' fld e C d' v → R (.ok (.ret (.ref e))) ⟨h', g, d, tk, os⟩) :
    codeAny (model prog w) A (.call (.ref C) ⟨[v], []⟩) R ⟨h, g, d, t, os⟩ := by
  obtain ⟨nmc, q, N, bs, bm, sn, sub, ab, col, dd, k0, k1, k2, k3, k5, hC, hbm⟩ := T.cls
  have k : ∀ b o, h.get? b = some o → ((h.push (kdv_tup [v])).push (excO C h.objs.size)).get? b = some o := fun b o e => Heap.get?_push_of_some _ (Heap.get?_push_of_some _ e)
  have hget : ((h.push (kdv_tup [v])).push (excO C h.objs.size)).get? (h.objs.size + 1) = some (excO C h.objs.size) := by heap_get
  have hnx : K.lookup (h.objs.size + 1) = none := by
    cases e : K.lookup (h.objs.size + 1) with
    | none => rfl
    | some o => exact absurd (Nat.lt_of_succ_lt (Heap.lt_size (X _ _ e))) (Nat.lt_irrefl _)
  obtain ⟨mb, hB1, hB2⟩ := hB
  refine call_own F.excBase_ValueError (fun Y => refsVE_contains Y bm hbm) (X _ _ hC) (looks_findIn X T.iC) (fun self => bind_fn X self T.tC) (one_size v) ?_
  refine x_init T FN (X.keeps k) (hlim.keeps k) (hG.keeps k) ⟨mb, hB1.keeps k, hB2⟩ hget hnx ?_ fun h' tk' dx ⟨k', ⟨t1, hx⟩, dn, dne, hns⟩ => ?_
  · show A.depth + 1 < recursionLimit
    exact hroom
  · have old : ∀ b o, h.get? b = some o → h'.get? b = some o := fun b o e => k' b o (Nat.ne_of_lt (Nat.lt_succ_of_lt (Heap.lt_size e))) (k b o e)
    have hs2 : ((h.push (kdv_tup [v])).push (excO C h.objs.size)).objs.size = h.objs.size + 2 := by rw [Heap.size_push, Heap.size_push]
    rw [hs2] at dn
    exact ⟨rfl, hq h' tk' (h.objs.size + 1) dx ⟨old, Nat.le_succ _, ⟨_, _, hx, rfl, rfl, rfl, rfl⟩, Nat.le_trans (Nat.le_add_right _ 2) dn, dne, hns⟩⟩
end
end OFx
end
section
set_option Elab.async false
set_option linter.all false
set_option maxRecDepth 100000
set_option maxHeartbeats 4000000
/-! Over the layer: such an exception raised; a try with several «except .. as n» clauses. -/
namespace OFx
open PySem PySem.Spec PyProof.Rows L2
theorem relO_fld {v : V} {v' : Value} (r : RelV v v') (fld f : Str) : RelO (List.lookup f [(fld, v)]) (if f = fld then some v' else none) := by
  by_cases e : f = fld
  · rw [if_pos e, e]
    have q : List.lookup fld [(fld, v)] = some v := by simp [List.lookup]
    rw [q]
    exact r
  · have e2 : (f == fld) = false := beq_eq_false_iff_ne.mpr e
    have q : List.lookup f [(fld, v)] = none := by simp [List.lookup, e2]
    rw [if_neg e, q]
    trivial
/-- C(e): the exception's own dict d holds the field -/
def tMkX (C : Addr) (fld : Str) (ta : TA) : L2.St → Hp → XK → Prop := fun σ H Q => ta σ H fun vs H1 => ∃ v, vs = [v] ∧ ∀ d, H1 d = none → Q (.ref C) (some d) (upd H1 d (.xd [(fld, v)]))
section
variable {X : Cx} {nm fld : Str} {C fI : Addr}
theorem pmk_x {a : Expr} {ta : TA} {p pos : Pos} {k : Nat} (T : XT X.prog X.K X.mg nm fld C fI) (FN : FldN fld) (hr : Room k X.A) (ha : PA X [a] ta) (hg : Gl X nm) (hdb : (nm == ("__debug__" : Str)) = false)
    (he : starEach (a :: []) X.env = (false, eval a X.env) :: starEach [] X.env := by rfl) (hpl : (backTo pos (starEach [] X.env)).any (·.1) = false := by rfl) :
    PMk X (.Call (.Name nm p) [a] [] pos) (tMkX C fld ta) := by
  intro pins s σ H Q I hw
  refine wpAny_Call_Name_kw (ld_glob I hg T.gC ?_ hdb)
  refine PySem.W.callWith_K (h₀ := X.base) I.ok.mod.kin T.kC (thn (ha.run pos pins s σ H _ I hw) fun us s1 hh => ?_) he hpl
  obtain ⟨vs, H1, I1, r1, v, ev, q1⟩ := hh
  subst ev
  refine ⟨I1.kIn, ?_⟩
  cases r1 with
  | cons rv rn =>
    rename_i v' us'
    cases rn
    show wpAny _ _ (call (.ref C) [v']) _ _ _
    have hlim := I1.nolimit
    have hG := I1.mod.glob.keeps I1.bk
    obtain ⟨mb, hB1, hB2⟩ := I1.mod.blt
    have hB := hB1.keeps I1.bk
    have hK := I1.kIn
    obtain ⟨hp, g, dr, tk, os⟩ := s1
    refine wpAny_call (x_made T FN hK hlim hG ⟨mb, hB, hB2⟩ (by have := hr.dp; omega) fun h' tk' e d M => ?_)
    show MkP X pins σ Q (.ref e) ⟨h', g, dr, tk', os⟩
    obtain ⟨oe, fv, hoe, hc, hd, hdat, h1⟩ := M.obj
    obtain ⟨G', g1, g2⟩ := restrict h' fun b => decide (b ≠ e)
    have gk : ∀ b, b ≠ e → G'.get? b = h'.get? b := fun b hb => g1 b (decide_eq_true hb)
    have ge : G'.get? e = none := g2 e (by simp)
    have old : ∀ b o, hp.get? b = some o → G'.get? b = some o := fun b o q => (gk b (Nat.ne_of_lt (Nat.lt_of_lt_of_le (Heap.lt_size q) M.new))).trans (M.keep b o q)
    have ob : ObjOk X.prog X.w (upd H1 d (.xd [(fld, v)])) G' d (.xd [(fld, v)]) := ⟨_, M.ns.at (fun o q => (gk d M.dne).trans q), fun f => relO_fld rv fld f⟩
    have J : Inv X pins σ (upd H1 d (.xd [(fld, v)])) ⟨G', g, dr, tk', os⟩ := I1.laid (t' := tk') old M.dbig ob
    refine ⟨e, oe, fv, ⟨G', g, dr, tk', os⟩, _, .ref C, some d, rfl, J, fun b o q => ?_, ge, hoe, ⟨hc, hd⟩, hdat, h1, ?_, rfl, I1.bare, raises_own T.exC T.tyC, q1 d (I1.hok.fresh M.dbig)⟩
    · by_cases hb : b = e
      · have q' : G'.get? b = some o := q
        rw [hb, ge] at q'
        cases q'
      · exact (gk b hb).symm.trans q
    · rw [upd_ne (Ne.symm M.dne)]
      exact I1.hok.fresh M.new
/-- raise C(e) -/
def tRaiseX (C : Addr) (fld : Str) (W : WX) (ta : TA) : TS := fun _ σ H => tMkX C fld ta σ H fun cls d H' => W cls d σ H'
theorem ps_raiseX {a : Expr} {ta : TA} {W : WX} {p pos pos2 : Pos} {k : Nat} (hc : X.calm = true) (T : XT X.prog X.K X.mg nm fld C fI) (FN : FldN fld) (hr : Room k X.A) (tk : Takes X W) (ha : PA X [a] ta) (hg : Gl X nm) (hdb : (nm == ("__debug__" : Str)) = false)
    (he : starEach (a :: []) X.env = (false, eval a X.env) :: starEach [] X.env := by rfl) (hpl : (backTo pos (starEach [] X.env)).any (·.1) = false := by rfl) :
    PS X (.Raise (some (.Call (.Name nm p) [a] [] pos)) none pos2) (tRaiseX C fld W ta) := ps_raise hc tk (pmk_x T FN hr ha hg hdb he hpl)
end

/-! ### try: body; except x1 as n: ..; except x2 as n: .. (one name, at slot i) -/
/-- behind a suite its name is gone -/
def goneE (D : Ends) (i : Nat) : Ends := { nx := fun τ G => D.nx (τ.set i none) G, rt := D.rt, bk := fun τ G => D.bk (τ.set i none) G, ct := fun τ G => D.ct (τ.set i none) G }
abbrev Clause := Value × (Addr → Value → Option Addr → TS)
def wEach (K : PySem.W.Frag) (Wo : WX) (D : Ends) (i : Nat) : List Clause → WX
  | [] => Wo
  | cl :: more => fun cls d σ H => ∃ b, PySem.W.exmOne K cls cl.1 = some b ∧ (b = true → ∀ a, H a = none → cl.2 a cls d (goneE D i) (σ.set i (some (.ref a))) H) ∧ (b = false → wEach K Wo D i more cls d σ H)
inductive AsOk (X : Cx) (n : Str) : List ExceptHandler → List Clause → Prop
  | stop : AsOk X n [] []
  | more {x : Str} {c : Value} {ts : Addr → Value → Option Addr → TS} {st : Stmt} {sts : List Stmt} {q1 q2 : Pos} {hds : List ExceptHandler} {cls : List Clause} (nms : Names X x c)
      (body : ∀ (a : Addr) (oe : Obj) (cv : Value) (d : Option Addr) (pn : List (Addr × Obj)), Zc cv d oe → (∃ vs, oe.data = .fields vs) → PSs (X.suite a ((a, oe) :: pn)) (st :: sts) (ts a cv d)) (rest : AsOk X n hds cls) :
      AsOk X n (.ExceptHandler (some (.Name x q1)) (some n) (st :: sts) q2 :: hds) ((c, ts) :: cls)
section
variable {X : Cx} {pins : List (Addr × Obj)}
/-- out of a suite: its name goes -/
theorem outSuite {n : Str} {i : Nat} {p0 : Pos} {a : Addr} {oe : Obj} {D : Ends} {fl : Flow} {s6 : Shared} (ok : X.Ok) (hN : X.N.Nodup) (hi : X.N[i]? = some n) (hl : X.env.kindOf n = some .local)
    (hsp : SP (X.suite a ((a, oe) :: (X.pn ++ pins))) [] (goneE D i) fl s6) :
    wpAny (model X.prog X.w) X.A (do bindName X.env n .none; unbindBehindTheSuite X.env n p0) (fun _ s7 => SP X pins D fl s7) X.xe s6 := by
  cases fl with
  | ret u =>
    obtain ⟨v, τ, G, S, rv, w⟩ := hsp
    exact gone_ok (S.unsuite ok) hN hi hl fun s7 J => ⟨v, _, G, J, rv, w⟩
  | next =>
    obtain ⟨τ, G, S, w⟩ := hsp
    exact gone_ok (S.unsuite ok) hN hi hl fun s7 J => ⟨_, G, J, w⟩
  | brk =>
    obtain ⟨τ, G, S, w⟩ := hsp
    exact gone_ok (S.unsuite ok) hN hi hl fun s7 J => ⟨_, G, J, w⟩
  | cont =>
    obtain ⟨τ, G, S, w⟩ := hsp
    exact gone_ok (S.unsuite ok) hN hi hl fun s7 J => ⟨_, G, J, w⟩
/-- the body ran through -/
theorem outBody {D : Ends} {fl : Flow} {s1 : Shared} {E : Value → Shared → Prop} {xe : Value → Shared → Prop} (ok : X.Ok) (hsp : SP (X.tr (X.pn ++ pins) xe) [] D fl s1) : SP X pins D fl s1 := by
  cases fl with
  | ret u => obtain ⟨v, τ, G, S, rv, w⟩ := hsp; exact ⟨v, τ, G, S.ofTry ok, rv, w⟩
  | next => obtain ⟨τ, G, S, w⟩ := hsp; exact ⟨τ, G, S.ofTry ok, w⟩
  | brk => obtain ⟨τ, G, S, w⟩ := hsp; exact ⟨τ, G, S.ofTry ok, w⟩
  | cont => obtain ⟨τ, G, S, w⟩ := hsp; exact ⟨τ, G, S.ofTry ok, w⟩
theorem ps_try_each {n : Str} {i : Nat} {body : List Stmt} {h1 : ExceptHandler} {hds : List ExceptHandler} {cls : List Clause} {pos : Pos} {tb : WX → TS} {Wo : WX} (hst : X.stack = X.env :: X.outer) (hfr0 : X.env.frame = some X.env.locals)
    (hN : X.N.Nodup) (hi : X.N[i]? = some n) (hln : X.env.kindOf n = some .local) (tk : Takes X Wo)
    (hb : ∀ (W : WX) (pn : List (Addr × Obj)) (xe : Value → Shared → Prop), Takes (X.tr pn xe) W → PassesOwn (model X.prog X.w) X.A X.env xe → PSs (X.tr pn xe) body (tb W))
    (hh : AsOk X n (h1 :: hds) cls) : PS X (.Try body (h1 :: hds) [] [] pos) (fun D σ H => tb (wEach X.K Wo D i cls) D σ H) := by
  refine ⟨fun pins s σ H D I hw => ?_⟩
  have ok := I.ok
  have frames : X.A.frames = some (X.env :: X.outer) := by rw [ok.frames, hst]
  refine wpAny_Try_except ?_
  have bodyOk := hb (wEach X.K Wo D i cls) (X.pn ++ pins) (fun e s₁ => wpAny (model X.prog X.w) X.A (noteFrame e X.env) (fun _ s₂ => wpAny (model X.prog X.w) X.A (setFlight e none)
    (fun _ s₃ => wpAny (model X.prog X.w) X.A (handleBy e X.env (h1 :: hds)) (SP X pins D) X.xe s₃) X.xe s₂) X.xe s₁) (fun u s' caught => ?_) PassesOwn.looking
  · refine wpAny_mono (bodyOk.run [] s σ H D (I.toTry _) hw) (fun fl s1 hsp => ?_) fun e s1 he => he
    have out := outBody (E := X.xe) ok hsp
    cases fl with
    | next => exact wpAny_execs_nil out
    | ret u => exact out
    | brk => exact out
    | cont => exact out
  · obtain ⟨a, B, sI, pins', τ, G, cv, d, rfl, J0, nb, up, sky, na, os, ag, wish⟩ := caught
    have J : Inv X pins τ G sI := J0.ofTry ok
    rw [hst] at sky
    show wpAny (model X.prog X.w) X.A (noteFrame (.ref a) X.env) _ _ _
    refine Sky.land Zc.steady frames hfr0 sky fun h3 fly3 up3 => ?_
    have J3 : Inv X pins τ G { s' with heap := h3 } := J.landed nb fly3.1 (up.trans up3) os ag
    obtain ⟨oe3, vs3, at3, z3, f3⟩ := fly3.there
    have apart : a ∉ frs (X.env :: X.outer) := fun hm => by
      obtain ⟨_, o', e', hnf⟩ := fly3.2.2.1.mem hm
      rw [at3] at e'
      cases e'
      exact hnf _ f3
    have neL : a ≠ X.env.locals := fun z => apart (List.mem_filterMap.mpr ⟨X.env, List.mem_cons_self, by rw [hfr0, z]⟩)
    have neF : a ∉ X.fs := fun hm => by
      obtain ⟨e, he, q⟩ := List.mem_filterMap.mp hm
      exact apart (List.mem_filterMap.mpr ⟨e, List.mem_cons_of_mem _ he, q⟩)
    have S3 := J3.suite at3 f3 na neL neF
    have looks : PySem.W.Looks (model X.prog X.w) h3 (typeOf (.ref a)) cv := fun A Q E s k q => wpAny_typeOf_ref (k _ _ at3) (by rw [z3.1]; exact q)
    have each : ∀ (l : List ExceptHandler) (l' : List Clause), AsOk X n l l' → wEach X.K Wo D i l' cv d τ G → wpAny (model X.prog X.w) X.A (handleBy (.ref a) X.env l) (SP X pins D) X.xe { s' with heap := h3 } := by
      intro l l' hk
      induction hk with
      | stop =>
        intro wsh
        refine wpAny_handleBy_nil ?_
        obtain ⟨_, _, _, oe, vs, T, oT, ts', he, hz, hd, h1', hr⟩ := id fly3
        have final : wpAny (model X.prog X.w) X.A (setFlight (.ref a) X.env.frame) (fun _ s4 => wpAny (model X.prog X.w) X.A (throw (.ref a) : Sem Flow) (SP X pins D) X.xe s4) X.xe { s' with heap := h3 } := by
          rw [hfr0]
          refine HandSPX.setFlight_upZ fly3 fun h4 held4 up4 => wpAny_throw (tk _ _ ?_)
          rw [← hst] at held4
          exact ⟨a, B, sI, pins, τ, G, cv, d, rfl, J, nb, (up.trans up3).trans up4, .inr (.inr held4), na, os, ag, wsh⟩
        unfold PySem.passOn
        refine wpAny_bind (wpAny_field he hd h1' ?_)
        have noNone : ¬ ((Value.ref T == Value.none) = true) := by simp
        rw [if_neg noNone]
        first
          | exact wpAny_bind final
          | exact wpAny_bind (wpAny_pure (wpAny_bind final))
      | @more x c ts st sts q1 q2 hds2 cls2 nms suite rest ih =>
        intro wsh
        obtain ⟨b, fits, yes, no⟩ := wsh
        have named : ∀ {Q : Value → Shared → Prop} {E : Value → Shared → Prop}, Q c { s' with heap := h3 } → wpAny (model X.prog X.w) (X.A.mark (some (.ref a))) (eval (.Name x q1) X.env) Q E { s' with heap := h3 } := fun {Q E} q => by
          obtain ⟨hg, hdbg, hm | ⟨hm, hv, hnn⟩⟩ := nms
          · exact ld_glob (X := X.suite a ((a, oe3) :: (X.pn ++ pins))) S3 hg hm q hdbg
          · exact ld_blt (X := X.suite a ((a, oe3) :: (X.pn ++ pins))) S3 hg hm hv q hnn hdbg
        refine wpAny_handleBy_cons (codeAny_handlers_test (named ((PySem.W.exm_one (M := model X.prog X.w) J3.kIn looks fits).here ?_))) (by intro q; cases q)
        cases b with
        | false => exact ih (no rfl)
        | true =>
          refine codeAny_handlers_suite_as (HandSPX.lands_againZ fly3 fun h4 fly4 up4 => ?_)
          have J4 : Inv X pins τ G { s' with heap := h4 } := J.landed nb fly4.1 ((up.trans up3).trans up4) os ag
          obtain ⟨oe4, vs4, at4, z4, f4⟩ := fly4.there
          refine store_ok (X := X.suite a ((a, oe4) :: (X.pn ++ pins))) (v := .ref a) (J4.suite at4 f4 na neL neF) hN hi (.inl hln) rfl (fun s5 S5 => ?_) (.inr hln)
          exact wpAny_mono ((suite a oe4 cv d (X.pn ++ pins) z4 ⟨_, f4⟩).run [] s5 _ G _ S5 (yes rfl a na)) (fun fl s6 hsp => outSuite ok hN hi hln hsp) fun _ _ z => False.elim z
    exact each _ _ hh wish
end
end OFx
end
section
set_option Elab.async false
set_option linter.all false
set_option maxRecDepth 100000
set_option maxHeartbeats 4000000
/-! Lambdas with or without one parameter that has an int default. -/
namespace OFx
open PySem PySem.Spec PySem.Calls PyProof.Rows L2
abbrev lfd (name qual : Str) (params : Arguments) (body : Expr) (scope : Scope) (cl : List (Str × Addr)) (dV pm cdv ct : Value) : FuncData :=
  { PySem.W.kla_fn name qual params body scope cl pm cdv ct with defaults := dV }
abbrev lob (name qual : Str) (params : Arguments) (body : Expr) (scope : Scope) (cl : List (Str × Addr)) (dV pm : Value) (c' : Addr) (ctv : Value) : Obj :=
  { cls := .type "function", data := .func (lfd name qual params body scope cl dV pm (.ref c') ctv) }
section
variable {M : Model} {A : Around} {E Q : Value → Shared → Prop} {s : Shared} {name qual : Str} {params : Arguments} {body : Expr} {scope : Scope} {env : Env} {c P : Addr} {ps : Array Value} {pos : Pos} {fl : Nat} {mg : Str → Option Value} {clos : List (Str × Addr)} {dV : Value}
/-- its tail, a new code object -/
theorem l_tail (hcl : closureFor scope env = pure clos) (hge : env.globals = mainGlobals) (hg : s.heap.Ns mainGlobals mg) (hcode : env.code = .ref c) (C : PySem.W.CodeHd s.heap c P) (hP : s.heap.get? P = some { cls := .none, data := .fields ps }) (ht : TriplesOk ps.toList) (hnf : codeAmong pos ps.toList = none) (gP : mainGlobals ≠ P) (hb : s.heap.BuiltinsAt mg P)
    (h : ∀ c' ctv h' tk, Heap.ExtBut P s.heap h' → s.heap.objs.size ≤ c' → c' < h'.objs.size → h'.CodeRec (.ref c') qual → h'.get? P = some { cls := .none, data := .fields (ps ++ #[rawInt pos.line, rawInt pos.col, .ref c']) } →
      Q (.ref h'.objs.size) { s with heap := h'.push (lob name qual params body scope clos dV ((mg "__name__").getD .none) c' ctv), toks := tk }) :
    wpAny M A (makeTail name qual params (.expr body) scope env dV .none none pos fl) Q E s := by
  obtain ⟨bm, ob, e1, ne0, _, neP, e2, e3, e4, e5⟩ := hb
  unfold makeTail
  rw [hcl, hge]
  refine wpAny_bind (wpAny_pure ?_)
  have fin : ∀ (s1 : Heap), (∀ b o, s.heap.get? b = some o → s1.get? b = some o) → s.heap.objs.size ≤ s1.objs.size → ∀ (k : Value → Sem Value), (∀ c' h' tk, Heap.ExtBut P s1 h' → s1.objs.size ≤ c' → c' < h'.objs.size → h'.CodeRec (.ref c') qual → h'.get? P = some { cls := .none, data := .fields (ps ++ #[rawInt pos.line, rawInt pos.col, .ref c']) } → wpAny M A (k (.ref c')) Q E { s with heap := h', toks := tk }) →
      wpAny M A (functionCode env pos fl name qual params scope (.expr body) >>= k) Q E { s with heap := s1 } := fun s1 k1 _ k q =>
    wpAny_bind (wpAny_functionCodeX hcode ((C.keeps k1).code (k1 _ _ hP) ht) ((C.keeps k1).tab (k1 _ _ hP)) hnf fun c' h' tk x1 x2 x3 _ x5 x6 _ => q c' h' tk x1 x2 x3 x5 x6.2)
  have fin2 : ∀ (ctv : Value) (s1 : Heap), (∀ b o, s.heap.get? b = some o → s1.get? b = some o) → s.heap.objs.size ≤ s1.objs.size → ∀ c' h' tk, Heap.ExtBut P s1 h' → s1.objs.size ≤ c' → c' < h'.objs.size → h'.CodeRec (.ref c') qual → h'.get? P = some { cls := .none, data := .fields (ps ++ #[rawInt pos.line, rawInt pos.col, .ref c']) } →
      wpAny M A (do
        let bv ← builtinsFor mainGlobals env.builtins
        let pmv := (← nsGet mainGlobals "__name__").getD .none
        let dc ← pure Value.none
        newObj (.type "function") (.func { name, qualname := qual, params, body := .expr body, scope, globals := mainGlobals, closure := clos, closureTuple := ctv, code := .ref c', builtins := bv, defaults := dV, kwdefaults := .none, annotations := none, pyModule := pmv, doc := dc })) Q E { s with heap := h', toks := tk } := fun ctv s1 k1 k2 c' h' tk x1 x2 x3 x4 x5 => by
    have x1' : Heap.ExtBut P s.heap h' := fun b o hb' e => x1 b o hb' (k1 _ _ e)
    have g' := hg.extBut x1' gP
    refine wpAny_bind (wpAny_builtinsFor g' e1 ne0 (x1' _ _ neP e2) e3 e4 e5 ?_)
    refine wpAny_bind (wpAny_nsGet g' ?_)
    exact wpAny_bind (wpAny_pure (wpAny_newObj_type (h c' ctv h' tk x1' (Nat.le_trans k2 x2) x3 x4 x5) (by size_fits)))
  cases clos with
  | nil =>
    simp only [List.isEmpty_nil, if_true]
    refine wpAny_bind (wpAny_pure ?_)
    exact fin s.heap (fun _ _ e => e) (Nat.le_refl _) _ (fin2 .none s.heap (fun _ _ e => e) (Nat.le_refl _))
  | cons q r =>
    simp only [List.isEmpty_cons, Bool.false_eq_true, if_false]
    refine wpAny_bind (wpAny_newTextTuple ?_)
    have k1 : ∀ (oo : Obj) b o, s.heap.get? b = some o → (s.heap.push oo).get? b = some o := fun oo b o e => Heap.get?_push_of_some _ e
    have k2 : ∀ oo : Obj, s.heap.objs.size ≤ (s.heap.push oo).objs.size := fun oo => by rw [Heap.size_push]; omega
    exact fin _ (k1 _) (k2 _) _ (fin2 _ _ (k1 _) (k2 _))
/-- its tail, the code object found -/
theorem l_tail_hit {cv : Value} (hcl : closureFor scope env = pure clos) (hge : env.globals = mainGlobals) (hg : s.heap.Ns mainGlobals mg) (hcode : env.code = .ref c) (C : PySem.W.CodeHd s.heap c P) (hP : s.heap.get? P = some { cls := .none, data := .fields ps }) (ht : TriplesOk ps.toList) (hf : codeAmong pos ps.toList = some cv) (hb : s.heap.BuiltinsAt mg P)
    (h : ∀ (ctv : Value) (h' : Heap) (tk : Tok), (∀ b o, s.heap.get? b = some o → h'.get? b = some o) → s.heap.objs.size ≤ h'.objs.size →
      Q (.ref h'.objs.size) { s with heap := h'.push { cls := .type "function", data := .func (lfd name qual params body scope clos dV ((mg "__name__").getD .none) cv ctv) }, toks := tk }) :
    wpAny M A (makeTail name qual params (.expr body) scope env dV .none none pos fl) Q E s := by
  obtain ⟨bm, ob, e1, ne0, _, neP, e2, e3, e4, e5⟩ := hb
  unfold makeTail
  rw [hcl, hge]
  refine wpAny_bind (wpAny_pure ?_)
  cases clos with
  | nil =>
    simp only [List.isEmpty_nil, if_true]
    refine wpAny_bind (wpAny_pure (wpAny_bind (wpAny_functionCode_hit hcode (C.code hP ht) hf (wpAny_bind (wpAny_builtinsFor hg e1 ne0 e2 e3 e4 e5 (wpAny_bind (wpAny_nsGet hg ?_)))))))
    exact wpAny_bind (wpAny_pure (wpAny_newObj_type (h .none s.heap s.toks (fun _ _ e => e) (Nat.le_refl _)) (by size_fits)))
  | cons q r =>
    simp only [List.isEmpty_cons, Bool.false_eq_true, if_false]
    refine wpAny_bind (wpAny_newTextTuple ?_)
    have k1 : ∀ b o, s.heap.get? b = some o → (s.heap.push { cls := .type "tuple", data := .seq (((q :: r).mergeSort fun a b => a.1.cps.toList ≤ b.1.cps.toList).map (.ref ·.2)).toArray }).get? b = some o := fun b o e => Heap.get?_push_of_some _ e
    refine wpAny_bind (wpAny_functionCode_hit hcode ((C.keeps k1).code (k1 _ _ hP) ht) hf (wpAny_bind (wpAny_builtinsFor (hg.push _) e1 ne0 (k1 _ _ e2) e3 e4 e5 (wpAny_bind (wpAny_nsGet (hg.push _) ?_)))))
    exact wpAny_bind (wpAny_pure (wpAny_newObj_type (h _ _ s.toks k1 (by rw [Heap.size_push]; omega)) (by size_fits)))
end
/-! ### the lambda is made -/
/-- the default: none, or one int -/
def DfAt (df : Option Int) (dV : Value) (H : Hp) : Prop := match df with
  | none => dV = .none
  | some k => ∃ T, dV = .ref T ∧ H T = some (.tup [.int k])
theorem DfAt.ext {df : Option Int} {dV : Value} {H H' : Hp} (d : DfAt df dV H) (e : LamX.ExtN H H') : DfAt df dV H' := by
  cases df with
  | none => exact d
  | some k => obtain ⟨T, e1, e2⟩ := d; exact ⟨T, e1, e T _ e2 fun ps z => by cases z⟩
def Dfl (df : Option Int) (params : Arguments) (env : Env) : Prop := match df with
  | none => defaultsOf params env = ([], [])
  | some k => ∃ j p, defaultsOf params env = ([eval (.Constant (.int k) j p) env], [])
section
variable {X : Cx} {pins : List (Addr × Obj)} {σ : L2.St} {H : Hp} {s : Shared}
theorem l_make {T : List (Addr × Str)} {c P : Addr} {df : Option Int} {params : Arguments} {body : Expr} {scope : Scope} {pos : Pos} {E Q : Value → Shared → Prop} (I : Inv X pins σ H s) (TB : LamX.TabB X.base X.mg c P) (hcode : X.env.code = .ref c)
    (hm : (P, X.env.qual ++ "<lambda>") ∈ T) (hu : ∀ p ∈ T, p.1 = P → p.2 = X.env.qual ++ "<lambda>") (hT : LamX.Tabs T H) (hdef : Dfl df params X.env) (hkw : params.kwonlyargs = []) (hfree : ∀ y ∈ scope.names, y.2 = .free → ∃ c, X.env.cells.lookup y.1 = some c)
    (h : ∀ (f c' : Addr) (dV pm ctv : Value) (H1 : Hp) (s' : Shared), Inv X pins σ H1 s' → LamX.ExtN H H1 → LamX.Tabs T H1 →
      s'.heap.get? f = some (lob "<lambda>" (X.env.qual ++ "<lambda>") params body scope (cloFrom X.env.cells scope.names []) dV pm c' ctv) → H1 f = none → f ∉ frs X.stack → H1 c' = some (LamX.CodeO c' (X.env.qual ++ "<lambda>")) → DfAt df dV H1 → Q (.ref f) s') :
    wpAny (model X.prog X.w) X.A (eval (.Lambda params body scope pos) X.env) Q E s := by
  -- from the state behind the defaults
  have core : ∀ (dV : Value) (H0 : Hp) (s0 : Shared), Inv X pins σ H0 s0 → LamX.ExtN H H0 → LamX.Tabs T H0 → DfAt df dV H0 → wpAny (model X.prog X.w) X.A (makeTail "<lambda>" (X.env.qual ++ "<lambda>") params (.expr body) scope X.env dV .none none pos pos.line) Q E s0 := by
    intro dV H0 s0 I0 eN0 T0 d0
    obtain ⟨ps, hP, ht, ha⟩ := T0 _ hm
    have bP : s0.heap.BuiltinsAt X.mg P := TB.bm.keeps I0.bk
    have hP' : s0.heap.get? P = some { cls := .none, data := .fields ps } := I0.hok P _ hP
    have nofr : ∀ f, s0.heap.objs.size ≤ f → f ∉ frs X.stack := fun f hf z => by
      rcases List.mem_cons.mp (I0.stkSub _ z) with e | e
      · have h1 := I0.lt
        rw [← e] at h1
        exact Nat.lt_irrefl _ (Nat.lt_of_lt_of_le h1 hf)
      · exact I0.nofs hf e
    cases hc : codeAmong pos ps.toList with
    | none =>
      refine l_tail (mg := X.mg) (c := c) (P := P) (ps := ps) (closure_ok hfree) I0.ok.glob (I0.mod.glob.keeps I0.bk) hcode (TB.code.keeps I0.bk) hP' ht hc TB.gP bP fun c' ctv h' tk hx hge hlt hrec htb => ?_
      obtain ⟨c2, oc, vs, t, e2, hoc, hd, hv⟩ := hrec
      cases e2
      have hsz : s0.heap.objs.size ≤ h'.objs.size := Nat.le_trans hge (Nat.le_of_lt hlt)
      have nC : H0 c' = none := I0.hok.fresh hge
      have I1 := LamX.inv_table (t' := tk) (more := #[rawInt pos.line, rawInt pos.col, .ref c']) (h' := h'.push (lob "<lambda>" (X.env.qual ++ "<lambda>") params body scope (cloFrom X.env.cells scope.names []) dV ((X.mg "__name__").getD .none) c' ctv)) I0 hP
        (fun b o hb e => Heap.get?_push_of_some _ (hx b o hb e)) (Heap.get?_push_of_some _ htb) hge ⟨oc, vs, t, Heap.get?_push_of_some _ hoc, hd, hv⟩
      have hE : LamX.ExtN H0 (upd (upd H0 P (.tbl (ps ++ #[rawInt pos.line, rawInt pos.col, .ref c']))) c' (LamX.CodeO c' (X.env.qual ++ "<lambda>"))) := fun b o e n => by
        rw [upd_ne (ne_of_none e nC), upd_ne (fun z => n ps (Option.some.inj (e.symm.trans (by rw [z]; exact hP))))]
        exact e
      have eL : (ps ++ #[rawInt pos.line, rawInt pos.col, .ref c']).toList = ps.toList ++ [rawInt pos.line, rawInt pos.col, .ref c'] := by simp
      refine h h'.objs.size c' dV ((X.mg "__name__").getD .none) ctv _ _ I1 (eN0.trans hE) (fun p hp => ?_) (Heap.get?_push_size _ rfl) ?_ (nofr _ hsz) upd_same (d0.ext hE)
      · by_cases hb : p.1 = P
        · rw [hu p hp hb, hb]
          refine ⟨_, by rw [upd_ne (ne_of_none hP nC), upd_same], by rw [eL]; exact PySem.TriplesOk_snoc _ _ _ _ ht, fun p' cv hcv => ?_⟩
          rw [eL] at hcv
          rcases LamX.among_app _ ht hcv with z | z
          · obtain ⟨c0, e1, e2⟩ := ha p' cv z
            exact ⟨c0, e1, hE _ _ e2 LamX.codeO_ne⟩
          · exact ⟨c', z, upd_same⟩
        · obtain ⟨ps', a1, a2, a3⟩ := T0 p hp
          refine ⟨ps', by rw [upd_ne (ne_of_none a1 nC), upd_ne hb]; exact a1, a2, fun p' cv hcv => ?_⟩
          obtain ⟨c0, e1, e2⟩ := a3 p' cv hcv
          exact ⟨c0, e1, hE _ _ e2 LamX.codeO_ne⟩
      · have n1 : h'.objs.size ≠ c' := Nat.ne_of_gt hlt
        have n2 : h'.objs.size ≠ P := Nat.ne_of_gt (Nat.lt_of_lt_of_le (Heap.lt_size hP') hsz)
        rw [upd_ne n1, upd_ne n2]
        exact I0.hok.fresh hsz
    | some cv =>
      obtain ⟨c', e, hco⟩ := ha pos cv hc
      subst e
      refine l_tail_hit (mg := X.mg) (c := c) (P := P) (ps := ps) (closure_ok hfree) I0.ok.glob (I0.mod.glob.keeps I0.bk) hcode (TB.code.keeps I0.bk) hP' ht hc bP fun ctv h' tk hx hsz => ?_
      have I1 : Inv X pins σ H0 { s0 with heap := h'.push (lob "<lambda>" (X.env.qual ++ "<lambda>") params body scope (cloFrom X.env.cells scope.names []) dV ((X.mg "__name__").getD .none) c' ctv), toks := tk } := I0.kept fun b o e => Heap.get?_push_of_some _ (hx b o e)
      exact h h'.objs.size c' dV ((X.mg "__name__").getD .none) ctv H0 _ I1 eN0 T0 (Heap.get?_push_size _ rfl) (I0.hok.fresh hsz) (nofr _ hsz) hco d0
  rw [arm_eval_Lambda]
  cases df with
  | none =>
    rw [show defaultsOf params X.env = ([], []) from hdef]
    refine wpAny_bind (wpAny_pure (wpAny_bind (wpAny_holding (wpAny_pure ?_))))
    rw [makeFunction_eq]
    simp only [hkw, List.zip_nil_left, List.filterMap_nil, List.isEmpty_nil, if_true, pure_bind]
    exact core .none H s I (LamX.ExtN.refl H) hT rfl
  | some k =>
    obtain ⟨j, p, e⟩ := hdef
    rw [e]
    show wpAny _ _ (do let dv ← (do let v ← eval (.Constant (.int k) j p) X.env; return v :: (← holding [v] (evalAll []))); let kdv ← holding dv (evalAllOpt []); makeFunction "<lambda>" (X.env.qual ++ "<lambda>") params (.expr body) scope X.env dv kdv [] pos pos.line) Q E s
    refine wpAny_bind (wpAny_bind (wpAny_Constant_int (wpAny_bind (wpAny_holding (wpAny_pure (wpAny_pure (wpAny_bind (wpAny_holding (wpAny_pure ?_)))))))))
    rw [makeFunction_eq]
    simp only [hkw, List.zip_nil_left, List.filterMap_nil, List.isEmpty_nil, List.isEmpty_cons, if_true, pure_bind, Bool.false_eq_true, if_false]
    refine wpAny_bind (wpAny_newTextTuple ?_)
    have k1 : ∀ b o, s.heap.get? b = some o → (s.heap.push { cls := .type "tuple", data := .seq [Value.int k s.toks].toArray }).get? b = some o := fun b o e => Heap.get?_push_of_some _ e
    have ob : ObjOk X.prog X.w (upd H s.heap.objs.size (.tup [.int k])) (s.heap.push { cls := .type "tuple", data := .seq [Value.int k s.toks].toArray }) s.heap.objs.size (.tup [.int k]) := by
      refine ⟨?_, [Value.int k s.toks], .cons ⟨_, rfl⟩ .nil, ⟨_, Heap.get?_push_size _ rfl, rfl, _, rfl⟩⟩
      show 1 ≤ sizeLine
      rw [sizeLine_eq]
      decide
    have I1 : Inv X pins σ (upd H s.heap.objs.size (.tup [.int k])) { s with heap := s.heap.push { cls := .type "tuple", data := .seq [Value.int k s.toks].toArray }, toks := s.toks + 1 } := I.laid (t' := s.toks + 1) k1 (Nat.le_refl _) ob
    have ext : ∀ b o, H b = some o → upd H s.heap.objs.size (.tup [.int k]) b = some o := fun b o e => by
      rw [upd_ne (ne_of_none e (I.hok.fresh (Nat.le_refl _)))]
      exact e
    exact core (.ref s.heap.objs.size) _ _ I1 (LamX.ExtN.of ext) (hT.ext ext) ⟨_, rfl, upd_same⟩
end
/-! ### its names -/
/-- captured names and globals; names of its own that the maker does not have -/
structure LmS (N : List Str) (sc scope : Scope) : Prop where
  kind : scope.kind = .function
  co : scope.isCoroutine = false
  gen : scope.isGenerator = false
  own : ∀ y ∈ scope.names, y.2 ≠ .cell
  loc : ∀ y ∈ scope.names, y.2 = .local → y.1 ∉ N
  free : ∀ y ∈ scope.names, y.2 = .free → sc.names.lookup y.1 = some .cell ∨ sc.names.lookup y.1 = some .free
def lmSB (N : List Str) (sc scope : Scope) : Bool :=
  decide (scope.kind = .function) && !scope.isCoroutine && !scope.isGenerator && scope.names.all fun y => !decide (y.2 = .cell) && (!decide (y.2 = .local) || !N.contains y.1) && (!decide (y.2 = .free) || decide (sc.names.lookup y.1 = some .cell) || decide (sc.names.lookup y.1 = some .free))
theorem lmS_by {N : List Str} {sc scope : Scope} (h : lmSB N sc scope = true) : LmS N sc scope := by
  unfold lmSB at h
  simp only [Bool.and_eq_true, Bool.or_eq_true, Bool.not_eq_true', decide_eq_true_eq, decide_eq_false_iff_not, List.all_eq_true] at h
  obtain ⟨⟨⟨h1, h2⟩, h3⟩, h4⟩ := h
  refine ⟨h1, h2, h3, fun y hy => (h4 y hy).1.1, fun y hy e hN => ?_, fun y hy e => ?_⟩
  · rcases (h4 y hy).1.2 with z | z
    · exact z e
    · rw [List.contains_iff_mem.mpr hN] at z
      cases z
  · rcases (h4 y hy).2 with (z | z) | z
    · exact absurd e z
    · exact .inl z
    · exact .inr z
theorem LmS.has {X : Cx} {scope : Scope} (L : LmS X.N X.env.scope scope) (ok : X.Ok) : ∀ y ∈ scope.names, y.2 = .free → ∃ c, X.env.cells.lookup y.1 = some c := fun y hy e => ok.has _ (L.free y hy e)
section
variable {X : Cx} {pins : List (Addr × Obj)} {σ : L2.St} {H HZ : Hp} {s s1 : Shared}
theorem l_enter {A : Around} {outer : List Env} {E : XK} {scope : Scope} {f c' : Addr} {h₁ : Heap} {tk : Nat} {binds : List (Str × Value)} (I : Inv X pins σ H s) (L : LmS X.N X.env.scope scope) (e0 : Env0 X.prog X.w X.K X.mg X.base A outer s1 HZ) (hd : A.handled = none)
    (un : Un (frs X.stack) [] H HZ s.heap s1.heap) (hns : h₁.Ns s1.heap.objs.size fun y => binds.reverse.lookup y) (kp : ∀ b o, s1.heap.get? b = some o → h₁.get? b = some o) :
    Inv (LamX.lamCx X A outer s1 HZ E scope f c') [] σ HZ { s1 with heap := h₁, toks := tk } := by
  have hfree := L.has I.ok
  have cm : ∀ {y c}, (cloFrom X.env.cells scope.names []).lookup y = some c → X.env.cells.lookup y = some c := fun {y c} e => by
    rcases cloFrom_mem (PySem.mem_of_lookup e) with hm | ⟨h1, h2⟩
    · cases hm
    · obtain ⟨c1, hc⟩ := hfree _ h1 rfl
      have hc : X.env.cells.lookup y = some c1 := hc
      have e2 : c = c1 := by
        rw [h2, hc] <;> rfl
      rw [e2]
      exact hc
  have look : ∀ {y}, scope.names.lookup y = some .free → ∃ c, (cloFrom X.env.cells scope.names []).lookup y = some c := fun {y} hl => by
    have hy : (y, NameKind.free) ∈ scope.names := PySem.mem_of_lookup hl
    exact mem_lookup (cloFrom_has (cells := X.env.cells) (acc := []) hy)
  have cellK : ∀ {c : Addr} {v : Option Value}, H c = none → s.heap.IsCell c v → h₁.IsCell c v := fun {c v} n ⟨o, ho, hd⟩ => by
    obtain ⟨sl, q⟩ := un.any ho n (by simp)
    exact ⟨_, kp _ _ q, hd⟩
  have noA : ∀ b : Addr, b ∉ (LamX.lamCx X A outer s1 HZ E scope f c').ex := fun b z => absurd (show b ∈ ([] : List Addr) from z) (by simp)
  refine ⟨⟨e0.mod, L.kind, rfl, rfl, Nat.le_refl _, fun y z c e1 e2 => I.ok.inj y z c (cm e1) (cm e2), fun y hy => ?_, fun y c z _ => ?_, fun _ => hd, Around.frames_deeper e0.frames, .inr ⟨rfl, rfl⟩, fun b z => absurd z (noA b), e0.bs, e0.bsz, fun b _ _ => noA b,
      fun b z => absurd z (noA b), e0.funs, e0.frf⟩,
    rfl, e0.bare, Un.kept kp, ⟨_, hns, fun i y v e1 e2 e3 => ?_⟩, fun y c e => ?_, e0.hok.fresh (Nat.le_refl _), fun y c e => ?_, fun q hq => absurd (show q ∈ ([] : List (Addr × Obj)) ++ [] from hq) (by simp), e0.hok.kept kp, I.len⟩
  · have hy : scope.names.lookup y = some .cell ∨ scope.names.lookup y = some .free := hy
    rcases hy with hy | hy
    · exact absurd rfl (L.own _ (PySem.mem_of_lookup hy))
    · exact look hy
  · have z : false = true := z
    cases z
  · have e3 : Vis scope y := e3
    rcases e3 with k | k | k
    · exact absurd (List.mem_of_getElem? e1) (L.loc _ (PySem.mem_of_lookup k) rfl)
    · exact absurd rfl (L.own _ (PySem.mem_of_lookup k))
    · obtain ⟨m, hn, hl⟩ := I.loc
      have hvis : Vis X.env.scope y := (L.free _ (PySem.mem_of_lookup k) rfl).elim (fun k => .inr (.inl k)) (fun k => .inr (.inr k))
      obtain ⟨w', r, q⟩ := hl i y v e1 e2 hvis
      obtain ⟨c2, h2⟩ := look k
      refine ⟨w', r, .inr ⟨.inr k, c2, h2, ?_⟩⟩
      have c1 := cm h2
      rcases q with ⟨k', _⟩ | ⟨_, c3, e', z⟩
      · have k' : X.env.scope.names.lookup y = some .local := k'
        rcases L.free _ (PySem.mem_of_lookup k) rfl with k2 | k2 <;> rw [show X.env.scope.names.lookup y = _ from k2] at k' <;> cases k'
      · rw [c1] at e'
        cases e'
        exact cellK (I.freeC y _ c1) z
  · obtain ⟨w', z⟩ := I.cell y c (cm e)
    exact ⟨w', cellK (I.freeC y c (cm e)) z⟩
  · obtain ⟨v, o, ho, hd⟩ := I.cell y c (cm e)
    exact un.free c o ho (I.freeC y c (cm e)) (by simp)
/-- how a lambda is called with nothing -/
def Bnd (df : Option Int) (params : Arguments) (scope : Scope) : Prop := match df with
  | none => ∀ (q : Str) (body : Expr) (cl : List (Str × Addr)) (pm cv ctv : Value), bindArgs (lfd "<lambda>" q params body scope cl .none pm cv ctv) ⟨[], []⟩ = pure []
  | some _ => ∃ x : Str, scope.names.lookup x = some .local ∧ ∀ (q : Str) (body : Expr) (cl : List (Str × Addr)) (dV pm cv ctv : Value), ∃ k : Option (Array Value) → Sem (List (Str × Value)),
      bindArgs (lfd "<lambda>" q params body scope cl dV pm cv ctv) ⟨[], []⟩ = seqItems? dV >>= k ∧ ∀ v : Value, k (some #[v]) = pure [(x, v)]
/-- x(), in the def that got the lambda -/
theorem pe_lact {CXg : CXT} {Eg : XK} {Ng : List Str} {qg : Str} {sg : Scope} {g f c' : Addr} {cdg pm ctv dV : Value} {df : Option Int} {params : Arguments} {body : Expr} {scope : Scope} {k i : Nat} {a : Str} {pn : List (Addr × Obj)} {xe : Value → Shared → Prop} {W : WX} {t : XK → TE} {p1 p2 : Pos}
    (I : Inv X pins σ H s) (L : LmS X.N X.env.scope scope) (hf : s.heap.get? f = some (lob "<lambda>" (X.env.qual ++ "<lambda>") params body scope (cloFrom X.env.cells scope.names []) dV pm c' ctv)) (hfn : H f = none) (hfr : f ∉ frs X.stack)
    (hbind : Bnd df params scope)
    (tk : Takes ((cxOf CXg X.prog X.w X.K X.mg X.base Ng qg sg g cdg X.A X.stack s H Eg).tr pn xe) W) (hr : Room (k + 1) (X.A.deeper (envOfC qg sg s.heap.objs.size g cdg)))
    (hbody : ∀ (A : Around) (outer : List Env) (s : Shared) (H : Hp) (E : XK), Room k (A.deeper (LamX.lamEnv X scope s.heap.objs.size f c')) → PE (LamX.lamCx X A outer s H E scope f c') body (t E))
    (hN : Ng[i]? = some a) (hv : Vis sg a) (hd : (a == ("__debug__" : Str)) = false := by decide) (hcd : (a == ("__classdict__" : Str)) = false := by decide) :
    PE ((cxOf CXg X.prog X.w X.K X.mg X.base Ng qg sg g cdg X.A X.stack s H Eg).tr pn xe) (.Call (.Name a p1) [] [] p2)
      (fun σZ HZ Q => σZ[i]? = some (some (.ref f)) ∧ HZ c' = some (LamX.CodeO c' (X.env.qual ++ "<lambda>")) ∧ DfAt df dV HZ ∧ t (WE W σZ) σ HZ Q) := by
  refine ⟨fun pinsZ sZ σZ HZ Q IZ h => ?_⟩
  obtain ⟨hs, hc, hdf, ht⟩ := h
  refine wpAny_Call_Name_kw (thn ((pe_var (pos := p1) (i := i) hN hv hd hcd).run pinsZ sZ σZ HZ (fun v H1 => v = .ref f ∧ H1 = HZ) IZ ⟨.ref f, hs, rfl, rfl⟩) fun u s1 ⟨v, H1, I1, r1, q1⟩ => ?_)
  obtain ⟨ev, eH⟩ := q1
  subst ev
  rw [eH] at I1
  obtain rfl : u = Value.ref f := r1
  have of1 : s1.heap.get? f = some (lob "<lambda>" (X.env.qual ++ "<lambda>") params body scope (cloFrom X.env.cells scope.names []) dV pm c' ctv) := I1.base.keep f _ hf hfn hfr (fun z => nomatch (show f ∈ ([] : List Addr) from z))
  refine PySem.W.callWith_F0 ⟨_, _, _, _, of1⟩ ?_
  have un : Un (frs X.stack) [] H HZ s.heap s1.heap := I1.base
  obtain ⟨⟨oc, vs, t, hoc, hdc, hvc⟩, _, _⟩ := I1.hok c' _ hc
  have bnd : ∃ binds : List (Str × Value), BindsTo s1 (lfd "<lambda>" (X.env.qual ++ "<lambda>") params body scope (cloFrom X.env.cells scope.names []) dV pm (.ref c') ctv) ⟨[], []⟩ binds ∧ ∀ y ∈ binds, scope.names.lookup y.1 = some .local := by
    cases df with
    | none =>
      have e : dV = .none := hdf
      subst e
      exact ⟨[], BindsTo.of_eq (hbind _ _ _ _ _ _), fun y hy => absurd hy (by simp)⟩
    | some j =>
      obtain ⟨x, hx, hb⟩ := hbind
      obtain ⟨kk, b1, b2⟩ := hb (X.env.qual ++ "<lambda>") body (cloFrom X.env.cells scope.names []) dV pm (.ref c') ctv
      obtain ⟨T, e1, e2⟩ := hdf
      obtain ⟨_, its, r, ob, e3, e4, n, e5⟩ := I1.hok T _ e2
      cases r with
      | cons r1 r2 =>
        rename_i u us
        cases r2
        subst e1
        refine ⟨[(x, u)], BindsTo.of_defaults rfl e3 e5 b1 (b2 u), fun y hy => ?_⟩
        rw [List.mem_singleton] at hy
        rw [hy]
        exact hx
  obtain ⟨binds, hbt, hbl⟩ := bnd
  have rc : codeAny (model X.prog X.w) (X.A.deeper (envOfC qg sg s.heap.objs.size g cdg)) (.call (.ref f) ⟨[], []⟩) (CR (L2.CX X.prog X.w) (envOfC qg sg s.heap.objs.size g cdg :: X.stack) X.prog X.w HZ s1 Q (WE W σZ)) s1 := by
    refine PySem.W.kla_callFunE hr.depth of1 rfl L.co L.gen rfl ⟨c', oc, vs, t, rfl, hoc, hdc, hvc⟩ ?_
    refine hbt _ _ _ _ (wpAny_newFunctionEnv (fun y hy => L.own y hy) hbl (fun h₁ hns hsb => ⟨I1.nolimit.fresh _ hsb, ?_⟩) L.kind)
    show codeAny _ _ (.expr body (LamX.lamEnv X scope s1.heap.objs.size f c')) _ _
    have kp : ∀ b o, s1.heap.get? b = some o → h₁.get? b = some o := fun b o e => hsb.extBut b o (Nat.ne_of_lt (Heap.lt_size e)) (Heap.get?_push_of_some _ e)
    have J : Inv (LamX.lamCx X (X.A.deeper (envOfC qg sg s.heap.objs.size g cdg)) (envOfC qg sg s.heap.objs.size g cdg :: X.stack) s1 HZ (WE W σZ) scope f c') [] σ HZ { s1 with heap := h₁, toks := s1.toks + binds.length } :=
      l_enter I L I1.env0 hr.hd un hns kp
    refine PySem.W.kla_codeExpr (wpAny_mono ((hbody _ _ s1 HZ _ (hr.deeper _)).run [] _ _ HZ Q J ht) (fun v s' hq => ?_) fun e s' hq => hq)
    obtain ⟨w', H', J', rv, q⟩ := hq
    exact ⟨w', H', J'.os, J'.bare, J'.base, J'.hok, rv, q⟩
  have hx := passAt tk σZ
  refine wpAny_call (codeAny_mono rc fun r s' hq => ?_)
  cases r with
  | error e => exact hx pinsZ HZ s1 e s' I1 hq
  | ok fl =>
    cases fl with
    | ret u => exact I1.after hq
    | next => exact False.elim hq
    | brk => exact False.elim hq
    | cont => exact False.elim hq
end
end OFx
end
section
set_option Elab.async false
set_option linter.all false
set_option maxRecDepth 100000
set_option maxHeartbeats 4000000
/-! The def that calls what it got and tells how it ended. -/
namespace OFx
open PySem PySem.Spec PySem.Calls PyProof.Rows L2
/-- the def at g makes TT of the reading of the lambda that it gets -/
def Gets (X : Cx) (df : Option Int) (Ng : List Str) (x : Str) (sg : Scope) (g : Addr) (cdg : Value) (bg : List Stmt) (a : Str) (q : Str) (TT : (XK → Hp → VK → Prop) → Hp → VK → Prop) : Prop :=
  ∀ (f c' : Addr) (dV : Value) (s : Shared) (H : Hp) (Q : VK) (tl : XK → Hp → VK → Prop),
    (∀ (W : WX) (pn : List (Addr × Obj)) (xe : Value → Shared → Prop) (p1 p2 : Pos), Takes ((cxOf C8.CX0 X.prog X.w X.K X.mg X.base Ng x sg g cdg X.A X.stack s H C8.E0).tr pn xe) W →
      PE ((cxOf C8.CX0 X.prog X.w X.K X.mg X.base Ng x sg g cdg X.A X.stack s H C8.E0).tr pn xe) (.Call (.Name a p1) [] [] p2) (fun σZ HZ Q => σZ[0]? = some (some (.ref f)) ∧ HZ c' = some (LamX.CodeO c' q) ∧ DfAt df dV HZ ∧ tl (WE W σZ) HZ Q)) →
    H c' = some (LamX.CodeO c' q) → DfAt df dV H → TT tl H Q →
    ∃ t, PSs (cxOf C8.CX0 X.prog X.w X.K X.mg X.base Ng x sg g cdg X.A X.stack s H C8.E0).nox bg t ∧ t { nx := fun _ H' => Q .non H', rt := Q } (L2.start Ng [.ref f]) H
section
variable {X : Cx}
/-- x(lambda: body), x(lambda p=k: body) -/
theorem pe_give {T : List (Addr × Str)} {TT : (XK → Hp → VK → Prop) → Hp → VK → Prop} {x a : Str} {g c P : Addr} {k : Nat} {df : Option Int} {pg : Arguments} {bg : List Stmt} {sg : Scope} {dV kV doc pm cdv ct oc : Value} {an od : Option Addr} {osl : Array (Option Value)} {Ng : List Str}
    {params : Arguments} {body : Expr} {scope : Scope} {t : XK → TE} {p lpos pos : Pos} (hg : Gl X x) (hm : X.mg x = some (.ref g)) (hk : PySem.W.keepIn X.K (.ref g) = true)
    (lk : X.K.lookup g = some ⟨oc, od, .func (PySem.W.fnOf x x pg bg sg dV kV doc pm an cdv ct), osl⟩) (hcg : PySem.W.codeIn X.K cdv x = true) (hb : L2.Binds X.K (PySem.W.fnOf x x pg bg sg dV kV doc pm an cdv ct) [a] []) (Sg : FnScope Ng [a] sg) (hNg : Ng[0]? = some a) (hva : Vis sg a)
    (hG : Gets X df Ng x sg g cdv bg a (X.env.qual ++ "<lambda>") TT)
    (TB : LamX.TabB X.base X.mg c P) (hcode : X.env.code = .ref c) (hmT : (P, X.env.qual ++ "<lambda>") ∈ T) (hu : ∀ p ∈ T, p.1 = P → p.2 = X.env.qual ++ "<lambda>") (hr : Room (k + 2) X.A) (L : LmS X.N X.env.scope scope) (hdef : Dfl df params X.env) (hkw : params.kwonlyargs = [])
    (hbind : Bnd df params scope)
    (hbody : ∀ (A : Around) (outer : List Env) (s : Shared) (H : Hp) (E : XK) (f c' : Addr), Room k (A.deeper (LamX.lamEnv X scope s.heap.objs.size f c')) → PE (LamX.lamCx X A outer s H E scope f c') body (t E))
    (hdb : (x == ("__debug__" : Str)) = false := by decide) (hd : (a == ("__debug__" : Str)) = false := by decide) (hcd : (a == ("__classdict__" : Str)) = false := by decide) :
    PE X (.Call (.Name x p) [.Lambda params body scope lpos] [] pos) (LamX.tLam T TT t) := by
  refine ⟨fun pins s σ H Q I h => ?_⟩
  obtain ⟨hT, h⟩ := h
  refine wpAny_Call_Name_kw (ld_glob I hg hm ?_ hdb)
  refine PySem.W.callWith_K (h₀ := X.base) I.ok.mod.kin hk ?_ (by rfl) (by rfl)
  show wpAny _ _ (spliced ((false, eval (.Lambda params body scope lpos) X.env) :: backTo pos (starEach [] X.env))) _ _ s
  refine Calls.spliced_cons (l_make I TB hcode hmT hu hT hdef hkw (L.has I.ok) fun f c' dV' pm' ctv H1 s' I1 eN T1 hf hfn hfr hco hdA => ?_)
  refine Calls.spliced_nil ⟨I1.kIn, ?_⟩
  have rc : codeAny (model X.prog X.w) X.A (.call (.ref g) ⟨[.ref f], []⟩) (CR C8.CX0 X.stack X.prog X.w H1 s' Q C8.E0) s' := by
    refine LamX.run_ofS (N := Ng) (ps := [a]) (us := [.ref f]) (vs := [.ref f]) lk hcg Sg hr I1.env0 (hb s' [.ref f] I1.kIn rfl) (.cons rfl .nil) rfl fun hr' => ?_
    obtain ⟨t', ht', hq'⟩ := hG f c' dV' s' H1 Q (fun E H' Q' => t E σ H' Q') (fun W pn xe p1 p2 tk => pe_lact (i := 0) I1 L hf hfn hfr hbind tk hr' (fun A outer s H E hr2 => hbody A outer s H E f c' hr2) hNg hva hd hcd) hco hdA (h H1 eN T1)
    exact ⟨t', ht'.nox, hq'⟩
  refine wpAny_call (codeAny_mono rc fun r s2 hq => ?_)
  cases r with
  | error e => exact (show False from hq).elim
  | ok fl =>
    cases fl with
    | ret u => exact I1.after hq
    | next => exact False.elim hq
    | brk => exact False.elim hq
    | cont => exact False.elim hq
end
/-! ### what the def makes of it: [value], or (word, field) -/
def saidW (K : PySem.W.Frag) (Q : VK) : List (Value × Str × Str) → XK
  | [] => fun _ _ _ => False
  | c :: more => fun cls d H => ∃ b, PySem.W.exmOne K cls c.1 = some b ∧ (b = true → cls = c.1 ∧ ∃ (dd : Addr) (fs : List (Str × V)) (v : V), d = some dd ∧ H dd = some (.xd fs) ∧ fs.lookup c.2.2 = some v ∧ ∀ t, H t = none → Q (.ref t) (upd H t (.tup [.str c.2.1, v]))) ∧
      (b = false → saidW K Q more cls d H)
def TTsaid (K : PySem.W.Frag) (l : List (Value × Str × Str)) : (XK → Hp → VK → Prop) → Hp → VK → Prop := fun tl H Q =>
  ∀ (E : XK) (Q2 : VK), (∀ cls d H', saidW K Q l cls d H' → E cls d H') → (∀ v H', (∀ p, H' p = none → (p == sysModules) = false → Q (.ref p) (upd H' p (.lst [v]))) → Q2 v H') → tl E H Q2
/-- a list display; what is new is not sys.modules -/
def tLstN (t : TA) : TE := fun σ H Q => t σ H fun xs H1 => xs.length ≤ sizeLine ∧ ∀ p, H1 p = none → (p == sysModules) = false → Q (.ref p) (upd H1 p (.lst xs))
section
variable {X : Cx}
theorem pe_lstN {es : List Expr} {t : TA} {pos : Pos} (ha : PA X es t) : PE X (.List es pos) (tLstN t) := by
  refine ⟨fun pins s σ H Q I h => wpAny_List_spliced (thn (ha.run pos pins s σ H _ I h) fun us s1 hh => ?_)⟩
  obtain ⟨vs, H1, I1, r, z, q⟩ := hh
  refine ⟨by rw [← r.length]; exact z, .ref s1.heap.objs.size, upd H1 s1.heap.objs.size (.lst vs), I1.laid (t' := s1.toks) (fun b u e => Heap.get?_push_of_some _ e) (Nat.le_refl _) ⟨z, us, 0, r, Heap.get?_push_size _ rfl⟩, rfl, ?_⟩
  exact q _ (I1.hok.fresh (Nat.le_refl _)) (beq_eq_false_iff_ne.mpr (Nat.ne_of_gt I1.big))
end
end OFx
end
section
set_option Elab.async false
set_option linter.all false
set_option maxRecDepth 100000
set_option maxHeartbeats 4000000
/-! Data of any depth over the layer: what a value shows as, == and != of it; heaps that grow. -/
namespace OFx
open PySem PySem.Spec PySem.Calls PyProof.Rows L2
mutual
inductive Rp (H : Hp) : V → PyData → Prop
  | non : Rp H .non .none
  | bl (b : Bool) : Rp H (.bl b) (.bool b)
  | int (i : Int) : Rp H (.int i) (.int i)
  | str (x : Str) : Rp H (.str x) (.str x)
  | lst {a : Addr} {xs : List V} {ds : List PyData} : H a = some (.lst xs) → (a == sysModules) = false → RpAll H xs ds → Rp H (.ref a) (.list ds)
  | tup {a : Addr} {xs : List V} {ds : List PyData} : H a = some (.tup xs) → RpAll H xs ds → Rp H (.ref a) (.tuple ds)
  | mt {a : Addr} : H a = some (.dK []) → Rp H (.ref a) (.dict [])
inductive RpAll (H : Hp) : List V → List PyData → Prop
  | nil : RpAll H [] []
  | cons {v : V} {vs : List V} {d : PyData} {ds : List PyData} : Rp H v d → RpAll H vs ds → RpAll H (v :: vs) (d :: ds)
end
/-- what stays: all but the code tables and the dicts that hold something -/
def Fx : HO → Bool
  | .tbl _ => false
  | .dK (_ :: _) => false
  | _ => true
def Ex (H H' : Hp) : Prop := ∀ b o, H b = some o → Fx o = true → H' b = some o
theorem Ex.refl (H : Hp) : Ex H H := fun _ _ e _ => e
theorem Ex.trans {H H1 H2 : Hp} (a : Ex H H1) (b : Ex H1 H2) : Ex H H2 := fun c o e f => b c o (a c o e f) f
theorem Ex.same {H H' : Hp} (a : Same H H') : Ex H H' := fun c o e _ => a c o e
theorem Ex.extN {H H' : Hp} (a : LamX.ExtN H H') : Ex H H' := fun c o e f => a c o e fun ps z => by
  rw [z] at f
  cases f
/-- all but the thing at m stays -/
def Sd (m : Addr) (H H' : Hp) : Prop := ∀ b o, b ≠ m → H b = some o → H' b = some o
theorem Sd.refl (m : Addr) (H : Hp) : Sd m H H := fun _ _ _ e => e
theorem Sd.trans {m : Addr} {H H1 H2 : Hp} (a : Sd m H H1) (b : Sd m H1 H2) : Sd m H H2 := fun c o n e => b c o n (a c o n e)
theorem Sd.same {m : Addr} {H H' : Hp} (a : Same H H') : Sd m H H' := fun c o _ e => a c o e
theorem Ex.sd {m : Addr} {H H' : Hp} {kv : Key × V} {r : List (Key × V)} (a : Sd m H H') (hm : H m = some (.dK (kv :: r))) : Ex H H' := fun c o e f => a c o (fun z => by
  rw [z, hm] at e
  cases e
  cases f) e
theorem same_upd {H : Hp} {p : Addr} {o : HO} (h : H p = none) : Same H (upd H p o) := fun b x e => by
  rw [upd_ne (ne_of_none e h)]
  exact e
theorem Ex.upd {H : Hp} {p : Addr} {o : HO} (h : H p = none) : Ex H (upd H p o) := .same (same_upd h)
mutual
theorem Rp.mono {H H' : Hp} (e : Ex H H') : ∀ {v : V} {d : PyData}, Rp H v d → Rp H' v d
  | _, _, .non => .non
  | _, _, .bl b => .bl b
  | _, _, .int i => .int i
  | _, _, .str x => .str x
  | _, _, .lst h1 h2 h3 => .lst (e _ _ h1 rfl) h2 (h3.mono e)
  | _, _, .tup h1 h3 => .tup (e _ _ h1 rfl) (h3.mono e)
  | _, _, .mt h1 => .mt (e _ _ h1 rfl)
theorem RpAll.mono {H H' : Hp} (e : Ex H H') : ∀ {vs : List V} {ds : List PyData}, RpAll H vs ds → RpAll H' vs ds
  | _, _, .nil => .nil
  | _, _, .cons h1 h2 => .cons (h1.mono e) (h2.mono e)
end
mutual
theorem Rp.reads {P : Program} {w : World} {H : Hp} {h : Heap} (ok : HOk P w H h) : ∀ {v : V} {d : PyData}, Rp H v d → ∀ u, RelV v u → ∃ as, Reads h u d as ∧ sysModules ∉ as
  | _, _, .non, _, r => by cases r; exact ⟨_, .none, by simp⟩
  | _, _, .bl b, _, r => by cases r; exact ⟨_, .bool b, by simp⟩
  | _, _, .int i, _, r => by obtain ⟨t, rfl⟩ := r; exact ⟨_, .int i t, by simp⟩
  | _, _, .str x, _, r => by obtain ⟨t, rfl⟩ := r; exact ⟨_, .str x t, by simp⟩
  | _, _, .lst h1 h2 h3, _, r => by
    cases r
    obtain ⟨_, its, n, rv, e⟩ := ok _ _ h1
    obtain ⟨as, q, z⟩ := h3.reads ok its rv
    refine ⟨_, .list e rfl rfl q, fun hm => ?_⟩
    rcases List.mem_cons.mp hm with e2 | e2
    · rw [← e2] at h2
      simp at h2
    · exact z e2
  | _, _, .tup h1 h3, _, r => by
    cases r
    obtain ⟨_, its, rv, o, e, hc, n, hd⟩ := ok _ _ h1
    obtain ⟨as, q, z⟩ := h3.reads ok its rv
    exact ⟨_, .tuple e hc hd q, z⟩
  | _, _, .mt h1, _, r => by
    cases r
    obtain ⟨_, hs, vs, kv, o, es, ep, e, hx, hd, hk, hp, _⟩ := ok _ _ h1
    cases kv
    have e0 : es.toList = [] := by
      cases q : es.toList with
      | nil => rfl
      | cons a r =>
        rw [q] at hp
        cases hp
    refine ⟨_, .dict (kvs := []) (as := []) (bs := []) e hx.1 hd (by rw [e0]; exact .nil) (by rw [e0]; exact .nil), fun hm => ?_⟩
    simp at hm
    rw [← hm] at hs
    simp at hs
theorem RpAll.reads {P : Program} {w : World} {H : Hp} {h : Heap} (ok : HOk P w H h) : ∀ {vs : List V} {ds : List PyData}, RpAll H vs ds → ∀ us, Vals vs us → ∃ as, ReadsAll h us ds as ∧ sysModules ∉ as
  | _, _, .nil, _, r => by cases r; exact ⟨_, .nil, by simp⟩
  | _, _, .cons h1 h2, _, r => by
    cases r with
    | cons r1 r2 =>
      obtain ⟨as, q1, z1⟩ := h1.reads ok _ r1
      obtain ⟨bs, q2, z2⟩ := h2.reads ok _ r2
      exact ⟨_, .cons q1 q2, fun hm => (List.mem_append.mp hm).elim z1 z2⟩
end
/-! ### repr(x) -/
section
variable {prog : Program} {w : World} {h₀ : Heap}
theorem repr_reads : ∀ {v : Value} {d : PyData} {as : List Addr}, Reads h₀ v d as → d.showable = true → sysModules ∉ as → d.shown.length ≤ sizeLine →
    ∀ (A : Around) (E : Value → Shared → Prop) (s : Shared) (Q : Value → Shared → Prop), A.guards = some [] → A.units + 1 + d.depth < cLine → (∀ b o, h₀.get? b = some o → s.heap.get? b = some o) →
    (∀ h' tk u, (∀ b o, s.heap.get? b = some o → h'.get? b = some o) → Q (.str d.shown u) { s with heap := h', toks := tk }) → wpAny (model prog w) A (call (.builtin "repr") [v]) Q E s
  | _, _, _, .none, _, _, _, A, E, s, Q, _, _, _, hQ => by
    simp only [PyData.shown] at hQ
    exact P.repr_of_none (hQ s.heap _ _ fun _ _ e => e)
  | _, _, _, .bool b, _, _, _, A, E, s, Q, _, _, _, hQ => by
    simp only [PyData.shown] at hQ
    exact P.repr_of_bool (hQ s.heap _ _ fun _ _ e => e)
  | _, _, _, .int i t, hs, _, _, A, E, s, Q, _, _, _, hQ => by
    simp only [PyData.shown] at hQ
    exact P.repr_of_int (by simpa [PyData.showable] using hs) (hQ s.heap _ _ fun _ _ e => e)
  | _, _, _, .str x t, _, _, hz, A, E, s, Q, _, _, _, hQ => by
    simp only [PyData.shown] at hQ
    exact P.repr_of_str (hQ s.heap _ _ fun _ _ e => e) (by simpa only [PyData.shown] using hz)
  | _, _, _, .list (a := a) (vs := vs) (xs := xs) h1 h2 h3 h4, hs, hsm, hz, A, E, s, Q, hg, hu, hk0, hQ => by
    have hz' : (listText (PyData.shownAll xs)).length ≤ sizeLine := by simpa only [PyData.shown] using hz
    obtain ⟨bs, hb, hk⟩ := ReprAllK.of_readsAll (prog := prog) (w := w) h4 (by simpa [PyData.showable] using hs) (fun _ hm => hsm (List.mem_cons_of_mem _ hm)) (fun t ht => Nat.le_trans (listText_mem_le ht) hz')
    have r : Reads h₀ (.ref a) (.list xs) _ := .list h1 h2 h3 h4
    have hna : a ∉ bs := not_mem_of_deeper r (by simp only [PyData.depth]; omega) hb
    simp only [PyData.depth] at hu
    simp only [PyData.shown] at hQ
    have hu1 : A.in1.units + (PyData.depthAll xs + 1) < cLine := by
      show A.units + 1 + _ < _
      omega
    refine call_repr_slot (by omega) ⟨_, hk0 _ _ h1, h2⟩ F.slot_list_repr.toG ?_
    obtain ⟨l⟩ := vs
    cases l with
    | nil =>
      have h4' : ReadsAll h₀ [] xs _ := h4
      cases h4'
      simp only [PyData.shownAll, listText_nil] at hQ
      exact call_list_repr_empty ⟨_, hk0 _ _ h1, h2⟩ (hk0 _ _ h1) h3 ⟨_, _, rfl, hQ s.heap _ _ fun _ _ e => e⟩
    | cons x l =>
      exact call_list_reprK h1 h2 h3 hna (by simpa using hk.length_eq) (fun i y e => hk.item i y (by simpa using e)) hg (fun b _ => Clear.nil b) hu1 hk0 (fun h' u tk hk' => ⟨_, _, rfl, hQ h' tk u hk'⟩) hz'
  | _, _, _, .tuple (a := a) (xs := xs) h1 h2 h3 h4, hs, hsm, hz, A, E, s, Q, hg, hu, hk0, hQ => by
    have hz' : (tupleText (PyData.shownAll xs)).length ≤ sizeLine := by simpa only [PyData.shown] using hz
    obtain ⟨bs, hb, hk⟩ := ReprAllK.of_readsAll (prog := prog) (w := w) h4 (by simpa [PyData.showable] using hs) (fun _ hm => hsm hm) (fun t ht => Nat.le_trans (tupleText_mem_le ht) hz')
    have r : Reads h₀ (.ref a) (.tuple xs) _ := .tuple h1 h2 h3 h4
    have hna : a ∉ bs := not_mem_of_deeper r (by simp only [PyData.depth]; omega) hb
    simp only [PyData.depth] at hu
    simp only [PyData.shown] at hQ
    have hu1 : A.in1.units + (PyData.depthAll xs + 1) < cLine := by
      show A.units + 1 + _ < _
      omega
    refine call_repr_slot (by omega) ⟨_, hk0 _ _ h1, h2⟩ F.slot_tuple_repr ?_
    exact call_tuple_reprK h1 h2 h3 hna hk hg (fun b _ => Clear.nil b) hu1 hk0 (fun h' u tk hk' => ⟨_, _, rfl, hQ h' tk u hk'⟩) hz'
  | _, _, _, .dict (a := a) (es := es) (kvs := kvs) (as := as₁) (bs := bs₁) h1 h2 h3 h4 h5, hs, hsm, hz, A, E, s, Q, hg, hu, hk0, hQ => by
    have hz' : (dictText (PyData.shownKv kvs)).length ≤ sizeLine := by simpa only [PyData.shown] using hz
    obtain ⟨hs1, hs2⟩ := PyData.showableKv_split kvs (by simpa [PyData.showable] using hs)
    obtain ⟨b1, hb1, k1⟩ := ReprAllK.of_readsAll (prog := prog) (w := w) h4 hs1 (fun _ hm => hsm (List.mem_cons_of_mem _ (List.mem_append_left _ hm))) (fun t ht => let ⟨p, hp, hl⟩ := PyData.shownKv_key_le kvs t ht; Nat.le_trans hl (Nat.le_trans (dictText_mem_le hp) hz'))
    obtain ⟨b2, hb2, k2⟩ := ReprAllK.of_readsAll (prog := prog) (w := w) h5 hs2 (fun _ hm => hsm (List.mem_cons_of_mem _ (List.mem_append_right _ hm))) (fun t ht => let ⟨p, hp, hl⟩ := PyData.shownKv_val_le kvs t ht; Nat.le_trans hl (Nat.le_trans (dictText_mem_le hp) hz'))
    have r : Reads h₀ (.ref a) (.dict kvs) _ := .dict h1 h2 h3 h4 h5
    have hb : ReadAtMost h₀ (PyData.depthKv kvs) (b1 ++ b2) := (hb1.mono (PyData.depthAll_keys_le kvs)).append (hb2.mono (PyData.depthAll_vals_le kvs))
    have hna : a ∉ b1 ++ b2 := not_mem_of_deeper r (by simp only [PyData.depth]; omega) hb
    have hsys : (a == sysModules) = false := beq_eq_false_iff_ne.mpr fun e => hsm (e ▸ List.mem_cons_self ..)
    simp only [PyData.depth] at hu
    simp only [PyData.shown, PyData.shownKv_eq] at hQ
    have hu1 : A.in1.units + (PyData.depthKv kvs + 1) < cLine := by
      show A.units + 1 + _ < _
      omega
    refine call_repr_slot (by omega) ⟨_, hk0 _ _ h1, h2⟩ F.slot_dict_repr ?_
    exact call_dict_reprK h1 h2 h3 hsys hna (ReprEntriesK.of_two es.toList _ _
      (k1.more_le (fun b hb => List.mem_append_left _ hb) (PyData.depthAll_keys_le kvs)) (k2.more_le (fun b hb => List.mem_append_right _ hb) (PyData.depthAll_vals_le kvs)))
      hg (fun b _ => Clear.nil b) hu1 hk0 (fun h' u tk hk' => ⟨_, _, rfl, hQ h' tk u hk'⟩) (by rw [← PyData.shownKv_eq]; exact hz')
end
section
variable {X : Cx}
def rRepr : List V → Hp → VK → Prop := fun xs H Q => ∃ x d, xs = [x] ∧ Rp H x d ∧ d.showable = true ∧ d.shown.length ≤ sizeLine ∧ d.depth ≤ 60 ∧ Q (.str d.shown) H
theorem cr_repr (hg : X.A.guards = some []) (hu : X.A.units + 64 < cLine) : CallR X (.builtin "repr") rRepr := by
  intro pins s σ H xs us Q I r h
  obtain ⟨x, d, rfl, hx, h1, h2, h3, q⟩ := h
  obtain ⟨u, rfl, ru⟩ := vals1 r
  obtain ⟨as, rd, hs⟩ := hx.reads I.hok u ru
  exact repr_reads rd h1 hs h2 _ _ _ _ hg (by omega) (fun _ _ e => e) fun h' tk t k => ⟨.str d.shown, H, I.kept k, ⟨t, rfl⟩, q⟩
def rEqP : R2 := fun x y H Q => ∃ d e, Rp H x d ∧ Rp H y e ∧ SeqAt.shaped d = true ∧ SeqAt.shaped e = true ∧ Q (.bl (PyData.eqv d e)) H
def rNeP : R2 := fun x y H Q => ∃ d e, Rp H x d ∧ Rp H y e ∧ SeqAt.shaped d = true ∧ SeqAt.shaped e = true ∧ Q (.bl (!PyData.eqv d e)) H
theorem op_eqP (hu : X.A.units + 64 < cLine) : OpR X (compareOp .Eq) rEqP := by
  intro pins s σ H x y v u Q I rx ry h
  obtain ⟨d, e, hd, he, sd, se, q⟩ := h
  obtain ⟨as, r1, _⟩ := hd.reads I.hok v rx
  obtain ⟨bs, r2, _⟩ := he.reads I.hok u ry
  exact SeqAt.compareEq_shaped r1 r2 sd se hu ⟨.bl _, H, I, rfl, q⟩
theorem op_neP (hu : X.A.units + 64 < cLine) : OpR X (compareOp .NotEq) rNeP := by
  intro pins s σ H x y v u Q I rx ry h
  obtain ⟨d, e, hd, he, sd, se, q⟩ := h
  obtain ⟨as, r1, _⟩ := hd.reads I.hok v rx
  obtain ⟨bs, r2, _⟩ := he.reads I.hok u ry
  exact SeqAt.compareNe_shaped r1 r2 sd se hu ⟨.bl _, H, I, rfl, q⟩
end
end OFx
end
section
set_option Elab.async false
set_option linter.all false
set_option maxRecDepth 100000
set_option maxHeartbeats 4000000
/-! enumerate over a tuple. -/
namespace OFx
open PySem PySem.Spec PySem.Calls PyProof.Rows L2
theorem meets_en1 {v : Value} {o : Obj} {H : Heap → Prop} (B : Begins v o H) :
    Meets (Builtin.«enumerate.__new__» ⟨[.type "enumerate", v], []⟩) (fun _ R s => H s.heap ∧
      R (.ok (.ret (.ref (s.heap.push o).objs.size))) { s with heap := (s.heap.push o).push { cls := .type "enumerate", data := .fields #[.none, .bool false, .ref s.heap.objs.size, rawInt 0, .none, .none] } }) :=
  .of_wp fun prog w A R s hh => by
    obtain ⟨hp, g, d, tk, os⟩ := s; obtain ⟨h1, h⟩ := hh
    have hsub := sub_enumerate
    have q1 : ∀ {A' : Around} {E : Value → Shared → Prop} {Q : Value → Shared → Prop}, Q (.ref hp.objs.size) ⟨hp.push o, g, d, tk, os⟩ → wpAny (model prog w) A' (pyIter v) Q E ⟨hp, g, d, tk, os⟩ :=
      fun q => B.iter prog w _ _ ⟨hp, g, d, tk, os⟩ _ h1 q
    wp_walk using q1
    refine wpAny_stack_any fun st => wpAny_pure ?_
    split
    · rename_i c _ _ _ _ _
      cases (c == Value.type "enumerate") <;> (wp_walk using q1; exact ⟨_, rfl, h⟩)
    · wp_walk using q1
      exact ⟨_, rfl, h⟩
section
variable {prog : Program} {w : World} {A : Around} {E : Value → Shared → Prop} {s : Shared}
theorem enum1_begins {v : Value} {o : Obj} {H : Heap → Prop} {Q : Value → Shared → Prop} (B : Begins v o H) (h1 : H s.heap)
    (h : ∀ h', IsEnum h' (s.heap.objs.size + 1) s.heap.objs.size 0 .none → h'.get? s.heap.objs.size = some o →
      (∀ b o, s.heap.get? b = some o → h'.get? b = some o) → Q (.ref (s.heap.objs.size + 1)) { s with heap := h' }) : wpAny (model prog w) A (call (.type "enumerate") [v]) Q E s := by
  refine callType_new F.called_enumerate (by decide) (F.typeCall_enumerate_1 _) (F.newCall_enumerate_1 _) (fun obj => F.args_object_init_2 obj _) F.entry_enumerate_new (meets_en1 B) ⟨h1, ?_⟩
  have hz : (s.heap.push o).objs.size = s.heap.objs.size + 1 := Heap.size_push ..
  show _ ∧ _
  rw [hz]
  have he : IsEnum ((s.heap.push o).push { cls := .type "enumerate", data := .fields #[.none, .bool false, .ref s.heap.objs.size, rawInt 0, .none, .none] }) (s.heap.objs.size + 1) s.heap.objs.size 0 .none := by
    have q := Heap.get?_push_size (s.heap.push o) (o := { cls := .type "enumerate", data := .fields #[.none, .bool false, .ref s.heap.objs.size, rawInt 0, .none, .none] }) rfl
    rw [hz] at q; exact q
  exact ⟨⟨_, he, rfl⟩, h _ he (Heap.get?_push_of_some _ (Heap.get?_push_size _ B.free)) fun b o x => Heap.get?_push_of_some _ (Heap.get?_push_of_some _ x)⟩
end
/-- the tuple at a, each item in a new pair -/
def IteT (K : PySem.W.Frag) (a : Addr) : It :=
  ⟨fun i H => ∃ (xs : List V) (x : V), SqT K H a xs ∧ xs[i]? = some x, fun i H v H' => ∃ T x, v = .ref T ∧ H T = none ∧ H' = upd H T (.tup [.int (i : Nat), x]) ∧ ∀ xs, SqT K H a xs → xs[i]? = some x, fun i H => ∃ xs : List V, SqT K H a xs ∧ xs.length ≤ i⟩
theorem turn_enT {P : Program} {w : World} {K : PySem.W.Frag} {elts : List Expr} {kk : Nat} {tpos : Pos} (a e it : Addr) :
    Turn P w K (.Tuple elts kk tpos) (IteT K a) [e, it] e (fun i h => (∃ old, IsEnum h e it ((i : Nat) : Int) old) ∧ h.IsTupleIter it a i ∧ e ≠ it) where
  mem := by simp
  obj := fun i h st b hb => by
    obtain ⟨⟨old, he⟩, ⟨o, ho, hc, hd⟩, _⟩ := st
    rcases (by simpa using hb : b = e ∨ b = it) with z | z
    · rw [z]; exact ⟨_, he, fun v q => nomatch q⟩
    · rw [z]; exact ⟨o, ho, fun v q => by rw [hd] at q; cases q⟩
  keep := fun i h h' st k => let ⟨⟨old, he⟩, hi, hne⟩ := st; ⟨⟨old, k e (by simp) _ he⟩, hi.at fun o q => k it (by simp) o q, hne⟩
  item := by
    intro X hP hw hK hc i pins s σ H E I hf st hg
    subst hP hw hK
    obtain ⟨⟨old, he⟩, hit, hne⟩ := st
    obtain ⟨xs, x, hq, hx⟩ := hg
    obtain ⟨its, rv, p, hz⟩ := I.tuple hq
    obtain ⟨u, hu, ru⟩ := rv.get hx
    have hel : e < s.heap.objs.size := Heap.lt_size he
    have hil : it < s.heap.objs.size := by obtain ⟨_, q, _⟩ := hit; exact Heap.lt_size q
    have pT : s.heap.IsTuple a its.toArray := p
    have hai : a ≠ it := fun z => by
      obtain ⟨o1, h1, c1, _⟩ := pT
      obtain ⟨o2, h2, c2, _⟩ := hit
      rw [z, h2] at h1
      cases h1
      rw [c2] at c1
      simp at c1
    have hae : e ≠ a := fun z => by
      obtain ⟨o1, h1, c1, _⟩ := pT
      rw [← z, he] at h1
      cases h1
      simp at c1
    have lt : i < its.toArray.size := by
      have := (List.getElem?_eq_some_iff.mp hu).1
      simpa using this
    refine wpAny_pyNext_enum_itemD (Draws.tuple (A := X.A.in1) (I.ok.hd hc) it a hai its.toArray) he ⟨hit, pT⟩ lt hne (by simp; exact ⟨hne, hae⟩) fun x' h' tk hPx ho hst' hT hsz hk => ?_
    have ex : x' = u := by
      rw [show its.toArray[i]? = some u by simpa using hu] at hPx
      exact (Option.some.inj hPx).symm
    subst ex
    refine ⟨_, rfl, wpAny_letOwnedTupleGo_enum (s := { s with heap := h', toks := tk + 1 }) ho fun h'' he' sb => ?_⟩
    have hT2 : h''.get? s.heap.objs.size = some { cls := .type "tuple", data := .seq #[.int i tk, x'] } := (sb.2 _ (Nat.ne_of_gt hel)).trans hT
    have new : ObjOk X.prog X.w (upd H s.heap.objs.size (.tup [.int (i : Nat), x])) h'' s.heap.objs.size (.tup [.int (i : Nat), x]) :=
      ⟨by show 2 ≤ sizeLine; decide, [.int i tk, x'], .cons ⟨_, rfl⟩ (.cons ru .nil), ⟨_, hT2, rfl, _, rfl⟩⟩
    have I1 : Inv X pins σ (upd H s.heap.objs.size (.tup [.int (i : Nat), x])) { s with heap := h'', toks := tk + 1 } :=
      I.turnedNew (ch := [e, it]) (fun b ob hb q => (sb.2 b (fun z => hb (by simp [z]))).trans (hk b ob (fun z => hb (by simp [z])) (fun z => hb (by simp [z])) q)) hf (Nat.le_refl _) new
    refine ⟨.ref s.heap.objs.size, _, I1, rfl, ⟨_, x, rfl, I.hok.fresh (Nat.le_refl _), rfl, fun ys hy => by rw [I.tuple_inj hy hq]; exact hx⟩, ⟨⟨x', ?_⟩, hst'.1.at fun o q => (sb.2 it (Ne.symm hne)).trans q, hne⟩, fun b hb => ?_⟩
    · have e1 : ((i + 1 : Nat) : Int) = (i : Int) + 1 := by omega
      rw [e1]; exact he'
    · have hb' : b < s.heap.objs.size := by
        rcases (by simpa using hb : b = e ∨ b = it) with z | z
        · rw [z]; exact hel
        · rw [z]; exact hil
      rw [upd_ne (Nat.ne_of_lt hb')]
      exact (hf b hb).1
  done := by
    intro X hP hw hK hc i pins s σ H E I hf st hg
    subst hP hw hK
    obtain ⟨⟨old, he⟩, hit, hne⟩ := st
    obtain ⟨xs, hq, hx⟩ := hg
    obtain ⟨its, rv, p, hz⟩ := I.tuple hq
    obtain ⟨f0, f1, f2, f3, f4, f5⟩ := hf it (by simp)
    have hl := rv.length
    have pT : s.heap.IsTuple a its.toArray := p
    have D : ∀ s Q E, s.heap.IsTupleIter it a i → s.heap.IsTuple a its.toArray → (∀ h' e, Heap.ExtBut it s.heap h' → (∃ o, h'.get? e = some o ∧ o.cls = .type "StopIteration") → E (.ref e) { s with heap := h' }) → wpAny (model X.prog X.w) X.A.in1 (Builtin.SmallTypes.nextOf (.ref it)) Q E s :=
      fun s Q E a1 a2 a3 => wpAny_nextOf_tuple_end (A := X.A.in1) (I.ok.hd hc) a1 a2 (by simp; omega) a3
    refine wpAny_pyNext_enum_endD (n := i) (P := fun _ _ => True) (fp := [it, a]) (St := fun j h => j = i ∧ h.IsTupleIter it a i ∧ h.IsTuple a its.toArray) ⟨fun j h st => ?_, fun j h h' st k => ?_, fun j s Q E lt st q => ?_, fun s Q E st q => D s Q E st.2.1 st.2.2 q⟩ he ⟨rfl, hit, pT⟩
      fun h' eb => ⟨rfl, I.turned (t' := s.toks) (fun b o hb q => eb b o hb q) f0 f1 f3 f4 f5⟩
    · obtain ⟨_, ⟨o, ho, _⟩, _⟩ := st
      exact ⟨o, ho⟩
    · exact ⟨st.1, st.2.1.at fun o e => k it (by simp) o e, st.2.2.at fun o e => k a (by simp) o e⟩
    · exact absurd st.1 (Nat.ne_of_lt lt)
  self := fun A i s Q E st h => let ⟨⟨_, he⟩, _⟩ := st; wpAny_pyIter_enum he h
def iEnT (K : PySem.W.Frag) (ta : TA) : TI := fun σ H R => ta σ H fun vs H1 => ∃ a xs, vs = [.ref a] ∧ SqT K H1 a xs ∧ R (IteT K a) H1
theorem pi_enT {X : Cx} {e : Expr} {ta : TA} {p pos tpos : Pos} {elts : List Expr} {kk : Nat} (hg : Gl X "enumerate") (hm : X.mg "enumerate" = none) (ha : PA X [e] ta) (hs : starEach [e] X.env = [(false, eval e X.env)] := by rfl) :
    PI X (.Tuple elts kk tpos) (.Call (.Name "enumerate" p) [e] [] pos) (iEnT X.K ta) := by
  refine ⟨fun pins s σ H R I h => ?_⟩
  refine Call_ (ld_blt I hg hm boot_enumerate (PyProof.Rows.callWith_type1 (thn (ha.run pos pins s σ H _ I h) fun us s1 hh => ?_) hs rfl))
  obtain ⟨vs, H1, I1, r1, a, xs, ex, hq, q⟩ := hh
  subst ex
  cases r1 with
  | cons r rr =>
    cases rr
    cases r
    obtain ⟨its, rv, p', hz⟩ := I1.tuple hq
    refine enum1_begins (begins_tuple a its.toArray) p' fun h' he hit hk => wpAny_pyIter_enum he ?_
    have I2 : Inv X pins σ H1 { s1 with heap := h' } := I1.kept (t' := s1.toks) hk
    refine ⟨s1.heap.objs.size + 1, [s1.heap.objs.size + 1, s1.heap.objs.size], _, _, H1, rfl, I2, turn_enT a (s1.heap.objs.size + 1) s1.heap.objs.size, ⟨⟨.none, he⟩, ⟨_, hit, rfl, rfl⟩, Nat.succ_ne_self _⟩, fun b hb => ?_, q⟩
    have hle : s1.heap.objs.size ≤ b := by
      rcases (by simpa using hb : b = s1.heap.objs.size + 1 ∨ b = s1.heap.objs.size) with z | z
      · rw [z]; exact Nat.le_add_right _ _
      · rw [z]; exact Nat.le_refl _
    exact I1.fpOk hle (I1.hok.fresh hle)
end OFx
end
section
set_option Elab.async false
set_option linter.all false
set_option maxRecDepth 100000
set_option maxHeartbeats 4000000
/-! sorted(xs): tuples of ints of any length, the first of them empty. -/
namespace OFx
open PySem PySem.Spec PySem.Calls PyProof.Rows L2
/-- the order of tuples of ints -/
def ltL : List Int → List Int → Bool
  | [], [] => false
  | [], _ :: _ => true
  | _ :: _, [] => false
  | x :: xs, y :: ys => if x = y then ltL xs ys else decide (x < y)
theorem ltL_irr : ∀ x : List Int, ltL x x = false
  | [] => rfl
  | x :: xs => by
    show (if x = x then ltL xs xs else decide (x < x)) = false
    rw [if_pos rfl]
    exact ltL_irr xs
theorem ltL_asym : ∀ x y : List Int, ltL x y = true → ltL y x = false
  | [], [], h => by cases h
  | [], _ :: _, _ => rfl
  | _ :: _, [], h => by cases h
  | x :: xs, y :: ys, h => by
    have h' : (if x = y then ltL xs ys else decide (x < y)) = true := h
    show (if y = x then ltL ys xs else decide (y < x)) = false
    by_cases e : x = y
    · rw [if_pos e] at h'
      rw [if_pos e.symm]
      exact ltL_asym xs ys h'
    · rw [if_neg e] at h'
      rw [if_neg (fun z => e z.symm)]
      have q := of_decide_eq_true h'
      exact decide_eq_false (by omega)
theorem ltL_tri : ∀ x y : List Int, ltL x y = false → ltL y x = false → x = y
  | [], [], _, _ => rfl
  | [], _ :: _, h, _ => by cases h
  | _ :: _, [], _, h => by cases h
  | x :: xs, y :: ys, h1, h2 => by
    have h1' : (if x = y then ltL xs ys else decide (x < y)) = false := h1
    have h2' : (if y = x then ltL ys xs else decide (y < x)) = false := h2
    by_cases e : x = y
    · rw [if_pos e] at h1'
      rw [if_pos e.symm] at h2'
      rw [e, ltL_tri xs ys h1' h2']
    · rw [if_neg e] at h1'
      rw [if_neg (fun z => e z.symm)] at h2'
      have q1 := of_decide_eq_false h1'
      have q2 := of_decide_eq_false h2'
      omega
theorem ltL_tr : ∀ x y z : List Int, ltL y x = false → ltL z y = false → ltL z x = false
  | [], _, [], _, _ => rfl
  | [], [], _ :: _, _, _ => rfl
  | [], _ :: _, _ :: _, _, _ => rfl
  | _ :: _, [], [], h, _ => by cases h
  | _ :: _, _ :: _, [], _, h => by cases h
  | _ :: _, [], _ :: _, h, _ => by cases h
  | x :: xs, y :: ys, z :: zs, h1, h2 => by
    have h1' : (if y = x then ltL ys xs else decide (y < x)) = false := h1
    have h2' : (if z = y then ltL zs ys else decide (z < y)) = false := h2
    show (if z = x then ltL zs xs else decide (z < x)) = false
    by_cases e1 : y = x
    · by_cases e2 : z = y
      · rw [if_pos e1] at h1'
        rw [if_pos e2] at h2'
        rw [if_pos (e2.trans e1)]
        exact ltL_tr xs ys zs h1' h2'
      · rw [if_neg e2] at h2'
        rw [if_neg (fun q => e2 (q.trans e1.symm)), ← e1]
        exact h2'
    · rw [if_neg e1] at h1'
      have q1 := of_decide_eq_false h1'
      by_cases e2 : z = y
      · rw [if_neg (fun q => e1 (e2.symm.trans q)), e2]
        exact h1'
      · rw [if_neg e2] at h2'
        have q2 := of_decide_eq_false h2'
        rw [if_neg (by omega)]
        exact decide_eq_false (by omega)
theorem ltL_swo {α : Type} (k : α → List Int) : SrtO.Swo fun x y => ltL (k x) (k y) := ⟨fun x y => ltL_asym _ _, fun x y z => ltL_tr _ _ _⟩
/-! ### sorted lists of them -/
def insL (x : List Int) : List (List Int) → List (List Int)
  | [] => [x]
  | y :: r => if ltL y x = true then y :: insL x r else x :: y :: r
def isort : List (List Int) → List (List Int)
  | [] => []
  | x :: r => insL x (isort r)
abbrev SrtL (l : List (List Int)) : Prop := l.Pairwise fun x y => ltL y x = false
theorem insL_perm (x : List Int) : ∀ l : List (List Int), (insL x l).Perm (x :: l)
  | [] => List.Perm.refl _
  | y :: r => by
    show (if ltL y x = true then y :: insL x r else x :: y :: r).Perm (x :: y :: r)
    by_cases h : ltL y x = true
    · rw [if_pos h]
      exact ((insL_perm x r).cons y).trans (List.Perm.swap x y r)
    · rw [if_neg h]
theorem isort_perm : ∀ l : List (List Int), (isort l).Perm l
  | [] => List.Perm.refl _
  | x :: r => (insL_perm x (isort r)).trans ((isort_perm r).cons x)
theorem insL_srt (x : List Int) : ∀ l : List (List Int), SrtL l → SrtL (insL x l)
  | [], _ => List.pairwise_singleton _ _
  | y :: r, h => by
    obtain ⟨h1, h2⟩ := List.pairwise_cons.mp h
    show SrtL (if ltL y x = true then y :: insL x r else x :: y :: r)
    by_cases q : ltL y x = true
    · rw [if_pos q]
      refine List.pairwise_cons.mpr ⟨fun z hz => ?_, insL_srt x r h2⟩
      rcases List.mem_cons.mp ((insL_perm x r).mem_iff.mp hz) with e | hz
      · rw [e]
        exact ltL_asym _ _ q
      · exact h1 z hz
    · rw [if_neg q]
      have q' : ltL y x = false := Bool.eq_false_iff.mpr q
      refine List.pairwise_cons.mpr ⟨fun z hz => ?_, h⟩
      rcases List.mem_cons.mp hz with e | hz
      · rw [e]
        exact q'
      · exact ltL_tr _ _ _ q' (h1 z hz)
theorem isort_srt : ∀ l : List (List Int), SrtL (isort l)
  | [] => List.Pairwise.nil
  | x :: r => insL_srt x _ (isort_srt r)
/-- there is just one -/
theorem srtL_uniq : ∀ {l m : List (List Int)}, SrtL l → SrtL m → l.Perm m → l = m
  | [], m, _, _, h => (List.Perm.eq_nil h.symm).symm
  | x :: l, [], _, _, h => absurd h.length_eq (by simp)
  | x :: l, y :: m, hl, hm, h => by
    have h1 : ltL x y = false := by
      rcases List.mem_cons.mp (h.mem_iff.mp (List.mem_cons_self (a := x) (l := l))) with e | hx
      · rw [e]; exact ltL_irr y
      · exact (List.pairwise_cons.mp hm).1 x hx
    have h2 : ltL y x = false := by
      rcases List.mem_cons.mp (h.mem_iff.mpr (List.mem_cons_self (a := y) (l := m))) with e | hy
      · rw [e]; exact ltL_irr x
      · exact (List.pairwise_cons.mp hl).1 y hy
    have e := ltL_tri _ _ h1 h2
    subst e
    rw [srtL_uniq (List.pairwise_cons.mp hl).2 (List.pairwise_cons.mp hm).2 (h.cons_inv)]
/-! ### the comparison of two of them -/
theorem firstLt_ltL : ∀ (xs ys : List Int), SeqAt.firstLt (fun j => xs.getD j 0 == ys.getD j 0) (fun j => decide (xs.getD j 0 < ys.getD j 0)) (decide (xs.length < ys.length)) (List.range (min xs.length ys.length)) = ltL xs ys
  | [], [] => rfl
  | [], _ :: _ => by
    show SeqAt.firstLt _ _ (decide (0 < _ + 1)) (List.range (min 0 _)) = true
    rw [Nat.zero_min]
    exact decide_eq_true (by omega)
  | _ :: _, [] => by
    show SeqAt.firstLt _ _ (decide (_ + 1 < 0)) (List.range (min _ 0)) = false
    rw [Nat.min_zero]
    exact decide_eq_false (by omega)
  | x :: xs, y :: ys => by
    have ih := firstLt_ltL xs ys
    have e : List.range (min (x :: xs).length (y :: ys).length) = 0 :: (List.range (min xs.length ys.length)).map Nat.succ := by
      rw [List.length_cons, List.length_cons, Nat.succ_min_succ, List.range_succ_eq_map]
    have ed : decide ((x :: xs).length < (y :: ys).length) = decide (xs.length < ys.length) := decide_eq_decide.mpr (by rw [List.length_cons, List.length_cons]; omega)
    rw [e, ed]
    show (if (x == y) = true then SeqAt.firstLt _ _ _ ((List.range (min xs.length ys.length)).map Nat.succ) else decide (x < y)) = (if x = y then ltL xs ys else decide (x < y))
    rw [PySem.W.firstLt_map]
    by_cases h : x = y
    · rw [if_pos h, if_pos (by rw [h]; exact beq_self_eq_true y)]
      exact ih
    · rw [if_neg h, if_neg (by rw [beq_iff_eq]; exact h)]
section
variable {prog : Program} {w : World} {A : Around} {E : Value → Shared → Prop} {s : Shared}
theorem kind_first {M : Model} {vs : List Value} {v0 : Value} {Q : SortKind → Shared → Prop} (ht : ∀ v ∈ v0 :: vs, ∃ (a : Addr) (o : Obj) (xs : Array Value) (n : Nat), v = .ref a ∧ s.heap.get? a = some o ∧ o.cls = .type "tuple" ∧ o.data = .seq xs n)
    (h0 : ∀ (a : Addr) (o : Obj) (xs : Array Value) (n : Nat), v0 = .ref a → s.heap.get? a = some o → o.data = .seq xs n → xs[0]? = none) (h : Q oneType' s) : wpAny M A (keyKind' (v0 :: vs).toArray) Q E s := by
  have look : ∀ v ∈ v0 :: vs, PySem.W.Looks M s.heap (typeOf v) (.type "tuple") := fun v hv => by
    obtain ⟨a, o, xs, n, rfl, ho, hc, hd⟩ := ht v hv
    rw [← hc]
    exact (PySem.W.Looks.ld ho).andThen .now
  have firsts : ∀ (l : List Value) {Q : List (Option Value) → Shared → Prop}, (∀ v ∈ l, v ∈ v0 :: vs) → (∀ fs, fs.length = l.length → (∀ f r, l = v0 :: r → fs[0]? = some f → f = none) → Q fs s) → wpAny M A (l.mapM firstOfTuple') Q E s := by
    intro l
    induction l with
    | nil => intro Q _ hq; rw [List.mapM_nil]; exact wpAny_pure (hq [] rfl fun f r e => by cases e)
    | cons v l ih =>
      intro Q hm hq
      rw [List.mapM_cons]
      refine wpAny_bind ?_
      rw [PySem.W.kas_first_eq]
      refine wpAny_bind ((look v (hm v List.mem_cons_self)).here ?_)
      rw [if_neg (by first | decide | simp)]
      obtain ⟨a, o, xs, n, rfl, ho, hc, hd⟩ := ht v (hm v List.mem_cons_self)
      refine wpAny_bind (listItems_at ho hd (wpAny_pure ?_))
      refine wpAny_bind (ih (Q := fun bs s' => wpAny M A (pure (xs[0]? :: bs)) Q E s') (fun u hu => hm u (List.mem_cons_of_mem _ hu)) fun fs hl _ => wpAny_pure (hq _ (by rw [List.length_cons, List.length_cons, hl]) fun f r e ef => ?_))
      cases e
      cases ef
      exact h0 a o xs n rfl ho hd
  rw [keyKind'_eq, List.mapM_toArray, map_eq_pure_bind]
  refine wpAny_bind (wpAny_bind (firsts (v0 :: vs) (fun _ q => q) fun fs hl hf => wpAny_pure ?_))
  obtain ⟨f, r, rfl⟩ : ∃ f r, fs = f :: r := by
    cases fs with
    | nil => simp at hl
    | cons f r => exact ⟨f, r, rfl⟩
  have ef : f = none := hf f vs rfl rfl
  subst ef
  rw [if_neg (by simp), if_neg (by simp)]
  rw [oneTypeOnly'_eq, List.mapM_toArray, map_eq_pure_bind]
  refine wpAny_bind (wpAny_bind (wpAny_bind (PySem.W.kas_mapM (r := Value.type "tuple") _ (fun v hv Q' hq => (look v hv).here hq) (wpAny_pure ?_))))
  have hall : ((List.map (fun _ => Value.type "tuple") (v0 :: vs)).toArray.all fun x => x == Value.type "tuple") = true := by
    simp only [List.all_toArray, List.all_map, List.all_eq_true]
    intro _ _
    exact beq_self_eq_true _
  have h1 : (List.map (fun _ => Value.type "tuple") (v0 :: vs)).toArray[0]? = some (Value.type "tuple") := by simp
  rw [h1]
  simp only [hall, if_true]
  exact wpAny_pure (wpAny_pure h)
theorem ints_at : ∀ {xs : List Value} {ns : List Int}, IntsAre xs ns → ∀ j, j < xs.length → ∃ t, xs[j]? = some (.int (ns.getD j 0) t)
  | _, _, .nil, j, h => absurd h (by simp)
  | _, _, .cons m t hx, 0, _ => ⟨t, rfl⟩
  | _, _, .cons m t hx, j + 1, h => by
    obtain ⟨u, e⟩ := ints_at hx j (by simpa using h)
    exact ⟨u, by simpa using e⟩
theorem lt_tups {u v : Value} {ns ms : List Int} {Q : Bool → Shared → Prop} (hu : TS.TupInts s.heap u ns) (hv : TS.TupInts s.heap v ms) (hr : A.units + 1 < cLine) (hq : Q (ltL ns ms) s) : wpAny (model prog w) A (keyLt' oneType' u v) Q E s := by
  obtain ⟨a, xs, rfl, ⟨o, ho, hc, n, hd⟩, i⟩ := hu
  obtain ⟨b, ys, rfl, ⟨o2, ho2, hc2, n2, hd2⟩, i2⟩ := hv
  have l1 : xs.size = ns.length := by rw [← i.length, Array.length_toList]
  have l2 : ys.size = ms.length := by rw [← i2.length, Array.length_toList]
  rw [keyLt'_oneType, oneLt'_eq]
  simp only [if_true]
  refine wpAny_bind (wpAny_cRoomFor (by omega) ?_)
  obtain ⟨cls, dd, data, sl⟩ := o
  obtain ⟨cls2, dd2, data2, sl2⟩ := o2
  simp only at hc hd hc2 hd2
  subst hc hd hc2 hd2
  refine wpAny_bind (wpAny_callSpecialIfBound?_slot (T := "tuple") ⟨_, ho, rfl⟩ F.slot_tuple_lt (call_meets F.slot_tuple_lt ⟨_, ho, rfl⟩ F.entry_tuple_lt (F.args_tuple_lt_2 _ _)
    (SeqAt.tuple_ltAt a b xs ys n n2 dd dd2 sl sl2 (fun j => ns.getD j 0 == ms.getD j 0) (fun j => decide (ns.getD j 0 < ms.getD j 0))) ⟨ho, ho2, fun j h1 h2 => ?_, fun j h1 h2 _ => ?_, ?_⟩))
  · obtain ⟨t1, e1⟩ := ints_at i j (by simpa using h1)
    obtain ⟨t2, e2⟩ := ints_at i2 j (by simpa using h2)
    have e1' : xs[j] = .int (ns.getD j 0) t1 := by simpa [h1] using e1
    have e2' : ys[j] = .int (ms.getD j 0) t2 := by simpa [h2] using e2
    rw [e1', e2']
    exact SeqAt.EqAt.int_int _ _ _ _
  · obtain ⟨t1, e1⟩ := ints_at i j (by simpa using h1)
    obtain ⟨t2, e2⟩ := ints_at i2 j (by simpa using h2)
    have e1' : xs[j] = .int (ns.getD j 0) t1 := by simpa [h1] using e1
    have e2' : ys[j] = .int (ms.getD j 0) t2 := by simpa [h2] using e2
    rw [e1', e2']
    have q := PySem.W.rcLt_alike (.int (ns.getD j 0)) (.int (ms.getD j 0)) A.in1 s _ _ _ _ (.int _ t1) (.int _ t2) rfl (by intro z; cases z) (by show A.units + 1 + 0 < cLine; omega)
    rw [PySem.W.dataLt_int] at q
    exact q
  · rw [l1, l2, firstLt_ltL]
    exact wpAny_truthy_bool hq
end
/-! ### as a rule -/
/-- a tuple of these ints -/
def IT (H : Hp) (v : V) (ns : List Int) : Prop := ∃ t, v = .ref t ∧ H t = some (.tup (ns.map V.int))
theorem IT.mono {H H' : Hp} {v : V} {ns : List Int} (x : IT H v ns) (e : Ex H H') : IT H' v ns := let ⟨t, h1, h2⟩ := x; ⟨t, h1, e _ _ h2 rfl⟩
abbrev ITs (H : Hp) : List V → List (List Int) → Prop := Paired (IT H)
theorem ITs.mono {H H' : Hp} (e : Ex H H') : ∀ {xs : List V} {ds : List (List Int)}, ITs H xs ds → ITs H' xs ds
  | _, _, .nil => .nil
  | _, _, .cons a b => .cons (a.mono e) (ITs.mono e b)
theorem ints_of : ∀ {ns : List Int} {us : List Value}, Vals (ns.map V.int) us → IntsAre us ns
  | [], _, .nil => .nil
  | n :: ns, _ :: _, .cons r t => by
    obtain ⟨k, rfl⟩ := r
    exact .cons n k (ints_of t)
theorem IT.tup {P : Program} {w : World} {H : Hp} {h : Heap} {v : V} {u : Value} {ns : List Int} (x : IT H v ns) (ok : HOk P w H h) (r : RelV v u) : TS.TupInts h u ns := by
  obtain ⟨t, rfl, e⟩ := x
  obtain ⟨_, its, rv, q⟩ := ok t _ e
  cases r
  exact ⟨t, its.toArray, rfl, q, by simpa using ints_of rv⟩
def rSortT (K : PySem.W.Frag) : List V → Hp → VK → Prop := fun vs H Q => ∃ (a : Addr) (x : V) (xs : List V) (ds : List (List Int)), vs = [.ref a] ∧ SqL K H a (x :: xs) ∧ ITs H (x :: xs) ([] :: ds) ∧
  ∀ (ys : List V) (es : List (List Int)) (p : Addr), ITs H ys es → SrtL es → es.Perm ([] :: ds) → H p = none → Q (.ref p) (upd H p (.lst ys))
theorem its_tups {P : Program} {w : World} {H : Hp} {h : Heap} (ok : HOk P w H h) : ∀ {xs : List V} {ds : List (List Int)} {us : List Value}, ITs H xs ds → Vals xs us → us.map (TS.intsOf h) = ds ∧ ∀ u ∈ us, ∃ ns, TS.TupInts h u ns ∧ IT H (backV u) ns
  | _, _, _, .nil, .nil => ⟨rfl, fun u hu => absurd hu (by simp)⟩
  | _, _, _, .cons a b, .cons r t => by
    obtain ⟨h1, h2⟩ := its_tups ok b t
    have z := a.tup ok r
    refine ⟨by rw [List.map_cons, h1, z.ints], fun u hu => ?_⟩
    rcases List.mem_cons.mp hu with e | hu
    · subst e
      obtain ⟨t', e1, e2⟩ := id a
      subst e1
      cases r
      exact ⟨_, z, a⟩
    · exact h2 u hu
theorem its_out {H : Hp} {h : Heap} : ∀ {out : List Value}, (∀ u ∈ out, ∃ ns, TS.TupInts h u ns ∧ IT H (backV u) ns) → ITs H (out.map backV) (out.map (TS.intsOf h))
  | [], _ => .nil
  | u :: out, x => by
    obtain ⟨ns, h1, h2⟩ := x u List.mem_cons_self
    refine .cons ?_ (its_out fun v hv => x v (List.mem_cons_of_mem _ hv))
    rw [h1.ints]
    exact h2
section
variable {X : Cx}
theorem cr_sortT (hu : X.A.units + 64 < cLine) : CallR X (.builtin "sorted") (rSortT X.K) := by
  intro pins s σ H vs us Q I r h
  obtain ⟨a, x, xs, ds, rfl, hs, hx, q⟩ := h
  obtain ⟨its, rv, hl, hz⟩ := I.list hs
  obtain ⟨u, rfl, ru⟩ := vals1 r
  obtain rfl : u = Value.ref a := ru
  obtain ⟨m1, m2⟩ := its_tups I.hok hx rv
  have hz' : its.length ≤ sizeLine := by
    rw [← rv.length]
    exact hz
  cases rv with
  | cons r0 rt =>
    rename_i u0 us0
    have back : ∀ v ∈ u0 :: us0, ∃ b, v = Value.ref b := fun v hv => by
      obtain ⟨ns, ⟨b, _, e, _⟩, _⟩ := m2 v hv
      exact ⟨b, e⟩
    refine SrtO.sorted_ord (ltv := fun v u => ltL (TS.intsOf s.heap v) (TS.intsOf s.heap u)) (ltL_swo _) hl.isList hz' (fun h2 h₁ b hb kk h' keep => ⟨oneType', fun Q E hq => ?_, fun p q' hp hq => ?_⟩) fun out h1 h2 => ?_
    · refine kind_first (fun v hv => ?_) (fun a' o xs' n e ho hd => ?_) hq
      · obtain ⟨ns, ⟨a', xs', e, ⟨o, ho, hc, n, hd⟩, i⟩, _⟩ := m2 v hv
        exact ⟨a', o, xs', n, e, keep _ _ (kk _ _ ho).1 (kk _ _ ho).2, hc, hd⟩
      · cases hx with
        | cons i0 _ =>
          obtain ⟨a2, xs2, e2, ⟨o2, ho2, hc2, n2, hd2⟩, i2⟩ := i0.tup I.hok r0
          rw [e] at e2
          cases e2
          have z := keep _ _ (kk _ _ ho2).1 (kk _ _ ho2).2
          rw [show h'.get? a' = some o from ho] at z
          cases z
          rw [hd2] at hd
          injection hd with h5 h6
          rw [← h5]
          cases q3 : xs2.toList with
          | nil =>
            have q4 : xs2 = #[] := Array.toList_eq_nil_iff.mp q3
            rw [q4]
            rfl
          | cons _ _ =>
            rw [q3] at i2
            cases i2
    · obtain ⟨n1, t1, _⟩ := m2 _ hp
      obtain ⟨n2, t2, _⟩ := m2 _ hq
      have k1 := t1.keeps (h' := h') fun b o e _ => keep _ _ (kk _ _ e).1 (kk _ _ e).2
      have k2 := t2.keeps (h' := h') fun b o e _ => keep _ _ (kk _ _ e).1 (kk _ _ e).2
      refine lt_tups (s := { s with heap := h' }) k1 k2 (by show X.A.units + 1 + 1 + 1 < cLine; omega) ⟨rfl, ?_⟩
      show ltL n1 n2 = ltL (TS.intsOf s.heap p.1) (TS.intsOf s.heap q'.1)
      rw [t1.ints, t2.ints]
    · have h3 : ∀ u ∈ out, ∃ a, u = Value.ref a := fun u hu => back u (h2.perm.mem_iff.mp hu)
      have h4 := its_out (H := H) (h := s.heap) (out := out) fun u hu => m2 u (h2.perm.mem_iff.mp hu)
      have hp := h2.perm.map (TS.intsOf s.heap)
      rw [m1] at hp
      have hd : s.heap.objs.size ≤ s.heap.objs.size + 1 := Nat.le_succ _
      obtain ⟨n, hn⟩ := sortedAll_at s.heap (u0 :: us0) out.toArray
      refine ⟨.ref (s.heap.objs.size + 1), upd H (s.heap.objs.size + 1) (.lst (out.map backV)), I.laid (t' := s.toks) (fun b o e => sortedAll_old e) hd ⟨?_, out, n, vals_back h3, hn⟩, rfl, q _ _ _ h4 (SrtO.srtd_map h1) hp (I.hok.fresh hd)⟩
      rw [List.length_map, h2.perm.length_eq]
      exact hz'
end
end OFx
end
section
set_option Elab.async false
set_option linter.all false
set_option maxRecDepth 100000
set_option maxHeartbeats 4000000
/-! Defs that want repr (nothing is being shown while they run), defs whose code object is known; walks over pairs; list(x) of a tuple. -/
namespace OFx
open PySem PySem.Spec PySem.Calls PyProof.Rows L2
/-- a def whose code object stands at c -/
structure FunL (K : PySem.W.Frag) (x qual : Str) (st : Stmt) (f c : Addr) (fd : FuncData) : Prop where
  ex : ∃ (oc : Value) (od : Option Addr) (kV doc pm : Value) (an : Option Addr) (ct : Value) (osl : Array (Option Value)), fd = PySem.W.fnOf x qual (defArgs st) (defBody st) (defScope st) .none kV doc pm an (.ref c) ct ∧ K.lookup f = some ⟨oc, od, .func fd, osl⟩ ∧ PySem.W.codeIn K (.ref c) qual = true
  kp : PySem.W.keepIn K (.ref f) = true
theorem FunL.toFun {K : PySem.W.Frag} {x qual : Str} {st : Stmt} {f c : Addr} {fd : FuncData} (F : FunL K x qual st f c fd) : Fun K x qual st f fd := by
  obtain ⟨oc, od, kV, doc, pm, an, ct, osl, h1, h2, h3⟩ := F.ex
  exact ⟨⟨oc, od, kV, doc, pm, an, .ref c, ct, osl, h1, h2, h3⟩, F.kp⟩
/-- what such a def promises where no repr is under way -/
structure FnG (P : Program) (w : World) (K : PySem.W.Frag) (mg : Str → Option Value) (base : Heap) (k : Nat) (f : Addr) (fd : FuncData) (ps : List Str) (sp : Sp) : Prop where
  len : ∀ vs H Q E, sp vs H Q E → vs.length = ps.length
  run : ∀ (A : Around) (outer : List Env) (s : Shared) (H : Hp) (args : Args) (us : List Value) (vs : List V) (Q : VK), Room k A → A.guards = some [] → Env0 P w K mg base A outer s H → BindsTo s fd args (ps.zip us) → Vals vs us → sp vs H Q C8.E0 →
    codeAny (model P w) A (.call (.ref f) args) (CR C8.CX0 outer P w H s Q C8.E0) s
section
variable {P : Program} {w : World} {K : PySem.W.Frag} {mg : Str → Option Value} {base : Heap} {x qual : Str} {st : Stmt} {f c : Addr} {fd : FuncData} {N ps : List Str} {k : Nat} {sp : Sp}
theorem FunL.okG (F : FunL K x qual st f c fd) (S : FnScope N ps (defScope st)) (len : ∀ vs H Q E, sp vs H Q E → vs.length = ps.length)
    (hbody : ∀ (A : Around) (outer : List Env) (s : Shared) (H : Hp) (vs : List V) (Q : VK), Room k (A.deeper (envOfC qual (defScope st) s.heap.objs.size f (.ref c))) → A.guards = some [] → sp vs H Q C8.E0 →
      ∃ t, PSs (cxOf C8.CX0 P w K mg base N qual (defScope st) f (.ref c) A outer s H C8.E0).nox (defBody st) t ∧ t { nx := fun _ H' => Q .non H', rt := Q } (L2.start N vs) H) : FnG P w K mg base (k + 1) f fd ps sp := by
  obtain ⟨oc, od, kV, doc, pm, an, ct, osl, rfl, lk, hcd⟩ := F.ex
  refine ⟨len, fun A outer s H args us vs Q hr hg e0 hb r hsp => ?_⟩
  refine LamX.run_ofS lk hcd S hr e0 hb r (len _ _ _ _ hsp) fun hr' => ?_
  obtain ⟨t, h, q⟩ := hbody A outer s H vs Q hr' hg hsp
  exact ⟨t, h.nox, q⟩
theorem okG (F : Fun K x qual st f fd) (S : FnScope N ps (defScope st)) (len : ∀ vs H Q E, sp vs H Q E → vs.length = ps.length)
    (hbody : ∀ (cdv : Value) (A : Around) (outer : List Env) (s : Shared) (H : Hp) (vs : List V) (Q : VK), Room k (A.deeper (envOfC qual (defScope st) s.heap.objs.size f cdv)) → A.guards = some [] → sp vs H Q C8.E0 →
      ∃ t, PSs (cxOf C8.CX0 P w K mg base N qual (defScope st) f cdv A outer s H C8.E0).nox (defBody st) t ∧ t { nx := fun _ H' => Q .non H', rt := Q } (L2.start N vs) H) : FnG P w K mg base (k + 1) f fd ps sp := by
  obtain ⟨oc, od, kV, doc, pm, an, cdv, ct, osl, rfl, lk, hcd⟩ := F.ex
  refine ⟨len, fun A outer s H args us vs Q hr hg e0 hb r hsp => ?_⟩
  refine LamX.run_ofS lk hcd S hr e0 hb r (len _ _ _ _ hsp) fun hr' => ?_
  obtain ⟨t, h, q⟩ := hbody cdv A outer s H vs Q hr' hg hsp
  exact ⟨t, h.nox, q⟩
end
section
variable {X : Cx} {k : Nat} {f : Addr} {fd : FuncData} {ps : List Str} {sp : Sp} {x : Str} {p pos : Pos} {e : Expr} {es : List Expr} {t : TA}
theorem run_fnG {pins : List (Addr × Obj)} {σ : L2.St} {H : Hp} {s : Shared} {Q : VK} {us : List Value} {vs : List V} (F : FnG X.prog X.w X.K X.mg X.base k f fd ps sp) (hr : Room k X.A) (hgd : X.A.guards = some []) (hb : Binds X.K fd ps []) (I : Inv X pins σ H s) (r : Vals vs us)
    (h : sp vs H Q C8.E0) : wpAny (model X.prog X.w) X.A (call (.ref f) us) (EP X pins σ Q) X.xe s := by
  have hl : us.length = ps.length := by rw [← r.length]; exact F.len _ _ _ _ h
  have b := hb s us I.kIn (by rw [List.append_nil]; exact hl)
  rw [List.append_nil] at b
  refine wpAny_call (codeAny_mono (F.run X.A X.stack s H ⟨us, []⟩ us vs Q hr hgd I.env0 b r h) fun rr s' hq => ?_)
  cases rr with
  | error e => exact (show False from hq).elim
  | ok fl =>
    cases fl with
    | ret u => exact I.after hq
    | next => exact False.elim hq
    | brk => exact False.elim hq
    | cont => exact False.elim hq
def tCallG (sp : Sp) (t : TA) : TE := fun σ H Q => t σ H fun vs H1 => sp vs H1 Q C8.E0
theorem pe_callG (F : FnG X.prog X.w X.K X.mg X.base k f fd ps sp) (hr : Room k X.A) (hgd : X.A.guards = some []) (hg : Gl X x) (hm : X.mg x = some (.ref f)) (hk : PySem.W.keepIn X.K (.ref f) = true) (hb : Binds X.K fd ps []) (ha : PA X (e :: es) t)
    (hdb : (x == ("__debug__" : Str)) = false := by decide) (he : starEach (e :: es) X.env = (false, eval e X.env) :: starEach es X.env := by rfl) (hpl : (backTo pos (starEach es X.env)).any (·.1) = false := by rfl) :
    PE X (.Call (.Name x p) (e :: es) [] pos) (tCallG sp t) := by
  refine ⟨fun pins s σ H Q I h => ?_⟩
  refine wpAny_Call_Name_kw (ld_glob I hg hm ?_ hdb)
  refine PySem.W.callWith_K (h₀ := X.base) I.ok.mod.kin hk (thn (ha.run pos pins s σ H _ I h) fun us s1 ⟨vs, H1, I1, r, q⟩ => ⟨I1.kIn, ?_⟩) he hpl
  exact run_fnG F hr hgd hb I1 r q
/-- x(e, ..), x a def that lets no exception out -/
theorem pe_callN (F : FnOk X.prog X.w X.K X.mg X.base C8.CX0 k f fd ps sp) (hr : Room k X.A) (hg : Gl X x) (hm : X.mg x = some (.ref f)) (hk : PySem.W.keepIn X.K (.ref f) = true) (hb : Binds X.K fd ps []) (ha : PA X (e :: es) t)
    (hdb : (x == ("__debug__" : Str)) = false := by decide) (he : starEach (e :: es) X.env = (false, eval e X.env) :: starEach es X.env := by rfl) (hpl : (backTo pos (starEach es X.env)).any (·.1) = false := by rfl) :
    PE X (.Call (.Name x p) (e :: es) [] pos) (tCallG sp t) :=
  pe_callS (E := fun _ => C8.E0) F hr hg hm hk hb (fun _ _ _ _ _ _ _ c => c.elim) ha hdb he hpl
/-- .. that may let one out: it goes where this body's go -/
theorem pe_callX {W : WX} (tk : Takes X W) (F : FnOk X.prog X.w X.K X.mg X.base (L2.CX X.prog X.w) k f fd ps sp) (hr : Room k X.A) (hg : Gl X x) (hm : X.mg x = some (.ref f)) (hk : PySem.W.keepIn X.K (.ref f) = true) (hb : Binds X.K fd ps []) (ha : PA X (e :: es) t)
    (hdb : (x == ("__debug__" : Str)) = false := by decide) (he : starEach (e :: es) X.env = (false, eval e X.env) :: starEach es X.env := by rfl) (hpl : (backTo pos (starEach es X.env)).any (·.1) = false := by rfl) :
    PE X (.Call (.Name x p) (e :: es) [] pos) (tCallS sp (WE W) t) := pe_callS F hr hg hm hk hb (fun σ => passAt tk σ) ha hdb he hpl
theorem pe_callG0 (F : FnG X.prog X.w X.K X.mg X.base k f fd ps sp) (hr : Room k X.A) (hgd : X.A.guards = some []) (hg : Gl X x) (hm : X.mg x = some (.ref f)) (hk : PySem.W.keepIn X.K (.ref f) = true) (hb : Binds X.K fd ps [])
    (hdb : (x == ("__debug__" : Str)) = false := by decide) : PE X (.Call (.Name x p) [] [] pos) (tCallG sp tNil) := by
  refine ⟨fun pins s σ H Q I h => ?_⟩
  refine wpAny_Call_Name_kw (ld_glob I hg hm ?_ hdb)
  exact PySem.W.callWith_K0 I.kIn hk (run_fnG (us := []) F hr hgd hb I .nil h)
end
section
variable {K : PySem.W.Frag} {a b : Addr} {xs ys : List V}
theorem walk_enT : Walk (IteT K a) xs.length (fun H => SqT K H a xs) (YPair (fun i => some (.int (i : Nat))) (fun i => xs[i]?)) := by
  refine ⟨fun i _ hi q => ⟨xs, xs[i], q, by simp [hi]⟩, fun _ q => ⟨xs, q, Nat.le_refl _⟩, fun i H v H' _ q y => ?_⟩
  obtain ⟨T, x, h1, h2, h3, h4⟩ := y
  exact ⟨T, .int (i : Nat), x, h1, h2, h3, rfl, h4 xs q⟩
theorem walk_ziT {n : Nat} (hn : n = min xs.length ys.length) : Walk (RZ.ItzT K a b) n (fun H => SqT K H a xs ∧ SqT K H b ys) (YPair (fun i => xs[i]?) (fun i => ys[i]?)) := by
  subst hn
  refine ⟨fun i _ hi q => ?_, fun _ q => ⟨xs, ys, q.1, q.2, by omega⟩, fun i H v H' _ q y => ?_⟩
  · have h1 : i < xs.length := by omega
    have h2 : i < ys.length := by omega
    exact ⟨xs, ys, xs[i], ys[i], q.1, q.2, by simp [h1], by simp [h2]⟩
  · obtain ⟨T, x, z, h1, h2, h3, h4, h5⟩ := y
    exact ⟨T, x, z, h1, h2, h3, h4 xs q.1, h5 ys q.2⟩
end
section
variable {X : Cx}
/-- list(t), t a tuple -/
theorem cr_listT : CallR X (.type "list") (fun xs H Q => ∃ p ys, xs = [.ref p] ∧ SqT X.K H p ys ∧ ∀ l, H l = none → (l == sysModules) = false → Q (.ref l) (upd H l (.lst ys))) := by
  intro pins s σ H xs us Q I r h
  obtain ⟨p, ys, rfl, hq, q⟩ := h
  obtain ⟨u, rfl, rx⟩ := vals1 r
  cases rx
  obtain ⟨its, r', pl, hz⟩ := I.tuple hq
  have hlen := r'.length
  obtain ⟨o, ho, hc, n, hd⟩ := pl
  exact call_list_seq p (.inr rfl) ho hc hd (fun h' c' kp e => ⟨.ref s.heap.objs.size, _, I.laid (t' := s.toks) kp (Nat.le_refl _) (show ObjOk X.prog X.w _ h' _ (.lst ys) from ⟨hz, its, c', r', e⟩), rfl, q _ (I.hok.fresh (Nat.le_refl _)) (beq_eq_false_iff_ne.mpr (Nat.ne_of_gt I.big))⟩)
    (by simp only [List.size_toArray] <;> omega)
end
end OFx
end
section
set_option Elab.async false
set_option linter.all false
set_option maxRecDepth 100000
set_option maxHeartbeats 4000000
/-! The text; the def that tells how a call ended. -/
namespace OF
open PySem PySem.Spec PySem.Calls PyProof.Rows L2 OFx
def top (i : Nat) : Stmt := PySem.Challenge.pw_oftenenough_k03_whole_days.main.body.getD i (.Pass ⟨0, 0, 0, 0⟩)
theorem sc27 : FnScope ["call", "found", "e"] ["call"] (defScope (top 27)) := ⟨rfl, rfl, rfl, by decide +kernel, rfl, by decide +kernel, by decide +kernel⟩
theorem said_gets {X : Cx} {df : Option Int} {g CS CD CP : Addr} {cdg : Value} {q : Str} (gS : X.mg "BadStanding" = some (.ref CS)) (gD : X.mg "BadDay" = some (.ref CD)) (gP : X.mg "BadPlan" = some (.ref CP))
    (xS : XfC X.K CS) (xD : XfC X.K CD) (xP : XfC X.K CP) (nS : PySem.W.findIn X.K (.ref CS) "value" = some none) (nD : PySem.W.findIn X.K (.ref CD) "value" = some none) (nP : PySem.W.findIn X.K (.ref CP) "place" = some none) :
    Gets X df ["call", "found", "e"] "_law_said" (defScope (top 27)) g cdg (defBody (top 27)) "call" q (TTsaid X.K [(.ref CS, "standing", "value"), (.ref CD, "day", "value"), (.ref CP, "plan", "place")]) := by
  intro f c' dV s H Q tl act hc hd h
  refine ⟨_, pss_cons (ps_set (i := 1) sc27.nd rfl (.inl rfl) pe_non) (pss_cons (ps_try_each (i := 2) (Wo := fun _ _ _ _ => False) (cls := [(.ref CS, _), (.ref CD, _), (.ref CP, _)])
      (tb := fun W => tAsg (tLstN (tCons (fun σZ HZ Q => σZ[0]? = some (some (.ref f)) ∧ HZ c' = some (LamX.CodeO c' q) ∧ DfAt df dV HZ ∧ tl (WE W σZ) HZ Q) tNil)) (gName 1))
      rfl rfl sc27.nd rfl rfl LamX.takes0 (fun W pn xe tk _ => ?_)
      (.more ⟨rfl, by decide, .inl gS⟩ (fun a oe cv d pn hz hf => pss_one (ps_set (i := 1) sc27.nd rfl (.inl rfl) (pe_tup (pa_cons pe_str (pa_cons (pe_xf xS nS hz hf (pv 2)) pa_nil)))))
      (.more ⟨rfl, by decide, .inl gD⟩ (fun a oe cv d pn hz hf => pss_one (ps_set (i := 1) sc27.nd rfl (.inl rfl) (pe_tup (pa_cons pe_str (pa_cons (pe_xf xD nD hz hf (pv 2)) pa_nil)))))
      (.more ⟨rfl, by decide, .inl gP⟩ (fun a oe cv d pn hz hf => pss_one (ps_set (i := 1) sc27.nd rfl (.inl rfl) (pe_tup (pa_cons pe_str (pa_cons (pe_xf xP nP hz hf (pv 2)) pa_nil))))) .stop))))
      (pss_one (ps_ret (pv 1)))), ?_⟩
  · exact pss_one (ps_set (i := 1) sc27.nd rfl (.inl rfl) (pe_lstN (pa_cons (act W pn xe _ _ tk) pa_nil)))
  · have sz : ∀ (n : Nat), n ≤ 2 → n ≤ sizeLine := fun n hn => by
      rw [sizeLine_eq]
      omega
    refine ⟨rfl, hc, hd, h _ _ (fun cls d H' hs => ?_) (fun v H' hv => ⟨sz 1 (by decide), fun p hp hps => ?_⟩)⟩
    · obtain ⟨b1, e1, y1, n1⟩ := hs
      refine ⟨b1, e1, fun hb a ha => ?_, fun hb => ?_⟩
      · obtain ⟨rfl, dd, fs, v, rfl, h1, h2, h3⟩ := y1 hb
        exact ⟨.ref a, rfl, rfl, rfl, dd, fs, v, rfl, h1, h2, sz 2 (by decide), fun t ht => ⟨_, rfl, h3 t ht⟩⟩
      obtain ⟨b2, e2, y2, n2⟩ := n1 hb
      refine ⟨b2, e2, fun hb a ha => ?_, fun hb => ?_⟩
      · obtain ⟨rfl, dd, fs, v, rfl, h1, h2, h3⟩ := y2 hb
        exact ⟨.ref a, rfl, rfl, rfl, dd, fs, v, rfl, h1, h2, sz 2 (by decide), fun t ht => ⟨_, rfl, h3 t ht⟩⟩
      obtain ⟨b3, e3, y3, n3⟩ := n2 hb
      refine ⟨b3, e3, fun hb a ha => ?_, fun hb => (n3 hb).elim⟩
      obtain ⟨rfl, dd, fs, v, rfl, h1, h2, h3⟩ := y3 hb
      exact ⟨.ref a, rfl, rfl, rfl, dd, fs, v, rfl, h1, h2, sz 2 (by decide), fun t ht => ⟨_, rfl, h3 t ht⟩⟩
    · exact ⟨_, rfl, hv p hp hps⟩
end OF
end
section
set_option Elab.async false
set_option linter.all false
set_option maxRecDepth 100000
set_option maxHeartbeats 4000000
/-! The plain words of the program and of the law. -/
namespace OF
open PySem PySem.Spec PyProof.Rows L2 OFx
def tyN : PyData → String
  | .none => "NoneType"
  | .bool _ => "bool"
  | .int _ => "int"
  | .str _ => "str"
  | .list _ => "list"
  | .tuple _ => "tuple"
  | .dict _ => "dict"
def dInt : PyData → Bool
  | .int _ => true
  | .bool _ => true
  | _ => false
def dBool : PyData → Bool
  | .bool _ => true
  | _ => false
def dTup : PyData → Bool
  | .tuple _ => true
  | _ => false
theorem kit_int (d : PyData) : kitB (tyN d) "int" = some (dInt d) := by cases d <;> (simp only [tyN, dInt]; decide +kernel)
theorem kit_bool (d : PyData) : kitB (tyN d) "bool" = some (dBool d) := by cases d <;> (simp only [tyN, dBool]; decide +kernel)
theorem kit_tup (d : PyData) : kitB (tyN d) "tuple" = some (dTup d) := by cases d <;> (simp only [tyN, dTup]; decide +kernel)
theorem rp_ty {K : PySem.W.Frag} {H : Hp} {v : V} {d : PyData} (h : Rp H v d) : TyX K H v (.type (tyN d)) := by
  cases h with
  | non => exact .base .non
  | bl b => exact .base (.bl b)
  | int i => exact .base (.int i)
  | str x => exact .base (.str x)
  | lst h1 h2 h3 => exact .base (.lst h1)
  | tup h1 h3 => exact .base (.tup h1)
  | mt h1 => exact .base (.dK h1)
theorem isi_int {K : PySem.W.Frag} {H : Hp} {v : V} {d : PyData} {Q : VK} (h : Rp H v d) (q : Q (.bl (dInt d)) H) : rIsi K [v, .ty "int"] H Q := ⟨v, .ty "int", _, _, _, rfl, .ty "int", rp_ty h, kit_ty (kit_int d), q⟩
theorem isi_bool {K : PySem.W.Frag} {H : Hp} {v : V} {d : PyData} {Q : VK} (h : Rp H v d) (q : Q (.bl (dBool d)) H) : rIsi K [v, .ty "bool"] H Q := ⟨v, .ty "bool", _, _, _, rfl, .ty "bool", rp_ty h, kit_ty (kit_bool d), q⟩
theorem isi_tup {K : PySem.W.Frag} {H : Hp} {v : V} {d : PyData} {Q : VK} (h : Rp H v d) (q : Q (.bl (dTup d)) H) : rIsi K [v, .ty "tuple"] H Q := ⟨v, .ty "tuple", _, _, _, rfl, .ty "tuple", rp_ty h, kit_ty (kit_tup d), q⟩
/-- a whole number from lo to hi -/
def isW (lo hi : Int) : PyData → Bool
  | .int i => decide (lo ≤ i) && decide (i ≤ hi)
  | _ => false
theorem int_at {ns : List Int} {i : Nat} {v : V} (h : (ns.map V.int)[i]? = some v) : ∃ z, ns[i]? = some z ∧ v = .int z := by
  rw [List.getElem?_map] at h
  cases e : ns[i]? with
  | none =>
    rw [e] at h
    cases h
  | some z =>
    rw [e] at h
    exact ⟨z, rfl, (Option.some.inj h).symm⟩
theorem fits {n : Nat} (h : n ≤ 1000) : n ≤ sizeLine := by
  rw [sizeLine_eq]
  omega
theorem isW_int {lo hi z : Int} (h : lo ≤ z ∧ z ≤ hi) : isW lo hi (.int z) = true := by
  show (decide (lo ≤ z) && decide (z ≤ hi)) = true
  rw [decide_eq_true h.1, decide_eq_true h.2]
  rfl
theorem isW_no {lo hi z : Int} (h : isW lo hi (.int z) = true) : lo ≤ z ∧ z ≤ hi := by
  have h' : (decide (lo ≤ z) && decide (z ≤ hi)) = true := h
  rw [Bool.and_eq_true, decide_eq_true_eq, decide_eq_true_eq] at h'
  exact h'
theorem not_no {b : Bool} (h : ¬ (!b) = true) : b = true := by
  cases b with
  | true => rfl
  | false => exact absurd rfl h
theorem not_yes {b : Bool} (h : (!b) = true) : b = false := by
  cases b with
  | true => cases h
  | false => rfl
/-! ### the days -/
def rng (lo hi : Int) : List Int := (List.range (hi - lo).toNat).map fun i => lo + ((i : Nat) : Int)
def startOf (lot : List Int) : Int := match lot.getLast? with
  | none => 0
  | some x => x + 1
def exts (n : Int) (lot : List Int) : List (List Int) := (rng (startOf lot) n).map fun k => lot ++ [k]
def grow (n : Int) (l : List (List Int)) : List (List Int) := l.flatMap (exts n)
def layersN (n : Int) : Nat → List (List Int) × List (List Int)
  | 0 => ([[]], [[]])
  | t + 1 => ((layersN n t).1 ++ grow n (layersN n t).2, grow n (layersN n t).2)
/-- the days of a plan of h hands and n things -/
def lots (h n : Nat) : List (List Int) := isort (layersN n h).1
def HN (h n : Nat) : Prop := 1 ≤ h ∧ h ≤ 3 ∧ 1 ≤ n ∧ n ≤ 8
theorem layers_few : ∀ n : Fin 9, ∀ i : Fin 4, (layersN ((n.val : Nat) : Int) i.val).1.length ≤ 100 ∧ (layersN ((n.val : Nat) : Int) i.val).2.length ≤ 100 := by decide +kernel
theorem layers_le {n i : Nat} (hn : n ≤ 8) (hi : i ≤ 3) : (layersN n i).1.length ≤ 100 ∧ (layersN n i).2.length ≤ 100 := layers_few ⟨n, by omega⟩ ⟨i, by omega⟩
theorem layers_first (n : Int) : ∀ i : Nat, ∃ r, (layersN n i).1 = [] :: r
  | 0 => ⟨[], rfl⟩
  | i + 1 => by
    obtain ⟨r, e⟩ := layers_first n i
    refine ⟨r ++ grow n (layersN n i).2, ?_⟩
    show (layersN n i).1 ++ grow n (layersN n i).2 = _
    rw [e, List.cons_append]
theorem flat_take {α β : Type} (f : α → List β) {l : List α} {i : Nat} {x : α} (h : l[i]? = some x) : (l.take (i + 1)).flatMap f = (l.take i).flatMap f ++ f x := by
  rw [List.take_add_one, h, List.flatMap_append]
  simp
theorem flat_len {α β : Type} (f : α → List β) (l : List α) (i : Nat) : ((l.take i).flatMap f).length ≤ (l.flatMap f).length := by
  have e : l.flatMap f = (l.take i).flatMap f ++ (l.drop i).flatMap f := by rw [← List.flatMap_append, List.take_append_drop]
  rw [e, List.length_append]
  omega
theorem exts_len (n : Int) (lot : List Int) : (exts n lot).length = (n - startOf lot).toNat := by
  unfold exts rng
  rw [List.length_map, List.length_map, List.length_range]
theorem exts_get {n : Int} {lot : List Int} {k : Nat} (h : k < (n - startOf lot).toNat) : (exts n lot)[k]? = some (lot ++ [startOf lot + ((k : Nat) : Int)]) := by
  unfold exts rng
  rw [List.getElem?_map, List.getElem?_map, List.getElem?_range h]
  rfl
theorem startOf_snoc (l : List Int) (z : Int) : startOf (l ++ [z]) = z + 1 := by
  unfold startOf
  rw [List.getLast?_append]
  rfl
theorem layer_len (n : Int) : ∀ (i : Nat), ∀ lot ∈ (layersN n i).2, lot.length = i
  | 0, lot, h => by
    rw [List.mem_singleton.mp h]
    rfl
  | i + 1, lot, h => by
    obtain ⟨l, h1, h2⟩ := List.mem_flatMap.mp (show lot ∈ (layersN n i).2.flatMap (exts n) from h)
    obtain ⟨k, _, rfl⟩ := List.mem_map.mp h2
    rw [List.length_append, layer_len n i l h1]
    rfl
theorem rng_mem {lo hi k : Int} (h : k ∈ rng lo hi) : lo ≤ k ∧ k < hi := by
  obtain ⟨i, hi', rfl⟩ := List.mem_map.mp h
  have := List.mem_range.mp hi'
  omega
theorem startOf_bd (n : Int) (h0 : 0 ≤ n) : ∀ (i : Nat), ∀ lot ∈ (layersN n i).2, 0 ≤ startOf lot ∧ startOf lot ≤ n
  | 0, lot, h => by
    rw [List.mem_singleton.mp h]
    exact ⟨Int.le_refl _, h0⟩
  | i + 1, lot, h => by
    obtain ⟨l, h1, h2⟩ := List.mem_flatMap.mp (show lot ∈ (layersN n i).2.flatMap (exts n) from h)
    obtain ⟨k, hk, rfl⟩ := List.mem_map.mp h2
    have b := rng_mem hk
    have ih := startOf_bd n h0 i l h1
    rw [startOf_snoc]
    omega
theorem snoc_of_ne {lot : List Int} (h : lot ≠ []) : ∃ l z, lot = l ++ [z] := ⟨lot.dropLast, lot.getLast h, (List.dropLast_concat_getLast h).symm⟩
/-! ### days and standings among all values -/
def num : PyData → Int
  | .int i => i
  | _ => 0
def asc (l : List Int) : Bool := (List.range (l.length - 1)).all fun i => decide (l.getD i 0 < l.getD (i + 1) 0)
def isDay (h : Int) (n : Nat) : PyData → Bool
  | .tuple ds => decide ((ds.length : Int) ≤ h) && (ds.all (isW 0 ((n : Int) - 1)) && asc (ds.map num))
  | _ => false
def isSt (gs : List Int) : PyData → Bool
  | .tuple ds => decide (ds.length = gs.length) && (ds.zip gs).all fun p => isW 1 p.2 p.1
  | _ => false
theorem isW_num {lo hi : Int} : ∀ {d : PyData}, isW lo hi d = true → d = .int (num d)
  | .int i, _ => rfl
  | .none, h => by cases h
  | .bool _, h => by cases h
  | .str _, h => by cases h
  | .list _, h => by cases h
  | .tuple _, h => by cases h
  | .dict _, h => by cases h
theorem rp_int {H : Hp} {v : V} {i : Int} (h : Rp H v (.int i)) : v = .int i := by
  cases h
  rfl
theorem rpAll_get {H : Hp} : ∀ {xs : List V} {ds : List PyData} {i : Nat} {x : V}, RpAll H xs ds → xs[i]? = some x → ∃ d, ds[i]? = some d ∧ Rp H x d
  | _, _, _, _, .nil, e => by simp at e
  | _, _, 0, _, .cons r _, e => by simp at e; subst e; exact ⟨_, rfl, r⟩
  | _, _, i + 1, _, .cons _ t, e => by
    obtain ⟨y, h1, h2⟩ := rpAll_get (i := i) t (by simpa using e)
    exact ⟨y, by simpa using h1, h2⟩
theorem rpAll_len {H : Hp} : ∀ {xs : List V} {ds : List PyData}, RpAll H xs ds → xs.length = ds.length
  | _, _, .nil => rfl
  | _, _, .cons _ t => by rw [List.length_cons, List.length_cons, rpAll_len t]
theorem rpAll_nums {H : Hp} {lo hi : Int} : ∀ {xs : List V} {ds : List PyData}, RpAll H xs ds → ds.all (isW lo hi) = true → xs = (ds.map num).map V.int
  | _, _, .nil, _ => rfl
  | _, _, .cons (d := d) r t, h => by
    rw [List.all_cons, Bool.and_eq_true] at h
    have e := isW_num h.1
    rw [e] at r
    rw [rp_int r, rpAll_nums t h.2]
    rfl
theorem all_range_map {α : Type} (l : List α) (p : α → Bool) (f : Nat → Bool) (h : ∀ i x, l[i]? = some x → f i = p x) : ((List.range l.length).map f).all id = l.all p := by
  have e : (List.range l.length).map f = l.map p := by
    apply List.ext_getElem?
    intro i
    rw [List.getElem?_map, List.getElem?_map]
    by_cases hi : i < l.length
    · rw [List.getElem?_range hi, List.getElem?_eq_getElem hi]
      show some (f i) = some (p l[i])
      rw [h i l[i] (List.getElem?_eq_getElem hi)]
    · rw [List.getElem?_eq_none (by simpa using hi), List.getElem?_eq_none (by omega)]
      rfl
  rw [e, List.all_map]
  rfl
theorem cut1 (xs : List V) : cutV xs (some 1) none = xs.drop 1 := by
  unfold cutV
  rw [show HT.sIx xs.length 0 (some 1) = min 1 xs.length from HT.sIx_nat xs.length 0 1, HT.sIx_none]
  cases xs with
  | nil => rfl
  | cons x r =>
    have e : min 1 (x :: r).length = 1 := by
      rw [List.length_cons]
      omega
    rw [e]
    show List.take ((x :: r).length - 1) r = r
    rw [List.length_cons, Nat.add_sub_cancel, List.take_length]
end OF
end
section
set_option Elab.async false
set_option linter.all false
set_option maxRecDepth 100000
set_option maxHeartbeats 4000000
/-! The invariants of a comprehension of two fors; tuples kept while lists change. -/
namespace OFx
open PySem PySem.Spec PySem.Calls PyProof.Rows L2
theorem lc2_in {J1 : It} {m : Nat} {G1 : Hp → Prop} {Y1 : Nat → Hp → V → Hp → Prop} (w1 : Walk J1 m G1 Y1) {g1 : TG} {tt1 : TT} {te : TE} {vs1 : List Nat} {σ2 : L2.St} {H4 : Hp} {D : Addr} {Nx : Hp → Prop} (Pw : Nat → Hp → Prop) (h0 : Pw 0 H4) (hG : ∀ j H, j ≤ m → Pw j H → G1 H)
    (hs : ∀ j x H H', j < m → Pw j H → Y1 j H x H' → g1 x (wipe σ2 vs1) H' fun σ3 H5 => wipe σ3 vs1 = wipe σ2 vs1 ∧ tt1 σ3 H5 fun b H6 =>
      if b = true then te σ3 H6 fun y H7 => ∃ acc, H7 D = some (.lst acc) ∧ acc.length < sizeLine ∧ Pw (j + 1) (upd H7 D (.lst (acc ++ [y]))) else Pw (j + 1) H6) (hd : ∀ H, Pw m H → Nx H) :
    ∃ W1 : Nat → Nat → Hp → Prop, (∃ m, W1 0 m H4) ∧ ∀ j k H, W1 j k H →
      (J1.stop j H ∧ Nx H) ∨ (J1.go j H ∧ ∃ Nx1 : Hp → Prop, (∀ H', Nx1 H' → ∃ k', k' < k ∧ W1 (j + 1) k' H') ∧ ∀ x H', J1.yld j H x H' → g1 x (wipe σ2 vs1) H' fun σ3 H5 => wipe σ3 vs1 = wipe σ2 vs1 ∧ tt1 σ3 H5 fun b H6 =>
        if b = true then te σ3 H6 fun y H7 => ∃ acc, H7 D = some (.lst acc) ∧ acc.length < sizeLine ∧ Nx1 (upd H7 D (.lst (acc ++ [y]))) else Nx1 H6) := by
  refine ⟨fun j k H => k = m - j ∧ j ≤ m ∧ Pw j H, ⟨m, by simp, Nat.zero_le _, h0⟩, ?_⟩
  rintro j k H ⟨rfl, hj, p⟩
  have q := hG j H hj p
  by_cases hlt : j < m
  · exact .inr ⟨w1.goes j H hlt q, Pw (j + 1), fun H' p' => ⟨m - (j + 1), by omega, rfl, hlt, p'⟩, fun x H' y => hs j x H H' hlt p (w1.yields j H x H' hlt q y)⟩
  · have e : j = m := by omega
    subst e
    exact .inl ⟨w1.stops H q, hd H p⟩
theorem lc2_it {J : It} {n : Nat} {G : Hp → Prop} {Y : Nat → Hp → V → Hp → Prop} (w : Walk J n G Y) {g g1 : TG} {tt tt1 : TT} {wi1 : TI} {te : TE} {vs vs1 : List Nat} {σ : L2.St} {H1 : Hp} {D : Addr} {Qd : Hp → Prop} (Pv : Nat → Hp → Prop) (h0 : Pv 0 (upd H1 D (.lst []))) (hG : ∀ i H, i ≤ n → Pv i H → G H)
    (hs : ∀ i x H H', i < n → Pv i H → Y i H x H' → g x (wipe σ vs) H' fun σ2 H2 => wipe σ2 vs = wipe σ vs ∧ tt σ2 H2 fun b H3 =>
      if b = true then wi1 σ2 H3 fun J1 H4 => ∃ W1 : Nat → Nat → Hp → Prop, (∃ m, W1 0 m H4) ∧ ∀ j k H, W1 j k H →
        (J1.stop j H ∧ Pv (i + 1) H) ∨ (J1.go j H ∧ ∃ Nx1 : Hp → Prop, (∀ H', Nx1 H' → ∃ k', k' < k ∧ W1 (j + 1) k' H') ∧ ∀ x H', J1.yld j H x H' → g1 x (wipe σ2 vs1) H' fun σ3 H5 => wipe σ3 vs1 = wipe σ2 vs1 ∧ tt1 σ3 H5 fun b H6 =>
          if b = true then te σ3 H6 fun y H7 => ∃ acc, H7 D = some (.lst acc) ∧ acc.length < sizeLine ∧ Nx1 (upd H7 D (.lst (acc ++ [y]))) else Nx1 H6)
      else Pv (i + 1) H3) (hd : ∀ H, Pv n H → Qd H) :
    ∃ W : Nat → Nat → Hp → Prop, (∃ m, W 0 m (upd H1 D (.lst []))) ∧ ∀ i m H, W i m H →
      (J.stop i H ∧ Qd H) ∨ (J.go i H ∧ ∃ Nx : Hp → Prop, (∀ H', Nx H' → ∃ m', m' < m ∧ W (i + 1) m' H') ∧ ∀ x H', J.yld i H x H' → g x (wipe σ vs) H' fun σ2 H2 => wipe σ2 vs = wipe σ vs ∧ tt σ2 H2 fun b H3 =>
        if b = true then wi1 σ2 H3 fun J1 H4 => ∃ W1 : Nat → Nat → Hp → Prop, (∃ m, W1 0 m H4) ∧ ∀ j k H, W1 j k H →
          (J1.stop j H ∧ Nx H) ∨ (J1.go j H ∧ ∃ Nx1 : Hp → Prop, (∀ H', Nx1 H' → ∃ k', k' < k ∧ W1 (j + 1) k' H') ∧ ∀ x H', J1.yld j H x H' → g1 x (wipe σ2 vs1) H' fun σ3 H5 => wipe σ3 vs1 = wipe σ2 vs1 ∧ tt1 σ3 H5 fun b H6 =>
            if b = true then te σ3 H6 fun y H7 => ∃ acc, H7 D = some (.lst acc) ∧ acc.length < sizeLine ∧ Nx1 (upd H7 D (.lst (acc ++ [y]))) else Nx1 H6)
        else Nx H3) := by
  refine ⟨fun i m H => m = n - i ∧ i ≤ n ∧ Pv i H, ⟨n, by simp, Nat.zero_le _, h0⟩, ?_⟩
  rintro i m H ⟨rfl, hi, p⟩
  have q := hG i H hi p
  by_cases hlt : i < n
  · exact .inr ⟨w.goes i H hlt q, Pv (i + 1), fun H' p' => ⟨n - (i + 1), by omega, rfl, hlt, p'⟩, fun x H' y => hs i x H H' hlt p (w.yields i H x H' hlt q y)⟩
  · have e : i = n := by omega
    subst e
    exact .inl ⟨w.stops H q, hd H p⟩
/-- tuples stay while the list at D changes -/
theorem IT.put {H : Hp} {v : V} {ns : List Int} {D : Addr} {xs ys : List V} (x : IT H v ns) (hD : H D = some (.lst xs)) : IT (upd H D (.lst ys)) v ns := by
  obtain ⟨t, e, h⟩ := x
  refine ⟨t, e, ?_⟩
  rw [upd_ne (ne_of h hD (by intro z; cases z))]
  exact h
theorem ITs.put {H : Hp} {D : Addr} {xs ys : List V} (hD : H D = some (.lst xs)) : ∀ {vs : List V} {ds : List (List Int)}, ITs H vs ds → ITs (upd H D (.lst ys)) vs ds
  | _, _, .nil => .nil
  | _, _, .cons a b => .cons (a.put hD) (ITs.put hD b)
theorem paired_append {α β : Type} {R : α → β → Prop} : ∀ {a c : List α} {b d : List β}, Paired R a b → Paired R c d → Paired R (a ++ c) (b ++ d)
  | _, _, _, _, .nil, q => q
  | _, _, _, _, .cons x r, q => .cons x (paired_append r q)
theorem paired_len {α β : Type} {R : α → β → Prop} {a : List α} {b : List β} (p : Paired R a b) : a.length = b.length := Paired.length p
/-- what was tracked before D came is as it was, whatever the list at D holds -/
theorem same_put {H0 H : Hp} {D : Addr} {o : HO} (s : Same H0 H) (hD : H0 D = none) : Same H0 (upd H D o) := fun b x e => by
  rw [upd_ne (ne_of_none e hD)]
  exact s b x e
/-- a tuple of ints as data -/
def tD (ns : List Int) : PyData := .tuple (ns.map PyData.int)
theorem rpAll_ints {H : Hp} : ∀ ns : List Int, RpAll H (ns.map V.int) (ns.map PyData.int)
  | [] => .nil
  | n :: ns => .cons (.int n) (rpAll_ints ns)
theorem IT.rp {H : Hp} {v : V} {ns : List Int} (x : IT H v ns) : Rp H v (tD ns) := by
  obtain ⟨t, rfl, h⟩ := x
  exact .tup h (rpAll_ints ns)
theorem ITs.rp {H : Hp} : ∀ {vs : List V} {ds : List (List Int)}, ITs H vs ds → RpAll H vs (ds.map tD)
  | _, _, .nil => .nil
  | _, _, .cons a b => .cons a.rp (ITs.rp b)
theorem canLay_ints : ∀ ns : List Int, PyData.canLayAll0 (ns.map PyData.int) = true
  | [] => rfl
  | n :: ns => by
    show (PyData.canLay0 (.int n) && PyData.canLayAll0 (ns.map PyData.int)) = true
    rw [canLay_ints ns]
    rfl
theorem depth_ints : ∀ ns : List Int, PyData.depthAll (ns.map PyData.int) = 0
  | [] => rfl
  | n :: ns => by
    show max (PyData.depth (.int n)) (PyData.depthAll (ns.map PyData.int)) = 0
    rw [depth_ints ns]
    rfl
theorem shaped_tD (ns : List Int) : SeqAt.shaped (tD ns) = true := by
  show (PyData.canLayAll0 (ns.map PyData.int) && decide (PyData.depthAll (ns.map PyData.int) + 1 ≤ 64)) = true
  rw [canLay_ints, depth_ints]
  rfl
theorem eqv_ints : ∀ a b : List Int, PyData.eqvAll (a.map PyData.int) (b.map PyData.int) = decide (a = b)
  | [], [] => rfl
  | [], _ :: _ => rfl
  | _ :: _, [] => rfl
  | x :: a, y :: b => by
    show ((x == y) && PyData.eqvAll (a.map PyData.int) (b.map PyData.int)) = decide (x :: a = y :: b)
    rw [eqv_ints a b, Bool.eq_iff_iff]
    simp
theorem eqv_tD (a b : List Int) : PyData.eqv (tD a) (tD b) = decide (a = b) := eqv_ints a b
/-! ### comprehensions over a heap that only grows -/
theorem range_succ_fm {f : Nat → Option V} (i : Nat) : (List.range (i + 1)).filterMap f = (List.range i).filterMap f ++ (f i).toList := by
  rw [List.range_succ, List.filterMap_append]
  cases h : f i <;> simp [h]
/-- of the i-th turn comes f i, or nothing -/
theorem lc_fm {J : It} {n : Nat} {G : Hp → Prop} {Y : Nat → Hp → V → Hp → Prop} (w : Walk J n G Y) {g : TG} {tt : TT} {te : TE} {vs : List Nat} {σ : L2.St} {H1 : Hp} {D : Addr} {Qd : Hp → Prop} (f : Nat → Option V) (hn : n ≤ 1000) (hD : H1 D = none) (hG : ∀ H, Same H1 H → G H)
    (hs : ∀ i x H2 H' (Ky : V → Hp → Prop) (Kn : Hp → Prop), i < n → Same H1 H2 → Y i H2 x H' → (∀ y H5, f i = some y → Same H2 H5 → Ky y H5) → (∀ H5, f i = none → Same H2 H5 → Kn H5) →
      g x (wipe σ vs) H' fun σ2 H3 => wipe σ2 vs = wipe σ vs ∧ tt σ2 H3 fun b H4 => if b = true then te σ2 H4 Ky else Kn H4)
    (hd : ∀ H', Same H1 H' → H' D = some (.lst ((List.range n).filterMap f)) → Qd H') :
    ∃ W : Nat → Nat → Hp → Prop, (∃ m, W 0 m (upd H1 D (.lst []))) ∧ ∀ i m H, W i m H →
      (J.stop i H ∧ Qd H) ∨ (J.go i H ∧ ∃ Nx : Hp → Prop, (∀ H', Nx H' → ∃ m', m' < m ∧ W (i + 1) m' H') ∧ ∀ x H', J.yld i H x H' → g x (wipe σ vs) H' fun σ2 H2 => wipe σ2 vs = wipe σ vs ∧ tt σ2 H2 fun b H3 =>
        if b = true then te σ2 H3 fun y H4 => ∃ acc, H4 D = some (.lst acc) ∧ acc.length < sizeLine ∧ Nx (upd H4 D (.lst (acc ++ [y]))) else Nx H3) := by
  refine lc_it w (fun i H => Same H1 H ∧ H D = some (.lst ((List.range i).filterMap f))) ⟨same_upd hD, upd_same⟩ (fun i H _ p => hG H p.1) (fun i x H H' hi p y => ?_) fun H p => hd H p.1 p.2
  obtain ⟨sm, hL⟩ := p
  refine hs i x H H' _ _ hi sm y (fun y H5 e s5 => ?_) fun H5 e s5 => ?_
  · refine ⟨_, s5 _ _ hL, small1000 ?_, same_put (sm.trans s5) hD, ?_⟩
    · refine Nat.le_trans (List.length_filterMap_le _ _) ?_
      rw [List.length_range]
      omega
    · rw [upd_same, range_succ_fm, e]
      rfl
  · refine ⟨sm.trans s5, ?_⟩
    rw [range_succ_fm, e]
    show H5 D = some (.lst (_ ++ []))
    rw [List.append_nil]
    exact s5 _ _ hL
/-- each turn gives f i -/
theorem lc_mp {J : It} {n : Nat} {G : Hp → Prop} {Y : Nat → Hp → V → Hp → Prop} (w : Walk J n G Y) {te : TE} {vs : List Nat} {g : TG} {σ : L2.St} {H1 : Hp} {D : Addr} {Qd : Hp → Prop} (f : Nat → V) (hn : n ≤ 1000) (hD : H1 D = none) (hG : ∀ H, Same H1 H → G H)
    (hs : ∀ i x H2 H' (Ky : V → Hp → Prop), i < n → Same H1 H2 → Y i H2 x H' → (∀ y H5, y = f i → Same H2 H5 → Ky y H5) → g x (wipe σ vs) H' fun σ2 H3 => wipe σ2 vs = wipe σ vs ∧ te σ2 H3 Ky)
    (gm : ∀ x σ H (q q' : L2.St → Hp → Prop), (∀ σ H, q σ H → q' σ H) → g x σ H q → g x σ H q')
    (hd : ∀ H', Same H1 H' → H' D = some (.lst ((List.range n).map f)) → Qd H') :
    ∃ W : Nat → Nat → Hp → Prop, (∃ m, W 0 m (upd H1 D (.lst []))) ∧ ∀ i m H, W i m H →
      (J.stop i H ∧ Qd H) ∨ (J.go i H ∧ ∃ Nx : Hp → Prop, (∀ H', Nx H' → ∃ m', m' < m ∧ W (i + 1) m' H') ∧ ∀ x H', J.yld i H x H' → g x (wipe σ vs) H' fun σ2 H2 => wipe σ2 vs = wipe σ vs ∧ tYes σ2 H2 fun b H3 =>
        if b = true then te σ2 H3 fun y H4 => ∃ acc, H4 D = some (.lst acc) ∧ acc.length < sizeLine ∧ Nx (upd H4 D (.lst (acc ++ [y]))) else Nx H3) := by
  refine lc_fm w (fun i => some (f i)) hn hD hG (fun i x H2 H' Ky Kn hi sm y ky kn => ?_) fun H' sm hL => hd H' sm ?_
  · exact gm _ _ _ _ _ (fun σ2 H3 q => ⟨q.1, q.2⟩) (hs i x H2 H' Ky hi sm y fun y H5 e s5 => ky y H5 (by rw [e]) s5)
  · rw [hL]
    show some (HO.lst (List.filterMap (some ∘ f) (List.range n))) = _
    rw [List.filterMap_eq_map]
theorem gName_mono {i : Nat} (x : V) (σ : L2.St) (H : Hp) (q q' : L2.St → Hp → Prop) (h : ∀ σ H, q σ H → q' σ H) (hg : gName i x σ H q) : gName i x σ H q' := h _ _ hg
theorem gPair_mono {K : PySem.W.Frag} {i j n : Nat} (x : V) (σ : L2.St) (H : Hp) (q q' : L2.St → Hp → Prop) (h : ∀ σ H, q σ H → q' σ H) (hg : gTup K n (gCons (gName i) (gCons (gName j) gNil)) x σ H q) : gTup K n (gCons (gName i) (gCons (gName j) gNil)) x σ H q' := by
  obtain ⟨a, xs, e1, e2, e3, v, r, e4, v2, r2, e5, e6, hq⟩ := hg
  exact ⟨a, xs, e1, e2, e3, v, r, e4, v2, r2, e5, e6, h _ _ hq⟩
/-- len, all, with their readings told -/
def rLenS (K : PySem.W.Frag) : List V → Hp → VK → Prop := fun xs H Q => ∃ p ys, xs = [.ref p] ∧ (SqL K H p ys ∨ SqT K H p ys) ∧ Q (.int ys.length) H
theorem cr_len {X : Cx} : CallR X (.builtin "len") (rLenS X.K) := call_len_seq
end OFx
end
section
set_option Elab.async false
set_option linter.all false
set_option maxRecDepth 100000
set_option maxHeartbeats 4000000
/-! What the top has written (printed by mk_t.py). -/
namespace OF
open PySem PySem.Spec PySem.Calls PyProof.Rows L2 OFx
structure TX (P : Program) (K : PySem.W.Frag) (mg : Str → Option Value) where
  f9 : Addr
  d9 : FuncData
  f10 : Addr
  d10 : FuncData
  f12 : Addr
  d12 : FuncData
  f13 : Addr
  d13 : FuncData
  f14 : Addr
  d14 : FuncData
  f15 : Addr
  d15 : FuncData
  f16 : Addr
  d16 : FuncData
  f17 : Addr
  d17 : FuncData
  f18 : Addr
  d18 : FuncData
  f19 : Addr
  d19 : FuncData
  f20 : Addr
  d20 : FuncData
  f21 : Addr
  d21 : FuncData
  f23 : Addr
  d23 : FuncData
  f24 : Addr
  d24 : FuncData
  f25 : Addr
  d25 : FuncData
  f26 : Addr
  d26 : FuncData
  f27 : Addr
  d27 : FuncData
  f28 : Addr
  d28 : FuncData
  f29 : Addr
  d29 : FuncData
  f30 : Addr
  d30 : FuncData
  f31 : Addr
  d31 : FuncData
  f32 : Addr
  d32 : FuncData
  f33 : Addr
  d33 : FuncData
  f34 : Addr
  d34 : FuncData
  f35 : Addr
  d35 : FuncData
  f36 : Addr
  d36 : FuncData
  c32 : Addr
  p32 : Addr
  c33 : Addr
  p33 : Addr
  c35 : Addr
  p35 : Addr
  CP : Addr
  CD : Addr
  CS : Addr
  iP : Addr
  iD : Addr
  iS : Addr
  g9 : mg "is_whole" = some (.ref f9)
  F9 : Fun K "is_whole" "is_whole" (top 9) f9 d9
  g10 : mg "need_plan" = some (.ref f10)
  F10 : Fun K "need_plan" "need_plan" (top 10) f10 d10
  g12 : mg "lots_of" = some (.ref f12)
  F12 : Fun K "lots_of" "lots_of" (top 12) f12 d12
  g13 : mg "days_of" = some (.ref f13)
  F13 : Fun K "days_of" "days_of" (top 13) f13 d13
  g14 : mg "is_day" = some (.ref f14)
  F14 : Fun K "is_day" "is_day" (top 14) f14 d14
  g15 : mg "is_standing" = some (.ref f15)
  F15 : Fun K "is_standing" "is_standing" (top 15) f15 d15
  g16 : mg "need_standing" = some (.ref f16)
  F16 : Fun K "need_standing" "need_standing" (top 16) f16 d16
  g17 : mg "has_due" = some (.ref f17)
  F17 : Fun K "has_due" "has_due" (top 17) f17 d17
  g18 : mg "later_of" = some (.ref f18)
  F18 : Fun K "later_of" "later_of" (top 18) f18 d18
  g19 : mg "due_days" = some (.ref f19)
  F19 : Fun K "due_days" "due_days" (top 19) f19 d19
  g20 : mg "right_days" = some (.ref f20)
  F20 : Fun K "right_days" "right_days" (top 20) f20 d20
  g21 : mg "behind" = some (.ref f21)
  F21 : Fun K "behind" "behind" (top 21) f21 d21
  g23 : mg "_law_begun" = some (.ref f23)
  F23 : Fun K "_law_begun" "_law_begun" (top 23) f23 d23
  g24 : mg "_law_draw" = some (.ref f24)
  F24 : Fun K "_law_draw" "_law_draw" (top 24) f24 d24
  g25 : mg "_law_of" = some (.ref f25)
  F25 : Fun K "_law_of" "_law_of" (top 25) f25 d25
  g26 : mg "_law_lots" = some (.ref f26)
  F26 : Fun K "_law_lots" "_law_lots" (top 26) f26 d26
  g27 : mg "_law_said" = some (.ref f27)
  F27 : Fun K "_law_said" "_law_said" (top 27) f27 d27
  g28 : mg "_law_is_spot" = some (.ref f28)
  F28 : Fun K "_law_is_spot" "_law_is_spot" (top 28) f28 d28
  g29 : mg "_law_right_lots" = some (.ref f29)
  F29 : Fun K "_law_right_lots" "_law_right_lots" (top 29) f29 d29
  g30 : mg "_law_next" = some (.ref f30)
  F30 : Fun K "_law_next" "_law_next" (top 30) f30 d30
  g31 : mg "_law_any" = some (.ref f31)
  F31 : Fun K "_law_any" "_law_any" (top 31) f31 d31
  g32 : mg "_law_spot_right" = some (.ref f32)
  L32 : FunL K "_law_spot_right" "_law_spot_right" (top 32) f32 c32 d32
  g33 : mg "_law_bad_right" = some (.ref f33)
  L33 : FunL K "_law_bad_right" "_law_bad_right" (top 33) f33 c33 d33
  g34 : mg "_law_drawn_right" = some (.ref f34)
  F34 : Fun K "_law_drawn_right" "_law_drawn_right" (top 34) f34 d34
  g35 : mg "_law_hand_right" = some (.ref f35)
  L35 : FunL K "_law_hand_right" "_law_hand_right" (top 35) f35 c35 d35
  g36 : mg "law" = some (.ref f36)
  F36 : Fun K "law" "law" (top 36) f36 d36
  z_isinstance : mg "isinstance" = none
  z_len : mg "len" = none
  z_enumerate : mg "enumerate" = none
  z_range : mg "range" = none
  z_sorted : mg "sorted" = none
  z_tuple : mg "tuple" = none
  z_list : mg "list" = none
  z_all : mg "all" = none
  z_zip : mg "zip" = none
  z_int : mg "int" = none
  z_bool : mg "bool" = none
  z_repr : mg "repr" = none
  z_min : mg "min" = none
  xP : XT P K mg "BadPlan" "place" CP iP
  xD : XT P K mg "BadDay" "value" CD iD
  xS : XT P K mg "BadStanding" "value" CS iS
  eSS : PySem.W.exmOne K (.ref CS) (.ref CS) = some true
  eDS : PySem.W.exmOne K (.ref CD) (.ref CS) = some false
  eDD : PySem.W.exmOne K (.ref CD) (.ref CD) = some true
  ePS : PySem.W.exmOne K (.ref CP) (.ref CS) = some false
  ePD : PySem.W.exmOne K (.ref CP) (.ref CD) = some false
  ePP : PySem.W.exmOne K (.ref CP) (.ref CP) = some true
  hands : ∃ t, mg "MOST_HANDS" = some (.int 3 t)
  things : ∃ t, mg "MOST_THINGS" = some (.int 8 t)
  gap : ∃ t, mg "MOST_GAP" = some (.int (10 ^ 30) t)
section
variable {P : Program} {K : PySem.W.Frag} {mg : Str → Option Value}
theorem TX.b9 (T : TX P K mg) : Binds K T.d9 ["value", "least", "most"] [] := T.F9.binds fun _ _ _ _ _ _ us hl => match us, hl with | [_, _, _], _ => rfl
theorem TX.b10 (T : TX P K mg) : Binds K T.d10 ["thing"] [] := T.F10.binds fun _ _ _ _ _ _ us hl => match us, hl with | [_], _ => rfl
theorem TX.b12 (T : TX P K mg) : Binds K T.d12 ["hands", "many"] [] := T.F12.binds fun _ _ _ _ _ _ us hl => match us, hl with | [_, _], _ => rfl
theorem TX.b13 (T : TX P K mg) : Binds K T.d13 ["plan"] [] := T.F13.binds fun _ _ _ _ _ _ us hl => match us, hl with | [_], _ => rfl
theorem TX.b14 (T : TX P K mg) : Binds K T.d14 ["plan", "value"] [] := T.F14.binds fun _ _ _ _ _ _ us hl => match us, hl with | [_, _], _ => rfl
theorem TX.b15 (T : TX P K mg) : Binds K T.d15 ["plan", "value"] [] := T.F15.binds fun _ _ _ _ _ _ us hl => match us, hl with | [_, _], _ => rfl
theorem TX.b16 (T : TX P K mg) : Binds K T.d16 ["plan", "standing"] [] := T.F16.binds fun _ _ _ _ _ _ us hl => match us, hl with | [_, _], _ => rfl
theorem TX.b17 (T : TX P K mg) : Binds K T.d17 ["standing", "day"] [] := T.F17.binds fun _ _ _ _ _ _ us hl => match us, hl with | [_, _], _ => rfl
theorem TX.b18 (T : TX P K mg) : Binds K T.d18 ["plan", "standing", "day"] [] := T.F18.binds fun _ _ _ _ _ _ us hl => match us, hl with | [_, _, _], _ => rfl
theorem TX.b19 (T : TX P K mg) : Binds K T.d19 ["plan", "standing"] [] := T.F19.binds fun _ _ _ _ _ _ us hl => match us, hl with | [_, _], _ => rfl
theorem TX.b20 (T : TX P K mg) : Binds K T.d20 ["plan", "standing"] [] := T.F20.binds fun _ _ _ _ _ _ us hl => match us, hl with | [_, _], _ => rfl
theorem TX.b21 (T : TX P K mg) : Binds K T.d21 ["plan", "standing", "day"] [] := T.F21.binds fun _ _ _ _ _ _ us hl => match us, hl with | [_, _, _], _ => rfl
theorem TX.b23 (T : TX P K mg) : Binds K T.d23 ["script", "k"] [] := T.F23.binds fun _ _ _ _ _ _ us hl => match us, hl with | [_, _], _ => rfl
theorem TX.b24 (T : TX P K mg) : Binds K T.d24 ["m", "many"] [] := T.F24.binds fun _ _ _ _ _ _ us hl => match us, hl with | [_, _], _ => rfl
theorem TX.b25 (T : TX P K mg) : Binds K T.d25 ["m", "some"] [] := T.F25.binds fun _ _ _ _ _ _ us hl => match us, hl with | [_, _], _ => rfl
theorem TX.b26 (T : TX P K mg) : Binds K T.d26 ["hands", "many"] [] := T.F26.binds fun _ _ _ _ _ _ us hl => match us, hl with | [_, _], _ => rfl
theorem TX.b27 (T : TX P K mg) : Binds K T.d27 ["call"] [] := T.F27.binds fun _ _ _ _ _ _ us hl => match us, hl with | [_], _ => rfl
theorem TX.b28 (T : TX P K mg) : Binds K T.d28 ["frame", "thing"] [] := T.F28.binds fun _ _ _ _ _ _ us hl => match us, hl with | [_, _], _ => rfl
theorem TX.b29 (T : TX P K mg) : Binds K T.d29 ["frame", "spot"] [] := T.F29.binds fun _ _ _ _ _ _ us hl => match us, hl with | [_, _], _ => rfl
theorem TX.b30 (T : TX P K mg) : Binds K T.d30 ["frame", "spot", "lot"] [] := T.F30.binds fun _ _ _ _ _ _ us hl => match us, hl with | [_, _, _], _ => rfl
theorem TX.b31 (T : TX P K mg) : Binds K T.d31 ["m", "frame"] [] := T.F31.binds fun _ _ _ _ _ _ us hl => match us, hl with | [_, _], _ => rfl
theorem TX.F32 (T : TX P K mg) : Fun K "_law_spot_right" "_law_spot_right" (top 32) T.f32 T.d32 := T.L32.toFun
theorem TX.b32 (T : TX P K mg) : Binds K T.d32 ["m", "frame", "spot"] [] := T.F32.binds fun _ _ _ _ _ _ us hl => match us, hl with | [_, _, _], _ => rfl
theorem TX.F33 (T : TX P K mg) : Fun K "_law_bad_right" "_law_bad_right" (top 33) T.f33 T.d33 := T.L33.toFun
theorem TX.b33 (T : TX P K mg) : Binds K T.d33 ["m", "frame", "spot"] [] := T.F33.binds fun _ _ _ _ _ _ us hl => match us, hl with | [_, _, _], _ => rfl
theorem TX.b34 (T : TX P K mg) : Binds K T.d34 ["m", "frame"] [] := T.F34.binds fun _ _ _ _ _ _ us hl => match us, hl with | [_, _], _ => rfl
theorem TX.F35 (T : TX P K mg) : Fun K "_law_hand_right" "_law_hand_right" (top 35) T.f35 T.d35 := T.L35.toFun
theorem TX.b35 (T : TX P K mg) : Binds K T.d35 [] [] := T.F35.binds fun _ _ _ _ _ _ us hl => match us, hl with | [], _ => rfl
theorem TX.b36 (T : TX P K mg) : Binds K T.d36 ["script"] [] := T.F36.binds fun _ _ _ _ _ _ us hl => match us, hl with | [_], _ => rfl
end
end OF
end
section
set_option Elab.async false
set_option linter.all false
set_option maxRecDepth 100000
set_option maxHeartbeats 4000000
/-! is_whole, need_plan -/
namespace OF
open PySem PySem.Spec PySem.Calls PyProof.Rows L2 OFx
section
variable {P : Program} {w : World} {K : PySem.W.Frag} {mg : Str → Option Value} {base : Heap}
def sp9 : Sp := fun vs H Q _ => ∃ (v : V) (d : PyData) (lo hi : Int), vs = [v, .int lo, .int hi] ∧ Rp H v d ∧ Q (.bl (isW lo hi d)) H
theorem sc9 : FnScope ["value", "least", "most"] ["value", "least", "most"] (defScope (top 9)) := ⟨rfl, rfl, rfl, by decide +kernel, rfl, by decide +kernel, by decide +kernel⟩
theorem ok9 (T : TX P K mg) : FnOk P w K mg base C8.CX0 1 T.f9 T.d9 ["value", "least", "most"] sp9 := by
  refine T.F9.ok sc9 (fun vs H Q E h => ?_) (fun cdv A outer s H vs Q E hr h => ?_)
  · obtain ⟨v, d, lo, hi, rfl, _⟩ := h
    rfl
  · obtain ⟨v, d, lo, hi, rfl, hd, q⟩ := h
    refine ⟨_, pss_one (ps_ret (pe_and (pe_callB call_isi (by rfl) T.z_isinstance boot_isinstance (pa_cons (pv 0) (pa_cons (pe_bltn (v := .ty "int") (by rfl) T.z_int boot_int rfl) pa_nil)))
      (pe_and (pe_not (pe_callB call_isi (by rfl) T.z_isinstance boot_isinstance (pa_cons (pv 0) (pa_cons (pe_bltn (v := .ty "bool") (by rfl) T.z_bool boot_bool rfl) pa_nil))))
        (pe_one (pe_chain op_le op_le (pv 1) (pv 0) (pv 2)))))), ?_⟩
    refine ⟨v, rfl, v, .ty "int", _, _, _, rfl, .ty "int", rp_ty hd, kit_ty (kit_int d), _, rfl, ite2 (fun h1 => ?_) (fun h1 => ?_)⟩
    · refine ⟨v, rfl, v, .ty "bool", _, _, _, rfl, .ty "bool", rp_ty hd, kit_ty (kit_bool d), _, rfl, _, rfl, ite2 (fun h2 => ?_) (fun h2 => ?_)⟩
      · cases hd <;> first | (cases h1; done) | (cases h2; done) | skip
        rename_i i
        refine ⟨_, rfl, _, rfl, lo, i, rfl, rfl, _, rfl, ite2 (fun h3 => ?_) (fun h3 => ?_)⟩
        · refine ⟨_, rfl, i, hi, rfl, rfl, ?_⟩
          have e : isW lo hi (.int i) = decide (i ≤ hi) := by
            show (decide (lo ≤ i) && decide (i ≤ hi)) = _
            rw [h3]
            rfl
          rw [e] at q
          exact q
        · have e : isW lo hi (.int i) = false := by
            show (decide (lo ≤ i) && decide (i ≤ hi)) = _
            rw [Bool.eq_false_iff.mpr h3]
            rfl
          rw [e] at q
          exact q
      · cases hd <;> first | exact q | exact absurd rfl h2
    · cases hd <;> first | exact q | exact absurd rfl h1
end
end OF
end
section
set_option Elab.async false
set_option linter.all false
set_option maxRecDepth 100000
set_option maxHeartbeats 4000000
/-! need_plan -/
namespace OF
open PySem PySem.Spec PySem.Calls PyProof.Rows L2 OFx
/-- v is the plan (h, gs) -/
def Fr (H : Hp) (v : V) (h : Int) (gs : List Int) : Prop := ∃ p g, v = .ref p ∧ H p = some (.tup [.int h, .ref g]) ∧ H g = some (.tup (gs.map V.int))
theorem Fr.mono {H H' : Hp} {v : V} {h : Int} {gs : List Int} (x : Fr H v h gs) (e : Ex H H') : Fr H' v h gs := let ⟨p, g, h1, h2, h3⟩ := x; ⟨p, g, h1, e _ _ h2 rfl, e _ _ h3 rfl⟩
def GsOk (gs : List Int) : Prop := ∀ x ∈ gs, 1 ≤ x ∧ x ≤ 10 ^ 30
/-- an exception of the class at C, its field fld holds v -/
def Thrown (C : Addr) (fld : Str) (E : XK) (H : Hp) (v : V) : Prop := ∀ d, H d = none → E (.ref C) (some d) (upd H d (.xd [(fld, v)]))
def sp10 (CP : Addr) : Sp := fun vs H Q E => ∃ (v : V) (h : Int) (gs : List Int), vs = [v] ∧ Fr H v h gs ∧ GsOk gs ∧
  (¬ (1 ≤ h ∧ h ≤ 3) → ∀ H' t, Same H H' → H' t = some (.tup [.int 0]) → Thrown CP "place" E H' (.ref t)) ∧
  (1 ≤ h ∧ h ≤ 3 → ¬ (1 ≤ gs.length ∧ gs.length ≤ 8) → ∀ H' t, Same H H' → H' t = some (.tup [.int 1]) → Thrown CP "place" E H' (.ref t)) ∧
  (1 ≤ h ∧ h ≤ 3 → 1 ≤ gs.length ∧ gs.length ≤ 8 → ∀ H', Same H H' → Q v H')
section
variable {P : Program} {w : World} {K : PySem.W.Frag} {mg : Str → Option Value} {base : Heap}
theorem sc10 : FnScope ["thing", "number", "gap"] ["thing"] (defScope (top 10)) := ⟨rfl, rfl, rfl, by decide +kernel, rfl, by decide +kernel, by decide +kernel⟩
theorem ok10 (T : TX P K mg) : FnOk P w K mg base (L2.CX P w) 3 T.f10 T.d10 ["thing"] (sp10 T.CP) := by
  obtain ⟨tH, gH⟩ := T.hands
  obtain ⟨tT, gT⟩ := T.things
  obtain ⟨tG, gG⟩ := T.gap
  refine T.F10.okX sc10 (fun vs H Q E h => ?_) (fun cdv A outer s H vs Q E hr h => ?_)
  · obtain ⟨v, h, gs, rfl, _⟩ := h
    rfl
  · obtain ⟨v, h, gs, rfl, ⟨p, g, rfl, hp, hgg⟩, hok, e0, e1, q⟩ := h
    have G9 : FnOk P w K mg base C8.CX0 1 T.f9 T.d9 ["value", "least", "most"] sp9 := ok9 T
    refine ⟨_, pss_cons (ps_if (PW.pt (pw_or (pt_not (pt_val (pe_callB call_isi (by rfl) T.z_isinstance boot_isinstance (pa_cons (pv 0) (pa_cons (pe_bltn (v := .ty "tuple") (by rfl) T.z_tuple boot_tuple rfl) pa_nil)))))
          (pw_or1 (pt_cmpR op_ne (pe_callB call_len_seq (by rfl) T.z_len boot_len (pa_cons (pv 0) pa_nil)) pe_int (nomark _)))))
        (pss_one (ps_raiseX rfl T.xP fldPlace hr (takes_of rfl rfl rfl rfl) (pa_cons (pe_tup pa_nil) pa_nil) (by rfl) (by decide))) pss_nil)
      (pss_cons (ps_if (pt_not (pt_val (pe_callN G9 (hr.mono (by decide)) (by rfl) T.g9 T.F9.kp T.b9 (by exact (pa_cons (pe_ix ix_tup (pv 0) pe_int (fun _ _ => rfl)) (pa_cons pe_int (pa_cons (pe_glob (v := .int 3) (by rfl) gH ⟨_, rfl⟩) pa_nil)))))))
        (pss_one (ps_raiseX rfl T.xP fldPlace hr (takes_of rfl rfl rfl rfl) (pa_cons (pe_tup (pa_cons pe_int pa_nil)) pa_nil) (by rfl) (by decide))) pss_nil)
      (pss_cons (ps_if (PW.pt (pw_or (pt_not (pt_val (pe_callB call_isi (by rfl) T.z_isinstance boot_isinstance (pa_cons (pe_ix ix_tup (pv 0) pe_int (fun _ _ => rfl)) (pa_cons (pe_bltn (v := .ty "tuple") (by rfl) T.z_tuple boot_tuple rfl) pa_nil)))))
          (pw_or1 (pt_not (pt_chain op_le op_le pe_int (pe_callB call_len_seq (by rfl) T.z_len boot_len (pa_cons (pe_ix ix_tup (pv 0) pe_int (fun _ _ => rfl)) pa_nil)) (pe_glob (v := .int 8) (by rfl) gT ⟨_, rfl⟩))))))
        (pss_one (ps_raiseX rfl T.xP fldPlace hr (takes_of rfl rfl rfl rfl) (pa_cons (pe_tup (pa_cons pe_int pa_nil)) pa_nil) (by rfl) (by decide))) pss_nil)
      (pss_cons (ps_for PassesOwn.leaving rfl (pi_enT (by rfl) T.z_enumerate (pa_cons (pe_ix ix_tup (pv 0) pe_int (fun _ _ => rfl)) pa_nil))
          (pg_tup rfl (pgs_cons (pg_name (i := 1) sc10.nd rfl (.inl rfl)) (pgs_cons (pg_name (i := 2) sc10.nd rfl (.inl rfl)) pgs_nil)))
          (pss_one (ps_if (pt_not (pt_val (pe_callN G9 (hr.mono (by decide)) (by rfl) T.g9 T.F9.kp T.b9 (by exact (pa_cons (pv 2) (pa_cons pe_int (pa_cons (pe_glob (v := .int (10 ^ 30)) (by rfl) gG ⟨_, rfl⟩) pa_nil)))))))
            (pss_one (ps_raiseX rfl T.xP fldPlace hr (takes_of rfl rfl rfl rfl) (pa_cons (pe_tup (pa_cons pe_int (pa_cons (pv 1) pa_nil))) pa_nil) (by rfl) (by decide))) pss_nil)))
      (pss_one (ps_ret (pv 0)))))), ?_⟩
    -- not isinstance(thing, tuple) or len(thing) != 2
    refine ⟨.ref p, rfl, .ref p, .ty "tuple", _, _, _, rfl, .ty "tuple", .base (.tup hp), kit_ty (a := "tuple") (b := "tuple") (r := true) (by decide +kernel), _, rfl, iteF ⟨.ref p, rfl, p, _, rfl, .inr (.inl (.inl hp)), rfl, _, rfl, iteNS rfl ?_⟩⟩
    -- not is_whole(thing[0], 1, MOST_HANDS)
    refine ⟨.ref p, rfl, p, _, 0, .int h, rfl, rfl, .inl (.inl hp), atI_nat (j := 0) rfl, .int h, .int h, 1, 3, rfl, .int h, _, rfl, ite2 (fun c => ?_) (fun c => ?_)⟩
    · refine ⟨fits (by decide), fun t ht => ⟨.ref t, rfl, e0 (fun hh => ?_) _ t (same_upd ht) upd_same⟩⟩
      rw [isW_int hh] at c
      cases c
    have hh : 1 ≤ h ∧ h ≤ 3 := isW_no (not_no c)
    -- not isinstance(thing[1], tuple) or not 1 <= len(thing[1]) <= MOST_THINGS
    refine ⟨.ref p, rfl, p, _, 1, .ref g, rfl, rfl, .inl (.inl hp), atI_nat (j := 1) rfl, .ref g, .ty "tuple", _, _, _, rfl, .ty "tuple", .base (.tup hgg), kit_ty (a := "tuple") (b := "tuple") (r := true) (by decide +kernel), _, rfl, iteF ?_⟩
    refine ⟨.ref p, rfl, p, _, 1, .ref g, rfl, rfl, .inl (.inl hp), atI_nat (j := 1) rfl, g, _, rfl, .inr (.inl (.inl hgg)), 1, _, rfl, rfl, _, rfl, ite2 (fun c1 => ⟨_, 8, rfl, rfl, _, rfl, ite2 (fun c2 => ?_) (fun c2 => ?_)⟩) (fun c1 => ⟨_, rfl, iteT ?_⟩)⟩
    · refine ⟨fits (by decide), fun t ht => ⟨.ref t, rfl, e1 hh (fun hl => ?_) _ t (same_upd ht) upd_same⟩⟩
      have z : ((gs.map V.int).length : Int) ≤ 8 := by
        rw [List.length_map]
        omega
      rw [decide_eq_true z] at c2
      cases c2
    · have l1 : (1 : Int) ≤ ((gs.map V.int).length : Int) := of_decide_eq_true c1
      have l2 : ((gs.map V.int).length : Int) ≤ 8 := by
        cases q : decide (((gs.map V.int).length : Int) ≤ 8) with
        | true => exact of_decide_eq_true q
        | false =>
          rw [q] at c2
          exact absurd rfl c2
      rw [List.length_map] at l1 l2
      have hl : 1 ≤ gs.length ∧ gs.length ≤ 8 := by omega
      -- the loop
      refine ⟨.ref p, rfl, p, _, 1, .ref g, rfl, rfl, .inl (.inl hp), atI_nat (j := 1) rfl, g, _, rfl, .inl (.inl hgg), for_it (walk_enT (xs := gs.map V.int)) (fun i σ H' => ∃ y1 y2, σ = [some (.ref p), y1, y2] ∧ Same H H') ⟨none, none, rfl, Same.refl H⟩ ?_ ?_ ?_⟩
      · rintro i σ H' _ ⟨y1, y2, rfl, sm⟩
        exact .inl (.inl (sm _ _ hgg))
      · rintro i x σ H' H'' hi ⟨y1, y2, rfl, sm⟩ ⟨T1, a, b, rfl, hT, rfl, ea, eb⟩
        obtain rfl : a = .int (i : Nat) := (Option.some.inj ea).symm
        obtain ⟨z, ez, rfl⟩ := int_at (show (gs.map V.int)[i]? = some b from eb)
        have hz := hok z (List.mem_of_getElem? ez)
        refine ⟨T1, _, rfl, .inl (.inl upd_same), rfl, _, _, rfl, _, _, rfl, rfl, ?_⟩
        refine ⟨.int z, rfl, .int z, .int z, 1, 10 ^ 30, rfl, .int z, _, rfl, ite2 (fun c => ?_) (fun c => ?_)⟩
        · rw [isW_int hz] at c
          cases c
        · exact ⟨_, _, rfl, sm.trans (same_upd hT)⟩
      · rintro σ H' ⟨y1, y2, rfl, sm⟩
        exact ⟨_, rfl, q hh hl H' sm⟩
    · refine ⟨fits (by decide), fun t ht => ⟨.ref t, rfl, e1 hh (fun hl => ?_) _ t (same_upd ht) upd_same⟩⟩
      refine c1 (decide_eq_true ?_)
      rw [List.length_map]
      omega
end
end OF
end
section
set_option Elab.async false
set_option linter.all false
set_option maxRecDepth 100000
set_option maxHeartbeats 4000000
/-! lots_of -/
namespace OF
open PySem PySem.Spec PySem.Calls PyProof.Rows L2 OFx
def sp12 : Sp := fun vs H Q _ => ∃ (h n : Nat), vs = [.int h, .int n] ∧ HN h n ∧ ∀ H' p ys, Same H H' → H p = none → H' p = some (.lst ys) → ITs H' ys (lots h n) → Q (.ref p) H'
section
variable {P : Program} {w : World} {K : PySem.W.Frag} {mg : Str → Option Value} {base : Heap}
theorem sc12 : FnScope ["hands", "many", "found", "layer", "turn", "lot", "number"] ["hands", "many"] (defScope (top 12)) := ⟨rfl, rfl, rfl, by decide +kernel, rfl, by decide +kernel, by decide +kernel⟩
theorem ok12 (T : TX P K mg) : FnOk P w K mg base C8.CX0 1 T.f12 T.d12 ["hands", "many"] sp12 := by
  refine T.F12.ok sc12 (fun vs H Q E h => ?_) (fun cdv A outer s H vs Q E hr h => ?_)
  · obtain ⟨h, n, rfl, _⟩ := h
    rfl
  · obtain ⟨h, n, rfl, hn, q⟩ := h
    have hu : (A.deeper (envOfC "lots_of" (defScope (top 12)) s.heap.objs.size T.f12 cdv)).units + 64 < cLine := by
      have := hr.un
      omega
    refine ⟨_, pss_cons (ps_par (i := 2) (j := 3) rfl sc12.nd rfl rfl (by decide) rfl rfl (pa_cons (pe_lst (pa_cons (pe_tup pa_nil) pa_nil)) (pa_cons (pe_lst (pa_cons (pe_tup pa_nil) pa_nil)) pa_nil)) (by with_unfolding_all rfl))
      (pss_cons (ps_for PassesOwn.never rfl (pi_range1 (by rfl) T.z_range (pa_cons (pv 0) pa_nil)) (pg_name (i := 4) sc12.nd rfl (.inl rfl))
        (pss_cons (ps_setLc2 (i := 3) (own := [("lot", 5), ("number", 6)]) (vs1 := [6]) (g := gName 5) (g1 := gName 6) (tt := tYes) (tt1 := tYes) (te := tTup (StX.tStar K (tVar 5) (tCons (tVar 6) tNil))) rfl sc12.nd rfl rfl (by with_unfolding_all rfl) (pi_list (pv 3))
            (blkOk_by (N := ["hands", "many", "found", "layer", "turn", "lot", "number"]) (sc := defScope (top 12)) (by decide +kernel)) (by decide)
            (fun _ _ _ _ _ => pg_name (i := 5) sc12.nd rfl (.inl rfl)) (fun _ _ _ _ _ => pts_nil)
            (fun _ _ _ _ _ => by exact (pi_range2 (by rfl) T.z_range (pa_cons (pe_ifExp (pt_cmpR (op_neP hu) (pv 5) (pe_tup pa_nil) (nomark _)) (pe_op op_add (pe_ix (r := rIxT K) ix_tup (pv 5) (pe_un un_neg pe_int) (fun _ _ => rfl)) pe_int) pe_int) (pa_cons (pv 1) pa_nil))))
            (fun _ _ _ _ _ => pg_name (i := 6) sc12.nd rfl (.inl rfl)) (fun _ _ _ _ _ => pts_nil)
            (fun _ _ _ _ _ => by exact (pe_tup (StX.pa_star (pv 5) (pa_cons (pv 6) pa_nil)))))
        (pss_one (ps_expr (pe_bm PySem.F.plainAttrs_list PySem.F.slot_list_extend PySem.F.type_list_extend mt_extend (pv 2) (pa_cons (pv 3) pa_nil))))))
      (pss_one (ps_ret (pe_callB (cr_sortT hu) (by rfl) T.z_sorted boot_sorted (pa_cons (pv 2) pa_nil))))), ?_⟩
    obtain ⟨n1, n2, n3, n4⟩ := hn
    -- found, layer = ([()], [()])
    refine ⟨Nat.zero_le _, fun t1 ht1 => ⟨fits (by show 1 ≤ 1000; decide), fun F hF => ⟨Nat.zero_le _, fun t2 ht2 => ⟨fits (by show 1 ≤ 1000; decide), fun L0 hL0 => ⟨_, _, rfl, ?_⟩⟩⟩⟩⟩
    have s1 : Same H (upd H t1 (.tup [])) := same_upd ht1
    have s2 := same_upd (o := .lst [.ref t1]) hF
    have s3 := same_upd (o := .tup []) ht2
    have s4 := same_upd (o := .lst [.ref t2]) hL0
    have hFH : H F = none := s1.free hF
    have eF := s4 _ _ (s3 _ _ (upd_same (H := upd H t1 (.tup [])) (a := F) (o := .lst [.ref t1])))
    have e1 := s4 _ _ (s3 _ _ (s2 _ _ (upd_same (H := H) (a := t1) (o := .tup []))))
    have e2 := s4 _ _ (upd_same (H := upd (upd H t1 (.tup [])) F (.lst [.ref t1])) (a := t2) (o := .tup []))
    -- for turn in range(hands)
    refine ⟨.int h, rfl, (h : Int), rfl, by omega, by omega, for_it (walk_range (n := h)) (fun i σ H' => ∃ L xs ys y4, σ = [some (.int h), some (.int n), some (.ref F), some (.ref L), y4, none, none] ∧ Same H H' ∧ H' F = some (.lst xs) ∧ ITs H' xs (layersN n i).1 ∧ H' L = some (.lst ys) ∧ ITs H' ys (layersN n i).2)
      ⟨L0, [.ref t1], [.ref t2], none, rfl, ((s1.trans s2).trans s3).trans s4, eF, .cons ⟨t1, rfl, e1⟩ .nil, upd_same, .cons ⟨t2, rfl, e2⟩ .nil⟩ (fun _ _ _ _ _ => trivial) ?_ ?_⟩
    · rintro i x σ _ H1 hi ⟨L, xs, ys, y4, rfl, sm, hF1, iF, hL1, iL⟩ ⟨rfl, rfl⟩
      obtain ⟨bd1, bd2⟩ := layers_le (n := n) (i := i + 1) n4 (by omega)
      -- layer = [..]
      refine ⟨.ref L, rfl, L, rfl, ⟨ys, .inl (.inl hL1)⟩, fun D hD => lc2_it (walk_list (xs := ys)) (fun j H2 => ∃ acc, H2 D = some (.lst acc) ∧ ITs H2 acc (((layersN n i).2.take j).flatMap (exts n)) ∧ Same H1 H2)
        ⟨[], upd_same, .nil, same_upd hD⟩ (fun j H2 _ ⟨_, _, _, s5⟩ => .inl (.inl (s5 _ _ hL1))) ?_ ?_⟩
      · rintro j x _ H2 hj ⟨acc, hDa, iA, s5⟩ ⟨rfl, ex⟩
        obtain ⟨lot, elot, ix⟩ := paired_get iL ex
        have hlen := layer_len n i lot (List.mem_of_getElem? elot)
        obtain ⟨b0, b1⟩ := startOf_bd n (by omega) i lot (List.mem_of_getElem? elot)
        obtain ⟨tl, rfl, htl⟩ := ix
        have go : ∀ H3, Same H1 H3 → (∃ acc, H3 D = some (.lst acc) ∧ ITs H3 acc (((layersN n i).2.take j).flatMap (exts n))) → ∀ σ2 : L2.St, σ2 = [some (.int h), some (.int n), some (.ref F), some (.ref L), some (.int (0 + (i : Int))), some (.ref tl), none] →
            ∃ W1 : Nat → Nat → Hp → Prop, (∃ m, W1 0 m H3) ∧ ∀ j' k H, W1 j' k H →
            ((Itr (startOf lot) ((n : Int) - startOf lot).toNat).stop j' H ∧ (∃ acc, H D = some (.lst acc) ∧ ITs H acc (((layersN n i).2.take (j + 1)).flatMap (exts n)) ∧ Same H1 H)) ∨ ((Itr (startOf lot) ((n : Int) - startOf lot).toNat).go j' H ∧ ∃ Nx1 : Hp → Prop, (∀ H', Nx1 H' → ∃ k', k' < k ∧ W1 (j' + 1) k' H') ∧ ∀ x H', (Itr (startOf lot) ((n : Int) - startOf lot).toNat).yld j' H x H' → gName 6 x (wipe σ2 [6]) H' fun σ3 H5 => wipe σ3 [6] = wipe σ2 [6] ∧ tYes σ3 H5 fun b H6 =>
              if b = true then tTup (StX.tStar K (tVar 5) (tCons (tVar 6) tNil)) σ3 H6 fun y H7 => ∃ acc, H7 D = some (.lst acc) ∧ acc.length < sizeLine ∧ Nx1 (upd H7 D (.lst (acc ++ [y]))) else Nx1 H6) := by
          rintro H3 s6 ⟨acc3, hD3, i3⟩ σ2 rfl
          refine lc2_in walk_range (fun k H4 => ∃ acc, H4 D = some (.lst acc) ∧ ITs H4 acc (((layersN n i).2.take j).flatMap (exts n) ++ (exts n lot).take k) ∧ Same H1 H4) ⟨acc3, hD3, by rw [List.take_zero, List.append_nil]; exact i3, s6⟩ (fun _ _ _ _ => trivial) ?_ ?_
          · rintro k x _ H4 hk ⟨acc4, hD4, i4, s7⟩ ⟨rfl, rfl⟩
            have htl4 : H4 tl = some (.tup (lot.map V.int)) := s7 _ _ htl
            have hk' : k < (exts (n : Int) lot).length := by
              rw [exts_len]
              exact hk
            have pre : (((layersN n i).2.take (j + 1)).flatMap (exts n)) = ((layersN n i).2.take j).flatMap (exts n) ++ exts n lot := flat_take (exts n) elot
            have few : acc4.length + 1 ≤ 100 := by
              have z1 := paired_len i4
              have z2 := flat_len (exts (n : Int)) (layersN n i).2 (j + 1)
              rw [pre, List.length_append] at z2
              rw [List.length_append, List.length_take] at z1
              have z3 : ((layersN n i).2.flatMap (exts n)).length ≤ 100 := bd2
              omega
            refine ⟨rfl, .ref tl, rfl, tl, _, rfl, .inl (.inl (.inl htl4)), _, rfl, ?_, fun t ht => ?_⟩
            · rw [List.length_append, List.length_map, hlen]
              exact fits (by show i + 1 ≤ 1000; omega)
            · have s8 : Same H4 (upd H4 t (.tup (lot.map V.int ++ [.int (startOf lot + ((k : Nat) : Int))]))) := same_upd ht
              have hD5 := s8 _ _ hD4
              refine ⟨acc4, hD5, small1000 (by omega), acc4 ++ [.ref t], upd_same, ?_, same_put (s7.trans s8) hD⟩
              have i5 := ITs.put (ys := acc4 ++ [V.ref t]) hD5 (ITs.mono (Ex.same s8) i4)
              have it : IT (upd H4 t (.tup (lot.map V.int ++ [.int (startOf lot + ((k : Nat) : Int))]))) (.ref t) (lot ++ [startOf lot + ((k : Nat) : Int)]) := by
                refine ⟨t, rfl, ?_⟩
                rw [upd_same, List.map_append]
                rfl
              have z : (exts (n : Int) lot).take (k + 1) = (exts n lot).take k ++ [lot ++ [startOf lot + ((k : Nat) : Int)]] := by
                rw [List.take_add_one, exts_get hk]
                rfl
              rw [z, ← List.append_assoc]
              exact paired_append i5 (.cons (it.put hD5) .nil)
          · rintro H4 ⟨acc4, hD4, i4, s7⟩
            refine ⟨acc4, hD4, ?_, s7⟩
            rw [flat_take (exts n) elot]
            rw [← exts_len, List.take_length] at i4
            exact i4
        -- the start
        refine ⟨rfl, ?_⟩
        refine ⟨.ref tl, rfl, Nat.zero_le _, fun t ht => ?_⟩
        have s6 : Same H2 (upd H2 t (.tup [])) := same_upd ht
        have iE : Rp (upd H2 t (.tup [])) (.ref t) (tD []) := .tup upd_same .nil
        have iT : IT (upd H2 t (.tup [])) (.ref tl) lot := ⟨tl, rfl, s6 _ _ (s5 _ _ htl)⟩
        refine ⟨tD lot, tD [], iT.rp, iE, shaped_tD _, shaped_tD _, _, rfl, ?_⟩
        rw [eqv_tD]
        by_cases hl : lot = []
        · subst hl
          refine iteNS (c := ([] : List Int) = []) rfl ⟨.int n, rfl, 0, n, rfl, by omega, go _ (s5.trans s6) ⟨acc, s6 _ _ hDa, ITs.mono (Ex.same s6) iA⟩ _ rfl⟩
        · obtain ⟨l, z, rfl⟩ := snoc_of_ne hl
          rw [decide_eq_false hl]
          rw [startOf_snoc] at b0 b1
          refine ⟨.ref tl, rfl, 1, rfl, tl, _, -1, .int z, rfl, rfl, .inl (.inl (s6 _ _ (s5 _ _ htl))), ?_, z, 1, rfl, rfl, .int n, rfl, z + 1, n, rfl, by omega, ?_⟩
          · rw [List.map_append]
            exact atI_last _ _
          · have g := go _ (s5.trans s6) ⟨acc, s6 _ _ hDa, ITs.mono (Ex.same s6) iA⟩ _ rfl
            rw [startOf_snoc] at g
            exact g
      · rintro H2 ⟨acc, hDa, iA, s5⟩
        have eL : (layersN (n : Int) i).2.length = ys.length := (paired_len iL).symm
        rw [← eL, List.take_length] at iA
        have nFD : F ≠ D := ne_of_none hF1 hD
        refine ⟨.ref F, rfl, .inl ⟨rfl, _, .inl (.inl (s5 _ _ hF1))⟩, .ref D, rfl, F, D, xs, acc, rfl, rfl, s5 _ _ hF1, hDa, ?_, ?_⟩
        · have z1 := paired_len iF
          have z2 := paired_len iA
          have z3 : ((layersN (n : Int) i).1 ++ grow n (layersN n i).2).length ≤ 100 := bd1
          rw [List.length_append] at z3
          have z4 : (grow (n : Int) (layersN n i).2).length = ((layersN (n : Int) i).2.flatMap (exts n)).length := rfl
          exact fits (by omega)
        · refine ⟨D, xs ++ acc, acc, some (.int (0 + (i : Int))), rfl, same_put (sm.trans s5) hFH, upd_same, ?_, ?_, ?_⟩
          · exact paired_append (ITs.put (s5 _ _ hF1) (ITs.mono (Ex.same s5) iF)) (ITs.put (s5 _ _ hF1) iA)
          · rw [upd_ne nFD.symm]
            exact hDa
          · exact ITs.put (s5 _ _ hF1) iA
    · rintro σ H1 ⟨L, xs, ys, y4, rfl, sm, hF1, iF, hL1, iL⟩
      obtain ⟨r, er⟩ := layers_first (n : Int) h
      have iF' := iF
      rw [er] at iF'
      cases iF' with
      | cons x0 xr =>
        refine ⟨.ref F, rfl, F, _, _, _, rfl, .inl (.inl hF1), .cons x0 xr, fun zs es p iz srt pm hp => q _ p zs (sm.trans (same_upd hp)) (sm.free hp) upd_same ?_⟩
        have e : es = lots h n := srtL_uniq srt (isort_srt _) (pm.trans (by rw [← er]; exact (isort_perm _).symm))
        rw [← e]
        exact ITs.mono (Ex.upd hp) iz
end
end OF
end
section
set_option Elab.async false
set_option linter.all false
set_option maxRecDepth 100000
set_option maxHeartbeats 4000000
/-! days_of, is_day, is_standing -/
namespace OF
open PySem PySem.Spec PySem.Calls PyProof.Rows L2 OFx
/-- what a bad plan does -/
def PlanX (CP : Addr) (H : Hp) (h : Int) (gs : List Int) (E : XK) : Prop :=
  (¬ (1 ≤ h ∧ h ≤ 3) → ∀ H' t, Same H H' → H' t = some (.tup [.int 0]) → Thrown CP "place" E H' (.ref t)) ∧
  (1 ≤ h ∧ h ≤ 3 → ¬ (1 ≤ gs.length ∧ gs.length ≤ 8) → ∀ H' t, Same H H' → H' t = some (.tup [.int 1]) → Thrown CP "place" E H' (.ref t))
def PlanOk (h : Int) (gs : List Int) : Prop := (1 ≤ h ∧ h ≤ 3) ∧ 1 ≤ gs.length ∧ gs.length ≤ 8
theorem sp10_of {CP : Addr} {v : V} {H : Hp} {h : Int} {gs : List Int} {Q : VK} {E : XK} (f : Fr H v h gs) (ok : GsOk gs) (x : PlanX CP H h gs E) (q : PlanOk h gs → ∀ H', Same H H' → Q v H') : sp10 CP [v] H Q E :=
  ⟨v, h, gs, rfl, f, ok, x.1, x.2, fun a b => q ⟨a, b⟩⟩
def lotsI (h : Int) (gs : List Int) : List (List Int) := lots h.toNat gs.length
def sp13 (CP : Addr) : Sp := fun vs H Q E => ∃ v h gs, vs = [v] ∧ Fr H v h gs ∧ GsOk gs ∧ PlanX CP H h gs E ∧ (PlanOk h gs → ∀ H' t ys, Same H H' → H' t = some (.tup ys) → ITs H' ys (lotsI h gs) → Q (.ref t) H')
section
variable {P : Program} {w : World} {K : PySem.W.Frag} {mg : Str → Option Value} {base : Heap}
theorem sc13 : FnScope ["plan"] ["plan"] (defScope (top 13)) := ⟨rfl, rfl, rfl, by decide +kernel, rfl, by decide +kernel, by decide +kernel⟩
theorem ok13 (T : TX P K mg) : FnOk P w K mg base (L2.CX P w) 4 T.f13 T.d13 ["plan"] (sp13 T.CP) := by
  refine T.F13.okX sc13 (fun vs H Q E h => ?_) (fun cdv A outer s H vs Q E hr h => ?_)
  · obtain ⟨v, h, gs, rfl, _⟩ := h
    rfl
  · obtain ⟨v, h, gs, rfl, hf, hok, hx, q⟩ := h
    have G10 : FnOk P w K mg base (L2.CX P w) 3 T.f10 T.d10 ["thing"] (sp10 T.CP) := ok10 T
    have G12 : FnOk P w K mg base C8.CX0 1 T.f12 T.d12 ["hands", "many"] sp12 := ok12 T
    refine ⟨_, pss_cons (ps_expr (pe_callX (takes_of rfl rfl rfl rfl) G10 hr (by rfl) T.g10 T.F10.kp T.b10 (pa_cons (pv 0) pa_nil)))
      (pss_one (ps_ret (pe_callTy call_tuple_of (by rfl) T.z_tuple boot_tuple (pa_cons (pe_callN G12 (hr.mono (by decide)) (by rfl) T.g12 T.F12.kp T.b12
        (pa_cons (pe_ix ix_tup (pv 0) pe_int (fun _ _ => rfl)) (pa_cons (pe_callB call_len_seq (by rfl) T.z_len boot_len (pa_cons (pe_ix ix_tup (pv 0) pe_int (fun _ _ => rfl)) pa_nil)) pa_nil))) pa_nil)))), ?_⟩
    refine ⟨v, rfl, sp10_of hf hok hx fun ok H1 s1 => ?_⟩
    obtain ⟨p, g, rfl, hp, hg⟩ := hf.mono (Ex.same s1)
    obtain ⟨⟨a1, a2⟩, a3, a4⟩ := ok
    refine ⟨.ref p, rfl, p, _, 0, .int h, rfl, rfl, .inl (.inl hp), atI_nat (j := 0) rfl, .ref p, rfl, p, _, 1, .ref g, rfl, rfl, .inl (.inl hp), atI_nat (j := 1) rfl, g, _, rfl, .inr (.inl (.inl hg)), ?_⟩
    refine ⟨h.toNat, gs.length, ?_, ⟨by omega, by omega, a3, a4⟩, fun H2 l ys s2 hl hL iL => ?_⟩
    · rw [List.length_map, Int.toNat_of_nonneg (by omega)]
    · exact ⟨l, ys, rfl, .inl ⟨.inl (.inl hL), fun t ht => q ⟨⟨a1, a2⟩, a3, a4⟩ _ t ys ((s1.trans s2).trans (same_upd ht)) upd_same (ITs.mono (Ex.upd ht) iL)⟩⟩
def sp14 : Sp := fun vs H Q _ => ∃ p v h gs d, vs = [p, v] ∧ Fr H p h gs ∧ Rp H v d ∧ h ≤ 1000 ∧ ∀ H', Same H H' → Q (.bl (isDay h gs.length d)) H'
theorem sc14 : FnScope ["plan", "value", "number", "one", "other"] ["plan", "value"] (defScope (top 14)) := ⟨rfl, rfl, rfl, by decide +kernel, rfl, by decide +kernel, by decide +kernel⟩
theorem ok14 (T : TX P K mg) : FnOk P w K mg base C8.CX0 2 T.f14 T.d14 ["plan", "value"] sp14 := by
  refine T.F14.ok sc14 (fun vs H Q E h => ?_) (fun cdv A outer s H vs Q E hr h => ?_)
  · obtain ⟨p, v, h, gs, d, rfl, _⟩ := h
    rfl
  · obtain ⟨p0, v, h, gs, d, rfl, ⟨p, g, rfl, hp, hg⟩, hv, hh, q⟩ := h
    have G9 : FnOk P w K mg base C8.CX0 1 T.f9 T.d9 ["value", "least", "most"] sp9 := ok9 T
    refine ⟨_, pss_cons (ps_if (PW.pt (pw_or (pt_not (pt_val (pe_callB call_isi (by rfl) T.z_isinstance boot_isinstance (pa_cons (pv 1) (pa_cons (pe_bltn (v := .ty "tuple") (by rfl) T.z_tuple boot_tuple rfl) pa_nil)))))
          (pw_or1 (pt_cmpR op_gt (pe_callB cr_len (by rfl) T.z_len boot_len (pa_cons (pv 1) pa_nil)) (pe_ix ix_tup (pv 0) pe_int (fun _ _ => rfl)) (nomark _)))))
        (pss_one (ps_ret pe_bl)) pss_nil)
      (pss_cons (ps_if (pt_not (pt_val (pe_callB (cr_all rfl) (by rfl) T.z_all boot_all (pa_cons (pe_lc (own := [("number", 2)]) (g := gName 2) (tt := tYes) rfl sc14.nd (pi_tup (pv 1)) (blkOk_by (N := ["plan", "value", "number", "one", "other"]) (sc := defScope (top 14)) (by decide +kernel))
            (fun _ _ _ _ _ => pg_name (i := 2) sc14.nd rfl (.inl rfl)) (fun _ _ _ _ _ => pts_nil)
            (fun _ _ _ _ _ => by exact (pe_callN G9 hr (by rfl) T.g9 T.F9.kp T.b9 (pa_cons (pv 2) (pa_cons pe_int (pa_cons (pe_op op_sub (pe_callB (r := rLenS K) cr_len (by rfl) T.z_len boot_len (pa_cons (pe_ix (r := rIxT K) ix_tup (pv 0) pe_int (fun _ _ => rfl)) pa_nil)) pe_int) pa_nil)))))) pa_nil))))
        (pss_one (ps_ret pe_bl)) pss_nil)
      (pss_one (ps_ret (pe_callB (cr_all rfl) (by rfl) T.z_all boot_all (pa_cons (pe_lc (own := [("one", 3), ("other", 4)]) (g := gTup K 2 (gCons (gName 3) (gCons (gName 4) gNil))) (tt := tYes) rfl sc14.nd
            (RZ.pi_zipA (by rfl) T.z_zip (pa_cons (pv 1) (pa_cons (pe_slice sl_tupA (pv 1) (po_some pe_int) po_none) pa_nil))) (blkOk_by (N := ["plan", "value", "number", "one", "other"]) (sc := defScope (top 14)) (by decide +kernel))
            (fun _ _ _ _ _ => by exact (pg_tup rfl (pgs_cons (pg_name (i := 3) sc14.nd rfl (.inl rfl)) (pgs_cons (pg_name (i := 4) sc14.nd rfl (.inl rfl)) pgs_nil)))) (fun _ _ _ _ _ => pts_nil)
            (fun _ _ _ _ _ => by exact (pe_cmpR op_lt (pv 3) (pv 4) (nomark _)))) pa_nil))))), ?_⟩
    -- not isinstance(value, tuple) or len(value) > plan[0]
    refine ⟨v, rfl, v, .ty "tuple", _, _, _, rfl, .ty "tuple", rp_ty hv, kit_ty (kit_tup d), _, rfl, ite2 (fun c => ?_) (fun c => ?_)⟩
    · have e : isDay h gs.length d = false := by
        cases d <;> first | rfl | (cases c; done)
      have z := q H (Same.refl H)
      rw [e] at z
      exact z
    obtain ⟨ds, rfl⟩ : ∃ ds, d = .tuple ds := by
      cases d <;> first | exact ⟨_, rfl⟩ | exact absurd rfl c
    cases hv with
    | @tup a xs _ ha hxs =>
      have hl := rpAll_len hxs
      refine ⟨.ref a, rfl, a, _, rfl, .inr (.inl (.inl ha)), .ref p, rfl, p, _, 0, .int h, rfl, rfl, .inl (.inl hp), atI_nat (j := 0) rfl, xs.length, h, rfl, rfl, _, rfl, ite2 (fun c1 => ?_) (fun c1 => ?_)⟩
      · have c1' := of_decide_eq_true c1
        have e : isDay h gs.length (.tuple ds) = false := by
          show (decide ((ds.length : Int) ≤ h) && _) = false
          rw [decide_eq_false (by omega)]
          rfl
        have z := q H (Same.refl H)
        rw [e] at z
        exact z
      have c1' : ¬ h < (xs.length : Int) := fun z => c1 (decide_eq_true z)
      have few : xs.length ≤ 1000 := by omega
      have e1 : isDay h gs.length (.tuple ds) = (ds.all (isW 0 ((gs.length : Int) - 1)) && asc (ds.map num)) := by
        show (decide ((ds.length : Int) ≤ h) && _) = _
        rw [decide_eq_true (by omega)]
        rfl
      -- all([is_whole(..) for number in value])
      refine ⟨.ref a, rfl, a, rfl, ⟨xs, .inl (.inl ha)⟩, fun D hD => lc_mp (walk_tup (xs := xs)) (fun i => .bl (isW 0 ((gs.length : Int) - 1) (ds.getD i .none))) few hD (fun H2 s2 => .inl (.inl (s2 _ _ ha))) (fun i x H2 H' Ky hi s2 hy ky => ?_) gName_mono fun H3 s3 hL => ?_⟩
      · obtain ⟨rfl, ex⟩ := hy
        obtain ⟨dx, ed, hx⟩ := rpAll_get hxs ex
        refine ⟨rfl, x, rfl, .ref p, rfl, p, _, 1, .ref g, rfl, rfl, .inl (.inl (s2 _ _ hp)), atI_nat (j := 1) rfl, g, _, rfl, .inr (.inl (.inl (s2 _ _ hg))), (gs.map V.int).length, 1, rfl, rfl, x, dx, 0, _, rfl, hx.mono (Ex.same s2), ?_⟩
        rw [List.length_map]
        refine ky _ _ ?_ (Same.refl _)
        rw [List.getD_eq_getElem?_getD, ed]
        rfl
      have eb : ((List.range xs.length).map fun i => isW 0 ((gs.length : Int) - 1) (ds.getD i .none)).all id = ds.all (isW 0 ((gs.length : Int) - 1)) := by
        rw [hl]
        refine all_range_map ds _ _ fun i x e => ?_
        rw [List.getD_eq_getElem?_getD, e]
        rfl
      refine ⟨D, (List.range xs.length).map fun i => isW 0 ((gs.length : Int) - 1) (ds.getD i .none), rfl, .inl (.inl ?_), _, rfl, ite2 (fun c2 => ?_) (fun c2 => ?_)⟩
      · rw [hL, List.map_map]
        rfl
      · rw [eb] at c2
        have z := q H3 s3
        rw [e1, not_yes c2] at z
        exact z
      · rw [eb] at c2
        have all := not_no c2
        have ex := rpAll_nums hxs all
        have e2 : isDay h gs.length (.tuple ds) = asc (ds.map num) := by
          rw [e1, all]
          rfl
        rw [e2] at q
        have ha3 : H3 a = some (.tup ((ds.map num).map V.int)) := by rw [← ex]; exact s3 _ _ ha
        generalize ens : ds.map num = ns at *
        have ln : ns.length ≤ 1000 := by
          have : xs.length = ns.length := by rw [ex, List.length_map]
          omega
        -- zip(value, value[1:])
        have go : ∀ (H4 : Hp) (b : Addr), Same H3 H4 → H4 b = some (.tup ((ns.map V.int).drop 1)) →
            ∀ D2, H4 D2 = none → ∃ W : Nat → Nat → Hp → Prop, (∃ m, W 0 m (upd H4 D2 (.lst []))) ∧ ∀ i m H, W i m H →
              ((RZ.ItzT K a b).stop i H ∧ rAll K [.ref D2] H Q) ∨ ((RZ.ItzT K a b).go i H ∧ ∃ Nx : Hp → Prop, (∀ H', Nx H' → ∃ m', m' < m ∧ W (i + 1) m' H') ∧ ∀ x H', (RZ.ItzT K a b).yld i H x H' → gTup K 2 (gCons (gName 3) (gCons (gName 4) gNil)) x (wipe [some (.ref p), some (.ref a), none, none, none] [3, 4]) H' fun σ2 H2 => wipe σ2 [3, 4] = wipe [some (.ref p), some (.ref a), none, none, none] [3, 4] ∧ tYes σ2 H2 fun b H3 =>
                if b = true then tOp (rI0 fun i j => .bl (decide (i < j))) (tVar 3) (tVar 4) σ2 H3 fun y H4 => ∃ acc, H4 D2 = some (.lst acc) ∧ acc.length < sizeLine ∧ Nx (upd H4 D2 (.lst (acc ++ [y]))) else Nx H3) := by
          intro H4 b s4 hb D2 hD2
          have nz : (ns.map V.int).length - 1 = min (ns.map V.int).length ((ns.map V.int).drop 1).length := by
            rw [List.length_drop]
            omega
          refine lc_mp (walk_ziT (xs := ns.map V.int) (ys := (ns.map V.int).drop 1) nz) (fun i => .bl (decide (ns.getD i 0 < ns.getD (i + 1) 0))) (by rw [List.length_map]; omega) hD2 (fun H5 s5 => ⟨.inl (.inl (s5 _ _ (s4 _ _ ha3))), .inl (.inl (s5 _ _ hb))⟩) (fun i x H5 H6 Ky hi s5 hy ky => ?_) gPair_mono fun H5 s5 hL5 => ?_
          · obtain ⟨T1, x1, x2, rfl, hT, rfl, ea, eb⟩ := hy
            obtain ⟨z1, ez1, rfl⟩ := int_at (show (ns.map V.int)[i]? = some x1 from ea)
            have eb' : ((ns.map V.int).drop 1)[i]? = some x2 := eb
            rw [List.getElem?_drop, Nat.add_comm 1 i] at eb'
            obtain ⟨z2, ez2, rfl⟩ := int_at eb'
            refine ⟨T1, _, rfl, .inl (.inl upd_same), rfl, _, _, rfl, _, _, rfl, rfl, rfl, _, rfl, _, rfl, z1, z2, rfl, rfl, ?_⟩
            refine ky _ _ ?_ (same_upd hT)
            rw [List.getD_eq_getElem?_getD, List.getD_eq_getElem?_getD, ez1, ez2]
            rfl
          · refine ⟨D2, (List.range ((ns.map V.int).length - 1)).map fun i => decide (ns.getD i 0 < ns.getD (i + 1) 0), rfl, .inl (.inl ?_), ?_⟩
            · rw [hL5, List.map_map]
              rfl
            · have e5 : ((List.range ((ns.map V.int).length - 1)).map fun i => decide (ns.getD i 0 < ns.getD (i + 1) 0)).all id = asc ns := by
                rw [List.length_map, List.all_map]
                rfl
              rw [e5]
              exact q H5 (s3.trans (s4.trans s5))
        refine ⟨.ref a, rfl, .ref a, rfl, 1, rfl, a, _, rfl, .inl (.inl ha3), fun hw => ?_, fun hw b hb => ?_⟩
        · have e0 : (ns.map V.int).drop 1 = ns.map V.int := by
            have hw1 := hw.1
            rw [show HT.sIx (ns.map V.int).length 0 (some 1) = min 1 (ns.map V.int).length from HT.sIx_nat _ 0 1] at hw1
            cases ns with
            | nil => rfl
            | cons _ _ =>
              rw [List.map_cons, List.length_cons] at hw1
              omega
          refine ⟨a, a, _, _, rfl, .inr ⟨.inl (.inl ha3), .inl (.inl (e0.symm ▸ ha3)), fun D2 hD2 => go H3 a (Same.refl _) (by rw [e0]; exact ha3) D2 hD2⟩⟩
        · rw [cut1]
          exact ⟨a, b, _, _, rfl, .inr ⟨.inl (.inl (same_upd hb _ _ ha3)), .inl (.inl upd_same), fun D2 hD2 => go _ b (same_upd hb) upd_same D2 hD2⟩⟩
end
end OF
end
section
set_option Elab.async false
set_option linter.all false
set_option maxRecDepth 100000
set_option maxHeartbeats 4000000
/-! What is due; the next standing. -/
namespace OF
open PySem PySem.Spec PyProof.Rows L2 OFx
def hasDue (ls ns : List Int) : Bool := (List.range ls.length).all fun i => decide (1 < ls.getD i 0) || decide (((i : Nat) : Int) ∈ ns)
def nextOf (gs ls ns : List Int) : List Int := (List.range ls.length).map fun i => if ((i : Nat) : Int) ∈ ns then gs.getD i 0 else ls.getD i 0 - 1
def dues (h : Int) (gs ls : List Int) : List (List Int) := (lots h.toNat gs.length).filter (hasDue ls)
def nums : PyData → List Int
  | .tuple ds => ds.map num
  | _ => []
theorem inV_ints (k : Int) : ∀ ns : List Int, inV (.int k) (ns.map V.int) = decide (k ∈ ns)
  | [] => rfl
  | n :: ns => by
    have ih := inV_ints k ns
    show (eqV (.int n) (.int k) || inV (.int k) (ns.map V.int)) = _
    rw [ih]
    show ((n == k) || decide (k ∈ ns)) = decide (k ∈ n :: ns)
    rw [Bool.eq_iff_iff]
    simp only [Bool.or_eq_true, beq_iff_eq, decide_eq_true_eq, List.mem_cons]
    exact ⟨fun h => h.elim (fun e => .inl e.symm) .inr, fun h => h.elim (fun e => .inl e.symm) .inr⟩
theorem flat_ints : ∀ ns : List Int, (ns.map V.int).all flatV = true
  | [] => rfl
  | n :: ns => by
    show (true && (ns.map V.int).all flatV) = true
    rw [flat_ints ns]
    rfl
theorem isSt_num {gs : List Int} : ∀ {ds : List PyData} {gs : List Int}, (ds.zip gs).all (fun p => isW 1 p.2 p.1) = true → ds.length = gs.length → ds = (ds.map num).map PyData.int
  | [], _, _, _ => rfl
  | _ :: _, [], _, h => by simp at h
  | d :: ds, g :: gs, h, hl => by
    rw [List.zip_cons_cons, List.all_cons, Bool.and_eq_true] at h
    have e := isW_num h.1
    have ih := isSt_num (gs := gs) h.2 (by simpa using hl)
    rw [List.map_cons, List.map_cons, ← ih, ← e]
theorem isSt_tD {gs : List Int} {d : PyData} (h : isSt gs d = true) : d = tD (nums d) ∧ (nums d).length = gs.length := by
  cases d with
  | tuple ds =>
    have h' : (decide (ds.length = gs.length) && (ds.zip gs).all fun p => isW 1 p.2 p.1) = true := h
    rw [Bool.and_eq_true, decide_eq_true_eq] at h'
    refine ⟨?_, ?_⟩
    · show PyData.tuple ds = .tuple ((ds.map num).map PyData.int)
      rw [← isSt_num (gs := gs) h'.2 h'.1]
    · show (ds.map num).length = _
      rw [List.length_map, h'.1]
  | _ => cases h
theorem isDay_all : ∀ {ds : List PyData} {lo hi : Int}, ds.all (isW lo hi) = true → ds = (ds.map num).map PyData.int
  | [], _, _, _ => rfl
  | d :: ds, lo, hi, h => by
    rw [List.all_cons, Bool.and_eq_true] at h
    rw [List.map_cons, List.map_cons, ← isDay_all h.2, ← isW_num h.1]
theorem isDay_tD {h : Int} {n : Nat} {d : PyData} (e : isDay h n d = true) : d = tD (nums d) := by
  cases d with
  | tuple ds =>
    have h' : (decide ((ds.length : Int) ≤ h) && (ds.all (isW 0 ((n : Int) - 1)) && asc (ds.map num))) = true := e
    rw [Bool.and_eq_true, Bool.and_eq_true] at h'
    show PyData.tuple ds = .tuple ((ds.map num).map PyData.int)
    rw [← isDay_all h'.2.1]
  | _ => cases e
theorem nums_tD (ns : List Int) : nums (tD ns) = ns := by
  show (ns.map PyData.int).map num = ns
  rw [List.map_map]
  exact List.map_id'' (fun _ => rfl) ns
theorem rp_tD {H : Hp} {v : V} {ns : List Int} (h : Rp H v (tD ns)) : IT H v ns := by
  cases h with
  | @tup a xs _ ha hxs =>
    refine ⟨a, rfl, ?_⟩
    rw [ha]
    have : ∀ {xs : List V} {ns : List Int}, RpAll H xs (ns.map PyData.int) → xs = ns.map V.int := by
      intro xs ns
      induction ns generalizing xs with
      | nil =>
        intro h
        cases h
        rfl
      | cons n ns ih =>
        intro h
        cases h with
        | cons r t =>
          rw [rp_int r, ih t]
          rfl
    rw [this hxs]
/-- of paired lists those whose right side fulfils p -/
theorem its_filter {H : Hp} (p : List Int → Bool) : ∀ {xs : List V} {ds : List (List Int)}, ITs H xs ds → ITs H ((List.range xs.length).filterMap fun i => if p (ds.getD i []) then xs[i]? else none) (ds.filter p)
  | _, _, .nil => .nil
  | x :: xs, d :: ds, .cons a b => by
    have ih := its_filter p b
    rw [List.length_cons, List.range_succ_eq_map]
    generalize hf : (fun i => if p ((d :: ds).getD i []) = true then (x :: xs)[i]? else none) = f
    have f0 : f 0 = if p d = true then some x else none := by rw [← hf]; rfl
    have fs : f ∘ Nat.succ = fun i => if p (ds.getD i []) = true then xs[i]? else none := by rw [← hf]; rfl
    by_cases h : p d = true
    · rw [if_pos h] at f0
      rw [List.filterMap_cons_some f0, List.filter_cons_of_pos h, List.filterMap_map, fs]
      exact .cons a ih
    · rw [if_neg h] at f0
      rw [List.filterMap_cons_none f0, List.filter_cons_of_neg h, List.filterMap_map, fs]
      exact ih
end OF
end
section
set_option Elab.async false
set_option linter.all false
set_option maxRecDepth 100000
set_option maxHeartbeats 4000000
/-! is_standing, need_standing, has_due, later_of, due_days, right_days, behind -/
namespace OF
open PySem PySem.Spec PySem.Calls PyProof.Rows L2 OFx
section
variable {P : Program} {w : World} {K : PySem.W.Frag} {mg : Str → Option Value} {base : Heap}
def sp15 : Sp := fun vs H Q _ => ∃ p v h gs d, vs = [p, v] ∧ Fr H p h gs ∧ Rp H v d ∧ gs.length ≤ 1000 ∧ ∀ H', Same H H' → Q (.bl (isSt gs d)) H'
theorem sc15 : FnScope ["plan", "value", "left", "gap"] ["plan", "value"] (defScope (top 15)) := ⟨rfl, rfl, rfl, by decide +kernel, rfl, by decide +kernel, by decide +kernel⟩
theorem ok15 (T : TX P K mg) : FnOk P w K mg base C8.CX0 2 T.f15 T.d15 ["plan", "value"] sp15 := by
  refine T.F15.ok sc15 (fun vs H Q E h => ?_) (fun cdv A outer s H vs Q E hr h => ?_)
  · obtain ⟨p, v, h, gs, d, rfl, _⟩ := h
    rfl
  · obtain ⟨p0, v, h, gs, d, rfl, ⟨p, g, rfl, hp, hg⟩, hv, few, q⟩ := h
    have G9 : FnOk P w K mg base C8.CX0 1 T.f9 T.d9 ["value", "least", "most"] sp9 := ok9 T
    refine ⟨_, pss_cons (ps_if (PW.pt (pw_or (pt_not (pt_val (pe_callB call_isi (by rfl) T.z_isinstance boot_isinstance (pa_cons (pv 1) (pa_cons (pe_bltn (v := .ty "tuple") (by rfl) T.z_tuple boot_tuple rfl) pa_nil)))))
          (pw_or1 (pt_cmpR op_ne (pe_callB cr_len (by rfl) T.z_len boot_len (pa_cons (pv 1) pa_nil)) (pe_callB cr_len (by rfl) T.z_len boot_len (pa_cons (pe_ix ix_tup (pv 0) pe_int (fun _ _ => rfl)) pa_nil)) (nomark _)))))
        (pss_one (ps_ret pe_bl)) pss_nil)
      (pss_one (ps_ret (pe_callB (cr_all rfl) (by rfl) T.z_all boot_all (pa_cons (pe_lc (own := [("left", 2), ("gap", 3)]) (g := gTup K 2 (gCons (gName 2) (gCons (gName 3) gNil))) (tt := tYes) rfl sc15.nd
            (RZ.pi_zipA (by rfl) T.z_zip (pa_cons (pv 1) (pa_cons (pe_ix ix_tup (pv 0) pe_int (fun _ _ => rfl)) pa_nil))) (blkOk_by (N := ["plan", "value", "left", "gap"]) (sc := defScope (top 15)) (by decide +kernel))
            (fun _ _ _ _ _ => by exact (pg_tup rfl (pgs_cons (pg_name (i := 2) sc15.nd rfl (.inl rfl)) (pgs_cons (pg_name (i := 3) sc15.nd rfl (.inl rfl)) pgs_nil)))) (fun _ _ _ _ _ => pts_nil)
            (fun _ _ _ _ _ => by exact (pe_callN G9 hr (by rfl) T.g9 T.F9.kp T.b9 (pa_cons (pv 2) (pa_cons pe_int (pa_cons (pv 3) pa_nil)))))) pa_nil)))), ?_⟩
    refine ⟨v, rfl, v, .ty "tuple", _, _, _, rfl, .ty "tuple", rp_ty hv, kit_ty (kit_tup d), _, rfl, ite2 (fun c => ?_) (fun c => ?_)⟩
    · have e : isSt gs d = false := by
        cases d <;> first | rfl | (cases c; done)
      have z := q H (Same.refl H)
      rw [e] at z
      exact z
    obtain ⟨ds, rfl⟩ : ∃ ds, d = .tuple ds := by
      cases d <;> first | exact ⟨_, rfl⟩ | exact absurd rfl c
    cases hv with
    | @tup a xs _ ha hxs =>
      have hl := rpAll_len hxs
      refine ⟨.ref a, rfl, a, _, rfl, .inr (.inl (.inl ha)), .ref p, rfl, p, _, 1, .ref g, rfl, rfl, .inl (.inl hp), atI_nat (j := 1) rfl, g, _, rfl, .inr (.inl (.inl hg)), rfl, _, rfl, ite2 (fun c1 => ?_) (fun c1 => ?_)⟩
      · have e : isSt gs (.tuple ds) = false := by
          show (decide (ds.length = gs.length) && _) = false
          rw [decide_eq_false (fun e => ?_)]
          · rfl
          · rw [hl, List.length_map, e] at c1
            rw [decide_eq_true rfl] at c1
            cases c1
        have z := q H (Same.refl H)
        rw [e] at z
        exact z
      have ll : ds.length = gs.length := by
        have z : V.int (xs.length : Nat) = .int ((gs.map V.int).length : Nat) := of_decide_eq_true (not_no c1)
        have z2 := V.int.inj z
        rw [List.length_map, hl] at z2
        omega
      have e1 : isSt gs (.tuple ds) = (ds.zip gs).all fun p => isW 1 p.2 p.1 := by
        show (decide (ds.length = gs.length) && _) = _
        rw [decide_eq_true ll]
        rfl
      have nz : (ds.zip gs).length = min xs.length (gs.map V.int).length := by
        rw [List.length_zip, List.length_map, hl]
      refine ⟨.ref a, rfl, .ref p, rfl, p, _, 1, .ref g, rfl, rfl, .inl (.inl hp), atI_nat (j := 1) rfl, a, g, _, _, rfl, .inr ⟨.inl (.inl ha), .inl (.inl hg), fun D hD => lc_mp (walk_ziT (xs := xs) (ys := gs.map V.int) nz) (fun i => .bl (isW 1 (gs.getD i 0) (ds.getD i .none))) (by rw [List.length_zip]; omega) hD (fun H2 s2 => ⟨.inl (.inl (s2 _ _ ha)), .inl (.inl (s2 _ _ hg))⟩) (fun i x H2 H' Ky hi s2 hy ky => ?_) gPair_mono fun H3 s3 hL => ?_⟩⟩
      · obtain ⟨T1, x1, x2, rfl, hT, rfl, ea, eb⟩ := hy
        obtain ⟨dx, ed, hx⟩ := rpAll_get hxs (show xs[i]? = some x1 from ea)
        obtain ⟨z2, ez2, rfl⟩ := int_at (show (gs.map V.int)[i]? = some x2 from eb)
        refine ⟨T1, _, rfl, .inl (.inl upd_same), rfl, _, _, rfl, _, _, rfl, rfl, rfl, x1, rfl, .int z2, rfl, x1, dx, 1, z2, rfl, hx.mono ((Ex.same s2).trans (Ex.upd hT)), ?_⟩
        refine ky _ _ ?_ (same_upd hT)
        rw [List.getD_eq_getElem?_getD, List.getD_eq_getElem?_getD, ed, ez2]
        rfl
      · refine ⟨D, (List.range (ds.zip gs).length).map fun i => isW 1 (gs.getD i 0) (ds.getD i .none), rfl, .inl (.inl ?_), ?_⟩
        · rw [hL, List.map_map]
          rfl
        · have e5 : ((List.range (ds.zip gs).length).map fun i => isW 1 (gs.getD i 0) (ds.getD i .none)).all id = isSt gs (.tuple ds) := by
            rw [e1]
            refine all_range_map (ds.zip gs) _ _ fun i x e => ?_
            obtain ⟨d', z'⟩ := x
            obtain ⟨h1, h2⟩ := List.getElem?_zip_eq_some.mp e
            rw [List.getD_eq_getElem?_getD, List.getD_eq_getElem?_getD, h1, h2]
            rfl
          rw [e5]
          exact q H3 s3
end
end OF
end
section
set_option Elab.async false
set_option linter.all false
set_option maxRecDepth 100000
set_option maxHeartbeats 4000000
/-! need_standing, has_due, later_of -/
namespace OF
open PySem PySem.Spec PySem.Calls PyProof.Rows L2 OFx
section
variable {P : Program} {w : World} {K : PySem.W.Frag} {mg : Str → Option Value} {base : Heap}
def sp16 (CP CS : Addr) : Sp := fun vs H Q E => ∃ p v h gs d, vs = [p, v] ∧ Fr H p h gs ∧ GsOk gs ∧ Rp H v d ∧ PlanX CP H h gs E ∧
  (PlanOk h gs → isSt gs d = false → ∀ H', Same H H' → Thrown CS "value" E H' v) ∧ (PlanOk h gs → isSt gs d = true → ∀ H', Same H H' → Q v H')
theorem sc16 : FnScope ["plan", "standing"] ["plan", "standing"] (defScope (top 16)) := ⟨rfl, rfl, rfl, by decide +kernel, rfl, by decide +kernel, by decide +kernel⟩
theorem ok16 (T : TX P K mg) : FnOk P w K mg base (L2.CX P w) 4 T.f16 T.d16 ["plan", "standing"] (sp16 T.CP T.CS) := by
  refine T.F16.okX sc16 (fun vs H Q E h => ?_) (fun cdv A outer s H vs Q E hr h => ?_)
  · obtain ⟨p, v, h, gs, d, rfl, _⟩ := h
    rfl
  · obtain ⟨p, v, h, gs, d, rfl, hf, hok, hv, hx, e1, q⟩ := h
    have G10 : FnOk P w K mg base (L2.CX P w) 3 T.f10 T.d10 ["thing"] (sp10 T.CP) := ok10 T
    have G15 : FnOk P w K mg base C8.CX0 2 T.f15 T.d15 ["plan", "value"] sp15 := ok15 T
    refine ⟨_, pss_cons (ps_expr (pe_callX (takes_of rfl rfl rfl rfl) G10 hr (by rfl) T.g10 T.F10.kp T.b10 (pa_cons (pv 0) pa_nil)))
      (pss_cons (ps_if (pt_not (pt_val (pe_callN G15 (hr.mono (by decide)) (by rfl) T.g15 T.F15.kp T.b15 (by exact (pa_cons (pv 0) (pa_cons (pv 1) pa_nil))))))
        (pss_one (ps_raiseX rfl T.xS fldValue hr (takes_of rfl rfl rfl rfl) (pa_cons (pv 1) pa_nil) (by rfl) (by decide))) pss_nil)
      (pss_one (ps_ret (pv 1)))), ?_⟩
    refine ⟨p, rfl, sp10_of hf hok hx fun ok H1 s1 => ?_⟩
    refine ⟨p, rfl, v, rfl, p, v, h, gs, d, rfl, hf.mono (Ex.same s1), hv.mono (Ex.same s1), by have := ok.2.2; omega, fun H2 s2 => ⟨_, rfl, ite2 (fun c => ?_) (fun c => ?_)⟩⟩
    · exact ⟨v, rfl, v, rfl, e1 ok (not_yes c) H2 (s1.trans s2)⟩
    · exact ⟨v, rfl, q ok (not_no c) H2 (s1.trans s2)⟩
def sp17 : Sp := fun vs H Q _ => ∃ s y ls ns, vs = [s, y] ∧ IT H s ls ∧ IT H y ns ∧ ls.length ≤ 1000 ∧ ∀ H', Same H H' → Q (.bl (hasDue ls ns)) H'
theorem sc17 : FnScope ["standing", "day", "number", "left"] ["standing", "day"] (defScope (top 17)) := ⟨rfl, rfl, rfl, by decide +kernel, rfl, by decide +kernel, by decide +kernel⟩
theorem ok17 (T : TX P K mg) : FnOk P w K mg base C8.CX0 1 T.f17 T.d17 ["standing", "day"] sp17 := by
  refine T.F17.ok sc17 (fun vs H Q E h => ?_) (fun cdv A outer s H vs Q E hr h => ?_)
  · obtain ⟨s, y, ls, ns, rfl, _⟩ := h
    rfl
  · obtain ⟨s0, y0, ls, ns, rfl, ⟨a, rfl, ha⟩, ⟨b, rfl, hb⟩, few, q⟩ := h
    refine ⟨_, pss_one (ps_ret (pe_callB (cr_all rfl) (by rfl) T.z_all boot_all (pa_cons (pe_lc (own := [("number", 2), ("left", 3)]) (g := gTup K 2 (gCons (gName 2) (gCons (gName 3) gNil))) (tt := tYes) rfl sc17.nd
            (pi_enT (by rfl) T.z_enumerate (pa_cons (pv 0) pa_nil)) (blkOk_by (N := ["standing", "day", "number", "left"]) (sc := defScope (top 17)) (by decide +kernel))
            (fun _ _ _ _ _ => by exact (pg_tup rfl (pgs_cons (pg_name (i := 2) sc17.nd rfl (.inl rfl)) (pgs_cons (pg_name (i := 3) sc17.nd rfl (.inl rfl)) pgs_nil)))) (fun _ _ _ _ _ => pts_nil)
            (fun _ _ _ _ _ => by exact (pe_or (pe_cmpR op_gt (pv 3) pe_int (nomark _)) (pe_one (pe_cmpR (r := rIn K false) op_in_seq (pv 2) (pv 1) (by with_unfolding_all rfl)))))) pa_nil))), ?_⟩
    refine ⟨.ref a, rfl, a, _, rfl, .inl (.inl ha), fun D hD => lc_mp (walk_enT (xs := ls.map V.int)) (fun i => .bl (decide (1 < ls.getD i 0) || decide (((i : Nat) : Int) ∈ ns))) (by rw [List.length_map]; exact few) hD (fun H2 s2 => .inl (.inl (s2 _ _ ha))) (fun i x H2 H' Ky hi s2 hy ky => ?_) gPair_mono fun H3 s3 hL => ?_⟩
    · obtain ⟨T1, x1, x2, rfl, hT, rfl, ea, eb⟩ := hy
      obtain rfl : x1 = .int (i : Nat) := (Option.some.inj ea).symm
      obtain ⟨z, ez, rfl⟩ := int_at (show (ls.map V.int)[i]? = some x2 from eb)
      have eg : ls.getD i 0 = z := by rw [List.getD_eq_getElem?_getD, ez]; rfl
      refine ⟨T1, _, rfl, .inl (.inl upd_same), rfl, _, _, rfl, _, _, rfl, rfl, rfl, .int z, rfl, z, 1, rfl, rfl, _, rfl, ite2 (fun c => ?_) (fun c => ?_)⟩
      · refine ky _ _ ?_ (same_upd hT)
        rw [eg, c]
        rfl
      · refine ⟨.int (i : Nat), rfl, .ref b, rfl, b, _, rfl, .inr (.inl (.inl (same_upd hT _ _ (s2 _ _ hb)))), rfl, flat_ints ns, ?_⟩
        refine ky _ _ ?_ (same_upd hT)
        rw [eg, Bool.eq_false_iff.mpr c, Bool.false_or]
        show V.bl (inV (.int ((i : Nat) : Int)) (ns.map V.int)) = _
        rw [inV_ints]
    · refine ⟨D, (List.range (ls.map V.int).length).map fun i => (decide (1 < ls.getD i 0) || decide (((i : Nat) : Int) ∈ ns)), rfl, .inl (.inl ?_), ?_⟩
      · rw [hL, List.map_map]
        rfl
      · have e5 : ((List.range (ls.map V.int).length).map fun i => (decide (1 < ls.getD i 0) || decide (((i : Nat) : Int) ∈ ns))).all id = hasDue ls ns := by
          rw [List.all_map, List.length_map]
          rfl
        rw [e5]
        exact q H3 s3
def sp18 : Sp := fun vs H Q _ => ∃ p s y h gs ls ns, vs = [p, s, y] ∧ Fr H p h gs ∧ IT H s ls ∧ IT H y ns ∧ ls.length = gs.length ∧ ls.length ≤ 1000 ∧ ∀ H' t, Same H H' → H' t = some (.tup ((nextOf gs ls ns).map V.int)) → Q (.ref t) H'
theorem sc18 : FnScope ["plan", "standing", "day", "number", "left"] ["plan", "standing", "day"] (defScope (top 18)) := ⟨rfl, rfl, rfl, by decide +kernel, rfl, by decide +kernel, by decide +kernel⟩
theorem ok18 (T : TX P K mg) : FnOk P w K mg base C8.CX0 1 T.f18 T.d18 ["plan", "standing", "day"] sp18 := by
  refine T.F18.ok sc18 (fun vs H Q E h => ?_) (fun cdv A outer s H vs Q E hr h => ?_)
  · obtain ⟨p, s, y, h, gs, ls, ns, rfl, _⟩ := h
    rfl
  · obtain ⟨p0, s0, y0, h, gs, ls, ns, rfl, ⟨p, g, rfl, hp, hg⟩, ⟨a, rfl, ha⟩, ⟨b, rfl, hb⟩, ll, few, q⟩ := h
    refine ⟨_, pss_one (ps_ret (pe_callTy call_tuple_of (by rfl) T.z_tuple boot_tuple (pa_cons (pe_lc (own := [("number", 3), ("left", 4)]) (g := gTup K 2 (gCons (gName 3) (gCons (gName 4) gNil))) (tt := tYes) rfl sc18.nd
            (pi_enT (by rfl) T.z_enumerate (pa_cons (pv 1) pa_nil)) (blkOk_by (N := ["plan", "standing", "day", "number", "left"]) (sc := defScope (top 18)) (by decide +kernel))
            (fun _ _ _ _ _ => by exact (pg_tup rfl (pgs_cons (pg_name (i := 3) sc18.nd rfl (.inl rfl)) (pgs_cons (pg_name (i := 4) sc18.nd rfl (.inl rfl)) pgs_nil)))) (fun _ _ _ _ _ => pts_nil)
            (fun _ _ _ _ _ => by exact (pe_ifExp (pt_cmpR (r := rIn K false) op_in_seq (pv 3) (pv 2) (by with_unfolding_all rfl)) (pe_ix (r := rIxT K) ix_tup (pe_ix (r := rIxT K) ix_tup (pv 0) pe_int (fun _ _ => rfl)) (pv 3) (fun _ _ => rfl)) (pe_op op_sub (pv 4) pe_int)))) pa_nil))), ?_⟩
    refine ⟨.ref a, rfl, a, _, rfl, .inl (.inl ha), fun D hD => lc_mp (walk_enT (xs := ls.map V.int)) (fun i => .int (if ((i : Nat) : Int) ∈ ns then gs.getD i 0 else ls.getD i 0 - 1)) (by rw [List.length_map]; exact few) hD (fun H2 s2 => .inl (.inl (s2 _ _ ha))) (fun i x H2 H' Ky hi s2 hy ky => ?_) gPair_mono fun H3 s3 hL => ?_⟩
    · obtain ⟨T1, x1, x2, rfl, hT, rfl, ea, eb⟩ := hy
      obtain rfl : x1 = .int (i : Nat) := (Option.some.inj ea).symm
      obtain ⟨z, ez, rfl⟩ := int_at (show (ls.map V.int)[i]? = some x2 from eb)
      have eg : ls.getD i 0 = z := by rw [List.getD_eq_getElem?_getD, ez]; rfl
      have s5 := s2.trans (same_upd (o := .tup [V.int (i : Nat), V.int z]) hT)
      have hi' : i < gs.length := by
        rw [List.length_map] at hi
        omega
      refine ⟨T1, _, rfl, .inl (.inl upd_same), rfl, _, _, rfl, _, _, rfl, rfl, rfl, .int (i : Nat), rfl, .ref b, rfl, b, _, rfl, .inr (.inl (.inl (s5 _ _ hb))), rfl, flat_ints ns, _, rfl, ?_⟩
      show if inV (.int ((i : Nat) : Int)) (ns.map V.int) = true then _ else _
      rw [inV_ints]
      refine ite2 (fun c => ?_) (fun c => ?_)
      · have c' := of_decide_eq_true c
        refine ⟨.ref p, rfl, p, _, 1, .ref g, rfl, rfl, .inl (.inl (s5 _ _ hp)), atI_nat (j := 1) rfl, .int (i : Nat), rfl, g, _, (i : Nat), .int gs[i], rfl, rfl, .inl (.inl (s5 _ _ hg)), atI_nat (j := i) (by rw [List.getElem?_map, List.getElem?_eq_getElem hi']; rfl), ?_⟩
        refine ky _ _ ?_ (same_upd hT)
        rw [if_pos c', List.getD_eq_getElem?_getD, List.getElem?_eq_getElem hi']
        rfl
      · have c' : ¬ ((i : Nat) : Int) ∈ ns := fun z => c (decide_eq_true z)
        refine ⟨.int z, rfl, z, 1, rfl, rfl, ?_⟩
        refine ky _ _ ?_ (same_upd hT)
        rw [if_neg c', eg]
    · refine ⟨D, _, rfl, .inl ⟨.inl (.inl hL), fun t ht => q _ t (s3.trans (same_upd ht)) ?_⟩⟩
      rw [upd_same, nextOf, List.length_map, List.map_map]
      rfl
end
end OF
end
section
set_option Elab.async false
set_option linter.all false
set_option maxRecDepth 100000
set_option maxHeartbeats 4000000
/-! due_days, right_days, behind -/
namespace OF
open PySem PySem.Spec PySem.Calls PyProof.Rows L2 OFx
theorem lots_few : ∀ h : Fin 4, ∀ n : Fin 9, (lots h.val n.val).length ≤ 100 := by decide +kernel
theorem lots_le {h n : Nat} (hn : HN h n) : (lots h n).length ≤ 100 := lots_few ⟨h, by have := hn.2.1; omega⟩ ⟨n, by have := hn.2.2.2; omega⟩
theorem PlanOk.hn {h : Int} {gs : List Int} (ok : PlanOk h gs) : HN h.toNat gs.length := by
  obtain ⟨⟨a1, a2⟩, a3, a4⟩ := ok
  exact ⟨by omega, by omega, a3, a4⟩
theorem PlanOk.nat {h : Int} {gs : List Int} (ok : PlanOk h gs) : ((h.toNat : Nat) : Int) = h := Int.toNat_of_nonneg (by have := ok.1.1; omega)
section
variable {P : Program} {w : World} {K : PySem.W.Frag} {mg : Str → Option Value} {base : Heap}
def sp19 : Sp := fun vs H Q _ => ∃ p s h gs ls, vs = [p, s] ∧ Fr H p h gs ∧ PlanOk h gs ∧ IT H s ls ∧ ls.length ≤ 1000 ∧ ∀ H' D ys, Same H H' → H D = none → H' D = some (.lst ys) → ITs H' ys (dues h gs ls) → Q (.ref D) H'
theorem sc19 : FnScope ["plan", "standing", "day"] ["plan", "standing"] (defScope (top 19)) := ⟨rfl, rfl, rfl, by decide +kernel, rfl, by decide +kernel, by decide +kernel⟩
theorem ok19 (T : TX P K mg) : FnOk P w K mg base C8.CX0 2 T.f19 T.d19 ["plan", "standing"] sp19 := by
  refine T.F19.ok sc19 (fun vs H Q E h => ?_) (fun cdv A outer s H vs Q E hr h => ?_)
  · obtain ⟨p, s, h, gs, ls, rfl, _⟩ := h
    rfl
  · obtain ⟨p0, s0, h, gs, ls, rfl, ⟨p, g, rfl, hp, hg⟩, ok, ⟨a, rfl, ha⟩, few, q⟩ := h
    have G12 : FnOk P w K mg base C8.CX0 1 T.f12 T.d12 ["hands", "many"] sp12 := ok12 T
    have G17 : FnOk P w K mg base C8.CX0 1 T.f17 T.d17 ["standing", "day"] sp17 := ok17 T
    refine ⟨_, pss_one (ps_ret (pe_lc (own := [("day", 2)]) (g := gName 2) rfl sc19.nd
            (pi_list (pe_callN G12 hr (by rfl) T.g12 T.F12.kp T.b12 (by exact (pa_cons (pe_ix ix_tup (pv 0) pe_int (fun _ _ => rfl)) (pa_cons (pe_callB cr_len (by rfl) T.z_len boot_len (pa_cons (pe_ix ix_tup (pv 0) pe_int (fun _ _ => rfl)) pa_nil)) pa_nil))))) (blkOk_by (N := ["plan", "standing", "day"]) (sc := defScope (top 19)) (by decide +kernel))
            (fun _ _ _ _ _ => pg_name (i := 2) sc19.nd rfl (.inl rfl)) (fun _ _ _ _ _ => by exact (pts_one (pt_val (pe_callN G17 hr (by rfl) T.g17 T.F17.kp T.b17 (pa_cons (pv 1) (pa_cons (pv 2) pa_nil))))))
            (fun _ _ _ _ _ => by exact (pv 2)))), ?_⟩
    refine ⟨.ref p, rfl, p, _, 0, .int h, rfl, rfl, .inl (.inl hp), atI_nat (j := 0) rfl, .ref p, rfl, p, _, 1, .ref g, rfl, rfl, .inl (.inl hp), atI_nat (j := 1) rfl, g, _, rfl, .inr (.inl (.inl hg)), h.toNat, gs.length, ?_, ok.hn, fun H1 l xs s1 hl hL iL => ?_⟩
    · rw [List.length_map, ok.nat]
    · have ll : xs.length ≤ 100 := by
        rw [paired_len iL]
        exact lots_le ok.hn
      refine ⟨l, rfl, ⟨xs, .inl (.inl hL)⟩, fun D hD => lc_fm (walk_list (xs := xs)) (fun i => if hasDue ls ((lots h.toNat gs.length).getD i []) = true then xs[i]? else none) (by omega) hD (fun H2 s2 => .inl (.inl (s2 _ _ hL))) (fun i x H2 H' Ky Kn hi s2 hy ky kn => ?_) fun H3 s3 hL3 => ?_⟩
      · obtain ⟨rfl, ex⟩ := hy
        obtain ⟨d, ed, id⟩ := L2.paired_get iL ex
        have eg : (lots h.toNat gs.length).getD i [] = d := by rw [List.getD_eq_getElem?_getD, ed]; rfl
        refine ⟨rfl, .ref a, rfl, x, rfl, .ref a, x, ls, d, rfl, ⟨a, rfl, s2 _ _ (s1 _ _ ha)⟩, id.mono (Ex.same s2), few, fun H5 s5 => ⟨_, rfl, ite2 (fun c => ?_) (fun c => ?_)⟩⟩
        · refine ⟨x, rfl, ky x H5 ?_ s5⟩
          rw [eg, if_pos c, ex]
        · refine kn H5 ?_ s5
          rw [eg, if_neg c]
      · exact q H3 D _ (s1.trans s3) (s1.free hD) hL3 (its_filter (hasDue ls) (ITs.mono (Ex.same s3) iL))
def sp20 (CP CS : Addr) : Sp := fun vs H Q E => ∃ p v h gs d, vs = [p, v] ∧ Fr H p h gs ∧ GsOk gs ∧ Rp H v d ∧ PlanX CP H h gs E ∧
  (PlanOk h gs → isSt gs d = false → ∀ H', Same H H' → Thrown CS "value" E H' v) ∧ (PlanOk h gs → isSt gs d = true → ∀ H' t ys, Same H H' → H' t = some (.tup ys) → ITs H' ys (dues h gs (nums d)) → Q (.ref t) H')
theorem sc20 : FnScope ["plan", "standing"] ["plan", "standing"] (defScope (top 20)) := ⟨rfl, rfl, rfl, by decide +kernel, rfl, by decide +kernel, by decide +kernel⟩
theorem ok20 (T : TX P K mg) : FnOk P w K mg base (L2.CX P w) 5 T.f20 T.d20 ["plan", "standing"] (sp20 T.CP T.CS) := by
  refine T.F20.okX sc20 (fun vs H Q E h => ?_) (fun cdv A outer s H vs Q E hr h => ?_)
  · obtain ⟨p, v, h, gs, d, rfl, _⟩ := h
    rfl
  · obtain ⟨p, v, h, gs, d, rfl, hf, hok, hv, hx, e1, q⟩ := h
    have G16 : FnOk P w K mg base (L2.CX P w) 4 T.f16 T.d16 ["plan", "standing"] (sp16 T.CP T.CS) := ok16 T
    have G19 : FnOk P w K mg base C8.CX0 2 T.f19 T.d19 ["plan", "standing"] sp19 := ok19 T
    refine ⟨_, pss_cons (ps_expr (pe_callX (takes_of rfl rfl rfl rfl) G16 hr (by rfl) T.g16 T.F16.kp T.b16 (pa_cons (pv 0) (pa_cons (pv 1) pa_nil))))
      (pss_one (ps_ret (pe_callTy call_tuple_of (by rfl) T.z_tuple boot_tuple (pa_cons (pe_callN G19 (hr.mono (by decide)) (by rfl) T.g19 T.F19.kp T.b19 (by exact (pa_cons (pv 0) (pa_cons (pv 1) pa_nil)))) pa_nil)))), ?_⟩
    refine ⟨p, rfl, v, rfl, p, v, h, gs, d, rfl, hf, hok, hv, hx, e1, fun ok st H1 s1 => ?_⟩
    obtain ⟨ed, el⟩ := isSt_tD st
    have iv := hv.mono (Ex.same s1)
    rw [ed] at iv
    refine ⟨p, rfl, v, rfl, p, v, h, gs, nums d, rfl, hf.mono (Ex.same s1), ok, rp_tD iv, by have := ok.2.2; omega, fun H2 l ys s2 hl hL iL => ?_⟩
    exact ⟨l, ys, rfl, .inl ⟨.inl (.inl hL), fun t ht => q ok st _ t ys ((s1.trans s2).trans (same_upd ht)) upd_same (ITs.mono (Ex.upd ht) iL)⟩⟩
def okB (h : Int) (gs ls : List Int) (dy : PyData) : Bool := isDay h gs.length dy && hasDue ls (nums dy)
def sp21 (CP CD CS : Addr) : Sp := fun vs H Q E => ∃ p v y h gs d dy, vs = [p, v, y] ∧ Fr H p h gs ∧ GsOk gs ∧ Rp H v d ∧ Rp H y dy ∧ PlanX CP H h gs E ∧
  (PlanOk h gs → isSt gs d = false → ∀ H', Same H H' → Thrown CS "value" E H' v) ∧
  (PlanOk h gs → isSt gs d = true → okB h gs (nums d) dy = false → ∀ H', Same H H' → Thrown CD "value" E H' y) ∧
  (PlanOk h gs → isSt gs d = true → okB h gs (nums d) dy = true → ∀ H' t, Same H H' → H' t = some (.tup ((nextOf gs (nums d) (nums dy)).map V.int)) → Q (.ref t) H')
theorem sc21 : FnScope ["plan", "standing", "day"] ["plan", "standing", "day"] (defScope (top 21)) := ⟨rfl, rfl, rfl, by decide +kernel, rfl, by decide +kernel, by decide +kernel⟩
theorem ok21 (T : TX P K mg) : FnOk P w K mg base (L2.CX P w) 5 T.f21 T.d21 ["plan", "standing", "day"] (sp21 T.CP T.CD T.CS) := by
  refine T.F21.okX sc21 (fun vs H Q E h => ?_) (fun cdv A outer s H vs Q E hr h => ?_)
  · obtain ⟨p, v, y, h, gs, d, dy, rfl, _⟩ := h
    rfl
  · obtain ⟨p, v, y, h, gs, d, dy, rfl, hf, hok, hv, hy, hx, e1, e2, q⟩ := h
    have G16 : FnOk P w K mg base (L2.CX P w) 4 T.f16 T.d16 ["plan", "standing"] (sp16 T.CP T.CS) := ok16 T
    have G14 : FnOk P w K mg base C8.CX0 2 T.f14 T.d14 ["plan", "value"] sp14 := ok14 T
    have G17 : FnOk P w K mg base C8.CX0 1 T.f17 T.d17 ["standing", "day"] sp17 := ok17 T
    have G18 : FnOk P w K mg base C8.CX0 1 T.f18 T.d18 ["plan", "standing", "day"] sp18 := ok18 T
    refine ⟨_, pss_cons (ps_expr (pe_callX (takes_of rfl rfl rfl rfl) G16 hr (by rfl) T.g16 T.F16.kp T.b16 (pa_cons (pv 0) (pa_cons (pv 1) pa_nil))))
      (pss_cons (ps_if (PW.pt (pw_or (pt_not (pt_val (pe_callN G14 (hr.mono (by decide)) (by rfl) T.g14 T.F14.kp T.b14 (by exact (pa_cons (pv 0) (pa_cons (pv 2) pa_nil))))))
          (pw_or1 (pt_not (pt_val (pe_callN G17 (hr.mono (by decide)) (by rfl) T.g17 T.F17.kp T.b17 (by exact (pa_cons (pv 1) (pa_cons (pv 2) pa_nil)))))))))
        (pss_one (ps_raiseX rfl T.xD fldValue hr (takes_of rfl rfl rfl rfl) (pa_cons (pv 2) pa_nil) (by rfl) (by decide))) pss_nil)
      (pss_one (ps_ret (pe_callN G18 (hr.mono (by decide)) (by rfl) T.g18 T.F18.kp T.b18 (by exact (pa_cons (pv 0) (pa_cons (pv 1) (pa_cons (pv 2) pa_nil)))))))), ?_⟩
    refine ⟨p, rfl, v, rfl, p, v, h, gs, d, rfl, hf, hok, hv, hx, e1, fun ok st H1 s1 => ?_⟩
    obtain ⟨ed, el⟩ := isSt_tD st
    have few : (nums d).length ≤ 1000 := by
      have := ok.2.2
      omega
    refine ⟨p, rfl, y, rfl, p, y, h, gs, dy, rfl, hf.mono (Ex.same s1), hy.mono (Ex.same s1), by have := ok.1.2; omega, fun H2 s2 => ⟨_, rfl, ite2 (fun c => ?_) (fun c => ?_)⟩⟩
    · have z : okB h gs (nums d) dy = false := by
        unfold okB
        rw [not_yes c]
        rfl
      exact ⟨y, rfl, y, rfl, e2 ok st z H2 (s1.trans s2)⟩
    · have dd := not_no c
      have s3 := s1.trans s2
      have iv := hv.mono (Ex.same s3)
      rw [ed] at iv
      have iy := hy.mono (Ex.same s3)
      rw [isDay_tD dd] at iy
      refine ⟨v, rfl, y, rfl, v, y, nums d, nums dy, rfl, rp_tD iv, rp_tD iy, few, fun H3 s4 => ⟨_, rfl, ite2 (fun c1 => ?_) (fun c1 => ?_)⟩⟩
      · have z : okB h gs (nums d) dy = false := by
          unfold okB
          rw [dd, not_yes c1]
          rfl
        exact ⟨y, rfl, y, rfl, e2 ok st z H3 (s3.trans s4)⟩
      · have z : okB h gs (nums d) dy = true := by
          unfold okB
          rw [dd, not_no c1]
          rfl
        exact ⟨p, rfl, v, rfl, y, rfl, p, v, y, h, gs, nums d, nums dy, rfl, hf.mono (Ex.same (s3.trans s4)), (rp_tD iv).mono (Ex.same s4), (rp_tD iy).mono (Ex.same s4), el, few, fun H4 t s5 ht => q ok st z H4 t ((s3.trans s4).trans s5) ht⟩
end
end OF
end
section
set_option Elab.async false
set_option linter.all false
set_option maxRecDepth 100000
set_option maxHeartbeats 4000000
/-! _law_begun, _law_draw, _law_of -/
namespace OF
open PySem PySem.Spec PySem.Calls PyProof.Rows L2 OFx
/-- the drawer at m, at most B draws from its cells -/
def MI (m : Addr) (B : Nat) (H : Hp) : Prop := ∃ (l s : Int) (c : Addr) (sp : Nat) (cs : List Int), H m = some (.dK [(.inr "left", .int l), (.inr "seed", .int s), (.inr "cells", .ref c), (.inr "spot", .int (sp : Int))]) ∧ 0 ≤ l ∧ 0 ≤ s ∧ s < 2147483647 ∧ sp ≤ B ∧
  H c = some (.lst (cs.map V.int)) ∧ cs ≠ [] ∧ cs.length ≤ 1000
theorem MI.ext {m : Addr} {B : Nat} {H H' : Hp} (x : MI m B H) (e : LamX.ExtN H H') : MI m B H' := by
  obtain ⟨l, s, c, sp, cs, h1, h2, h3, h4, h5, h6, h7, h8⟩ := x
  exact ⟨l, s, c, sp, cs, e _ _ h1 (fun ps z => by cases z), h2, h3, h4, h5, e _ _ h6 (fun ps z => by cases z), h7, h8⟩
theorem MI.same {m : Addr} {B : Nat} {H H' : Hp} (x : MI m B H) (e : Same H H') : MI m B H' := x.ext (LamX.ExtN.of e)
theorem MI.up {m : Addr} {B C : Nat} {H : Hp} (x : MI m B H) (h : B ≤ C) : MI m C H := by
  obtain ⟨l, s, c, sp, cs, h1, h2, h3, h4, h5, h6⟩ := x
  exact ⟨l, s, c, sp, cs, h1, h2, h3, h4, Nat.le_trans h5 h, h6⟩
theorem MI.ex {m : Addr} {B : Nat} {H H' : Hp} (x : MI m B H) (s : Sd m H H') : Ex H H' := by
  obtain ⟨l, s', c, sp, cs, h1, _⟩ := x
  exact Ex.sd s h1
theorem MI.ne {m a : Addr} {B : Nat} {H : Hp} {xs : List V} (x : MI m B H) (h : H a = some (.lst xs)) : a ≠ m := by
  obtain ⟨l, s', c, sp, cs, h1, _⟩ := x
  exact ne_of h h1 (by intro z; cases z)
theorem MI.neT {m a : Addr} {B : Nat} {H : Hp} {xs : List V} (x : MI m B H) (h : H a = some (.tup xs)) : a ≠ m := by
  obtain ⟨l, s', c, sp, cs, h1, _⟩ := x
  exact ne_of h h1 (by intro z; cases z)
theorem ints_filter (p : Int → Bool) : ∀ ns : List Int, ((List.range ns.length).filterMap fun i => if p (ns.getD i 0) = true then some (V.int (ns.getD i 0)) else none) = (ns.filter p).map V.int
  | [] => rfl
  | n :: ns => by
    have ih := ints_filter p ns
    rw [List.length_cons, List.range_succ_eq_map]
    generalize hf : (fun i => if p ((n :: ns).getD i 0) = true then some (V.int ((n :: ns).getD i 0)) else none) = f
    have f0 : f 0 = if p n = true then some (.int n) else none := by rw [← hf]; rfl
    have fs : f ∘ Nat.succ = fun i => if p (ns.getD i 0) = true then some (V.int (ns.getD i 0)) else none := by rw [← hf]; rfl
    by_cases h : p n = true
    · rw [if_pos h] at f0
      rw [List.filterMap_cons_some f0, List.filter_cons_of_pos h, List.filterMap_map, fs, ih]
      rfl
    · rw [if_neg h] at f0
      rw [List.filterMap_cons_none f0, List.filter_cons_of_neg h, List.filterMap_map, fs, ih]
theorem cut_from (ns : List Int) (k : Nat) : cutV (ns.map V.int) (some (k : Int)) none = (ns.drop k).map V.int := by
  unfold cutV
  rw [HT.sIx_nat, HT.sIx_none, List.map_drop]
  by_cases h : k ≤ (ns.map V.int).length
  · rw [Nat.min_eq_left h, List.take_of_length_le (by rw [List.length_drop]; omega)]
  · rw [Nat.min_eq_right (by omega), List.drop_length, List.take_nil, List.drop_eq_nil_of_le (by omega)]
theorem cut_to (ns : List Int) (k : Nat) : cutV (ns.map V.int) none (some (k : Int)) = (ns.take k).map V.int := by
  unfold cutV
  rw [HT.sIx_nat, HT.sIx_none, List.drop_zero, Nat.sub_zero, List.map_take, List.take_eq_take_iff]
  omega
theorem dp_ints {K : PySem.W.Frag} {H : Hp} : ∀ ns : List Int, DpAll K H (ns.map V.int) (ns.map PyData.int)
  | [] => .nil
  | n :: ns => .cons (.int n) (dp_ints ns)
theorem shaped_lD (ns : List Int) : SeqAt.shaped (.list (ns.map PyData.int)) = true := by
  show (PyData.canLayAll0 (ns.map PyData.int) && decide (PyData.depthAll (ns.map PyData.int) + 1 ≤ 64)) = true
  rw [canLay_ints, depth_ints]
  rfl
section
variable {P : Program} {w : World} {K : PySem.W.Frag} {mg : Str → Option Value} {base : Heap}
def sp23 (K : PySem.W.Frag) : Sp := fun vs H Q _ => ∃ (a : Addr) (k : Nat) (ns : List Int), vs = [.ref a, .int (k : Int)] ∧ SqL K H a (ns.map V.int) ∧ ns.length ≤ 63 ∧ k ≤ 100 ∧ ∀ H' m, Same H H' → MI m 0 H' → Q (.ref m) H'
theorem sc23 : FnScope ["script", "k", "cells", "great", "seed", "cell"] ["script", "k"] (defScope (top 23)) := ⟨rfl, rfl, rfl, by decide +kernel, rfl, by decide +kernel, by decide +kernel⟩
theorem ok23 (T : TX P K mg) : FnOk P w K mg base C8.CX0 1 T.f23 T.d23 ["script", "k"] (sp23 K) := by
  refine T.F23.ok sc23 (fun vs H Q E h => ?_) (fun cdv A outer s H vs Q E hr h => ?_)
  · obtain ⟨a, k, ns, rfl, _⟩ := h
    rfl
  · obtain ⟨a, k, ns, rfl, hS, hl, hk, q⟩ := h
    have hu : (A.deeper (envOfC "_law_begun" (defScope (top 23)) s.heap.objs.size T.f23 cdv)).units + 64 < cLine := by
      have := hr.un
      omega
    refine ⟨_, pss_cons (ps_set (i := 2) sc23.nd rfl (.inl rfl) (pe_op op_cat (pe_slice sl_list (pv 0) (po_some (pv 1)) po_none) (pe_slice sl_list (pv 0) po_none (po_some (pv 1)))))
      (pss_cons (ps_setLc (i := 3) (own := [("cell", 5)]) (g := gName 5) rfl sc23.nd rfl rfl (by with_unfolding_all rfl) (pi_list (pv 2)) (blkOk_by (N := ["script", "k", "cells", "great", "seed", "cell"]) (sc := defScope (top 23)) (by decide +kernel))
          (fun _ _ _ _ _ => pg_name (i := 5) sc23.nd rfl (.inl rfl)) (fun _ _ _ _ _ => by exact (pts_one (pt_cmpR op_ge (pv 5) (pe_op op_pow pe_int pe_int) (nomark _)))) (fun _ _ _ _ _ => by exact (pv 5)))
      (pss_cons (ps_set (i := 4) sc23.nd rfl (.inl rfl) (pe_op op_add pe_int (pv 1)))
      (pss_cons (ps_for PassesOwn.never rfl (pi_list (pv 2)) (pg_name (i := 5) sc23.nd rfl (.inl rfl))
        (pss_one (ps_set (i := 4) sc23.nd rfl (.inl rfl) (pe_op op_mod (pe_callTy call_int1 (by rfl) T.z_int boot_int (pa_cons (pe_op op_add (pe_op op_mul (pv 4) pe_int) (pv 5)) pa_nil)) pe_int))))
      (pss_one (ps_ret (pe_disp (pps_cons pe_str (pe_ifExp (pt_cmpR (op_neD hu) (pv 3) (pe_lst pa_nil) (nomark _)) (pe_ix ix_list (pv 3) pe_int (fun _ _ => rfl)) pe_int)
        (pps_cons pe_str (pv 4) (pps_cons pe_str (pe_op op_cat (pv 2) (pe_lst (pa_cons (pe_op op_add (pe_op op_mul pe_int (pv 1)) pe_int) pa_nil))) (pps_cons pe_str pe_int pps_nil)))) rfl rfl (by decide) (by decide))))))), ?_⟩
    generalize ecs : ns.drop k ++ ns.take k = cs
    have lcs : cs.length ≤ 63 := by
      rw [← ecs, List.length_append, List.length_drop, List.length_take]
      omega
    -- cells = script[k:] + script[:k]
    refine ⟨.ref a, rfl, .int k, rfl, k, rfl, a, _, rfl, hS, fun p1 h1 => ?_⟩
    have s1 : Same H (upd H p1 (.lst (cutV (ns.map V.int) (some (k : Int)) none))) := same_upd h1
    refine ⟨.ref a, rfl, .int k, rfl, k, rfl, a, _, rfl, s1.seq hS, fun p2 h2 => ?_⟩
    have s2 := same_upd (o := .lst (cutV (ns.map V.int) none (some (k : Int)))) h2
    refine ⟨p1, p2, _, _, rfl, rfl, s2 _ _ upd_same, upd_same, ?_, fun C hC => ?_⟩
    · rw [cut_from, cut_to, List.length_map, List.length_map, List.length_drop, List.length_take]
      exact fits (by omega)
    rw [cut_from, cut_to] at *
    have s3 := same_upd (o := .lst ((ns.drop k).map V.int ++ (ns.take k).map V.int)) hC
    have sH := (s1.trans s2).trans s3
    have eC := upd_same (H := upd (upd H p1 (.lst ((ns.drop k).map V.int))) p2 (.lst ((ns.take k).map V.int))) (a := C) (o := .lst ((ns.drop k).map V.int ++ (ns.take k).map V.int))
    rw [← List.map_append, ecs] at eC sH ⊢
    generalize upd (upd (upd H p1 (.lst ((ns.drop k).map V.int))) p2 (.lst ((ns.take k).map V.int))) C (.lst (cs.map V.int)) = H1 at *
    clear s1 s2 s3 hC h1 h2
    -- great = [..]
    refine ⟨.ref C, rfl, C, rfl, ⟨_, .inl (.inl eC)⟩, fun D hD => lc_fm (walk_list (xs := cs.map V.int)) (fun i => if decide ((10 : Int) ^ (18 : Int).toNat ≤ cs.getD i 0) = true then some (.int (cs.getD i 0)) else none) (by rw [List.length_map]; omega) hD (fun H2 s5 => .inl (.inl (s5 _ _ eC))) (fun i x H2 H' Ky Kn hi s5 hy ky kn => ?_) fun H3 s3 hL => ?_⟩
    · obtain ⟨rfl, ex⟩ := hy
      obtain ⟨z, ez, rfl⟩ := int_at ex
      have eg : cs.getD i 0 = z := by rw [List.getD_eq_getElem?_getD, ez]; rfl
      refine ⟨rfl, .int z, rfl, 10, 18, rfl, rfl, ⟨by decide, by decide, by decide⟩, z, _, rfl, rfl, _, rfl, ite2 (fun c => ?_) (fun c => ?_)⟩
      · refine ⟨.int z, rfl, ky _ _ ?_ (Same.refl _)⟩
        rw [eg, if_pos c]
      · refine kn _ ?_ (Same.refl _)
        rw [eg, if_neg c]
    rw [List.length_map] at hL
    replace hL := hL.trans (congrArg (fun l => some (HO.lst l)) (ints_filter (fun z => decide ((10 : Int) ^ (18 : Int).toNat ≤ z)) cs))
    have gre : ∀ z ∈ cs.filter (fun z => decide ((10 : Int) ^ (18 : Int).toNat ≤ z)), 0 ≤ z := fun z hz => by
      have q1 := of_decide_eq_true (List.mem_filter.mp hz).2
      have q2 : (0 : Int) ≤ (10 : Int) ^ (18 : Int).toNat := by decide
      omega
    generalize cs.filter (fun z => decide ((10 : Int) ^ (18 : Int).toNat ≤ z)) = gr at *
    have eC3 := s3 _ _ eC
    -- the seed
    refine ⟨.int k, rfl, 83, (k : Int), rfl, rfl, .ref C, rfl, C, rfl, ⟨_, .inl (.inl eC3)⟩, for_it (walk_list (xs := cs.map V.int)) (fun i σ H' => H' = H3 ∧ ∃ sd y5, σ = [some (.ref a), some (.int k), some (.ref C), some (.ref D), some (.int sd), y5] ∧ 0 ≤ sd ∧ sd < 2147483647) ⟨rfl, 83 + (k : Int), none, rfl, by omega, by omega⟩ ?_ ?_ ?_⟩
    · rintro i σ H' _ ⟨rfl, _⟩
      exact .inl (.inl eC3)
    · rintro i x σ H' _ hi ⟨rfl, sd, y5, rfl, b1, b2⟩ ⟨rfl, ex⟩
      obtain ⟨z, ez, rfl⟩ := int_at ex
      refine ⟨.int sd, rfl, sd, 48271, rfl, rfl, .inl ⟨by omega, by omega⟩, .int z, rfl, _, z, rfl, rfl, .inl ⟨_, rfl, _, 2147483647, rfl, rfl, (by show (0 : Int) < 2147483647; decide), rfl, _, _, rfl, Int.emod_nonneg _ (by decide), Int.emod_lt_of_pos _ (by decide)⟩⟩
    · rintro σ H' ⟨rfl, sd, y5, rfl, b1, b2⟩
      intro m hm
      have sm := same_upd (o := .dK []) hm
      have go : ∀ (H5 : Hp) (l : Int), Same (upd H' m (.dK [])) H5 → 0 ≤ l → tPairs [(tC (.str "seed"), tVar 4), (tC (.str "cells"), tOp rCat (tVar 2) (tLst (tCons (tOp (rI0 fun i j => .int (i + j)) (tOp (rI CMul fun i j => .int (i * j)) (tC (.int 37)) (tVar 1)) (tC (.int 11))) tNil))), (tC (.str "spot"), tC (.int 0))]
          [some (.ref a), some (.int k), some (.ref C), some (.ref D), some (.int sd), y5] H5 fun ps H2 => H2 m = some (.dK []) ∧ ∃ kvs : List (Key × V), (V.str "left", V.int l) :: ps = kvs.map (fun kv => (kV kv.1, kv.2)) ∧ kvs.length ≤ 15 ∧ Q (.ref m) (upd H2 m (.dK (mergeK [] kvs))) := by
        intro H5 l s5 hl0
        have eC5 := s5 _ _ (sm _ _ eC3)
        have em5 := s5 _ _ (upd_same (H := H') (a := m) (o := .dK []))
        refine ⟨_, rfl, .ref C, rfl, .int k, rfl, 37, k, rfl, rfl, .inl ⟨by decide, by decide⟩, _, 11, rfl, rfl, fits (by show 1 ≤ 1000; decide), fun p6 h6 => ?_⟩
        have s6 := same_upd (o := .lst [V.int (37 * (k : Int) + 11)]) h6
        refine ⟨C, p6, _, _, rfl, rfl, s6 _ _ eC5, upd_same, ?_, fun c hc => ?_⟩
        · rw [List.length_map]
          exact fits (by show cs.length + 1 ≤ 1000; omega)
        have s7 := same_upd (o := .lst (cs.map V.int ++ [V.int (37 * (k : Int) + 11)])) hc
        have em7 := s7 _ _ (s6 _ _ em5)
        refine ⟨em7, [(.inr "left", .int l), (.inr "seed", .int sd), (.inr "cells", .ref c), (.inr "spot", .int 0)], rfl, (by show 4 ≤ 15; decide), ?_⟩
        have em : mergeK [] [((.inr "left" : Key), V.int l), (.inr "seed", .int sd), (.inr "cells", .ref c), (.inr "spot", .int 0)] = [(.inr "left", .int l), (.inr "seed", .int sd), (.inr "cells", .ref c), (.inr "spot", .int 0)] := by rfl
        rw [em]
        have nm : c ≠ m := (ne_of_none (s6 _ _ em5) hc).symm
        refine q _ m (same_put (sH.trans (s3.trans (sm.trans (s5.trans (s6.trans s7))))) ((sH.trans s3).free hm)) ⟨l, sd, c, 0, cs ++ [37 * (k : Int) + 11], upd_same, hl0, b1, b2, Nat.le_refl _, ?_, by simp, ?_⟩
        · rw [upd_ne nm, upd_same, List.map_append]
          rfl
        · rw [List.length_append]
          show cs.length + 1 ≤ 1000
          omega
      refine ⟨.ref D, rfl, Nat.zero_le _, fun e0 he0 => ?_⟩
      have s8 := same_upd (o := .lst []) he0
      have hD8 := s8 _ _ (sm _ _ hL)
      refine ⟨.list (gr.map PyData.int), .list [], .lst (.inl (.inl hD8)) (dp_ints gr), .lst (.inl (.inl upd_same)) .nil, shaped_lD gr, shaped_lD [], _, rfl, ?_⟩
      have eq : PyData.eqv (.list (gr.map PyData.int)) (.list []) = decide (gr = []) := eqv_ints gr []
      rw [eq]
      cases gr with
      | nil => exact iteNS rfl (go _ 0 s8 (Int.le_refl _))
      | cons z r =>
        rw [decide_eq_false (by intro e; cases e)]
        exact ⟨.ref D, rfl, D, _, 0, .int z, rfl, rfl, .inl (.inl hD8), atI_nat (j := 0) rfl, go _ z s8 (gre z List.mem_cons_self)⟩
end
end OF
end
section
set_option Elab.async false
set_option linter.all false
set_option maxRecDepth 100000
set_option maxHeartbeats 4000000
/-! _law_draw, _law_of -/
namespace OF
open PySem PySem.Spec PySem.Calls PyProof.Rows L2 OFx
section
variable {P : Program} {w : World} {K : PySem.W.Frag} {mg : Str → Option Value} {base : Heap}
def sp24 : Sp := fun vs H Q _ => ∃ (m : Addr) (many : Int) (B : Nat), vs = [.ref m, .int many] ∧ 1 ≤ many ∧ many ≤ 10 ^ 30 ∧ MI m B H ∧ B ≤ 1000000 ∧ ∀ H' r, 0 ≤ r → r < many → Sd m H H' → MI m (B + 1) H' → Q (.int r) H'
theorem sc24 : FnScope ["m", "many", "found", "spot", "cells", "added", "cell", "blend"] ["m", "many"] (defScope (top 24)) := ⟨rfl, rfl, rfl, by decide +kernel, rfl, by decide +kernel, by decide +kernel⟩
theorem ok24 (T : TX P K mg) : FnOk P w K mg base C8.CX0 1 T.f24 T.d24 ["m", "many"] sp24 := by
  refine T.F24.ok sc24 (fun vs H Q E h => ?_) (fun cdv A outer s H vs Q E hr h => ?_)
  · obtain ⟨m, many, B, rfl, _⟩ := h
    rfl
  · obtain ⟨m, many, B, rfl, hm1, hm2, ⟨l, sd, c, sp, cs, hm, l0, sd0, sd1, spB, hc, cn, cl⟩, hB, q⟩ := h
    have hu := hu_of hr
    refine ⟨_, pss_cons (ps_if (pt_cmpR op_gt (pe_dget hu (pv 0) pe_str (fun _ _ => rfl)) pe_int (nomark _))
        (pss_cons (ps_set (i := 2) sc24.nd rfl (.inl rfl) (pe_op op_mod (pe_callTy call_int1 (by rfl) T.z_int boot_int (pa_cons (pe_dget hu (pv 0) pe_str (fun _ _ => rfl)) pa_nil)) (pv 1)))
        (pss_cons (ps_dput hu (pv 0) pe_str (pe_op op_fdivW (pe_dget hu (pv 0) pe_str (fun _ _ => rfl)) (pv 1)) (by rfl))
        (pss_one (ps_ret (pv 2))))) pss_nil)
      (pss_cons (ps_set (i := 3) sc24.nd rfl (.inl rfl) (pe_dget hu (pv 0) pe_str (fun _ _ => rfl)))
      (pss_cons (ps_dput hu (pv 0) pe_str (pe_op op_add (pv 3) pe_int) (by rfl))
      (pss_cons (ps_par (i := 4) (j := 5) rfl sc24.nd rfl rfl (by decide) rfl rfl (pa_cons (pe_dget hu (pv 0) pe_str (fun _ _ => rfl)) (pa_cons (pe_op op_add (pe_dget hu (pv 0) pe_str (fun _ _ => rfl)) (pe_op op_mul (pe_op op_mul pe_int (pv 3)) (pv 3))) pa_nil)) (by with_unfolding_all rfl))
      (pss_cons (ps_set (i := 6) sc24.nd rfl (.inl rfl) (pe_ix ix_list (pv 4) (pe_op op_mod (pe_callTy call_int1 (by rfl) T.z_int boot_int (pa_cons (pv 3) pa_nil)) (pe_callB cr_len (by rfl) T.z_len boot_len (pa_cons (pv 4) pa_nil))) (fun _ _ => rfl)))
      (pss_cons (ps_set (i := 7) sc24.nd rfl (.inl rfl) (pe_op op_mod (pe_callTy call_int1 (by rfl) T.z_int boot_int (pa_cons (pe_op op_add (pe_op op_mul (pv 6) (pe_op op_add (pe_op op_mul pe_int (pv 3)) pe_int)) (pv 5)) pa_nil)) pe_int))
      (pss_cons (ps_set (i := 7) sc24.nd rfl (.inl rfl) (pe_op op_mod (pe_callTy call_int1 (by rfl) T.z_int boot_int (pa_cons (pe_op op_add (pe_op op_add (pe_op op_mul (pv 7) (pv 7)) (pe_op op_mul pe_int (pv 3))) (pe_dget hu (pv 0) pe_str (fun _ _ => rfl))) pa_nil)) pe_int))
      (pss_one (ps_ret (pe_op op_mod (pe_op op_fdiv (pe_op op_mod (pe_callTy call_int1 (by rfl) T.z_int boot_int (pa_cons (pe_op op_add (pe_op op_mul (pv 7) pe_int) (pv 3)) pa_nil)) pe_int) pe_int) (pv 1)))))))))), ?_⟩
    have g1 : DGet H m (.str "left") (some (.int l)) := DGet.k (k := .inr "left") hm
    refine ⟨.ref m, rfl, m, _, rfl, g1, l, 0, rfl, rfl, _, rfl, ite2 (fun c0 => ?_) (fun c0 => ?_)⟩
    · -- from the great number
      have lg : many.natAbs.log2 < 9000 := Nat.lt_of_lt_of_le (PySem.Flt.log2_lt_of (k := 100) (by decide) (by omega)) (by decide)
      refine ⟨.ref m, rfl, m, _, rfl, g1, .inl ⟨_, rfl, .int many, rfl, l, many, rfl, rfl, by omega, ?_⟩⟩
      refine ⟨.ref m, rfl, m, _, rfl, g1, .int many, rfl, l, many, rfl, rfl, ⟨by omega, lg⟩, .ref m, rfl, m, _, rfl, DPut.k (k := .inr "left") hm (small1000 (by show 4 ≤ 1000; decide)), ?_⟩
      refine ⟨_, rfl, q _ _ (Int.emod_nonneg _ (by omega)) (Int.emod_lt_of_pos _ (by omega)) (fun b o hb e => ?_) ?_⟩
      · rw [upd_ne hb]
        exact e
      · refine ⟨l / many, sd, c, sp, cs, ?_, Int.ediv_nonneg l0 (by omega), sd0, sd1, by omega, ?_, cn, cl⟩
        · rw [upd_same]
          rfl
        · rw [upd_ne (ne_of hc hm (by intro z; cases z))]
          exact hc
    · -- from the cells
      have g2 : DGet H m (.str "spot") (some (.int (sp : Int))) := DGet.k (k := .inr "spot") hm
      refine ⟨.ref m, rfl, m, _, rfl, g2, .int sp, rfl, sp, 1, rfl, rfl, .ref m, rfl, m, _, rfl, DPut.k (k := .inr "spot") hm (small1000 (by show 4 ≤ 1000; decide)), ?_⟩
      have hm2' : upd H m (.dK (putK [((.inr "left" : Key), V.int l), (.inr "seed", .int sd), (.inr "cells", .ref c), (.inr "spot", .int (sp : Int))] (.inr "spot") (.int ((sp : Int) + 1)))) m = some (.dK [(.inr "left", .int l), (.inr "seed", .int sd), (.inr "cells", .ref c), (.inr "spot", .int ((sp : Int) + 1))]) := by
        rw [upd_same]
        rfl
      have sdm : Sd m H (upd H m (.dK (putK [((.inr "left" : Key), V.int l), (.inr "seed", .int sd), (.inr "cells", .ref c), (.inr "spot", .int (sp : Int))] (.inr "spot") (.int ((sp : Int) + 1))))) := fun b o hb e => by
        rw [upd_ne hb]
        exact e
      have hc2 := sdm c _ (ne_of hc hm (by intro z; cases z)) hc
      generalize upd H m (.dK (putK [((.inr "left" : Key), V.int l), (.inr "seed", .int sd), (.inr "cells", .ref c), (.inr "spot", .int (sp : Int))] (.inr "spot") (.int ((sp : Int) + 1)))) = H1 at *
      have g3 : DGet H1 m (.str "cells") (some (.ref c)) := DGet.k (k := .inr "cells") hm2'
      have g4 : DGet H1 m (.str "seed") (some (.int sd)) := DGet.k (k := .inr "seed") hm2'
      refine ⟨.ref m, rfl, m, _, rfl, g3, .ref m, rfl, m, _, rfl, g4, .int sp, rfl, 40503, sp, rfl, rfl, .inl ⟨by decide, by decide⟩, .int sp, rfl, _, sp, rfl, rfl, .inr ⟨by omega, by omega⟩, sd, _, rfl, rfl, _, _, rfl, ?_⟩
      have lc : 0 < cs.length := List.length_pos_iff.mpr cn
      have lc' : (0 : Int) < ((cs.map V.int).length : Nat) := by
        rw [List.length_map]
        omega
      have ix0 : 0 ≤ (sp : Int) % ((cs.map V.int).length : Nat) := Int.emod_nonneg _ (by omega)
      have ix1 : (sp : Int) % ((cs.map V.int).length : Nat) < ((cs.map V.int).length : Nat) := Int.emod_lt_of_pos _ lc'
      generalize hj : ((sp : Int) % ((cs.map V.int).length : Nat)).toNat = j
      have ej : (sp : Int) % ((cs.map V.int).length : Nat) = (j : Int) := by omega
      have jlt : j < cs.length := by
        rw [List.length_map] at ix1 ej
        omega
      have at_j : atI (cs.map V.int) (j : Int) = some (.int cs[j]) := atI_nat (by rw [List.getElem?_map, List.getElem?_eq_getElem jlt]; rfl)
      refine ⟨.ref c, rfl, .int sp, rfl, .inl ⟨sp, rfl, .ref c, rfl, c, _, rfl, .inl (.inl (.inl hc2)), sp, _, rfl, rfl, lc', c, _, _, .int cs[j], rfl, rfl, .inl (.inl hc2), by rw [ej]; exact at_j, ?_⟩⟩
      generalize cs[j] = z
      have p31 : (0 : Int) < 2147483647 := by decide
      have p29 : (0 : Int) < 2147483629 := by decide
      refine ⟨.int z, rfl, .int sp, rfl, 2, sp, rfl, rfl, .inl ⟨by decide, by decide⟩, _, 3, rfl, rfl, z, _, rfl, rfl, .inr ⟨by omega, by omega⟩, _, rfl, _, _, rfl, rfl, .inl ⟨_, rfl, _, 2147483647, rfl, rfl, p31, ?_⟩⟩
      obtain ⟨b1, hb1⟩ : ∃ b1, (z * (2 * (sp : Int) + 3) + (sd + 40503 * (sp : Int) * (sp : Int))) % 2147483647 = b1 := ⟨_, rfl⟩
      have b10 : 0 ≤ b1 := by rw [← hb1]; exact Int.emod_nonneg _ (by decide)
      have b11 : b1 < 2147483647 := by rw [← hb1]; exact Int.emod_lt_of_pos _ p31
      refine ⟨.int b1, by rw [← hb1]; rfl, .int b1, by rw [← hb1]; rfl, b1, b1, rfl, rfl, .inl ⟨by omega, by omega⟩, .int sp, rfl, 69621, sp, rfl, rfl, .inl ⟨by decide, by decide⟩, _, _, rfl, rfl, .ref m, rfl, m, _, rfl, g4, _, sd, rfl, rfl, .inl ⟨_, rfl, _, 2147483629, rfl, rfl, p29, ?_⟩⟩
      obtain ⟨b2, hb2⟩ : ∃ b2, (b1 * b1 + 69621 * (sp : Int) + sd) % 2147483629 = b2 := ⟨_, rfl⟩
      have b20 : 0 ≤ b2 := by rw [← hb2]; exact Int.emod_nonneg _ (by decide)
      have b21 : b2 < 2147483629 := by rw [← hb2]; exact Int.emod_lt_of_pos _ p29
      refine ⟨.int b2, by rw [← hb2]; rfl, b2, 48271, rfl, rfl, .inl ⟨by omega, by omega⟩, .int sp, rfl, _, sp, rfl, rfl, .inl ⟨_, rfl, _, 2147483647, rfl, rfl, p31, _, 11, rfl, rfl, ⟨by decide, by decide⟩, .int many, rfl, _, many, rfl, rfl, by omega, ?_⟩⟩
      refine q H1 _ (Int.emod_nonneg _ (by omega)) (Int.emod_lt_of_pos _ (by omega)) sdm ⟨l, sd, c, sp + 1, cs, ?_, l0, sd0, sd1, by omega, hc2, cn, cl⟩
      rw [hm2']
      rfl
def sp25 : Sp := fun vs H Q _ => ∃ (m a : Addr) (xs : List V) (B : Nat), vs = [.ref m, .ref a] ∧ MI m B H ∧ B ≤ 1000000 ∧ H a = some (.lst xs) ∧ xs ≠ [] ∧ xs.length ≤ 1000 ∧ ∀ (H' : Hp) (j : Nat) (x : V), xs[j]? = some x → Sd m H H' → MI m (B + 1) H' → Q x H'
theorem sc25 : FnScope ["m", "some"] ["m", "some"] (defScope (top 25)) := ⟨rfl, rfl, rfl, by decide +kernel, rfl, by decide +kernel, by decide +kernel⟩
theorem ok25 (T : TX P K mg) : FnOk P w K mg base C8.CX0 2 T.f25 T.d25 ["m", "some"] sp25 := by
  refine T.F25.ok sc25 (fun vs H Q E h => ?_) (fun cdv A outer s H vs Q E hr h => ?_)
  · obtain ⟨m, a, xs, B, rfl, _⟩ := h
    rfl
  · obtain ⟨m, a, xs, B, rfl, hm, hB, ha, xn, xl, q⟩ := h
    have G24 : FnOk P w K mg base C8.CX0 1 T.f24 T.d24 ["m", "many"] sp24 := ok24 T
    refine ⟨_, pss_one (ps_ret (pe_ix ix_list (pv 1) (pe_callN G24 hr (by rfl) T.g24 T.F24.kp T.b24 (by exact (pa_cons (pv 0) (pa_cons (pe_callB cr_len (by rfl) T.z_len boot_len (pa_cons (pv 1) pa_nil)) pa_nil)))) (fun _ _ => rfl))), ?_⟩
    have lx : 0 < xs.length := List.length_pos_iff.mpr xn
    refine ⟨.ref a, rfl, .ref m, rfl, .ref a, rfl, a, xs, rfl, .inl (.inl (.inl ha)), m, _, B, rfl, by omega, by omega, hm, hB, fun H' r r0 r1 sd hm' => ?_⟩
    obtain ⟨j, rfl⟩ : ∃ j : Nat, r = (j : Int) := ⟨r.toNat, by omega⟩
    have jl : j < xs.length := by omega
    have ej := List.getElem?_eq_getElem jl
    exact ⟨a, xs, _, _, rfl, rfl, .inl (.inl (sd a _ (hm.ne ha) ha)), atI_nat ej, q H' j _ ej sd hm'⟩
end
end OF
end
section
set_option Elab.async false
set_option linter.all false
set_option maxRecDepth 100000
set_option maxHeartbeats 4000000
/-! _law_lots, _law_is_spot -/
namespace OFx
open PySem PySem.Spec PySem.Calls PyProof.Rows L2
/-- a comprehension whose items are tuples of ints -/
theorem lc_ts {J : It} {n : Nat} {G : Hp → Prop} {Y : Nat → Hp → V → Hp → Prop} (w : Walk J n G Y) {g : TG} {tt : TT} {te : TE} {vs : List Nat} {σ : L2.St} {H1 : Hp} {D : Addr} {Qd : Hp → Prop} (f : Nat → Option (List Int)) (hn : n ≤ 1000) (hD : H1 D = none) (hG : ∀ H, Same H1 H → G H)
    (hs : ∀ i x H2 H' (Ky : V → Hp → Prop) (Kn : Hp → Prop), i < n → Same H1 H2 → Y i H2 x H' → (∀ y H5 ns, f i = some ns → Same H2 H5 → IT H5 y ns → Ky y H5) → (∀ H5, f i = none → Same H2 H5 → Kn H5) →
      g x (wipe σ vs) H' fun σ2 H3 => wipe σ2 vs = wipe σ vs ∧ tt σ2 H3 fun b H4 => if b = true then te σ2 H4 Ky else Kn H4)
    (hd : ∀ H' acc, Same H1 H' → H' D = some (.lst acc) → ITs H' acc ((List.range n).filterMap f) → Qd H') :
    ∃ W : Nat → Nat → Hp → Prop, (∃ m, W 0 m (upd H1 D (.lst []))) ∧ ∀ i m H, W i m H →
      (J.stop i H ∧ Qd H) ∨ (J.go i H ∧ ∃ Nx : Hp → Prop, (∀ H', Nx H' → ∃ m', m' < m ∧ W (i + 1) m' H') ∧ ∀ x H', J.yld i H x H' → g x (wipe σ vs) H' fun σ2 H2 => wipe σ2 vs = wipe σ vs ∧ tt σ2 H2 fun b H3 =>
        if b = true then te σ2 H3 fun y H4 => ∃ acc, H4 D = some (.lst acc) ∧ acc.length < sizeLine ∧ Nx (upd H4 D (.lst (acc ++ [y]))) else Nx H3) := by
  have fm : ∀ i, (List.range (i + 1)).filterMap f = (List.range i).filterMap f ++ (f i).toList := fun i => by
    rw [List.range_succ, List.filterMap_append]
    cases h : f i <;> simp [h]
  refine lc_it w (fun i H => Same H1 H ∧ ∃ acc, H D = some (.lst acc) ∧ ITs H acc ((List.range i).filterMap f)) ⟨same_upd hD, [], upd_same, .nil⟩ (fun i H _ p => hG H p.1) (fun i x H H' hi p y => ?_) fun H p => let ⟨a, acc, b, c⟩ := p; hd H acc a b c
  obtain ⟨sm, acc, hL, ia⟩ := p
  refine hs i x H H' _ _ hi sm y (fun y H5 ns e s5 it => ?_) fun H5 e s5 => ?_
  · refine ⟨acc, s5 _ _ hL, small1000 ?_, same_put (sm.trans s5) hD, acc ++ [y], upd_same, ?_⟩
    · rw [paired_len ia]
      refine Nat.le_trans (List.length_filterMap_le _ _) ?_
      rw [List.length_range]
      omega
    · rw [fm, e]
      exact paired_append (ITs.put (s5 _ _ hL) (ITs.mono (Ex.same s5) ia)) (.cons (it.put (s5 _ _ hL)) .nil)
  · refine ⟨sm.trans s5, acc, s5 _ _ hL, ?_⟩
    rw [fm, e]
    show ITs H5 acc (_ ++ [])
    rw [List.append_nil]
    exact ITs.mono (Ex.same s5) ia
theorem range_fm {α β : Type} (d : α) (p : α → Bool) (g : α → β) : ∀ l : List α, ((List.range l.length).filterMap fun i => if p (l.getD i d) = true then some (g (l.getD i d)) else none) = (l.filter p).map g
  | [] => rfl
  | n :: ns => by
    have ih := range_fm d p g ns
    rw [List.length_cons, List.range_succ_eq_map]
    generalize hf : (fun i => if p ((n :: ns).getD i d) = true then some (g ((n :: ns).getD i d)) else none) = f
    have f0 : f 0 = if p n = true then some (g n) else none := by rw [← hf]; rfl
    have fs : f ∘ Nat.succ = fun i => if p (ns.getD i d) = true then some (g (ns.getD i d)) else none := by rw [← hf]; rfl
    by_cases h : p n = true
    · rw [if_pos h] at f0
      rw [List.filterMap_cons_some f0, List.filter_cons_of_pos h, List.filterMap_map, fs, ih]
      rfl
    · rw [if_neg h] at f0
      rw [List.filterMap_cons_none f0, List.filter_cons_of_neg h, List.filterMap_map, fs, ih]
end OFx
namespace OF
open PySem PySem.Spec PySem.Calls PyProof.Rows L2 OFx
def lawRows (h : Nat) : Nat → List (List Int)
  | 0 => [[]]
  | k + 1 => lawRows h k ++ ((lawRows h k).filter fun r => decide ((r.length : Int) < (h : Int))).map fun r => r ++ [(k : Int)]
theorem law_same : ∀ h : Fin 4, ∀ n : Fin 9, h.val = 0 ∨ n.val = 0 ∨ isort (lawRows h.val n.val) = lots h.val n.val := by decide +kernel
theorem law_few : ∀ h : Fin 4, ∀ n : Fin 9, (lawRows h.val n.val).length ≤ 100 := by decide +kernel
theorem lawRows_lots {h n : Nat} (x : HN h n) : isort (lawRows h n) = lots h n := by
  obtain ⟨a1, a2, a3, a4⟩ := x
  rcases law_same ⟨h, by omega⟩ ⟨n, by omega⟩ with e | e | e
  · have e' : h = 0 := e
    omega
  · have e' : n = 0 := e
    omega
  · exact e
theorem lawRows_le {h n : Nat} (a : h ≤ 3) (b : n ≤ 8) : (lawRows h n).length ≤ 100 := law_few ⟨h, by omega⟩ ⟨n, by omega⟩
theorem lawRows_first (h : Nat) : ∀ k, ∃ r, lawRows h k = [] :: r
  | 0 => ⟨[], rfl⟩
  | k + 1 => by
    obtain ⟨r, e⟩ := lawRows_first h k
    refine ⟨r ++ ((lawRows h k).filter fun r => decide ((r.length : Int) < (h : Int))).map fun r => r ++ [(k : Int)], ?_⟩
    show lawRows h k ++ _ = _
    conv => lhs; arg 1; rw [e]
    rfl
section
variable {P : Program} {w : World} {K : PySem.W.Frag} {mg : Str → Option Value} {base : Heap}
theorem sc26 : FnScope ["hands", "many", "rows", "k", "row"] ["hands", "many"] (defScope (top 26)) := ⟨rfl, rfl, rfl, by decide +kernel, rfl, by decide +kernel, by decide +kernel⟩
theorem ok26 (T : TX P K mg) : FnOk P w K mg base C8.CX0 1 T.f26 T.d26 ["hands", "many"] sp12 := by
  refine T.F26.ok sc26 (fun vs H Q E h => ?_) (fun cdv A outer s H vs Q E hr h => ?_)
  · obtain ⟨h, n, rfl, _⟩ := h
    rfl
  · obtain ⟨h, n, rfl, hn, q⟩ := h
    have hu : (A.deeper (envOfC "_law_lots" (defScope (top 26)) s.heap.objs.size T.f26 cdv)).units + 64 < cLine := by
      have := hr.un
      omega
    refine ⟨_, pss_cons (ps_set (i := 2) sc26.nd rfl (.inl rfl) (pe_lst (pa_cons (pe_tup pa_nil) pa_nil)))
      (pss_cons (ps_for PassesOwn.never rfl (pi_range1 (by rfl) T.z_range (pa_cons (pv 1) pa_nil)) (pg_name (i := 3) sc26.nd rfl (.inr rfl))
        (pss_one (ps_set (i := 2) sc26.nd rfl (.inl rfl) (pe_op op_cat (pv 2) (pe_lc (own := [("row", 4)]) (g := gName 4) rfl sc26.nd (pi_list (pv 2)) (blkOk_by (N := ["hands", "many", "rows", "k", "row"]) (sc := defScope (top 26)) (by decide +kernel))
          (fun _ _ _ _ _ => pg_name (i := 4) sc26.nd rfl (.inl rfl)) (fun _ _ _ _ _ => by exact (pts_one (pt_cmpR op_lt (pe_callB (r := rLenS K) cr_len (by rfl) T.z_len boot_len (pa_cons (pv 4) pa_nil)) (pv 0) (nomark _))))
          (fun _ _ _ _ _ => by exact (pe_op (r := rCatA K) op_catA (pv 4) (pe_tup (pa_cons (pv 3) pa_nil)))))))))
      (pss_one (ps_ret (pe_callB (cr_sortT hu) (by rfl) T.z_sorted boot_sorted (pa_cons (pv 2) pa_nil))))), ?_⟩
    have hn' := hn
    obtain ⟨n1, n2, n3, n4⟩ := hn
    refine ⟨Nat.zero_le _, fun t1 ht1 => ⟨fits (by show 1 ≤ 1000; decide), fun R0 hR0 => ?_⟩⟩
    have s1 : Same H (upd H t1 (.tup [])) := same_upd ht1
    have s2 := same_upd (o := .lst [.ref t1]) hR0
    have e1 := s2 _ _ (upd_same (H := H) (a := t1) (o := .tup []))
    refine ⟨.int n, rfl, (n : Int), rfl, by omega, by omega, for_it (walk_range (n := n)) (fun i σ H' => ∃ R xs y3, σ = [some (.int h), some (.int n), some (.ref R), y3, none] ∧ Same H H' ∧ H' R = some (.lst xs) ∧ ITs H' xs (lawRows h i))
      ⟨R0, [.ref t1], none, rfl, s1.trans s2, upd_same, .cons ⟨t1, rfl, e1⟩ .nil⟩ (fun _ _ _ _ _ => trivial) ?_ ?_⟩
    · rintro i x σ _ H1 hi ⟨R, xs, y3, rfl, sm, hR, iR⟩ ⟨rfl, rfl⟩
      have few := lawRows_le (h := h) (n := i + 1) n2 (by omega)
      have ll := paired_len iR
      have lw : (lawRows h i).length ≤ 100 := lawRows_le n2 (by omega)
      refine ⟨.ref R, rfl, .ref R, rfl, R, rfl, ⟨_, .inl (.inl hR)⟩, fun D hD => lc_ts (walk_list (xs := xs)) (fun j => if decide ((((lawRows h i).getD j []).length : Int) < (h : Int)) = true then some ((lawRows h i).getD j [] ++ [(i : Int)]) else none) (by omega) hD (fun H2 s5 => .inl (.inl (s5 _ _ hR))) (fun j x H2 H' Ky Kn hj s5 hy ky kn => ?_) fun H3 acc s3 hL iL => ?_⟩
      · obtain ⟨rfl, ex⟩ := hy
        obtain ⟨row, erow, ix⟩ := L2.paired_get iR ex
        have eg : (lawRows h i).getD j [] = row := by rw [List.getD_eq_getElem?_getD, erow]; rfl
        obtain ⟨tr, rfl, htr⟩ := ix
        have htr' := s5 _ _ htr
        refine ⟨rfl, .ref tr, rfl, tr, _, rfl, .inr (.inl (.inl htr')), .int h, rfl, _, h, rfl, rfl, _, rfl, ?_⟩
        rw [List.length_map]
        refine ite2 (fun c => ?_) (fun c => ?_)
        · have e2 : (fun j => if decide ((((lawRows h i).getD j []).length : Int) < (h : Int)) = true then some ((lawRows h i).getD j [] ++ [(i : Int)]) else none) j = some (row ++ [(i : Int)]) := by
            show (if decide ((((lawRows h i).getD j []).length : Int) < (h : Int)) = true then some ((lawRows h i).getD j [] ++ [(i : Int)]) else none) = _
            rw [eg, if_pos c]
          have ei : (0 : Int) + (i : Int) = (i : Int) := by omega
          have clt : row.length ≤ 3 := by
            have := of_decide_eq_true c
            omega
          refine ⟨.ref tr, rfl, .int (0 + (i : Int)), rfl, fits (by show 1 ≤ 1000; decide), fun t ht => ?_⟩
          rw [ei]
          have s6 : Same _ (upd _ t (.tup [V.int (i : Int)])) := same_upd ht
          refine ⟨tr, t, row.map V.int, [.int (i : Int)], rfl, rfl, .inl (.inl (s6 _ _ htr')), .inl (.inl upd_same), ?_, fun e => ?_, (fun _ e => by cases e), fun _ _ p hp => ?_⟩
          · rw [List.length_map]
            exact fits (by show row.length + 1 ≤ 1000; omega)
          · refine ky _ _ _ e2 s6 ⟨t, rfl, ?_⟩
            have : row = [] := List.map_eq_nil_iff.mp e
            rw [upd_same, this]
            rfl
          · refine ky _ _ _ e2 (s6.trans (same_upd hp)) ⟨p, rfl, ?_⟩
            rw [upd_same, List.map_append]
            rfl
        · refine kn _ ?_ (Same.refl _)
          show (if decide ((((lawRows h i).getD j []).length : Int) < (h : Int)) = true then some ((lawRows h i).getD j [] ++ [(i : Int)]) else none) = none
          rw [eg, if_neg c]
      · rw [ll] at iL
        have fmE := range_fm [] (fun r : List Int => decide ((r.length : Int) < (h : Int))) (fun r : List Int => r ++ [(i : Int)]) (lawRows h i)
        replace iL : ITs H3 acc (((lawRows h i).filter fun r => decide ((r.length : Int) < (h : Int))).map fun r => r ++ [(i : Int)]) := by
          rw [← fmE]
          exact iL
        have few' : (lawRows h i ++ ((lawRows h i).filter fun r => decide ((r.length : Int) < (h : Int))).map fun r => r ++ [(i : Int)]).length ≤ 100 := few
        have la := paired_len iL
        refine ⟨R, D, xs, acc, rfl, rfl, s3 _ _ hR, hL, ?_, fun p hp => ⟨p, xs ++ acc, _, rfl, sm.trans (s3.trans (same_upd hp)), upd_same, paired_append (ITs.mono ((Ex.same s3).trans (Ex.upd hp)) iR) (ITs.mono (Ex.upd hp) iL)⟩⟩
        rw [List.length_append] at few'
        exact fits (by omega)
    · rintro σ H1 ⟨R, xs, y3, rfl, sm, hR, iR⟩
      obtain ⟨r, er⟩ := lawRows_first h n
      have iR' := iR
      rw [er] at iR'
      cases iR' with
      | cons x0 xr =>
        refine ⟨.ref R, rfl, R, _, _, _, rfl, .inl (.inl hR), .cons x0 xr, fun zs es p iz srt pm hp => q _ p zs (sm.trans (same_upd hp)) (sm.free hp) upd_same ?_⟩
        have e : es = lots h n := by
          rw [← lawRows_lots hn']
          exact srtL_uniq srt (isort_srt _) (pm.trans (by rw [← er]; exact (isort_perm _).symm))
        rw [← e]
        exact ITs.mono (Ex.upd hp) iz
end
end OF
end
section
set_option Elab.async false
set_option linter.all false
set_option maxRecDepth 100000
set_option maxHeartbeats 4000000
/-! _law_is_spot, _law_next -/
namespace OF
open PySem PySem.Spec PySem.Calls PyProof.Rows L2 OFx
section
variable {P : Program} {w : World} {K : PySem.W.Frag} {mg : Str → Option Value} {base : Heap}
theorem sc28 : FnScope ["frame", "thing", "item", "most"] ["frame", "thing"] (defScope (top 28)) := ⟨rfl, rfl, rfl, by decide +kernel, rfl, by decide +kernel, by decide +kernel⟩
theorem ok28 (T : TX P K mg) : FnOk P w K mg base C8.CX0 1 T.f28 T.d28 ["frame", "thing"] sp15 := by
  refine T.F28.ok sc28 (fun vs H Q E h => ?_) (fun cdv A outer s H vs Q E hr h => ?_)
  · obtain ⟨p, v, h, gs, d, rfl, _⟩ := h
    rfl
  · obtain ⟨p0, v, h, gs, d, rfl, ⟨p, g, rfl, hp, hg⟩, hv, few, q⟩ := h
    refine ⟨_, pss_cons (ps_if (PW.pt (pw_or (pt_not (pt_val (pe_callB call_isi (by rfl) T.z_isinstance boot_isinstance (pa_cons (pv 1) (pa_cons (pe_bltn (v := .ty "tuple") (by rfl) T.z_tuple boot_tuple rfl) pa_nil)))))
          (pw_or1 (pt_cmpR op_ne (pe_callB cr_len (by rfl) T.z_len boot_len (pa_cons (pv 1) pa_nil)) (pe_callB cr_len (by rfl) T.z_len boot_len (pa_cons (pe_ix ix_tup (pv 0) pe_int (fun _ _ => rfl)) pa_nil)) (nomark _)))))
        (pss_one (ps_ret pe_bl)) pss_nil)
      (pss_cons (ps_for PassesOwn.never rfl (RZ.pi_zipA (by rfl) T.z_zip (pa_cons (pv 1) (pa_cons (pe_ix ix_tup (pv 0) pe_int (fun _ _ => rfl)) pa_nil))) (pg_tup rfl (pgs_cons (pg_name (i := 2) sc28.nd rfl (.inl rfl)) (pgs_cons (pg_name (i := 3) sc28.nd rfl (.inl rfl)) pgs_nil)))
          (pss_one (ps_if (PW.pt (pw_or (pt_not (pt_val (pe_callB call_isi (by rfl) T.z_isinstance boot_isinstance (pa_cons (pv 2) (pa_cons (pe_bltn (v := .ty "int") (by rfl) T.z_int boot_int rfl) pa_nil)))))
              (pw_or (pt_val (pe_callB call_isi (by rfl) T.z_isinstance boot_isinstance (pa_cons (pv 2) (pa_cons (pe_bltn (v := .ty "bool") (by rfl) T.z_bool boot_bool rfl) pa_nil))))
              (pw_or1 (pt_not (pt_chain op_le op_le pe_int (pv 2) (pv 3)))))))
            (pss_one (ps_ret pe_bl)) pss_nil)))
      (pss_one (ps_ret pe_bl))), ?_⟩
    refine ⟨v, rfl, v, .ty "tuple", _, _, _, rfl, .ty "tuple", rp_ty hv, kit_ty (kit_tup d), _, rfl, ite2 (fun c => ?_) (fun c => ?_)⟩
    · have e : isSt gs d = false := by
        cases d <;> first | rfl | (cases c; done)
      have z := q H (Same.refl H)
      rw [e] at z
      exact z
    obtain ⟨ds, rfl⟩ : ∃ ds, d = .tuple ds := by
      cases d <;> first | exact ⟨_, rfl⟩ | exact absurd rfl c
    cases hv with
    | @tup a xs _ ha hxs =>
      have hl := rpAll_len hxs
      refine ⟨.ref a, rfl, a, _, rfl, .inr (.inl (.inl ha)), .ref p, rfl, p, _, 1, .ref g, rfl, rfl, .inl (.inl hp), atI_nat (j := 1) rfl, g, _, rfl, .inr (.inl (.inl hg)), rfl, _, rfl, ite2 (fun c1 => ?_) (fun c1 => ?_)⟩
      · have e : isSt gs (.tuple ds) = false := by
          show (decide (ds.length = gs.length) && _) = false
          rw [decide_eq_false (fun e => ?_)]
          · rfl
          · rw [hl, List.length_map, e] at c1
            rw [decide_eq_true rfl] at c1
            cases c1
        have z := q H (Same.refl H)
        rw [e] at z
        exact z
      have ll : ds.length = gs.length := by
        have z : V.int (xs.length : Nat) = .int ((gs.map V.int).length : Nat) := of_decide_eq_true (not_no c1)
        have z2 := V.int.inj z
        rw [List.length_map, hl] at z2
        omega
      have e1 : isSt gs (.tuple ds) = (ds.zip gs).all fun p => isW 1 p.2 p.1 := by
        show (decide (ds.length = gs.length) && _) = _
        rw [decide_eq_true ll]
        rfl
      have nz : gs.length = min xs.length (gs.map V.int).length := by
        rw [List.length_map, hl]
        omega
      rw [e1] at q
      refine ⟨.ref a, rfl, .ref p, rfl, p, _, 1, .ref g, rfl, rfl, .inl (.inl hp), atI_nat (j := 1) rfl, a, g, _, _, rfl, .inr ⟨.inl (.inl ha), .inl (.inl hg), for_it (walk_ziT (xs := xs) (ys := gs.map V.int) nz) (fun i σ H' => (∃ y2 y3, σ = [some (.ref p), some (.ref a), y2, y3]) ∧ Same H H' ∧ ∀ j, j < i → isW 1 (gs.getD j 0) (ds.getD j .none) = true)
        ⟨⟨none, none, rfl⟩, Same.refl H, fun j hj => absurd hj (Nat.not_lt_zero _)⟩ (fun i σ H' _ p => ⟨.inl (.inl (p.2.1 _ _ ha)), .inl (.inl (p.2.1 _ _ hg))⟩) ?_ ?_⟩⟩
      · rintro i x σ H1 H2 hi ⟨⟨y2, y3, rfl⟩, sm, ok⟩ ⟨T1, x1, x2, rfl, hT, rfl, ea, eb⟩
        obtain ⟨dx, ed, hx⟩ := rpAll_get hxs (show xs[i]? = some x1 from ea)
        obtain ⟨z2, ez2, rfl⟩ := int_at (show (gs.map V.int)[i]? = some x2 from eb)
        have eg : gs.getD i 0 = z2 := by rw [List.getD_eq_getElem?_getD, ez2]; rfl
        have edd : ds.getD i .none = dx := by rw [List.getD_eq_getElem?_getD, ed]; rfl
        have s5 := sm.trans (same_upd (o := .tup [x1, .int z2]) hT)
        have hx' := hx.mono (Ex.same s5)
        have bad : isW 1 z2 dx = false → Q (.bl false) (upd H1 T1 (.tup [x1, .int z2])) := fun hb => by
          have z := q _ s5
          have ez : ((ds.zip gs).all fun p => isW 1 p.2 p.1) = false := by
            rw [List.all_eq_false]
            exact ⟨(dx, z2), List.mem_of_getElem? (List.getElem?_zip_eq_some.mpr ⟨ed, ez2⟩), by rw [hb]; simp⟩
          rw [ez] at z
          exact z
        refine ⟨T1, _, rfl, .inl (.inl upd_same), rfl, _, _, rfl, _, _, rfl, rfl, x1, rfl, x1, .ty "int", _, _, _, rfl, .ty "int", rp_ty hx', kit_ty (kit_int dx), _, rfl, ite2 (fun c2 => ?_) (fun c2 => ?_)⟩
        · refine bad ?_
          cases dx <;> first | rfl | (cases c2; done)
        refine ⟨x1, rfl, x1, .ty "bool", _, _, _, rfl, .ty "bool", rp_ty hx', kit_ty (kit_bool dx), _, rfl, ite2 (fun c3 => ?_) (fun c3 => ?_)⟩
        · refine bad ?_
          cases dx <;> first | rfl | (cases c3; done)
        obtain ⟨z, rfl⟩ : ∃ z, dx = .int z := by
          cases dx <;> first | exact ⟨_, rfl⟩ | exact absurd rfl c2 | exact absurd rfl c3
        obtain rfl := rp_int hx
        refine ⟨_, rfl, 1, z, rfl, rfl, _, rfl, ite2 (fun c4 => ⟨_, rfl, z, z2, rfl, rfl, _, rfl, ite2 (fun c5 => ?_) (fun c5 => ?_)⟩) (fun c4 => ⟨_, rfl, ?_⟩)⟩
        · refine bad ?_
          show (decide (1 ≤ z) && decide (z ≤ z2)) = false
          rw [not_yes c5, Bool.and_false]
        · refine ⟨⟨_, _, rfl⟩, s5, fun j hj => ?_⟩
          by_cases ej : j = i
          · rw [ej, eg, edd]
            show (decide (1 ≤ z) && decide (z ≤ z2)) = true
            rw [c4, not_no c5]
            rfl
          · exact ok j (by omega)
        · refine bad ?_
          show (decide (1 ≤ z) && decide (z ≤ z2)) = false
          rw [Bool.eq_false_iff.mpr c4, Bool.false_and]
      · rintro σ H1 ⟨⟨y2, y3, rfl⟩, sm, ok⟩
        have z := q _ sm
        have ez : ((ds.zip gs).all fun p => isW 1 p.2 p.1) = true := by
          rw [List.all_eq_true]
          intro x hx
          obtain ⟨i, hi, e⟩ := List.getElem_of_mem hx
          have e' : (ds.zip gs)[i]? = some x := by rw [List.getElem?_eq_getElem hi, e]
          obtain ⟨d', z'⟩ := x
          obtain ⟨h1, h2⟩ := List.getElem?_zip_eq_some.mp e'
          have hi' : i < gs.length := (List.getElem?_eq_some_iff.mp h2).1
          have z := ok i hi'
          rw [List.getD_eq_getElem?_getD, List.getD_eq_getElem?_getD, h1, h2] at z
          exact z
        rw [ez] at z
        exact z
theorem sc30 : FnScope ["frame", "spot", "lot", "k", "left"] ["frame", "spot", "lot"] (defScope (top 30)) := ⟨rfl, rfl, rfl, by decide +kernel, rfl, by decide +kernel, by decide +kernel⟩
theorem ok30 (T : TX P K mg) : FnOk P w K mg base C8.CX0 1 T.f30 T.d30 ["frame", "spot", "lot"] sp18 := by
  refine T.F30.ok sc30 (fun vs H Q E h => ?_) (fun cdv A outer s H vs Q E hr h => ?_)
  · obtain ⟨p, s, y, h, gs, ls, ns, rfl, _⟩ := h
    rfl
  · obtain ⟨p0, s0, y0, h, gs, ls, ns, rfl, ⟨p, g, rfl, hp, hg⟩, ⟨a, rfl, ha⟩, ⟨b, rfl, hb⟩, ll, few, q⟩ := h
    refine ⟨_, pss_one (ps_ret (pe_callTy call_tuple_of (by rfl) T.z_tuple boot_tuple (pa_cons (pe_lc (own := [("k", 3), ("left", 4)]) (g := gTup K 2 (gCons (gName 3) (gCons (gName 4) gNil))) (tt := tYes) rfl sc30.nd
            (pi_enT (by rfl) T.z_enumerate (pa_cons (pv 1) pa_nil)) (blkOk_by (N := ["frame", "spot", "lot", "k", "left"]) (sc := defScope (top 30)) (by decide +kernel))
            (fun _ _ _ _ _ => by exact (pg_tup rfl (pgs_cons (pg_name (i := 3) sc30.nd rfl (.inl rfl)) (pgs_cons (pg_name (i := 4) sc30.nd rfl (.inl rfl)) pgs_nil)))) (fun _ _ _ _ _ => pts_nil)
            (fun _ _ _ _ _ => by exact (pe_ifExp (pt_cmpR (r := rIn K false) op_in_seq (pv 3) (pv 2) (by with_unfolding_all rfl)) (pe_ix (r := rIxT K) ix_tup (pe_ix (r := rIxT K) ix_tup (pv 0) pe_int (fun _ _ => rfl)) (pv 3) (fun _ _ => rfl)) (pe_op op_sub (pv 4) pe_int)))) pa_nil))), ?_⟩
    refine ⟨.ref a, rfl, a, _, rfl, .inl (.inl ha), fun D hD => lc_mp (walk_enT (xs := ls.map V.int)) (fun i => .int (if ((i : Nat) : Int) ∈ ns then gs.getD i 0 else ls.getD i 0 - 1)) (by rw [List.length_map]; exact few) hD (fun H2 s2 => .inl (.inl (s2 _ _ ha))) (fun i x H2 H' Ky hi s2 hy ky => ?_) gPair_mono fun H3 s3 hL => ?_⟩
    · obtain ⟨T1, x1, x2, rfl, hT, rfl, ea, eb⟩ := hy
      obtain rfl : x1 = .int (i : Nat) := (Option.some.inj ea).symm
      obtain ⟨z, ez, rfl⟩ := int_at (show (ls.map V.int)[i]? = some x2 from eb)
      have eg : ls.getD i 0 = z := by rw [List.getD_eq_getElem?_getD, ez]; rfl
      have s5 := s2.trans (same_upd (o := .tup [V.int (i : Nat), V.int z]) hT)
      have hi' : i < gs.length := by
        rw [List.length_map] at hi
        omega
      refine ⟨T1, _, rfl, .inl (.inl upd_same), rfl, _, _, rfl, _, _, rfl, rfl, rfl, .int (i : Nat), rfl, .ref b, rfl, b, _, rfl, .inr (.inl (.inl (s5 _ _ hb))), rfl, flat_ints ns, _, rfl, ?_⟩
      show if inV (.int ((i : Nat) : Int)) (ns.map V.int) = true then _ else _
      rw [inV_ints]
      refine ite2 (fun c => ?_) (fun c => ?_)
      · have c' := of_decide_eq_true c
        refine ⟨.ref p, rfl, p, _, 1, .ref g, rfl, rfl, .inl (.inl (s5 _ _ hp)), atI_nat (j := 1) rfl, .int (i : Nat), rfl, g, _, (i : Nat), .int gs[i], rfl, rfl, .inl (.inl (s5 _ _ hg)), atI_nat (j := i) (by rw [List.getElem?_map, List.getElem?_eq_getElem hi']; rfl), ?_⟩
        refine ky _ _ ?_ (same_upd hT)
        rw [if_pos c', List.getD_eq_getElem?_getD, List.getElem?_eq_getElem hi']
        rfl
      · have c' : ¬ ((i : Nat) : Int) ∈ ns := fun z => c (decide_eq_true z)
        refine ⟨.int z, rfl, z, 1, rfl, rfl, ?_⟩
        refine ky _ _ ?_ (same_upd hT)
        rw [if_neg c', eg]
    · refine ⟨D, _, rfl, .inl ⟨.inl (.inl hL), fun t ht => q _ t (s3.trans (same_upd ht)) ?_⟩⟩
      rw [upd_same, nextOf, List.length_map, List.map_map]
      rfl
end
end OF
end
section
set_option Elab.async false
set_option linter.all false
set_option maxRecDepth 100000
set_option maxHeartbeats 4000000
/-! _law_right_lots -/
namespace OF
open PySem PySem.Spec PySem.Calls PyProof.Rows L2 OFx
def dueOf (ls : List Int) : List Int := ((List.range ls.length).filter fun i => decide (ls.getD i 0 = 1)).map fun i => ((i : Nat) : Int)
theorem filterMap_if {α β : Type} (p : α → Bool) (g : α → β) : ∀ l : List α, (l.filterMap fun i => if p i = true then some (g i) else none) = (l.filter p).map g
  | [] => rfl
  | n :: ns => by
    have ih := filterMap_if p g ns
    generalize hf : (fun i => if p i = true then some (g i) else none) = f
    have f0 : f n = if p n = true then some (g n) else none := by rw [← hf]
    rw [hf] at ih
    by_cases h : p n = true
    · rw [if_pos h] at f0
      rw [List.filterMap_cons_some f0, List.filter_cons_of_pos h, ih]
      rfl
    · rw [if_neg h] at f0
      rw [List.filterMap_cons_none f0, List.filter_cons_of_neg h, ih]
theorem law_due {ls ns : List Int} (h : ∀ x ∈ ls, 1 ≤ x) : decide (((dueOf ls).filter fun k => !decide (k ∈ ns)) = []) = hasDue ls ns := by
  rw [Bool.eq_iff_iff, decide_eq_true_eq, List.filter_eq_nil_iff]
  unfold hasDue dueOf
  rw [List.all_eq_true]
  constructor
  · intro a i hi
    rw [Bool.or_eq_true, decide_eq_true_eq, decide_eq_true_eq]
    by_cases e : ls.getD i 0 = 1
    · refine .inr ?_
      have z := a ((i : Nat) : Int) (List.mem_map.mpr ⟨i, List.mem_filter.mpr ⟨hi, decide_eq_true e⟩, rfl⟩)
      by_cases q : ((i : Nat) : Int) ∈ ns
      · exact q
      · rw [decide_eq_false q] at z
        exact absurd rfl z
    · refine .inl ?_
      have hi' := List.mem_range.mp hi
      have z := h ls[i] (List.getElem_mem hi')
      have eg : ls.getD i 0 = ls[i] := by rw [List.getD_eq_getElem?_getD, List.getElem?_eq_getElem hi']; rfl
      omega
  · intro a k hk
    obtain ⟨i, hi, rfl⟩ := List.mem_map.mp hk
    obtain ⟨hi1, hi2⟩ := List.mem_filter.mp hi
    have z := a i hi1
    rw [Bool.or_eq_true, decide_eq_true_eq, decide_eq_true_eq] at z
    have e := of_decide_eq_true hi2
    rcases z with z | z
    · omega
    · rw [decide_eq_true z]
      simp
section
variable {P : Program} {w : World} {K : PySem.W.Frag} {mg : Str → Option Value} {base : Heap}
def sp29 : Sp := fun vs H Q _ => ∃ p s h gs ls, vs = [p, s] ∧ Fr H p h gs ∧ PlanOk h gs ∧ IT H s ls ∧ (∀ x ∈ ls, 1 ≤ x) ∧ ls.length ≤ 1000 ∧ ∀ H' t ys, Same H H' → H' t = some (.tup ys) → ITs H' ys (dues h gs ls) → Q (.ref t) H'
theorem sc29 : FnScope ["frame", "spot", "due", "lots", "k", "left", "lot"] ["frame", "spot"] (defScope (top 29)) := ⟨rfl, rfl, rfl, by decide +kernel, rfl, by decide +kernel, by decide +kernel⟩
theorem ok29 (T : TX P K mg) : FnOk P w K mg base C8.CX0 2 T.f29 T.d29 ["frame", "spot"] sp29 := by
  refine T.F29.ok sc29 (fun vs H Q E h => ?_) (fun cdv A outer s H vs Q E hr h => ?_)
  · obtain ⟨p, s, h, gs, ls, rfl, _⟩ := h
    rfl
  · obtain ⟨p0, s0, h, gs, ls, rfl, ⟨p, g, rfl, hp, hg⟩, ok, ⟨a, rfl, ha⟩, pos, few, q⟩ := h
    have G26 : FnOk P w K mg base C8.CX0 1 T.f26 T.d26 ["hands", "many"] sp12 := ok26 T
    have hu : (A.deeper (envOfC "_law_right_lots" (defScope (top 29)) s.heap.objs.size T.f29 cdv)).units + 64 < cLine := by
      have := hr.un
      omega
    refine ⟨_, pss_cons (ps_set (i := 2) sc29.nd rfl (.inr rfl) (pe_lc (own := [("k", 4), ("left", 5)]) (g := gTup K 2 (gCons (gName 4) (gCons (gName 5) gNil))) rfl sc29.nd
            (pi_enT (by rfl) T.z_enumerate (pa_cons (pv 1) pa_nil)) (blkOk_by (N := ["frame", "spot", "due", "lots", "k", "left", "lot"]) (sc := defScope (top 29)) (by decide +kernel))
            (fun _ _ _ _ _ => by exact (pg_tup rfl (pgs_cons (pg_name (i := 4) sc29.nd rfl (.inl rfl)) (pgs_cons (pg_name (i := 5) sc29.nd rfl (.inl rfl)) pgs_nil)))) (fun _ _ _ _ _ => by exact (pts_one (pt_cmpR op_eq (pv 5) pe_int (nomark _))))
            (fun _ _ _ _ _ => by exact (pv 4))))
      (pss_cons (ps_set (i := 3) sc29.nd rfl (.inl rfl) (pe_callN G26 hr (by rfl) T.g26 T.F26.kp T.b26 (by exact (pa_cons (pe_ix ix_tup (pv 0) pe_int (fun _ _ => rfl)) (pa_cons (pe_callB cr_len (by rfl) T.z_len boot_len (pa_cons (pe_ix ix_tup (pv 0) pe_int (fun _ _ => rfl)) pa_nil)) pa_nil)))))
      (pss_one (ps_ret (pe_callTy call_tuple_of (by rfl) T.z_tuple boot_tuple (pa_cons (pe_lc (own := [("lot", 6)]) (g := gName 6) rfl sc29.nd
            (pi_list (pv 3)) (blkOk_by (N := ["frame", "spot", "due", "lots", "k", "left", "lot"]) (sc := defScope (top 29)) (by decide +kernel))
            (fun _ _ _ _ _ => pg_name (i := 6) sc29.nd rfl (.inr rfl))
            (fun _ _ C cl _ => by exact (pts_one (pt_cmpR (r := rEqD K) (op_eqD hu) (pe_lc (own := [("k", 4)]) (g := gName 4) (wi := iList K (tVar 2)) (te := tVar 4) (tt := tTest (tOp (rIn K true) (tVar 4) (tVar 6))) rfl sc29.nd (pi_list (pv 2)) (blkOk_by (N := ["frame", "spot", "due", "lots", "k", "left", "lot"]) (sc := { kind := .function, names := [(PySem.Str.ofString ".0", .local), (PySem.Str.ofString "lot", .cell), (PySem.Str.ofString "due", .cell)], isGenerator := false, isCoroutine := false }) (by decide +kernel))
                (fun _ _ _ _ _ => pg_name (i := 4) sc29.nd rfl (.inl rfl)) (fun _ _ _ _ _ => by exact (pts_one (pt_cmpR (r := rIn K true) op_notIn_seq (pv 4) (pv 6) (by with_unfolding_all rfl)))) (fun _ _ _ _ _ => by exact (pv 4)))
              (pe_lst pa_nil) (nomark _))))
            (fun _ _ _ _ _ => by exact (pv 6))) pa_nil))))), ?_⟩
    -- due = [..]
    refine ⟨.ref a, rfl, a, _, rfl, .inl (.inl ha), fun D hD => lc_fm (walk_enT (xs := ls.map V.int)) (fun i => if decide (ls.getD i 0 = 1) = true then some (.int ((i : Nat) : Int)) else none) (by rw [List.length_map]; exact few) hD (fun H2 s2 => .inl (.inl (s2 _ _ ha))) (fun i x H2 H' Ky Kn hi s2 hy ky kn => ?_) fun H1 s1 hL => ?_⟩
    · obtain ⟨T1, x1, x2, rfl, hT, rfl, ea, eb⟩ := hy
      obtain rfl : x1 = .int (i : Nat) := (Option.some.inj ea).symm
      obtain ⟨z, ez, rfl⟩ := int_at (show (ls.map V.int)[i]? = some x2 from eb)
      have eg : ls.getD i 0 = z := by rw [List.getD_eq_getElem?_getD, ez]; rfl
      refine ⟨T1, _, rfl, .inl (.inl upd_same), rfl, _, _, rfl, _, _, rfl, rfl, rfl, .int z, rfl, rfl, _, rfl, ite2 (fun c => ?_) (fun c => ?_)⟩
      · have c' : z = 1 := V.int.inj (of_decide_eq_true c)
        refine ⟨.int (i : Nat), rfl, ky _ _ ?_ (same_upd hT)⟩
        rw [eg, if_pos (decide_eq_true c')]
      · have c' : ¬ z = 1 := fun e => c (decide_eq_true (by rw [e]))
        refine kn _ ?_ (same_upd hT)
        rw [eg, if_neg (by rw [decide_eq_true_eq]; exact c')]
    rw [List.length_map, filterMap_if] at hL
    have eD : H1 D = some (.lst ((dueOf ls).map V.int)) := by
      rw [hL, dueOf, List.map_map]
      rfl
    have fewD : (dueOf ls).length ≤ 1000 := by
      unfold dueOf
      rw [List.length_map]
      refine Nat.le_trans (List.length_filter_le _ _) ?_
      rw [List.length_range]
      exact few
    -- lots = _law_lots(..)
    have hp1 := s1 _ _ hp
    have hg1 := s1 _ _ hg
    refine ⟨.ref p, rfl, p, _, 0, .int h, rfl, rfl, .inl (.inl hp1), atI_nat (j := 0) rfl, .ref p, rfl, p, _, 1, .ref g, rfl, rfl, .inl (.inl hp1), atI_nat (j := 1) rfl, g, _, rfl, .inr (.inl (.inl hg1)), h.toNat, gs.length, ?_, ok.hn, fun H2 l xs s2 hl hL2 iL => ?_⟩
    · rw [List.length_map, ok.nat]
    have ll : xs.length ≤ 100 := by
      rw [paired_len iL]
      exact lots_le ok.hn
    have eD2 := s2 _ _ eD
    refine ⟨.ref l, rfl, l, rfl, ⟨xs, .inl (.inl hL2)⟩, fun D2 hD2 => lc_fm (walk_list (xs := xs)) (fun i => if decide (((dueOf ls).filter fun k => !decide (k ∈ (lots h.toNat gs.length).getD i [])) = []) = true then xs[i]? else none) (by omega) hD2 (fun H3 s3 => .inl (.inl (s3 _ _ hL2))) (fun i x H3 H' Ky Kn hi s3 hy ky kn => ?_) fun H3 s3 hL3 => ?_⟩
    · obtain ⟨rfl, ex⟩ := hy
      obtain ⟨d, ed, ⟨td, rfl, htd⟩⟩ := L2.paired_get iL ex
      have eg : (lots h.toNat gs.length).getD i [] = d := by rw [List.getD_eq_getElem?_getD, ed]; rfl
      have eD3 := s3 _ _ eD2
      refine ⟨rfl, .ref D, rfl, D, rfl, ⟨_, .inl (.inl eD3)⟩, fun D3 hD3 => lc_fm (walk_list (xs := (dueOf ls).map V.int)) (fun j => if (!decide ((dueOf ls).getD j 0 ∈ d)) = true then some (.int ((dueOf ls).getD j 0)) else none) (by rw [List.length_map]; exact fewD) hD3 (fun H4 s4 => .inl (.inl (s4 _ _ eD3))) (fun j y H4 H5 Ky2 Kn2 hj s4 hy2 ky2 kn2 => ?_) fun H4 s4 hL4 => ?_⟩
      · obtain ⟨rfl, ey⟩ := hy2
        obtain ⟨z, ez, rfl⟩ := int_at ey
        have eg2 : (dueOf ls).getD j 0 = z := by rw [List.getD_eq_getElem?_getD, ez]; rfl
        refine ⟨rfl, .int z, rfl, .ref td, rfl, td, _, rfl, .inr (.inl (.inl (s4 _ _ (s3 _ _ htd)))), rfl, flat_ints d, _, rfl, ?_⟩
        show if (!inV (.int z) (d.map V.int)) = true then _ else _
        rw [inV_ints]
        refine ite2 (fun c => ?_) (fun c => ?_)
        · refine ⟨.int z, rfl, ky2 _ _ ?_ (Same.refl _)⟩
          rw [eg2, if_pos c]
        · refine kn2 _ ?_ (Same.refl _)
          rw [eg2, if_neg c]
      · rw [List.length_map] at hL4
        replace hL4 := hL4.trans (congrArg (fun l => some (HO.lst l)) (ints_filter (fun k => !decide (k ∈ d)) (dueOf ls)))
        refine ⟨Nat.zero_le _, fun e0 he0 => ?_⟩
        have s5 := same_upd (o := .lst []) he0
        refine ⟨.list (((dueOf ls).filter fun k => !decide (k ∈ d)).map PyData.int), .list [], .lst (.inl (.inl (s5 _ _ hL4))) (dp_ints _), .lst (.inl (.inl upd_same)) .nil, shaped_lD _, shaped_lD [], _, rfl, ?_⟩
        have eq : PyData.eqv (.list (((dueOf ls).filter fun k => !decide (k ∈ d)).map PyData.int)) (.list []) = decide (((dueOf ls).filter fun k => !decide (k ∈ d)) = []) := eqv_ints _ []
        rw [eq]
        refine ite2 (fun c => ?_) (fun c => ?_)
        · refine ⟨.ref td, rfl, ky _ _ ?_ (s4.trans s5)⟩
          rw [eg, if_pos c, ex]
        · refine kn _ ?_ (s4.trans s5)
          rw [eg, if_neg c]
    · have ef : (fun i => if decide (((dueOf ls).filter fun k => !decide (k ∈ (lots h.toNat gs.length).getD i [])) = []) = true then xs[i]? else none) = fun i => if hasDue ls ((lots h.toNat gs.length).getD i []) = true then xs[i]? else none := funext fun i => by rw [law_due pos]
      rw [ef] at hL3
      exact ⟨D2, _, rfl, .inl ⟨.inl (.inl hL3), fun t ht => q _ t _ (s1.trans (s2.trans (s3.trans (same_upd ht)))) upd_same (ITs.mono (Ex.upd ht) (its_filter (hasDue ls) (ITs.mono (Ex.same s3) iL)))⟩⟩
end
end OF
end
section
set_option Elab.async false
set_option linter.all false
set_option maxRecDepth 100000
set_option maxHeartbeats 4000000
/-! Displays that make data while the heap grows. -/
namespace OFx
open PySem PySem.Spec PySem.Calls PyProof.Rows L2
/-- the reading te gives the data d, from H on -/
def Mk (te : TE) (d : PyData) (σ : L2.St) (H : Hp) : Prop := ∀ H1, Same H H1 → ∀ Q : VK, (∀ v H', Same H1 H' → Rp H' v d → Q v H') → te σ H1 Q
def MkA (t : TA) (ds : List PyData) (σ : L2.St) (H : Hp) : Prop := ∀ H1, Same H H1 → ∀ Q : List V → Hp → Prop, (∀ vs H', Same H1 H' → RpAll H' vs ds → Q vs H') → t σ H1 Q
section
variable {te : TE} {t : TA} {d : PyData} {ds : List PyData} {σ : L2.St} {H H' : Hp}
theorem Mk.mono (m : Mk te d σ H) (s : Same H H') : Mk te d σ H' := fun H1 s1 Q q => m H1 (s.trans s1) Q q
theorem MkA.mono (m : MkA t ds σ H) (s : Same H H') : MkA t ds σ H' := fun H1 s1 Q q => m H1 (s.trans s1) Q q
theorem mk_con {v : V} (r : ∀ H, Rp H v d) : Mk (tC v) d σ H := fun H1 _ Q q => q v H1 (Same.refl _) (r H1)
theorem mk_non : Mk (tC .non) .none σ H := mk_con fun _ => .non
theorem mk_bl {b : Bool} : Mk (tC (.bl b)) (.bool b) σ H := mk_con fun _ => .bl b
theorem mk_int {i : Int} : Mk (tC (.int i)) (.int i) σ H := mk_con fun _ => .int i
theorem mk_str {x : Str} : Mk (tC (.str x)) (.str x) σ H := mk_con fun _ => .str x
theorem mk_var {i : Nat} {v : V} (e : σ[i]? = some (some v)) (r : Rp H v d) : Mk (tVar i) d σ H := fun H1 s1 Q q => ⟨v, e, q v H1 (Same.refl _) (r.mono (Ex.same s1))⟩
theorem mk_nil : MkA tNil [] σ H := fun H1 _ Q q => q [] H1 (Same.refl _) .nil
theorem mk_cons (a : Mk te d σ H) (b : MkA t ds σ H) : MkA (tCons te t) (d :: ds) σ H := fun H1 s1 Q q =>
  a H1 s1 _ fun v H2 s2 r => b H2 (s1.trans s2) _ fun vs H3 s3 rs => q (v :: vs) H3 (s2.trans s3) (.cons (r.mono (Ex.same s3)) rs)
theorem rpA_len : ∀ {xs : List V} {ds : List PyData}, RpAll H xs ds → xs.length = ds.length
  | _, _, .nil => rfl
  | _, _, .cons _ t => by rw [List.length_cons, List.length_cons, rpA_len t]
theorem le_line {n : Nat} (h : n ≤ 1000) : n ≤ sizeLine := by
  rw [sizeLine_eq]
  omega
theorem mk_tup (a : MkA t ds σ H) (hl : ds.length ≤ 1000) : Mk (tTup t) (.tuple ds) σ H := fun H1 s1 Q q =>
  a H1 s1 _ fun vs H2 s2 r => ⟨le_line (by rw [rpA_len r]; exact hl), fun p hp => q (.ref p) _ (s2.trans (same_upd hp)) (.tup upd_same (r.mono (Ex.upd hp)))⟩
theorem mk_lst (a : MkA t ds σ H) (hl : ds.length ≤ 1000) : Mk (tLstN t) (.list ds) σ H := fun H1 s1 Q q =>
  a H1 s1 _ fun vs H2 s2 r => ⟨le_line (by rw [rpA_len r]; exact hl), fun p hp hs => q (.ref p) _ (s2.trans (same_upd hp)) (.lst upd_same hs (r.mono (Ex.upd hp)))⟩
theorem mk_dict : Mk tDNewK (.dict []) σ H := fun H1 _ Q q => fun p hp => q (.ref p) _ (same_upd hp) (.mt upd_same)
theorem mk_neg {i : Int} : Mk (tUn (rU fun i => .int (-i)) (tC (.int i))) (.int (-i)) σ H := fun H1 _ Q q => ⟨i, rfl, q _ H1 (Same.refl _) (.int _)⟩
end
/-- x = e, then the rest -/
theorem in_set {te : TE} {i : Nat} {u : TS} {D : Ends} {σ : L2.St} {H : Hp} (h : te σ H fun x H1 => u D (σ.set i (some x)) H1) : tSeq (tAsg te (gName i)) u D σ H := h
theorem in_cons {te : TE} {t : TA} {σ : L2.St} {H : Hp} {Q : List V → Hp → Prop} (h : te σ H fun x H1 => t σ H1 fun xs H2 => Q (x :: xs) H2) : tCons te t σ H Q := h
end OFx
end
section
set_option Elab.async false
set_option linter.all false
set_option maxRecDepth 100000
set_option maxHeartbeats 4000000
/-! _law_any -/
namespace OF
open PySem PySem.Spec PySem.Calls PyProof.Rows L2 OFx
theorem rgV_rng (n : Int) : rgV 0 n = (rng 0 n).map V.int := by
  unfold rgV rng
  rw [List.map_map]
  rfl
theorem mk_rg {te : TE} {n : Int} {σ : L2.St} {H : Hp} (m : Mk te (.int n) σ H) (h0 : 0 ≤ n) (h1 : n ≤ 1000) : Mk (tTupRg (tRg1 te)) (tD (rng 0 n)) σ H := fun H1 s1 Q q =>
  m H1 s1 _ fun v H2 s2 r => ⟨n, rp_int r, RgOk.of_le (Int.le_refl _) (by omega) (by omega) h0, fun p hp => by
    rw [rgV_rng]
    exact q (.ref p) _ (s2.trans (same_upd hp)) (.tup upd_same (rpAll_ints _))⟩
theorem rpAll_append {H : Hp} : ∀ {a c : List V} {b d : List PyData}, RpAll H a b → RpAll H c d → RpAll H (a ++ c) (b ++ d)
  | _, _, _, _, .nil, q => q
  | _, _, _, _, .cons x r, q => .cons x (rpAll_append r q)
def rMin : List V → Hp → VK → Prop := fun xs H Q => ∃ i j, xs = [.int i, .int j] ∧ Q (.int (if j < i then j else i)) H
theorem cr_min {X : Cx} (hc : X.calm = true) : CallR X (.builtin "min") rMin := call_min2 hc
theorem mk_min {t : TA} {i j : Int} {σ : L2.St} {H : Hp} (m : MkA t [.int i, .int j] σ H) : Mk (tCB rMin t) (.int (if j < i then j else i)) σ H := fun H1 s1 Q q =>
  m H1 s1 _ fun vs H2 s2 r => by
    cases r with
    | cons a b => cases b with
      | cons b c =>
        cases c
        rw [rp_int a, rp_int b]
        exact ⟨i, j, rfl, q _ _ s2 (.int _)⟩
theorem mk_add {te : TE} {i j : Int} {σ : L2.St} {H : Hp} (m : Mk te (.int i) σ H) : Mk (tOp (rI0 fun i j => .int (i + j)) te (tC (.int j))) (.int (i + j)) σ H := fun H1 s1 Q q =>
  m H1 s1 _ fun v H2 s2 r => ⟨i, j, rp_int r, rfl, q _ _ s2 (.int _)⟩
/-- the law's values that are no day, and some that are -/
def menu (n : Int) (a b : List Int) : List PyData :=
  [.none, .str "", .list [.int 0], .list [], .dict [], .int 0, .tuple [.bool true], tD [0, 0], tD [1, 0], tD [n], tD [-1], .tuple [.int 0, .none], tD (rng 0 (n + 1))] ++ [tD a, tD b, tD (rng 0 (if n < 4 then n else 4)), .tuple [tD []]]
theorem mk_D1 {te : TE} {x : Int} {σ : L2.St} {H : Hp} (a : Mk te (.int x) σ H) : Mk (tTup (tCons te tNil)) (tD [x]) σ H := mk_tup (mk_cons a mk_nil) (by show 1 ≤ 1000; decide)
/-- the thirteen of them that are written down -/
def t31 : TA := tCons (tC .non) (tCons (tC (.str "")) (tCons (tLstN (tCons (tC (.int 0)) tNil)) (tCons (tLstN tNil) (tCons tDNewK (tCons (tC (.int 0)) (tCons (tTup (tCons (tC (.bl true)) tNil)) (tCons (tTup (tCons (tC (.int 0)) (tCons (tC (.int 0)) tNil)))
  (tCons (tTup (tCons (tC (.int 1)) (tCons (tC (.int 0)) tNil))) (tCons (tTup (tCons (tVar 3) tNil)) (tCons (tTup (tCons (tUn (rU fun i => .int (-i)) (tC (.int 1))) tNil)) (tCons (tTup (tCons (tC (.int 0)) (tCons (tC .non) tNil))) (tCons (tTupRg (tRg1 (tOp (rI0 fun i j => .int (i + j)) (tVar 3) (tC (.int 1))))) tNil))))))))))))
def d31 (n : Int) : List PyData := [.none, .str "", .list [.int 0], .list [], .dict [], .int 0, .tuple [.bool true], tD [0, 0], tD [1, 0], tD [n], tD [-1], .tuple [.int 0, .none], tD (rng 0 (n + 1))]
theorem mk_31 {n : Int} {σ : L2.St} {H : Hp} (e : σ[3]? = some (some (.int n))) (h0 : 0 ≤ n) (h1 : n ≤ 8) : Mk (tLstN t31) (.list (d31 n)) σ H := by
  have v : Mk (tVar 3) (.int n) σ H := mk_var e (.int n)
  refine mk_lst (ds := d31 n) ?_ (by show 13 ≤ 1000; decide)
  exact mk_cons mk_non (mk_cons mk_str (mk_cons (mk_lst (mk_cons mk_int mk_nil) (by show 1 ≤ 1000; decide)) (mk_cons (mk_lst mk_nil (by show 0 ≤ 1000; decide)) (mk_cons mk_dict (mk_cons mk_int (mk_cons (mk_tup (mk_cons mk_bl mk_nil) (by show 1 ≤ 1000; decide))
      (mk_cons (mk_tup (ds := [.int 0, .int 0]) (mk_cons mk_int (mk_cons mk_int mk_nil)) (by show 2 ≤ 1000; decide)) (mk_cons (mk_tup (ds := [.int 1, .int 0]) (mk_cons mk_int (mk_cons mk_int mk_nil)) (by show 2 ≤ 1000; decide)) (mk_cons (mk_D1 v) (mk_cons (mk_D1 mk_neg)
      (mk_cons (mk_tup (mk_cons mk_int (mk_cons mk_non mk_nil)) (by show 2 ≤ 1000; decide)) (mk_cons (mk_rg (mk_add v) (by omega) (by omega)) mk_nil))))))))))))
def t31b : TA := tCons (tTupRg (tRg1 (tCB rMin (tCons (tC (.int 4)) (tCons (tVar 3) tNil))))) (tCons (tTup (tCons (tTup tNil) tNil)) tNil)
theorem mk_31b {n : Int} {σ : L2.St} {H : Hp} (e : σ[3]? = some (some (.int n))) (h0 : 0 ≤ n) (h1 : n ≤ 8) : MkA t31b [tD (rng 0 (if n < 4 then n else 4)), .tuple [tD []]] σ H := by
  have v : Mk (tVar 3) (.int n) σ H := mk_var e (.int n)
  exact mk_cons (mk_rg (mk_min (mk_cons mk_int (mk_cons v mk_nil))) (by split <;> omega) (by split <;> omega)) (mk_cons (mk_tup (mk_cons (mk_tup (ds := []) mk_nil (by show 0 ≤ 1000; decide)) mk_nil) (by show 1 ≤ 1000; decide)) mk_nil)
section
variable {P : Program} {w : World} {K : PySem.W.Frag} {mg : Str → Option Value} {base : Heap}
def sp31 : Sp := fun vs H Q _ => ∃ (m : Addr) (p : V) (h : Int) (gs : List Int) (B : Nat), vs = [.ref m, p] ∧ MI m B H ∧ B + 3 ≤ 1000000 ∧ Fr H p h gs ∧ PlanOk h gs ∧
  ∀ H' x d a b, a ∈ lots h.toNat gs.length → b ∈ lots h.toNat gs.length → d ∈ menu (gs.length : Nat) a b → Rp H' x d → Sd m H H' → MI m (B + 3) H' → Q x H'
theorem sc31 : FnScope ["m", "frame", "lots", "total", "some"] ["m", "frame"] (defScope (top 31)) := ⟨rfl, rfl, rfl, by decide +kernel, rfl, by decide +kernel, by decide +kernel⟩
theorem ok31 (T : TX P K mg) : FnOk P w K mg base C8.CX0 3 T.f31 T.d31 ["m", "frame"] sp31 := by
  refine T.F31.ok sc31 (fun vs H Q E h => ?_) (fun cdv A outer s H vs Q E hr h => ?_)
  · obtain ⟨m, p, h, gs, B, rfl, _⟩ := h
    rfl
  · obtain ⟨m, p0, h, gs, B, rfl, hm, hB, ⟨p, g, rfl, hp, hg⟩, ok, q⟩ := h
    have G26 : FnOk P w K mg base C8.CX0 1 T.f26 T.d26 ["hands", "many"] sp12 := ok26 T
    have G25 : FnOk P w K mg base C8.CX0 2 T.f25 T.d25 ["m", "some"] sp25 := ok25 T
    refine ⟨_, pss_cons (ps_par (i := 2) (j := 3) rfl sc31.nd rfl rfl (by decide) rfl rfl (pa_cons (pe_callN G26 (hr.mono (by decide)) (by rfl) T.g26 T.F26.kp T.b26 (by exact (pa_cons (pe_ix ix_tup (pv 1) pe_int (fun _ _ => rfl)) (pa_cons (pe_callB cr_len (by rfl) T.z_len boot_len (pa_cons (pe_ix ix_tup (pv 1) pe_int (fun _ _ => rfl)) pa_nil)) pa_nil))))
          (pa_cons (pe_callB cr_len (by rfl) T.z_len boot_len (pa_cons (pe_ix ix_tup (pv 1) pe_int (fun _ _ => rfl)) pa_nil)) pa_nil)) (by with_unfolding_all rfl))
      (pss_cons (ps_set (i := 4) sc31.nd rfl (.inl rfl) (pe_lstN (t := t31) (by exact (pa_cons pe_non (pa_cons pe_str (pa_cons (pe_lstN (pa_cons pe_int pa_nil)) (pa_cons (pe_lstN pa_nil) (pa_cons pe_dnewK (pa_cons pe_int
          (pa_cons (pe_tup (pa_cons pe_bl pa_nil)) (pa_cons (pe_tup (pa_cons pe_int (pa_cons pe_int pa_nil))) (pa_cons (pe_tup (pa_cons pe_int (pa_cons pe_int pa_nil))) (pa_cons (pe_tup (pa_cons (pv 3) pa_nil)) (pa_cons (pe_tup (pa_cons (pe_un un_neg pe_int) pa_nil))
          (pa_cons (pe_tup (pa_cons pe_int (pa_cons pe_non pa_nil))) (pa_cons (pe_tupRg rfl (by rfl) T.z_tuple (prg_1 (by rfl) T.z_range (pe_op op_add (pv 3) pe_int))) pa_nil))))))))))))))))
      (pss_one (ps_ret (pe_callN G25 hr (by rfl) T.g25 T.F25.kp T.b25 (by exact (pa_cons (pv 0) (pa_cons (pe_op op_cat (pv 4) (pe_lst (pa_cons (pe_callN G25 hr (by rfl) T.g25 T.F25.kp T.b25 (pa_cons (pv 0) (pa_cons (pv 2) pa_nil))) (pa_cons (pe_callN G25 hr (by rfl) T.g25 T.F25.kp T.b25 (pa_cons (pv 0) (pa_cons (pv 2) pa_nil)))
          (show PA _ _ t31b from (pa_cons (pe_tupRg rfl (by rfl) T.z_tuple (prg_1 (by rfl) T.z_range (pe_callB (cr_min rfl) (by rfl) T.z_min boot_min (pa_cons pe_int (pa_cons (pv 3) pa_nil))))) (pa_cons (pe_tup (pa_cons (pe_tup pa_nil) pa_nil)) pa_nil))))))) pa_nil))))))), ?_⟩
    -- lots, total
    refine ⟨.ref p, rfl, p, _, 0, .int h, rfl, rfl, .inl (.inl hp), atI_nat (j := 0) rfl, .ref p, rfl, p, _, 1, .ref g, rfl, rfl, .inl (.inl hp), atI_nat (j := 1) rfl, g, _, rfl, .inr (.inl (.inl hg)), h.toNat, gs.length, ?_, ok.hn, fun H1 l xs s1 hl hL iL => ?_⟩
    · rw [List.length_map, ok.nat]
    refine ⟨.ref p, rfl, p, _, 1, .ref g, rfl, rfl, .inl (.inl (s1 _ _ hp)), atI_nat (j := 1) rfl, g, _, rfl, .inr (.inl (.inl (s1 _ _ hg))), _, _, rfl, ?_⟩
    rw [List.length_map]
    have n8 := ok.2.2
    have hm1 := hm.same s1
    have bdn : ((gs.length : Nat) : Int) ≤ 8 := by omega
    -- some = [..]
    dsimp only
    refine in_set ?_
    refine mk_31 (n := (gs.length : Nat)) rfl (by omega) bdn H1 (Same.refl _) _ fun v H2 s2 r2 => ?_
    cases r2 with
    | @lst S xs13 ds13 hS _ r13 =>
    have l13 : xs13.length = 13 := rpA_len r13
    have hm2 := hm1.same s2
    have hL2 := s2 _ _ hL
    have lx : xs.length ≤ 100 := by
      rw [paired_len iL]
      exact lots_le ok.hn
    have xne : xs ≠ [] := fun e => by
      obtain ⟨r, er⟩ := layers_first ((gs.length : Nat) : Int) h.toNat
      have z1 := paired_len iL
      have z2 := (isort_perm (layersN ((gs.length : Nat) : Int) h.toNat).1).length_eq
      have z3 : (lots h.toNat gs.length).length = (isort (layersN ((gs.length : Nat) : Int) h.toNat).1).length := rfl
      rw [er] at z2
      rw [e, z3, er] at z1
      rw [List.length_cons] at z2
      have z4 : ([] : List V).length = 0 := rfl
      omega
    refine ⟨.ref m, rfl, .ref S, rfl, .ref m, rfl, .ref l, rfl, m, l, xs, B, rfl, hm2, by omega, hL2, xne, by omega, fun H3 j1 x1 ex1 d3 hm3 => ?_⟩
    have hL3 := d3 _ _ (hm2.ne hL2) hL2
    refine ⟨.ref m, rfl, .ref l, rfl, m, l, xs, B + 1, rfl, hm3, by omega, hL3, xne, by omega, fun H4 j2 x2 ex2 d4 hm4 => ?_⟩
    refine mk_31b (n := (gs.length : Nat)) rfl (by omega) bdn H4 (Same.refl _) _ fun vs H5 s5 r5 => ?_
    have l5 : vs.length = 2 := rpA_len r5
    refine ⟨fits (by show vs.length + 1 + 1 ≤ 1000; omega), fun L hLf => ?_⟩
    have s6 := same_upd (o := .lst (x1 :: x2 :: vs)) hLf
    have hS3 := d3 _ _ (hm2.ne hS) hS
    have hS4 := d4 _ _ (hm3.ne hS3) hS3
    have hS6 := s6 _ _ (s5 _ _ hS4)
    refine ⟨S, L, xs13, x1 :: x2 :: vs, rfl, rfl, hS6, upd_same, fits (by show xs13.length + (vs.length + 1 + 1) ≤ 1000; omega), fun C hC => ?_⟩
    have s7 := same_upd (o := .lst (xs13 ++ x1 :: x2 :: vs)) hC
    have hm7 := ((hm4.same s5).same s6).same s7
    obtain ⟨a, ea, ia⟩ := L2.paired_get iL ex1
    obtain ⟨b, eb, ib⟩ := L2.paired_get iL ex2
    have e23 := hm2.ex d3
    have e34 := hm3.ex d4
    have e27 : Ex H2 (upd (upd H5 L (.lst (x1 :: x2 :: vs))) C (.lst (xs13 ++ x1 :: x2 :: vs))) := e23.trans (e34.trans (Ex.same (s5.trans (s6.trans s7))))
    have all : RpAll (upd (upd H5 L (.lst (x1 :: x2 :: vs))) C (.lst (xs13 ++ x1 :: x2 :: vs))) (xs13 ++ x1 :: x2 :: vs) (d31 (gs.length : Nat) ++ [tD a, tD b, tD (rng 0 (if ((gs.length : Nat) : Int) < 4 then ((gs.length : Nat) : Int) else 4)), .tuple [tD []]]) := by
      refine rpAll_append (r13.mono e27) (.cons ((ia.mono ((Ex.same s2).trans e27)).rp) (.cons ((ib.mono ((Ex.same s2).trans e27)).rp) (r5.mono (Ex.same (s6.trans s7)))))
    refine ⟨m, C, _, B + 2, rfl, hm7, by omega, upd_same, by simp, ?_, fun H8 j x ex d8 hm8 => ?_⟩
    · rw [List.length_append]
      show xs13.length + (vs.length + 1 + 1) ≤ 1000
      omega
    · obtain ⟨d, ed, rd⟩ := rpAll_get all ex
      refine q H8 x d a b (List.mem_of_getElem? ea) (List.mem_of_getElem? eb) (List.mem_of_getElem? ed) (rd.mono (hm7.ex d8)) ?_ hm8
      exact (Sd.same (s1.trans s2)).trans (d3.trans (d4.trans ((Sd.same (s5.trans (s6.trans s7))).trans d8)))
end
end OF
end
section
set_option Elab.async false
set_option linter.all false
set_option maxRecDepth 100000
set_option maxHeartbeats 4000000
/-! _law_said(lambda: ..), and what it tells as data -/
namespace OF
open PySem PySem.Spec PySem.Calls PyProof.Rows L2 OFx
def saidL (CS CD CP : Addr) : List (Value × Str × Str) := [(.ref CS, "standing", "value"), (.ref CD, "day", "value"), (.ref CP, "plan", "place")]
theorem XT.xf {prog : Program} {K : PySem.W.Frag} {mg : Str → Option Value} {nm fld : Str} {C fI : Addr} (x : XT prog K mg nm fld C fI) : XfC K C := ⟨x.ga, x.gg, x.exC, x.hdC⟩
section
variable {X : Cx}
theorem pe_said {Ts : List (Addr × Str)} {c P : Addr} {k : Nat} {df : Option Int} {params : Arguments} {body : Expr} {scope : Scope} {t : XK → TE} {p lpos pos : Pos} (T : TX X.prog X.K X.mg) (hg : Gl X "_law_said")
    (TB : LamX.TabB X.base X.mg c P) (hcode : X.env.code = .ref c) (hmT : (P, X.env.qual ++ "<lambda>") ∈ Ts) (hu : ∀ p ∈ Ts, p.1 = P → p.2 = X.env.qual ++ "<lambda>") (hr : Room (k + 2) X.A) (L : LmS X.N X.env.scope scope) (hdef : Dfl df params X.env) (hkw : params.kwonlyargs = [])
    (hbind : Bnd df params scope)
    (hbody : ∀ (A : Around) (outer : List Env) (s : Shared) (H : Hp) (E : XK) (f c' : Addr), Room k (A.deeper (LamX.lamEnv X scope s.heap.objs.size f c')) → PE (LamX.lamCx X A outer s H E scope f c') body (t E)) :
    PE X (.Call (.Name "_law_said" p) [.Lambda params body scope lpos] [] pos) (LamX.tLam Ts (TTsaid X.K (saidL T.CS T.CD T.CP)) t) := by
  obtain ⟨oc, od, kV, doc, pm, an, cdv, ct, osl, e, lk, hcd⟩ := T.F27.ex
  have b := T.b27
  rw [e] at lk b
  exact pe_give (df := df) hg T.g27 T.F27.kp lk hcd b sc27 rfl (.inl rfl) (said_gets T.xS.gC T.xD.gC T.xP.gC (XT.xf T.xS) (XT.xf T.xD) (XT.xf T.xP) T.xS.noN T.xD.noN T.xP.noN) TB hcode hmT hu hr L hdef hkw hbind hbody
end
section
variable {P : Program} {K : PySem.W.Frag} {mg : Str → Option Value}
theorem said_S (T : TX P K mg) {Q : VK} {H : Hp} {d : Addr} {v : V} (hd : H d = none) (q : ∀ t, upd H d (.xd [(("value" : Str), v)]) t = none → Q (.ref t) (upd (upd H d (.xd [(("value" : Str), v)])) t (.tup [.str "standing", v]))) :
    saidW K Q (saidL T.CS T.CD T.CP) (.ref T.CS) (some d) (upd H d (.xd [(("value" : Str), v)])) :=
  ⟨true, T.eSS, fun _ => ⟨rfl, d, _, v, rfl, upd_same, by simp [List.lookup], q⟩, fun z => by cases z⟩
theorem said_D (T : TX P K mg) {Q : VK} {H : Hp} {d : Addr} {v : V} (hd : H d = none) (q : ∀ t, upd H d (.xd [(("value" : Str), v)]) t = none → Q (.ref t) (upd (upd H d (.xd [(("value" : Str), v)])) t (.tup [.str "day", v]))) :
    saidW K Q (saidL T.CS T.CD T.CP) (.ref T.CD) (some d) (upd H d (.xd [(("value" : Str), v)])) :=
  ⟨false, T.eDS, (fun z => by cases z), fun _ => ⟨true, T.eDD, fun _ => ⟨rfl, d, _, v, rfl, upd_same, by simp [List.lookup], q⟩, fun z => by cases z⟩⟩
theorem said_P (T : TX P K mg) {Q : VK} {H : Hp} {d : Addr} {v : V} (hd : H d = none) (q : ∀ t, upd H d (.xd [(("place" : Str), v)]) t = none → Q (.ref t) (upd (upd H d (.xd [(("place" : Str), v)])) t (.tup [.str "plan", v]))) :
    saidW K Q (saidL T.CS T.CD T.CP) (.ref T.CP) (some d) (upd H d (.xd [(("place" : Str), v)])) :=
  ⟨false, T.ePS, (fun z => by cases z), fun _ => ⟨false, T.ePD, (fun z => by cases z), fun _ => ⟨true, T.ePP, fun _ => ⟨rfl, d, _, v, rfl, upd_same, by simp [List.lookup], q⟩, fun z => by cases z⟩⟩⟩
/-- which place of the plan is bad -/
def planErr (h : Int) (gs : List Int) : Option Int := if 1 ≤ h ∧ h ≤ 3 then (if 1 ≤ gs.length ∧ gs.length ≤ 8 then none else some 1) else some 0
def told13 (h : Int) (gs : List Int) : PyData := match planErr h gs with
  | some k => .tuple [.str "plan", tD [k]]
  | none => .list [.tuple ((lotsI h gs).map tD)]
def told20 (h : Int) (gs : List Int) (d : PyData) : PyData := match planErr h gs with
  | some k => .tuple [.str "plan", tD [k]]
  | none => if isSt gs d = true then .list [.tuple ((dues h gs (nums d)).map tD)] else .tuple [.str "standing", d]
def told21 (h : Int) (gs : List Int) (d dy : PyData) : PyData := match planErr h gs with
  | some k => .tuple [.str "plan", tD [k]]
  | none => if isSt gs d = true then (if okB h gs (nums d) dy = true then .list [tD (nextOf gs (nums d) (nums dy))] else .tuple [.str "day", dy]) else .tuple [.str "standing", d]
theorem planErr_ok {h : Int} {gs : List Int} (o : PlanOk h gs) : planErr h gs = none := by
  unfold planErr
  rw [if_pos o.1, if_pos o.2]
/-- what a call hands on: the exceptions and the value, as the def that called the lambda made of them -/
structure Hand (K : PySem.W.Frag) (l : List (Value × Str × Str)) (E : XK) (Q Q2 : VK) : Prop where
  exc : ∀ cls d H', saidW K Q l cls d H' → E cls d H'
  val : ∀ v H', (∀ p, H' p = none → (p == sysModules) = false → Q (.ref p) (upd H' p (.lst [v]))) → Q2 v H'
variable {E : XK} {Q Q2 : VK} {H : Hp}
theorem Hand.got (hd : Hand K l E Q Q2) {H' : Hp} {v : V} {d : PyData} (r : Rp H' v d) (q : ∀ H'' x, Same H' H'' → Rp H'' x (.list [d]) → Q x H'') : Q2 v H' :=
  hd.val v H' fun p hp hs => q _ _ (same_upd hp) (.lst upd_same hs (.cons (r.mono (Ex.upd hp)) .nil))
theorem Hand.plan (T : TX P K mg) (hd : Hand K (saidL T.CS T.CD T.CP) E Q Q2) {h : Int} {gs : List Int} {dt : PyData} (he : ∀ k, planErr h gs = some k → dt = .tuple [.str "plan", tD [k]]) (q : ∀ H' x, Same H H' → Rp H' x dt → Q x H') : PlanX T.CP H h gs E := by
  have go : ∀ k, planErr h gs = some k → ∀ H' t, Same H H' → H' t = some (.tup [.int k]) → Thrown T.CP "place" E H' (.ref t) := fun k ek H' t s1 ht d hdn => by
    refine hd.exc _ _ _ (said_P T hdn fun t2 ht2 => q _ _ (s1.trans ((same_upd hdn).trans (same_upd ht2))) ?_)
    rw [he k ek]
    exact .tup upd_same (.cons (.str _) (.cons (.tup (same_upd ht2 _ _ (same_upd hdn _ _ ht)) (rpAll_ints [k])) .nil))
  refine ⟨fun hn => go 0 ?_, fun hh hn => go 1 ?_⟩
  · unfold planErr
    rw [if_neg hn]
  · unfold planErr
    rw [if_pos hh, if_neg hn]
theorem Hand.standing (T : TX P K mg) (hd : Hand K (saidL T.CS T.CD T.CP) E Q Q2) {v : V} {d : PyData} (r : Rp H v d) (q : ∀ H' x, Same H H' → Rp H' x (.tuple [.str "standing", d]) → Q x H') : ∀ H', Same H H' → Thrown T.CS "value" E H' v := fun H' s1 dd hdn =>
  hd.exc _ _ _ (said_S T hdn fun t2 ht2 => q _ _ (s1.trans ((same_upd hdn).trans (same_upd ht2))) (.tup upd_same (.cons (.str _) (.cons (r.mono (Ex.same (s1.trans ((same_upd hdn).trans (same_upd ht2))))) .nil))))
theorem Hand.day (T : TX P K mg) (hd : Hand K (saidL T.CS T.CD T.CP) E Q Q2) {v : V} {d : PyData} (r : Rp H v d) (q : ∀ H' x, Same H H' → Rp H' x (.tuple [.str "day", d]) → Q x H') : ∀ H', Same H H' → Thrown T.CD "value" E H' v := fun H' s1 dd hdn =>
  hd.exc _ _ _ (said_D T hdn fun t2 ht2 => q _ _ (s1.trans ((same_upd hdn).trans (same_upd ht2))) (.tup upd_same (.cons (.str _) (.cons (r.mono (Ex.same (s1.trans ((same_upd hdn).trans (same_upd ht2))))) .nil))))
theorem said13 (T : TX P K mg) (hd : Hand K (saidL T.CS T.CD T.CP) E Q Q2) {p : V} {h : Int} {gs : List Int} (f : Fr H p h gs) (ok : GsOk gs) (q : ∀ H' x, Same H H' → Rp H' x (told13 h gs) → Q x H') : sp13 T.CP [p] H Q2 E := by
  refine ⟨p, h, gs, rfl, f, ok, hd.plan T (fun k ek => by unfold told13; rw [ek]) q, fun o H' t ys s1 ht it => hd.got (.tup ht it.rp) fun H'' x s2 r => q H'' x (s1.trans s2) ?_⟩
  unfold told13
  rw [planErr_ok o]
  exact r
theorem said20 (T : TX P K mg) (hd : Hand K (saidL T.CS T.CD T.CP) E Q Q2) {p v : V} {h : Int} {gs : List Int} {d : PyData} (f : Fr H p h gs) (ok : GsOk gs) (r : Rp H v d) (q : ∀ H' x, Same H H' → Rp H' x (told20 h gs d) → Q x H') : sp20 T.CP T.CS [p, v] H Q2 E := by
  refine ⟨p, v, h, gs, d, rfl, f, ok, r, hd.plan T (fun k ek => by unfold told20; rw [ek]) q, fun o st => hd.standing T r fun H' x s1 rr => q H' x s1 ?_, fun o st H' t ys s1 ht it => hd.got (.tup ht it.rp) fun H'' x s2 rr => q H'' x (s1.trans s2) ?_⟩
  · unfold told20
    rw [planErr_ok o, st]
    exact rr
  · unfold told20
    rw [planErr_ok o, st]
    exact rr
theorem said21 (T : TX P K mg) (hd : Hand K (saidL T.CS T.CD T.CP) E Q Q2) {p v y : V} {h : Int} {gs : List Int} {d dy : PyData} (f : Fr H p h gs) (ok : GsOk gs) (r : Rp H v d) (ry : Rp H y dy) (q : ∀ H' x, Same H H' → Rp H' x (told21 h gs d dy) → Q x H') : sp21 T.CP T.CD T.CS [p, v, y] H Q2 E := by
  refine ⟨p, v, y, h, gs, d, dy, rfl, f, ok, r, ry, hd.plan T (fun k ek => by unfold told21; rw [ek]) q, fun o st => hd.standing T r fun H' x s1 rr => q H' x s1 ?_, fun o st ob => hd.day T ry fun H' x s1 rr => q H' x s1 ?_, fun o st ob H' t s1 ht => hd.got (d := tD (nextOf gs (nums d) (nums dy))) (.tup ht (rpAll_ints _)) fun H'' x s2 rr => q H'' x (s1.trans s2) ?_⟩
  · unfold told21
    rw [planErr_ok o, st]
    exact rr
  · unfold told21
    rw [planErr_ok o, st, ob]
    exact rr
  · unfold told21
    rw [planErr_ok o, st, ob]
    exact rr
/-- the reading of the call, from what the lambda's body hands on -/
theorem in_said (T : TX P K mg) {Ts : List (Addr × Str)} {t : XK → TE} {σ : L2.St} (hT : LamX.Tabs Ts H) (h : ∀ H1 E Q2, LamX.ExtN H H1 → LamX.Tabs Ts H1 → Hand K (saidL T.CS T.CD T.CP) E Q Q2 → t E σ H1 Q2) : LamX.tLam Ts (TTsaid K (saidL T.CS T.CD T.CP)) t σ H Q :=
  ⟨hT, fun H1 e T1 E Q2 a b => h H1 E Q2 e T1 ⟨a, b⟩⟩
end
end OF
end
section
set_option Elab.async false
set_option linter.all false
set_option maxRecDepth 100000
set_option maxHeartbeats 4000000
/-! How long what is shown is; which days are shown alike. -/
namespace OF
open PySem PySem.Spec PySem.Calls PyProof.Rows L2 OFx
structure Sh (W D : Nat) (d : PyData) : Prop where
  ok : d.showable = true
  lf : d.leavesShort 32 = true
  we : d.weight ≤ W
  dp : d.depth ≤ D
structure ShA (W D : Nat) (ds : List PyData) : Prop where
  ok : PyData.showableAll ds = true
  lf : PyData.leavesShortAll 32 ds = true
  we : PyData.weightAll ds ≤ W
  dp : PyData.depthAll ds ≤ D
theorem Sh.mono {W D W2 D2 : Nat} {d : PyData} (s : Sh W D d) (h1 : W ≤ W2) (h2 : D ≤ D2) : Sh W2 D2 d := ⟨s.ok, s.lf, Nat.le_trans s.we h1, Nat.le_trans s.dp h2⟩
theorem ShA.mono {W D W2 D2 : Nat} {d : List PyData} (s : ShA W D d) (h1 : W ≤ W2) (h2 : D ≤ D2) : ShA W2 D2 d := ⟨s.ok, s.lf, Nat.le_trans s.we h1, Nat.le_trans s.dp h2⟩
def Big (x : Int) : Prop := x.natAbs ≤ 2 * 10 ^ 30
theorem sh_int {x : Int} (h : Big x) : Sh 102 0 (.int x) := by
  have hb : x.natAbs < 2 ^ 101 := Nat.lt_of_le_of_lt h (by decide)
  have hl : x.natAbs.log2 < 102 := by
    by_cases z : x.natAbs = 0
    · rw [z]
      decide
    · exact Nat.lt_of_lt_of_le ((Nat.log2_lt z).mpr hb) (by decide)
  refine ⟨decide_eq_true (by omega), decide_eq_true ?_, ?_, Nat.le_refl _⟩
  · show (Str.ofString (toString x)).length ≤ 32
    rw [PySem.ofString_length]
    exact int_text_length_le10 (k := 31) (by decide) (Nat.lt_of_le_of_lt h (by decide))
  · show (if x == 0 then 0 else x.natAbs.log2 + 1) ≤ 102
    split <;> omega
theorem shA_nil {D : Nat} : ShA 0 D [] := ⟨rfl, rfl, Nat.le_refl _, Nat.zero_le _⟩
theorem shA_cons {W1 W2 D : Nat} {d : PyData} {ds : List PyData} (a : Sh W1 D d) (b : ShA W2 D ds) : ShA (W1 + 1 + W2) D (d :: ds) := by
  refine ⟨?_, ?_, ?_, ?_⟩
  · show (d.showable && PyData.showableAll ds) = true
    rw [a.ok, b.ok]
    rfl
  · show (d.leavesShort 32 && PyData.leavesShortAll 32 ds) = true
    rw [a.lf, b.lf]
    rfl
  · show d.weight + 1 + PyData.weightAll ds ≤ _
    have h1 := a.we
    have h2 := b.we
    omega
  · show max d.depth (PyData.depthAll ds) ≤ D
    exact Nat.max_le.mpr ⟨a.dp, b.dp⟩
theorem sh_list {W D : Nat} {ds : List PyData} (a : ShA W D ds) : Sh W (D + 1) (.list ds) := ⟨a.ok, a.lf, a.we, Nat.succ_le_succ a.dp⟩
theorem sh_tup {W D : Nat} {ds : List PyData} (a : ShA W D ds) : Sh W (D + 1) (.tuple ds) := ⟨a.ok, a.lf, a.we, Nat.succ_le_succ a.dp⟩
theorem shA_all {W D : Nat} : ∀ {ds : List PyData}, (∀ d ∈ ds, Sh W D d) → ShA (ds.length * (W + 1)) D ds
  | [], _ => shA_nil.mono (Nat.zero_le _) (Nat.le_refl _)
  | d :: ds, h => (shA_cons (h d List.mem_cons_self) (shA_all fun e he => h e (List.mem_cons_of_mem _ he))).mono (by rw [List.length_cons, Nat.add_mul]; omega) (Nat.le_refl _)
theorem sh_tD {ns : List Int} (h : ∀ x ∈ ns, Big x) : Sh (ns.length * 103) 1 (tD ns) := by
  have z := sh_tup (shA_all (W := 102) (D := 0) (ds := ns.map PyData.int) fun d hd => by
    obtain ⟨x, hx, rfl⟩ := List.mem_map.mp hd
    exact sh_int (h x hx))
  rw [List.length_map] at z
  exact z
/-- fits to be shown -/
theorem Sh.fits {d : PyData} (s : Sh 400000 60 d) : d.showable = true ∧ d.shown.length ≤ sizeLine ∧ d.depth ≤ 60 := by
  refine ⟨s.ok, ?_, s.dp⟩
  have h := PyData.shown_le 32 (by decide) d s.lf
  have hw := s.we
  rw [sizeLine_eq]
  omega
/-! ### the days -/
theorem lots_small : ∀ h : Fin 4, ∀ n : Fin 9, (lots h.val n.val).all (fun ns => decide (ns.length ≤ 3) && ns.all fun x => decide (0 ≤ x) && decide (x < 9)) = true := by decide +kernel
theorem lots_bd {h n : Nat} (x : HN h n) {ns : List Int} (e : ns ∈ lots h n) : ns.length ≤ 3 ∧ ∀ y ∈ ns, Big y := by
  obtain ⟨a1, a2, a3, a4⟩ := x
  have z := List.all_eq_true.mp (lots_small ⟨h, by omega⟩ ⟨n, by omega⟩) ns e
  rw [Bool.and_eq_true, decide_eq_true_eq] at z
  refine ⟨z.1, fun y hy => ?_⟩
  have z2 := List.all_eq_true.mp z.2 y hy
  rw [Bool.and_eq_true, decide_eq_true_eq, decide_eq_true_eq] at z2
  unfold Big
  have : (2 * 10 ^ 30 : Nat) = 2000000000000000000000000000000 := by decide
  omega
theorem sh_lot {h n : Nat} (x : HN h n) {ns : List Int} (e : ns ∈ lots h n) : Sh 309 1 (tD ns) := by
  obtain ⟨a, b⟩ := lots_bd x e
  exact (sh_tD b).mono (Nat.mul_le_mul_right 103 a) (Nat.le_refl _)
theorem lots_day : ∀ h : Fin 4, ∀ n : Fin 9, h.val = 0 ∨ n.val = 0 ∨ (lots h.val n.val).all (fun ns => isDay (h.val : Nat) n.val (tD ns)) = true := by decide +kernel
theorem lot_day {h n : Nat} (x : HN h n) {ns : List Int} (e : ns ∈ lots h n) : isDay (h : Nat) n (tD ns) = true := by
  obtain ⟨a1, a2, a3, a4⟩ := x
  rcases lots_day ⟨h, by omega⟩ ⟨n, by omega⟩ with z | z | z
  · have z' : h = 0 := z
    omega
  · have z' : n = 0 := z
    omega
  · exact List.all_eq_true.mp z ns e
theorem lots_sub : ∀ h : Fin 4, ∀ n : Fin 7, (lots h.val n.val).all (fun ns => decide (ns ∈ lots 3 6)) = true := by decide +kernel
theorem shown_nodup : ((lots 3 6).map fun a => (tD a).shown).Nodup := by decide +kernel
theorem nodup_inj {α β : Type} (f : α → β) : ∀ {l : List α}, (l.map f).Nodup → ∀ {a b : α}, a ∈ l → b ∈ l → f a = f b → a = b
  | [], _, _, _, ha, _, _ => absurd ha (by simp)
  | x :: l, nd, a, b, ha, hb, e => by
    rw [List.map_cons, List.nodup_cons] at nd
    rcases List.mem_cons.mp ha with h1 | h1 <;> rcases List.mem_cons.mp hb with h2 | h2
    · rw [h1, h2]
    · rw [h1] at e
      exact absurd (List.mem_map.mpr ⟨b, h2, e.symm⟩) nd.1
    · rw [h2] at e
      exact absurd (List.mem_map.mpr ⟨a, h1, e⟩) nd.1
    · exact nodup_inj f nd.2 h1 h2 e
theorem shown_inj {h n : Nat} (x : HN h n) (n6 : n ≤ 6) {a b : List Int} (ha : a ∈ lots h n) (hb : b ∈ lots h n) (e : (tD a).shown = (tD b).shown) : a = b := by
  have sub := List.all_eq_true.mp (lots_sub ⟨h, by have := x.2.1; omega⟩ ⟨n, by omega⟩)
  exact nodup_inj (fun a => (tD a).shown) shown_nodup (of_decide_eq_true (sub a ha)) (of_decide_eq_true (sub b hb)) e
/-- the fixed ones of the law's values -/
def fixed (n : Int) : List PyData := [.none, .str "", .list [.int 0], .list [], .dict [], .int 0, .tuple [.bool true], tD [0, 0], tD [1, 0], tD [n], tD [-1], .tuple [.int 0, .none], tD (rng 0 (n + 1)), tD (rng 0 (if n < 4 then n else 4)), .tuple [tD []]]
theorem menu_cases {n : Int} {a b : List Int} {d : PyData} (h : d ∈ menu n a b) : d ∈ fixed n ∨ d = tD a ∨ d = tD b := by
  unfold menu at h
  unfold fixed
  simp only [List.cons_append, List.nil_append, List.mem_cons, List.not_mem_nil, or_false] at h ⊢
  rcases h with h | h | h | h | h | h | h | h | h | h | h | h | h | h | h | h | h <;> simp [h]
def fixOk (h n : Nat) (d : PyData) : Bool := if isDay (h : Nat) n d = true then decide (nums d ∈ lots h n) else !(decide (d.shown ∈ (lots h n).map fun ns => (tD ns).shown))
theorem fixed_days : ∀ h : Fin 4, ∀ n : Fin 7, h.val = 0 ∨ n.val = 0 ∨ (fixed (n.val : Nat)).all (fixOk h.val n.val) = true := by decide +kernel
theorem fixed_fit : ∀ n : Fin 9, (fixed (n.val : Nat)).all (fun d => d.showable && (d.leavesShort 32 && (decide (d.weight ≤ 1000) && decide (d.depth ≤ 5)))) = true := by decide +kernel
theorem sh_fixed {n : Nat} (hn : n ≤ 8) {d : PyData} (e : d ∈ fixed (n : Nat)) : Sh 1000 5 d := by
  have z := List.all_eq_true.mp (fixed_fit ⟨n, by omega⟩) d e
  rw [Bool.and_eq_true, Bool.and_eq_true, Bool.and_eq_true, decide_eq_true_eq, decide_eq_true_eq] at z
  exact ⟨z.1, z.2.1, z.2.2.1, z.2.2.2⟩
theorem sh_menu {h n : Nat} (x : HN h n) {a b : List Int} {d : PyData} (ha : a ∈ lots h n) (hb : b ∈ lots h n) (e : d ∈ menu (n : Nat) a b) : Sh 1000 5 d := by
  rcases menu_cases e with e | e | e
  · exact sh_fixed x.2.2.2 e
  · rw [e]
    exact (sh_lot x ha).mono (by decide) (by decide)
  · rw [e]
    exact (sh_lot x hb).mono (by decide) (by decide)
/-- d is told a day just where it is shown like one -/
def DayLike (h n : Nat) (d : PyData) : Prop := (isDay (h : Nat) n d = true → nums d ∈ lots h n) ∧ (isDay (h : Nat) n d = false → ∀ ns ∈ lots h n, (tD ns).shown ≠ d.shown)
theorem dayLike_lot {h n : Nat} (x : HN h n) {ns : List Int} (e : ns ∈ lots h n) : DayLike h n (tD ns) :=
  ⟨fun _ => by rw [nums_tD]; exact e, fun z => by rw [lot_day x e] at z; cases z⟩
theorem dayLike_menu {h n : Nat} (x : HN h n) (n6 : n ≤ 6) {a b : List Int} {d : PyData} (ha : a ∈ lots h n) (hb : b ∈ lots h n) (e : d ∈ menu (n : Nat) a b) : DayLike h n d := by
  rcases menu_cases e with e | e | e
  · obtain ⟨a1, a2, a3, a4⟩ := x
    rcases fixed_days ⟨h, by omega⟩ ⟨n, by omega⟩ with z | z | z
    · have z' : h = 0 := z
      omega
    · have z' : n = 0 := z
      omega
    · have z := List.all_eq_true.mp z d e
      unfold fixOk at z
      constructor
      · intro i
        rw [if_pos i] at z
        exact of_decide_eq_true z
      · intro i ns hns q
        rw [if_neg (by rw [i]; simp), Bool.not_eq_true', decide_eq_false_iff_not] at z
        exact z (List.mem_map.mpr ⟨ns, hns, q⟩)
  · rw [e]
    exact dayLike_lot x ha
  · rw [e]
    exact dayLike_lot x hb
theorem inV_strs (x : Str) : ∀ l : List Str, inV (.str x) (l.map V.str) = decide (x ∈ l)
  | [] => rfl
  | y :: l => by
    have ih := inV_strs x l
    show (eqV (.str y) (.str x) || inV (.str x) (l.map V.str)) = _
    rw [ih]
    show ((y == x) || decide (x ∈ l)) = decide (x ∈ y :: l)
    rw [Bool.eq_iff_iff]
    simp only [Bool.or_eq_true, beq_iff_eq, decide_eq_true_eq, List.mem_cons]
    exact ⟨fun h => h.elim (fun e => .inl e.symm) .inr, fun h => h.elim (fun e => .inl e.symm) .inr⟩
theorem flat_strs : ∀ l : List Str, (l.map V.str).all flatV = true
  | [] => rfl
  | y :: l => by
    show (true && (l.map V.str).all flatV) = true
    rw [flat_strs l]
    rfl
theorem dues_mem {h : Int} {gs ls ns : List Int} (e : ns ∈ dues h gs ls) : ns ∈ lots h.toNat gs.length ∧ hasDue ls ns = true := List.mem_filter.mp e
theorem in_dues {h : Int} {gs ls : List Int} {d : PyData} (o : PlanOk h gs) (n6 : gs.length ≤ 6) (dl : DayLike h.toNat gs.length d) : decide (d.shown ∈ (dues h gs ls).map fun ns => (tD ns).shown) = okB h gs ls d := by
  have hh := o.nat
  unfold okB
  rw [Bool.eq_iff_iff, decide_eq_true_eq, Bool.and_eq_true]
  constructor
  · intro q
    obtain ⟨ns, h1, h2⟩ := List.mem_map.mp q
    obtain ⟨h3, h4⟩ := dues_mem h1
    cases e : isDay h gs.length d with
    | false => exact absurd h2 (dl.2 (by rw [hh]; exact e) ns h3)
    | true =>
      have m := dl.1 (by rw [hh]; exact e)
      have ed := isDay_tD e
      have en : ns = nums d := shown_inj o.hn n6 h3 m (by rw [← ed]; exact h2)
      exact ⟨rfl, by rw [← en]; exact h4⟩
  · rintro ⟨e, f⟩
    have m := dl.1 (by rw [hh]; exact e)
    exact List.mem_map.mpr ⟨nums d, List.mem_filter.mpr ⟨m, f⟩, by rw [← isDay_tD e]⟩
end OF
end
section
set_option Elab.async false
set_option linter.all false
set_option maxRecDepth 100000
set_option maxHeartbeats 4000000
/-! What stays while the law goes on; repr(x) of what is made; what _law_said tells. -/
namespace OFx
open PySem PySem.Spec PySem.Calls PyProof.Rows L2
theorem tabs_sd {Ts : List (Addr × Str)} {m : Addr} {kvs : List (Key × V)} {H H' : Hp} (t : LamX.Tabs Ts H) (s : Sd m H H') (hm : H m = some (.dK kvs)) : LamX.Tabs Ts H' := fun p hp => by
  obtain ⟨ps, h1, h2, h3⟩ := t p hp
  refine ⟨ps, s _ _ (ne_of h1 hm (by intro z; cases z)) h1, h2, fun pos cv e => ?_⟩
  obtain ⟨c, e1, e2⟩ := h3 pos cv e
  exact ⟨c, e1, s _ _ (ne_of e2 hm (by intro z; cases z)) e2⟩
theorem tabs_same {Ts : List (Addr × Str)} {H H' : Hp} (t : LamX.Tabs Ts H) (s : Same H H') : LamX.Tabs Ts H' := LamX.Tabs.ext t s
section
variable {te : TE} {d : PyData} {σ : L2.St} {H : Hp} {Q : VK}
theorem in_repr (m : Mk te d σ H) (f : d.showable = true ∧ d.shown.length ≤ sizeLine ∧ d.depth ≤ 60) (q : ∀ H', Same H H' → Q (.str d.shown) H') : tCB rRepr (tCons te tNil) σ H Q :=
  m H (Same.refl H) _ fun v H' s r => ⟨v, d, rfl, r, f.1, f.2.1, f.2.2, q H' s⟩
theorem repr_of {te : TE} (h : te σ H fun v H' => ∃ d, Rp H' v d ∧ (d.showable = true ∧ d.shown.length ≤ sizeLine ∧ d.depth ≤ 60) ∧ Q (.str d.shown) H') (gm : ∀ σ H (q q' : VK), (∀ v H, q v H → q' v H) → te σ H q → te σ H q') : tCB rRepr (tCons te tNil) σ H Q :=
  gm σ H _ _ (fun v H' x => by
    obtain ⟨d, r, f, q⟩ := x
    exact ⟨v, d, rfl, r, f.1, f.2.1, f.2.2, q⟩) h
end
end OFx
namespace OF
open PySem PySem.Spec PySem.Calls PyProof.Rows L2 OFx
/-- what holds all along: H0's things stay, the tables are in order, the drawer was asked B times at most -/
structure Go (Ts : List (Addr × Str)) (m : Addr) (B : Nat) (H0 H : Hp) : Prop where
  ex : Ex H0 H
  tb : LamX.Tabs Ts H
  mi : MI m B H
theorem Go.same {Ts : List (Addr × Str)} {m : Addr} {B : Nat} {H0 H H' : Hp} (g : Go Ts m B H0 H) (s : Same H H') : Go Ts m B H0 H' := ⟨g.ex.trans (Ex.same s), tabs_same g.tb s, g.mi.same s⟩
theorem Go.sd {Ts : List (Addr × Str)} {m : Addr} {B C : Nat} {H0 H H' : Hp} (g : Go Ts m B H0 H) (s : Sd m H H') (mi : MI m C H') : Go Ts m C H0 H' := by
  obtain ⟨l, s', c, sp, cs, h1, _⟩ := g.mi
  exact ⟨g.ex.trans (g.mi.ex s), tabs_sd g.tb s h1, mi⟩
theorem Go.extN {Ts : List (Addr × Str)} {m : Addr} {B : Nat} {H0 H H' : Hp} (g : Go Ts m B H0 H) (s : LamX.ExtN H H') (t : LamX.Tabs Ts H') : Go Ts m B H0 H' := ⟨g.ex.trans (Ex.extN s), t, g.mi.ext s⟩
theorem Go.up {Ts : List (Addr × Str)} {m : Addr} {B C : Nat} {H0 H : Hp} (g : Go Ts m B H0 H) (h : B ≤ C) : Go Ts m C H0 H := ⟨g.ex, g.tb, g.mi.up h⟩
theorem Go.from {Ts : List (Addr × Str)} {m : Addr} {B : Nat} {H0 H1 H : Hp} (g : Go Ts m B H1 H) (e : Ex H0 H1) : Go Ts m B H0 H := ⟨e.trans g.ex, g.tb, g.mi⟩
theorem Fr.rp {H : Hp} {v : V} {h : Int} {gs : List Int} (f : Fr H v h gs) : Rp H v (.tuple [.int h, tD gs]) := by
  obtain ⟨p, g, rfl, hp, hg⟩ := f
  exact .tup hp (.cons (.int h) (.cons (.tup hg (rpAll_ints gs)) .nil))
theorem GsOk.big {gs : List Int} (g : GsOk gs) : ∀ x ∈ gs, Big x := fun x hx => by
  have z := g x hx
  unfold Big
  have : (2 * 10 ^ 30 : Nat) = 2000000000000000000000000000000 := by decide
  have : (10 ^ 30 : Int) = 1000000000000000000000000000000 := by decide
  omega
theorem PlanOk.hbig {h : Int} {gs : List Int} (o : PlanOk h gs) : Big h := by
  have := o.1
  unfold Big
  have : (2 * 10 ^ 30 : Nat) = 2000000000000000000000000000000 := by decide
  omega
/-- standings that are some -/
theorem spot_len {gs ls : List Int} (s : isSt gs (tD ls) = true) : ls.length = gs.length := by
  have z := (isSt_tD s).2
  rw [nums_tD] at z
  exact z
theorem spot_at {gs : List Int} : ∀ {gs ls : List Int}, ((ls.map PyData.int).zip gs).all (fun p => isW 1 p.2 p.1) = true → ls.length = gs.length → ∀ x ∈ ls, 1 ≤ x ∧ ∃ g ∈ gs, x ≤ g
  | _, [], _, _, x, hx => absurd hx (by simp)
  | [], _ :: _, _, hl, _, _ => by simp at hl
  | g :: gs, l :: ls, h, hl, x, hx => by
    rw [List.map_cons, List.zip_cons_cons, List.all_cons, Bool.and_eq_true] at h
    rcases List.mem_cons.mp hx with e | e
    · rw [e]
      have z := isW_no h.1
      exact ⟨z.1, g, List.mem_cons_self, z.2⟩
    · obtain ⟨h1, g', h2, h3⟩ := spot_at (gs := gs) h.2 (by simpa using hl) x e
      exact ⟨h1, g', List.mem_cons_of_mem _ h2, h3⟩
theorem spot_bd {gs ls : List Int} (s : isSt gs (tD ls) = true) : ∀ x ∈ ls, 1 ≤ x ∧ ∃ g ∈ gs, x ≤ g := by
  have s' : (decide ((ls.map PyData.int).length = gs.length) && ((ls.map PyData.int).zip gs).all fun p => isW 1 p.2 p.1) = true := s
  rw [Bool.and_eq_true] at s'
  exact spot_at (gs := gs) s'.2 (spot_len s)
theorem spot_big {gs ls : List Int} (g : GsOk gs) (s : isSt gs (tD ls) = true) : ∀ x ∈ ls, Big x := fun x hx => by
  obtain ⟨h1, y, hy, h2⟩ := spot_bd s x hx
  have z := g y hy
  unfold Big
  have : (2 * 10 ^ 30 : Nat) = 2000000000000000000000000000000 := by decide
  have : (10 ^ 30 : Int) = 1000000000000000000000000000000 := by decide
  omega
/-- [frame, spot] -/
def pairD (h : Int) (gs ls : List Int) : PyData := .list [.tuple [.int h, tD gs], tD ls]
theorem sh_frame {h : Int} {gs : List Int} (o : PlanOk h gs) (g : GsOk gs) : Sh 1030 2 (.tuple [.int h, tD gs]) := by
  refine (sh_tup (shA_cons ((sh_int o.hbig).mono (Nat.le_refl _) (by decide)) (shA_cons (sh_tD g.big) shA_nil))).mono ?_ (Nat.le_refl _)
  have := o.2.2
  omega
theorem sh_pair {h : Int} {gs ls : List Int} (o : PlanOk h gs) (g : GsOk gs) (s : isSt gs (tD ls) = true) : Sh 400000 60 (pairD h gs ls) := by
  refine (sh_list (D := 2) (shA_cons (sh_frame o g) (shA_cons ((sh_tD (spot_big g s)).mono (Nat.le_refl _) (by decide)) shA_nil))).mono ?_ (by decide)
  have := spot_len s
  have := o.2.2
  omega
theorem dues_le {h : Int} {gs ls : List Int} (o : PlanOk h gs) : (dues h gs ls).length ≤ 100 := Nat.le_trans (List.length_filter_le _ _) (lots_le o.hn)
theorem shA_dues {h : Int} {gs ls : List Int} (o : PlanOk h gs) : ShA 31000 1 ((dues h gs ls).map tD) := by
  refine (shA_all (W := 309) (D := 1) fun d hd => ?_).mono ?_ (Nat.le_refl _)
  · obtain ⟨ns, hn, rfl⟩ := List.mem_map.mp hd
    exact sh_lot o.hn (dues_mem hn).1
  · rw [List.length_map]
    exact Nat.mul_le_mul_right 310 (dues_le o)
theorem sh_due1 {h : Int} {gs ls : List Int} (o : PlanOk h gs) : Sh 400000 60 (.list [.tuple ((dues h gs ls).map tD)]) :=
  (sh_list (sh_tup (shA_dues o) |> fun z => shA_cons z shA_nil)).mono (by decide) (by decide)
theorem shA_lots {h : Int} {gs : List Int} (o : PlanOk h gs) : ShA 31000 1 ((lotsI h gs).map tD) := by
  refine (shA_all (W := 309) (D := 1) fun d hd => ?_).mono ?_ (Nat.le_refl _)
  · obtain ⟨ns, hn, rfl⟩ := List.mem_map.mp hd
    exact sh_lot o.hn hn
  · rw [List.length_map]
    exact Nat.mul_le_mul_right 310 (lots_le o.hn)
theorem next_big {gs ls ns : List Int} (g : GsOk gs) (s : isSt gs (tD ls) = true) : ∀ x ∈ nextOf gs ls ns, Big x := fun x hx => by
  obtain ⟨i, hi, rfl⟩ := List.mem_map.mp hx
  have hi' := List.mem_range.mp hi
  have hl := spot_len s
  by_cases c : ((i : Nat) : Int) ∈ ns
  · rw [if_pos c, List.getD_eq_getElem?_getD, List.getElem?_eq_getElem (by omega)]
    exact g.big _ (List.getElem_mem (by omega))
  · rw [if_neg c, List.getD_eq_getElem?_getD, List.getElem?_eq_getElem hi']
    show Big (ls[i] - 1)
    obtain ⟨h1, y, hy, h2⟩ := spot_bd s ls[i] (List.getElem_mem hi')
    have z := g y hy
    unfold Big
    have : (2 * 10 ^ 30 : Nat) = 2000000000000000000000000000000 := by decide
    have : (10 ^ 30 : Int) = 1000000000000000000000000000000 := by decide
    omega
/-- what is to be told behind a day -/
def wantD (h : Int) (gs ls : List Int) (dy : PyData) : PyData := if okB h gs ls dy = true then .list [tD (nextOf gs ls (nums dy))] else .tuple [.str "day", dy]
theorem told21_want {h : Int} {gs ls : List Int} {dy : PyData} (o : PlanOk h gs) (s : isSt gs (tD ls) = true) : told21 h gs (tD ls) dy = wantD h gs ls dy := by
  unfold told21 wantD
  rw [planErr_ok o]
  show (if isSt gs (tD ls) = true then (if okB h gs (nums (tD ls)) dy = true then PyData.list [tD (nextOf gs (nums (tD ls)) (nums dy))] else .tuple [.str "day", dy]) else _) = _
  rw [if_pos s, nums_tD]
theorem told20_due {h : Int} {gs ls : List Int} (o : PlanOk h gs) (s : isSt gs (tD ls) = true) : told20 h gs (tD ls) = .list [.tuple ((dues h gs ls).map tD)] := by
  unfold told20
  rw [planErr_ok o]
  show (if isSt gs (tD ls) = true then PyData.list [.tuple ((dues h gs (nums (tD ls))).map tD)] else _) = _
  rw [if_pos s, nums_tD]
theorem sh_str {x : Str} (h : x.length ≤ 60) (h2 : (x.cps.toList.all fun c => decide (c < 16 ^ 8)) = true) : Sh 60 0 (.str x) := ⟨rfl, h2, h, Nat.le_refl _⟩
theorem sh_want {h : Int} {gs ls : List Int} {dy : PyData} (g : GsOk gs) (o : PlanOk h gs) (s : isSt gs (tD ls) = true) (sd : Sh 1000 5 dy) : Sh 400000 60 (wantD h gs ls dy) := by
  unfold wantD
  split
  · refine (sh_list (D := 1) (shA_cons (sh_tD (next_big g s)) shA_nil)).mono ?_ (by decide)
    have := spot_len s
    have := o.2.2
    have : (nextOf gs ls (nums dy)).length = ls.length := by unfold nextOf; rw [List.length_map, List.length_range]
    omega
  · exact (sh_tup (shA_cons ((sh_str (x := "day") (by decide) (by decide)).mono (Nat.le_refl _) (by decide)) (shA_cons sd shA_nil))).mono (by decide) (by decide)
section
variable {P : Program} {K : PySem.W.Frag} {mg : Str → Option Value} {Ts : List (Addr × Str)} {m : Addr} {B : Nat} {H0 H : Hp} {σ : L2.St} {Q : VK}
/-- right_days(frame, thing), handed to _law_said -/
def tR (T : TX P K mg) (t : TA) : XK → TE := fun E => tCallS (sp20 T.CP T.CS) (WE fun cls d _ H' => E cls d H') t
def tB21 (T : TX P K mg) (t : TA) : XK → TE := fun E => tCallS (sp21 T.CP T.CD T.CS) (WE fun cls d _ H' => E cls d H') t
def tD13 (T : TX P K mg) (t : TA) : XK → TE := fun E => tCallS (sp13 T.CP) (WE fun cls d _ H' => E cls d H') t
theorem in_said20 (T : TX P K mg) (go : Go Ts m B H0 H) {t : TA} {h : Int} {gs : List Int} {d : PyData}
    (ht : ∀ H1, Ex H H1 → ∀ q : List V → Hp → Prop, (∀ H2 p v, Same H1 H2 → Fr H2 p h gs → Rp H2 v d → q [p, v] H2) → t σ H1 q) (ok : GsOk gs)
    (q : ∀ H' x, Go Ts m B H0 H' → Rp H' x (told20 h gs d) → Q x H') : LamX.tLam Ts (TTsaid K (saidL T.CS T.CD T.CP)) (tR T t) σ H Q :=
  in_said T go.tb fun H1 E Q2 e t1 hd => ht H1 (Ex.extN e) _ fun H2 p v s2 f r => said20 T hd f ok r fun H' x s rr => q H' x (((go.extN e t1).same s2).same s) rr
theorem in_said21 (T : TX P K mg) (go : Go Ts m B H0 H) {t : TA} {h : Int} {gs : List Int} {d dy : PyData}
    (ht : ∀ H1, Ex H H1 → ∀ q : List V → Hp → Prop, (∀ H2 p v y, Same H1 H2 → Fr H2 p h gs → Rp H2 v d → Rp H2 y dy → q [p, v, y] H2) → t σ H1 q) (ok : GsOk gs)
    (q : ∀ H' x, Go Ts m B H0 H' → Rp H' x (told21 h gs d dy) → Q x H') : LamX.tLam Ts (TTsaid K (saidL T.CS T.CD T.CP)) (tB21 T t) σ H Q :=
  in_said T go.tb fun H1 E Q2 e t1 hd => ht H1 (Ex.extN e) _ fun H2 p v y s2 f r ry => said21 T hd f ok r ry fun H' x s rr => q H' x (((go.extN e t1).same s2).same s) rr
theorem in_said13 (T : TX P K mg) (go : Go Ts m B H0 H) {t : TA} {h : Int} {gs : List Int}
    (ht : ∀ H1, Ex H H1 → ∀ q : List V → Hp → Prop, (∀ H2 p, Same H1 H2 → Fr H2 p h gs → q [p] H2) → t σ H1 q) (ok : GsOk gs)
    (q : ∀ H' x, Go Ts m B H0 H' → Rp H' x (told13 h gs) → Q x H') : LamX.tLam Ts (TTsaid K (saidL T.CS T.CD T.CP)) (tD13 T t) σ H Q :=
  in_said T go.tb fun H1 E Q2 e t1 hd => ht H1 (Ex.extN e) _ fun H2 p s2 f => said13 T hd f ok fun H' x s rr => q H' x (((go.extN e t1).same s2).same s) rr
end
/-! ### how the lambdas are called -/
def ar0 : Arguments := { posonlyargs := [], args := [], vararg := none, kwonlyargs := [], kw_defaults := [], kwarg := none, defaults := [] }
theorem bnd0 (scope : Scope) : Bnd none ar0 scope := fun q body cl pm cv ctv => by with_unfolding_all rfl
def ar1 (p q : Pos) (j : Nat) : Arguments := { posonlyargs := [], args := [{ arg := "x", annotation := none, pos := p }], vararg := none, kwonlyargs := [], kw_defaults := [], kwarg := none, defaults := [.Constant (.int 0) j q] }
theorem bnd1 (scope : Scope) (p q : Pos) (j : Nat) (h : scope.names.lookup ("x" : Str) = some .local) : Bnd (some 0) (ar1 p q j) scope := ⟨"x", h, fun q body cl dV pm cv ctv => ⟨_, rfl, fun v => by with_unfolding_all rfl⟩⟩
end OF
end
section
set_option Elab.async false
set_option linter.all false
set_option maxRecDepth 100000
set_option maxHeartbeats 4000000
/-! _law_spot_right -/
namespace OF
open PySem PySem.Spec PySem.Calls PyProof.Rows L2 OFx
theorem in_rep {te : TE} {σ : L2.St} {H : Hp} {Q : VK} (h : te σ H fun v H1 => rRepr [v] H1 Q) : tCB rRepr (tCons te tNil) σ H Q := h
theorem rep1 {H : Hp} {v : V} {d : PyData} {Q : VK} (r : Rp H v d) (f : d.showable = true ∧ d.shown.length ≤ sizeLine ∧ d.depth ≤ 60) (q : Q (.str d.shown) H) : rRepr [v] H Q := ⟨v, d, rfl, r, f.1, f.2.1, f.2.2, q⟩
theorem in_via {te : TE} {σ : L2.St} {H : Hp} {Q : VK} (C : V → Hp → Prop) (h : ∀ Q' : VK, (∀ x H', C x H' → Q' x H') → te σ H Q') (k : ∀ x H', C x H' → Q x H') : te σ H Q := h Q k
theorem shaped_all (l : List (List Int)) : SeqAt.shaped (.tuple (l.map tD)) = true := by
  have c : ∀ l : List (List Int), PyData.canLayAll0 (l.map tD) = true := fun l => by
    induction l with
    | nil => rfl
    | cons a l ih =>
      show (PyData.canLayAll0 (a.map PyData.int) && PyData.canLayAll0 (l.map tD)) = true
      rw [canLay_ints, ih]
      rfl
  have d : ∀ l : List (List Int), PyData.depthAll (l.map tD) ≤ 1 := fun l => by
    induction l with
    | nil => exact Nat.zero_le _
    | cons a l ih =>
      show max (PyData.depthAll (a.map PyData.int) + 1) (PyData.depthAll (l.map tD)) ≤ 1
      rw [depth_ints]
      exact Nat.max_le.mpr ⟨Nat.le_refl _, ih⟩
  show (PyData.canLayAll0 (l.map tD) && decide (PyData.depthAll (l.map tD) + 1 ≤ 64)) = true
  rw [c l, decide_eq_true (by have := d l; omega)]
  rfl
theorem range_all {α β : Type} (d : α) (g : α → β) : ∀ l : List α, ((List.range l.length).map fun i => g (l.getD i d)) = l.map g
  | [] => rfl
  | n :: ns => by
    have ih := range_all d g ns
    rw [List.length_cons, List.range_succ_eq_map, List.map_cons, List.map_map, List.map_cons]
    exact congrArg (g n :: ·) ih
theorem mk_pair {H : Hp} {σ : L2.St} {p s : V} {h : Int} {gs ls : List Int} {i j : Nat} (e1 : σ[i]? = some (some p)) (e2 : σ[j]? = some (some s)) (f : Fr H p h gs) (x : IT H s ls) : Mk (tLstN (tCons (tVar i) (tCons (tVar j) tNil))) (pairD h gs ls) σ H :=
  mk_lst (mk_cons (mk_var e1 f.rp) (mk_cons (mk_var e2 x.rp) mk_nil)) (by show 2 ≤ 1000; decide)
section
variable {P : Program} {w : World} {K : PySem.W.Frag} {mg : Str → Option Value} {base : Heap}
def sp32 (Ts : List (Addr × Str)) : Sp := fun vs H Q _ => ∃ (m : Addr) (p s : V) (h : Int) (gs ls : List Int) (B : Nat), vs = [.ref m, p, s] ∧ MI m B H ∧ B + 20 ≤ 1000000 ∧ LamX.Tabs Ts H ∧ Fr H p h gs ∧ PlanOk h gs ∧ GsOk gs ∧ gs.length ≤ 6 ∧ IT H s ls ∧ isSt gs (tD ls) = true ∧
  ∀ H', Go Ts m (B + 12) H H' → Q (.bl true) H'
theorem sc32 : FnScope ["m", "frame", "spot", "due", "kept", "turn", "told_so", "wanted", "lot", "one"] ["m", "frame", "spot"] (defScope (top 32)) := ⟨rfl, rfl, rfl, by decide +kernel, rfl, by decide +kernel, by decide +kernel⟩
theorem ok32 (T : TX P K mg) {Ts : List (Addr × Str)} (TB : LamX.TabB base mg T.c32 T.p32) (hm : (T.p32, ("_law_spot_right.<locals>.<lambda>" : Str)) ∈ Ts) (hu0 : ∀ p ∈ Ts, p.1 = T.p32 → p.2 = "_law_spot_right.<locals>.<lambda>") : FnG P w K mg base 8 T.f32 T.d32 ["m", "frame", "spot"] (sp32 Ts) := by
  refine T.L32.okG sc32 (fun vs H Q E h => ?_) (fun A outer s H vs Q hr hgd h => ?_)
  · obtain ⟨m, p, s, h, gs, ls, B, rfl, _⟩ := h
    rfl
  · obtain ⟨m, p, sv, h, gs, ls, B, rfl, hmi, hB, hT, fr, ok, gok, n6, isv, st, q⟩ := h
    have G20 : FnOk P w K mg base (L2.CX P w) 5 T.f20 T.d20 ["plan", "standing"] (sp20 T.CP T.CS) := ok20 T
    have G21 : FnOk P w K mg base (L2.CX P w) 5 T.f21 T.d21 ["plan", "standing", "day"] (sp21 T.CP T.CD T.CS) := ok21 T
    have G25 : FnOk P w K mg base C8.CX0 2 T.f25 T.d25 ["m", "some"] sp25 := ok25 T
    have G29 : FnOk P w K mg base C8.CX0 2 T.f29 T.d29 ["frame", "spot"] sp29 := ok29 T
    have G30 : FnOk P w K mg base C8.CX0 1 T.f30 T.d30 ["frame", "spot", "lot"] sp18 := ok30 T
    have G31 : FnOk P w K mg base C8.CX0 3 T.f31 T.d31 ["m", "frame"] sp31 := ok31 T
    have hu : (A.deeper (envOfC "_law_spot_right" (defScope (top 32)) s.heap.objs.size T.f32 (.ref T.c32))).units + 64 < cLine := hr.units
    have hg : (A.deeper (envOfC "_law_spot_right" (defScope (top 32)) s.heap.objs.size T.f32 (.ref T.c32))).guards = some [] := hgd
    refine ⟨_, pss_cons (ps_par (i := 3) (j := 4) rfl sc32.nd rfl rfl (by decide) rfl rfl (pa_cons (pe_callN G29 (hr.mono (by decide)) (by rfl) T.g29 T.F29.kp T.b29 (by exact (pa_cons (pv 1) (pa_cons (pv 2) pa_nil))))
        (pa_cons (pe_callB (cr_repr hg hu) (by rfl) T.z_repr boot_repr (pa_cons (pe_lstN (pa_cons (pv 1) (pa_cons (pv 2) pa_nil))) pa_nil)) pa_nil)) (by with_unfolding_all rfl))
      (pss_cons (ps_for PassesOwn.never rfl (pi_range1 (by rfl) T.z_range (pa_cons pe_int pa_nil)) (pg_name (i := 5) sc32.nd rfl (.inl rfl))
        (pss_one (ps_if (pt_cmpR op_ne (pe_callB (cr_repr hg hu) (by rfl) T.z_repr boot_repr (by exact (pa_cons (pe_said (df := none) (k := 5) (t := tR T (tCons (tVar 1) (tCons (tVar 2) tNil))) T (by rfl) TB rfl hm hu0 hr (lmS_by (N := ["m", "frame", "spot", "due", "kept", "turn", "told_so", "wanted", "lot", "one"]) (sc := defScope (top 32)) (by decide +kernel)) rfl rfl (bnd0 _)
              (fun A outer s H E f c' hr2 => pe_callX (takes_of rfl rfl rfl rfl) G20 hr2 (by rfl) T.g20 T.F20.kp T.b20 (pa_cons (pv 1) (pa_cons (pv 2) pa_nil)))) pa_nil)))
            (pe_callB (cr_repr hg hu) (by rfl) T.z_repr boot_repr (pa_cons (pe_lstN (pa_cons (pv 3) pa_nil)) pa_nil)) (nomark _))
          (pss_one (ps_ret pe_bl)) pss_nil)))
      (pss_cons (ps_for PassesOwn.never rfl (pi_range1 (by rfl) T.z_range (pa_cons pe_int pa_nil)) (pg_name (i := 5) sc32.nd rfl (.inl rfl))
        (pss_cons (ps_set (i := 8) sc32.nd rfl (.inr rfl) (pe_ifExp (PW.pt (pw_and (pt_cmpR (op_neP hu) (pv 3) (pe_tup pa_nil) (nomark _)) (pw_and1 (pt_cmpR op_lt (pv 5) pe_int (nomark _)))))
            (pe_callN G25 (hr.mono (by decide)) (by rfl) T.g25 T.F25.kp T.b25 (by exact (pa_cons (pv 0) (pa_cons (pe_callTy cr_listT (by rfl) T.z_list boot_list (pa_cons (pv 3) pa_nil)) pa_nil))))
            (pe_callN G31 (hr.mono (by decide)) (by rfl) T.g31 T.F31.kp T.b31 (by exact (pa_cons (pv 0) (pa_cons (pv 1) pa_nil))))))
        (pss_cons (ps_set (i := 6) sc32.nd rfl (.inl rfl) (by exact (pe_said (df := none) (k := 5) (t := tB21 T (tCons (tVar 1) (tCons (tVar 2) (tCons (tVar 8) tNil)))) T (by rfl) TB rfl hm hu0 hr (lmS_by (N := ["m", "frame", "spot", "due", "kept", "turn", "told_so", "wanted", "lot", "one"]) (sc := defScope (top 32)) (by decide +kernel)) rfl rfl (bnd0 _)
              (fun A outer s H E f c' hr2 => pe_callX (takes_of rfl rfl rfl rfl) G21 hr2 (by rfl) T.g21 T.F21.kp T.b21 (pa_cons (pv 1) (pa_cons (pv 2) (pa_cons (pv 8) pa_nil)))))))
        (pss_cons (ps_set (i := 7) sc32.nd rfl (.inl rfl) (pe_ifExp (pt_cmpR (r := rIn K false) op_in_seq (pe_callB (cr_repr hg hu) (by rfl) T.z_repr boot_repr (pa_cons (pv 8) pa_nil))
              (pe_lc (own := [("one", 9)]) (g := gName 9) (wi := iTup K (tVar 3)) (te := tCB rRepr (tCons (tVar 9) tNil)) (tt := tYes) rfl sc32.nd (pi_tup (pv 3)) (blkOk_by (N := ["m", "frame", "spot", "due", "kept", "turn", "told_so", "wanted", "lot", "one"]) (sc := defScope (top 32)) (by decide +kernel))
                (fun _ _ _ _ _ => pg_name (i := 9) sc32.nd rfl (.inl rfl)) (fun _ _ _ _ _ => pts_nil) (fun _ _ _ _ _ => by exact (pe_callB (cr_repr hg hu) (by rfl) T.z_repr boot_repr (pa_cons (pv 9) pa_nil)))) (by with_unfolding_all rfl))
            (pe_lstN (by exact (pa_cons (pe_callN G30 (hr.mono (by decide)) (by rfl) T.g30 T.F30.kp T.b30 (pa_cons (pv 1) (pa_cons (pv 2) (pa_cons (pv 8) pa_nil)))) pa_nil)))
            (pe_tup (pa_cons pe_str (pa_cons (pv 8) pa_nil)))))
        (pss_one (ps_if (PW.pt (pw_or (pt_cmpR op_ne (pe_callB (cr_repr hg hu) (by rfl) T.z_repr boot_repr (pa_cons (pv 6) pa_nil)) (pe_callB (cr_repr hg hu) (by rfl) T.z_repr boot_repr (pa_cons (pv 7) pa_nil)) (nomark _))
            (pw_or1 (pt_cmpR op_ne (pe_callB (cr_repr hg hu) (by rfl) T.z_repr boot_repr (by exact (pa_cons (pe_said (df := none) (k := 5) (t := tB21 T (tCons (tVar 1) (tCons (tVar 2) (tCons (tVar 8) tNil)))) T (by rfl) TB rfl hm hu0 hr (lmS_by (N := ["m", "frame", "spot", "due", "kept", "turn", "told_so", "wanted", "lot", "one"]) (sc := defScope (top 32)) (by decide +kernel)) rfl rfl (bnd0 _)
              (fun A outer s H E f c' hr2 => pe_callX (takes_of rfl rfl rfl rfl) G21 hr2 (by rfl) T.g21 T.F21.kp T.b21 (pa_cons (pv 1) (pa_cons (pv 2) (pa_cons (pv 8) pa_nil))))) pa_nil)))
              (pe_callB (cr_repr hg hu) (by rfl) T.z_repr boot_repr (pa_cons (pv 7) pa_nil)) (nomark _)))))
            (pss_one (ps_ret pe_bl)) pss_nil))))))
      (pss_one (ps_ret (pe_cmpR op_eq (pe_callB (cr_repr hg hu) (by rfl) T.z_repr boot_repr (pa_cons (pe_lstN (pa_cons (pv 1) (pa_cons (pv 2) pa_nil))) pa_nil)) (pv 4) (nomark _)))))), ?_⟩
    have len6 := spot_len st
    have pos : ∀ x ∈ ls, 1 ≤ x := fun x hx => (spot_bd st x hx).1
    have go0 : Go Ts m B H H := ⟨Ex.refl H, hT, hmi⟩
    have fP := (sh_pair ok gok st).fits
    have fD := (sh_due1 (ls := ls) ok).fits
    -- due, kept = ..
    refine ⟨p, rfl, sv, rfl, p, sv, h, gs, ls, rfl, fr, ok, isv, pos, by omega, fun H1 t ys s1 ht iy => ?_⟩
    have fr1 := fr.mono (Ex.same s1)
    have is1 := isv.mono (Ex.same s1)
    refine in_repr (mk_pair rfl rfl fr1 is1) fP fun H2 s2 => ?_
    have fr2 := fr1.mono (Ex.same s2)
    have is2 := is1.mono (Ex.same s2)
    have ht2 := s2 _ _ ht
    have iy2 := ITs.mono (Ex.same s2) iy
    have ly : ys.length ≤ 100 := by
      rw [paired_len iy]
      exact dues_le ok
    have go2 : Go Ts m B H2 H2 := ⟨Ex.refl _, ((go0.same s1).same s2).tb, ((go0.same s1).same s2).mi⟩
    have e02 : Ex H H2 := Ex.same (s1.trans s2)
    -- right_days, twice
    refine ⟨_, _, rfl, 2, rfl, by decide, by decide, for_it (walk_range (n := 2)) (fun i σ H' => (∃ y5, σ = [some (.ref m), some p, some sv, some (.ref t), some (.str (pairD h gs ls).shown), y5, none, none, none, none]) ∧ Go Ts m B H2 H') ⟨⟨none, rfl⟩, go2⟩ (fun _ _ _ _ _ => trivial) ?_ ?_⟩
    · rintro i x σ _ H3 hi ⟨⟨y5, rfl⟩, go⟩ ⟨rfl, rfl⟩
      refine in_rep (in_said20 T go (d := tD ls) (fun H4 e4 qq k => ⟨p, rfl, sv, rfl, k H4 p sv (Same.refl _) (fr2.mono (go.ex.trans e4)) (is2.mono (go.ex.trans e4)).rp⟩) gok fun H4 x4 go4 r4 => ?_)
      rw [told20_due ok st] at r4
      refine rep1 r4 fD ?_
      refine in_repr (mk_lst (mk_cons (mk_var rfl (.tup (go4.ex _ _ ht2 rfl) (ITs.mono go4.ex iy2).rp)) mk_nil) (by show 1 ≤ 1000; decide)) fD fun H5 s5 => ?_
      refine ⟨rfl, _, rfl, ite2 (fun c => ?_) (fun c => ?_)⟩
      · rw [decide_eq_true rfl] at c
        cases c
      · exact ⟨⟨_, rfl⟩, go4.same s5⟩
    · rintro σ H3 ⟨⟨y5, rfl⟩, go3⟩
      -- behind, four times
      refine ⟨4, rfl, by decide, by decide, for_it (walk_range (n := 4)) (fun i σ H' => (∃ y5 y6 y7 y8, σ = [some (.ref m), some p, some sv, some (.ref t), some (.str (pairD h gs ls).shown), y5, y6, y7, y8, none]) ∧ Go Ts m (B + 3 * i) H2 H') ⟨⟨_, _, _, _, rfl⟩, go3⟩ (fun _ _ _ _ _ => trivial) ?_ ?_⟩
      · rintro i x σ _ H4 hi ⟨⟨y5', y6, y7, y8, rfl⟩, go⟩ ⟨rfl, rfl⟩
        have bd : B + 3 * i + 3 ≤ 1000000 := by omega
        -- lot = ..
        dsimp only
        refine in_set ?_
        refine in_via (fun x H' => ∃ dy, Go Ts m (B + 3 * (i + 1)) H2 H' ∧ Rp H' x dy ∧ Sh 1000 5 dy ∧ DayLike h.toNat gs.length dy) (fun Q' k => ?_) (fun x H5 c => ?_)
        · have ht4 := go.ex _ _ ht2 rfl
          have iy4 := ITs.mono go.ex iy2
          have fr4 := fr2.mono go.ex
          have any : ∀ H', Same H4 H' → tCallG sp31 (tCons (tVar 0) (tCons (tVar 1) tNil)) [some (.ref m), some p, some sv, some (.ref t), some (.str (pairD h gs ls).shown), some (.int (0 + (i : Int))), y6, y7, y8, none] H' Q' := fun H' s' =>
            ⟨.ref m, rfl, p, rfl, m, p, h, gs, B + 3 * i, rfl, go.mi.same s', bd, fr4.mono (Ex.same s'), ok, fun H6 x d a b ha hb hd rx sd mi => k x H6 ⟨d, by
              have g2 := (go.same s').sd sd mi
              exact ⟨g2.ex, g2.tb, g2.mi.up (by omega)⟩, rx, sh_menu ok.hn ha hb hd, dayLike_menu ok.hn n6 ha hb hd⟩⟩
          refine ⟨.ref t, rfl, Nat.zero_le _, fun e0 he0 => ?_⟩
          have s5 := same_upd (o := .tup []) he0
          refine ⟨.tuple ((dues h gs ls).map tD), .tuple [], .tup (s5 _ _ ht4) (ITs.mono (Ex.same s5) iy4).rp, .tup upd_same .nil, shaped_all _, shaped_all [], _, rfl, ite2 (fun c => ?_) (fun c => any _ s5)⟩
          refine ⟨.int (0 + (i : Int)), rfl, _, 2, rfl, rfl, _, rfl, ite2 (fun c2 => ?_) (fun c2 => any _ s5)⟩
          refine ⟨.ref m, rfl, .ref t, rfl, t, ys, rfl, .inl (.inl (s5 _ _ ht4)), fun l hl hs => ?_⟩
          have s6 := s5.trans (same_upd (o := .lst ys) hl)
          refine ⟨m, l, ys, B + 3 * i, rfl, go.mi.same s6, by omega, upd_same, ?_, by omega, fun H6 j x ex sd mi => ?_⟩
          · rintro rfl
            cases hd : dues h gs ls with
            | nil =>
              rw [hd] at c
              cases c
            | cons a b =>
              rw [hd] at iy
              cases iy
          · obtain ⟨ns, en, it⟩ := L2.paired_get iy4 ex
            have nm := List.mem_of_getElem? en
            have g2 := (go.same s6).sd sd mi
            exact k x H6 ⟨tD ns, ⟨g2.ex, g2.tb, g2.mi.up (by omega)⟩, (it.mono ((Ex.same s6).trans ((go.mi.same s6).ex sd))).rp, (sh_lot ok.hn (dues_mem nm).1).mono (by decide) (by decide), dayLike_lot ok.hn (dues_mem nm).1⟩
        obtain ⟨dy, go5, rx, sx, dl⟩ := c
        have fW := (sh_want (ls := ls) gok ok st sx).fits
        have fX := (sx.mono (W2 := 400000) (D2 := 60) (by decide) (by decide)).fits
        have e25 := go5.ex
        have gg : Go Ts m (B + 3 * (i + 1)) H5 H5 := ⟨Ex.refl _, go5.tb, go5.mi⟩
        have fr5 := fr2.mono e25
        have is5 := is2.mono e25
        have ht5 := e25 _ _ ht2 rfl
        have iy5 := ITs.mono e25 iy2
        -- told_so = ..
        refine in_set (in_said21 T gg (d := tD ls) (dy := dy) (fun H6 e6 qq k => ⟨p, rfl, sv, rfl, x, rfl, k H6 p sv x (Same.refl _) (fr5.mono e6) (is5.mono e6).rp (rx.mono e6)⟩) gok fun H6 x6 g6 r6 => ?_)
        rw [told21_want ok st] at r6
        have e56 := g6.ex
        -- wanted = ..
        refine in_set (in_via (fun y H' => Same H6 H' ∧ Rp H' y (wantD h gs ls dy)) (fun Q' k => ?_) (fun y H7 c => ?_))
        · have rx6 := rx.mono e56
          refine ⟨x, rfl, x, dy, rfl, rx6, fX.1, fX.2.1, fX.2.2, .ref t, rfl, t, rfl, ⟨ys, .inl (.inl (e56 _ _ ht5 rfl))⟩, fun D hD => lc_mp (walk_tup (xs := ys)) (fun j => .str (tD ((dues h gs ls).getD j [])).shown) (by omega) hD (fun H7 s7 => .inl (.inl (s7 _ _ (e56 _ _ ht5 rfl)))) (fun j z H7 H8 Ky hj s7 hy ky => ?_) gName_mono fun H7 s7 hL => ?_⟩
          · obtain ⟨rfl, ez⟩ := hy
            obtain ⟨ns, en, it⟩ := L2.paired_get iy5 ez
            have eg : (dues h gs ls).getD j [] = ns := by rw [List.getD_eq_getElem?_getD, en]; rfl
            have fN := ((sh_lot ok.hn (dues_mem (List.mem_of_getElem? en)).1).mono (W2 := 400000) (D2 := 60) (by decide) (by decide)).fits
            refine ⟨rfl, z, rfl, z, tD ns, rfl, (it.mono (e56.trans (Ex.same s7))).rp, fN.1, fN.2.1, fN.2.2, ky _ _ ?_ (Same.refl _)⟩
            rw [eg]
          · rw [paired_len iy, range_all [] (fun ns => V.str (tD ns).shown) (dues h gs ls)] at hL
            have eL : H7 D = some (.lst (((dues h gs ls).map fun ns => (tD ns).shown).map V.str)) := by
              rw [hL, List.map_map]
              rfl
            refine ⟨D, _, rfl, .inl (.inl (.inl eL)), rfl, flat_strs _, _, rfl, ?_⟩
            show if inV (.str dy.shown) (((dues h gs ls).map fun ns => (tD ns).shown).map V.str) = true then _ else _
            rw [inV_strs, in_dues ok n6 dl]
            have e57 := e56.trans (Ex.same s7)
            refine ite2 (fun c => ?_) (fun c => ?_)
            · have hd : isDay h gs.length dy = true := by
                unfold okB at c
                rw [Bool.and_eq_true] at c
                exact c.1
              refine ⟨p, rfl, sv, rfl, x, rfl, p, sv, x, h, gs, ls, nums dy, rfl, fr5.mono e57, is5.mono e57, rp_tD (by rw [← isDay_tD hd]; exact rx.mono e57), len6, by omega, fun H8 t8 s8 ht8 => ⟨fits (by show 1 ≤ 1000; decide), fun l hl hs => k _ _ ⟨s7.trans (s8.trans (same_upd hl)), ?_⟩⟩⟩
              unfold wantD
              rw [if_pos c]
              exact .lst upd_same hs (.cons (.tup (same_upd hl _ _ ht8) (rpAll_ints _)) .nil)
            · refine ⟨x, rfl, fits (by show 2 ≤ 1000; decide), fun l hl => k _ _ ⟨s7.trans (same_upd hl), ?_⟩⟩
              unfold wantD
              rw [if_neg c]
              exact .tup upd_same (.cons (.str _) (.cons (rx.mono (e57.trans (Ex.upd hl))) .nil))
        obtain ⟨s67, ry⟩ := c
        have g7 := g6.same s67
        have e57 := g7.ex
        have r7 := r6.mono (Ex.same s67)
        refine ⟨x6, rfl, x6, wantD h gs ls dy, rfl, r7, fW.1, fW.2.1, fW.2.2, y, rfl, y, wantD h gs ls dy, rfl, ry, fW.1, fW.2.1, fW.2.2, rfl, _, rfl, ite2 (fun c => ?_) (fun c => ?_)⟩
        · rw [decide_eq_true rfl] at c
          cases c
        have gg7 : Go Ts m (B + 3 * (i + 1)) H7 H7 := ⟨Ex.refl _, g7.tb, g7.mi⟩
        refine in_rep (in_said21 T gg7 (d := tD ls) (dy := dy) (fun H8 e8 qq k => ⟨p, rfl, sv, rfl, x, rfl, k H8 p sv x (Same.refl _) (fr5.mono (e57.trans e8)) (is5.mono (e57.trans e8)).rp (rx.mono (e57.trans e8))⟩) gok fun H8 x8 g8 r8 => ?_)
        rw [told21_want ok st] at r8
        refine rep1 r8 fW ⟨y, rfl, y, wantD h gs ls dy, rfl, ry.mono g8.ex, fW.1, fW.2.1, fW.2.2, rfl, _, rfl, ite2 (fun c => ?_) (fun c => ?_)⟩
        · rw [decide_eq_true rfl] at c
          cases c
        · exact ⟨⟨_, _, _, _, rfl⟩, (g8.from e57).from e25⟩
      · rintro σ H4 ⟨⟨y5', y6, y7, y8, rfl⟩, go⟩
        refine in_repr (mk_pair rfl rfl (fr2.mono go.ex) (is2.mono go.ex)) fP fun H5 s5 => ⟨_, rfl, rfl, ?_⟩
        have z := q H5 ((go.same s5).from e02)
        rw [decide_eq_true rfl]
        exact z
end
end OF
end
section
set_option Elab.async false
set_option linter.all false
set_option maxRecDepth 100000
set_option maxHeartbeats 4000000
/-! Displays that cut and join tuples. -/
namespace OF
open PySem PySem.Spec PySem.Calls PyProof.Rows L2 OFx
theorem rpAll_take {H : Hp} : ∀ {xs : List V} {ds : List PyData} (k : Nat), RpAll H xs ds → RpAll H (xs.take k) (ds.take k)
  | _, _, 0, _ => by
    rw [List.take_zero, List.take_zero]
    exact .nil
  | _, _, _ + 1, .nil => .nil
  | _, _, k + 1, .cons a b => .cons a (rpAll_take k b)
theorem rpAll_drop {H : Hp} : ∀ {xs : List V} {ds : List PyData} (k : Nat), RpAll H xs ds → RpAll H (xs.drop k) (ds.drop k)
  | _, _, 0, h => h
  | _, _, _ + 1, .nil => .nil
  | _, _, k + 1, .cons a b => rpAll_drop k b
theorem cutV_to (xs : List V) (k : Nat) : cutV xs none (some (k : Int)) = xs.take k := by
  unfold cutV
  rw [HT.sIx_nat, HT.sIx_none, List.drop_zero, Nat.sub_zero, List.take_eq_take_iff]
  omega
theorem cutV_from (xs : List V) (k : Nat) : cutV xs (some (k : Int)) none = xs.drop k := by
  unfold cutV
  rw [HT.sIx_nat, HT.sIx_none]
  by_cases h : k ≤ xs.length
  · rw [Nat.min_eq_left h, List.take_of_length_le (by rw [List.length_drop]; omega)]
  · rw [Nat.min_eq_right (by omega), List.drop_length, List.take_nil, List.drop_eq_nil_of_le (by omega)]
section
variable {K : PySem.W.Frag} {te tf : TE} {σ : L2.St} {H : Hp} {ds es : List PyData}
theorem mk_cat (a : Mk te (.tuple ds) σ H) (b : Mk tf (.tuple es) σ H) (hl : ds.length + es.length ≤ 1000) : Mk (tOp (rCatA K) te tf) (.tuple (ds ++ es)) σ H := fun H1 s1 Q q =>
  a H1 s1 _ fun v H2 s2 r => b H2 (s1.trans s2) _ fun v2 H3 s3 r2 => by
    cases r with
    | @tup p xs _ hp hxs =>
      cases r2 with
      | @tup g ys _ hg hys =>
        have l1 := rpA_len hxs
        have l2 := rpA_len hys
        have hx3 := hxs.mono (Ex.same s3)
        refine ⟨p, g, xs, ys, rfl, rfl, .inl (.inl (s3 _ _ hp)), .inl (.inl hg), fits (by omega), fun e => ?_, fun _ e => ?_, fun _ _ p2 hp2 => ?_⟩
        · subst e
          cases hxs
          exact q _ _ (s2.trans s3) (.tup hg hys)
        · subst e
          cases hys
          rw [List.append_nil] at q
          exact q _ _ (s2.trans s3) (.tup (s3 _ _ hp) hx3)
        · exact q _ _ (s2.trans (s3.trans (same_upd hp2))) (.tup upd_same ((rpAll_append hx3 hys).mono (Ex.upd hp2)))
theorem mk_to {k : Nat} (a : Mk te (.tuple ds) σ H) (b : Mk tf (.int k) σ H) : Mk (tSl (rSlA K) te tNoPart (tPart tf)) (.tuple (ds.take k)) σ H := fun H1 s1 Q q =>
  a H1 s1 _ fun v H2 s2 r => b H2 (s1.trans s2) _ fun v2 H3 s3 r2 => by
    cases r with
    | @tup p xs _ hp hxs =>
      have l1 := rpA_len hxs
      have hx3 := hxs.mono (Ex.same s3)
      refine ⟨k, rp_int r2, p, xs, rfl, .inl (.inl (s3 _ _ hp)), fun e => ?_, fun _ p2 hp2 => ?_⟩
      · have e2 := e.2
        rw [HT.sIx_nat] at e2
        rw [List.take_of_length_le (by omega)] at q
        exact q _ _ (s2.trans s3) (.tup (s3 _ _ hp) hx3)
      · rw [cutV_to]
        exact q _ _ (s2.trans (s3.trans (same_upd hp2))) (.tup upd_same ((rpAll_take k hx3).mono (Ex.upd hp2)))
theorem mk_from {k : Nat} (a : Mk te (.tuple ds) σ H) (b : Mk tf (.int k) σ H) : Mk (tSl (rSlA K) te (tPart tf) tNoPart) (.tuple (ds.drop k)) σ H := fun H1 s1 Q q =>
  a H1 s1 _ fun v H2 s2 r => b H2 (s1.trans s2) _ fun v2 H3 s3 r2 => by
    cases r with
    | @tup p xs _ hp hxs =>
      have l1 := rpA_len hxs
      have hx3 := hxs.mono (Ex.same s3)
      refine ⟨k, rp_int r2, p, xs, rfl, .inl (.inl (s3 _ _ hp)), fun e => ?_, fun _ p2 hp2 => ?_⟩
      · have e2 := e.1
        rw [HT.sIx_nat] at e2
        by_cases z : k = 0
        · subst z
          exact q _ _ (s2.trans s3) (.tup (s3 _ _ hp) hx3)
        · have : xs = [] := List.eq_nil_of_length_eq_zero (by omega)
          subst this
          cases hxs
          rw [List.drop_nil] at q
          exact q _ _ (s2.trans s3) (.tup (s3 _ _ hp) .nil)
      · rw [cutV_from]
        exact q _ _ (s2.trans (s3.trans (same_upd hp2))) (.tup upd_same ((rpAll_drop k hx3).mono (Ex.upd hp2)))
theorem mk_ix {i : Nat} {d : PyData} (a : Mk te (.tuple ds) σ H) (b : Mk tf (.int i) σ H) (e : ds[i]? = some d) : Mk (tOp (rIxT K) te tf) d σ H := fun H1 s1 Q q =>
  a H1 s1 _ fun v H2 s2 r => b H2 (s1.trans s2) _ fun v2 H3 s3 r2 => by
    cases r with
    | @tup p xs _ hp hxs =>
      have l1 := rpA_len hxs
      have hi : i < xs.length := by
        rw [l1]
        exact (List.getElem?_eq_some_iff.mp e).1
      have ex := List.getElem?_eq_getElem hi
      obtain ⟨d', e', r'⟩ := rpAll_get (hxs.mono (Ex.same s3)) ex
      rw [e] at e'
      cases e'
      exact ⟨p, xs, i, _, rfl, rp_int r2, .inl (.inl (s3 _ _ hp)), atI_nat ex, q _ _ (s2.trans s3) r'⟩
/-- list(t) -/
def rLT (K : PySem.W.Frag) : List V → Hp → VK → Prop := fun xs H Q => ∃ p ys, xs = [.ref p] ∧ SqT K H p ys ∧ ∀ l, H l = none → (l == sysModules) = false → Q (.ref l) (upd H l (.lst ys))
theorem cr_lt {X : Cx} : CallR X (.type "list") (rLT X.K) := cr_listT
theorem mk_list {te : TE} (a : Mk te (.tuple ds) σ H) : Mk (tCB (rLT K) (tCons te tNil)) (.list ds) σ H := fun H1 s1 Q q =>
  a H1 s1 _ fun v H2 s2 r => by
    cases r with
    | @tup p xs _ hp hxs => exact ⟨p, xs, rfl, .inl (.inl hp), fun l hl hs => q _ _ (s2.trans (same_upd hl)) (.lst upd_same hs (hxs.mono (Ex.upd hl)))⟩
end
end OF
end
section
set_option Elab.async false
set_option linter.all false
set_option maxRecDepth 100000
set_option maxHeartbeats 4000000
/-! _law_bad_right -/
namespace OF
open PySem PySem.Spec PySem.Calls PyProof.Rows L2 OFx
/-- the spot's data with d in place of the k-th -/
def swap (xs : List PyData) (k : Nat) (d : PyData) : PyData := .tuple ((xs.take k ++ [d]) ++ xs.drop (k + 1))
def bads1 (xs : List PyData) (k : Nat) (g : Int) : List PyData := [swap xs k (.int (g + 1)), swap xs k (.int 0), .tuple (xs ++ [.int 1]), .tuple (xs.drop 1), .list xs]
def bads2 (xs : List PyData) (k : Nat) : List PyData := [swap xs k (.bool true), .none, .int 1, .str "", .tuple [], .dict [], swap xs k .none, .tuple [.tuple xs]]
theorem sh_few {ds : List PyData} (hl : ds.length ≤ 8) (h : ∀ d ∈ ds, Sh 102 0 d) : ShA 824 0 ds := (shA_all h).mono (Nat.mul_le_mul_right 103 hl) (Nat.le_refl _)
theorem sh_swap {xs : List PyData} {k : Nat} {d : PyData} (hl : xs.length ≤ 6) (h : ∀ d ∈ xs, Sh 102 0 d) (hd : Sh 102 0 d) : Sh 1000 5 (swap xs k d) := by
  refine (sh_tup (sh_few ?_ ?_)).mono (by decide) (by decide)
  · rw [List.length_append, List.length_append, List.length_take, List.length_drop]
    show min k xs.length + 1 + _ ≤ 8
    omega
  · intro e he
    rcases List.mem_append.mp he with he | he
    · rcases List.mem_append.mp he with he | he
      · exact h e (List.mem_of_mem_take he)
      · rw [List.mem_singleton.mp he]
        exact hd
    · exact h e (List.mem_of_mem_drop he)
theorem sh_bads {xs : List PyData} {k : Nat} {g : Int} (hl : xs.length ≤ 6) (h : ∀ d ∈ xs, Sh 102 0 d) (hg : Big (g + 1)) {d : PyData} (hd : d ∈ bads1 xs k g ++ bads2 xs k) : Sh 1000 5 d := by
  have i0 : Sh 102 0 (.int 0) := sh_int (by unfold Big; decide)
  have i1 : Sh 102 0 (.int 1) := sh_int (by unfold Big; decide)
  have xT : Sh 1000 5 (.tuple xs) := (sh_tup (sh_few (by omega) h)).mono (by decide) (by decide)
  unfold bads1 bads2 at hd
  simp only [List.cons_append, List.nil_append, List.mem_cons, List.not_mem_nil, or_false] at hd
  rcases hd with e | e | e | e | e | e | e | e | e | e | e | e | e <;> subst e
  · exact sh_swap hl h (sh_int hg)
  · exact sh_swap hl h i0
  · refine (sh_tup (sh_few ?_ fun e he => ?_)).mono (by decide) (by decide)
    · rw [List.length_append]
      show _ + 1 ≤ 8
      omega
    · rcases List.mem_append.mp he with he | he
      · exact h e he
      · rw [List.mem_singleton.mp he]
        exact i1
  · refine (sh_tup (sh_few ?_ fun e he => h e (List.mem_of_mem_drop he))).mono (by decide) (by decide)
    rw [List.length_drop]
    omega
  · exact (sh_list (sh_few (by omega) h)).mono (by decide) (by decide)
  · exact sh_swap hl h ⟨rfl, rfl, by decide, by decide⟩
  · exact ⟨rfl, rfl, by decide, by decide⟩
  · exact i1.mono (by decide) (by decide)
  · exact (sh_str (x := "") (by decide) (by decide)).mono (by decide) (by decide)
  · exact ⟨rfl, rfl, by decide, by decide⟩
  · exact ⟨rfl, rfl, by decide, by decide⟩
  · exact sh_swap hl h ⟨rfl, rfl, by decide, by decide⟩
  · exact (sh_tup (shA_cons (sh_tup (sh_few (by omega) h)) shA_nil)).mono (by decide) (by decide)
/-- ("standing", bad), twice -/
def badD (d : PyData) : PyData := .list [.tuple [.str "standing", d], .tuple [.str "standing", d]]
theorem sh_badD {d : PyData} (s : Sh 1000 5 d) : Sh 400000 60 (badD d) := by
  have t := sh_tup (shA_cons ((sh_str (x := "standing") (by decide) (by decide)).mono (Nat.le_refl _) (by decide)) (shA_cons s shA_nil))
  exact (sh_list (shA_cons t (shA_cons t shA_nil))).mono (by decide) (by decide)
theorem told20_bad {h : Int} {gs : List Int} {d : PyData} (o : PlanOk h gs) (s : isSt gs d = false) : told20 h gs d = .tuple [.str "standing", d] := by
  unfold told20
  rw [planErr_ok o, s]
  rfl
theorem told21_bad {h : Int} {gs : List Int} {d dy : PyData} (o : PlanOk h gs) (s : isSt gs d = false) : told21 h gs d dy = .tuple [.str "standing", d] := by
  unfold told21
  rw [planErr_ok o, s]
  rfl
theorem in_nx {D : Ends} {σ : L2.St} {H : Hp} (h : D.nx σ H) : tNext D σ H := h
section
variable {P : Program} {w : World} {K : PySem.W.Frag} {mg : Str → Option Value} {base : Heap}
/-- spot[:k] + x + spot[k + 1:] -/
def tSw (K : PySem.W.Frag) (te : TE) : TE := tOp (rCatA K) (tOp (rCatA K) (tSl (rSlA K) (tVar 2) tNoPart (tPart (tVar 3))) (tTup (tCons te tNil))) (tSl (rSlA K) (tVar 2) (tPart (tOp (rI0 fun i j => .int (i + j)) (tVar 3) (tC (.int 1)))) tNoPart)
theorem mk_sw {σ : L2.St} {H : Hp} {te : TE} {xs : List PyData} {k : Nat} {d : PyData} (hl : xs.length ≤ 6) (a : Mk (tVar 2) (.tuple xs) σ H) (b : Mk (tVar 3) (.int k) σ H) (c : Mk te d σ H) : Mk (tSw K te) (swap xs k d) σ H := by
  refine mk_cat (mk_cat (mk_to a b) (mk_tup (mk_cons c mk_nil) (by show 1 ≤ 1000; decide)) ?_) (mk_from (k := k + 1) a (by exact mk_add b)) ?_
  · rw [List.length_take]
    show _ + 1 ≤ 1000
    omega
  · rw [List.length_append, List.length_take, List.length_drop]
    show _ + 1 + _ ≤ 1000
    omega
def t33a (K : PySem.W.Frag) : TA := tCons (tSw K (tOp (rI0 fun i j => .int (i + j)) (tOp (rIxT K) (tVar 4) (tVar 3)) (tC (.int 1)))) (tCons (tSw K (tC (.int 0))) (tCons (tOp (rCatA K) (tVar 2) (tTup (tCons (tC (.int 1)) tNil))) (tCons (tSl (rSlA K) (tVar 2) (tPart (tC (.int 1))) tNoPart) (tCons (tCB (rLT K) (tCons (tVar 2) tNil)) tNil))))
def t33b (K : PySem.W.Frag) : TA := tCons (tSw K (tC (.bl true))) (tCons (tC .non) (tCons (tC (.int 1)) (tCons (tC (.str "")) (tCons (tTup tNil) (tCons tDNewK (tCons (tSw K (tC .non)) (tCons (tTup (tCons (tVar 2) tNil)) tNil)))))))
theorem mk_33a {σ : L2.St} {H : Hp} {xs gx : List PyData} {k : Nat} {g : Int} (hl : xs.length ≤ 6) (a : Mk (tVar 2) (.tuple xs) σ H) (b : Mk (tVar 3) (.int k) σ H) (c : Mk (tVar 4) (.tuple gx) σ H) (e : gx[k]? = some (.int g)) : Mk (tLstN (t33a K)) (.list (bads1 xs k g)) σ H := by
  refine mk_lst (ds := bads1 xs k g) ?_ (by show 5 ≤ 1000; decide)
  refine mk_cons (mk_sw hl a b (mk_add (mk_ix c b e))) (mk_cons (mk_sw hl a b mk_int) (mk_cons (mk_cat a (mk_tup (mk_cons mk_int mk_nil) (by show 1 ≤ 1000; decide)) ?_) (mk_cons (mk_from (k := 1) a mk_int) (mk_cons (mk_list a) mk_nil))))
  show _ + 1 ≤ 1000
  omega
theorem mk_33b {σ : L2.St} {H : Hp} {xs : List PyData} {k : Nat} (hl : xs.length ≤ 6) (a : Mk (tVar 2) (.tuple xs) σ H) (b : Mk (tVar 3) (.int k) σ H) : Mk (tLstN (t33b K)) (.list (bads2 xs k)) σ H := by
  refine mk_lst (ds := bads2 xs k) ?_ (by show 8 ≤ 1000; decide)
  exact mk_cons (mk_sw hl a b mk_bl) (mk_cons mk_non (mk_cons mk_int (mk_cons mk_str (mk_cons (mk_tup (ds := []) mk_nil (by show 0 ≤ 1000; decide)) (mk_cons mk_dict (mk_cons (mk_sw hl a b mk_non) (mk_cons (mk_tup (mk_cons a mk_nil) (by show 1 ≤ 1000; decide)) mk_nil)))))))
def sp33 (Ts : List (Addr × Str)) : Sp := fun vs H Q _ => ∃ (m : Addr) (p s : V) (h : Int) (gs ls : List Int) (B : Nat), vs = [.ref m, p, s] ∧ MI m B H ∧ B + 20 ≤ 1000000 ∧ LamX.Tabs Ts H ∧ Fr H p h gs ∧ PlanOk h gs ∧ GsOk gs ∧ gs.length ≤ 6 ∧ IT H s ls ∧ isSt gs (tD ls) = true ∧
  ∀ H', Go Ts m (B + 2) H H' → Q (.bl true) H'
theorem sc33 : FnScope ["m", "frame", "spot", "k", "most", "some", "told_so", "bad"] ["m", "frame", "spot"] (defScope (top 33)) := ⟨rfl, rfl, rfl, by decide +kernel, rfl, by decide +kernel, by decide +kernel⟩
theorem ok33 (T : TX P K mg) {Ts : List (Addr × Str)} (TB : LamX.TabB base mg T.c33 T.p33) (hm : (T.p33, ("_law_bad_right.<locals>.<lambda>" : Str)) ∈ Ts) (hu0 : ∀ p ∈ Ts, p.1 = T.p33 → p.2 = "_law_bad_right.<locals>.<lambda>") : FnG P w K mg base 8 T.f33 T.d33 ["m", "frame", "spot"] (sp33 Ts) := by
  refine T.L33.okG sc33 (fun vs H Q E h => ?_) (fun A outer s H vs Q hr hgd h => ?_)
  · obtain ⟨m, p, s, h, gs, ls, B, rfl, _⟩ := h
    rfl
  · obtain ⟨m, p0, sv, h, gs, ls, B, rfl, hmi, hB, hT, fr, ok, gok, n6, isv, st, q⟩ := h
    have G20 : FnOk P w K mg base (L2.CX P w) 5 T.f20 T.d20 ["plan", "standing"] (sp20 T.CP T.CS) := ok20 T
    have G21 : FnOk P w K mg base (L2.CX P w) 5 T.f21 T.d21 ["plan", "standing", "day"] (sp21 T.CP T.CD T.CS) := ok21 T
    have G24 : FnOk P w K mg base C8.CX0 1 T.f24 T.d24 ["m", "many"] sp24 := ok24 T
    have G25 : FnOk P w K mg base C8.CX0 2 T.f25 T.d25 ["m", "some"] sp25 := ok25 T
    have G28 : FnOk P w K mg base C8.CX0 1 T.f28 T.d28 ["frame", "thing"] sp15 := ok28 T
    have hu : (A.deeper (envOfC "_law_bad_right" (defScope (top 33)) s.heap.objs.size T.f33 (.ref T.c33))).units + 64 < cLine := hr.units
    have hg : (A.deeper (envOfC "_law_bad_right" (defScope (top 33)) s.heap.objs.size T.f33 (.ref T.c33))).guards = some [] := hgd
    refine ⟨_, pss_cons (ps_par (i := 3) (j := 4) rfl sc33.nd rfl rfl (by decide) rfl rfl (pa_cons (pe_callN G24 (hr.mono (by decide)) (by rfl) T.g24 T.F24.kp T.b24 (by exact (pa_cons (pv 0) (pa_cons (pe_callB cr_len (by rfl) T.z_len boot_len (pa_cons (pv 2) pa_nil)) pa_nil))))
        (pa_cons (pe_ix (r := rIxT K) ix_tup (pv 1) pe_int (fun _ _ => rfl)) pa_nil)) (by with_unfolding_all rfl))
      (pss_cons (ps_set (i := 5) sc33.nd rfl (.inl rfl) (pe_lstN (t := t33a K) (by exact (
          pa_cons (pe_op (r := rCatA K) op_catA (pe_op (r := rCatA K) op_catA (pe_slice sl_tupA (pv 2) po_none (po_some (pv 3))) (pe_tup (pa_cons (pe_op op_add (pe_ix (r := rIxT K) ix_tup (pv 4) (pv 3) (fun _ _ => rfl)) pe_int) pa_nil))) (pe_slice sl_tupA (pv 2) (po_some (pe_op op_add (pv 3) pe_int)) po_none))
          (pa_cons (pe_op (r := rCatA K) op_catA (pe_op (r := rCatA K) op_catA (pe_slice sl_tupA (pv 2) po_none (po_some (pv 3))) (pe_tup (pa_cons pe_int pa_nil))) (pe_slice sl_tupA (pv 2) (po_some (pe_op op_add (pv 3) pe_int)) po_none))
          (pa_cons (pe_op (r := rCatA K) op_catA (pv 2) (pe_tup (pa_cons pe_int pa_nil)))
          (pa_cons (pe_slice sl_tupA (pv 2) (po_some pe_int) po_none)
          (pa_cons (pe_callTy (r := rLT K) cr_lt (by rfl) T.z_list boot_list (pa_cons (pv 2) pa_nil)) pa_nil))))))))
      (pss_cons (ps_set (i := 5) sc33.nd rfl (.inl rfl) (pe_op op_cat (pv 5) (pe_lstN (t := t33b K) (by exact (
          pa_cons (pe_op (r := rCatA K) op_catA (pe_op (r := rCatA K) op_catA (pe_slice sl_tupA (pv 2) po_none (po_some (pv 3))) (pe_tup (pa_cons pe_bl pa_nil))) (pe_slice sl_tupA (pv 2) (po_some (pe_op op_add (pv 3) pe_int)) po_none))
          (pa_cons pe_non (pa_cons pe_int (pa_cons pe_str (pa_cons (pe_tup pa_nil) (pa_cons pe_dnewK
          (pa_cons (pe_op (r := rCatA K) op_catA (pe_op (r := rCatA K) op_catA (pe_slice sl_tupA (pv 2) po_none (po_some (pv 3))) (pe_tup (pa_cons pe_non pa_nil))) (pe_slice sl_tupA (pv 2) (po_some (pe_op op_add (pv 3) pe_int)) po_none))
          (pa_cons (pe_tup (pa_cons (pv 2) pa_nil)) pa_nil))))))))))))
      (pss_cons (ps_set (i := 7) sc33.nd rfl (.inr rfl) (pe_callN G25 (hr.mono (by decide)) (by rfl) T.g25 T.F25.kp T.b25 (by exact (pa_cons (pv 0) (pa_cons (pv 5) pa_nil)))))
      (pss_cons (ps_if (pt_val (pe_callN G28 (hr.mono (by decide)) (by rfl) T.g28 T.F28.kp T.b28 (by exact (pa_cons (pv 1) (pa_cons (pv 7) pa_nil))))) (pss_one (ps_ret pe_bl)) pss_nil)
      (pss_cons (ps_set (i := 6) sc33.nd rfl (.inl rfl) (pe_lstN (by exact (
          pa_cons (pe_said (df := none) (k := 5) (t := tR T (tCons (tVar 1) (tCons (tVar 7) tNil))) T (by rfl) TB rfl hm hu0 hr (lmS_by (N := ["m", "frame", "spot", "k", "most", "some", "told_so", "bad"]) (sc := defScope (top 33)) (by decide +kernel)) rfl rfl (bnd0 _)
              (fun A outer s H E f c' hr2 => pe_callX (takes_of rfl rfl rfl rfl) G20 hr2 (by rfl) T.g20 T.F20.kp T.b20 (pa_cons (pv 1) (pa_cons (pv 7) pa_nil))))
          (pa_cons (pe_said (df := some 0) (k := 5) (t := tB21 T (tCons (tVar 1) (tCons (tVar 7) (tCons (tTup (tCons (tC (.int 9)) tNil)) tNil)))) T (by rfl) TB rfl hm hu0 hr (lmS_by (N := ["m", "frame", "spot", "k", "most", "some", "told_so", "bad"]) (sc := defScope (top 33)) (by decide +kernel)) ⟨_, _, rfl⟩ rfl (bnd1 _ _ _ _ rfl)
              (fun A outer s H E f c' hr2 => pe_callX (takes_of rfl rfl rfl rfl) G21 hr2 (by rfl) T.g21 T.F21.kp T.b21 (by exact (pa_cons (pv 1) (pa_cons (pv 7) (pa_cons (pe_tup (pa_cons pe_int pa_nil)) pa_nil)))))) pa_nil)))))
      (pss_one (ps_ret (pe_cmpR op_eq (pe_callB (cr_repr hg hu) (by rfl) T.z_repr boot_repr (pa_cons (pv 6) pa_nil))
          (pe_callB (cr_repr hg hu) (by rfl) T.z_repr boot_repr (pa_cons (pe_lstN (pa_cons (pe_tup (pa_cons pe_str (pa_cons (pv 7) pa_nil))) (pa_cons (pe_tup (pa_cons pe_str (pa_cons (pv 7) pa_nil))) pa_nil))) pa_nil)) (nomark _))))))))), ?_⟩
    have go0 : Go Ts m B H H := ⟨Ex.refl H, hT, hmi⟩
    have len6 := spot_len st
    obtain ⟨a, rfl, ha⟩ := isv
    obtain ⟨p, g, rfl, hp, hgg⟩ := fr
    have frH : Fr H (.ref p) h gs := ⟨p, g, rfl, hp, hgg⟩
    have isH : IT H (.ref a) ls := ⟨a, rfl, ha⟩
    have lx6 : (ls.map PyData.int).length ≤ 6 := by
      rw [List.length_map]
      omega
    -- k, most = ..
    refine ⟨.ref m, rfl, .ref a, rfl, a, _, rfl, .inr (.inl (.inl ha)), m, _, B, rfl, ?_, ?_, hmi, by omega, fun H1 r r0 r1 sd1 mi1 => ?_⟩
    · rw [List.length_map]
      have := ok.2.1
      omega
    · rw [List.length_map]
      have : (10 ^ 30 : Int) = 1000000000000000000000000000000 := by decide
      omega
    obtain ⟨k, rfl⟩ : ∃ k : Nat, r = (k : Int) := ⟨r.toNat, by omega⟩
    rw [List.length_map] at r1
    have kl : k < gs.length := by omega
    have eg : gs.getD k 0 = gs[k] := by rw [List.getD_eq_getElem?_getD, List.getElem?_eq_getElem kl]; rfl
    have gbig : Big (gs.getD k 0 + 1) := by
      rw [eg]
      have z := gok gs[k] (List.getElem_mem kl)
      unfold Big
      have : (2 * 10 ^ 30 : Nat) = 2000000000000000000000000000000 := by decide
      have : (10 ^ 30 : Int) = 1000000000000000000000000000000 := by decide
      omega
    have g1 := go0.sd sd1 mi1
    have hg1 := g1.ex _ _ hgg rfl
    refine ⟨.ref p, rfl, p, _, 1, .ref g, rfl, rfl, .inl (.inl (g1.ex _ _ hp rfl)), atI_nat (j := 1) rfl, _, _, rfl, ?_⟩
    -- some = ..
    dsimp only
    refine in_set ?_
    refine mk_33a (xs := ls.map .int) (gx := gs.map .int) (k := k) (g := gs.getD k 0) lx6 (mk_var rfl (isH.mono g1.ex).rp) (mk_var rfl (.int _)) (mk_var rfl (.tup hg1 (rpAll_ints gs))) (by rw [List.getElem?_map, List.getElem?_eq_getElem kl, eg]; rfl) H1 (Same.refl _) _ fun v H2 s2 r2 => ?_
    have g2 := g1.same s2
    cases r2 with
    | @lst S xs5 _ hS _ rs5 =>
    have l5 : xs5.length = 5 := rpA_len rs5
    refine in_set ?_
    refine ⟨.ref S, rfl, mk_33b (xs := ls.map .int) (k := k) lx6 (mk_var rfl (isH.mono g2.ex).rp) (mk_var rfl (.int _)) H2 (Same.refl _) _ fun v H3 s3 r3 => ?_⟩
    have g3 := g2.same s3
    cases r3 with
    | @lst L xs8 _ hL _ rs8 =>
    have l8 : xs8.length = 8 := rpA_len rs8
    refine ⟨S, L, xs5, xs8, rfl, rfl, s3 _ _ hS, hL, fits (by omega), fun C hC => ?_⟩
    have s4 := same_upd (o := .lst (xs5 ++ xs8)) hC
    have g4 := g3.same s4
    have all : RpAll (upd H3 C (.lst (xs5 ++ xs8))) (xs5 ++ xs8) (bads1 (ls.map .int) k (gs.getD k 0) ++ bads2 (ls.map .int) k) := rpAll_append (rs5.mono (Ex.same (s3.trans s4))) (rs8.mono (Ex.same s4))
    -- bad = ..
    refine in_set ?_
    refine ⟨.ref m, rfl, .ref C, rfl, m, C, _, B + 1, rfl, g4.mi, by omega, upd_same, ?_, by rw [List.length_append]; omega, fun H5 j x ex sd5 mi5 => ?_⟩
    · intro e
      have e2 := congrArg List.length e
      rw [List.length_append, l5, l8] at e2
      cases e2
    obtain ⟨d, ed, rd⟩ := rpAll_get all ex
    have sx := sh_bads (xs := ls.map .int) (k := k) (g := gs.getD k 0) lx6 (fun e he => by
      obtain ⟨y, hy, rfl⟩ := List.mem_map.mp he
      exact sh_int (spot_big gok st y hy)) gbig (List.mem_of_getElem? ed)
    have fB := (sh_badD sx).fits
    have g5 := g4.sd sd5 mi5
    have rd5 := rd.mono (g4.mi.ex sd5)
    have fr5 := frH.mono g5.ex
    refine ⟨.ref p, rfl, x, rfl, .ref p, x, h, gs, d, rfl, fr5, rd5, by omega, fun H6 s6 => ⟨_, rfl, ite2 (fun c => q H6 (g5.same s6)) (fun c => ?_)⟩⟩
    have sb : isSt gs d = false := Bool.eq_false_iff.mpr c
    have g6 := g5.same s6
    have rd6 := rd5.mono (Ex.same s6)
    have fr6 := fr5.mono (Ex.same s6)
    have gg6 : Go Ts m (B + 1 + 1) H6 H6 := ⟨Ex.refl _, g6.tb, g6.mi⟩
    -- told_so = ..
    refine in_said20 T gg6 (d := d) (fun H7 e7 qq kk => ⟨.ref p, rfl, x, rfl, kk H7 (.ref p) x (Same.refl _) (fr6.mono e7) (rd6.mono e7)⟩) gok fun H7 x7 g7 r7 => ?_
    rw [told20_bad ok sb] at r7
    have gg7 : Go Ts m (B + 1 + 1) H7 H7 := ⟨Ex.refl _, g7.tb, g7.mi⟩
    refine in_said21 T gg7 (d := d) (dy := tD [9]) (fun H8 e8 qq kk => ⟨.ref p, rfl, x, rfl, fits (by show 1 ≤ 1000; decide), fun t8 ht8 => kk _ (.ref p) x (.ref t8) (same_upd ht8) ((fr6.mono g7.ex).mono (e8.trans (Ex.upd ht8))) ((rd6.mono g7.ex).mono (e8.trans (Ex.upd ht8))) (.tup upd_same (rpAll_ints [9]))⟩) gok fun H8 x8 g8 r8 => ?_
    rw [told21_bad ok sb] at r8
    refine ⟨fits (by show 2 ≤ 1000; decide), fun l hl hs => ?_⟩
    have s9 := same_upd (o := .lst [x7, x8]) hl
    have e69 := (g7.ex.trans g8.ex).trans (Ex.same s9)
    refine ⟨.ref l, rfl, .ref l, badD d, rfl, .lst upd_same hs (.cons (r7.mono (g8.ex.trans (Ex.same s9))) (.cons (r8.mono (Ex.same s9)) .nil)), fB.1, fB.2.1, fB.2.2, ?_⟩
    have mk1 : ∀ σ : L2.St, σ[7]? = some (some x) → Mk (tTup (tCons (tC (.str "standing")) (tCons (tVar 7) tNil))) (.tuple [.str "standing", d]) σ (upd H8 l (.lst [x7, x8])) := fun σ e => mk_tup (mk_cons mk_str (mk_cons (mk_var e (rd6.mono e69)) mk_nil)) (by show 2 ≤ 1000; decide)
    refine in_repr (mk_lst (mk_cons (mk1 _ rfl) (mk_cons (mk1 _ rfl) mk_nil)) (by show 2 ≤ 1000; decide)) fB fun H9 s10 => ⟨rfl, ?_⟩
    have z := q H9 ((((g8.from g7.ex).from g6.ex).same s9).same s10)
    have e : decide (V.str (badD d).shown = V.str (badD d).shown) = true := decide_eq_true rfl
    rw [← e] at z
    exact z
end
end OF
end
section
set_option Elab.async false
set_option linter.all false
set_option maxRecDepth 100000
set_option maxHeartbeats 4000000
/-! Comprehensions that draw. -/
namespace OF
open PySem PySem.Spec PySem.Calls PyProof.Rows L2 OFx
theorem tabs_put {Ts : List (Addr × Str)} {H : Hp} {D : Addr} {xs : List V} {o : HO} (t : LamX.Tabs Ts H) (hD : H D = some (.lst xs)) : LamX.Tabs Ts (upd H D o) := fun p hp => by
  obtain ⟨ps, h1, h2, h3⟩ := t p hp
  refine ⟨ps, by rw [upd_ne (ne_of h1 hD (by intro z; cases z))]; exact h1, h2, fun pos cv e => ?_⟩
  obtain ⟨c, e1, e2⟩ := h3 pos cv e
  exact ⟨c, e1, by rw [upd_ne (ne_of e2 hD (by intro z; cases z))]; exact e2⟩
theorem MI.put {m D : Addr} {B : Nat} {H : Hp} {xs : List V} {ns : List Int} (x : MI m B H) (hD : H D = some (.lst xs)) (h1 : ns ≠ []) (h2 : ns.length ≤ 1000) : MI m B (upd H D (.lst (ns.map V.int))) := by
  have nm := x.ne hD
  obtain ⟨l, s, c, sp, cs, a1, a2, a3, a4, a5, a6, a7, a8⟩ := x
  by_cases e : c = D
  · subst e
    exact ⟨l, s, c, sp, ns, by rw [upd_ne (fun z => nm z.symm)]; exact a1, a2, a3, a4, a5, upd_same, h1, h2⟩
  · exact ⟨l, s, c, sp, cs, by rw [upd_ne (fun z => nm z.symm)]; exact a1, a2, a3, a4, a5, by rw [upd_ne e]; exact a6, a7, a8⟩
/-- each turn draws: what comes is an int that R allows -/
theorem lc_dr {J : It} {n : Nat} {G : Hp → Prop} {Y : Nat → Hp → V → Hp → Prop} (w : Walk J n G Y) {te : TE} {vs : List Nat} {g : TG} {σ : L2.St} {H1 : Hp} {D : Addr} {Qd : Hp → Prop} {Ts : List (Addr × Str)} {m : Addr} {B c : Nat} (R : Nat → Int → Prop) (hn : n ≤ 1000) (go : Go Ts m B H1 H1) (hD : H1 D = none) (hG : ∀ H, Ex H1 H → G H)
    (hs : ∀ i x H2 H' (Ky : V → Hp → Prop), i < n → Go Ts m (B + c * i) H1 H2 → Y i H2 x H' → (∀ z H5, R i z → Sd m H2 H5 → MI m (B + c * (i + 1)) H5 → Ky (.int z) H5) → g x (wipe σ vs) H' fun σ2 H3 => wipe σ2 vs = wipe σ vs ∧ te σ2 H3 Ky)
    (gm : ∀ x σ H (q q' : L2.St → Hp → Prop), (∀ σ H, q σ H → q' σ H) → g x σ H q → g x σ H q')
    (hd : ∀ H' (ns : List Int), Go Ts m (B + c * n) H1 H' → ns.length = n → (∀ i, i < n → R i (ns.getD i 0)) → H' D = some (.lst (ns.map V.int)) → Qd H') :
    ∃ W : Nat → Nat → Hp → Prop, (∃ m, W 0 m (upd H1 D (.lst []))) ∧ ∀ i m H, W i m H →
      (J.stop i H ∧ Qd H) ∨ (J.go i H ∧ ∃ Nx : Hp → Prop, (∀ H', Nx H' → ∃ m', m' < m ∧ W (i + 1) m' H') ∧ ∀ x H', J.yld i H x H' → g x (wipe σ vs) H' fun σ2 H2 => wipe σ2 vs = wipe σ vs ∧ tYes σ2 H2 fun b H3 =>
        if b = true then te σ2 H3 fun y H4 => ∃ acc, H4 D = some (.lst acc) ∧ acc.length < sizeLine ∧ Nx (upd H4 D (.lst (acc ++ [y]))) else Nx H3) := by
  refine lc_it w (fun i H => ∃ ns : List Int, ns.length = i ∧ (∀ j, j < i → R j (ns.getD j 0)) ∧ H D = some (.lst (ns.map V.int)) ∧ Go Ts m (B + c * i) H1 H) ⟨[], rfl, fun j hj => absurd hj (Nat.not_lt_zero _), upd_same, go.same (same_upd hD)⟩
    (fun i H _ p => let ⟨_, _, _, _, g⟩ := p; hG H g.ex) (fun i x H H' hi p y => ?_) fun H p => let ⟨ns, a, b, c, d⟩ := p; hd H ns d a b c
  obtain ⟨ns, ln, hr, hL, g2⟩ := p
  refine gm _ _ _ _ _ (fun σ2 H3 q => ⟨q.1, q.2⟩) (hs i x H H' _ hi g2 y fun z H5 rz sd mi => ?_)
  have hL5 := sd D _ (g2.mi.ne hL) hL
  have g5 := g2.sd sd mi
  have em : (ns ++ [z]).map V.int = ns.map V.int ++ [V.int z] := by rw [List.map_append]; rfl
  have mi6 := g5.mi.put (ns := ns ++ [z]) hL5 (by simp) (by rw [List.length_append]; show _ + 1 ≤ 1000; omega)
  rw [em] at mi6
  refine ⟨_, hL5, small1000 (by rw [List.length_map]; omega), ns ++ [z], by rw [List.length_append, ln]; rfl, fun j hj => ?_, by rw [upd_same, em], ⟨fun b o e f => ?_, tabs_put g5.tb hL5, mi6⟩⟩
  · by_cases e : j < ns.length
    · rw [List.getD_eq_getElem?_getD, List.getElem?_append_left e, ← List.getD_eq_getElem?_getD]
      exact hr j (by omega)
    · have ej : j = i := by omega
      rw [List.getD_eq_getElem?_getD, List.getElem?_append_right (by omega), ej, ln, Nat.sub_self]
      exact rz
  · rw [upd_ne (ne_of_none e hD)]
    exact g5.ex b o e f
theorem isSt_of {gs ls : List Int} (hl : ls.length = gs.length) (h : ∀ i, i < gs.length → 1 ≤ ls.getD i 0 ∧ ls.getD i 0 ≤ gs.getD i 0) : isSt gs (tD ls) = true := by
  show (decide ((ls.map PyData.int).length = gs.length) && ((ls.map PyData.int).zip gs).all fun p => isW 1 p.2 p.1) = true
  rw [Bool.and_eq_true, decide_eq_true_eq, List.length_map, List.all_eq_true]
  refine ⟨hl, fun x hx => ?_⟩
  obtain ⟨i, hi, e⟩ := List.getElem_of_mem hx
  have e' : ((ls.map PyData.int).zip gs)[i]? = some x := by rw [List.getElem?_eq_getElem hi, e]
  obtain ⟨d, g⟩ := x
  obtain ⟨h1, h2⟩ := List.getElem?_zip_eq_some.mp e'
  have hi' : i < gs.length := (List.getElem?_eq_some_iff.mp h2).1
  rw [List.getElem?_map, List.getElem?_eq_getElem (by omega)] at h1
  have z := h i hi'
  rw [List.getD_eq_getElem?_getD, List.getD_eq_getElem?_getD, h2, List.getElem?_eq_getElem (by omega)] at z
  have ed : d = .int ls[i] := (Option.some.inj h1).symm
  show isW 1 g d = true
  rw [ed]
  exact isW_int z
theorem in_viaS {t u : TS} {D : Ends} {σ : L2.St} {H : Hp} (C : L2.St → Hp → Prop) (h : ∀ D' : Ends, (∀ σ' H', C σ' H' → D'.nx σ' H') → t D' σ H) (k : ∀ σ' H', C σ' H' → u D σ' H') : tSeq t u D σ H := h _ k
end OF
end
section
set_option Elab.async false
set_option linter.all false
set_option maxRecDepth 100000
set_option maxHeartbeats 4000000
/-! _law_drawn_right -/
namespace OF
open PySem PySem.Spec PySem.Calls PyProof.Rows L2 OFx
/-- [days, days] -/
def twiceD (h : Int) (gs : List Int) : PyData := .list [.tuple ((lotsI h gs).map tD), .tuple ((lotsI h gs).map tD)]
theorem sh_twice {h : Int} {gs : List Int} (o : PlanOk h gs) : Sh 400000 60 (twiceD h gs) := by
  have t := sh_tup (shA_lots (gs := gs) o)
  exact (sh_list (shA_cons t (shA_cons t shA_nil))).mono (by decide) (by decide)
section
variable {P : Program} {w : World} {K : PySem.W.Frag} {mg : Str → Option Value} {base : Heap}
def sp34 (Ts : List (Addr × Str)) : Sp := fun vs H Q _ => ∃ (m : Addr) (p : V) (h : Int) (gs : List Int) (B : Nat), vs = [.ref m, p] ∧ MI m B H ∧ B + 200 ≤ 1000000 ∧ LamX.Tabs Ts H ∧ Fr H p h gs ∧ PlanOk h gs ∧ GsOk gs ∧ gs.length ≤ 6 ∧
  ∀ H', Go Ts m (B + 90) H H' → Q (.bl true) H'
theorem sc34 : FnScope ["m", "frame", "due", "turn", "spot", "most", "left"] ["m", "frame"] (defScope (top 34)) := ⟨rfl, rfl, rfl, by decide +kernel, rfl, by decide +kernel, by decide +kernel⟩
theorem ok34 (T : TX P K mg) {Ts : List (Addr × Str)} (G32 : FnG P w K mg base 8 T.f32 T.d32 ["m", "frame", "spot"] (sp32 Ts)) (G33 : FnG P w K mg base 8 T.f33 T.d33 ["m", "frame", "spot"] (sp33 Ts)) : FnG P w K mg base 9 T.f34 T.d34 ["m", "frame"] (sp34 Ts) := by
  refine okG T.F34 sc34 (fun vs H Q E h => ?_) (fun cdv A outer s H vs Q hr hgd h => ?_)
  · obtain ⟨m, p, h, gs, B, rfl, _⟩ := h
    rfl
  · obtain ⟨m, p0, h, gs, B, rfl, hmi, hB, hT, fr, ok, gok, n6, q⟩ := h
    have G13 : FnOk P w K mg base (L2.CX P w) 4 T.f13 T.d13 ["plan"] (sp13 T.CP) := ok13 T
    have G24 : FnOk P w K mg base C8.CX0 1 T.f24 T.d24 ["m", "many"] sp24 := ok24 T
    have G26 : FnOk P w K mg base C8.CX0 1 T.f26 T.d26 ["hands", "many"] sp12 := ok26 T
    have hu : (A.deeper (envOfC "_law_drawn_right" (defScope (top 34)) s.heap.objs.size T.f34 cdv)).units + 64 < cLine := hr.units
    have hg : (A.deeper (envOfC "_law_drawn_right" (defScope (top 34)) s.heap.objs.size T.f34 cdv)).guards = some [] := hgd
    have hr1 := hr.mono (j := 1) (by decide)
    have hr4 := hr.mono (j := 4) (by decide)
    refine ⟨_, pss_cons (ps_set (i := 2) sc34.nd rfl (.inl rfl) (pe_callTy call_tuple_of (by rfl) T.z_tuple boot_tuple (by exact (pa_cons (pe_callN G26 hr1 (by rfl) T.g26 T.F26.kp T.b26 (by exact (pa_cons (pe_ix (r := rIxT K) ix_tup (pv 1) pe_int (fun _ _ => rfl)) (pa_cons (pe_callB cr_len (by rfl) T.z_len boot_len (pa_cons (pe_ix (r := rIxT K) ix_tup (pv 1) pe_int (fun _ _ => rfl)) pa_nil)) pa_nil)))) pa_nil))))
      (pss_cons (ps_if (pt_cmpR op_ne (pe_callB (cr_repr hg hu) (by rfl) T.z_repr boot_repr (pa_cons (pe_lstN (by exact (pa_cons (pe_callX (W := fun _ _ _ _ => False) LamX.takes0 G13 hr4 (by rfl) T.g13 T.F13.kp T.b13 (pa_cons (pv 1) pa_nil)) (pa_cons (pe_callX (W := fun _ _ _ _ => False) LamX.takes0 G13 hr4 (by rfl) T.g13 T.F13.kp T.b13 (pa_cons (pv 1) pa_nil)) pa_nil)))) pa_nil))
          (pe_callB (cr_repr hg hu) (by rfl) T.z_repr boot_repr (pa_cons (pe_lstN (pa_cons (pv 2) (pa_cons (pv 2) pa_nil))) pa_nil)) (nomark _)) (pss_one (ps_ret pe_bl)) pss_nil)
      (pss_cons (ps_for PassesOwn.never rfl (pi_range1 (by rfl) T.z_range (pa_cons pe_int pa_nil)) (pg_name (i := 3) sc34.nd rfl (.inl rfl))
        (pss_cons (ps_set (i := 4) sc34.nd rfl (.inl rfl) (pe_callTy call_tuple_of (by rfl) T.z_tuple boot_tuple (pa_cons (pe_lc (own := [("most", 5)]) (g := gName 5) (te := tOp (rI0 fun i j => .int (i + j)) (tC (.int 1)) (tCallG sp24 (tCons (tVar 0) (tCons (tVar 5) tNil)))) (tt := tYes) rfl sc34.nd
              (pi_tup (pe_ix (r := rIxT K) ix_tup (pv 1) pe_int (fun _ _ => rfl))) (blkOk_by (N := ["m", "frame", "due", "turn", "spot", "most", "left"]) (sc := defScope (top 34)) (by decide +kernel))
              (fun _ _ _ _ _ => pg_name (i := 5) sc34.nd rfl (.inl rfl)) (fun _ _ _ _ _ => pts_nil)
              (fun _ _ _ _ _ => by exact (pe_op op_add pe_int (pe_callN G24 hr1 (by rfl) T.g24 T.F24.kp T.b24 (pa_cons (pv 0) (pa_cons (pv 5) pa_nil)))))) pa_nil)))
        (pss_cons (ps_if (pt_cmpR op_eq (pe_callN G24 hr1 (by rfl) T.g24 T.F24.kp T.b24 (by exact (pa_cons (pv 0) (pa_cons pe_int pa_nil)))) pe_int (nomark _))
            (pss_one (ps_set (i := 4) sc34.nd rfl (.inl rfl) (pe_callTy call_tuple_of (by rfl) T.z_tuple boot_tuple (pa_cons (pe_lc (own := [("left", 6)]) (g := gName 6) (te := tCB rMin (tCons (tVar 6) (tCons (tOp (rI0 fun i j => .int (i + j)) (tC (.int 1)) (tCallG sp24 (tCons (tVar 0) (tCons (tC (.int 2)) tNil)))) tNil))) (tt := tYes) rfl sc34.nd
              (pi_tup (pv 4)) (blkOk_by (N := ["m", "frame", "due", "turn", "spot", "most", "left"]) (sc := defScope (top 34)) (by decide +kernel))
              (fun _ _ _ _ _ => pg_name (i := 6) sc34.nd rfl (.inl rfl)) (fun _ _ _ _ _ => pts_nil)
              (fun _ _ _ _ _ => by exact (pe_callB (cr_min rfl) (by rfl) T.z_min boot_min (pa_cons (pv 6) (pa_cons (pe_op op_add pe_int (pe_callN G24 hr1 (by rfl) T.g24 T.F24.kp T.b24 (pa_cons (pv 0) (pa_cons pe_int pa_nil)))) pa_nil))))) pa_nil)))) pss_nil)
        (pss_one (ps_if (PW.pt (pw_or (pt_not (pt_val (pe_callG G32 hr hg (by rfl) T.g32 T.F32.kp T.b32 (by exact (pa_cons (pv 0) (pa_cons (pv 1) (pa_cons (pv 4) pa_nil)))))))
            (pw_or1 (pt_not (pt_val (pe_callG G33 hr hg (by rfl) T.g33 T.F33.kp T.b33 (by exact (pa_cons (pv 0) (pa_cons (pv 1) (pa_cons (pv 4) pa_nil))))))))))
          (pss_one (ps_ret pe_bl)) pss_nil)))))
      (pss_one (ps_ret pe_bl)))), ?_⟩
    obtain ⟨p, g, rfl, hp, hgg⟩ := fr
    have frH : Fr H (.ref p) h gs := ⟨p, g, rfl, hp, hgg⟩
    have go0 : Go Ts m B H H := ⟨Ex.refl H, hT, hmi⟩
    have fT := (sh_twice (gs := gs) ok).fits
    have t30 : (10 ^ 30 : Int) = 1000000000000000000000000000000 := by decide
    -- due = ..
    refine ⟨.ref p, rfl, p, _, 0, .int h, rfl, rfl, .inl (.inl hp), atI_nat (j := 0) rfl, .ref p, rfl, p, _, 1, .ref g, rfl, rfl, .inl (.inl hp), atI_nat (j := 1) rfl, g, _, rfl, .inr (.inl (.inl hgg)), h.toNat, gs.length, ?_, ok.hn, fun H1 l xs s1 hl hL iL => ?_⟩
    · rw [List.length_map, ok.nat]
    refine ⟨l, xs, rfl, .inl ⟨.inl (.inl hL), fun t ht => ?_⟩⟩
    have s2 := s1.trans (same_upd (o := .tup xs) ht)
    have ht2 := upd_same (H := H1) (a := t) (o := .tup xs)
    have iL2 : ITs (upd H1 t (.tup xs)) xs (lotsI h gs) := ITs.mono (Ex.upd ht) iL
    generalize upd H1 t (.tup xs) = H2 at *
    -- days_of(frame), twice
    have px : ∀ H', PlanX T.CP H' h gs (fun _ _ _ => False) := fun H' => ⟨fun n => absurd ok.1 n, fun _ n => absurd ok.2 n⟩
    refine ⟨.ref p, rfl, .ref p, h, gs, rfl, frH.mono (Ex.same s2), gok, px _, fun _ H3 t3 ys3 s3 ht3 i3 => ?_⟩
    refine ⟨.ref p, rfl, .ref p, h, gs, rfl, frH.mono (Ex.same (s2.trans s3)), gok, px _, fun _ H4 t4 ys4 s4 ht4 i4 => ⟨fits (by show 2 ≤ 1000; decide), fun l5 hl5 hs5 => ?_⟩⟩
    have s5 := same_upd (o := .lst [.ref t3, .ref t4]) hl5
    have s35 := s4.trans s5
    refine ⟨.ref l5, twiceD h gs, rfl, .lst upd_same hs5 (.cons (.tup (s35 _ _ ht3) (ITs.mono (Ex.same s35) i3).rp) (.cons (.tup (s5 _ _ ht4) (ITs.mono (Ex.same s5) i4).rp) .nil)), fT.1, fT.2.1, fT.2.2, ?_⟩
    have s25 := s3.trans s35
    have rpt : Rp (upd H4 l5 (.lst [.ref t3, .ref t4])) (.ref t) (.tuple ((lotsI h gs).map tD)) := .tup (s25 _ _ ht2) (ITs.mono (Ex.same s25) iL2).rp
    refine in_repr (mk_lst (mk_cons (mk_var rfl rpt) (mk_cons (mk_var rfl rpt) mk_nil)) (by show 2 ≤ 1000; decide)) fT fun H6 s6 => ⟨rfl, _, rfl, ite2 (fun c => ?_) (fun c => ?_)⟩
    · have e : decide (V.str (twiceD h gs).shown = V.str (twiceD h gs).shown) = true := decide_eq_true rfl
      have c' : (!decide (V.str (twiceD h gs).shown = V.str (twiceD h gs).shown)) = true := c
      rw [e] at c'
      cases c'
    have sH6 := s2.trans (s25.trans s6)
    have g06 := go0.same sH6
    have go6 : Go Ts m B H6 H6 := ⟨Ex.refl _, g06.tb, g06.mi⟩
    have fr6 := frH.mono (Ex.same sH6)
    have hp6 := sH6 _ _ hp
    have hg6 := sH6 _ _ hgg
    refine ⟨3, rfl, by decide, by decide, for_it (walk_range (n := 3)) (fun i σ H' => (∃ y3 y4, σ = [some (.ref m), some (.ref p), some (.ref t), y3, y4, none, none]) ∧ Go Ts m (B + 30 * i) H6 H') ⟨⟨_, _, rfl⟩, go6⟩ (fun _ _ _ _ _ => trivial) ?_ ?_⟩
    · rintro i x σ _ H7 hi ⟨⟨y3, y4, rfl⟩, go⟩ ⟨rfl, rfl⟩
      -- spot = ..
      have hp7 := go.ex _ _ hp6 rfl
      have hg7 := go.ex _ _ hg6 rfl
      have gg7 : Go Ts m (B + 30 * i) H7 H7 := ⟨Ex.refl _, go.tb, go.mi⟩
      dsimp only
      refine in_set ?_
      refine ⟨.ref p, rfl, p, _, 1, .ref g, rfl, rfl, .inl (.inl hp7), atI_nat (j := 1) rfl, g, rfl, ⟨_, .inl (.inl hg7)⟩, fun D hD => lc_dr (walk_tup (xs := gs.map V.int)) (c := 1) (fun i z => 1 ≤ z ∧ z ≤ gs.getD i 0) (by rw [List.length_map]; omega) gg7 hD (fun H8 e8 => .inl (.inl (e8 _ _ hg7 rfl))) (fun j x H8 H9 Ky hj g8 hy ky => ?_) gName_mono fun H8 ns g8 ln rn hL8 => ?_⟩
      · obtain ⟨rfl, ex⟩ := hy
        obtain ⟨z, ez, rfl⟩ := int_at ex
        have eg : gs.getD j 0 = z := by rw [List.getD_eq_getElem?_getD, ez]; rfl
        have zb := gok z (List.mem_of_getElem? ez)
        rw [List.length_map] at hj
        refine ⟨rfl, .ref m, rfl, .int z, rfl, m, z, B + 30 * i + 1 * j, rfl, zb.1, zb.2, g8.mi, by omega, fun H5 r r0 r1 sd mi => ⟨1, r, rfl, rfl, ky _ _ ⟨by omega, by rw [eg]; omega⟩ sd (mi.up (by omega))⟩⟩
      rw [List.length_map] at g8 ln rn
      refine ⟨D, _, rfl, .inl ⟨.inl (.inl hL8), fun a ha => ?_⟩⟩
      have st8 : isSt gs (tD ns) = true := isSt_of ln rn
      have s9 := same_upd (o := .tup (ns.map V.int)) ha
      have g9 := (g8.same s9).from go.ex
      have ha9 := upd_same (H := H8) (a := a) (o := .tup (ns.map V.int))
      generalize upd H8 a (.tup (ns.map V.int)) = H9 at *
      -- if ..: spot = ..
      refine in_viaS (t := tIfS _ _ _) (fun σ' H' => ∃ a ls, σ' = [some (.ref m), some (.ref p), some (.ref t), some (.int (0 + (i : Int))), some (.ref a), none, none] ∧ Go Ts m (B + 30 * i + 14) H6 H' ∧ H' a = some (.tup (ls.map V.int)) ∧ isSt gs (tD ls) = true) (fun D' k => ?_) (fun σ' H10 c => ?_)
      · refine ⟨.ref m, rfl, m, 2, B + 30 * i + 1 * gs.length, rfl, by decide, by decide, g9.mi, by omega, fun H10 r r0 r1 sd mi => ⟨rfl, _, rfl, ite2 (fun c => ?_) (fun c => k _ _ ⟨a, ns, rfl, (g9.sd sd mi).up (by omega), sd _ _ (g9.mi.neT ha9) ha9, st8⟩)⟩⟩
        have g10 := g9.sd sd mi
        have ha10 := sd _ _ (g9.mi.neT ha9) ha9
        have gg10 : Go Ts m (B + 30 * i + 1 * gs.length + 1) H10 H10 := ⟨Ex.refl _, g10.tb, g10.mi⟩
        refine ⟨.ref a, rfl, a, rfl, ⟨_, .inl (.inl ha10)⟩, fun D2 hD2 => lc_dr (walk_tup (xs := ns.map V.int)) (c := 1) (fun i z => 1 ≤ z ∧ z ≤ ns.getD i 0) (by rw [List.length_map]; omega) gg10 hD2 (fun H8 e8 => .inl (.inl (e8 _ _ ha10 rfl))) (fun j x H11 H12 Ky hj g11 hy ky => ?_) gName_mono fun H11 ms g11 lm rm hL11 => ?_⟩
        · obtain ⟨rfl, ex⟩ := hy
          obtain ⟨z, ez, rfl⟩ := int_at ex
          have eg : ns.getD j 0 = z := by rw [List.getD_eq_getElem?_getD, ez]; rfl
          rw [List.length_map] at hj
          have zb := rn j (by omega)
          rw [eg] at zb
          refine ⟨rfl, .int z, rfl, .ref m, rfl, m, 2, B + 30 * i + 1 * gs.length + 1 + 1 * j, rfl, by decide, by decide, g11.mi, by omega, fun H5 r r0 r1 sd mi => ⟨1, r, rfl, rfl, z, 1 + r, rfl, ky _ _ ⟨by split <;> omega, by rw [eg]; split <;> omega⟩ sd (mi.up (by omega))⟩⟩
        · rw [List.length_map] at g11 lm rm
          refine ⟨D2, _, rfl, .inl ⟨.inl (.inl hL11), fun a2 ha2 => k _ _ ⟨a2, ms, rfl, ((g11.same (same_upd ha2)).from g10.ex).up (by omega), upd_same, isSt_of (by omega) fun i hi => ?_⟩⟩⟩
          have z1 := rm i (by omega)
          have z2 := rn i hi
          omega
      · obtain ⟨a2, ls, rfl, g10, ha10, st⟩ := c
        refine ⟨.ref m, rfl, .ref p, rfl, .ref a2, rfl, m, .ref p, .ref a2, h, gs, ls, B + 30 * i + 14, rfl, g10.mi, by omega, g10.tb, fr6.mono g10.ex, ok, gok, n6, ⟨a2, rfl, ha10⟩, st, fun H11 g11 => ⟨_, rfl, ?_⟩⟩
        have g11' := g11.from g10.ex
        refine ⟨.ref m, rfl, .ref p, rfl, .ref a2, rfl, m, .ref p, .ref a2, h, gs, ls, B + 30 * i + 14 + 12, rfl, g11.mi, by omega, g11.tb, fr6.mono g11'.ex, ok, gok, n6, ⟨a2, rfl, g11.ex _ _ ha10 rfl⟩, st, fun H12 g12 => ⟨_, rfl, ?_⟩⟩
        exact ⟨⟨_, _, rfl⟩, (g12.from g11'.ex).up (by omega)⟩
    · rintro σ H7 ⟨⟨y3, y4, rfl⟩, go⟩
      exact q H7 (go.from (Ex.same sH6))
end
end OF
end
section
set_option Elab.async false
set_option linter.all false
set_option maxRecDepth 100000
set_option maxHeartbeats 4000000
/-! What is compared by hand. -/
namespace OF
open PySem PySem.Spec PySem.Calls PyProof.Rows L2 OFx
theorem Fr.of {H : Hp} {v : V} {h : Int} {gs : List Int} (r : Rp H v (.tuple [.int h, tD gs])) : Fr H v h gs := by
  cases r with
  | @tup p xs _ hp hxs =>
    cases hxs with
    | cons a b =>
      cases b with
      | cons b c =>
        cases c
        obtain ⟨g, e, hg⟩ := rp_tD b
        rw [rp_int a, e] at hp
        exact ⟨p, g, rfl, hp, hg⟩
theorem eqv_tDs : ∀ a b : List (List Int), PyData.eqv (.tuple (a.map tD)) (.tuple (b.map tD)) = decide (a = b)
  | [], [] => rfl
  | [], _ :: _ => rfl
  | _ :: _, [] => rfl
  | x :: a, y :: b => by
    have ih : PyData.eqvAll (a.map tD) (b.map tD) = decide (a = b) := eqv_tDs a b
    show (PyData.eqv (tD x) (tD y) && PyData.eqvAll (a.map tD) (b.map tD)) = decide (x :: a = y :: b)
    rw [ih, eqv_tD, Bool.eq_iff_iff]
    simp
section
variable {K : PySem.W.Frag} {CP CD CS : Addr} {E : L2.St → XK} {te tf tg : TE} {σ : L2.St} {H : Hp} {ds es : List PyData} {d e : PyData}
theorem mk_c13 {h : Int} {gs : List Int} (m : Mk te (.tuple [.int h, tD gs]) σ H) (o : PlanOk h gs) (g : GsOk gs) : Mk (tCallS (sp13 CP) E (tCons te tNil)) (.tuple ((lotsI h gs).map tD)) σ H := fun H1 s1 Q q =>
  m H1 s1 _ fun v H2 s2 r => ⟨v, h, gs, rfl, Fr.of r, g, ⟨fun n => absurd o.1 n, fun _ n => absurd o.2 n⟩, fun _ H3 t ys s3 ht it => q _ _ (s2.trans s3) (.tup ht it.rp)⟩
theorem mk_c20 {h : Int} {gs : List Int} (m : Mk te (.tuple [.int h, tD gs]) σ H) (m2 : Mk tf d σ H) (o : PlanOk h gs) (g : GsOk gs) (st : isSt gs d = true) : Mk (tCallS (sp20 CP CS) E (tCons te (tCons tf tNil))) (.tuple ((dues h gs (nums d)).map tD)) σ H := fun H1 s1 Q q =>
  m H1 s1 _ fun v H2 s2 r => m2 H2 (s1.trans s2) _ fun v2 H3 s3 r2 => ⟨v, v2, h, gs, d, rfl, (Fr.of r).mono (Ex.same s3), g, r2, ⟨fun n => absurd o.1 n, fun _ n => absurd o.2 n⟩, fun _ e => (by rw [st] at e; cases e), fun _ _ H4 t ys s4 ht it => q _ _ (s2.trans (s3.trans s4)) (.tup ht it.rp)⟩
theorem mk_c21 {h : Int} {gs : List Int} (m : Mk te (.tuple [.int h, tD gs]) σ H) (m2 : Mk tf d σ H) (m3 : Mk tg e σ H) (o : PlanOk h gs) (g : GsOk gs) (st : isSt gs d = true) (ob : okB h gs (nums d) e = true) : Mk (tCallS (sp21 CP CD CS) E (tCons te (tCons tf (tCons tg tNil)))) (tD (nextOf gs (nums d) (nums e))) σ H := fun H1 s1 Q q =>
  m H1 s1 _ fun v H2 s2 r => m2 H2 (s1.trans s2) _ fun v2 H3 s3 r2 => m3 H3 ((s1.trans s2).trans s3) _ fun v3 H4 s4 r3 => ⟨v, v2, v3, h, gs, d, e, rfl, (Fr.of r).mono (Ex.same (s3.trans s4)), g, r2.mono (Ex.same s4), r3, ⟨fun n => absurd o.1 n, fun _ n => absurd o.2 n⟩, fun _ e => (by rw [st] at e; cases e), fun _ _ e => (by rw [ob] at e; cases e), fun _ _ _ H5 t s5 ht => q _ _ (s2.trans (s3.trans (s4.trans s5))) (.tup ht (rpAll_ints _))⟩
theorem mk_len (m : Mk te (.tuple ds) σ H) : Mk (tCB (rLenS K) (tCons te tNil)) (.int ds.length) σ H := fun H1 s1 Q q =>
  m H1 s1 _ fun v H2 s2 r => by
    cases r with
    | @tup p xs _ hp hxs =>
      refine ⟨p, xs, rfl, .inr (.inl (.inl hp)), ?_⟩
      rw [rpA_len hxs]
      exact q _ _ s2 (.int _)
theorem mk_lenL {D : Addr} {ys : List V} {i : Nat} (ev : σ[i]? = some (some (.ref D))) (hD : H D = some (.lst ys)) : Mk (tCB (rLenS K) (tCons (tVar i) tNil)) (.int ys.length) σ H := fun H1 s1 Q q =>
  ⟨.ref D, ev, D, ys, rfl, .inl (.inl (.inl (s1 _ _ hD))), q _ _ (Same.refl _) (.int _)⟩
def rTO (K : PySem.W.Frag) : List V → Hp → VK → Prop := fun xs H Q => ∃ p ys, xs = [.ref p] ∧ ((SqL K H p ys ∧ ∀ l, H l = none → Q (.ref l) (upd H l (.tup ys))) ∨ (SqT K H p ys ∧ Q (.ref p) H))
theorem cr_to {X : Cx} : CallR X (.type "tuple") (rTO X.K) := call_tuple_of
theorem mk_tupL {D : Addr} {ys : List V} {i : Nat} (ev : σ[i]? = some (some (.ref D))) (hD : H D = some (.lst ys)) (r : RpAll H ys ds) : Mk (tCB (rTO K) (tCons (tVar i) tNil)) (.tuple ds) σ H := fun H1 s1 Q q =>
  ⟨.ref D, ev, D, ys, rfl, .inl ⟨.inl (.inl (s1 _ _ hD)), fun l hl => q _ _ (same_upd hl) (.tup upd_same ((r.mono (Ex.same s1)).mono (Ex.upd hl)))⟩⟩
theorem rpAll_rep {H : Hp} {xs : List V} : ∀ k : Nat, RpAll H xs ds → RpAll H (List.replicate k xs).flatten (List.replicate k ds).flatten
  | 0, _ => .nil
  | k + 1, h => rpAll_append h (rpAll_rep k h)
theorem mk_rep {k : Int} (m : Mk te (.tuple ds) σ H) (ne : ds ≠ []) (h1 : 2 ≤ k) (h2 : k ≤ 1000) (h3 : ds.length ≤ 1000) : Mk (tOp (rRepT K) te (tC (.int k))) (.tuple (List.replicate k.toNat ds).flatten) σ H := fun H1 s1 Q q =>
  m H1 s1 _ fun v H2 s2 r => by
    cases r with
    | @tup p xs _ hp hxs =>
      refine ⟨p, k, xs, rfl, rfl, .inl (.inl hp), fun e => ?_, h1, h2, by rw [rpA_len hxs]; exact h3, fun p2 hp2 => q _ _ (s2.trans (same_upd hp2)) (.tup upd_same ((rpAll_rep _ hxs).mono (Ex.upd hp2)))⟩
      subst e
      cases hxs
      exact ne rfl
theorem mk_last (a : Mk te (.tuple ds) σ H) (b : Mk tf (.int (-1)) σ H) (e : ds[ds.length - 1]? = some d) : Mk (tOp (rIxT K) te tf) d σ H := fun H1 s1 Q q =>
  a H1 s1 _ fun v H2 s2 r => b H2 (s1.trans s2) _ fun v2 H3 s3 r2 => by
    cases r with
    | @tup p xs _ hp hxs =>
      have l1 := rpA_len hxs
      have hi : ds.length - 1 < xs.length := by
        rw [l1]
        exact (List.getElem?_eq_some_iff.mp e).1
      have ex := List.getElem?_eq_getElem hi
      obtain ⟨d', e', r'⟩ := rpAll_get (hxs.mono (Ex.same s3)) ex
      rw [e] at e'
      cases e'
      refine ⟨p, xs, -1, _, rfl, rp_int r2, .inl (.inl (s3 _ _ hp)), ?_, q _ _ (s2.trans s3) r'⟩
      unfold atI ixN
      rw [if_neg (by decide)]
      have e1 : ((-1 : Int) + (xs.length : Nat)).toNat = ds.length - 1 := by omega
      first
        | (rw [if_pos (by omega), e1]; exact ex)
        | (simp only [e1]; rw [if_pos (by omega)]; exact ex)
theorem mk_sub {i j : Int} (m : Mk te (.int i) σ H) : Mk (tOp (rI0 fun i j => .int (i - j)) te (tC (.int j))) (.int (i - j)) σ H := fun H1 s1 Q q =>
  m H1 s1 _ fun v H2 s2 r => ⟨i, j, rp_int r, rfl, q _ _ s2 (.int _)⟩
theorem mk_eq (m : Mk te d σ H) (m2 : Mk tf e σ H) (sd : SeqAt.shaped d = true) (se : SeqAt.shaped e = true) (h : PyData.eqv d e = true) : Mk (tOp rEqP te tf) (.bool true) σ H := fun H1 s1 Q q =>
  m H1 s1 _ fun v H2 s2 r => m2 H2 (s1.trans s2) _ fun v2 H3 s3 r2 => ⟨d, e, r.mono (Ex.same s3), r2, sd, se, by rw [h]; exact q _ _ (s2.trans s3) (.bl true)⟩
/-- t is false, whatever came since -/
def Fls (t : TT) (σ : L2.St) (H : Hp) : Prop := ∀ H1, Same H H1 → ∀ Q : Bool → Hp → Prop, (∀ H', Same H1 H' → Q false H') → t σ H1 Q
theorem fls_ne (m : Mk te d σ H) (m2 : Mk tf e σ H) (sd : SeqAt.shaped d = true) (se : SeqAt.shaped e = true) (h : PyData.eqv d e = true) : Fls (tTest (tOp rNeP te tf)) σ H := fun H1 s1 Q q =>
  m H1 s1 _ fun v H2 s2 r => m2 H2 (s1.trans s2) _ fun v2 H3 s3 r2 => ⟨d, e, r.mono (Ex.same s3), r2, sd, se, _, rfl, by rw [h]; exact q _ (s2.trans s3)⟩
theorem fls_or {t u : TT} (a : Fls t σ H) (b : Fls u σ H) : Fls (tOr t u) σ H := fun H1 s1 Q q =>
  a H1 s1 _ fun H2 s2 => b H2 (s1.trans s2) _ fun H3 s3 => q H3 (s2.trans s3)
theorem in_ifF {c : TT} {t : TS} {D : Ends} (f : Fls c σ H) (q : ∀ H', Same H H' → D.nx σ H') : tIfS c t tNext D σ H := f H (Same.refl _) _ fun H' s => q H' s
end
section
variable {P : Program} {K : PySem.W.Frag} {mg : Str → Option Value} {Ts : List (Addr × Str)} {te tf tg : TE} {H : Hp} {σ : L2.St} {Q : VK} {h : Int} {gs : List Int} {d e : PyData}
theorem in_s13 (T : TX P K mg) (hT : LamX.Tabs Ts H) (m : ∀ H, Mk te (.tuple [.int h, tD gs]) σ H) (g : GsOk gs) (q : ∀ H' x, Ex H H' → LamX.Tabs Ts H' → Rp H' x (told13 h gs) → Q x H') : LamX.tLam Ts (TTsaid K (saidL T.CS T.CD T.CP)) (tD13 T (tCons te tNil)) σ H Q :=
  in_said T hT fun H1 E Q2 ex t1 hd => m H1 H1 (Same.refl _) _ fun v H2 s2 r => said13 T hd (Fr.of r) g fun H' x s rr => q H' x ((Ex.extN ex).trans (Ex.same (s2.trans s))) (tabs_same t1 (s2.trans s)) rr
theorem in_s20 (T : TX P K mg) (hT : LamX.Tabs Ts H) (m : ∀ H, Mk te (.tuple [.int h, tD gs]) σ H) (m2 : ∀ H, Mk tf d σ H) (g : GsOk gs) (q : ∀ H' x, Ex H H' → LamX.Tabs Ts H' → Rp H' x (told20 h gs d) → Q x H') : LamX.tLam Ts (TTsaid K (saidL T.CS T.CD T.CP)) (tR T (tCons te (tCons tf tNil))) σ H Q :=
  in_said T hT fun H1 E Q2 ex t1 hd => m H1 H1 (Same.refl _) _ fun v H2 s2 r => m2 H2 H2 (Same.refl _) _ fun v2 H3 s3 r2 => said20 T hd ((Fr.of r).mono (Ex.same s3)) g r2 fun H' x s rr => q H' x ((Ex.extN ex).trans (Ex.same (s2.trans (s3.trans s)))) (tabs_same t1 (s2.trans (s3.trans s))) rr
theorem in_s21 (T : TX P K mg) (hT : LamX.Tabs Ts H) (m : ∀ H, Mk te (.tuple [.int h, tD gs]) σ H) (m2 : ∀ H, Mk tf d σ H) (m3 : ∀ H, Mk tg e σ H) (g : GsOk gs) (q : ∀ H' x, Ex H H' → LamX.Tabs Ts H' → Rp H' x (told21 h gs d e) → Q x H') : LamX.tLam Ts (TTsaid K (saidL T.CS T.CD T.CP)) (tB21 T (tCons te (tCons tf (tCons tg tNil)))) σ H Q :=
  in_said T hT fun H1 E Q2 ex t1 hd => m H1 H1 (Same.refl _) _ fun v H2 s2 r => m2 H2 H2 (Same.refl _) _ fun v2 H3 s3 r2 => m3 H3 H3 (Same.refl _) _ fun v3 H4 s4 r3 => said21 T hd ((Fr.of r).mono (Ex.same (s3.trans s4))) g (r2.mono (Ex.same s4)) r3 fun H' x s rr => q H' x ((Ex.extN ex).trans (Ex.same (s2.trans (s3.trans (s4.trans s))))) (tabs_same t1 (s2.trans (s3.trans (s4.trans s)))) rr
end
end OF
end
section
set_option Elab.async false
set_option linter.all false
set_option maxRecDepth 100000
set_option maxHeartbeats 4000000
namespace OF
open PySem PySem.Spec PySem.Calls PyProof.Rows L2 OFx
mutual
theorem Rp.dp {K : PySem.W.Frag} {H : Hp} : ∀ {v : V} {d : PyData}, Rp H v d → PyData.canLay0 d = true → Dp K H v d
  | _, _, .non, _ => .non
  | _, _, .bl b, _ => .bl b
  | _, _, .int i, _ => .int i
  | _, _, .str x, _ => .str x
  | _, _, .lst h1 _ h3, c => .lst (.inl (.inl h1)) (RpAll.dp h3 c)
  | _, _, .tup h1 h3, c => .tup (.inl (.inl h1)) (RpAll.dp h3 c)
  | _, _, .mt _, c => by cases c
theorem RpAll.dp {K : PySem.W.Frag} {H : Hp} : ∀ {vs : List V} {ds : List PyData}, RpAll H vs ds → PyData.canLayAll0 ds = true → DpAll K H vs ds
  | _, _, .nil, _ => .nil
  | _, _, .cons (d := d) (ds := ds) a b, c => by
    have c' : (PyData.canLay0 d && PyData.canLayAll0 ds) = true := c
    rw [Bool.and_eq_true] at c'
    exact .cons (Rp.dp a c'.1) (RpAll.dp b c'.2)
end
theorem tv1 : told13 0 [1] = .tuple [.str "plan", tD [0]] := rfl
theorem tv2 : told20 1 [] .none = .tuple [.str "plan", tD [1]] := rfl
theorem tv3 : told21 4 [2] (.int 0) (.int 0) = .tuple [.str "plan", tD [0]] := rfl
theorem tv4 : told21 1 [2] (tD [0]) (.int 0) = .tuple [.str "standing", tD [0]] := rfl
theorem tv5 : told21 1 [2, 1] (tD [2, 1]) (tD [0]) = .tuple [.str "day", tD [0]] := rfl
theorem tv6 : told21 1 [2, 1] (tD [2, 1]) (tD [0, 1]) = .tuple [.str "day", tD [0, 1]] := rfl
theorem tv7 : told21 2 [2, 2] (tD [2, 2]) (tD [0, 0]) = .tuple [.str "day", tD [0, 0]] := rfl
abbrev BM : Int := (10 : Int) ^ (30 : Int).toNat
def gW : List Int := List.replicate 8 BM
def lW : List Int := [1, BM, 5, 5, 5, 5, 5, 5]
def uW : List Int := List.replicate 7 BM ++ [1]
theorem oW : PlanOk 3 gW := ⟨⟨by decide, by decide⟩, by decide, by decide⟩
theorem gokW : GsOk gW := fun x hx => by
  rw [List.eq_of_mem_replicate hx]
  decide +kernel
theorem w93 : (lotsI 3 gW).length = 93 := by decide +kernel
theorem w4 : (lotsI 3 gW).take 4 = [[], [0], [0, 1], [0, 1, 2]] := by decide +kernel
theorem wl : (lotsI 3 gW)[(lotsI 3 gW).length - 1]? = some [7] := by decide +kernel
theorem wst : isSt gW (tD lW) = true := by decide +kernel
theorem wob : okB 3 gW lW (tD [0, 7]) = true := by decide +kernel
theorem wnx : nextOf gW lW [0, 7] = [BM, BM - 1, 4, 4, 4, 4, 4, BM] := by decide +kernel
theorem w29 : ((lotsI 3 gW).filter fun l => decide ((7 : Int) ∈ l)).length = 29 := by decide +kernel
theorem wus : isSt gW (tD uW) = true := by decide +kernel
theorem wdu : dues 3 gW uW = (lotsI 3 gW).filter fun l => decide ((7 : Int) ∈ l) := by decide +kernel
theorem wd1 : dues 1 [1, 1] [1, 1] = [] := by decide +kernel
theorem wd2 : dues 2 [1, 1] [1, 1] = [[0, 1]] := by decide +kernel
theorem wst1 : isSt [1, 1] (tD [1, 1]) = true := by decide +kernel
theorem wst2 : isSt [2, 1] (tD [2, 1]) = true := by decide +kernel
theorem wob2 : okB 1 [2, 1] [2, 1] (tD [1]) = true := by decide +kernel
theorem wnx2 : nextOf [2, 1] [2, 1] [1] = [1, 1] := by decide +kernel
theorem in_ifS {c : TT} {t u : TS} {D : Ends} {σ : L2.St} {H : Hp} (f : Fls c σ H) (q : ∀ H', Same H H' → u D σ H') : tSeq (tIfS c t tNext) u D σ H := f H (Same.refl _) _ fun H' s => q H' s
theorem its_of_rp {H : Hp} : ∀ {xs : List V} {ds : List (List Int)}, RpAll H xs (ds.map tD) → ITs H xs ds
  | _, [], h => by
    cases h
    exact .nil
  | _, d :: ds, h => by
    cases h with
    | cons a b => exact .cons (rp_tD a) (its_of_rp b)
theorem eqv_len {n : Nat} {k : Nat} (h : n = k) : PyData.eqv (.int (n : Int)) (.int (k : Int)) = true := by
  rw [h]
  show (((k : Nat) : Int) == ((k : Nat) : Int)) = true
  exact beq_self_eq_true _
theorem eqv_tDt {a b : List (List Int)} (h : a = b) : PyData.eqv (.tuple (a.map tD)) (.tuple (b.map tD)) = true := by rw [eqv_tDs, h, decide_eq_true rfl]
theorem eqv_tDo {a b : List Int} (h : a = b) : PyData.eqv (tD a) (tD b) = true := by rw [eqv_tD, h, decide_eq_true rfl]
theorem day_put {H : Hp} {l : Addr} {xs : List V} {o : HO} {v : V} {x : Str} {ns : List Int} (r : Rp H v (.tuple [.str x, tD ns])) (hl : H l = some (.lst xs)) : Rp (upd H l o) v (.tuple [.str x, tD ns]) := by
  have nt : ∀ {p : Addr} {zs : List V}, H p = some (.tup zs) → upd H l o p = some (.tup zs) := fun h => by
    rw [upd_ne (ne_of h hl (by intro z; cases z))]
    exact h
  cases r with
  | tup hp hxs =>
    cases hxs with
    | cons a b =>
      cases b with
      | cons b c =>
        cases c
        cases a
        obtain ⟨g, rfl, hg⟩ := rp_tD b
        exact .tup (nt hp) (.cons (.str _) (.cons (.tup (nt hg) (rpAll_ints ns)) .nil))
end OF
end
section
set_option Elab.async false
set_option linter.all false
set_option maxRecDepth 100000
set_option maxHeartbeats 4000000
/-! _law_hand_right -/
namespace OF
open PySem PySem.Spec PySem.Calls PyProof.Rows L2 OFx
section
variable {P : Program} {w : World} {K : PySem.W.Frag} {mg : Str → Option Value} {base : Heap}
def sp35 (Ts : List (Addr × Str)) : Sp := fun vs H Q _ => vs = [] ∧ LamX.Tabs Ts H ∧ ∀ H', Ex H H' → LamX.Tabs Ts H' → Q (.bl true) H'
theorem sc35 : FnScope ["most", "wide", "due", "told_so", "lot"] [] (defScope (top 35)) := ⟨rfl, rfl, rfl, by decide +kernel, rfl, by decide +kernel, by decide +kernel⟩
theorem ok35 (T : TX P K mg) {Ts : List (Addr × Str)} (TB : LamX.TabB base mg T.c35 T.p35) (hm : (T.p35, ("_law_hand_right.<locals>.<lambda>" : Str)) ∈ Ts) (hu0 : ∀ p ∈ Ts, p.1 = T.p35 → p.2 = "_law_hand_right.<locals>.<lambda>") : FnG P w K mg base 8 T.f35 T.d35 [] (sp35 Ts) := by
  refine T.L35.okG sc35 (fun vs H Q E h => ?_) (fun A outer s H vs Q hr hgd h => ?_)
  · obtain ⟨rfl, _⟩ := h
    rfl
  · obtain ⟨rfl, hT, q⟩ := h
    have G13 : FnOk P w K mg base (L2.CX P w) 4 T.f13 T.d13 ["plan"] (sp13 T.CP) := ok13 T
    have G20 : FnOk P w K mg base (L2.CX P w) 5 T.f20 T.d20 ["plan", "standing"] (sp20 T.CP T.CS) := ok20 T
    have G21 : FnOk P w K mg base (L2.CX P w) 5 T.f21 T.d21 ["plan", "standing", "day"] (sp21 T.CP T.CD T.CS) := ok21 T
    have hu : (A.deeper (envOfC "_law_hand_right" (defScope (top 35)) s.heap.objs.size T.f35 (.ref T.c35))).units + 64 < cLine := hr.units
    have hr13 := hr.mono (j := 4) (by decide)
    have hr20 := hr.mono (j := 5) (by decide)
    have hr21 := hr.mono (j := 5) (by decide)
    refine ⟨_, (pss_cons (ps_set (i := 0) sc35.nd rfl (.inl rfl) (pe_op op_pow pe_int pe_int))
      (pss_cons (ps_set (i := 1) sc35.nd rfl (.inl rfl) (pe_tup (pa_cons pe_int (pa_cons (pe_op (r := rRepT K) op_repT (pe_tup (pa_cons (pv 0) pa_nil)) pe_int) pa_nil))))
      (pss_cons (ps_if (PW.pt (pw_or (pt_cmpR (r := rNeP) (op_neP hu) (pe_callB (r := rLenS K) cr_len (by rfl) T.z_len boot_len (by exact (pa_cons (pe_callX (W := fun _ _ _ _ => False) LamX.takes0 G13 hr13 (by rfl) T.g13 T.F13.kp T.b13 (by exact (pa_cons (pv 1) pa_nil))) pa_nil))) pe_int (nomark _)) (pw_or (pt_cmpR (r := rNeP) (op_neP hu) (pe_slice sl_tupA (pe_callX (W := fun _ _ _ _ => False) LamX.takes0 G13 hr13 (by rfl) T.g13 T.F13.kp T.b13 (by exact (pa_cons (pv 1) pa_nil))) po_none (po_some pe_int)) (pe_tup (pa_cons (pe_tup pa_nil) (pa_cons (pe_tup (pa_cons pe_int pa_nil)) (pa_cons (pe_tup (pa_cons pe_int (pa_cons pe_int pa_nil))) (pa_cons (pe_tup (pa_cons pe_int (pa_cons pe_int (pa_cons pe_int pa_nil)))) pa_nil))))) (nomark _)) (pw_or1 (pt_cmpR (r := rNeP) (op_neP hu) (pe_ix (r := rIxT K) ix_tup (pe_callX (W := fun _ _ _ _ => False) LamX.takes0 G13 hr13 (by rfl) T.g13 T.F13.kp T.b13 (by exact (pa_cons (pv 1) pa_nil))) (pe_un un_neg pe_int) (fun _ _ => rfl)) (pe_tup (pa_cons pe_int pa_nil)) (nomark _)))))) (pss_one (ps_ret pe_bl)) pss_nil)
      (pss_cons (ps_if (pt_cmpR (r := rNeP) (op_neP hu) (pe_callX (W := fun _ _ _ _ => False) LamX.takes0 G21 hr21 (by rfl) T.g21 T.F21.kp T.b21 (by exact (pa_cons (pv 1) (pa_cons (pe_op (r := rCatA K) op_catA (pe_tup (pa_cons pe_int (pa_cons (pv 0) pa_nil))) (pe_op (r := rRepT K) op_repT (pe_tup (pa_cons pe_int pa_nil)) pe_int)) (pa_cons (pe_tup (pa_cons pe_int (pa_cons pe_int pa_nil))) pa_nil))))) (pe_tup (pa_cons (pv 0) (pa_cons (pe_op op_sub (pv 0) pe_int) (pa_cons pe_int (pa_cons pe_int (pa_cons pe_int (pa_cons pe_int (pa_cons pe_int (pa_cons (pv 0) pa_nil))))))))) (nomark _)) (pss_one (ps_ret pe_bl)) pss_nil)
      (pss_cons (ps_setLc (i := 2) (own := [("lot", 4)]) (g := gName 4) rfl sc35.nd rfl rfl (by with_unfolding_all rfl) (pi_tup (pe_callX (W := fun _ _ _ _ => False) LamX.takes0 G13 hr13 (by rfl) T.g13 T.F13.kp T.b13 (by exact (pa_cons (pv 1) pa_nil)))) (blkOk_by (N := ["most", "wide", "due", "told_so", "lot"]) (sc := defScope (top 35)) (by decide +kernel))
        (fun _ _ _ _ _ => pg_name (i := 4) sc35.nd rfl (.inl rfl)) (fun _ _ _ _ _ => by exact (pts_one (pt_cmpR (r := rIn K false) op_in_seq pe_int (pv 4) (by with_unfolding_all rfl)))) (fun _ _ _ _ _ => by exact (pv 4)))
      (pss_cons (ps_if (PW.pt (pw_or (pt_cmpR (r := rNeP) (op_neP hu) (pe_callB (r := rLenS K) cr_len (by rfl) T.z_len boot_len (by exact (pa_cons (pv 2) pa_nil))) pe_int (nomark _)) (pw_or1 (pt_cmpR (r := rNeP) (op_neP hu) (pe_callX (W := fun _ _ _ _ => False) LamX.takes0 G20 hr20 (by rfl) T.g20 T.F20.kp T.b20 (by exact (pa_cons (pv 1) (pa_cons (pe_op (r := rCatA K) op_catA (pe_op (r := rRepT K) op_repT (pe_tup (pa_cons (pv 0) pa_nil)) pe_int) (pe_tup (pa_cons pe_int pa_nil))) pa_nil)))) (pe_callTy (r := rTO K) cr_to (by rfl) T.z_tuple boot_tuple (by exact (pa_cons (pv 2) pa_nil))) (nomark _))))) (pss_one (ps_ret pe_bl)) pss_nil)
      (pss_cons (ps_if (PW.pt (pw_or (pt_cmpR (r := rNeP) (op_neP hu) (pe_callX (W := fun _ _ _ _ => False) LamX.takes0 G20 hr20 (by rfl) T.g20 T.F20.kp T.b20 (by exact (pa_cons (pe_tup (pa_cons pe_int (pa_cons (pe_tup (pa_cons pe_int (pa_cons pe_int pa_nil))) pa_nil))) (pa_cons (pe_tup (pa_cons pe_int (pa_cons pe_int pa_nil))) pa_nil)))) (pe_tup pa_nil) (nomark _)) (pw_or1 (pt_cmpR (r := rNeP) (op_neP hu) (pe_callX (W := fun _ _ _ _ => False) LamX.takes0 G20 hr20 (by rfl) T.g20 T.F20.kp T.b20 (by exact (pa_cons (pe_tup (pa_cons pe_int (pa_cons (pe_tup (pa_cons pe_int (pa_cons pe_int pa_nil))) pa_nil))) (pa_cons (pe_tup (pa_cons pe_int (pa_cons pe_int pa_nil))) pa_nil)))) (pe_tup (pa_cons (pe_tup (pa_cons pe_int (pa_cons pe_int pa_nil))) pa_nil)) (nomark _))))) (pss_one (ps_ret pe_bl)) pss_nil)
      (pss_cons (ps_set (i := 3) sc35.nd rfl (.inl rfl) (pe_lstN (by exact (pa_cons (pe_said (df := none) (k := 4) (t := tD13 T _) T (by rfl) TB rfl hm hu0 (hr.mono (by decide)) (lmS_by (N := ["most", "wide", "due", "told_so", "lot"]) (sc := defScope (top 35)) (by decide +kernel)) rfl rfl (bnd0 _)
              (fun A outer s H E f c' hr2 => pe_callX (takes_of rfl rfl rfl rfl) G13 hr2 (by rfl) T.g13 T.F13.kp T.b13 (by exact (pa_cons (pe_tup (pa_cons pe_int (pa_cons (pe_tup (pa_cons pe_int pa_nil)) pa_nil))) pa_nil)))) (pa_cons (pe_said (df := some 0) (k := 5) (t := tR T _) T (by rfl) TB rfl hm hu0 (hr.mono (by decide)) (lmS_by (N := ["most", "wide", "due", "told_so", "lot"]) (sc := defScope (top 35)) (by decide +kernel)) ⟨_, _, rfl⟩ rfl (bnd1 _ _ _ _ rfl)
              (fun A outer s H E f c' hr2 => pe_callX (takes_of rfl rfl rfl rfl) G20 hr2 (by rfl) T.g20 T.F20.kp T.b20 (by exact (pa_cons (pe_tup (pa_cons pe_int (pa_cons (pe_tup pa_nil) pa_nil))) (pa_cons pe_non pa_nil))))) pa_nil)))))
      (pss_cons (ps_set (i := 3) sc35.nd rfl (.inl rfl) (pe_op op_cat (pv 3) (pe_lstN (by exact (pa_cons (pe_said (df := none) (k := 5) (t := tB21 T _) T (by rfl) TB rfl hm hu0 (hr.mono (by decide)) (lmS_by (N := ["most", "wide", "due", "told_so", "lot"]) (sc := defScope (top 35)) (by decide +kernel)) rfl rfl (bnd0 _)
              (fun A outer s H E f c' hr2 => pe_callX (takes_of rfl rfl rfl rfl) G21 hr2 (by rfl) T.g21 T.F21.kp T.b21 (by exact (pa_cons (pe_tup (pa_cons pe_int (pa_cons (pe_tup (pa_cons pe_int pa_nil)) pa_nil))) (pa_cons pe_int (pa_cons pe_int pa_nil)))))) (pa_cons (pe_said (df := some 0) (k := 5) (t := tB21 T _) T (by rfl) TB rfl hm hu0 (hr.mono (by decide)) (lmS_by (N := ["most", "wide", "due", "told_so", "lot"]) (sc := defScope (top 35)) (by decide +kernel)) ⟨_, _, rfl⟩ rfl (bnd1 _ _ _ _ rfl)
              (fun A outer s H E f c' hr2 => pe_callX (takes_of rfl rfl rfl rfl) G21 hr2 (by rfl) T.g21 T.F21.kp T.b21 (by exact (pa_cons (pe_tup (pa_cons pe_int (pa_cons (pe_tup (pa_cons pe_int pa_nil)) pa_nil))) (pa_cons (pe_tup (pa_cons pe_int pa_nil)) (pa_cons pe_int pa_nil)))))) pa_nil))))))
      (pss_cons (ps_if (pt_cmpR (r := rNeD K) (op_neD hu) (pv 3) (pe_lstN (by exact (pa_cons (pe_tup (pa_cons pe_str (pa_cons (pe_tup (pa_cons pe_int pa_nil)) pa_nil))) (pa_cons (pe_tup (pa_cons pe_str (pa_cons (pe_tup (pa_cons pe_int pa_nil)) pa_nil))) (pa_cons (pe_tup (pa_cons pe_str (pa_cons (pe_tup (pa_cons pe_int pa_nil)) pa_nil))) (pa_cons (pe_tup (pa_cons pe_str (pa_cons (pe_tup (pa_cons pe_int pa_nil)) pa_nil))) pa_nil)))))) (nomark _)) (pss_one (ps_ret pe_bl)) pss_nil)
      (pss_cons (ps_set (i := 3) sc35.nd rfl (.inl rfl) (pe_lstN (by exact (pa_cons (pe_said (df := none) (k := 5) (t := tB21 T _) T (by rfl) TB rfl hm hu0 (hr.mono (by decide)) (lmS_by (N := ["most", "wide", "due", "told_so", "lot"]) (sc := defScope (top 35)) (by decide +kernel)) rfl rfl (bnd0 _)
              (fun A outer s H E f c' hr2 => pe_callX (takes_of rfl rfl rfl rfl) G21 hr2 (by rfl) T.g21 T.F21.kp T.b21 (by exact (pa_cons (pe_tup (pa_cons pe_int (pa_cons (pe_tup (pa_cons pe_int (pa_cons pe_int pa_nil))) pa_nil))) (pa_cons (pe_tup (pa_cons pe_int (pa_cons pe_int pa_nil))) (pa_cons (pe_tup (pa_cons pe_int pa_nil)) pa_nil)))))) pa_nil))))
      (pss_cons (ps_expr (pe_bm PySem.F.plainAttrs_list PySem.F.slot_list_append PySem.F.type_list_append mt_append (pv 3) (by exact (pa_cons (pe_said (df := none) (k := 5) (t := tB21 T _) T (by rfl) TB rfl hm hu0 (hr.mono (by decide)) (lmS_by (N := ["most", "wide", "due", "told_so", "lot"]) (sc := defScope (top 35)) (by decide +kernel)) rfl rfl (bnd0 _)
              (fun A outer s H E f c' hr2 => pe_callX (takes_of rfl rfl rfl rfl) G21 hr2 (by rfl) T.g21 T.F21.kp T.b21 (by exact (pa_cons (pe_tup (pa_cons pe_int (pa_cons (pe_tup (pa_cons pe_int (pa_cons pe_int pa_nil))) pa_nil))) (pa_cons (pe_tup (pa_cons pe_int (pa_cons pe_int pa_nil))) (pa_cons (pe_tup (pa_cons pe_int (pa_cons pe_int pa_nil))) pa_nil)))))) pa_nil))))
      (pss_cons (ps_if (pt_cmpR (r := rNeP) (op_neP hu) (pe_said (df := none) (k := 5) (t := tB21 T _) T (by rfl) TB rfl hm hu0 (hr.mono (by decide)) (lmS_by (N := ["most", "wide", "due", "told_so", "lot"]) (sc := defScope (top 35)) (by decide +kernel)) rfl rfl (bnd0 _)
              (fun A outer s H E f c' hr2 => pe_callX (takes_of rfl rfl rfl rfl) G21 hr2 (by rfl) T.g21 T.F21.kp T.b21 (by exact (pa_cons (pe_tup (pa_cons pe_int (pa_cons (pe_tup (pa_cons pe_int (pa_cons pe_int pa_nil))) pa_nil))) (pa_cons (pe_tup (pa_cons pe_int (pa_cons pe_int pa_nil))) (pa_cons (pe_tup (pa_cons pe_int (pa_cons pe_int pa_nil))) pa_nil)))))) (pe_tup (pa_cons pe_str (pa_cons (pe_tup (pa_cons pe_int (pa_cons pe_int pa_nil))) pa_nil))) (nomark _)) (pss_one (ps_ret pe_bl)) pss_nil)
      (pss_one (ps_ret (pe_and (pe_cmpR (r := rEqD K) (op_eqD hu) (pv 3) (pe_lstN (by exact (pa_cons (pe_tup (pa_cons pe_str (pa_cons (pe_tup (pa_cons pe_int pa_nil)) pa_nil))) (pa_cons (pe_tup (pa_cons pe_str (pa_cons (pe_tup (pa_cons pe_int (pa_cons pe_int pa_nil))) pa_nil))) pa_nil)))) (nomark _)) (pe_one (pe_cmpR (r := rEqP) (op_eqP hu) (pe_callX (W := fun _ _ _ _ => False) LamX.takes0 G21 hr21 (by rfl) T.g21 T.F21.kp T.b21 (by exact (pa_cons (pe_tup (pa_cons pe_int (pa_cons (pe_tup (pa_cons pe_int (pa_cons pe_int pa_nil))) pa_nil))) (pa_cons (pe_tup (pa_cons pe_int (pa_cons pe_int pa_nil))) (pa_cons (pe_tup (pa_cons pe_int pa_nil)) pa_nil))))) (pe_tup (pa_cons pe_int (pa_cons pe_int pa_nil))) (nomark _))))))))))))))))))), ?_⟩
    have t0 : ∀ {σ : L2.St} {H : Hp}, Mk (tTup tNil) (tD []) σ H := mk_tup (ds := []) mk_nil (by show 0 ≤ 1000; decide)
    have t1 : ∀ {σ : L2.St} {H : Hp} {a : TE} {i : Int}, Mk a (.int i) σ H → Mk (tTup (tCons a tNil)) (tD [i]) σ H := fun x => mk_tup (mk_cons x mk_nil) (by show 1 ≤ 1000; decide)
    have t2 : ∀ {σ : L2.St} {H : Hp} {a b : TE} {i j : Int}, Mk a (.int i) σ H → Mk b (.int j) σ H → Mk (tTup (tCons a (tCons b tNil))) (tD [i, j]) σ H := fun x y => mk_tup (mk_cons x (mk_cons y mk_nil)) (by show 2 ≤ 1000; decide)
    have tf : ∀ {σ : L2.St} {H : Hp} {b : TE} {i : Int} {d : PyData}, Mk b d σ H → Mk (tTup (tCons (tC (.int i)) (tCons b tNil))) (.tuple [.int i, d]) σ H := fun y => mk_tup (mk_cons mk_int (mk_cons y mk_nil)) (by show 2 ≤ 1000; decide)
    have tw : ∀ {σ : L2.St} {H : Hp} {b : TE} {x : Str} {d : PyData}, Mk b d σ H → Mk (tTup (tCons (tC (.str x)) (tCons b tNil))) (.tuple [.str x, d]) σ H := fun y => mk_tup (mk_cons mk_str (mk_cons y mk_nil)) (by show 2 ≤ 1000; decide)
    have si : ∀ i : Int, SeqAt.shaped (.int i) = true := fun _ => rfl
    have g1 : GsOk [1] := by unfold GsOk; decide +kernel
    have g2 : GsOk [2] := by unfold GsOk; decide +kernel
    have g11 : GsOk [1, 1] := by unfold GsOk; decide +kernel
    have g21 : GsOk [2, 1] := by unfold GsOk; decide +kernel
    have g22 : GsOk [2, 2] := by unfold GsOk; decide +kernel
    have g0 : GsOk [] := fun x hx => absurd hx (by simp)
    -- most, wide
    refine ⟨10, 30, rfl, rfl, ⟨by decide, by decide, by decide⟩, ?_⟩
    dsimp only
    refine in_set ?_
    refine mk_tup (ds := [.int 3, tD gW]) (mk_cons mk_int (mk_cons (mk_rep (k := 8) (ds := [.int BM]) (mk_tup (mk_cons (mk_var rfl (.int _)) mk_nil) (by show 1 ≤ 1000; decide)) (by simp) (by decide) (by decide) (by show 1 ≤ 1000; decide)) mk_nil)) (by show 2 ≤ 1000; decide) H (Same.refl _) _ fun v H1 s1 r1 => ?_
    -- the wide plan's days
    refine in_ifS (fls_or (fls_ne (mk_len (mk_c13 (mk_var rfl r1) oW gokW)) mk_int (si _) (si _) (eqv_len (k := 93) (by rw [List.length_map]; exact w93)))
      (fls_or (fls_ne (mk_to (k := 4) (mk_c13 (mk_var rfl r1) oW gokW) mk_int) (mk_tup (ds := [[], [0], [0, 1], [0, 1, 2]].map tD) (mk_cons t0 (mk_cons (t1 mk_int) (mk_cons (t2 mk_int mk_int) (mk_cons (mk_tup (ds := [.int 0, .int 1, .int 2]) (mk_cons mk_int (mk_cons mk_int (mk_cons mk_int mk_nil))) (by show 3 ≤ 1000; decide)) mk_nil)))) (by show 4 ≤ 1000; decide))
          (by rw [← List.map_take]; exact shaped_all _) (shaped_all _) (by rw [← List.map_take]; exact eqv_tDt w4))
        (fls_ne (mk_last (d := tD [7]) (mk_c13 (mk_var rfl r1) oW gokW) mk_neg (by rw [List.length_map, List.getElem?_map, wl]; rfl)) (t1 mk_int) (shaped_tD _) (shaped_tD _) (eqv_tDo rfl)))) fun H2 s2 => ?_
    have r2 := r1.mono (Ex.same s2)
    refine in_ifS (fls_ne (mk_c21 (d := tD lW) (e := tD [0, 7]) (mk_var rfl r2) (mk_cat (ds := [.int 1, .int BM]) (t2 mk_int (mk_var rfl (.int _))) (mk_rep (k := 6) (ds := [.int 5]) (t1 mk_int) (by simp) (by decide) (by decide) (by show 1 ≤ 1000; decide)) (by show 2 + 6 ≤ 1000; decide)) (t2 mk_int mk_int) oW gokW wst (by rw [nums_tD]; exact wob))
        (mk_tup (ds := [.int BM, .int (BM - 1), .int 4, .int 4, .int 4, .int 4, .int 4, .int BM]) (mk_cons (mk_var rfl (.int _)) (mk_cons (mk_sub (mk_var rfl (.int _))) (mk_cons mk_int (mk_cons mk_int (mk_cons mk_int (mk_cons mk_int (mk_cons mk_int (mk_cons (mk_var rfl (.int _)) mk_nil)))))))) (by show 8 ≤ 1000; decide))
        (shaped_tD _) (shaped_tD [BM, BM - 1, 4, 4, 4, 4, 4, BM]) (by rw [nums_tD, nums_tD]; exact eqv_tDo wnx)) fun H3 s3 => ?_
    have r3 := r2.mono (Ex.same s3)
    -- due = [..]
    have v1 : Mk (tVar 1) (.tuple [.int 3, tD gW]) [some (.int BM), some v, none, none, none] H3 := mk_var rfl r3
    refine mk_c13 v1 oW gokW H3 (Same.refl _) _ fun v4 H4 s4 r4 => ?_
    have iW : ∃ t xs, v4 = .ref t ∧ H4 t = some (.tup xs) ∧ ITs H4 xs (lotsI 3 gW) := by
      cases r4 with
      | tup h1 h2 => exact ⟨_, _, rfl, h1, its_of_rp h2⟩
    obtain ⟨t, xs, rfl, ht, iL⟩ := iW
    have lx : xs.length = 93 := (paired_len iL).trans w93
    refine ⟨t, rfl, ⟨xs, .inl (.inl ht)⟩, fun D hD => lc_fm (walk_tup (xs := xs)) (fun i => if decide ((7 : Int) ∈ (lotsI 3 gW).getD i []) = true then xs[i]? else none) (by omega) hD (fun H5 s5 => .inl (.inl (s5 _ _ ht))) (fun i x H5 H6 Ky Kn hi s5 hy ky kn => ?_) fun H5 s5 hL => ?_⟩
    · obtain ⟨rfl, ex⟩ := hy
      obtain ⟨ns, en, ⟨td, rfl, htd⟩⟩ := L2.paired_get iL ex
      have eg : (lotsI 3 gW).getD i [] = ns := by rw [List.getD_eq_getElem?_getD, en]; rfl
      refine ⟨rfl, .ref td, rfl, td, _, rfl, .inr (.inl (.inl (s5 _ _ htd))), rfl, flat_ints ns, _, rfl, ?_⟩
      show if inV (.int 7) (ns.map V.int) = true then _ else _
      rw [inV_ints]
      refine ite2 (fun c => ?_) (fun c => ?_)
      · refine ⟨.ref td, rfl, ky _ _ ?_ (Same.refl _)⟩
        rw [eg, if_pos c, ex]
      · refine kn _ ?_ (Same.refl _)
        rw [eg, if_neg c]
    have iF := its_filter (fun l => decide ((7 : Int) ∈ l)) (ITs.mono (Ex.same s5) iL)
    have lF := (paired_len iF).trans w29
    generalize ((List.range xs.length).filterMap fun i => if decide ((7 : Int) ∈ (lotsI 3 gW).getD i []) = true then xs[i]? else none) = ys at hL iF lF
    have r5 := r3.mono (Ex.same (s4.trans s5))
    refine in_ifS (fls_or (fls_ne (mk_lenL rfl hL) mk_int (si _) (si _) (eqv_len (k := 29) lF))
      (fls_ne (mk_c20 (d := tD uW) (mk_var rfl r5) (mk_cat (mk_rep (k := 7) (ds := [.int BM]) (t1 (mk_var rfl (.int _))) (by simp) (by decide) (by decide) (by show 1 ≤ 1000; decide)) (t1 mk_int) (by show 7 + 1 ≤ 1000; decide)) oW gokW wus) (mk_tupL rfl hL iF.rp)
        (shaped_all _) (shaped_all _) (by rw [nums_tD]; exact eqv_tDt wdu))) fun H6 s6 => ?_
    -- two small plans
    refine in_ifS (fls_or (fls_ne (mk_c20 (d := tD [1, 1]) (tf (t2 mk_int mk_int)) (t2 mk_int mk_int) ⟨⟨by decide, by decide⟩, by decide, by decide⟩ g11 wst1) (mk_tup (ds := ([] : List (List Int)).map tD) mk_nil (by show 0 ≤ 1000; decide)) (shaped_all _) (shaped_all _) (by rw [nums_tD]; exact eqv_tDt wd1))
      (fls_ne (mk_c20 (d := tD [1, 1]) (tf (t2 mk_int mk_int)) (t2 mk_int mk_int) ⟨⟨by decide, by decide⟩, by decide, by decide⟩ g11 wst1) (mk_tup (ds := [[0, 1]].map tD) (mk_cons (t2 mk_int mk_int) mk_nil) (by show 1 ≤ 1000; decide)) (shaped_all _) (shaped_all _) (by rw [nums_tD]; exact eqv_tDt wd2))) fun H7 s7 => ?_
    have sH7 := s1.trans (s2.trans (s3.trans (s4.trans (s5.trans (s6.trans s7)))))
    have hT7 := tabs_same hT sH7
    -- told_so, first faults of plans
    refine in_s13 T hT7 (h := 0) (gs := [1]) (fun H => tf (t1 mk_int)) g1 fun H8 x8 e8 T8 r8 => ?_
    refine in_s20 T T8 (h := 1) (gs := []) (d := .none) (fun H => tf t0) (fun H => mk_non) g0 fun H9 x9 e9 T9 r9 => ?_
    rw [tv1] at r8
    rw [tv2] at r9
    refine ⟨fits (by show 2 ≤ 1000; decide), fun l hl hls => ?_⟩
    refine ⟨.ref l, rfl, ?_⟩
    refine in_s21 T (h := 4) (gs := [2]) (d := .int 0) (e := .int 0) (tabs_same T9 (same_upd hl)) (fun H => tf (t1 mk_int)) (fun H => mk_int) (fun H => mk_int) g2 fun H10 x10 e10 T10 r10 => ?_
    refine in_s21 T (h := 1) (gs := [2]) (d := tD [0]) (e := .int 0) T10 (fun H => tf (t1 mk_int)) (fun H => t1 mk_int) (fun H => mk_int) g2 fun H11 x11 e11 T11 r11 => ?_
    rw [tv3] at r10
    rw [tv4] at r11
    have s12 : Same H11 _ := Same.refl H11
    refine ⟨fits (by show 2 ≤ 1000; decide), fun l2 hl2 hs2 => ⟨l, l2, [x8, x9], [x10, x11], rfl, rfl, same_upd hl2 _ _ (e11 _ _ (e10 _ _ upd_same rfl) rfl), upd_same, fits (by show 2 + 2 ≤ 1000; decide), fun C hC => ?_⟩⟩
    have sB := (same_upd (o := .lst [x10, x11]) hl2).trans (same_upd (o := .lst ([x8, x9] ++ [x10, x11])) hC)
    have e9B := (Ex.upd (o := .lst [x8, x9]) hl).trans (e10.trans (e11.trans (Ex.same sB)))
    have all : RpAll (upd (upd H11 l2 (.lst [x10, x11])) C (.lst ([x8, x9] ++ [x10, x11]))) ([x8, x9] ++ [x10, x11]) [.tuple [.str "plan", tD [0]], .tuple [.str "plan", tD [1]], .tuple [.str "plan", tD [0]], .tuple [.str "standing", tD [0]]] :=
      .cons (r8.mono (e9.trans e9B)) (.cons (r9.mono e9B) (.cons (r10.mono (e11.trans (Ex.same sB))) (.cons (r11.mono (Ex.same sB)) .nil)))
    refine ⟨.ref C, rfl, ?_⟩
    refine mk_lst (ds := [.tuple [.str "plan", tD [0]], .tuple [.str "plan", tD [1]], .tuple [.str "plan", tD [0]], .tuple [.str "standing", tD [0]]]) (mk_cons (tw (t1 mk_int)) (mk_cons (tw (t1 mk_int)) (mk_cons (tw (t1 mk_int)) (mk_cons (tw (t1 mk_int)) mk_nil)))) (by show 4 ≤ 1000; decide) _ (Same.refl _) _ fun v12 H12 s12 r12 => ⟨_, _, Dp.lst (.inl (.inl (s12 _ _ upd_same))) (RpAll.dp (all.mono (Ex.same s12)) (by decide +kernel)), Rp.dp r12 (by decide +kernel), by decide +kernel, by decide +kernel, _, rfl, ite2 (fun c => absurd c (by decide +kernel)) (fun _ => ?_)⟩
    have T12 := tabs_same (tabs_same T11 sB) s12
    have e712 : Ex H7 H12 := e8.trans (e9.trans (e9B.trans (Ex.same s12)))
    -- told_so, first faults of days
    refine in_s21 T (h := 1) (gs := [2, 1]) (d := tD [2, 1]) (e := tD [0]) T12 (fun H => tf (t2 mk_int mk_int)) (fun H => t2 mk_int mk_int) (fun H => t1 mk_int) g21 fun H13 x13 e13 T13 r13 => ⟨fits (by show 1 ≤ 1000; decide), fun l3 hl3 hs3 => ?_⟩
    rw [tv5] at r13
    refine ⟨.ref l3, rfl, .inl ⟨rfl, _, .inl (.inl upd_same)⟩, ?_⟩
    refine in_s21 T (h := 1) (gs := [2, 1]) (d := tD [2, 1]) (e := tD [0, 1]) (tabs_same T13 (same_upd hl3)) (fun H => tf (t2 mk_int mk_int)) (fun H => t2 mk_int mk_int) (fun H => t2 mk_int mk_int) g21 fun H14 x14 e14 T14 r14 => ?_
    rw [tv6] at r14
    have hl14 := e14 _ _ (upd_same (H := H13) (a := l3) (o := .lst [x13])) rfl
    refine ⟨l3, [x13], x14, rfl, rfl, hl14, small1000 (by show 1 ≤ 1000; decide), ?_⟩
    have r13' := day_put (o := .lst ([x13] ++ [x14])) (r13.mono ((Ex.upd hl3).trans e14)) hl14
    have r14' := day_put (o := .lst ([x13] ++ [x14])) r14 hl14
    have T15 := tabs_put (o := .lst ([x13] ++ [x14])) T14 hl14
    have e013 := (Ex.same sH7).trans (e712.trans e13)
    have e015 : Ex H (upd H14 l3 (.lst ([x13] ++ [x14]))) := fun b o hb hf => by
      have h1 := e013 b o hb hf
      rw [upd_ne (ne_of_none h1 hl3)]
      exact e14 _ _ (Ex.upd hl3 _ _ h1 hf) hf
    have hl15 := upd_same (H := H14) (a := l3) (o := .lst ([x13] ++ [x14]))
    generalize upd H14 l3 (.lst ([x13] ++ [x14])) = H15 at *
    refine in_s21 T (h := 2) (gs := [2, 2]) (d := tD [2, 2]) (e := tD [0, 0]) T15 (fun H => tf (t2 mk_int mk_int)) (fun H => t2 mk_int mk_int) (fun H => t2 mk_int mk_int) g22 fun H16 x16 e16 T16 r16 => ?_
    rw [tv7] at r16
    refine tw (d := tD [0, 0]) (t2 mk_int mk_int) H16 (Same.refl _) _ fun v17 H17 s17 r17 => ⟨_, _, r16.mono (Ex.same s17), r17, by decide +kernel, by decide +kernel, _, rfl, ite2 (fun c => absurd c (by decide +kernel)) (fun _ => ?_)⟩
    -- the end
    have e1517 := e16.trans (Ex.same s17)
    refine ⟨.ref l3, rfl, ?_⟩
    refine mk_lst (ds := [.tuple [.str "day", tD [0]], .tuple [.str "day", tD [0, 1]]]) (mk_cons (tw (t1 mk_int)) (mk_cons (tw (t2 mk_int mk_int)) mk_nil)) (by show 2 ≤ 1000; decide) H17 (Same.refl _) _ fun v18 H18 s18 r18 => ?_
    have e1518 := e1517.trans (Ex.same s18)
    have all2 : RpAll H18 ([x13] ++ [x14]) [.tuple [.str "day", tD [0]], .tuple [.str "day", tD [0, 1]]] := .cons (r13'.mono e1518) (.cons (r14'.mono e1518) .nil)
    refine ⟨_, _, Dp.lst (.inl (.inl (e1518 _ _ hl15 rfl))) (RpAll.dp all2 (by decide +kernel)), Rp.dp r18 (by decide +kernel), by decide +kernel, by decide +kernel, _, rfl, ite2 (fun _ => ?_) (fun c => absurd (by decide +kernel) c)⟩
    refine mk_eq (mk_c21 (d := tD [2, 1]) (e := tD [1]) (tf (t2 mk_int mk_int)) (t2 mk_int mk_int) (t1 mk_int) ⟨⟨by decide, by decide⟩, by decide, by decide⟩ g21 wst2 (by rw [nums_tD]; exact wob2)) (t2 mk_int mk_int) (shaped_tD _) (shaped_tD [1, 1]) (by rw [nums_tD, nums_tD]; exact eqv_tDo wnx2) H18 (Same.refl _) _ fun v19 H19 s19 r19 => ?_
    cases r19
    exact q H19 (e015.trans (e1518.trans (Ex.same s19))) (tabs_same T16 (s17.trans (s18.trans s19)))
end
end OF
end
section
set_option Elab.async false
set_option linter.all false
set_option maxRecDepth 100000
set_option maxHeartbeats 4000000
/-! law -/
namespace OF
open PySem PySem.Spec PySem.Calls PyProof.Rows L2 OFx
theorem seqL_ex {K : PySem.W.Frag} {H H' : Hp} {a : Addr} {xs : List V} (x : SqL K H a xs) (e : Ex H H') : SqL K H' a xs := by
  rcases x with (x | ⟨o, x⟩) | x
  · exact .inl (.inl (e _ _ x rfl))
  · exact .inl (.inr ⟨o, e _ _ x rfl⟩)
  · exact .inr x
section
variable {P : Program} {w : World} {K : PySem.W.Frag} {mg : Str → Option Value} {base : Heap}
def sp36 (K : PySem.W.Frag) (Ts : List (Addr × Str)) : Sp := fun vs H Q _ => ∃ (a : Addr) (ns : List Int), vs = [.ref a] ∧ SqL K H a (ns.map V.int) ∧ ns.length ≤ 63 ∧ LamX.Tabs Ts H ∧ ∀ H', Q (.bl true) H'
theorem sc36 : FnScope ["script", "k", "m", "turn", "lot", "again"] ["script"] (defScope (top 36)) := ⟨rfl, rfl, rfl, by decide +kernel, rfl, by decide +kernel, by decide +kernel⟩
theorem ok36 (T : TX P K mg) {Ts : List (Addr × Str)} (G34 : FnG P w K mg base 9 T.f34 T.d34 ["m", "frame"] (sp34 Ts)) (G35 : FnG P w K mg base 8 T.f35 T.d35 [] (sp35 Ts)) : FnG P w K mg base 10 T.f36 T.d36 ["script"] (sp36 K Ts) := by
  refine okG T.F36 sc36 (fun vs H Q E h => ?_) (fun cdv A outer s H vs Q hr hgd h => ?_)
  · obtain ⟨a, ns, rfl, _⟩ := h
    rfl
  · obtain ⟨a, ns, rfl, hS, ln, hT, q⟩ := h
    have G23 : FnOk P w K mg base C8.CX0 1 T.f23 T.d23 ["script", "k"] (sp23 K) := ok23 T
    have G24 : FnOk P w K mg base C8.CX0 1 T.f24 T.d24 ["m", "many"] sp24 := ok24 T
    have G25 : FnOk P w K mg base C8.CX0 2 T.f25 T.d25 ["m", "some"] sp25 := ok25 T
    have hg : (A.deeper (envOfC "law" (defScope (top 36)) s.heap.objs.size T.f36 cdv)).guards = some [] := hgd
    have hr1 := hr.mono (j := 1) (by decide)
    have hr2 := hr.mono (j := 2) (by decide)
    have hr8 := hr.mono (j := 8) (by decide)
    refine ⟨_, pss_cons (ps_if (pt_not (pt_val (pe_callG0 G35 hr8 hg (by rfl) T.g35 T.F35.kp T.b35))) (pss_one (ps_ret pe_bl)) pss_nil)
      (pss_cons (ps_for PassesOwn.never rfl (pi_range1 (by rfl) T.z_range (by exact (pa_cons (pe_op op_add pe_int (pe_callB (cr_min rfl) (by rfl) T.z_min boot_min (by exact (pa_cons (pe_callB (r := rLenS K) cr_len (by rfl) T.z_len boot_len (pa_cons (pv 0) pa_nil)) (pa_cons pe_int pa_nil))))) pa_nil))) (pg_name (i := 1) sc36.nd rfl (.inl rfl))
        (pss_cons (ps_set (i := 2) sc36.nd rfl (.inr rfl) (pe_callN G23 hr1 (by rfl) T.g23 T.F23.kp T.b23 (by exact (pa_cons (pv 0) (pa_cons (pv 1) pa_nil)))))
        (pss_one (ps_for PassesOwn.never rfl (pi_range1 (by rfl) T.z_range (pa_cons pe_int pa_nil)) (pg_name (i := 3) sc36.nd rfl (.inl rfl))
          (pss_cons (ps_set (i := 4) sc36.nd rfl (.inl rfl) (pe_callTy (r := rTO K) cr_to (by rfl) T.z_tuple boot_tuple (pa_cons (pe_lc (own := [("again", 5)]) (g := gName 5) (te := tOp (rI0 fun i j => .int (i + j)) (tC (.int 1)) (tCallG sp24 (tCons (tVar 2) (tCons (tCallG sp25 (tCons (tVar 2) (tCons (tLst (tCons (tC (.int 2)) (tCons (tC (.int 5)) (tCons (tOp (rI CPow fun i j => .int (i ^ j.toNat)) (tC (.int 10)) (tC (.int 30))) tNil)))) tNil))) tNil)))) (tt := tYes) rfl sc36.nd
                (pi_range1 (by rfl) T.z_range (by exact (pa_cons (pe_op op_add pe_int (pe_callN G24 hr1 (by rfl) T.g24 T.F24.kp T.b24 (by exact (pa_cons (pv 2) (pa_cons pe_int pa_nil))))) pa_nil))) (blkOk_by (N := ["script", "k", "m", "turn", "lot", "again"]) (sc := defScope (top 36)) (by decide +kernel))
                (fun _ _ _ _ _ => pg_name (i := 5) sc36.nd rfl (.inl rfl)) (fun _ _ _ _ _ => pts_nil)
                (fun _ _ _ _ _ => by exact (pe_op op_add pe_int (pe_callN G24 hr1 (by rfl) T.g24 T.F24.kp T.b24 (by exact (pa_cons (pv 2) (pa_cons (pe_callN G25 hr2 (by rfl) T.g25 T.F25.kp T.b25 (by exact (pa_cons (pv 2) (pa_cons (pe_lst (pa_cons pe_int (pa_cons pe_int (pa_cons (pe_op op_pow pe_int pe_int) pa_nil)))) pa_nil)))) pa_nil))))))) pa_nil)))
          (pss_one (ps_if (pt_not (pt_val (pe_callG G34 hr hg (by rfl) T.g34 T.F34.kp T.b34 (by exact (pa_cons (pv 2) (pa_cons (pe_tup (pa_cons (pe_op op_add pe_int (pe_callN G24 hr1 (by rfl) T.g24 T.F24.kp T.b24 (by exact (pa_cons (pv 2) (pa_cons pe_int pa_nil))))) (pa_cons (pv 4) pa_nil))) pa_nil)))))) (pss_one (ps_ret pe_bl)) pss_nil)))))))
      (pss_one (ps_ret pe_bl))), ?_⟩
    have t30 : (10 ^ 30 : Int) = 1000000000000000000000000000000 := by decide
    refine ⟨rfl, hT, fun H1 e1 T1 => ⟨_, rfl, ?_⟩⟩
    have l63 : (((ns.map V.int).length : Nat) : Int) ≤ 63 := by
      rw [List.length_map]
      omega
    refine ⟨.ref a, rfl, a, _, rfl, .inl (seqL_ex hS e1), _, _, rfl, 3, _, rfl, rfl, _, rfl, by split <;> omega, by split <;> omega, for_it (walk_range (n := (3 + if (6 : Int) < ((ns.map V.int).length : Nat) then (6 : Int) else ((ns.map V.int).length : Nat)).toNat)) (fun i σ H' => (∃ y1 y2 y3 y4, σ = [some (.ref a), y1, y2, y3, y4, none]) ∧ Ex H H' ∧ LamX.Tabs Ts H') ⟨⟨_, _, _, _, rfl⟩, e1, T1⟩ (fun _ _ _ _ _ => trivial) ?_ ?_⟩
    · rintro i x σ _ H2 hi ⟨⟨y1, y2, y3, y4, rfl⟩, e2, T2⟩ ⟨rfl, rfl⟩
      have hi9 : i < 9 := Nat.lt_of_lt_of_le hi (by split <;> omega)
      -- m = ..
      dsimp only
      refine in_set ?_
      refine ⟨.ref a, rfl, .int (0 + (i : Int)), rfl, a, i, ns, by rw [Int.zero_add], seqL_ex hS e2, ln, by omega, fun H3 m s3 mi => ?_⟩
      have T3 := tabs_same T2 s3
      have e3 := e2.trans (Ex.same s3)
      have go3 : Go Ts m 0 H3 H3 := ⟨Ex.refl _, T3, mi⟩
      refine ⟨3, rfl, by decide, by decide, for_it (walk_range (n := 3)) (fun j σ H' => (∃ y3 y4, σ = [some (.ref a), some (.int (0 + (i : Int))), some (.ref m), y3, y4, none]) ∧ Go Ts m (120 * j) H3 H') ⟨⟨_, _, rfl⟩, go3⟩ (fun _ _ _ _ _ => trivial) ?_ ?_⟩
      · rintro j x σ _ H4 hj ⟨⟨y3, y4, rfl⟩, go⟩ ⟨rfl, rfl⟩
        -- lot = ..
        dsimp only
        refine in_set ?_
        refine ⟨.ref m, rfl, m, 6, 120 * j, rfl, by decide, by decide, go.mi, by omega, fun H5 r r0 r1 sd5 mi5 => ⟨1, r, rfl, rfl, 1 + r, rfl, by omega, by omega, fun D hD => ?_⟩⟩
        have go5 := go.sd sd5 mi5
        have gg5 : Go Ts m (120 * j + 1) H5 H5 := ⟨Ex.refl _, go5.tb, go5.mi⟩
        refine lc_dr (walk_range (n := (1 + r).toNat)) (c := 2) (fun _ z => 1 ≤ z ∧ z ≤ 10 ^ 30) (by omega) gg5 hD (fun _ _ => trivial) (fun k x H6 H7 Ky hk g6 hy ky => ?_) gName_mono fun H6 gs g6 lg rg hL => ?_
        · obtain ⟨rfl, rfl⟩ := hy
          refine ⟨rfl, .ref m, rfl, .ref m, rfl, 10, 30, rfl, rfl, ⟨by decide, by decide, by decide⟩, fits (by show 3 ≤ 1000; decide), fun l hl => ⟨m, l, _, _, rfl, g6.mi.same (same_upd hl), by omega, upd_same, by simp, by show 3 ≤ 1000; decide, fun H8 jj x ex sd8 mi8 => ?_⟩⟩
          have many : ∃ z, x = V.int z ∧ 1 ≤ z ∧ z ≤ 10 ^ 30 := by
            match jj, ex with
            | 0, ex => exact ⟨2, (Option.some.inj ex).symm, by decide, by decide⟩
            | 1, ex => exact ⟨5, (Option.some.inj ex).symm, by decide, by decide⟩
            | 2, ex => exact ⟨BM, (Option.some.inj ex).symm, by decide, by decide⟩
            | _ + 3, ex => cases ex
          obtain ⟨z, rfl, z1, z2⟩ := many
          refine ⟨m, z, _, rfl, z1, z2, mi8, by omega, fun H9 r' r0' r1' sd9 mi9 => ⟨1, r', rfl, rfl, ky _ _ ⟨by omega, by omega⟩ ((Sd.same (same_upd hl)).trans (sd8.trans sd9)) (mi9.up (by omega))⟩⟩
        · refine ⟨D, _, rfl, .inl ⟨.inl (.inl hL), fun t ht => ?_⟩⟩
          have s7 := same_upd (o := .tup (gs.map V.int)) ht
          have g7 := (g6.same s7).from go5.ex
          have ht7 := upd_same (H := H6) (a := t) (o := .tup (gs.map V.int))
          generalize upd H6 t (.tup (gs.map V.int)) = H7 at *
          have gok : GsOk gs := fun y hy => by
            obtain ⟨k, hk, e⟩ := List.getElem_of_mem hy
            have z := rg k (by omega)
            rw [List.getD_eq_getElem?_getD, List.getElem?_eq_getElem hk] at z
            rw [← e]
            exact z
          have lg' : gs.length ≤ 6 := by omega
          have lg1 : 1 ≤ gs.length := by omega
          refine ⟨.ref m, rfl, .ref m, rfl, m, 3, _, rfl, by decide, by decide, g7.mi, by omega, fun H8 r' r0' r1' sd8 mi8 => ⟨1, r', rfl, rfl, .ref t, rfl, fits (by show 2 ≤ 1000; decide), fun p hp => ?_⟩⟩
          have g8 := g7.sd sd8 mi8
          have ht8 := sd8 _ _ (g7.mi.neT ht7) ht7
          have s9 := same_upd (o := .tup [.int (1 + r'), .ref t]) hp
          have g9 := g8.same s9
          refine ⟨m, .ref p, 1 + r', gs, _, rfl, g9.mi, by omega, g9.tb, ⟨p, t, rfl, upd_same, s9 _ _ ht8⟩, ⟨⟨by omega, by omega⟩, by omega, by omega⟩, gok, lg', fun H10 g10 => ⟨_, rfl, ?_⟩⟩
          exact ⟨⟨_, _, rfl⟩, (g10.from g9.ex).up (by omega)⟩
      · rintro σ H4 ⟨⟨y3, y4, rfl⟩, go⟩
        exact ⟨⟨_, _, _, _, rfl⟩, e3.trans go.ex, go.tb⟩
    · rintro σ H2 ⟨⟨y1, y2, y3, y4, rfl⟩, e2, T2⟩
      exact q _
end
end OF
end
section
set_option Elab.async false
set_option linter.all false
set_option maxRecDepth 100000
set_option maxHeartbeats 4000000
/-! The end of a law whose def wants repr: called by the claim's caller, with tables of code objects. -/
namespace OFx
open PySem PySem.Spec PySem.Calls PyProof.Rows L2
/-- what is tracked at the start: the tables, and the script where the top has not written it -/
def Hst (K : PySem.W.Frag) (ts : List Addr) (a : Addr) (sc : Obj) (xs : List V) : Hp := fun b =>
  if b ∈ ts then some (.tbl #[]) else if b = a ∧ (K.lookup a).isNone = true then some (.frz sc (.lst xs)) else none
section
variable {K : PySem.W.Frag} {ts : List Addr} {a b : Addr} {sc : Obj} {xs : List V}
theorem hst_tbl (h : b ∈ ts) : Hst K ts a sc xs b = some (.tbl #[]) := if_pos h
theorem hst_split : (b ∈ ts ∧ Hst K ts a sc xs b = some (.tbl #[])) ∨ (b ∉ ts ∧ b = a ∧ K.lookup a = none ∧ Hst K ts a sc xs b = some (.frz sc (.lst xs))) ∨ (b ∉ ts ∧ (b ≠ a ∨ K.lookup a ≠ none) ∧ Hst K ts a sc xs b = none) := by
  by_cases h : b ∈ ts
  · exact .inl ⟨h, if_pos h⟩
  · by_cases g : b = a ∧ (K.lookup a).isNone = true
    · exact .inr (.inl ⟨h, g.1, Option.isNone_iff_eq_none.mp g.2, (if_neg h).trans (if_pos g)⟩)
    · refine .inr (.inr ⟨h, ?_, (if_neg h).trans (if_neg g)⟩)
      by_cases e : b = a
      · exact .inr fun z => g ⟨e, by rw [z]; rfl⟩
      · exact .inl e
end
section
variable {P : Program} {w : World} {K : PySem.W.Frag} {mg mb : Str → Option Value} {k : Nat} {fa a : Addr} {cs : List (Addr × Addr)} {fd : FuncData} {x : Str} {sp : Sp} {s₁ : Shared} {vs : List Value} {ns : List Int}
theorem law_endG (KX : K.In s₁.heap) (hns : s₁.heap.Ns mainGlobals mg) (hb : s₁.heap.Ns builtinsNs mb) (hbb : ∀ x : Str, x ≠ "__name__" → mb x = bootBuiltins x) (hlim : s₁.heap.NoLimit) (hgen : s₁.gens = #[])
    (tabs : ∀ p ∈ cs, s₁.heap.get? p.2 = some { cls := .none, data := .fields #[] }) (unw : ∀ p ∈ cs, K.lookup p.2 = none) (heads : ∀ p ∈ cs, PySem.W.CodeHd s₁.heap p.1 p.2)
    (mods : ∃ (bm : Addr) (ob : Obj), mg "__builtins__" = some (.ref bm) ∧ bm ≠ builtinsNs ∧ s₁.heap.get? bm = some ob ∧ ob.cls = .type "module" ∧ ob.dict = some builtinsNs ∧ ob.data = .plain)
    (scr : s₁.heap.get? a = some { cls := .type "list", data := .seq vs.toArray }) (isI : IntsAre vs ns) (len : ns.length ≤ sizeLine) (room : Room k callerA)
    (F : ∀ base : Heap, K.In base → base.Ns mainGlobals mg → (∀ p ∈ cs, LamX.TabB base mg p.1 p.2) → FnG P w K mg base k fa fd [x] sp) (bnd : ∀ (s : Shared) (u : Value), BindsTo s fd ⟨[u], []⟩ [(x, u)])
    (asks : ∀ H : Hp, (∀ p ∈ cs, H p.2 = some (.tbl #[])) → SqL K H a (ns.map V.int) → sp [.ref a] H (fun v _ => v = .bl true) C8.E0) :
    codeAny (model P w) callerA (.call (.ref fa) ⟨[.ref a], []⟩) (fun r s' => r = .ok (.ret (.bool true)) ∧ OldK s₁.heap s'.heap ∧ s'.os = s₁.os ∧ AllBare s'.gens) s₁ := by
  have vals := vals_ints isI
  have lenV := isI.length
  have tab : ∀ b ∈ cs.map (·.2), s₁.heap.get? b = some { cls := .none, data := .fields #[] } := fun b hb => by
    obtain ⟨p, hp, rfl⟩ := List.mem_map.mp hb
    exact tabs p hp
  have here : ∀ p ∈ cs, p.2 ∈ cs.map (·.2) := fun p hp => List.mem_map_of_mem hp
  generalize eH : Hst K (cs.map (·.2)) a { cls := .type "list", data := .seq vs.toArray } (ns.map V.int) = H
  have split : ∀ b, (b ∈ cs.map (·.2) ∧ H b = some (.tbl #[])) ∨ (b ∉ cs.map (·.2) ∧ b = a ∧ K.lookup a = none ∧ H b = some (.frz { cls := .type "list", data := .seq vs.toArray } (.lst (ns.map V.int)))) ∨ (b ∉ cs.map (·.2) ∧ (b ≠ a ∨ K.lookup a ≠ none) ∧ H b = none) := fun b => by
    rw [← eH]
    exact hst_split
  have scrT : a ∉ cs.map (·.2) := fun z => by
    have q := congrArg (Option.map Obj.data) ((tab a z).symm.trans scr)
    cases q
  -- what is neither a list nor an empty table is not tracked
  have free : ∀ {b : Addr} {o : Obj}, s₁.heap.get? b = some o → (∀ ys n, o.data ≠ .seq ys n) → o.data ≠ .fields #[] → H b = none := fun {b o} e d1 d2 => by
    rcases split b with ⟨z, _⟩ | ⟨_, z, _⟩ | z
    · rw [tab b z] at e
      cases e
      exact absurd rfl d2
    · rw [z, scr] at e
      cases e
      exact absurd rfl (d1 _ _)
    · exact z.2.2
  have base : ∀ {b : Addr} {o : Obj}, s₁.heap.get? b = some o → H b = none → (hidT s₁.heap H).get? b = some o := fun e n => hidT_get e n
  have plain : ∀ {b : Addr} {o : Obj}, s₁.heap.get? b = some o → (∀ ys n, o.data ≠ .seq ys n) → o.data ≠ .fields #[] → (hidT s₁.heap H).get? b = some o := fun e d1 d2 => base e (free e d1 d2)
  have names : ∀ {b : Addr} {m : Str → Option Value}, s₁.heap.Ns b m → (hidT s₁.heap H).Ns b m := fun {b m} ⟨o, es, ep, e, d, r⟩ => ⟨o, es, ep, plain e (fun ys n z => by rw [d] at z; cases z) (fun z => by rw [d] at z; cases z), d, r⟩
  have inB : K.In (hidT s₁.heap H) := fun b o e => base (KX b o e) (by
    rcases split b with ⟨z, _⟩ | ⟨_, z, zn, _⟩ | z
    · obtain ⟨p, hp, rfl⟩ := List.mem_map.mp z
      rw [unw p hp] at e
      cases e
    · rw [z, zn] at e
      cases e
    · exact z.2.2)
  have hok : HOk P w H s₁.heap := fun b u e => by
    rcases split b with ⟨z, z2⟩ | ⟨_, z, _, z2⟩ | z
    · rw [z2] at e
      cases e
      exact tab b z
    · rw [z2] at e
      cases e
      rw [z]
      exact ⟨scr, by rw [List.length_map]; exact len, vs, _, vals, scr⟩
    · rw [z.2.2] at e
      cases e
  have seq : SqL K H a (ns.map V.int) := by
    cases q : K.lookup a with
    | none =>
      rcases split a with ⟨z, _⟩ | ⟨_, _, _, z⟩ | z
      · exact absurd z scrT
      · exact .inl (.inr ⟨_, z⟩)
      · exact absurd q (z.2.1.resolve_left fun n => n rfl)
    | some o =>
      have e := KX a o q
      rw [scr] at e
      cases e
      exact .inr ⟨_, vs.toArray, _, q, rfl, rfl, rfl, by rw [List.size_toArray, lenV]; exact len, by simpa using vals⟩
  have TB : ∀ p ∈ cs, LamX.TabB (hidT s₁.heap H) mg p.1 p.2 := fun p hp => by
    have pt := tabs p hp
    refine ⟨?_, ?_, fun z => ?_⟩
    · obtain ⟨o, us, file, tf, fl, tg, inF, tx, tt, e, q1, q2, q3, qs⟩ := heads p hp
      exact ⟨o, us, file, tf, fl, tg, inF, tx, tt, plain e (fun ys n z => by rw [q2] at z; cases z) (fun z => by rw [q2] at z; cases z; simp at q3), q1, q2, q3, qs⟩
    · obtain ⟨bm, ob, b1, b2, b3, b4, b5, b6⟩ := mods
      refine ⟨bm, ob, b1, b2, fun z => ?_, fun z => ?_, plain b3 (fun ys n z => by rw [b6] at z; cases z) (fun z => by rw [b6] at z; cases z), b4, b5, b6⟩
      · obtain ⟨o, es, ep, e, d, _⟩ := hns
        rw [z, e] at b3
        cases b3
        rw [d] at b6
        cases b6
      · rw [z, pt] at b3
        cases b3
        cases b6
    · obtain ⟨o, es, ep, e, d, _⟩ := hns
      rw [z, pt] at e
      cases e
      cases d
  have mod : L2.Mod K mg (hidT s₁.heap H) := ⟨inB, names hns, ⟨mb, names hb, hbb⟩, let ⟨mc, h1, h2⟩ := hlim; ⟨mc, names h1, h2⟩⟩
  have env : Env0 P w K mg (hidT s₁.heap H) callerA [] s₁ H := ⟨rfl, mod, fun b o e => of_hidT e, Nat.le_of_eq (hidT_size _ _), trivial, fun b hb => (nomatch hb), hok, .of_eq hgen⟩
  have tblH : ∀ p ∈ cs, H p.2 = some (.tbl #[]) := fun p hp => by
    rw [← eH]
    exact hst_tbl (here p hp)
  refine codeAny_mono ((F _ inB (names hns) TB).run callerA [] s₁ H ⟨[.ref a], []⟩ [.ref a] [.ref a] _ room rfl env (bnd s₁ (.ref a)) (.cons rfl .nil) (asks H tblH seq)) fun r s' h => ?_
  match r, h with
  | .error _, h => exact (show False from h).elim
  | .ok .next, h => exact (show False from h).elim
  | .ok .brk, h => exact (show False from h).elim
  | .ok .cont, h => exact (show False from h).elim
  | .ok (.ret u), h =>
    obtain ⟨v, H', os, bare, un, hok', rel, q⟩ := h
    obtain rfl : v = .bl true := q
    obtain rfl : u = Value.bool true := rel
    have stay : ∀ b o, b ∉ cs.map (·.2) → s₁.heap.get? b = some o → s'.heap.get? b = some o := fun b o nb e => by
      rcases split b with ⟨z, _⟩ | ⟨_, z, _, z2⟩ | z
      · exact absurd z nb
      · rw [z, scr] at e
        cases e
        rw [z] at z2 ⊢
        exact (hok' a _ (un.frzs a _ _ z2)).1
      · exact un.keep b o e z.2.2 (fun m => nomatch m) (fun m => nomatch m)
    have grew : ∀ p ∈ cs, ∃ more : Array Value, s'.heap.get? p.2 = some { cls := .none, data := .fields (#[] ++ more) } := fun p hp => by
      obtain ⟨more, z⟩ := un.tbls p.2 #[] (tblH p hp)
      exact ⟨more, hok' p.2 _ z⟩
    refine ⟨rfl, ⟨fun b o e => ?_, fun b o e => ?_⟩, os, bare⟩
    · by_cases hb : b ∈ cs.map (·.2)
      · obtain ⟨p, hp, rfl⟩ := List.mem_map.mp hb
        obtain ⟨more, hm⟩ := grew p hp
        rw [tabs p hp] at e
        cases e
        exact .inr (.inl ⟨((heads p hp).tab (tabs p hp)).isCodeTable, rfl, #[], more, rfl, hm⟩)
      · exact .inl (stay b o hb e)
    · by_cases hb : b ∈ cs.map (·.2)
      · obtain ⟨p, hp, rfl⟩ := List.mem_map.mp hb
        obtain ⟨more, hm⟩ := grew p hp
        exact ⟨_, hm⟩
      · exact ⟨o, stay b o hb e⟩
end
end OFx
namespace OF
open PySem PySem.Spec PySem.Calls PyProof.Rows L2 OFx
theorem tabs_start {Ts : List (Addr × Str)} {H : Hp} (h : ∀ p ∈ Ts, H p.1 = some (.tbl #[])) : LamX.Tabs Ts H := fun p hp => ⟨#[], h p hp, trivial, fun pos cv e => by cases e⟩
def qs32 : Str := "_law_spot_right.<locals>.<lambda>"
def qs33 : Str := "_law_bad_right.<locals>.<lambda>"
def qs35 : Str := "_law_hand_right.<locals>.<lambda>"
def tabsOf {P : Program} {K : PySem.W.Frag} {mg : Str → Option Value} (T : TX P K mg) : List (Addr × Str) := [(T.p32, qs32), (T.p33, qs33), (T.p35, qs35)]
def codesOf {P : Program} {K : PySem.W.Frag} {mg : Str → Option Value} (T : TX P K mg) : List (Addr × Addr) := [(T.c32, T.p32), (T.c33, T.p33), (T.c35, T.p35)]
section
variable {P : Program} {w : World} {K : PySem.W.Frag} {mg mb : Str → Option Value}
theorem law_all (T : TX P K mg) (n1 : T.p32 ≠ T.p33) (n2 : T.p32 ≠ T.p35) (n3 : T.p33 ≠ T.p35) (base : Heap) (TB : ∀ p ∈ codesOf T, LamX.TabB base mg p.1 p.2) : FnG P w K mg base 10 T.f36 T.d36 ["script"] (sp36 K (tabsOf T)) := by
  have m1 : (T.p32, qs32) ∈ tabsOf T := .head _
  have m2 : (T.p33, qs33) ∈ tabsOf T := .tail _ (.head _)
  have m3 : (T.p35, qs35) ∈ tabsOf T := .tail _ (.tail _ (.head _))
  have u : ∀ p ∈ tabsOf T, p = (T.p32, qs32) ∨ p = (T.p33, qs33) ∨ p = (T.p35, qs35) := fun p hp => by
    rcases List.mem_cons.mp hp with e | hp
    · exact .inl e
    rcases List.mem_cons.mp hp with e | hp
    · exact .inr (.inl e)
    · exact .inr (.inr (List.mem_singleton.mp hp))
  have u1 : ∀ p ∈ tabsOf T, p.1 = T.p32 → p.2 = qs32 := fun p hp e => by
    rcases u p hp with z | z | z <;> rw [z] at e ⊢
    · exact absurd e.symm n1
    · exact absurd e.symm n2
  have u2 : ∀ p ∈ tabsOf T, p.1 = T.p33 → p.2 = qs33 := fun p hp e => by
    rcases u p hp with z | z | z <;> rw [z] at e ⊢
    · exact absurd e n1
    · exact absurd e.symm n3
  have u3 : ∀ p ∈ tabsOf T, p.1 = T.p35 → p.2 = qs35 := fun p hp e => by
    rcases u p hp with z | z | z <;> rw [z] at e ⊢
    · exact absurd e n2
    · exact absurd e n3
  have G32 : FnG P w K mg base 8 T.f32 T.d32 ["m", "frame", "spot"] (sp32 (tabsOf T)) := ok32 T (TB (T.c32, T.p32) (.head _)) m1 u1
  have G33 : FnG P w K mg base 8 T.f33 T.d33 ["m", "frame", "spot"] (sp33 (tabsOf T)) := ok33 T (TB (T.c33, T.p33) (.tail _ (.head _))) m2 u2
  have G35 : FnG P w K mg base 8 T.f35 T.d35 [] (sp35 (tabsOf T)) := ok35 T (TB (T.c35, T.p35) (.tail _ (.tail _ (.head _)))) m3 u3
  have G34 : FnG P w K mg base 9 T.f34 T.d34 ["m", "frame"] (sp34 (tabsOf T)) := ok34 T G32 G33
  exact ok36 T G34 G35
theorem the_end {s₁ : Shared} {fa a : Addr} {vs : List Value} {ns : List Int} (T : TX P K mg) (hf : T.f36 = fa) (n1 : T.p32 ≠ T.p33) (n2 : T.p32 ≠ T.p35) (n3 : T.p33 ≠ T.p35)
    (KX : K.In s₁.heap) (hns : s₁.heap.Ns mainGlobals mg) (hb : s₁.heap.Ns builtinsNs mb) (hbb : ∀ x : Str, x ≠ "__name__" → mb x = bootBuiltins x) (hlim : s₁.heap.NoLimit) (hgen : s₁.gens = #[])
    (tabs : ∀ p ∈ codesOf T, s₁.heap.get? p.2 = some { cls := .none, data := .fields #[] }) (unw : ∀ p ∈ codesOf T, K.lookup p.2 = none) (heads : ∀ p ∈ codesOf T, PySem.W.CodeHd s₁.heap p.1 p.2)
    (mods : ∃ (bm : Addr) (ob : Obj), mg "__builtins__" = some (.ref bm) ∧ bm ≠ builtinsNs ∧ s₁.heap.get? bm = some ob ∧ ob.cls = .type "module" ∧ ob.dict = some builtinsNs ∧ ob.data = .plain)
    (scr : s₁.heap.get? a = some { cls := .type "list", data := .seq vs.toArray }) (isI : IntsAre vs ns) (len : ns.length ≤ 63) :
    codeAny (model P w) callerA (.call (.ref fa) ⟨[.ref a], []⟩) (fun r s' => r = .ok (.ret (.bool true)) ∧ OldK s₁.heap s'.heap ∧ s'.os = s₁.os ∧ AllBare s'.gens) s₁ := by
  subst hf
  refine law_endG (k := 10) (fd := T.d36) (x := "script") (sp := sp36 K (tabsOf T)) KX hns hb hbb hlim hgen tabs unw heads mods scr isI (fits (by omega)) ⟨rfl, by decide, by decide⟩ (fun base _ _ TB => law_all T n1 n2 n3 base TB) (fun s u => ?_) fun H ht hS => ?_
  · obtain ⟨oc, od, kV, doc, pm, an, cdv, ct, osl, e, lk, hcd⟩ := T.F36.ex
    rw [e]
    exact .of_eq rfl
  · refine ⟨a, ns, rfl, hS, len, tabs_start fun p hp => ?_, fun _ => rfl⟩
    rcases List.mem_cons.mp hp with e | hp
    · rw [e]
      exact ht (T.c32, T.p32) (.head _)
    rcases List.mem_cons.mp hp with e | hp
    · rw [e]
      exact ht (T.c33, T.p33) (.tail _ (.head _))
    · rw [List.mem_singleton.mp hp]
      exact ht (T.c35, T.p35) (.tail _ (.tail _ (.head _)))
end
end OF
end
section
set_option Elab.async false
set_option linter.all false
set_option maxRecDepth 100000
set_option maxHeartbeats 8000000
/-! All facts of the top, from the written part (printed by mk_n2.py). -/
namespace OFx
open PySem PySem.W PySem.Calls PyProof.Rows PySem.HandSPX
section
variable {P : Program} {K : Frag} {mg : Str → Option Value} {h : Heap}
theorem xt_mk {nm fld : Str} {C fI B : Addr} (X : K.In h) (G : h.Ns mainGlobals mg) {nm2 q : Str} {N : Addr} {bs : List Value} {sn : List Str} {sub : List Value} {ab : Bool} {col : Option Bool} {dd : Option Addr} {m0 m1 m2 m3 m5 : Option Value}
    {qual msg file : Str} {tf : Tok} {oc : Value} {od an : Option Addr} {doc pm : Value} {cda cc : Addr} {ct : Value} {osl : Array (Option Value)} {p1 p2 a0 a1 a2 a3 a4 a5 b1 b2 b3 b4 : Pos} {ccl cl : Value} {cdd cld : Option Addr} {vs : Array Value} {ccs csl : Array (Option Value)}
    (cG : nsIn K mainGlobals nm = some (some (.ref C)))
    (cL : K.lookup C = some (excClassObj nm2 q C N bs [.ref B, .type "ValueError", .type "Exception", .type "BaseException", .type "object"] true sn sub ab col dd m0 m1 m2 m3 m5 "ValueError.__new__"))
    (h1 : findIn K (.ref C) "__setattr__" = some (some (.builtin "object.__setattr__"))) (h2 : findIn K (.ref C) "__getattribute__" = some (some (.builtin "BaseException.__getattribute__"))) (h3 : findIn K (.ref C) "__getattr__" = some none) (h4 : findIn K (.ref C) fld = some none)
    (h5 : findIn K (.ref C) "__init__" = some (some (.ref fI))) (h6 : typeIn K (.ref fI) = some (.type "function")) (h7 : keepIn K (.ref C) = true) (h8 : subIn K (.ref C) (.type "BaseException") = some true) (h9 : subIn K (.ref C) (.type "ValueError") = some true) (i1 : mroIn K C (.ref C) = some true) (i2 : typeIn K (.ref C) = some (.type "type")) (i3 : hasDictIn K C = true)
    (i4 : ks_superIn K C C "__init__" = some (some (.builtin "ValueError.__init__"))) (i5 : nsIn K cStatics "thirdparty.any" = some none) (i6 : nsIn K mainGlobals "super" = some none)
    (j1 : K.lookup fI = some ⟨oc, od, .func (ksFn "__init__" qual (ia fld p1 p2) (ib msg fld a0 a1 a2 a3 a4 a5 b1 b2 b3 b4) (isc fld) .none .none doc pm an (.ref cda) ct cc), osl⟩) (j2 : codeIn K (.ref cda) qual = true) (j3 : K.lookup cc = some ⟨cl, cld, .cell (some (.ref C)), csl⟩) (j4 : K.lookup cda = some ⟨ccl, cdd, .fields vs, ccs⟩) (j5 : vs[2]? = some (.str file tf))
    (j6 : ((P.main.file : Str) == file) = true) (j7 : CallForm msg a0 a1 a2 a3 a4) (j8 : (P.main.scope.names.lookup ("super" : Str)).isSome = false) : XT P K mg nm fld C fI :=
  { gC := mg_of X G cG, cls := ⟨nm2, q, N, bs, _, sn, sub, ab, col, dd, m0, m1, m2, m3, m5, cL, by rfl⟩, sa := h1, ga := h2, gg := h3, noN := h4, iC := h5, tC := h6, kC := h7, exC := h8, veC := h9, meC := i1, tyC := i2, hdC := i3, sup := i4, any := i5, sNo := mg_none_of X G i6,
    fn := ⟨qual, msg, file, tf, oc, od, doc, pm, an, cda, cc, ct, osl, p1, p2, a0, a1, a2, a3, a4, a5, b1, b2, b3, b4, ccl, cl, cdd, cld, vs, ccs, csl, j1, j2, j3, j4, j5, j6, j7⟩, top := j8 }
end
end OFx
namespace OF
open PySem PySem.Spec PySem.Calls PyProof.Rows L2 OFx
theorem lit_int {h : Heap} {v : Value} {i : Int} {as : List Addr} (r : PySem.W.ReadsLit h v (.int i) as) : ∃ t, v = .int i t := by
  cases r
  exact ⟨_, rfl⟩
theorem tx_mk {P : Program} {K : PySem.W.Frag} {mg : Str → Option Value} {h : Heap} (X : K.In h) (G : h.Ns mainGlobals mg)
    {f9 f10 f12 f13 f14 f15 f16 f17 f18 f19 f20 f21 f23 f24 f25 f26 f27 f28 f29 f30 f31 f32 f33 f34 f35 f36 c32 c33 c35 p32 p33 p35 CP CD CS iP iD iS : Addr}
    {od9 an9 : Option Addr} {sl9 : Array (Option Value)} {oc9 kV9 dc9 pm9 cd9 ct9 : Value}
    {od10 an10 : Option Addr} {sl10 : Array (Option Value)} {oc10 kV10 dc10 pm10 cd10 ct10 : Value}
    {od12 an12 : Option Addr} {sl12 : Array (Option Value)} {oc12 kV12 dc12 pm12 cd12 ct12 : Value}
    {od13 an13 : Option Addr} {sl13 : Array (Option Value)} {oc13 kV13 dc13 pm13 cd13 ct13 : Value}
    {od14 an14 : Option Addr} {sl14 : Array (Option Value)} {oc14 kV14 dc14 pm14 cd14 ct14 : Value}
    {od15 an15 : Option Addr} {sl15 : Array (Option Value)} {oc15 kV15 dc15 pm15 cd15 ct15 : Value}
    {od16 an16 : Option Addr} {sl16 : Array (Option Value)} {oc16 kV16 dc16 pm16 cd16 ct16 : Value}
    {od17 an17 : Option Addr} {sl17 : Array (Option Value)} {oc17 kV17 dc17 pm17 cd17 ct17 : Value}
    {od18 an18 : Option Addr} {sl18 : Array (Option Value)} {oc18 kV18 dc18 pm18 cd18 ct18 : Value}
    {od19 an19 : Option Addr} {sl19 : Array (Option Value)} {oc19 kV19 dc19 pm19 cd19 ct19 : Value}
    {od20 an20 : Option Addr} {sl20 : Array (Option Value)} {oc20 kV20 dc20 pm20 cd20 ct20 : Value}
    {od21 an21 : Option Addr} {sl21 : Array (Option Value)} {oc21 kV21 dc21 pm21 cd21 ct21 : Value}
    {od23 an23 : Option Addr} {sl23 : Array (Option Value)} {oc23 kV23 dc23 pm23 cd23 ct23 : Value}
    {od24 an24 : Option Addr} {sl24 : Array (Option Value)} {oc24 kV24 dc24 pm24 cd24 ct24 : Value}
    {od25 an25 : Option Addr} {sl25 : Array (Option Value)} {oc25 kV25 dc25 pm25 cd25 ct25 : Value}
    {od26 an26 : Option Addr} {sl26 : Array (Option Value)} {oc26 kV26 dc26 pm26 cd26 ct26 : Value}
    {od27 an27 : Option Addr} {sl27 : Array (Option Value)} {oc27 kV27 dc27 pm27 cd27 ct27 : Value}
    {od28 an28 : Option Addr} {sl28 : Array (Option Value)} {oc28 kV28 dc28 pm28 cd28 ct28 : Value}
    {od29 an29 : Option Addr} {sl29 : Array (Option Value)} {oc29 kV29 dc29 pm29 cd29 ct29 : Value}
    {od30 an30 : Option Addr} {sl30 : Array (Option Value)} {oc30 kV30 dc30 pm30 cd30 ct30 : Value}
    {od31 an31 : Option Addr} {sl31 : Array (Option Value)} {oc31 kV31 dc31 pm31 cd31 ct31 : Value}
    {od32 an32 : Option Addr} {sl32 : Array (Option Value)} {oc32 kV32 dc32 pm32 ct32 : Value}
    {od33 an33 : Option Addr} {sl33 : Array (Option Value)} {oc33 kV33 dc33 pm33 ct33 : Value}
    {od34 an34 : Option Addr} {sl34 : Array (Option Value)} {oc34 kV34 dc34 pm34 cd34 ct34 : Value}
    {od35 an35 : Option Addr} {sl35 : Array (Option Value)} {oc35 kV35 dc35 pm35 ct35 : Value}
    {od36 an36 : Option Addr} {sl36 : Array (Option Value)} {oc36 kV36 dc36 pm36 cd36 ct36 : Value}
    {tH tM : Tok}
    (a9 : PySem.W.nsIn K mainGlobals "is_whole" = some (some (.ref f9))) (l9 : K.lookup f9 = some ⟨oc9, od9, .func (PySem.W.fnOf "is_whole" "is_whole" (defArgs (top 9)) (defBody (top 9)) (defScope (top 9)) .none kV9 dc9 pm9 an9 cd9 ct9), sl9⟩) (c9 : PySem.W.codeIn K cd9 "is_whole" = true) (k9 : PySem.W.keepIn K (.ref f9) = true)
    (a10 : PySem.W.nsIn K mainGlobals "need_plan" = some (some (.ref f10))) (l10 : K.lookup f10 = some ⟨oc10, od10, .func (PySem.W.fnOf "need_plan" "need_plan" (defArgs (top 10)) (defBody (top 10)) (defScope (top 10)) .none kV10 dc10 pm10 an10 cd10 ct10), sl10⟩) (c10 : PySem.W.codeIn K cd10 "need_plan" = true) (k10 : PySem.W.keepIn K (.ref f10) = true)
    (a12 : PySem.W.nsIn K mainGlobals "lots_of" = some (some (.ref f12))) (l12 : K.lookup f12 = some ⟨oc12, od12, .func (PySem.W.fnOf "lots_of" "lots_of" (defArgs (top 12)) (defBody (top 12)) (defScope (top 12)) .none kV12 dc12 pm12 an12 cd12 ct12), sl12⟩) (c12 : PySem.W.codeIn K cd12 "lots_of" = true) (k12 : PySem.W.keepIn K (.ref f12) = true)
    (a13 : PySem.W.nsIn K mainGlobals "days_of" = some (some (.ref f13))) (l13 : K.lookup f13 = some ⟨oc13, od13, .func (PySem.W.fnOf "days_of" "days_of" (defArgs (top 13)) (defBody (top 13)) (defScope (top 13)) .none kV13 dc13 pm13 an13 cd13 ct13), sl13⟩) (c13 : PySem.W.codeIn K cd13 "days_of" = true) (k13 : PySem.W.keepIn K (.ref f13) = true)
    (a14 : PySem.W.nsIn K mainGlobals "is_day" = some (some (.ref f14))) (l14 : K.lookup f14 = some ⟨oc14, od14, .func (PySem.W.fnOf "is_day" "is_day" (defArgs (top 14)) (defBody (top 14)) (defScope (top 14)) .none kV14 dc14 pm14 an14 cd14 ct14), sl14⟩) (c14 : PySem.W.codeIn K cd14 "is_day" = true) (k14 : PySem.W.keepIn K (.ref f14) = true)
    (a15 : PySem.W.nsIn K mainGlobals "is_standing" = some (some (.ref f15))) (l15 : K.lookup f15 = some ⟨oc15, od15, .func (PySem.W.fnOf "is_standing" "is_standing" (defArgs (top 15)) (defBody (top 15)) (defScope (top 15)) .none kV15 dc15 pm15 an15 cd15 ct15), sl15⟩) (c15 : PySem.W.codeIn K cd15 "is_standing" = true) (k15 : PySem.W.keepIn K (.ref f15) = true)
    (a16 : PySem.W.nsIn K mainGlobals "need_standing" = some (some (.ref f16))) (l16 : K.lookup f16 = some ⟨oc16, od16, .func (PySem.W.fnOf "need_standing" "need_standing" (defArgs (top 16)) (defBody (top 16)) (defScope (top 16)) .none kV16 dc16 pm16 an16 cd16 ct16), sl16⟩) (c16 : PySem.W.codeIn K cd16 "need_standing" = true) (k16 : PySem.W.keepIn K (.ref f16) = true)
    (a17 : PySem.W.nsIn K mainGlobals "has_due" = some (some (.ref f17))) (l17 : K.lookup f17 = some ⟨oc17, od17, .func (PySem.W.fnOf "has_due" "has_due" (defArgs (top 17)) (defBody (top 17)) (defScope (top 17)) .none kV17 dc17 pm17 an17 cd17 ct17), sl17⟩) (c17 : PySem.W.codeIn K cd17 "has_due" = true) (k17 : PySem.W.keepIn K (.ref f17) = true)
    (a18 : PySem.W.nsIn K mainGlobals "later_of" = some (some (.ref f18))) (l18 : K.lookup f18 = some ⟨oc18, od18, .func (PySem.W.fnOf "later_of" "later_of" (defArgs (top 18)) (defBody (top 18)) (defScope (top 18)) .none kV18 dc18 pm18 an18 cd18 ct18), sl18⟩) (c18 : PySem.W.codeIn K cd18 "later_of" = true) (k18 : PySem.W.keepIn K (.ref f18) = true)
    (a19 : PySem.W.nsIn K mainGlobals "due_days" = some (some (.ref f19))) (l19 : K.lookup f19 = some ⟨oc19, od19, .func (PySem.W.fnOf "due_days" "due_days" (defArgs (top 19)) (defBody (top 19)) (defScope (top 19)) .none kV19 dc19 pm19 an19 cd19 ct19), sl19⟩) (c19 : PySem.W.codeIn K cd19 "due_days" = true) (k19 : PySem.W.keepIn K (.ref f19) = true)
    (a20 : PySem.W.nsIn K mainGlobals "right_days" = some (some (.ref f20))) (l20 : K.lookup f20 = some ⟨oc20, od20, .func (PySem.W.fnOf "right_days" "right_days" (defArgs (top 20)) (defBody (top 20)) (defScope (top 20)) .none kV20 dc20 pm20 an20 cd20 ct20), sl20⟩) (c20 : PySem.W.codeIn K cd20 "right_days" = true) (k20 : PySem.W.keepIn K (.ref f20) = true)
    (a21 : PySem.W.nsIn K mainGlobals "behind" = some (some (.ref f21))) (l21 : K.lookup f21 = some ⟨oc21, od21, .func (PySem.W.fnOf "behind" "behind" (defArgs (top 21)) (defBody (top 21)) (defScope (top 21)) .none kV21 dc21 pm21 an21 cd21 ct21), sl21⟩) (c21 : PySem.W.codeIn K cd21 "behind" = true) (k21 : PySem.W.keepIn K (.ref f21) = true)
    (a23 : PySem.W.nsIn K mainGlobals "_law_begun" = some (some (.ref f23))) (l23 : K.lookup f23 = some ⟨oc23, od23, .func (PySem.W.fnOf "_law_begun" "_law_begun" (defArgs (top 23)) (defBody (top 23)) (defScope (top 23)) .none kV23 dc23 pm23 an23 cd23 ct23), sl23⟩) (c23 : PySem.W.codeIn K cd23 "_law_begun" = true) (k23 : PySem.W.keepIn K (.ref f23) = true)
    (a24 : PySem.W.nsIn K mainGlobals "_law_draw" = some (some (.ref f24))) (l24 : K.lookup f24 = some ⟨oc24, od24, .func (PySem.W.fnOf "_law_draw" "_law_draw" (defArgs (top 24)) (defBody (top 24)) (defScope (top 24)) .none kV24 dc24 pm24 an24 cd24 ct24), sl24⟩) (c24 : PySem.W.codeIn K cd24 "_law_draw" = true) (k24 : PySem.W.keepIn K (.ref f24) = true)
    (a25 : PySem.W.nsIn K mainGlobals "_law_of" = some (some (.ref f25))) (l25 : K.lookup f25 = some ⟨oc25, od25, .func (PySem.W.fnOf "_law_of" "_law_of" (defArgs (top 25)) (defBody (top 25)) (defScope (top 25)) .none kV25 dc25 pm25 an25 cd25 ct25), sl25⟩) (c25 : PySem.W.codeIn K cd25 "_law_of" = true) (k25 : PySem.W.keepIn K (.ref f25) = true)
    (a26 : PySem.W.nsIn K mainGlobals "_law_lots" = some (some (.ref f26))) (l26 : K.lookup f26 = some ⟨oc26, od26, .func (PySem.W.fnOf "_law_lots" "_law_lots" (defArgs (top 26)) (defBody (top 26)) (defScope (top 26)) .none kV26 dc26 pm26 an26 cd26 ct26), sl26⟩) (c26 : PySem.W.codeIn K cd26 "_law_lots" = true) (k26 : PySem.W.keepIn K (.ref f26) = true)
    (a27 : PySem.W.nsIn K mainGlobals "_law_said" = some (some (.ref f27))) (l27 : K.lookup f27 = some ⟨oc27, od27, .func (PySem.W.fnOf "_law_said" "_law_said" (defArgs (top 27)) (defBody (top 27)) (defScope (top 27)) .none kV27 dc27 pm27 an27 cd27 ct27), sl27⟩) (c27 : PySem.W.codeIn K cd27 "_law_said" = true) (k27 : PySem.W.keepIn K (.ref f27) = true)
    (a28 : PySem.W.nsIn K mainGlobals "_law_is_spot" = some (some (.ref f28))) (l28 : K.lookup f28 = some ⟨oc28, od28, .func (PySem.W.fnOf "_law_is_spot" "_law_is_spot" (defArgs (top 28)) (defBody (top 28)) (defScope (top 28)) .none kV28 dc28 pm28 an28 cd28 ct28), sl28⟩) (c28 : PySem.W.codeIn K cd28 "_law_is_spot" = true) (k28 : PySem.W.keepIn K (.ref f28) = true)
    (a29 : PySem.W.nsIn K mainGlobals "_law_right_lots" = some (some (.ref f29))) (l29 : K.lookup f29 = some ⟨oc29, od29, .func (PySem.W.fnOf "_law_right_lots" "_law_right_lots" (defArgs (top 29)) (defBody (top 29)) (defScope (top 29)) .none kV29 dc29 pm29 an29 cd29 ct29), sl29⟩) (c29 : PySem.W.codeIn K cd29 "_law_right_lots" = true) (k29 : PySem.W.keepIn K (.ref f29) = true)
    (a30 : PySem.W.nsIn K mainGlobals "_law_next" = some (some (.ref f30))) (l30 : K.lookup f30 = some ⟨oc30, od30, .func (PySem.W.fnOf "_law_next" "_law_next" (defArgs (top 30)) (defBody (top 30)) (defScope (top 30)) .none kV30 dc30 pm30 an30 cd30 ct30), sl30⟩) (c30 : PySem.W.codeIn K cd30 "_law_next" = true) (k30 : PySem.W.keepIn K (.ref f30) = true)
    (a31 : PySem.W.nsIn K mainGlobals "_law_any" = some (some (.ref f31))) (l31 : K.lookup f31 = some ⟨oc31, od31, .func (PySem.W.fnOf "_law_any" "_law_any" (defArgs (top 31)) (defBody (top 31)) (defScope (top 31)) .none kV31 dc31 pm31 an31 cd31 ct31), sl31⟩) (c31 : PySem.W.codeIn K cd31 "_law_any" = true) (k31 : PySem.W.keepIn K (.ref f31) = true)
    (a32 : PySem.W.nsIn K mainGlobals "_law_spot_right" = some (some (.ref f32))) (l32 : K.lookup f32 = some ⟨oc32, od32, .func (PySem.W.fnOf "_law_spot_right" "_law_spot_right" (defArgs (top 32)) (defBody (top 32)) (defScope (top 32)) .none kV32 dc32 pm32 an32 (.ref c32) ct32), sl32⟩) (c32k : PySem.W.codeIn K (.ref c32) "_law_spot_right" = true) (k32 : PySem.W.keepIn K (.ref f32) = true)
    (a33 : PySem.W.nsIn K mainGlobals "_law_bad_right" = some (some (.ref f33))) (l33 : K.lookup f33 = some ⟨oc33, od33, .func (PySem.W.fnOf "_law_bad_right" "_law_bad_right" (defArgs (top 33)) (defBody (top 33)) (defScope (top 33)) .none kV33 dc33 pm33 an33 (.ref c33) ct33), sl33⟩) (c33k : PySem.W.codeIn K (.ref c33) "_law_bad_right" = true) (k33 : PySem.W.keepIn K (.ref f33) = true)
    (a34 : PySem.W.nsIn K mainGlobals "_law_drawn_right" = some (some (.ref f34))) (l34 : K.lookup f34 = some ⟨oc34, od34, .func (PySem.W.fnOf "_law_drawn_right" "_law_drawn_right" (defArgs (top 34)) (defBody (top 34)) (defScope (top 34)) .none kV34 dc34 pm34 an34 cd34 ct34), sl34⟩) (c34 : PySem.W.codeIn K cd34 "_law_drawn_right" = true) (k34 : PySem.W.keepIn K (.ref f34) = true)
    (a35 : PySem.W.nsIn K mainGlobals "_law_hand_right" = some (some (.ref f35))) (l35 : K.lookup f35 = some ⟨oc35, od35, .func (PySem.W.fnOf "_law_hand_right" "_law_hand_right" (defArgs (top 35)) (defBody (top 35)) (defScope (top 35)) .none kV35 dc35 pm35 an35 (.ref c35) ct35), sl35⟩) (c35k : PySem.W.codeIn K (.ref c35) "_law_hand_right" = true) (k35 : PySem.W.keepIn K (.ref f35) = true)
    (a36 : PySem.W.nsIn K mainGlobals "law" = some (some (.ref f36))) (l36 : K.lookup f36 = some ⟨oc36, od36, .func (PySem.W.fnOf "law" "law" (defArgs (top 36)) (defBody (top 36)) (defScope (top 36)) .none kV36 dc36 pm36 an36 cd36 ct36), sl36⟩) (c36 : PySem.W.codeIn K cd36 "law" = true) (k36 : PySem.W.keepIn K (.ref f36) = true)
    (z_isinstance : PySem.W.nsIn K mainGlobals "isinstance" = some none)
    (z_len : PySem.W.nsIn K mainGlobals "len" = some none)
    (z_enumerate : PySem.W.nsIn K mainGlobals "enumerate" = some none)
    (z_range : PySem.W.nsIn K mainGlobals "range" = some none)
    (z_sorted : PySem.W.nsIn K mainGlobals "sorted" = some none)
    (z_tuple : PySem.W.nsIn K mainGlobals "tuple" = some none)
    (z_list : PySem.W.nsIn K mainGlobals "list" = some none)
    (z_all : PySem.W.nsIn K mainGlobals "all" = some none)
    (z_zip : PySem.W.nsIn K mainGlobals "zip" = some none)
    (z_int : PySem.W.nsIn K mainGlobals "int" = some none)
    (z_bool : PySem.W.nsIn K mainGlobals "bool" = some none)
    (z_repr : PySem.W.nsIn K mainGlobals "repr" = some none)
    (z_min : PySem.W.nsIn K mainGlobals "min" = some none)
    (hands : PySem.W.nsIn K mainGlobals "MOST_HANDS" = some (some (.int 3 tH))) (things : PySem.W.nsIn K mainGlobals "MOST_THINGS" = some (some (.int 8 tM))) (gap : ∃ t, mg "MOST_GAP" = some (.int (10 ^ 30) t))
    (xP : XT P K mg "BadPlan" "place" CP iP) (xD : XT P K mg "BadDay" "value" CD iD) (xS : XT P K mg "BadStanding" "value" CS iS)
    (eSS : PySem.W.exmOne K (.ref CS) (.ref CS) = some true) (eDS : PySem.W.exmOne K (.ref CD) (.ref CS) = some false) (eDD : PySem.W.exmOne K (.ref CD) (.ref CD) = some true)
    (ePS : PySem.W.exmOne K (.ref CP) (.ref CS) = some false) (ePD : PySem.W.exmOne K (.ref CP) (.ref CD) = some false) (ePP : PySem.W.exmOne K (.ref CP) (.ref CP) = some true) :
    ∃ T : TX P K mg, T.f36 = f36 ∧ T.c32 = c32 ∧ T.c33 = c33 ∧ T.c35 = c35 ∧ T.p32 = p32 ∧ T.p33 = p33 ∧ T.p35 = p35 :=
  ⟨{ c32 := c32, c33 := c33, c35 := c35, p32 := p32, p33 := p33, p35 := p35, CP := CP, CD := CD, CS := CS, iP := iP, iD := iD, iS := iS,
     f9 := f9, d9 := PySem.W.fnOf "is_whole" "is_whole" (defArgs (top 9)) (defBody (top 9)) (defScope (top 9)) .none kV9 dc9 pm9 an9 cd9 ct9, g9 := PySem.W.mg_of X G a9, F9 := fun_mk (st := top 9) l9 c9 k9,
     f10 := f10, d10 := PySem.W.fnOf "need_plan" "need_plan" (defArgs (top 10)) (defBody (top 10)) (defScope (top 10)) .none kV10 dc10 pm10 an10 cd10 ct10, g10 := PySem.W.mg_of X G a10, F10 := fun_mk (st := top 10) l10 c10 k10,
     f12 := f12, d12 := PySem.W.fnOf "lots_of" "lots_of" (defArgs (top 12)) (defBody (top 12)) (defScope (top 12)) .none kV12 dc12 pm12 an12 cd12 ct12, g12 := PySem.W.mg_of X G a12, F12 := fun_mk (st := top 12) l12 c12 k12,
     f13 := f13, d13 := PySem.W.fnOf "days_of" "days_of" (defArgs (top 13)) (defBody (top 13)) (defScope (top 13)) .none kV13 dc13 pm13 an13 cd13 ct13, g13 := PySem.W.mg_of X G a13, F13 := fun_mk (st := top 13) l13 c13 k13,
     f14 := f14, d14 := PySem.W.fnOf "is_day" "is_day" (defArgs (top 14)) (defBody (top 14)) (defScope (top 14)) .none kV14 dc14 pm14 an14 cd14 ct14, g14 := PySem.W.mg_of X G a14, F14 := fun_mk (st := top 14) l14 c14 k14,
     f15 := f15, d15 := PySem.W.fnOf "is_standing" "is_standing" (defArgs (top 15)) (defBody (top 15)) (defScope (top 15)) .none kV15 dc15 pm15 an15 cd15 ct15, g15 := PySem.W.mg_of X G a15, F15 := fun_mk (st := top 15) l15 c15 k15,
     f16 := f16, d16 := PySem.W.fnOf "need_standing" "need_standing" (defArgs (top 16)) (defBody (top 16)) (defScope (top 16)) .none kV16 dc16 pm16 an16 cd16 ct16, g16 := PySem.W.mg_of X G a16, F16 := fun_mk (st := top 16) l16 c16 k16,
     f17 := f17, d17 := PySem.W.fnOf "has_due" "has_due" (defArgs (top 17)) (defBody (top 17)) (defScope (top 17)) .none kV17 dc17 pm17 an17 cd17 ct17, g17 := PySem.W.mg_of X G a17, F17 := fun_mk (st := top 17) l17 c17 k17,
     f18 := f18, d18 := PySem.W.fnOf "later_of" "later_of" (defArgs (top 18)) (defBody (top 18)) (defScope (top 18)) .none kV18 dc18 pm18 an18 cd18 ct18, g18 := PySem.W.mg_of X G a18, F18 := fun_mk (st := top 18) l18 c18 k18,
     f19 := f19, d19 := PySem.W.fnOf "due_days" "due_days" (defArgs (top 19)) (defBody (top 19)) (defScope (top 19)) .none kV19 dc19 pm19 an19 cd19 ct19, g19 := PySem.W.mg_of X G a19, F19 := fun_mk (st := top 19) l19 c19 k19,
     f20 := f20, d20 := PySem.W.fnOf "right_days" "right_days" (defArgs (top 20)) (defBody (top 20)) (defScope (top 20)) .none kV20 dc20 pm20 an20 cd20 ct20, g20 := PySem.W.mg_of X G a20, F20 := fun_mk (st := top 20) l20 c20 k20,
     f21 := f21, d21 := PySem.W.fnOf "behind" "behind" (defArgs (top 21)) (defBody (top 21)) (defScope (top 21)) .none kV21 dc21 pm21 an21 cd21 ct21, g21 := PySem.W.mg_of X G a21, F21 := fun_mk (st := top 21) l21 c21 k21,
     f23 := f23, d23 := PySem.W.fnOf "_law_begun" "_law_begun" (defArgs (top 23)) (defBody (top 23)) (defScope (top 23)) .none kV23 dc23 pm23 an23 cd23 ct23, g23 := PySem.W.mg_of X G a23, F23 := fun_mk (st := top 23) l23 c23 k23,
     f24 := f24, d24 := PySem.W.fnOf "_law_draw" "_law_draw" (defArgs (top 24)) (defBody (top 24)) (defScope (top 24)) .none kV24 dc24 pm24 an24 cd24 ct24, g24 := PySem.W.mg_of X G a24, F24 := fun_mk (st := top 24) l24 c24 k24,
     f25 := f25, d25 := PySem.W.fnOf "_law_of" "_law_of" (defArgs (top 25)) (defBody (top 25)) (defScope (top 25)) .none kV25 dc25 pm25 an25 cd25 ct25, g25 := PySem.W.mg_of X G a25, F25 := fun_mk (st := top 25) l25 c25 k25,
     f26 := f26, d26 := PySem.W.fnOf "_law_lots" "_law_lots" (defArgs (top 26)) (defBody (top 26)) (defScope (top 26)) .none kV26 dc26 pm26 an26 cd26 ct26, g26 := PySem.W.mg_of X G a26, F26 := fun_mk (st := top 26) l26 c26 k26,
     f27 := f27, d27 := PySem.W.fnOf "_law_said" "_law_said" (defArgs (top 27)) (defBody (top 27)) (defScope (top 27)) .none kV27 dc27 pm27 an27 cd27 ct27, g27 := PySem.W.mg_of X G a27, F27 := fun_mk (st := top 27) l27 c27 k27,
     f28 := f28, d28 := PySem.W.fnOf "_law_is_spot" "_law_is_spot" (defArgs (top 28)) (defBody (top 28)) (defScope (top 28)) .none kV28 dc28 pm28 an28 cd28 ct28, g28 := PySem.W.mg_of X G a28, F28 := fun_mk (st := top 28) l28 c28 k28,
     f29 := f29, d29 := PySem.W.fnOf "_law_right_lots" "_law_right_lots" (defArgs (top 29)) (defBody (top 29)) (defScope (top 29)) .none kV29 dc29 pm29 an29 cd29 ct29, g29 := PySem.W.mg_of X G a29, F29 := fun_mk (st := top 29) l29 c29 k29,
     f30 := f30, d30 := PySem.W.fnOf "_law_next" "_law_next" (defArgs (top 30)) (defBody (top 30)) (defScope (top 30)) .none kV30 dc30 pm30 an30 cd30 ct30, g30 := PySem.W.mg_of X G a30, F30 := fun_mk (st := top 30) l30 c30 k30,
     f31 := f31, d31 := PySem.W.fnOf "_law_any" "_law_any" (defArgs (top 31)) (defBody (top 31)) (defScope (top 31)) .none kV31 dc31 pm31 an31 cd31 ct31, g31 := PySem.W.mg_of X G a31, F31 := fun_mk (st := top 31) l31 c31 k31,
     f32 := f32, d32 := PySem.W.fnOf "_law_spot_right" "_law_spot_right" (defArgs (top 32)) (defBody (top 32)) (defScope (top 32)) .none kV32 dc32 pm32 an32 (.ref c32) ct32, g32 := PySem.W.mg_of X G a32, L32 := ⟨⟨oc32, od32, kV32, dc32, pm32, an32, ct32, sl32, rfl, l32, c32k⟩, k32⟩,
     f33 := f33, d33 := PySem.W.fnOf "_law_bad_right" "_law_bad_right" (defArgs (top 33)) (defBody (top 33)) (defScope (top 33)) .none kV33 dc33 pm33 an33 (.ref c33) ct33, g33 := PySem.W.mg_of X G a33, L33 := ⟨⟨oc33, od33, kV33, dc33, pm33, an33, ct33, sl33, rfl, l33, c33k⟩, k33⟩,
     f34 := f34, d34 := PySem.W.fnOf "_law_drawn_right" "_law_drawn_right" (defArgs (top 34)) (defBody (top 34)) (defScope (top 34)) .none kV34 dc34 pm34 an34 cd34 ct34, g34 := PySem.W.mg_of X G a34, F34 := fun_mk (st := top 34) l34 c34 k34,
     f35 := f35, d35 := PySem.W.fnOf "_law_hand_right" "_law_hand_right" (defArgs (top 35)) (defBody (top 35)) (defScope (top 35)) .none kV35 dc35 pm35 an35 (.ref c35) ct35, g35 := PySem.W.mg_of X G a35, L35 := ⟨⟨oc35, od35, kV35, dc35, pm35, an35, ct35, sl35, rfl, l35, c35k⟩, k35⟩,
     f36 := f36, d36 := PySem.W.fnOf "law" "law" (defArgs (top 36)) (defBody (top 36)) (defScope (top 36)) .none kV36 dc36 pm36 an36 cd36 ct36, g36 := PySem.W.mg_of X G a36, F36 := fun_mk (st := top 36) l36 c36 k36,
     z_isinstance := PySem.W.mg_none_of X G z_isinstance,
     z_len := PySem.W.mg_none_of X G z_len,
     z_enumerate := PySem.W.mg_none_of X G z_enumerate,
     z_range := PySem.W.mg_none_of X G z_range,
     z_sorted := PySem.W.mg_none_of X G z_sorted,
     z_tuple := PySem.W.mg_none_of X G z_tuple,
     z_list := PySem.W.mg_none_of X G z_list,
     z_all := PySem.W.mg_none_of X G z_all,
     z_zip := PySem.W.mg_none_of X G z_zip,
     z_int := PySem.W.mg_none_of X G z_int,
     z_bool := PySem.W.mg_none_of X G z_bool,
     z_repr := PySem.W.mg_none_of X G z_repr,
     z_min := PySem.W.mg_none_of X G z_min,
     xP := xP, xD := xD, xS := xS, eSS := eSS, eDS := eDS, eDD := eDD, ePS := ePS, ePD := ePD, ePP := ePP, hands := ⟨tH, PySem.W.mg_of X G hands⟩, things := ⟨tM, PySem.W.mg_of X G things⟩, gap := gap }, rfl, rfl, rfl, rfl, rfl, rfl, rfl⟩
section
variable {P : Program} {w : World} {K : PySem.W.Frag} {mg mb : Str → Option Value} {s₁ : Shared} {fa a f36 c32 c33 c35 p32 p33 p35 : Addr} {vs : List Value} {ns : List Int}
theorem finish (TT : ∃ T : TX P K mg, T.f36 = f36 ∧ T.c32 = c32 ∧ T.c33 = c33 ∧ T.c35 = c35 ∧ T.p32 = p32 ∧ T.p33 = p33 ∧ T.p35 = p35) (hmg : mg "law" = some (.ref fa)) (n1 : p32 ≠ p33) (n2 : p32 ≠ p35) (n3 : p33 ≠ p35)
    (KX : K.In s₁.heap) (hns : s₁.heap.Ns mainGlobals mg) (hb : s₁.heap.Ns builtinsNs mb) (hbb : ∀ x : Str, x ≠ "__name__" → mb x = bootBuiltins x) (hlim : s₁.heap.NoLimit) (hgen : s₁.gens = #[])
    (t1 : s₁.heap.get? p32 = some { cls := .none, data := .fields #[] }) (t2 : s₁.heap.get? p33 = some { cls := .none, data := .fields #[] }) (t3 : s₁.heap.get? p35 = some { cls := .none, data := .fields #[] })
    (u1 : K.lookup p32 = none) (u2 : K.lookup p33 = none) (u3 : K.lookup p35 = none) (d1 : PySem.W.codeHdIn K c32 p32 = true) (d2 : PySem.W.codeHdIn K c33 p33 = true) (d3 : PySem.W.codeHdIn K c35 p35 = true)
    (mods : ∃ (bm : Addr) (ob : Obj), mg "__builtins__" = some (.ref bm) ∧ bm ≠ builtinsNs ∧ s₁.heap.get? bm = some ob ∧ ob.cls = .type "module" ∧ ob.dict = some builtinsNs ∧ ob.data = .plain)
    (scr : s₁.heap.get? a = some { cls := .type "list", data := .seq vs.toArray }) (isI : IntsAre vs ns) (len : ns.length ≤ 63) :
    codeAny (model P w) callerA (.call (.ref fa) ⟨[.ref a], []⟩) (fun r s' => r = .ok (.ret (.bool true)) ∧ OldK s₁.heap s'.heap ∧ s'.os = s₁.os ∧ AllBare s'.gens) s₁ := by
  obtain ⟨T, rfl, rfl, rfl, rfl, rfl, rfl, rfl⟩ := TT
  have hf : T.f36 = fa := Value.ref.inj (Option.some.inj (T.g36.symm.trans hmg))
  have each : ∀ {φ : Addr × Addr → Prop}, φ (T.c32, T.p32) → φ (T.c33, T.p33) → φ (T.c35, T.p35) → ∀ p ∈ codesOf T, φ p := fun {φ} a b c p hp => by
    rcases List.mem_cons.mp hp with e | hp
    · rw [e]
      exact a
    rcases List.mem_cons.mp hp with e | hp
    · rw [e]
      exact b
    · rw [List.mem_singleton.mp hp]
      exact c
  exact the_end T hf n1 n2 n3 KX hns hb hbb hlim hgen (each t1 t2 t3) (each u1 u2 u3) (each (PySem.W.codeHd_of_K KX d1) (PySem.W.codeHd_of_K KX d2) (PySem.W.codeHd_of_K KX d3)) mods scr isI len
end
end OF
end
set_option Elab.async false
open PySem PySem.W PyProof.Rows
set_option maxRecDepth 100000 in
set_option maxHeartbeats 0 in
theorem PySem.Challenge.cw_oftenenough_k03_whole_days_holds : PySem.Challenge.rw_oftenenough_k03_whole_days.Holds := by
  w_on; o_law; k_head; (case hw => w_witness2)
  k_fill
  refine Att.attach_callB (n := 63) rfl (by rfl) fun w s₀ s₁ mg mb fa o pm cd doc a vs ns G Y ho hd hcd hmg hobj hints hlen hbits hg => ?_
  have KX := PySem.W.km_in_of Y
  have TB := PySem.W.km_tabs_of Y
  have gapv : ∃ t, mg "MOST_GAP" = some (.int (10 ^ 30) t) := by
    obtain ⟨v, e, r⟩ := G.X.2.val _ (List.Mem.head _)
    obtain ⟨t, rfl⟩ := OF.lit_int r
    exact ⟨t, e⟩
  refine' OF.finish (p32 := 219) (p33 := 224) (p35 := 236) (OF.tx_mk KX G.T.g ?a9 ?l9 ?c9 ?k9 ?a10 ?l10 ?c10 ?k10 ?a12 ?l12 ?c12 ?k12 ?a13 ?l13 ?c13 ?k13 ?a14 ?l14 ?c14 ?k14 ?a15 ?l15 ?c15 ?k15 ?a16 ?l16 ?c16 ?k16 ?a17 ?l17 ?c17 ?k17 ?a18 ?l18 ?c18 ?k18 ?a19 ?l19 ?c19 ?k19 ?a20 ?l20 ?c20 ?k20 ?a21 ?l21 ?c21 ?k21 ?a23 ?l23 ?c23 ?k23 ?a24 ?l24 ?c24 ?k24 ?a25 ?l25 ?c25 ?k25 ?a26 ?l26 ?c26 ?k26 ?a27 ?l27 ?c27 ?k27 ?a28 ?l28 ?c28 ?k28 ?a29 ?l29 ?c29 ?k29 ?a30 ?l30 ?c30 ?k30 ?a31 ?l31 ?c31 ?k31 ?a32 ?l32 ?c32k ?k32 ?a33 ?l33 ?c33k ?k33 ?a34 ?l34 ?c34 ?k34 ?a35 ?l35 ?c35k ?k35 ?a36 ?l36 ?c36 ?k36 ?z_isinstance ?z_len ?z_enumerate ?z_range ?z_sorted ?z_tuple ?z_list ?z_all ?z_zip ?z_int ?z_bool ?z_repr ?z_min ?hands ?things gapv ?xP ?xD ?xS ?eSS ?eDS ?eDD ?ePS ?ePD ?ePP) hmg (by decide) (by decide) (by decide) KX G.T.g G.T.b G.T.builtins G.T.nolimit hg (TB 219 (by decide)) (TB 224 (by decide)) (TB 236 (by decide)) ?u1 ?u2 ?u3 ?d1 ?d2 ?d3 G.T.bmain hobj hints hlen
  (case a9 => k_is); (case l9 => k_is); (case c9 => k_is); (case k9 => k_is)
  (case a10 => k_is); (case l10 => k_is); (case c10 => k_is); (case k10 => k_is)
  (case a12 => k_is); (case l12 => k_is); (case c12 => k_is); (case k12 => k_is)
  (case a13 => k_is); (case l13 => k_is); (case c13 => k_is); (case k13 => k_is)
  (case a14 => k_is); (case l14 => k_is); (case c14 => k_is); (case k14 => k_is)
  (case a15 => k_is); (case l15 => k_is); (case c15 => k_is); (case k15 => k_is)
  (case a16 => k_is); (case l16 => k_is); (case c16 => k_is); (case k16 => k_is)
  (case a17 => k_is); (case l17 => k_is); (case c17 => k_is); (case k17 => k_is)
  (case a18 => k_is); (case l18 => k_is); (case c18 => k_is); (case k18 => k_is)
  (case a19 => k_is); (case l19 => k_is); (case c19 => k_is); (case k19 => k_is)
  (case a20 => k_is); (case l20 => k_is); (case c20 => k_is); (case k20 => k_is)
  (case a21 => k_is); (case l21 => k_is); (case c21 => k_is); (case k21 => k_is)
  (case a23 => k_is); (case l23 => k_is); (case c23 => k_is); (case k23 => k_is)
  (case a24 => k_is); (case l24 => k_is); (case c24 => k_is); (case k24 => k_is)
  (case a25 => k_is); (case l25 => k_is); (case c25 => k_is); (case k25 => k_is)
  (case a26 => k_is); (case l26 => k_is); (case c26 => k_is); (case k26 => k_is)
  (case a27 => k_is); (case l27 => k_is); (case c27 => k_is); (case k27 => k_is)
  (case a28 => k_is); (case l28 => k_is); (case c28 => k_is); (case k28 => k_is)
  (case a29 => k_is); (case l29 => k_is); (case c29 => k_is); (case k29 => k_is)
  (case a30 => k_is); (case l30 => k_is); (case c30 => k_is); (case k30 => k_is)
  (case a31 => k_is); (case l31 => k_is); (case c31 => k_is); (case k31 => k_is)
  (case a32 => k_is); (case l32 => k_is); (case c32k => k_is); (case k32 => k_is)
  (case a33 => k_is); (case l33 => k_is); (case c33k => k_is); (case k33 => k_is)
  (case a34 => k_is); (case l34 => k_is); (case c34 => k_is); (case k34 => k_is)
  (case a35 => k_is); (case l35 => k_is); (case c35k => k_is); (case k35 => k_is)
  (case a36 => k_is); (case l36 => k_is); (case c36 => k_is); (case k36 => k_is)
  (case z_isinstance => k_is)
  (case z_len => k_is)
  (case z_enumerate => k_is)
  (case z_range => k_is)
  (case z_sorted => k_is)
  (case z_tuple => k_is)
  (case z_list => k_is)
  (case z_all => k_is)
  (case z_zip => k_is)
  (case z_int => k_is)
  (case z_bool => k_is)
  (case z_repr => k_is)
  (case z_min => k_is)
  (case hands => k_is); (case things => k_is)
  case xP =>
    refine' OFx.xt_mk KX G.T.g ?cG ?cL ?h1 ?h2 ?h3 ?h4 ?h5 ?h6 ?h7 ?h8 ?h9 ?i1 ?i2 ?i3 ?i4 ?i5 ?i6 ?j1 ?j2 ?j3 ?j4 ?j5 ?j6 ?j7 ?j8
    (case cG => k_is)
    (case cL => k_is)
    (case h1 => k_is)
    (case h2 => k_is)
    (case h3 => k_is)
    (case h4 => k_is)
    (case h5 => k_is)
    (case h6 => k_is)
    (case h7 => k_is)
    (case h8 => k_is)
    (case h9 => k_is)
    (case i1 => k_is)
    (case i2 => k_is)
    (case i3 => k_is)
    (case i4 => first | kernel_rfl | k_is)
    (case i5 => k_is)
    (case i6 => k_is)
    (case j1 => k_is)
    (case j2 => k_is)
    (case j3 => k_is)
    (case j4 => k_is)
    (case j5 => rfl)
    (case j6 => first | rfl | decide +kernel)
    (case j7 => exact fun env => ⟨_, rfl⟩)
    (case j8 => first | rfl | decide +kernel)
  case xD =>
    refine' OFx.xt_mk KX G.T.g ?cG ?cL ?h1 ?h2 ?h3 ?h4 ?h5 ?h6 ?h7 ?h8 ?h9 ?i1 ?i2 ?i3 ?i4 ?i5 ?i6 ?j1 ?j2 ?j3 ?j4 ?j5 ?j6 ?j7 ?j8
    (case cG => k_is)
    (case cL => k_is)
    (case h1 => k_is)
    (case h2 => k_is)
    (case h3 => k_is)
    (case h4 => k_is)
    (case h5 => k_is)
    (case h6 => k_is)
    (case h7 => k_is)
    (case h8 => k_is)
    (case h9 => k_is)
    (case i1 => k_is)
    (case i2 => k_is)
    (case i3 => k_is)
    (case i4 => first | kernel_rfl | k_is)
    (case i5 => k_is)
    (case i6 => k_is)
    (case j1 => k_is)
    (case j2 => k_is)
    (case j3 => k_is)
    (case j4 => k_is)
    (case j5 => rfl)
    (case j6 => first | rfl | decide +kernel)
    (case j7 => exact fun env => ⟨_, rfl⟩)
    (case j8 => first | rfl | decide +kernel)
  case xS =>
    refine' OFx.xt_mk KX G.T.g ?cG ?cL ?h1 ?h2 ?h3 ?h4 ?h5 ?h6 ?h7 ?h8 ?h9 ?i1 ?i2 ?i3 ?i4 ?i5 ?i6 ?j1 ?j2 ?j3 ?j4 ?j5 ?j6 ?j7 ?j8
    (case cG => k_is)
    (case cL => k_is)
    (case h1 => k_is)
    (case h2 => k_is)
    (case h3 => k_is)
    (case h4 => k_is)
    (case h5 => k_is)
    (case h6 => k_is)
    (case h7 => k_is)
    (case h8 => k_is)
    (case h9 => k_is)
    (case i1 => k_is)
    (case i2 => k_is)
    (case i3 => k_is)
    (case i4 => first | kernel_rfl | k_is)
    (case i5 => k_is)
    (case i6 => k_is)
    (case j1 => k_is)
    (case j2 => k_is)
    (case j3 => k_is)
    (case j4 => k_is)
    (case j5 => rfl)
    (case j6 => first | rfl | decide +kernel)
    (case j7 => exact fun env => ⟨_, rfl⟩)
    (case j8 => first | rfl | decide +kernel)
  (case eSS => first | k_is | kernel_rfl)
  (case eDS => first | k_is | kernel_rfl)
  (case eDD => first | k_is | kernel_rfl)
  (case ePS => first | k_is | kernel_rfl)
  (case ePD => first | k_is | kernel_rfl)
  (case ePP => first | k_is | kernel_rfl)
  (case u1 => kernel_rfl); (case u2 => kernel_rfl); (case u3 => kernel_rfl)
  (case d1 => kernel_rfl); (case d2 => kernel_rfl); (case d3 => kernel_rfl)
