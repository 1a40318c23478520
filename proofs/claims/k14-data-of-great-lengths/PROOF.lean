import PyProof.Rows.All
import Wide.All
import OpenK.AllK
import Wide.FinOn
import KE.KExcSuper
import HandS.ForMost
import HandS.ForExc
import HandS.ExcSuper
import HandS.ExcField
import HandS.ExcInit
import HandS.TupMul
import HandS.TupAny
import HandS.Style
import HandS.TryMany
import HandS.Lambda
import KE.KDictZip
import KE.GoesZip
import KE.GoesMore
import KE.GoesEnum
import HandS.ListItems
import HandS.Zip
import HandS.IsInst
import HandS.Star
import HandS.Replace
import HandS.CallLocal
import HandS.Rev
import HandS.Codes
import HandS.CallRecv
import HandS.EndOwn
import HandS.WordsExc
import PySem.Challenge.RW_worknets_k14_data_of_great_lengths
set_option Elab.async false
set_option linter.all false
set_option maxRecDepth 100000
set_option maxHeartbeats 8000000
/-! own exception classes over ValueError (through other own classes) whose __init__ says super().__init__(..) first, then keeps its arguments as fields of the same names -/
namespace PySem
namespace ErX
open PySem.W PySem.Calls PyProof.Rows PySem.HandSPX
/-- what the written part says of the class x, at C, and of its __init__, at fI -/
structure ErrC (prog : Program) (K : Frag) (C fI cc cda : Addr) : Prop where
  cls : ∃ nm q N bs bm sn sub ab col dd k0 k1 k2 k3 k5, K.lookup C = some (excClassObj nm q C N bs bm true sn sub ab col dd k0 k1 k2 k3 k5 "ValueError.__new__") ∧ refsVE bm = true
  sa : findIn K (.ref C) "__setattr__" = some (some (.builtin "object.__setattr__"))
  iC : findIn K (.ref C) "__init__" = some (some (.ref fI))
  tC : typeIn K (.ref fI) = some (.type "function")
  kC : keepIn K (.ref C) = true
  exC : subIn K (.ref C) (.type "BaseException") = some true
  tyC : typeIn K (.ref C) = some (.type "type")
  te : exmOne K (.ref C) (.ref C) = some true
  cell : ∃ cl cld csl, K.lookup cc = some ⟨cl, cld, .cell (some (.ref C)), csl⟩
  opq : nsIn K cStatics "thirdparty.any" = some none
  sI : ks_superIn K C C "__init__" = some (some (.builtin "ValueError.__init__"))
  sB : subIn K (.ref C) (.type "ValueError") = some true
  mC : mroIn K C (.ref C) = some true
  code : ∃ ccl cdd vs ccs file tf, K.lookup cda = some ⟨ccl, cdd, .fields vs, ccs⟩ ∧ vs[2]? = some (.str file tf) ∧ ((prog.main.file : Str) == file) = true
  top : (prog.main.scope.names.lookup ("super" : Str)).isSome = false
/-- super().__init__(args) as a statement -/
def supS (args : List Expr) (p0 p1 p2 p3 p4 : Pos) : Stmt := .Expr (.Call (.Attribute (.Call (.Name "super" p0) [] [] p1) "__init__" p2) args [] p3) p4
/-- self.f = f -/
def asgS (f : Str) (q1 q2 q3 q4 : Pos) : Stmt := .Assign [.Attribute (.Name "self" q1) f q2] (.Name f q3) q4
section
variable {prog : Program} {w : World} {A : Around} {E : Value → Shared → Prop} {h : Heap} {g : Array GenState} {d : Drawn} {t : Nat} {os : OsState}
variable {nm q : Str} {C N : Addr} {bs bm : List Value} {hdct : Bool} {sn : List Str} {sub : List Value} {ab : Bool} {col : Option Bool} {dd : Option Addr} {k0 k1 k2 k3 k5 : Option Value}
/-- ValueError.__init__ bound to the exception at e, called -/
theorem call_mw {u e t0 : Addr} {rest : List Value} {Q : Value → Shared → Prop}
    (hC : h.get? C = some (excClassObj nm q C N bs bm hdct sn sub ab col dd k0 k1 k2 k3 k5 "ValueError.__new__")) (he : h.get? e = some (excO C t0)) (hu : h.get? u = some (kxs_mw "ValueError.__init__" e)) (hrest : rest.length ≤ sizeLine)
    (hq : ∀ h' t1, (∀ b o, b ≠ e → h.get? b = some o → h'.get? b = some o) → h'.get? e = some (excO C t1) → Q .none ⟨h', g, d, t, os⟩) :
    wpAny (model prog w) A (call (.ref u) rest) Q E ⟨h, g, d, t, os⟩ := by
  refine wpAny_call (codeAny_of_tree ?_)
  show wpAny _ A.in1 (callAny (.ref u) ⟨rest, []⟩) _ _ _
  simp only [callAny]
  refine wpAny_bind (wpAny_load hu ?_)
  simp only [kxs_mw, show (Value.type "method-wrapper" == Value.type "method" || Value.type "method-wrapper" == Value.type "builtin_function_or_method" || Value.type "method-wrapper" == Value.type "method-wrapper") = true by decide, if_true]
  refine W.KFB.if_so (by decide) ?_
  refine wpAny_bind (ESX.check_bound F.excBase_ValueError hC he rfl ?_)
  refine wpAny_bind (wpAny_pure (wpAny_pure ?_))
  refine ⟨Code.quiet_builtin _ (by decide +kernel), codeAny_builtin F.excBase_ValueError.initEntry ?_⟩
  rw [Around.under_plainId F.excBase_ValueError.init.plain _]
  wp_walk
  refine hq _ h.objs.size (fun b o hb ho => ?_) ?_
  · rw [Heap.get?_update_other _ _ (Ne.symm hb)]
    exact Heap.get?_push_of_some _ ho
  · rw [Heap.get?_update_self _ (Heap.get?_push_of_some _ he) rfl]
    rfl
end
section
variable {prog : Program} {w : World} {A : Around} {E : Value → Shared → Prop} {s : Shared} {K : Frag} {mg mb m : Str → Option Value} {C fI cc cda L x t0 : Addr}
/-- super().__init__(e, ..): the exception at x gets its args, all else is kept -/
theorem super_stmt (T : ErrC prog K C fI cc cda) {body : List Stmt} {qual : Str} {scope : Scope} {params : Arguments} {name : Str} {dV kV doc pm ct oc : Value} {an od : Option Addr} {osl : Array (Option Value)} {ar : Arg} {e : Expr} {rest : List Expr} {us : List Value} {p0 p1 p2 p3 p4 : Pos} {pl : Sem Bool} {Q : Flow → Shared → Prop}
    (lf : K.lookup fI = some ⟨oc, od, .func (ksFn name qual params body scope dV kV doc pm an (.ref cda) ct cc), osl⟩)
    (hp : (params.posonlyargs ++ params.args).head? = some ar) (har : ar.arg = "self")
    (X : K.In s.heap) (hns : s.heap.Ns L m) (hself : m "self" = some (.ref x)) (hx : s.heap.get? x = some (excO C t0)) (hg : s.heap.Ns mainGlobals mg) (hsm : mg "super" = none) (hbt : s.heap.Ns builtinsNs mb) (hbs : mb "super" = some (.type "super"))
    (hks : scope.names.lookup ("super" : Str) = some .globalImplicit) (hkc : scope.names.lookup ("__class__" : Str) = some .free) (hka : scope.names.lookup ("self" : Str) = some .local) (hk : scope.kind = .function)
    (hargs : ∀ (s1 : Shared) (Q : List Value → Shared → Prop), s1.heap.Ns L m → (∀ tk, Q us { s1 with toks := tk }) → wpAny (model prog w) A (spliced (backTo p3 (starEach (e :: rest) (ksEnv qual scope L fI (.ref cda) cc)))) Q E s1)
    (hus : us.length ≤ sizeLine)
    (he : starEach (e :: rest) (ksEnv qual scope L fI (.ref cda) cc) = (false, eval e (ksEnv qual scope L fI (.ref cda) cc)) :: starEach rest (ksEnv qual scope L fI (.ref cda) cc)) (hpl : (backTo p3 (starEach rest (ksEnv qual scope L fI (.ref cda) cc))).any (·.1) = false)
    (hev : eval (.Call (.Attribute (.Call (.Name "super" p0) [] [] p1) "__init__" p2) (e :: rest) [] p3) (ksEnv qual scope L fI (.ref cda) cc) = (do
      let ov ← attributeBase (.Call (.Name "super" p0) [] [] p1) "__init__" (ksEnv qual scope L fI (.ref cda) cc) (eval (.Call (.Name "super" p0) [] [] p1) (ksEnv qual scope L fI (.ref cda) cc))
      standAt p2.atName
      let (f, first) ← holding [ov] (getMethod ov "__init__" pl)
      callWith p3 f first (backTo p3 (starEach (e :: rest) (ksEnv qual scope L fI (.ref cda) cc))) []))
    (hint : interactive (ksEnv qual scope L fI (.ref cda) cc) = false) (hsw : swapsWith (.Call (.Attribute (.Call (.Name "super" p0) [] [] p1) "__init__" p2) (e :: rest) [] p3) none p4.line (ksEnv qual scope L fI (.ref cda) cc) = pure false)
    (hq : ∀ h' t1 tk, (∀ b o, b ≠ x → s.heap.get? b = some o → h'.get? b = some o) → h'.get? x = some (excO C t1) → Q .next { s with heap := h', toks := tk }) :
    _root_.PySem.wpAt (model prog w) A (.func body (ksEnv qual scope L fI (.ref cda) cc)) (exec (supS (e :: rest) p0 p1 p2 p3 p4) (ksEnv qual scope L fI (.ref cda) cc)) Q E s := by
  obtain ⟨nm, q, N, bs, bm, sn, sub, ab, col, dd, k0, k1, k2, k3, k5, hC, hbm⟩ := T.cls
  obtain ⟨cl, cld, csl, hcell⟩ := T.cell
  obtain ⟨ccl, cdd, vs, ccs, file, tf, hcode, hvs, hfile⟩ := T.code
  obtain ⟨hh, g, dr, tk, os⟩ := s
  have hCh := X _ _ hC
  unfold supS
  refine ks_wpAt_Expr_any (ks_wpAt_MethodCall (pl := pl) ?_ hev) hint hsw
  · refine ks_wpAt_super_base (env := ksEnv qual scope L fI (.ref cda) cc) hks hkc (by decide) rfl (X _ _ lf) rfl hp rfl (X _ _ hcode) rfl hvs hfile T.top ?_
    refine ks_loadName_global hk hks (loadGlobal_builtin (env := ksEnv qual scope L fI (.ref cda) cc) hg hsm hbt hbs ⟨rfl, ?_⟩)
    refine wpAny_loadName_free hk hkc rfl ⟨_, X _ _ hcell, rfl⟩ ?_
    rw [har]
    refine wpAny_loadName_local hk hka hns hself ?_
    refine ks_wpAny_isType_cls hCh rfl ⟨rfl, ?_⟩
    refine ks_wpAny_call_super hCh rfl hx rfl (fun c z => by cases z) (looks_mroIn X T.mC) (fun h' hso k' => ?_)
    have X1 : K.In h' := X.keeps k'
    have hx1 := k' _ _ hx
    have hI : Looks (model prog w) h' (isInstance (.ref x) (.type "ValueError")) true :=
      (InstAt.type (⟨hx1, rfl, rfl, trivial⟩ : InstAt h' x (excO C t0) C none)).andThen (looks_subIn X1 T.sB)
    have hxC : x ≠ C := fun z => by
      rw [z, hCh] at hx
      cases hx
    have sI := T.sI
    unfold ks_superIn at sI
    have hcl : clsIn K C = some { name := nm, bases := bs, mro := .ref C :: bm, ns := N, qualname := q, hasDict := true, slotNames := sn, subclasses := sub, abstract := ab, collection := col, hasDel := false } := by unfold clsIn; rw [hC] <;> rfl
    rw [hcl] at sI
    refine kxs_getMethod kxs_ValueError hso (looks_opaque X1 T.opq) (l₀ := .ref C :: bm) ?_ rfl X1 sI hI hxC (by decide) ?_
    · exact fun A Q E s k q => wpAny_bind ((looks_clsIn X1 hcl) A _ E s k (wpAny_pure q))
    have k2 : ∀ b o, h'.get? b = some o → (h'.push (kxs_mw "ValueError.__init__" x)).get? b = some o := fun b o z => Heap.get?_push_of_some _ z
    have hu : (h'.push (kxs_mw "ValueError.__init__" x)).get? h'.objs.size = some (kxs_mw "ValueError.__init__" x) := Heap.get?_push_at rfl rfl
    have hns2 : (h'.push (kxs_mw "ValueError.__init__" x)).Ns L m := hns.keeps fun b o z => k2 b o (k' b o z)
    rw [he]
    refine kxs_callWith (i := "ValueError.__init__") (x := x) (by show (false || (backTo p3 (starEach rest (ksEnv qual scope L fI (.ref cda) cc))).any (·.1)) = false; rw [hpl]; rfl) ?_
    have ha := hargs
    rw [he] at ha
    refine evalArgs_plain (ha _ _ hns2 fun tk2 => ⟨hu, ?_⟩)
    refine call_mw (k2 _ _ (k' _ _ hCh)) (k2 _ _ hx1) hu hus fun h3 t1 k3 hx3 => ?_
    exact hq h3 t1 _ (fun b o hb z => k3 b o hb (k2 _ _ (k' _ _ z))) hx3
end
end ErX
end PySem
namespace PySem
namespace ErX
open PySem.W PySem.Calls PyProof.Rows PySem.HandSPX
/-- what __init__ leaves of a fresh exception at x: its dict at dx holds m -/
structure InitEnd (h h' : Heap) (x C dx t1 : Addr) (m : Str → Option Value) : Prop where
  keep : ∀ b o, b ≠ x → h.get? b = some o → h'.get? b = some o
  obj : h'.get? x = some { cls := .ref C, dict := some dx, data := .fields #[.ref t1, .none, .none, .none, .bool false, .none] }
  dbig : h.objs.size ≤ dx
  dne : dx ≠ x
  ns : h'.Ns1 dx m
/-- a made one -/
structure OwnMade (h h' : Heap) (e C d : Addr) (m : Str → Option Value) : Prop where
  keep : ∀ b o, h.get? b = some o → h'.get? b = some o
  new : h.objs.size ≤ e
  obj : ∃ oe vs, h'.get? e = some oe ∧ oe.cls = .ref C ∧ oe.dict = some d ∧ oe.data = .fields vs ∧ vs[1]? = some .none
  dbig : h.objs.size ≤ d
  dne : d ≠ e
  ns : h'.Ns1 d m
/-- the heap bears the written part, the globals, the builtins -/
structure Grd (K : Frag) (mg : Str → Option Value) (h : Heap) : Prop where
  kin : K.In h
  gl : h.Ns mainGlobals mg
  sup : mg "super" = none
  blt : ∃ mb, h.Ns builtinsNs mb ∧ mb "super" = some (.type "super")
  lim : h.NoLimit
theorem Grd.keeps {K : Frag} {mg : Str → Option Value} {h h' : Heap} (G : Grd K mg h) (k : ∀ b o, h.get? b = some o → h'.get? b = some o) : Grd K mg h' := by
  obtain ⟨a, b, c, ⟨mb, d, e⟩, f⟩ := G
  exact ⟨a.keeps k, b.keeps k, c, ⟨mb, d.keeps k, e⟩, f.keeps k⟩
theorem kept_but {K : Frag} {h h' : Heap} {x : Addr} (X : K.In h) (hx : K.lookup x = none) (k : ∀ b o, b ≠ x → h.get? b = some o → h'.get? b = some o) : K.In h' := fun a o e =>
  k a o (fun z => by rw [z, hx] at e; cases e) (X a o e)
section
variable {prog : Program} {w : World} {A : Around} {E : Value → Shared → Prop} {R : Result → Shared → Prop} {s : Shared} {K : Frag} {mg : Str → Option Value} {C fI cc cda x t0 : Addr}
  {qual : Str} {scope : Scope} {params : Arguments} {name : Str} {dV kV doc pm ct oc : Value} {an od : Option Addr} {osl : Array (Option Value)} {ar : Arg}
/-- __init__(self, f1): super().__init__(f1); self.f1 = f1 -/
theorem err_init1 (T : ErrC prog K C fI cc cda) {f1 : Str} {r1 p0 p1 p2 p3 p4 q1 q2 q3 q4 : Pos} {v1 : Value}
    (lf : K.lookup fI = some ⟨oc, od, .func (ksFn name qual params [supS [.Name f1 r1] p0 p1 p2 p3 p4, asgS f1 q1 q2 q3 q4] scope dV kV doc pm an (.ref cda) ct cc), osl⟩) (hcd : codeIn K (.ref cda) qual = true)
    (hp : (params.posonlyargs ++ params.args).head? = some ar) (har : ar.arg = "self")
    (hbind : ∀ a b : Value, bindArgs (ksFn name qual params [supS [.Name f1 r1] p0 p1 p2 p3 p4, asgS f1 q1 q2 q3 q4] scope dV kV doc pm an (.ref cda) ct cc) ⟨[a, b], []⟩ = pure [(("self" : Str), a), (f1, b)])
    (hks : scope.names.lookup ("super" : Str) = some .globalImplicit) (hkc : scope.names.lookup ("__class__" : Str) = some .free) (hka : scope.names.lookup ("self" : Str) = some .local) (hk1 : scope.names.lookup f1 = some .local)
    (hk : scope.kind = .function) (hco : scope.isCoroutine = false) (hgen : scope.isGenerator = false) (hnc : ∀ y ∈ scope.names, y.2 ≠ .cell)
    (hev : ∀ L : Addr, ∃ pl : Sem Bool, eval (.Call (.Attribute (.Call (.Name "super" p0) [] [] p1) "__init__" p2) [.Name f1 r1] [] p3) (ksEnv qual scope L fI (.ref cda) cc) = (do
      let ov ← attributeBase (.Call (.Name "super" p0) [] [] p1) "__init__" (ksEnv qual scope L fI (.ref cda) cc) (eval (.Call (.Name "super" p0) [] [] p1) (ksEnv qual scope L fI (.ref cda) cc))
      standAt p2.atName
      let (f, first) ← holding [ov] (getMethod ov "__init__" pl)
      callWith p3 f first (backTo p3 (starEach [.Name f1 r1] (ksEnv qual scope L fI (.ref cda) cc))) []))
    (d1 : (f1 == ("__debug__" : Str)) = false) (s1 : (("self" : Str) == f1) = false) (noN : findIn K (.ref C) f1 = some none)
    (G : Grd K mg s.heap) (hx : s.heap.get? x = some (excO C t0)) (hnx : K.lookup x = none) (hroom : A.depth < recursionLimit)
    (hq : ∀ h' tk dx t1, InitEnd s.heap h' x C dx t1 (fun y => if y = f1 then some v1 else none) → R (.ok (.ret .none)) { s with heap := h', toks := tk }) :
    codeAny (model prog w) A (.call (.ref fI) ⟨[.ref x, v1], []⟩) R s := by
  obtain ⟨nm, q, N, bs, bm, sn, sub, ab, col, dd, k0, k1, k2, k3, k5, hC, hbm⟩ := T.cls
  have hcl : clsIn K C = some { name := nm, bases := bs, mro := .ref C :: bm, ns := N, qualname := q, hasDict := true, slotNames := sn, subclasses := sub, abstract := ab, collection := col, hasDel := false } := by unfold clsIn; rw [hC] <;> rfl
  refine ks_codeAny_call_defAt (binds := [(("self" : Str), .ref x), (f1, v1)]) hroom (G.kin _ _ lf) rfl G.lim (codeRec_of G.kin hcd) rfl (BindsTo.of_eq (hbind _ _)) hnc (fun y hy => ?_) (fun h₁ hns kk => ?_) hco hgen hk
  · simp only [List.mem_cons, List.mem_nil_iff, or_false] at hy
    rcases hy with rfl | rfl
    · exact hka
    · exact hk1
  have e1 : ([(("self" : Str), Value.ref x), (f1, v1)] : List (Str × Value)).reverse.lookup f1 = some v1 := by simp [List.lookup]
  have eS : ([(("self" : Str), Value.ref x), (f1, v1)] : List (Str × Value)).reverse.lookup ("self" : Str) = some (.ref x) := by simp [List.lookup, s1]
  have ld : ∀ {s2 : Shared} {y : Str} {u : Value} {Q : Value → Shared → Prop} {p : Pos} {m : Str → Option Value}, s2.heap.Ns s.heap.objs.size m → m y = some u → scope.names.lookup y = some .local → (y == ("__debug__" : Str)) = false → Q u s2 →
      wpAny (model prog w) (A.deeper (ksEnv qual scope s.heap.objs.size fI (.ref cda) cc)) (eval (.Name y p) (ksEnv qual scope s.heap.objs.size fI (.ref cda) cc)) Q (fun e s' => wpAny (model prog w) (A.deeper (ksEnv qual scope s.heap.objs.size fI (.ref cda) cc)) (leaving (ksEnv qual scope s.heap.objs.size fI (.ref cda) cc) e) (fun _ s'' => R (.error e) s'') (fun e' s'' => R (.error e') s'') s') s2 :=
    fun hn hv hl hd hQ => wpAny_Name (wpAny_loadName_local hk hl hn hv hQ) hd
  obtain ⟨mb, hb1, hb2⟩ := G.blt
  obtain ⟨pl, hev⟩ := hev s.heap.objs.size
  have hx1 := kk _ _ hx
  show PySem.wpAt (model prog w) (A.deeper (ksEnv qual scope s.heap.objs.size fI (.ref cda) cc)) (.func _ (ksEnv qual scope s.heap.objs.size fI (.ref cda) cc)) (execs _ (ksEnv qual scope s.heap.objs.size fI (.ref cda) cc)) _ _ _
  refine ks_wpAt_execs_cons ?_
  refine super_stmt (s := { s with heap := h₁, toks := s.toks + 2 }) (us := [v1]) (mb := mb) T lf hp har (G.kin.keeps kk) hns eS hx1 (G.gl.keeps kk) G.sup (hb1.keeps kk) hb2 hks hkc hka hk
    (fun s2 Q hn hQ => Calls.spliced_cons (ld hn e1 hk1 d1 (Calls.spliced_nil (hQ _)))) (by rw [sizeLine_eq]; show 1 ≤ 16777216; decide) rfl rfl hev (by simp [interactive, hk]) rfl fun h2 t1 tk2 k2 hx2 => ?_
  show wpAt _ _ _ (execs _ _) _ _ _
  refine wpAt_of_wpAny ?_
  have xL : s.heap.objs.size ≠ x := Nat.ne_of_gt (Heap.lt_size hx)
  have hns2 : h2.Ns s.heap.objs.size (fun y => ([(("self" : Str), Value.ref x), (f1, v1)] : List (Str × Value)).reverse.lookup y) := by
    obtain ⟨o, es, ep, ho, r⟩ := hns
    exact ⟨o, es, ep, k2 _ _ xL ho, r⟩
  have X2 : K.In h2 := kept_but (G.kin.keeps kk) hnx k2
  refine wpAny_execs_cons (plainObj_wpAny_Assign_Attribute ?_)
  refine ld hns2 e1 hk1 d1 (ld hns2 eS hka (by decide) ?_)
  refine set_plain X2 (ox := excO C t1) (od := none) ⟨hx2, rfl, rfl, trivial⟩ T.sa ?_
  refine exc_osa X2 hx2 hcl (show refsVE (.ref C :: bm) = true from hbm) rfl noN (fun h₃ tk₃ dx k₃ dn dne hx₃ hn₃ => ?_)
  show wpAny _ _ (execs _ _) _ _ _
  have z : s.heap.objs.size < h2.objs.size := hns2.lt
  exact wpAny_execs_nil (hq h₃ tk₃ dx t1 ⟨fun b o hb e => k₃ b o hb (k2 b o hb (kk b o e)), hx₃, Nat.le_of_lt (Nat.lt_of_lt_of_le z dn), dne, hn₃⟩)
/-- __init__(self, f1, f2): super().__init__(f1, f2); self.f1 = f1; self.f2 = f2 -/
theorem err_init2 (T : ErrC prog K C fI cc cda) {f1 f2 : Str} {r1 r2 p0 p1 p2 p3 p4 q1 q2 q3 q4 u1 u2 u3 u4 : Pos} {v1 v2 : Value}
    (lf : K.lookup fI = some ⟨oc, od, .func (ksFn name qual params [supS [.Name f1 r1, .Name f2 r2] p0 p1 p2 p3 p4, asgS f1 q1 q2 q3 q4, asgS f2 u1 u2 u3 u4] scope dV kV doc pm an (.ref cda) ct cc), osl⟩) (hcd : codeIn K (.ref cda) qual = true)
    (hp : (params.posonlyargs ++ params.args).head? = some ar) (har : ar.arg = "self")
    (hbind : ∀ a b c : Value, bindArgs (ksFn name qual params [supS [.Name f1 r1, .Name f2 r2] p0 p1 p2 p3 p4, asgS f1 q1 q2 q3 q4, asgS f2 u1 u2 u3 u4] scope dV kV doc pm an (.ref cda) ct cc) ⟨[a, b, c], []⟩ = pure [(("self" : Str), a), (f1, b), (f2, c)])
    (hks : scope.names.lookup ("super" : Str) = some .globalImplicit) (hkc : scope.names.lookup ("__class__" : Str) = some .free) (hka : scope.names.lookup ("self" : Str) = some .local) (hk1 : scope.names.lookup f1 = some .local) (hk2 : scope.names.lookup f2 = some .local)
    (hk : scope.kind = .function) (hco : scope.isCoroutine = false) (hgen : scope.isGenerator = false) (hnc : ∀ y ∈ scope.names, y.2 ≠ .cell)
    (hev : ∀ L : Addr, ∃ pl : Sem Bool, eval (.Call (.Attribute (.Call (.Name "super" p0) [] [] p1) "__init__" p2) [.Name f1 r1, .Name f2 r2] [] p3) (ksEnv qual scope L fI (.ref cda) cc) = (do
      let ov ← attributeBase (.Call (.Name "super" p0) [] [] p1) "__init__" (ksEnv qual scope L fI (.ref cda) cc) (eval (.Call (.Name "super" p0) [] [] p1) (ksEnv qual scope L fI (.ref cda) cc))
      standAt p2.atName
      let (f, first) ← holding [ov] (getMethod ov "__init__" pl)
      callWith p3 f first (backTo p3 (starEach [.Name f1 r1, .Name f2 r2] (ksEnv qual scope L fI (.ref cda) cc))) []))
    (d1 : (f1 == ("__debug__" : Str)) = false) (d2 : (f2 == ("__debug__" : Str)) = false) (s1 : (("self" : Str) == f1) = false) (s2 : (("self" : Str) == f2) = false) (n12 : (f1 == f2) = false) (noN : findIn K (.ref C) f1 = some none) (noN2 : findIn K (.ref C) f2 = some none)
    (G : Grd K mg s.heap) (hx : s.heap.get? x = some (excO C t0)) (hnx : K.lookup x = none) (hroom : A.depth < recursionLimit)
    (hq : ∀ h' tk dx t1, InitEnd s.heap h' x C dx t1 (fun y => if y = f2 then some v2 else if y = f1 then some v1 else none) → R (.ok (.ret .none)) { s with heap := h', toks := tk }) :
    codeAny (model prog w) A (.call (.ref fI) ⟨[.ref x, v1, v2], []⟩) R s := by
  obtain ⟨nm, q, N, bs, bm, sn, sub, ab, col, dd, k0, k1, k2, k3, k5, hC, hbm⟩ := T.cls
  have hcl : clsIn K C = some { name := nm, bases := bs, mro := .ref C :: bm, ns := N, qualname := q, hasDict := true, slotNames := sn, subclasses := sub, abstract := ab, collection := col, hasDel := false } := by unfold clsIn; rw [hC] <;> rfl
  refine ks_codeAny_call_defAt (binds := [(("self" : Str), .ref x), (f1, v1), (f2, v2)]) hroom (G.kin _ _ lf) rfl G.lim (codeRec_of G.kin hcd) rfl (BindsTo.of_eq (hbind _ _ _)) hnc (fun y hy => ?_) (fun h₁ hns kk => ?_) hco hgen hk
  · simp only [List.mem_cons, List.mem_nil_iff, or_false] at hy
    rcases hy with rfl | rfl | rfl
    · exact hka
    · exact hk1
    · exact hk2
  have e1 : ([(("self" : Str), Value.ref x), (f1, v1), (f2, v2)] : List (Str × Value)).reverse.lookup f1 = some v1 := by simp [List.lookup, n12]
  have e2 : ([(("self" : Str), Value.ref x), (f1, v1), (f2, v2)] : List (Str × Value)).reverse.lookup f2 = some v2 := by simp [List.lookup]
  have eS : ([(("self" : Str), Value.ref x), (f1, v1), (f2, v2)] : List (Str × Value)).reverse.lookup ("self" : Str) = some (.ref x) := by simp [List.lookup, s1, s2]
  have ld : ∀ {s2 : Shared} {y : Str} {u : Value} {Q : Value → Shared → Prop} {p : Pos} {m : Str → Option Value}, s2.heap.Ns s.heap.objs.size m → m y = some u → scope.names.lookup y = some .local → (y == ("__debug__" : Str)) = false → Q u s2 →
      wpAny (model prog w) (A.deeper (ksEnv qual scope s.heap.objs.size fI (.ref cda) cc)) (eval (.Name y p) (ksEnv qual scope s.heap.objs.size fI (.ref cda) cc)) Q (fun e s' => wpAny (model prog w) (A.deeper (ksEnv qual scope s.heap.objs.size fI (.ref cda) cc)) (leaving (ksEnv qual scope s.heap.objs.size fI (.ref cda) cc) e) (fun _ s'' => R (.error e) s'') (fun e' s'' => R (.error e') s'') s') s2 :=
    fun hn hv hl hd hQ => wpAny_Name (wpAny_loadName_local hk hl hn hv hQ) hd
  obtain ⟨mb, hb1, hb2⟩ := G.blt
  obtain ⟨pl, hev⟩ := hev s.heap.objs.size
  have hx1 := kk _ _ hx
  show PySem.wpAt (model prog w) (A.deeper (ksEnv qual scope s.heap.objs.size fI (.ref cda) cc)) (.func _ (ksEnv qual scope s.heap.objs.size fI (.ref cda) cc)) (execs _ (ksEnv qual scope s.heap.objs.size fI (.ref cda) cc)) _ _ _
  refine ks_wpAt_execs_cons ?_
  refine super_stmt (s := { s with heap := h₁, toks := s.toks + 3 }) (us := [v1, v2]) (mb := mb) T lf hp har (G.kin.keeps kk) hns eS hx1 (G.gl.keeps kk) G.sup (hb1.keeps kk) hb2 hks hkc hka hk
    (fun s2 Q hn hQ => Calls.spliced_cons (ld hn e1 hk1 d1 (Calls.spliced_cons (ld hn e2 hk2 d2 (Calls.spliced_nil (hQ _)))))) (by rw [sizeLine_eq]; show 2 ≤ 16777216; decide) rfl rfl hev (by simp [interactive, hk]) rfl fun h2 t1 tk2 k2 hx2 => ?_
  show wpAt _ _ _ (execs _ _) _ _ _
  refine wpAt_of_wpAny ?_
  have xL : s.heap.objs.size ≠ x := Nat.ne_of_gt (Heap.lt_size hx)
  have hns2 : h2.Ns s.heap.objs.size (fun y => ([(("self" : Str), Value.ref x), (f1, v1), (f2, v2)] : List (Str × Value)).reverse.lookup y) := by
    obtain ⟨o, es, ep, ho, r⟩ := hns
    exact ⟨o, es, ep, k2 _ _ xL ho, r⟩
  have X2 : K.In h2 := kept_but (G.kin.keeps kk) hnx k2
  refine wpAny_execs_cons (plainObj_wpAny_Assign_Attribute ?_)
  refine ld hns2 e1 hk1 d1 (ld hns2 eS hka (by decide) ?_)
  refine set_plain X2 (ox := excO C t1) (od := none) ⟨hx2, rfl, rfl, trivial⟩ T.sa ?_
  refine exc_osa X2 hx2 hcl (show refsVE (.ref C :: bm) = true from hbm) rfl noN (fun h₃ tk₃ dx k₃ dn dne hx₃ hn₃ => ?_)
  show wpAny _ _ (execs _ _) _ _ _
  have z : s.heap.objs.size < h2.objs.size := hns2.lt
  have xd : s.heap.objs.size ≠ dx := Nat.ne_of_lt (Nat.lt_of_lt_of_le z dn)
  have X3 : K.In h₃ := kept_but X2 hnx k₃
  have hns3 : h₃.Ns s.heap.objs.size (fun y => ([(("self" : Str), Value.ref x), (f1, v1), (f2, v2)] : List (Str × Value)).reverse.lookup y) := by
    obtain ⟨o, es, ep, ho, r⟩ := hns2
    exact ⟨o, es, ep, k₃ _ _ xL ho, r⟩
  have hw : Within (fun y => if y = f1 then some v1 else none) [f1] := fun y hy => by
    by_cases e : y = f1
    · rw [e]
      exact List.mem_cons_self ..
    · exact absurd (if_neg e) hy
  obtain ⟨oD, _, _, hoD, _, _⟩ := hn₃.count hw
  refine wpAny_execs_cons (plainObj_wpAny_Assign_Attribute ?_)
  refine ld hns3 e2 hk2 d2 (ld hns3 eS hka (by decide) ?_)
  refine set_plain X3 (ox := { cls := .ref C, dict := some dx, data := .fields #[.ref t1, .none, .none, .none, .bool false, .none] }) (od := some oD) ⟨hx₃, rfl, rfl, hoD⟩ T.sa ?_
  refine OEX.osa_old X3 hx₃ hn₃ hw (by show 1 ≤ 1000; decide) hcl (show refsVE (.ref C :: bm) = true from hbm) rfl noN2 (fun h₄ tk₄ k₄ hn₄ => ?_)
  show wpAny _ _ (execs _ _) _ _ _
  refine wpAny_execs_nil (hq h₄ tk₄ dx t1 ⟨fun b o hb e => ?_, k₄ _ _ (Ne.symm dne) hx₃, Nat.le_of_lt (Nat.lt_of_lt_of_le z dn), dne, hn₄⟩)
  have hb2 : b ≠ dx := fun e2 => by
    have := Heap.lt_size e
    rw [e2] at this
    exact absurd (Nat.lt_of_lt_of_le (Nat.lt_trans this z) dn) (Nat.lt_irrefl _)
  exact k₄ b o hb2 (k₃ b o hb (k2 b o hb (kk b o e)))
/-- C(us), C's own __init__ leaving m in the dict -/
theorem err_made (T : ErrC prog K C fI cc cda) {us : List Value} {m : Str → Option Value} (hus : us.length ≤ sizeLine) (G : Grd K mg s.heap) (hroom : A.depth + 1 < recursionLimit)
    (hi : ∀ (s' : Shared) (A' : Around) (R' : Result → Shared → Prop) (x t0 : Addr), Grd K mg s'.heap → s'.heap.get? x = some (excO C t0) → K.lookup x = none → A'.depth < recursionLimit →
      (∀ h' tk dx t1, InitEnd s'.heap h' x C dx t1 m → R' (.ok (.ret .none)) { s' with heap := h', toks := tk }) → codeAny (model prog w) A' (.call (.ref fI) ⟨.ref x :: us, []⟩) R' s')
    (hq : ∀ h' tk e d, OwnMade s.heap h' e C d m → R (.ok (.ret (.ref e))) { s with heap := h', toks := tk }) :
    codeAny (model prog w) A (.call (.ref C) ⟨us, []⟩) R s := by
  obtain ⟨nm, q, N, bs, bm, sn, sub, ab, col, dd, k0, k1, k2, k3, k5, hC, hbm⟩ := T.cls
  obtain ⟨hp, g, dr, tk, os⟩ := s
  have X := G.kin
  have k : ∀ b o, hp.get? b = some o → ((hp.push (kdv_tup us)).push (excO C hp.objs.size)).get? b = some o := fun b o e => Heap.get?_push_of_some _ (Heap.get?_push_of_some _ e)
  have hget : ((hp.push (kdv_tup us)).push (excO C hp.objs.size)).get? (hp.objs.size + 1) = some (excO C hp.objs.size) := by heap_get
  have hnx : K.lookup (hp.objs.size + 1) = none := by
    cases e : K.lookup (hp.objs.size + 1) with
    | none => rfl
    | some o =>
      have z : hp.get? (hp.objs.size + 1) = some o := X _ _ e
      exact absurd (Nat.lt_of_succ_lt (Heap.lt_size z)) (Nat.lt_irrefl _)
  refine call_own F.excBase_ValueError (fun X => refsVE_contains X bm hbm) (X _ _ hC) (looks_findIn X T.iC) (fun self => bind_fn X self T.tC) hus ?_
  refine hi ⟨(hp.push (kdv_tup us)).push (excO C hp.objs.size), g, dr, tk, os⟩ _ _ (hp.objs.size + 1) hp.objs.size (G.keeps k) hget hnx ?_ fun h' tk' dx t1 ⟨k', hx, dn, dne, hns⟩ => ?_
  · show A.depth + 1 < recursionLimit
    exact hroom
  · have old : ∀ b o, hp.get? b = some o → h'.get? b = some o := fun b o e => k' b o (Nat.ne_of_lt (Nat.lt_succ_of_lt (Heap.lt_size e))) (k b o e)
    have z : hp.objs.size + 1 + 1 ≤ dx := by
      first
        | (simpa only [Heap.size_push] using dn)
        | exact dn
        | (have q := dn; rw [Heap.size_push, Heap.size_push] at q; exact q)
    exact ⟨rfl, hq h' tk' (hp.objs.size + 1) dx ⟨old, Nat.le_succ _, ⟨_, _, hx, rfl, rfl, rfl, rfl⟩, Nat.le_trans (Nat.le_trans (Nat.le_succ _) (Nat.le_succ _)) z, dne, hns⟩⟩
end
end ErX
end PySem

namespace L2
open PySem PySem.Spec PyProof.Rows
/-- X(e, ..): a fresh exception with the fields fs of the arguments -/
def tMkE (C : Addr) (n : Nat) (fs : List V → List (Str × V)) (ta : TA) : St → Hp → XK → Prop := fun σ H Q => ta σ H fun vs H1 => vs.length = n ∧ ∀ d, H1 d = none → Q (.ref C) (some d) (upd H1 d (.xd (fs vs)))
/-- a class whose instances are made by n arguments, kept as fs -/
structure Makes (P : Program) (w : World) (K : PySem.W.Frag) (mg : Str → Option Value) (C : Addr) (n : Nat) (fs : List V → List (Str × V)) : Prop where
  kC : PySem.W.keepIn K (.ref C) = true
  exC : PySem.W.subIn K (.ref C) (.type "BaseException") = some true
  tyC : PySem.W.typeIn K (.ref C) = some (.type "type")
  run : ∀ (s : Shared) (A : Around) (R : Result → Shared → Prop) (us : List Value) (vs : List V), us.length = n → Vals vs us → PySem.ErX.Grd K mg s.heap → A.depth + 1 < recursionLimit →
    (∀ h' tk e d m, PySem.ErX.OwnMade s.heap h' e C d m → (∀ f, RelO ((fs vs).lookup f) (m f)) → R (.ok (.ret (.ref e))) { s with heap := h', toks := tk }) → codeAny (model P w) A (.call (.ref C) ⟨us, []⟩) R s
section
variable {X : Cx} {C : Addr} {n : Nat} {fs : List V → List (Str × V)}
theorem grd_of {pins : List (Addr × Obj)} {σ : St} {H : Hp} {s : Shared} (I : Inv X pins σ H s) (hs : X.mg "super" = none) : PySem.ErX.Grd X.K X.mg s.heap := by
  obtain ⟨mb, h1, h2⟩ := I.mod.blt
  exact ⟨I.kIn, I.mod.glob.keeps I.bk, hs, ⟨mb, h1.keeps I.bk, (h2 "super" (by decide)).trans (by decide +kernel)⟩, I.nolimit⟩
theorem pmk_err {x : Str} {a : Expr} {es : List Expr} {ta : TA} {p pos : Pos} {k : Nat} (T : Makes X.prog X.w X.K X.mg C n fs) (hr : Room k X.A) (hs : X.mg "super" = none) (gC : X.mg x = some (.ref C)) (ha : PA X (a :: es) ta) (hg : Gl X x := by rfl)
    (hdb : (x == ("__debug__" : Str)) = false := by decide) (he : starEach (a :: es) X.env = (false, eval a X.env) :: starEach es X.env := by rfl) (hpl : (backTo pos (starEach es X.env)).any (·.1) = false := by rfl) :
    PMk X (.Call (.Name x p) (a :: es) [] pos) (tMkE C n fs ta) := by
  intro pins s σ H Q I h
  refine wpAny_Call_Name_kw (ld_glob I hg gC ?_ hdb)
  refine PySem.W.callWith_K (h₀ := X.base) I.ok.mod.kin T.kC (thn (ha.run pos pins s σ H _ I h) fun us s1 hh => ?_) he hpl
  obtain ⟨vs, H1, I1, r1, ev, q1⟩ := hh
  refine ⟨I1.kIn, ?_⟩
  have hl : us.length = n := by rw [← Paired.length r1]; exact ev
  show wpAny _ _ (call (.ref C) us) _ _ _
  refine wpAny_call (T.run s1 X.A _ us vs hl r1 (grd_of I1 hs) ?_ fun h' tk' e d m M rel => ?_)
  · have := hr.dp
    omega
  · obtain ⟨hp, g, dr, tk, os⟩ := s1
    show MkP X pins σ Q (.ref e) ⟨h', g, dr, tk', os⟩
    obtain ⟨oe, fv, hoe, hc, hd, hdat, h1⟩ := M.obj
    have hns := M.ns
    obtain ⟨G', g1, g2⟩ := restrict h' fun b => decide (b ≠ e)
    have gk : ∀ b, b ≠ e → G'.get? b = h'.get? b := fun b hb => g1 b (decide_eq_true hb)
    have ge : G'.get? e = none := g2 e (by simp)
    have old : ∀ b o, hp.get? b = some o → G'.get? b = some o := fun b o q => (gk b (Nat.ne_of_lt (Nat.lt_of_lt_of_le (Heap.lt_size q) M.new))).trans (M.keep b o q)
    have ob : ObjOk X.prog X.w (upd H1 d (.xd (fs vs))) G' d (.xd (fs vs)) :=
      ⟨_, hns.at (fun o q => (gk d M.dne).trans q), rel⟩
    have J : Inv X pins σ (upd H1 d (.xd (fs vs))) ⟨G', g, dr, tk', os⟩ := I1.laid (t' := tk') old M.dbig ob
    refine ⟨e, oe, fv, ⟨G', g, dr, tk', os⟩, _, .ref C, some d, rfl, J, fun b o q => ?_, ge, hoe, ⟨hc, hd⟩, hdat, h1, ?_, rfl, I1.bare, raises_own T.exC T.tyC, q1 d (I1.hok.fresh M.dbig)⟩
    · by_cases hb : b = e
      · have q' : G'.get? b = some o := q
        rw [hb, ge] at q'; cases q'
      · exact (gk b hb).symm.trans q
    · rw [upd_ne (Ne.symm M.dne)]
      exact I1.hok.fresh M.new
end
end L2
/-! rules that the layer lacks: a target o.f within a tuple of targets; text * int; tuple * int by any number; list(text); t[::-1]; extend by a tuple; except clauses with names -/
namespace L2
open PySem PySem.Spec PyProof.Rows
section
variable {X : Cx}
/-! ### o.f as a target -/
def gFld (K : PySem.W.Frag) (ta : TE) (f : Str) : TG := fun y σ H Q => ta σ H fun x H2 => ∃ a C dx fs, x = .ref a ∧ H2 a = some (.ins C dx fs) ∧ Cls K C ∧ NoAttr K C f ∧ fs.length < 1000 ∧ Q σ (upd H2 a (.ins C dx (putF f y fs)))
theorem pg_fld {o : Expr} {f : Str} {pos : Pos} {ta : TE} (ha : PE X o ta)
    (hs : ∀ v, assign (.Attribute o f pos) X.env v = (do
      let ov ← holding [v] (eval o X.env)
      standAt pos.atName
      holding [v, ov] (setAttr ov f v)
      release [v, ov] []) := by intro _; rfl) : PG X (.Attribute o f pos) (gFld X.K ta f) := by
  refine ⟨fun pins s σ H v u Q I r h => ?_⟩
  rw [hs]
  refine wpAny_bind (wpAny_holding (thn (ha.run pins s σ H _ I h) fun ov s1 ⟨x, H1, I1, r1, q1⟩ => ?_))
  obtain ⟨a, C, dx, fs, ex, ea, c, n, l, q⟩ := q1
  subst ex
  obtain rfl : ov = Value.ref a := r1
  refine wpAny_bind (wpAny_standAt (wpAny_bind (wpAny_holding (setattr_ok I1 ea c n l r fun s3 I3 => ?_))))
  exact wpAny_release ⟨σ, _, I3, q⟩
/-! ### s * k -/
def rRepS : R2 := fun x y H Q => ∃ (z : Str) (k : Int), x = .str z ∧ y = .int k ∧ -(2 ^ 63) ≤ k ∧ k < 2 ^ 30 ∧ z.length ≤ 1000 ∧ z.length * k.toNat ≤ 16777216 ∧ Q (.str ⟨(List.replicate k.toNat z.cps.toList).flatten.toArray⟩) H
theorem fold_rep (a : Array Nat) : ∀ (m : Nat) (b : Array Nat), (List.replicate m a).foldl (· ++ ·) b = (b.toList ++ (List.replicate m a.toList).flatten).toArray
  | 0, b => by simp
  | m + 1, b => by
    rw [List.replicate_succ, List.foldl_cons, fold_rep a m]
    simp [List.replicate_succ]
theorem op_mulS : OpR X (binaryOp .Mult) rRepS := by
  intro pins s σ H x y v u Q I rx ry h
  obtain ⟨z, k, rfl, rfl, h1, h2, h3, h4, q⟩ := h
  obtain ⟨t, rfl⟩ := rx
  obtain ⟨t', rfl⟩ := ry
  have hr : (decide (k < -(2 ^ 63 : Int)) || decide (k ≥ 2 ^ 63)) = false := by
    rw [decide_eq_false (by omega), decide_eq_false (by omega)] <;> rfl
  refine P.mul_str hr (fun a b => ?_) (fun a b => ?_) ?_
  · have : (2 ^ 63 - 1) / k ≥ 1000 := by
      rw [ge_iff_le, Int.le_ediv_iff_mul_le (by omega)]
      omega
    omega
  · unfold Builtin.Str.tooLong
    rw [decide_eq_false]
    rw [sizeLine_eq]
    omega
  · by_cases c : k < 1
    · rw [if_pos c]
      have e : k.toNat = 0 := by omega
      rw [e] at q
      exact ⟨by decide, .str _, H, I.tok _, ⟨_, rfl⟩, q⟩
    · rw [if_neg c]
      by_cases d : (k == 1 || z.length == 0) = true
      · rw [if_pos d]
        have e : (⟨(List.replicate k.toNat z.cps.toList).flatten.toArray⟩ : Str) = z := by
          rw [Bool.or_eq_true] at d
          rcases d with d | d
          · have : k = 1 := eq_of_beq d
            subst this
            simp
          · have hz : z.cps.size = 0 := eq_of_beq d
            have hz2 : z.cps = #[] := Array.eq_empty_of_size_eq_zero hz
            obtain ⟨zc⟩ := z
            simp only at hz2
            subst hz2
            simp
        rw [e] at q
        exact ⟨.str _, H, I, ⟨_, rfl⟩, q⟩
      · rw [if_neg d, fold_rep]
        refine ⟨?_, .str _, H, I.tok _, ⟨_, rfl⟩, ?_⟩
        · show (([] : List Nat) ++ (List.replicate k.toNat z.cps.toList).flatten).toArray.size ≤ sizeLine
          rw [List.nil_append, List.size_toArray, PyProof.Rows.lm_len_rep_flat, sizeLine_eq, Array.length_toList]
          rw [Nat.mul_comm]
          exact h4
        · simpa using q
/-! ### t * k, any k -/
theorem tuple_mulE (l : Addr) (items : Array Value) (n : Nat) (dd : Option Addr) (sl : Array (Option Value)) (x : Int) (u : Tok) (c0 : (decide (x < -(2 ^ 63)) || decide (x ≥ 2 ^ 63)) = false) (c1 : (items.isEmpty || x == 1) = false) (c2 : (decide (x ≤ 0) || items.isEmpty) = true) :
    Meets (Builtin.«tuple.__mul__» ⟨[.ref l, .int x u], []⟩) (fun _ R s => s.heap.get? l = some { cls := .type "tuple", dict := dd, data := .seq items n, slots := sl } ∧
      R (.ok (.ret (Value.ref s.heap.objs.size))) { s with heap := s.heap.push { cls := Value.type "tuple", data := Data.seq #[] }, toks := s.toks }) :=
  .of_wp fun prog w A R s h => by
    obtain ⟨hp, g, d, tk, os⟩ := s
    obtain ⟨hl, h⟩ := h
    have f1 := AutoSeq1.idx_int
    wp_walk using wpAny_loadPart' hl
    repeat (first
      | (refine wpAny_ite_false (decide_eq_false (by rw [c0]; exact Bool.false_ne_true)) ?_; wp_walk using wpAny_loadPart' hl)
      | (refine wpAny_ite_false (decide_eq_false (by rw [c1]; exact Bool.false_ne_true)) ?_; wp_walk using wpAny_loadPart' hl)
      | (refine wpAny_ite_true (decide_eq_true c2) ?_; wp_walk using wpAny_loadPart' hl))
    exact ⟨_, rfl, h⟩
theorem tuple_mulS (l : Addr) (items : Array Value) (n : Nat) (dd : Option Addr) (sl : Array (Option Value)) (x : Int) (u : Tok) (c0 : (decide (x < -(2 ^ 63)) || decide (x ≥ 2 ^ 63)) = false) (c1 : (items.isEmpty || x == 1) = true) :
    Meets (Builtin.«tuple.__mul__» ⟨[.ref l, .int x u], []⟩) (fun _ R s => s.heap.get? l = some { cls := .type "tuple", dict := dd, data := .seq items n, slots := sl } ∧
      R (.ok (.ret (Value.ref l))) s) :=
  .of_wp fun prog w A R s h => by
    obtain ⟨hp, g, d, tk, os⟩ := s
    obtain ⟨hl, h⟩ := h
    have f1 := AutoSeq1.idx_int
    wp_walk using wpAny_loadPart' hl
    repeat (first
      | (refine wpAny_ite_false (decide_eq_false (by rw [c0]; exact Bool.false_ne_true)) ?_; wp_walk using wpAny_loadPart' hl)
      | (refine wpAny_ite_true (decide_eq_true c1) ?_; wp_walk using wpAny_loadPart' hl))
    exact ⟨_, rfl, h⟩
def rRepTA (K : PySem.W.Frag) : R2 := fun x y H Q => ∃ l k xs, x = .ref l ∧ y = .int k ∧ SqT K H l xs ∧ xs ≠ [] ∧ 0 ≤ k ∧ k ≤ 1000 ∧ xs.length ≤ 1000 ∧
  (k = 1 → Q (.ref l) H) ∧ (k ≠ 1 → ∀ p, H p = none → Q (.ref p) (upd H p (.tup (List.replicate k.toNat xs).flatten)))
theorem op_repTA : OpR X (binaryOp .Mult) (rRepTA X.K) := by
  intro pins s σ H x y v u Q I rx ry h
  obtain ⟨l, k, xs, rfl, rfl, hT, hne, h1, h2, hz, q1, q2⟩ := h
  by_cases hk2 : 2 ≤ k
  · exact op_repT pins s σ H _ _ _ _ _ I rx ry ⟨l, k, xs, rfl, rfl, hT, hne, hk2, h2, hz, q2 (by omega)⟩
  cases rx
  obtain ⟨t, rfl⟩ := ry
  obtain ⟨its, r, ⟨⟨cls, dd, data, sl⟩, ho, hc, n, hd⟩, hs⟩ := I.tuple hT
  simp only at hc hd
  subst hc hd
  have hle : its.length = xs.length := r.length.symm
  have hn : its ≠ [] := fun e => hne (by
    rw [e] at hle
    exact List.eq_nil_of_length_eq_zero hle.symm)
  have hi : its.toArray.isEmpty = false := by
    cases its with
    | nil => exact absurd rfl hn
    | cons a b => rfl
  have c0 : (decide (k < -(2 ^ 63)) || decide (k ≥ 2 ^ 63)) = false := by
    rw [decide_eq_false (by omega), decide_eq_false (by omega)] <;> rfl
  by_cases e1 : k = 1
  · have c1 : (its.toArray.isEmpty || k == 1) = true := by
      rw [hi, Bool.false_or, e1]
      rfl
    refine wpAny_binaryOp_repeat_ref (T := "tuple") (U := "int") (by decide) ⟨_, ho, rfl⟩ (fun s' => typeIs_int s' k t) noFill_tuple_mul F.fills_int_mul F.slot_int_rmul repeat_tuple F.slot_int_index.lookup
      (call_meets F.slot_int_rmul (typeIs_int s k t) F.entry_int_rmul (F.args_int_rmul_2 _ _) (int_rmul_tuple k t l its.toArray n dd sl)
        ⟨ho, rfl, ⟨_, ho, rfl⟩, call_meets F.slot_tuple_mul ⟨_, ho, rfl⟩ F.entry_tuple_mul (F.args_tuple_mul_2 _ _) (tuple_mulS l its.toArray n dd sl k t c0 c1) ⟨ho, ?_⟩⟩)
    exact ⟨.ref l, H, I, rfl, q1 e1⟩
  · have e0 : k = 0 := by omega
    have c1 : (its.toArray.isEmpty || k == 1) = false := by
      rw [hi, Bool.false_or]
      exact beq_eq_false_iff_ne.mpr e1
    have c2 : (decide (k ≤ 0) || its.toArray.isEmpty) = true := by
      rw [hi, Bool.or_false]
      exact decide_eq_true (by omega)
    refine wpAny_binaryOp_repeat_ref (T := "tuple") (U := "int") (by decide) ⟨_, ho, rfl⟩ (fun s' => typeIs_int s' k t) noFill_tuple_mul F.fills_int_mul F.slot_int_rmul repeat_tuple F.slot_int_index.lookup
      (call_meets F.slot_int_rmul (typeIs_int s k t) F.entry_int_rmul (F.args_int_rmul_2 _ _) (int_rmul_tuple k t l its.toArray n dd sl)
        ⟨ho, rfl, ⟨_, ho, rfl⟩, call_meets F.slot_tuple_mul ⟨_, ho, rfl⟩ F.entry_tuple_mul (F.args_tuple_mul_2 _ _) (tuple_mulE l its.toArray n dd sl k t c0 c1 c2) ⟨ho, ?_⟩⟩)
    have qq := q2 e1 _ (I.hok.fresh (Nat.le_refl s.heap.objs.size))
    rw [e0] at qq
    refine ⟨.ref s.heap.objs.size, _, I.laid (t' := s.toks) (o := .tup []) (fun b ob q => Heap.get?_push_of_some _ q) (Nat.le_refl _) ?_, rfl, qq⟩
    exact ⟨Nat.zero_le _, [], .nil, IsTup.new _ _⟩
/-! ### list(text) -/
theorem vals_signs {x : Str} : ∀ (n : Nat) (acc : Array Value), ItemsOf (SignAt x) acc n → n ≤ x.cps.size → Vals ((x.cps.toList.take n).map fun c => V.str ⟨#[c]⟩) acc.toList := by
  intro n acc h hn
  have key : ∀ (xs : List V) (us : List Value), xs.length = us.length → (∀ (i : Nat) (x : V) (u : Value), xs[i]? = some x → us[i]? = some u → RelV x u) → Vals xs us := by
    intro xs
    induction xs with
    | nil =>
      intro us hl _
      cases us with
      | nil => exact .nil
      | cons _ _ => cases hl
    | cons a r ih =>
      intro us hl hr
      cases us with
      | nil => cases hl
      | cons b t => exact .cons (hr 0 a b rfl rfl) (ih t (Nat.succ.inj hl) fun i x u h1 h2 => hr (i + 1) x u h1 h2)
  refine key _ _ ?_ ?_
  · rw [List.length_map, List.length_take, Array.length_toList, Array.length_toList, h.1]
    omega
  · intro i v u h1 h2
    have h2' : acc[i]? = some u := by simpa using h2
    obtain ⟨c, t, e1, e2⟩ := h.2 i u h2'
    have hi : i < n := by
      have := (Array.getElem?_eq_some_iff.mp h2').1
      rw [h.1] at this
      exact this
    rw [List.getElem?_map, List.getElem?_take_of_lt hi, Array.getElem?_toList, e1] at h1
    have e := Option.some.inj h1
    subst e
    exact ⟨t, e2⟩
theorem call_listS (hc : X.calm = true) : CallR X (.type "list") (fun xs H Q => ∃ z : Str, xs = [.str z] ∧ z.length ≤ 1000 ∧ ∀ l, H l = none → Q (.ref l) (upd H l (.lst (z.cps.toList.map fun c => V.str ⟨#[c]⟩)))) := by
  intro pins s σ H vs us Q I rv h
  obtain ⟨z, rfl, hz, q⟩ := h
  obtain ⟨u, rfl, ru⟩ := rv.one
  obtain ⟨t, rfl⟩ := ru
  have hz2 : z.cps.size ≤ sizeLine := Nat.le_trans hz (by rw [sizeLine_eq]; decide)
  refine call_list_str (I.ok.hd hc) z t (fun h' tk acc' c' hk hS hacc => ?_) hz2
  have vv := vals_signs _ _ hacc (Nat.le_refl _)
  have e : z.cps.toList.take z.cps.size = z.cps.toList := List.take_of_length_le (by simp)
  rw [e] at vv
  refine ⟨.ref s.heap.objs.size, _, I.laid (t' := tk) (o := .lst (z.cps.toList.map fun c => V.str ⟨#[c]⟩)) hk (Nat.le_refl _) ⟨?_, acc'.toList, c', vv, ?_⟩, rfl, q _ (I.hok.fresh (Nat.le_refl _))⟩
  · rw [List.length_map, Array.length_toList]
    exact hz2
  · simpa using hS
/-! ### t[::-1] -/
def tRevT (K : PySem.W.Frag) (te : TE) : TE := fun σ H Q => te σ H fun x H1 => ∃ a xs, x = .ref a ∧ SqT K H1 a xs ∧ ∀ p, H1 p = none → Q (.ref p) (upd H1 p (.tup xs.reverse))
theorem sliceApplied_rev {prog : Program} {w : World} {A : Around} {E : Value → Shared → Prop} {s : Shared} {sl : Addr} {vs : Value} {n : Nat} {Q : Int × Int × Nat → Shared → Prop} (hs : s.heap.IsSliceOf sl .none .none vs) (ps : IsPart vs (some (-1)))
    (h : Q (((n : Int) - 1), -1, n) s) : wpAny (model prog w) A (Builtin.Slice.sliceApplied (.ref sl) (pure (n : Int))) Q E s := by
  obtain ⟨os, hos, hcs, hds⟩ := id hs
  unfold Builtin.Slice.sliceApplied Builtin.Slice.sliceFields
  refine wpAny_bind (wpAny_bind (wpAny_field hos hds (x := .none) rfl (wpAny_bind (wpAny_field hos hds (x := .none) rfl (wpAny_bind (wpAny_field hos hds (x := vs) rfl (wpAny_pure ?_)))))))
  refine wpAny_bind (HT.slicePart_ ps ?_)
  show wpAny _ _ (if ((-1 : Int) == 0) = true then _ else _) _ _ s
  rw [if_neg (by decide)]
  refine wpAny_bind (slicePart_none (wpAny_bind (slicePart_none (wpAny_bind (wpAny_pure ?_)))))
  show wpAny _ _ (pure ((n : Int) - 1, (-1 : Int), Builtin.Slice.slicePlaces ((n : Int) - 1) (-1) (-1))) _ _ s
  have e : Builtin.Slice.slicePlaces ((n : Int) - 1) (-1) (-1) = n := by
    unfold Builtin.Slice.slicePlaces
    rw [if_neg (by decide)]
    by_cases hn : n = 0
    · subst hn
      rw [if_neg (by decide)]
      rfl
    · rw [if_pos (by omega)]
      have : (((n : Int) - 1) - (-1) - 1) / (-(-1)) + 1 = n := by
        rw [Int.neg_neg, Int.ediv_one]
        omega
      rw [this]
      omega
  rw [e]
  exact wpAny_pure h
theorem fm_map {α β : Type} {f : α → Option β} {g : α → β} : ∀ (l : List α), (∀ m ∈ l, f m = some (g m)) → l.filterMap f = l.map g
  | [], _ => rfl
  | a :: r, h => by
    rw [List.filterMap_cons, h a List.mem_cons_self, List.map_cons]
    show g a :: r.filterMap f = g a :: r.map g
    rw [fm_map r fun m hm => h m (List.mem_cons_of_mem _ hm)]
theorem pick_rev (xs : Array Value) : ((List.range xs.size).filterMap fun (m : Nat) => xs[(((xs.size : Nat) : Int) - 1 + (m : Int) * (-1)).toNat]?).toArray = xs.toList.reverse.toArray := by
  congr 1
  have key : ∀ (l : List Value), ((List.range l.length).filterMap fun (m : Nat) => l[(((l.length : Nat) : Int) - 1 + (m : Int) * (-1)).toNat]?) = l.reverse := by
    intro l
    refine List.ext_getElem? fun i => ?_
    have e1 : ((List.range l.length).filterMap fun (m : Nat) => l[(((l.length : Nat) : Int) - 1 + (m : Int) * (-1)).toNat]?) = (List.range l.length).map fun m => l.getD (l.length - 1 - m) .none := by
      refine fm_map _ fun m hm => ?_
      have hlt : m < l.length := List.mem_range.mp hm
      have e2 : (((l.length : Nat) : Int) - 1 + (m : Int) * (-1)).toNat = l.length - 1 - m := by omega
      rw [e2]
      have : l.length - 1 - m < l.length := by omega
      simp [List.getD, List.getElem?_eq_getElem this]
    rw [e1]
    by_cases hi : i < l.length
    · rw [List.getElem?_map, List.getElem?_range hi, List.getElem?_reverse hi]
      have : l.length - 1 - i < l.length := by omega
      simp [List.getD, List.getElem?_eq_getElem this]
    · rw [List.getElem?_eq_none (by simp; omega), List.getElem?_eq_none (by simp; omega)]
  have := key xs.toList
  simpa using this
theorem pe_revT {e : Expr} {te : TE} {k : Nat} {p1 p2 p3 pos : Pos} (he : PE X e te) : PE X (.Subscript e (.Slice none none (some (.UnaryOp .USub (.Constant (.int 1) k p1) p2)) p3) pos) (tRevT X.K te) := by
  refine ⟨fun pins s σ H Q I h => ?_⟩
  refine Subscript_ (thn (he.run pins s σ H _ I h) fun v s1 ⟨x, H1, I1, r1, q1⟩ => ?_)
  obtain ⟨a, xs, ex, hx, q⟩ := q1
  subst ex
  cases r1
  have hst : PO X (some (.UnaryOp .USub (.Constant (.int 1) k p1) p2)) (tPart (tUn (rU fun i => .int (-i)) (tC (.int 1)))) := po_some (pe_un un_neg pe_int)
  refine wpAny_Slice ?_
  rw [evalPart_none]
  refine wpAny_pure ?_
  refine wpAny_pure ?_
  refine thn (hst.run pins s1 σ H1 (fun o H4 => o = some (-1) ∧ H4 = H1) I1 ⟨1, rfl, -1, rfl, rfl, rfl⟩) fun vs s4 ⟨o, H4, I4, ps, eo, e4⟩ => ?_
  subst eo e4
  have I5 : Inv X pins σ H4 { s4 with heap := s4.heap.push { cls := .type "slice", data := .fields #[.none, .none, vs] } } := I4.kept (t' := s4.toks) fun b ob q => Heap.get?_push_of_some _ q
  obtain ⟨its, r, ht, hz⟩ := I5.tuple hx
  have hlen := r.length
  show wpAny (model X.prog X.w) X.A (subscriptTail e (.Slice none none (some (.UnaryOp .USub (.Constant (.int 1) k p1) p2)) p3) (.ref a) (.ref s4.heap.objs.size)) (EP X pins σ Q) X.xe { s4 with heap := s4.heap.push { cls := .type "slice", data := .fields #[.none, .none, vs] } }
  refine tail_any (ops := [.ref a, .ref s4.heap.objs.size]) ht.typeIs (PyProof.Rows.slot_tuple_getitem.lookup) ?_ (by with_unfolding_all rfl)
  have hs : (s4.heap.push { cls := .type "slice", data := .fields #[.none, .none, vs] }).IsSliceOf s4.heap.objs.size .none .none vs := Heap.IsSliceOf.new _ .none .none vs
  have hTs : Shared.TypeIs { s4 with heap := s4.heap.push { cls := .type "slice", data := .fields #[.none, .none, vs] } } (.ref s4.heap.objs.size) "slice" := by
    obtain ⟨os, hos, hcs, hds⟩ := id hs
    exact ⟨os, hos, hcs⟩
  have hfin : ∀ {R : Prop}, True := fun {_} => trivial
  have hQ : EP X pins σ Q (.ref (s4.heap.push { cls := .type "slice", data := .fields #[.none, .none, vs] }).objs.size) { s4 with heap := (s4.heap.push { cls := .type "slice", data := .fields #[.none, .none, vs] }).push { cls := .type "tuple", data := .seq its.reverse.toArray } } := by
    refine ⟨.ref _, _, I5.laid (t' := s4.toks) (o := .tup xs.reverse) (fun b ob q => Heap.get?_push_of_some _ q) (Nat.le_refl _) ?_, rfl, q _ (I5.hok.fresh (Nat.le_refl _))⟩
    exact ⟨by rw [List.length_reverse]; exact hz, _, r.reverse, IsTup.new _ _⟩
  have hsz : sizeOk (.seq its.reverse.toArray) := by
    show its.reverse.toArray.size ≤ sizeLine
    rw [List.size_toArray, List.length_reverse, ← hlen]
    exact hz
  unfold getItem
  try with_reducible refine wpAny_holding ?_
  first | refine wpAny_bind (wpAny_pure ?_) | skip
  refine wpAny_bind (wpAny_sequenceKey ht.typeIs (by decide) ?_)
  refine wpAny_bind (wpAny_callSpecial?_slot (name := Str.ofString "__getitem__") ht.typeIs PyProof.Rows.slot_tuple_getitem
    (wpAny_call_entry PyProof.Rows.slot_tuple_getitem ht.typeIs entry_tuple_getitem ?_ (args_tuple_getitem _ _)))
  show wpAny _ _ (Builtin.Tuple.tupleItemsOf (.ref a) >>= _) _ _ _
  refine wpAny_bind (tupleItemsOf_ ht ?_)
  refine wpAny_bind (wpAny_typeOf hTs ?_)
  rw [if_pos (by decide)]
  refine wpAny_bind (sliceApplied_rev hs ps ?_)
  have hno : ¬ ((((its.toArray.size : Nat) : Int) - 1 == 0 && (-1 : Int) == 1 && its.toArray.size == its.toArray.size) = true) := by
    intro q
    rw [Bool.and_eq_true, Bool.and_eq_true] at q
    exact absurd q.1.2 (by decide)
  show wpAny _ _ (if ((((its.toArray.size : Nat) : Int) - 1 == 0 && (-1 : Int) == 1 && its.toArray.size == its.toArray.size) = true) then _ else _) _ _ _
  rw [if_neg hno, pick_rev]
  first
    | exact wpAny_bind (m := Builtin.Tuple.tupleExact _) (wpAny_newObj_type (wpAny_pure ⟨_, rfl, wpAny_pure hQ⟩) hsz)
    | exact wpAny_bind (m := Builtin.Tuple.tupleExact _) (wpAny_newObj_type (wpAny_bind (wpAny_pure (wpAny_pure ⟨_, rfl, wpAny_pure hQ⟩))) hsz)
    | exact wpAny_bind (wpAny_bind (m := Builtin.Tuple.tupleExact _) (wpAny_newObj_type (wpAny_pure (wpAny_pure ⟨_, rfl, wpAny_pure hQ⟩)) hsz))
    | exact wpAny_bind (wpAny_bind (m := Builtin.Tuple.tupleExact _) (wpAny_newObj_type (wpAny_pure ⟨_, rfl, wpAny_pure hQ⟩) hsz))
/-! ### xs.extend(t) -/
def rExtendT (K : PySem.W.Frag) : V → List V → Hp → VK → Prop := fun x vs H Q => ∃ l b xs zs, x = .ref l ∧ vs = [.ref b] ∧ H l = some (.lst xs) ∧ SqT K H b zs ∧ xs.length + zs.length ≤ sizeLine ∧ Q .non (upd H l (.lst (xs ++ zs)))
theorem list_extend_tupleG (l : Addr) (items : Array Value) (n : Nat) (b : Addr) (items2 : Array Value) (n2 : Nat) (dd : Option Addr) (sl : Array (Option Value)) (hs0 : ¬(!items.isEmpty && Builtin.List.listTooLong (items.size + items2.size)) = true) (hs1 : items.size ≤ sizeLine) (hs2 : items.size + items2.size ≤ sizeLine + 1) :
    Meets (Builtin.«list.extend» ⟨[.ref l, .ref b], []⟩) (fun _ R s => s.heap.get? l = some { cls := .type "list", dict := none, data := .seq items n, slots := #[] } ∧ s.heap.get? b = some { cls := .type "tuple", dict := dd, data := .seq items2 n2, slots := sl } ∧ R (.ok (.ret Value.none)) { s with heap := s.heap.update l (Obj.mapSeq fun x => x ++ items2), toks := s.toks }) :=
  .of_wp fun prog w A R s h => by
    obtain ⟨hp, g, d, tk, os⟩ := s; obtain ⟨hl, hb, h⟩ := h; have f1 := AutoSeq1.idx_int; have f2 := AutoSeq1.sub_tuple_tuple; have f3 := AutoSeq1.sub_list_list; have f4 := AutoSeq1.sub_tuple_list; have f5 := AutoSeq1.sub_list_tuple;
    have hz' : (items ++ items2).size ≤ sizeLine + 1 := by rw [Array.size_append]; exact hs2
    wp_walk using (wpAny_updateSeq hl rfl (hz := hs1) (_hz' := hz')), wpAny_loadPart' hl, wpAny_loadPart' hb; exact ⟨_, rfl, h⟩
theorem mt_extendT : MtR X "list.extend" (rExtendT X.K) := by
  intro pins s σ H x vs v us Q I rx rv h
  obtain ⟨l, b, xs, zs, rfl, rfl, hH, hB, hz, q⟩ := h
  cases rx
  obtain ⟨u, rfl, ru⟩ := rv.one
  cases ru
  obtain ⟨z, its, n, r, hl, e⟩ := I.lstM hH
  obtain ⟨its2, r2, ⟨⟨cls, dd, data, sl⟩, e2, hc, n2, hd⟩, hl2⟩ := I.tuple hB
  simp only at hc hd
  subst hc hd
  have l2 := r2.length
  have hsz : its.toArray.size + its2.toArray.size ≤ sizeLine := by rw [List.size_toArray, List.size_toArray]; omega
  have hlong : ¬ (!its.toArray.isEmpty && Builtin.List.listTooLong (its.toArray.size + its2.toArray.size)) = true := by
    rw [notLongL hsz, Bool.and_false]
    exact Bool.false_ne_true
  refine call_meets F.slot_list_extend ⟨_, e, rfl⟩ F.entry_list_extend (F.args_list_extend_2 _ _)
    (list_extend_tupleG l its.toArray n b its2.toArray n2 dd sl hlong (by rw [List.size_toArray]; omega) (by omega)) ⟨e, e2, ?_⟩
  refine ⟨.non, _, I.lset (its' := its ++ its2) hH e (by simp) (r.append r2) ?_, rfl, q⟩
  rw [List.length_append]
  omega
end
end L2
/-! several except clauses, each with a name (all of them the same local name, at slot i) -/
namespace L2
open PySem PySem.Spec PyProof.Rows
/-- the ends of a suite whose name is unbound behind it -/
def gone (i : Nat) (D : Ends) : Ends := { nx := fun σ' H' => D.nx (σ'.set i none) H', rt := D.rt, bk := fun σ' H' => D.bk (σ'.set i none) H', ct := fun σ' H' => D.ct (σ'.set i none) H' }
def wManyAs (K : PySem.W.Frag) (i : Nat) (Wout : WX) (D : Ends) : List (Value × (Addr → Value → Option Addr → TS)) → WX
  | [] => Wout
  | (c, ts) :: r => fun cls d σ H => ∃ b, PySem.W.exmOne K cls c = some b ∧ (b = true → ∀ a, H a = none → i < σ.length → ts a cls d (gone i D) (σ.set i (some (.ref a))) H) ∧ (b = false → wManyAs K i Wout D r cls d σ H)
inductive HdsAs (X : Cx) (n : Str) : List ExceptHandler → List (Value × (Addr → Value → Option Addr → TS)) → Prop
  | nil : HdsAs X n [] []
  | cons {x : Str} {c : Value} {ts : Addr → Value → Option Addr → TS} {b₀ : Stmt} {suite : List Stmt} {np pos' : Pos} {hds : List ExceptHandler} {l : List (Value × (Addr → Value → Option Addr → TS))} (hc : Names X x c)
      (hsu : ∀ (a : Addr) (oe : Obj) (cls : Value) (d : Option Addr) (pn : List (Addr × Obj)), Zc cls d oe → (∃ vs, oe.data = .fields vs) → PSs (X.suite a ((a, oe) :: pn)) (b₀ :: suite) (ts a cls d)) (r : HdsAs X n hds l) :
      HdsAs X n (.ExceptHandler (some (.Name x np)) (some n) (b₀ :: suite) pos' :: hds) ((c, ts) :: l)
section
variable {X : Cx} {n : Str} {i : Nat} {body : List Stmt} {h₀ : ExceptHandler} {hds : List ExceptHandler} {l : List (Value × (Addr → Value → Option Addr → TS))} {pos : Pos} {tb : WX → TS} {Wout : WX}
theorem ps_try_many_as (hs : X.stack = X.env :: X.outer) (hf : X.env.frame = some X.env.locals) (hN : X.N.Nodup) (hi : X.N[i]? = some n) (hln : X.env.kindOf n = some .local) (tk : Takes X Wout)
    (hb : ∀ (W : WX) (pn : List (Addr × Obj)) (xe : Value → Shared → Prop), Takes (X.tr pn xe) W → PassesOwn (model X.prog X.w) X.A X.env xe → PSs (X.tr pn xe) body (tb W))
    (hh : HdsAs X n (h₀ :: hds) l) : PS X (.Try body (h₀ :: hds) [] [] pos) (fun D σ H => tb (wManyAs X.K i Wout D l) D σ H) := by
  refine ⟨fun pins s σ H D I h => ?_⟩
  have ok := I.ok
  have hfr : X.A.frames = some (X.env :: X.outer) := by rw [ok.frames, hs]
  have hloc : Loc X.env.scope n := .inl hln
  refine wpAny_Try_except ?_
  refine wpAny_mono ((hb (wManyAs X.K i Wout D l) (X.pn ++ pins) (fun e s₁ => wpAny (model X.prog X.w) X.A (noteFrame e X.env) (fun _ s₂ => wpAny (model X.prog X.w) X.A (setFlight e none) (fun _ s₃ =>
    wpAny (model X.prog X.w) X.A (handleBy e X.env (h₀ :: hds)) (SP X pins D) X.xe s₃) X.xe s₂) X.xe s₁) (fun u s' xx => ?_) PassesOwn.looking).run [] s σ H D (I.toTry _) h) (fun f s1 hsp => ?_) (fun e s1 he => he)
  · -- the catch
    obtain ⟨a, B, sI, pins', σ', H', cls, d, rfl, J', nb, up, sky, na, os, ag, w⟩ := xx
    have J : Inv X pins σ' H' sI := J'.ofTry ok
    have sky' : Sky B (X.env :: X.outer) a (Zc cls d) X.env.locals s'.heap := by rw [← hs]; exact sky
    show wpAny (model X.prog X.w) X.A (noteFrame (.ref a) X.env) _ _ _
    refine Sky.land Zc.steady hfr hf sky' fun h3 fl3 up3 => ?_
    have hlt : i < σ'.length := by rw [J.len]; exact (List.getElem?_eq_some_iff.mp hi).1
    have J3 : Inv X pins σ' H' { s' with heap := h3 } := J.landed nb fl3.1 (up.trans up3) os ag
    obtain ⟨oe3, vs3, he3, hz3, hd3⟩ := fl3.there
    have notFr : ∀ {h : Heap} {o : Obj} {vs : Array Value}, h.FunFrames B (X.env :: X.outer) → h.get? a = some o → o.data = .fields vs → a ∉ frs (X.env :: X.outer) := fun {h o vs} ff e dd hm => by
      obtain ⟨_, o', e', hnf⟩ := ff.mem hm
      rw [e] at e'; cases e'
      exact hnf _ dd
    have nfr := notFr fl3.2.2.1 he3 hd3
    have nL : a ≠ X.env.locals := fun z => nfr (List.mem_filterMap.mpr ⟨X.env, List.mem_cons_self, by rw [hf, z]⟩)
    have nF : a ∉ X.fs := fun hm => by
      obtain ⟨e, he, q⟩ := List.mem_filterMap.mp hm
      exact nfr (List.mem_filterMap.mpr ⟨e, List.mem_cons_of_mem _ he, q⟩)
    have S3 := J3.suite he3 hd3 na nL nF
    have go : ∀ {hds' : List ExceptHandler} {l' : List (Value × (Addr → Value → Option Addr → TS))}, HdsAs X n hds' l' → wManyAs X.K i Wout D l' cls d σ' H' →
        wpAny (model X.prog X.w) X.A (handleBy (.ref a) X.env hds') (SP X pins D) X.xe { s' with heap := h3 } := by
      intro hds' l' hk
      induction hk with
      | nil =>
        intro w
        refine wpAny_handleBy_nil ?_
        obtain ⟨k1, k2, k3, oe, vs, T, oT, ts', he, hz, hd, h1, hr⟩ := id fl3
        unfold PySem.passOn
        refine wpAny_bind (wpAny_field he hd h1 ?_)
        rw [if_neg (show ¬ ((Value.ref T == Value.none) = true) from by simp)]
        have fin : wpAny (model X.prog X.w) X.A (setFlight (.ref a) X.env.frame) (fun _ s4 => wpAny (model X.prog X.w) X.A (throw (.ref a) : Sem Flow) (SP X pins D) X.xe s4) X.xe { s' with heap := h3 } := by
          rw [hf]
          refine HandSPX.setFlight_upZ fl3 fun h4 hh4 up4 => wpAny_throw (tk _ _ ?_)
          exact ⟨a, B, sI, pins, σ', H', cls, d, rfl, J, nb, (up.trans up3).trans up4, .inr (.inr (by rw [hs]; exact hh4)), na, os, ag, w⟩
        first
          | exact wpAny_bind (wpAny_pure (wpAny_bind fin))
          | exact wpAny_bind fin
      | @cons x c ts b₀ suite np pos' hds2 l2 hc hsu r ih =>
        intro w
        obtain ⟨b, hb1, hyes, hno⟩ := w
        refine wpAny_handleBy_cons (codeAny_handlers_test ?_) (by intro q; cases q)
        have LT : PySem.W.Looks (model X.prog X.w) h3 (typeOf (.ref a)) cls := fun A Q E s k q => wpAny_typeOf_ref (k _ _ he3) (by rw [hz3.1]; exact q)
        have LM := PySem.W.exm_one (M := model X.prog X.w) (J3.kIn) LT hb1
        have test : ∀ {Q : Value → Shared → Prop} {E : Value → Shared → Prop}, Q c { s' with heap := h3 } → wpAny (model X.prog X.w) (X.A.mark (some (.ref a))) (eval (.Name x np) X.env) Q E { s' with heap := h3 } := fun {Q E} q => by
          obtain ⟨hg, hdbg, hm | ⟨hm, hv, hnn⟩⟩ := hc
          · exact ld_glob (X := X.suite a ((a, oe3) :: (X.pn ++ pins))) S3 hg hm q hdbg
          · exact ld_blt (X := X.suite a ((a, oe3) :: (X.pn ++ pins))) S3 hg hm hv q hnn hdbg
        refine test (LM.here ?_)
        cases b with
        | true =>
          refine codeAny_handlers_suite_as ?_
          refine HandSPX.lands_againZ fl3 fun h4 fl4 up4 => ?_
          have J4 : Inv X pins σ' H' { s' with heap := h4 } := J.landed nb fl4.1 ((up.trans up3).trans up4) os ag
          obtain ⟨oe4, vs4, he4, hz4, hd4⟩ := fl4.there
          have S4 := J4.suite he4 hd4 na nL nF
          refine store_ok (X := X.suite a ((a, oe4) :: (X.pn ++ pins))) (v := .ref a) S4 hN hi hloc rfl (fun s5 S5 => ?_) (.inr hln)
          refine wpAny_mono ((hsu a oe4 cls d (X.pn ++ pins) hz4 ⟨_, hd4⟩).run [] s5 _ H' _ S5 (hyes rfl a na hlt)) (fun f s6 hsp => ?_) (fun _ _ z => False.elim z)
          have end_ : ∀ {σ6 : St} {H6 : Hp} {Q : Shared → Prop}, Inv (X.suite a ((a, oe4) :: (X.pn ++ pins))) [] σ6 H6 s6 → (∀ s7, Inv X pins (σ6.set i none) H6 s7 → Q s7) →
              wpAny (model X.prog X.w) X.A (do bindName X.env n .none; unbindBehindTheSuite X.env n pos') (fun _ s7 => Q s7) X.xe s6 := fun {σ6 H6 Q} S6 hq => gone_ok (S6.unsuite ok) hN hi hln hq
          cases f with
          | next =>
            obtain ⟨σ6, H6, S6, q6⟩ := hsp
            exact end_ S6 fun s7 J7 => ⟨_, _, J7, q6⟩
          | brk =>
            obtain ⟨σ6, H6, S6, q6⟩ := hsp
            exact end_ S6 fun s7 J7 => ⟨_, _, J7, q6⟩
          | cont =>
            obtain ⟨σ6, H6, S6, q6⟩ := hsp
            exact end_ S6 fun s7 J7 => ⟨_, _, J7, q6⟩
          | ret u =>
            obtain ⟨v6, σ6, H6, S6, r6, q6⟩ := hsp
            exact end_ S6 fun s7 J7 => ⟨_, _, _, J7, r6, q6⟩
        | false =>
          show wpAny _ X.A (handleBy (.ref a) X.env hds2) _ _ _
          exact ih (hno rfl)
    exact go hh w
  · cases f with
    | next =>
      obtain ⟨σ', H', J', q⟩ := hsp
      exact wpAny_execs_nil ⟨σ', H', J'.ofTry ok, q⟩
    | brk =>
      obtain ⟨σ', H', J', q⟩ := hsp
      exact ⟨σ', H', J'.ofTry ok, q⟩
    | cont =>
      obtain ⟨σ', H', J', q⟩ := hsp
      exact ⟨σ', H', J'.ofTry ok, q⟩
    | ret u =>
      obtain ⟨v, σ', H', J', r, q⟩ := hsp
      exact ⟨v, σ', H', J'.ofTry ok, r, q⟩
end
end L2
/-! list(zip(a, b)), a and b two lists or two tuples of one length: a new list of new pairs -/
namespace PySem
open Sem (wp)
open PySem.W (kdx_alive)
section
variable {prog : Program} {w : World} {A : Around} {E : Value → Shared → Prop} {s : Shared} {z TI TO T i1 i2 : Addr} {fp1 fp2 : List Addr} {n1 n2 i : Nat} {P1 P2 : Nat → Value → Prop} {St1 St2 : Nat → Heap → Prop} {f : Bool} {oT : Obj} {a1 a2 : Value}
theorem zlD_item {Q : Value → Shared → Prop} (S : ZipSep2 z TI TO i1 i2 fp1 fp2) (D1 : Draws prog w A i1 fp1 n1 P1 St1) (D2 : Draws prog w A i2 fp2 n2 P2 St2)
    (hz : IsZipHeld s.heap z TI TO T f) (hT : s.heap.get? T = some oT) (hTI : IsTupOf2 s.heap TI (.ref i1) (.ref i2)) (st1 : St1 i s.heap) (st2 : St2 i s.heap) (hlt1 : i < n1) (hlt2 : i < n2)
    (hQ : ∀ x1 x2 h' tk, P1 i x1 → P2 i x2 → IsZipHeld h' z TI TO T true → St1 (i + 1) h' → St2 (i + 1) h' → IsTupOf2 h' s.heap.objs.size x1 x2 → h'.objs.size = s.heap.objs.size + 1 →
      (∀ c o, c ≠ z → c ≠ i1 → c ≠ i2 → s.heap.get? c = some o → h'.get? c = some o) → Q (.ref s.heap.objs.size) { s with heap := h', toks := tk }) :
    wpAny (model prog w) A (Builtin.«zip.__next__» ⟨[.ref z], []⟩) (fun fin s' => ∃ v, fin = .done (.ret v) ∧ Q v s') E s := by
  obtain ⟨hp, g, d, tk0, os⟩ := s
  show wpAny _ _ (field (.ref z) 2 >>= _) _ _ _
  refine wpAny_bind (wpAny_field hz rfl (x := .bool false) rfl ?_)
  show wpAny _ _ (field (.ref z) 3 >>= _) _ _ _
  refine wpAny_bind (wpAny_field hz rfl (x := .ref TI) rfl ?_)
  refine wpAny_bind (wpAny_seqItems hTI rfl ?_)
  show wpAny _ _ (Builtin.SmallTypes.ownedTupleIsFree (.ref z) >>= _) _ _ _
  refine wpAny_bind (wpAny_tupleHeld_zip hz hT fun h₁ hz₁ hs₁ => ?_)
  replace hs₁ : Heap.SameBut z hp h₁ := hs₁
  simp only [Bool.false_eq_true, if_false]
  refine wpAny_bind ?_
  rw [← Array.forIn_toList]
  simp only [List.forIn_cons, List.forIn_nil]
  refine wpAny_bind (wpAny_bind (wpAny_holding ?_))
  show wpAny _ _ (Builtin.SmallTypes.nextOf (.ref i1) >>= _) _ _ ⟨h₁, g, d, tk0, os⟩
  refine wpAny_bind (D1.item i _ _ _ hlt1 (D1.over st1 hs₁ S.zf1) fun x1 p1 tk1 hx1 sn1 hp1 => wpAny_pure ?_)
  replace hp1 : Heap.SameBut i1 h₁ p1 := hp1
  refine wpAny_pure ?_
  refine wpAny_bind (wpAny_bind (wpAny_holding ?_))
  show wpAny _ _ (Builtin.SmallTypes.nextOf (.ref i2) >>= _) _ _ ⟨p1, g, d, tk1, os⟩
  refine wpAny_bind (D2.item i _ _ _ hlt2 (D2.over (D2.over st2 hs₁ S.zf2) hp1 S.sep1_2) fun x2 p2 tk2 hx2 sn2 hp2 => wpAny_pure ?_)
  replace hp2 : Heap.SameBut i2 p1 p2 := hp2
  refine wpAny_pure (wpAny_pure ?_)
  show wpAny _ _ (newTuple [x1, x2] >>= _) _ _ ⟨p2, g, d, tk2, os⟩
  refine wpAny_bind (wpAny_newTuple ?_)
  have hsz : p2.objs.size = hp.objs.size := by rw [hp2.1, hp1.1, hs₁.1]
  have hz₃ : IsZipHeld p2 z TI TO T true := hp2.extBut _ _ S.zi2 (hp1.extBut _ _ S.zi1 hz₁)
  have hk : ∀ c o, c ≠ z → c ≠ i1 → c ≠ i2 → hp.get? c = some o → p2.get? c = some o := fun c o c1 c2 c3 e => hp2.extBut _ _ c3 (hp1.extBut _ _ c2 (hs₁.extBut _ _ c1 e))
  have h1₃ : St1 (i + 1) p2 := D1.over sn1 hp2 S.sep2_1
  refine wpAny_pure ⟨_, rfl, ?_⟩
  show Q (.ref p2.objs.size) ⟨p2.push { cls := .type "tuple", data := .seq #[x1, x2] }, g, d, tk2, os⟩
  have hp : IsTupOf2 (p2.push { cls := .type "tuple", data := .seq #[x1, x2] }) p2.objs.size x1 x2 := Heap.get?_push_size _ rfl
  have hz4 : (p2.push { cls := .type "tuple", data := .seq #[x1, x2] }).objs.size = p2.objs.size + 1 := Heap.size_push ..
  rw [hsz] at hp hz4 ⊢
  exact hQ x1 x2 _ tk2 hx1 hx2 (Heap.get?_push_of_some _ hz₃) (D1.frame _ _ _ h1₃ fun b hb o e => Heap.get?_push_of_some _ e) (D2.frame _ _ _ sn2 fun b hb o e => Heap.get?_push_of_some _ e) hp hz4 fun c o c1 c2 c3 e => Heap.get?_push_of_some _ (hk c o c1 c2 c3 e)
theorem zlD_end {Q : Fin → Shared → Prop} (S : ZipSep2 z TI TO i1 i2 fp1 fp2) (D1 : Draws prog w A i1 fp1 n1 P1 St1)
    (hz : IsZipHeld s.heap z TI TO T f) (hT : s.heap.get? T = some oT) (hTI : IsTupOf2 s.heap TI (.ref i1) (.ref i2)) (st1 : St1 n1 s.heap)
    (hE : ∀ h' tk e, (∀ c o, c ≠ z → c ≠ i1 → c ≠ i2 → s.heap.get? c = some o → h'.get? c = some o) → (∃ o, h'.get? e = some o ∧ o.cls = .type "StopIteration") → E (.ref e) { s with heap := h', toks := tk }) :
    wpAny (model prog w) A (Builtin.«zip.__next__» ⟨[.ref z], []⟩) Q E s := by
  obtain ⟨hp, g, d, tk0, os⟩ := s
  show wpAny _ _ (field (.ref z) 2 >>= _) _ _ _
  refine wpAny_bind (wpAny_field hz rfl (x := .bool false) rfl ?_)
  show wpAny _ _ (field (.ref z) 3 >>= _) _ _ _
  refine wpAny_bind (wpAny_field hz rfl (x := .ref TI) rfl ?_)
  refine wpAny_bind (wpAny_seqItems hTI rfl ?_)
  show wpAny _ _ (Builtin.SmallTypes.ownedTupleIsFree (.ref z) >>= _) _ _ _
  refine wpAny_bind (wpAny_tupleHeld_zip hz hT fun h₁ hz₁ hs₁ => ?_)
  replace hs₁ : Heap.SameBut z hp h₁ := hs₁
  simp only [Bool.false_eq_true, if_false]
  refine wpAny_bind ?_
  rw [← Array.forIn_toList]
  simp only [List.forIn_cons, List.forIn_nil]
  refine wpAny_bind (wpAny_bind (wpAny_holding ?_))
  show wpAny _ _ (Builtin.SmallTypes.nextOf (.ref i1) >>= _) _ _ ⟨h₁, g, d, tk0, os⟩
  refine wpAny_bind (D1.done ⟨h₁, g, d, tk0, os⟩ _ _ (D1.over st1 hs₁ S.zf1) fun q e hq he => ?_)
  replace hq : Heap.ExtBut i1 h₁ q := hq
  exact hE q tk0 e (fun c o cz c1 c2 x => hq _ _ c1 (hs₁.extBut _ _ cz x)) he
theorem zlD_nextItem {Q : Option Value → Shared → Prop} (S : ZipSep2 z TI TO i1 i2 fp1 fp2) (D1 : Draws prog w A.in1 i1 fp1 n1 P1 St1) (D2 : Draws prog w A.in1 i2 fp2 n2 P2 St2)
    (hz : IsZipHeld s.heap z TI TO T f) (hT : s.heap.get? T = some oT) (hTI : IsTupOf2 s.heap TI (.ref i1) (.ref i2)) (st1 : St1 i s.heap) (st2 : St2 i s.heap) (hlt1 : i < n1) (hlt2 : i < n2)
    (hQ : ∀ x1 x2 h' tk, P1 i x1 → P2 i x2 → IsZipHeld h' z TI TO T true → St1 (i + 1) h' → St2 (i + 1) h' → IsTupOf2 h' s.heap.objs.size x1 x2 → h'.objs.size = s.heap.objs.size + 1 →
      (∀ c o, c ≠ z → c ≠ i1 → c ≠ i2 → s.heap.get? c = some o → h'.get? c = some o) → Q (some (.ref s.heap.objs.size)) { s with heap := h', toks := tk }) :
    wpAny (model prog w) A (pyNext (.ref z)) Q E s := by
  have hTy : s.TypeIs (.ref z) "zip" := ⟨_, hz, rfl⟩
  unfold pyNext
  exact wpAny_bind (wpAny_attempt (wpAny_callSpecial?_slot (name := Str.ofString "__next__") hTy F.slot_zip_next
    (wpAny_call_entry F.slot_zip_next hTy F.entry_zip_next
      (zlD_item S D1 D2 hz hT hTI st1 st2 hlt1 hlt2 fun x1 x2 h' tk y1 y2 b1 d1 d2 b5 b6 b7 => wpAny_pure (hQ x1 x2 h' tk y1 y2 b1 d1 d2 b5 b6 b7)) (F.args_zip_next_1 _))))
theorem zlD_nextEnd {Q : Option Value → Shared → Prop} (S : ZipSep2 z TI TO i1 i2 fp1 fp2) (D1 : Draws prog w A.in1 i1 fp1 n1 P1 St1)
    (hz : IsZipHeld s.heap z TI TO T f) (hT : s.heap.get? T = some oT) (hTI : IsTupOf2 s.heap TI (.ref i1) (.ref i2)) (st1 : St1 n1 s.heap)
    (hQ : ∀ h' tk, (∀ c o, c ≠ z → c ≠ i1 → c ≠ i2 → s.heap.get? c = some o → h'.get? c = some o) → Q none { s with heap := h', toks := tk }) : wpAny (model prog w) A (pyNext (.ref z)) Q E s := by
  have hTy : s.TypeIs (.ref z) "zip" := ⟨_, hz, rfl⟩
  unfold pyNext
  refine wpAny_bind (wpAny_attempt (wpAny_callSpecial?_slot (name := Str.ofString "__next__") hTy F.slot_zip_next
    (wpAny_call_entry F.slot_zip_next hTy F.entry_zip_next (zlD_end S D1 hz hT hTI st1 fun h' tk e hk he => ?_) (F.args_zip_next_1 _))))
  obtain ⟨o, ho, hc⟩ := he
  refine wpAny_bind (wpAny_isInstance (T := "StopIteration") (b := true) ⟨o, ho, hc⟩ isSubtype_stop ?_)
  exact wpAny_pure (hQ _ _ hk)
theorem zip_no_len : typeLookup (.type "zip") "__len__" = pure none := am_miss_of_fast (by decide +kernel)
theorem zip_no_hint : typeLookup (.type "zip") "__length_hint__" = pure none := am_miss_of_fast (by decide +kernel)
end
end PySem
namespace ZLx
open PySem PySem.Spec PyProof.Rows L2
/-- at each t of ts the pair of the items of xs and ys -/
def PairsAt (H : Hp) (xs ys : List V) (ts : List Addr) : Prop := ∀ (j : Nat) (t : Addr), ts[j]? = some t → ∃ x y, xs[j]? = some x ∧ ys[j]? = some y ∧ H t = some (.tup [x, y])
/-- what was tracked ahead stands; the list at q and the pairs are new -/
structure Grown (H0 H : Hp) (q : Addr) (xs ys : List V) (ts : List Addr) : Prop where
  old : ∀ b o, H0 b = some o → H b = some o
  nq : H0 q = none
  nt : ∀ t ∈ ts, H0 t = none ∧ t ≠ q
  lst : H q = some (.lst (ts.map V.ref))
  prs : PairsAt H xs ys ts
section
variable {X : Cx} {pins : List (Addr × Obj)} {σ : L2.St} {H0 : Hp} {A1 : Around} {q z TI TO i1 i2 : Addr} {fp1 fp2 : List Addr} {n : Nat} {P1 P2 : Nat → Value → Prop} {St1 St2 : Nat → Heap → Prop} {xs ys : List V} {Rs : Result → Shared → Prop}
theorem Grown.more {H : Hp} {ts : List Addr} {T : Addr} {x y : V} (G : Grown H0 H q xs ys ts) (hT : H T = none) (hx : xs[ts.length]? = some x) (hy : ys[ts.length]? = some y) :
    Grown H0 (upd (upd H T (.tup [x, y])) q (.lst ((ts ++ [T]).map V.ref))) q xs ys (ts ++ [T]) := by
  have hTq : T ≠ q := fun e => by
    rw [e, G.lst] at hT
    cases hT
  have h0T : H0 T = none := by
    cases e : H0 T with
    | none => rfl
    | some o => rw [G.old T o e] at hT; cases hT
  refine ⟨fun b o e => ?_, G.nq, fun t ht => ?_, upd_same, fun j t ht => ?_⟩
  · rw [upd_ne (ne_of_none e G.nq), upd_ne (ne_of_none e h0T)]
    exact G.old b o e
  · rcases List.mem_append.mp ht with h | h
    · exact G.nt t h
    · rw [List.mem_singleton.mp h]
      exact ⟨h0T, hTq⟩
  · by_cases hj : j < ts.length
    · rw [List.getElem?_append_left hj] at ht
      obtain ⟨x', y', e1, e2, e3⟩ := G.prs j t ht
      have hm : t ∈ ts := List.mem_of_getElem? ht
      refine ⟨x', y', e1, e2, ?_⟩
      rw [upd_ne (G.nt t hm).2, upd_ne (ne_of_none e3 hT)]
      exact e3
    · have hj' : j = ts.length := by
        have := (List.getElem?_eq_some_iff.mp ht).1
        simp at this
        omega
      subst hj'
      rw [List.getElem?_append_right (Nat.le_refl _), Nat.sub_self] at ht
      have e := Option.some.inj ht
      subst e
      exact ⟨x, y, hx, hy, by rw [upd_ne hTq, upd_same]⟩
/-- the state of the iterators -/
structure ZG (A1 : Around) (X : Cx) (q z TI TO i1 i2 : Addr) (fp1 fp2 : List Addr) (n : Nat) (P1 P2 : Nat → Value → Prop) (St1 St2 : Nat → Heap → Prop) (xs ys : List V) : Prop where
  S : ZipSep2 z TI TO i1 i2 fp1 fp2
  D1 : Draws X.prog X.w A1.in1.in1 i1 fp1 n P1 St1
  D2 : Draws X.prog X.w A1.in1.in1 i2 fp2 n P2 St2
  r1 : ∀ i u, P1 i u → ∃ x, xs[i]? = some x ∧ RelV x u
  r2 : ∀ i u, P2 i u → ∃ x, ys[i]? = some x ∧ RelV x u
  q1 : q ∉ fp1
  q2 : q ∉ fp2
  nz : n ≤ sizeLine
/-- the list is filled by one more pair at T -/
theorem zl_push {s : Shared} {h' : Heap} {tk : Nat} {H : Hp} {ts : List Addr} {x1 x2 : Value} {x y : V} (hl : ts.length < n) (hn : n ≤ sizeLine) (I : Inv X pins σ H s) (G : Grown H0 H q xs ys ts) (hf : ∀ c ∈ [z, i1, i2], FpOk X pins H c)
    (hk : ∀ c o, c ≠ z → c ≠ i1 → c ≠ i2 → s.heap.get? c = some o → h'.get? c = some o) (hT : h'.get? s.heap.objs.size = some { cls := .type "tuple", data := .seq #[x1, x2] }) (rx : RelV x x1) (ry : RelV y x2) (hx : xs[ts.length]? = some x) (hy : ys[ts.length]? = some y)
    {R' : Unit → Shared → Prop} {E' : Value → Shared → Prop} {A' : Around} {M : Model}
    (go : ∀ h2, (∀ b o, b ≠ q → h'.get? b = some o → h2.get? b = some o) → Inv X pins σ (upd (upd H s.heap.objs.size (.tup [x, y])) q (.lst ((ts ++ [s.heap.objs.size]).map V.ref))) { s with heap := h2, toks := tk } → R' () { s with heap := h2, toks := tk }) :
    wpAny M A' (updateSeq q (·.push (.ref s.heap.objs.size))) R' E' { s with heap := h', toks := tk } := by
  have new : ObjOk X.prog X.w (upd H s.heap.objs.size (.tup [x, y])) h' s.heap.objs.size (.tup [x, y]) := ⟨by show 2 ≤ sizeLine; decide, [x1, x2], .cons rx (.cons ry .nil), ⟨_, hT, rfl, _, rfl⟩⟩
  have I1 : Inv X pins σ (upd H s.heap.objs.size (.tup [x, y])) { s with heap := h', toks := tk } :=
    I.turnedNew (t' := tk) (ch := [z, i1, i2]) (fun c o hb e => hk c o (fun w => hb (by simp [w])) (fun w => hb (by simp [w])) (fun w => hb (by simp [w])) e) hf (Nat.le_refl _) new
  have hTq : q ≠ s.heap.objs.size := fun e => by
    have h1 := I.hok.fresh (Nat.le_refl s.heap.objs.size)
    rw [← e, G.lst] at h1
    cases h1
  have hq : upd H s.heap.objs.size (.tup [x, y]) q = some (.lst (ts.map V.ref)) := by rw [upd_ne hTq]; exact G.lst
  obtain ⟨zz, its, k, r, hl2, e⟩ := I1.lstM hq
  rw [List.length_map] at hl2
  have I2 := I1.lset (f := (·.push (.ref s.heap.objs.size))) (its' := its ++ [.ref s.heap.objs.size]) (ys := (ts ++ [s.heap.objs.size]).map V.ref) (t' := tk) hq e (by simp) (by rw [List.map_append]; exact r.append (.cons rfl .nil)) (by rw [List.length_map, List.length_append, List.length_singleton]; omega)
  exact wpAny_updateSeq e rfl (go _ (fun b o hb e2 => (Heap.get?_update_other _ _ (Ne.symm hb)).trans e2) I2) (by rw [List.size_toArray]; omega) (by show (its.toArray.push _).size ≤ sizeLine + 1; rw [Array.size_push, List.size_toArray]; omega)
theorem fp_more {H H' : Hp} {c : Addr} (h : FpOk X pins H c) (n : H' c = none) : FpOk X pins H' c := ⟨n, h.2⟩
theorem zl_loop (Z : ZG A1 X q z TI TO i1 i2 fp1 fp2 n P1 P2 St1 St2 xs ys)
    (hdone : ∀ H ts s, ts.length = n → Grown H0 H q xs ys ts → Inv X pins σ H s → Rs (.ok (.ret .none)) s) :
    ∀ (k i : Nat) (s : Shared) (H : Hp) (ts : List Addr) (T : Addr) (f : Bool), n - i = k → i ≤ n → ts.length = i → T ∈ ts → Inv X pins σ H s → (∀ c ∈ [z, i1, i2], FpOk X pins H c) → IsZipHeld s.heap z TI TO T f → IsTupOf2 s.heap TI (.ref i1) (.ref i2) → H TI = none → St1 i s.heap → St2 i s.heap →
      Grown H0 H q xs ys ts → codeAny (model X.prog X.w) A1 (.builtin "list.extend.loop" ⟨[.ref q, .ref z, .none], []⟩) Rs s := by
  intro k
  induction k with
  | zero =>
    intro i s H ts T f hk hi hl hT I hf hz hTI nTI st1 st2 G
    have e : i = n := by omega
    subst e
    obtain ⟨j, hj⟩ := List.mem_iff_getElem?.mp hT
    obtain ⟨_, _, _, _, e3⟩ := G.prs j T hj
    obtain ⟨oT, hoT⟩ := objOk_get (I.hok T _ e3)
    refine codeAny_builtin PySem.F.entry_extend_loop ?_
    rw [Around.under_plainId PySem.F.plain_extend_loop _]
    show wpAny _ A1.in1 (pyNext (.ref z) >>= _) _ _ s
    refine wpAny_bind (zlD_nextEnd Z.S Z.D1 hz hoT hTI st1 fun h' tk hk2 => ?_)
    exact wpAny_pure (hdone H ts _ hl G (I.turnedL (t' := tk) (ch := [z, i1, i2]) (fun c o hb e => hk2 c o (fun w => hb (by simp [w])) (fun w => hb (by simp [w])) (fun w => hb (by simp [w])) e) hf))
  | succ k ih =>
    intro i s H ts T f hk hi hl hT I hf hz hTI nTI st1 st2 G
    have hlt : i < n := by omega
    obtain ⟨j, hj⟩ := List.mem_iff_getElem?.mp hT
    obtain ⟨_, _, _, _, e3⟩ := G.prs j T hj
    obtain ⟨oT, hoT⟩ := objOk_get (I.hok T _ e3)
    refine codeAny_builtin PySem.F.entry_extend_loop ?_
    rw [Around.under_plainId PySem.F.plain_extend_loop _]
    show wpAny _ A1.in1 (pyNext (.ref z) >>= _) _ _ s
    refine wpAny_bind (zlD_nextItem Z.S Z.D1 Z.D2 hz hoT hTI st1 st2 hlt hlt fun x1 x2 h' tk y1 y2 hz' st1' st2' hT' hsz hk2 => ?_)
    obtain ⟨x, hx, rx⟩ := Z.r1 i x1 y1
    obtain ⟨y, hy, ry⟩ := Z.r2 i x2 y2
    rw [← hl] at hx hy
    show wpAny _ A1.in1 (updateSeq q (·.push (.ref s.heap.objs.size)) >>= _) _ _ _
    refine wpAny_bind (zl_push (n := n) (by omega) Z.nz I G hf hk2 hT' rx ry hx hy fun h2 hk3 I2 => wpAny_pure ⟨plainId_quiet PySem.F.plain_extend_loop _, ?_⟩)
    have hfr : ∀ {c : Addr}, H c = none → c < s.heap.objs.size → c ≠ q → (upd (upd H s.heap.objs.size (.tup [x, y])) q (.lst ((ts ++ [s.heap.objs.size]).map V.ref))) c = none := fun {c} h1 h2 h3 => by
      rw [upd_ne h3, upd_ne (Nat.ne_of_lt h2)]
      exact h1
    have nq : ∀ {c : Addr}, H c = none → c ≠ q := fun {c} h e => by
      rw [e, G.lst] at h
      cases h
    have li1 : i1 < s.heap.objs.size := by obtain ⟨_, e⟩ := Z.D1.live _ _ st1; exact Heap.lt_size e
    have li2 : i2 < s.heap.objs.size := by obtain ⟨_, e⟩ := Z.D2.live _ _ st2; exact Heap.lt_size e
    have lz : z < s.heap.objs.size := Heap.lt_size hz
    refine ih (i + 1) _ _ (ts ++ [s.heap.objs.size]) T true (by omega) hlt (by simp [hl]) (List.mem_append_left _ hT) I2 (fun c hc => ?_) (hk3 _ _ (nq (hf z (by simp)).1) hz') ?_ (hfr nTI (Heap.lt_size hTI) (nq nTI)) (Z.D1.frame _ _ _ st1' fun b hb o e => hk3 b o (fun w => Z.q1 (w ▸ hb)) e)
      (Z.D2.frame _ _ _ st2' fun b hb o e => hk3 b o (fun w => Z.q2 (w ▸ hb)) e) (G.more (I.hok.fresh (Nat.le_refl _)) hx hy)
    · refine fp_more (hf c hc) (hfr (hf c hc).1 ?_ (nq (hf c hc).1))
      have hc' : c = z ∨ c = i1 ∨ c = i2 := by simpa using hc
      rcases hc' with rfl | rfl | rfl
      · exact lz
      · exact li1
      · exact li2
    · exact hk3 _ _ (nq nTI) (hk2 _ _ Z.S.TIz Z.S.TIi1 Z.S.TIi2 hTI)
/-- from the zip as it begins -/
theorem zl_start (hh : A1.in1.in1.handled = none) (Z : ZG A1 X q z TI TO i1 i2 fp1 fp2 n P1 P2 St1 St2 xs ys)
    (hdone : ∀ H ts s, ts.length = n → Grown H0 H q xs ys ts → Inv X pins σ H s → Rs (.ok (.ret .none)) s)
    {s : Shared} {H : Hp} {a1 a2 : Value} (I : Inv X pins σ H s) (hf : ∀ c ∈ [z, TO, i1, i2], FpOk X pins H c) (hz : IsZip s.heap z TI TO .none) (hTI : IsTupOf2 s.heap TI (.ref i1) (.ref i2)) (hTO : IsTupOf2 s.heap TO a1 a2) (nTI : H TI = none) (st1 : St1 0 s.heap) (st2 : St2 0 s.heap)
    (G : Grown H0 H q xs ys []) : codeAny (model X.prog X.w) A1 (.builtin "list.extend.loop" ⟨[.ref q, .ref z, .none], []⟩) Rs s := by
  refine codeAny_builtin PySem.F.entry_extend_loop ?_
  rw [Around.under_plainId PySem.F.plain_extend_loop _]
  show wpAny _ A1.in1 (pyNext (.ref z) >>= _) _ _ s
  by_cases hn : n = 0
  · refine wpAny_bind (wpAny_pyNext_zipD2_end Z.S Z.D1 Z.D2 hz hTI hTO st1 st2 (Nat.zero_le _) (Nat.zero_le _) (.inl hn.symm) fun h' tk hk => ?_)
    exact wpAny_pure (hdone H [] _ (by rw [hn]; rfl) G (I.turnedL (t' := tk) (ch := [z, TO, i1, i2]) (fun c o hb e => hk c o (fun w => hb (by simp [w])) (fun w => hb (by simp [w])) (fun w => hb (by simp [w])) (fun w => hb (by simp [w])) e) hf))
  · have hlt : 0 < n := Nat.pos_of_ne_zero hn
    refine wpAny_bind (wpAny_pyNext_zipD2_item Z.S Z.D1 Z.D2 hz hTI hTO st1 st2 hlt hlt fun x1 x2 h' tk y1 y2 hz' hTO' st1' st2' hT' hsz hk2 => ?_)
    obtain ⟨x, hx, rx⟩ := Z.r1 0 x1 y1
    obtain ⟨y, hy, ry⟩ := Z.r2 0 x2 y2
    show wpAny _ A1.in1 (updateSeq q (·.push (.ref s.heap.objs.size)) >>= _) _ _ _
    -- TO changes too: first it is forgotten
    have nq : ∀ {c : Addr}, H c = none → c ≠ q := fun {c} h e => by
      rw [e, G.lst] at h
      cases h
    have new : ObjOk X.prog X.w (upd H s.heap.objs.size (.tup [x, y])) h' s.heap.objs.size (.tup [x, y]) := ⟨by show 2 ≤ sizeLine; decide, [x1, x2], .cons rx (.cons ry .nil), ⟨_, hT', rfl, _, rfl⟩⟩
    have I1 : Inv X pins σ (upd H s.heap.objs.size (.tup [x, y])) { s with heap := h', toks := tk } :=
      I.turnedNew (t' := tk) (ch := [z, TO, i1, i2]) (fun c o hb e => hk2 c o (fun w => hb (by simp [w])) (fun w => hb (by simp [w])) (fun w => hb (by simp [w])) (fun w => hb (by simp [w])) e) hf (Nat.le_refl _) new
    have hTq : q ≠ s.heap.objs.size := fun e => by
      have h1 := I.hok.fresh (Nat.le_refl s.heap.objs.size)
      rw [← e, G.lst] at h1
      cases h1
    have hq : upd H s.heap.objs.size (.tup [x, y]) q = some (.lst []) := by rw [upd_ne hTq]; exact G.lst
    obtain ⟨zz, its, k, r, hl2, e⟩ := I1.lstM hq
    cases r
    have I2 := I1.lset (f := (·.push (.ref s.heap.objs.size))) (its' := [.ref s.heap.objs.size]) (ys := [.ref s.heap.objs.size]) (t' := tk) hq e (by simp) (.cons rfl .nil) (by show 1 ≤ sizeLine; decide)
    have lz : z < s.heap.objs.size := Heap.lt_size hz
    have li1 : i1 < s.heap.objs.size := by obtain ⟨_, e⟩ := Z.D1.live _ _ st1; exact Heap.lt_size e
    have li2 : i2 < s.heap.objs.size := by obtain ⟨_, e⟩ := Z.D2.live _ _ st2; exact Heap.lt_size e
    have hfr : ∀ {c : Addr}, H c = none → c < s.heap.objs.size → c ≠ q → (upd (upd H s.heap.objs.size (.tup [x, y])) q (.lst [.ref s.heap.objs.size])) c = none := fun {c} h1 h2 h3 => by
      rw [upd_ne h3, upd_ne (Nat.ne_of_lt h2)]
      exact h1
    have G1 : Grown H0 (upd (upd H s.heap.objs.size (.tup [x, y])) q (.lst [.ref s.heap.objs.size])) q xs ys [s.heap.objs.size] := G.more (I.hok.fresh (Nat.le_refl _)) hx hy
    have sb : ∀ b o, b ≠ q → h'.get? b = some o → (h'.update q (Obj.mapSeq (·.push (.ref s.heap.objs.size)))).get? b = some o := fun b o hb e2 => (Heap.get?_update_other _ _ (Ne.symm hb)).trans e2
    refine wpAny_bind (wpAny_updateSeq e rfl (wpAny_pure ⟨plainId_quiet PySem.F.plain_extend_loop _, ?_⟩) (by show 0 ≤ sizeLine; exact Nat.zero_le _) (by show 1 ≤ sizeLine + 1; omega))
    refine zl_loop Z hdone (n - 1) 1 _ _ [s.heap.objs.size] s.heap.objs.size false rfl hlt rfl List.mem_cons_self I2 (fun c hc => ?_) (sb _ _ (nq (hf z (by simp)).1) hz') (sb _ _ (nq nTI) (hk2 _ _ Z.S.TIz Z.S.TITO Z.S.TIi1 Z.S.TIi2 hTI)) (hfr nTI (Heap.lt_size hTI) (nq nTI))
      (Z.D1.frame _ _ _ st1' fun b hb o e => sb b o (fun w => Z.q1 (w ▸ hb)) e) (Z.D2.frame _ _ _ st2' fun b hb o e => sb b o (fun w => Z.q2 (w ▸ hb)) e) G1
    have hc' : c = z ∨ c = i1 ∨ c = i2 := by simpa using hc
    have hm : c ∈ [z, TO, i1, i2] := by
      rcases hc' with rfl | rfl | rfl <;> simp
    refine fp_more (hf c hm) (hfr (hf c hm).1 ?_ (nq (hf c hm).1))
    rcases hc' with rfl | rfl | rfl
    · exact lz
    · exact li1
    · exact li2
/-- list.__init__ of the new list -/
theorem zl_init (hh : A1.in1.in1.handled = none) (Z : ZG A1 X q z TI TO i1 i2 fp1 fp2 n P1 P2 St1 St2 xs ys)
    (hdone : ∀ H ts s, ts.length = n → Grown H0 H q xs ys ts → Inv X pins σ H s → Rs (.ok (.ret .none)) s)
    {s : Shared} {H : Hp} {a1 a2 : Value} (I : Inv X pins σ H s) (hf : ∀ c ∈ [z, TO, i1, i2], FpOk X pins H c) (hz : IsZip s.heap z TI TO .none) (hTI : IsTupOf2 s.heap TI (.ref i1) (.ref i2)) (hTO : IsTupOf2 s.heap TO a1 a2) (nTI : H TI = none) (st1 : St1 0 s.heap) (st2 : St2 0 s.heap)
    (G : Grown H0 H q xs ys []) :
    wpAny (model X.prog X.w) A1.in1 (Builtin.«list.__init__» ⟨[.ref q, .ref z], []⟩)
      (fun fin s' => match fin with | .done f => Rs (.ok f) s' | .again c' => c'.quiet = true ∧ codeAny (model X.prog X.w) A1 c' Rs s') (fun e s' => Rs (.error e) s') s := by
  have lift : ∀ {s1 : Shared} {f : Array Value → Array Value} {its : List Value}, True := fun {_ _ _} => trivial
  have nq : ∀ {c : Addr}, H c = none → c ≠ q := fun {c} h e => by
    rw [e, G.lst] at h
    cases h
  -- a write of q that leaves it empty
  have wr : ∀ {t : Shared} {f : Array Value → Array Value} {ys0 : List V} {its : List Value} {m : Nat} {ys1 : List V} {its1 : List Value}, True := fun {_ _ _ _ _ _ _} => trivial
  show wpAny _ A1.in1 (do let old ← Builtin.List.listItems (.ref q); Builtin.List.listUpdate (.ref q) (fun _ => #[]); letGo old.toList.reverse; Builtin.List.listExtendWith (.ref q) (.ref z) .none) _ _ s
  obtain ⟨zz, its, m, r, hl2, e⟩ := I.lstM G.lst
  cases r
  refine wpAny_bind ?_
  unfold Builtin.List.listItems
  refine wpAny_bind (wpAny_seqItems e rfl (wpAny_pure ?_))
  show wpAny _ A1.in1 (updateSeq q (fun _ => #[]) >>= fun _ => letGo (#[] : Array Value).toList.reverse >>= fun _ => Builtin.List.listExtendWith (.ref q) (.ref z) .none) _ _ s
  refine wpAny_bind (wpAny_updateSeq e rfl ?_)
  refine wpAny_bind (wpAny_letGo ?_)
  have I2 := I.lset (f := fun _ => #[]) (its' := []) (ys := []) (t' := s.toks) G.lst e rfl .nil (Nat.zero_le _)
  have eq0 : upd H q (.lst []) = H := by
    funext b
    by_cases hb : b = q
    · rw [hb, upd_same]
      exact G.lst.symm
    · rw [upd_ne hb]
  rw [eq0] at I2
  have sb : ∀ b o, b ≠ q → s.heap.get? b = some o → (s.heap.update q (Obj.mapSeq fun _ => (#[] : Array Value))).get? b = some o := fun b o hb e2 => (Heap.get?_update_other _ _ (Ne.symm hb)).trans e2
  have hz2 := sb _ _ (nq (hf z (by simp)).1) hz
  have hTy : Shared.TypeIs { s with heap := s.heap.update q (Obj.mapSeq fun _ => (#[] : Array Value)) } (.ref z) "zip" := ⟨_, hz2, rfl⟩
  have hqz : q ≠ z := Ne.symm (nq (hf z (by simp)).1)
  unfold Builtin.List.listExtendWith
  refine wpAny_bind (wpAny_typeOf hTy ?_)
  have h1 : Builtin.List.listSameRef (.ref q) (.ref z) = false := by simp [Builtin.List.listSameRef, hqz]
  have h2 : (Value.type "zip" == Value.type "list") = false := by decide
  have h3 : (Value.type "zip" == Value.type "tuple") = false := by decide
  simp only [h1, h2, h3, Bool.or_false, Bool.false_eq_true, if_false]
  refine wpAny_bind (wpAny_pyIter_zip hz2 ?_)
  refine wpAny_bind (wpAny_holding ?_)
  unfold Builtin.List.listLengthHint
  refine wpAny_bind (wpAny_specialOf hTy zip_no_len ?_)
  show wpAny _ A1.in1 (specialOf (Value.ref z) (Str.ofString "__length_hint__") >>= _) _ _ _
  refine wpAny_bind (wpAny_specialOf hTy zip_no_hint ?_)
  refine wpAny_pure ?_
  show wpAny _ A1.in1 (rule "list.extend.makes-room" >>= fun _ => Builtin.List.listTouch (.ref q) >>= fun _ =>
    again (.builtin "list.extend.loop" ⟨[.ref q, .ref z, .none], []⟩)) _ _ _
  refine wpAny_bind (wpAny_rule ?_)
  refine wpAny_bind ?_
  show wpAny _ A1.in1 (updateSeq q (·.push .none) >>= fun _ => updateSeq q (·.pop)) _ _ _
  obtain ⟨zz3, its3, m3, r3, hl3, e3⟩ := I2.lstM G.lst
  cases r3
  refine wpAny_bind (wpAny_updateSeq e3 rfl ?_)
  have I3 := I2.lset (f := (·.push Value.none)) (its' := [Value.none]) (ys := [.non]) (t' := s.toks) G.lst e3 (by simp) (.cons rfl .nil) (by show 1 ≤ sizeLine; decide)
  obtain ⟨zz4, its4, m4, r4, hl4, e4⟩ := I3.lstM upd_same
  obtain ⟨u4, rfl, ru4⟩ := r4.one
  refine wpAny_updateSeq e4 rfl ?_ (by show 1 ≤ sizeLine; decide) (by show 0 ≤ sizeLine + 1; exact Nat.zero_le _)
  have I4 := I3.lset (f := (·.pop)) (its := [u4]) (its' := []) (ys := []) (t' := s.toks) upd_same e4 (by rfl) .nil (Nat.zero_le _)
  rw [upd_upd, eq0] at I4
  refine wpAny_pure ⟨plainId_quiet PySem.F.plain_extend_loop _, ?_⟩
  have sb4 : ∀ b o, b ≠ q → s.heap.get? b = some o → (((s.heap.update q (Obj.mapSeq fun _ => (#[] : Array Value))).update q (Obj.mapSeq (·.push Value.none))).update q (Obj.mapSeq (·.pop))).get? b = some o := fun b o hb e2 =>
    (Heap.get?_update_other _ _ (Ne.symm hb)).trans ((Heap.get?_update_other _ _ (Ne.symm hb)).trans (sb b o hb e2))
  exact zl_start hh Z hdone I4 hf (sb4 _ _ (nq (hf z (by simp)).1) hz) (sb4 _ _ (nq nTI) hTI) (sb4 _ _ (nq (hf TO (by simp)).1) hTO) nTI (Z.D1.frame _ _ _ st1 fun b hb o e => sb4 b o (fun w => Z.q1 (w ▸ hb)) e) (Z.D2.frame _ _ _ st2 fun b hb o e => sb4 b o (fun w => Z.q2 (w ▸ hb)) e) G
end
end ZLx
namespace ZLx
open PySem PySem.Spec PyProof.Rows L2
/-- list(zip(a, b)) of two lists, or two tuples, of one length -/
def tListZip (K : PySem.W.Frag) (ta : TA) : TE := fun σ H Q => ta σ H fun vs H1 => ∃ (a b : Addr) (xs ys : List V), vs = [.ref a, .ref b] ∧ ((SqL K H1 a xs ∧ SqL K H1 b ys) ∨ (SqT K H1 a xs ∧ SqT K H1 b ys)) ∧ xs.length = ys.length ∧
  ∀ (H' : Hp) (p : Addr) (ts : List Addr), Grown H1 H' p xs ys ts → ts.length = xs.length → Q (.ref p) H'
section
variable {X : Cx} {e e2 : Expr} {ta : TA} {p p2 pos pos2 : Pos}
theorem zl_call {pins : List (Addr × Obj)} {σ : L2.St} {H : Hp} {s : Shared} {Q : VK} {N : Nat} {n : Nat} {P1 P2 : Nat → Value → Prop} {St1 St2 : Nat → Heap → Prop} {fp1 fp2 : List Addr} {xs ys : List V} {h' : Heap} {tk : Nat} (hc : X.calm = true) (I : Inv X pins σ H s) (hN : N = s.heap.objs.size)
    (hz : IsZip h' (N + 4) (N + 2) (N + 3) .none) (hTI : IsTupOf2 h' (N + 2) (.ref N) (.ref (N + 1))) (hTO : IsTupOf2 h' (N + 3) .none .none) (hsz : h'.objs.size = N + 5) (hk : ∀ c o, s.heap.get? c = some o → h'.get? c = some o)
    (S : ZipSep2 (N + 4) (N + 2) (N + 3) N (N + 1) fp1 fp2) (D1 : Draws X.prog X.w X.A.in1.in1.in1 N fp1 n P1 St1) (D2 : Draws X.prog X.w X.A.in1.in1.in1 (N + 1) fp2 n P2 St2) (r1 : ∀ i u, P1 i u → ∃ x, xs[i]? = some x ∧ RelV x u) (r2 : ∀ i u, P2 i u → ∃ x, ys[i]? = some x ∧ RelV x u)
    (l1 : ∀ b ∈ fp1, b < N + 5) (l2 : ∀ b ∈ fp2, b < N + 5) (nz : n ≤ sizeLine) (st1 : St1 0 h') (st2 : St2 0 h') (hq : ∀ (H' : Hp) (p : Addr) (ts : List Addr), Grown H H' p xs ys ts → ts.length = n → Q (.ref p) H') :
    wpAny (model X.prog X.w) X.A (call (.type "list") [.ref (N + 4)]) (EP X pins σ Q) X.xe { s with heap := h', toks := tk } := by
  refine callType_codes (Q₁ := fun obj s₁ => obj = .ref h'.objs.size ∧ s₁ = { s with heap := h'.push { cls := .type "list", data := .seq #[] }, toks := tk }) F.called_list (F.typeCall_list_1 _) F.entry_list_init
    (code_list_new _ ⟨rfl, rfl⟩) fun obj s₁ h₁ => ?_
  obtain ⟨rfl, rfl⟩ := h₁
  have hS : (h'.push { cls := .type "list", data := .seq #[] }).get? h'.objs.size = some { cls := .type "list", data := .seq #[] } := Heap.get?_push_size _ rfl
  refine ⟨⟨_, hS, rfl⟩, F.args_list_init_2 _ _, ?_⟩
  have kp : ∀ b o, h'.get? b = some o → (h'.push { cls := .type "list", data := .seq #[] }).get? b = some o := fun b o e => Heap.get?_push_of_some _ e
  have I1 : Inv X pins σ H { s with heap := h', toks := tk } := I.kept (t' := tk) hk
  have hfree : H h'.objs.size = none := I1.hok.fresh (Nat.le_refl _)
  have I2 : Inv X pins σ (upd H h'.objs.size (.lst [])) { s with heap := h'.push { cls := .type "list", data := .seq #[] }, toks := tk } :=
    I1.laid (t' := tk) (o := .lst []) kp (Nat.le_refl _) ⟨Nat.zero_le _, [], 0, .nil, hS⟩
  have fr : ∀ {c : Nat}, N ≤ c → c < N + 5 → FpOk X pins (upd H h'.objs.size (.lst [])) c := fun {c} h1 h2 => by
    refine I.fpOk (by rw [← hN]; exact h1) ?_
    rw [upd_ne (by rw [hsz]; exact Nat.ne_of_lt h2)]
    exact I.hok.fresh (by rw [← hN]; exact h1)
  have nTI : (upd H h'.objs.size (.lst [])) (N + 2) = none := (fr (by omega) (by omega)).1
  have Z : ZG X.A.in1 X h'.objs.size (N + 4) (N + 2) (N + 3) N (N + 1) fp1 fp2 n P1 P2 St1 St2 xs ys := ⟨S, D1, D2, r1, r2, fun h => absurd (l1 _ h) (by rw [hsz]; exact Nat.lt_irrefl _), fun h => absurd (l2 _ h) (by rw [hsz]; exact Nat.lt_irrefl _), nz⟩
  refine zl_init (H0 := H) (Rs := _) ?_ Z ?_ I2 (fun c hcm => ?_) (kp _ _ hz) (kp _ _ hTI) (kp _ _ hTO) nTI (Z.D1.frame _ _ _ st1 fun b _ o e => kp b o e) (Z.D2.frame _ _ _ st2 fun b _ o e => kp b o e)
    ⟨fun b o e => (by rw [upd_ne (ne_of_none e hfree)]; exact e), hfree, fun t ht => (by cases ht), upd_same, fun j t ht => (by cases ht)⟩
  · exact I.ok.hd hc
  · intro H2 ts s2 hl G I3
    exact ⟨rfl, .ref _, H2, I3, rfl, hq H2 _ ts G hl⟩
  · have e' : c = N + 4 ∨ c = N + 3 ∨ c = N ∨ c = N + 1 := by simpa using hcm
    rcases e' with h | h | h | h
    · rw [h]; exact fr (c := N + 4) (by omega) (by omega)
    · rw [h]; exact fr (c := N + 3) (by omega) (by omega)
    · rw [h]; exact fr (c := N) (by omega) (by omega)
    · rw [h]; exact fr (c := N + 1) (by omega) (by omega)
theorem vals_ix {xs : List V} {its : List Value} (r : Vals xs its) {i : Nat} {u : Value} (h : its.toArray[i]? = some u) : ∃ x, xs[i]? = some x ∧ RelV x u := by
  have h : its[i]? = some u := by simpa using h
  have hi : i < xs.length := by
    rw [r.length]
    exact (List.getElem?_eq_some_iff.mp h).1
  obtain ⟨w, e1, e2⟩ := r.get (List.getElem?_eq_getElem hi)
  rw [h] at e1
  cases e1
  exact ⟨_, List.getElem?_eq_getElem hi, e2⟩
theorem pe_listZip (hc : X.calm = true) (hg : Gl X "list") (hm : X.mg "list" = none) (hgz : Gl X "zip") (hmz : X.mg "zip" = none) (ha : PA X [e, e2] ta)
    (hs : starEach [.Call (.Name "zip" p2) [e, e2] [] pos2] X.env = (false, eval (.Call (.Name "zip" p2) [e, e2] [] pos2) X.env) :: starEach [] X.env := by rfl)
    (hs2 : starEach [e, e2] X.env = (false, eval e X.env) :: starEach [e2] X.env := by rfl) (hpl : (backTo pos2 (starEach [e2] X.env)).any (·.1) = false := by rfl) :
    PE X (.Call (.Name "list" p) [.Call (.Name "zip" p2) [e, e2] [] pos2] [] pos) (tListZip X.K ta) := by
  refine ⟨fun pins s σ H Q I h => ?_⟩
  refine wpAny_Call_Name_kw (ld_blt I hg hm boot_list ?_)
  refine PyProof.Rows.callWith_type1 ?_ hs rfl
  rw [hs]
  show wpAny _ _ (spliced ((false, eval (.Call (.Name "zip" p2) [e, e2] [] pos2) X.env) :: backTo pos (starEach [] X.env))) _ _ s
  refine Calls.spliced_cons ?_
  refine Call_ (ld_blt I hgz hmz PyProof.Rows.boot_zip (PyProof.Rows.callWith_type1 (thn (ha.run pos2 pins s σ H _ I h) fun us s1 ⟨vs, H1, I1, r1, q1⟩ => ?_) hs2 hpl))
  obtain ⟨a, b, xs, ys, ex, hq, hxy, q⟩ := q1
  subst ex
  cases r1 with
  | cons r rr =>
    cases rr with
    | cons r' rr =>
      cases rr
      cases r
      cases r'
      rcases hq with ⟨hqx, hqy⟩ | ⟨hqx, hqy⟩
      · obtain ⟨its, rv, p1, z1⟩ := I1.list hqx
        obtain ⟨its2, rv2, p2, z2⟩ := I1.list hqy
        have la : a < s1.heap.objs.size := p1.lt
        have lb : b < s1.heap.objs.size := p2.lt
        have e1 := rv.length
        have e2 := rv2.length
        refine zip_begins2 (begins_list a its.toArray) (begins_list b its2.toArray) p1.isList p2.isList fun h' hz hTI hTO h1 h2 hsz hk => ?_
        refine Calls.spliced_nil ?_
        have sep := zip_sep2 (N := s1.heap.objs.size) (fp1 := [a]) (fp2 := [b]) (fun c hc => by rw [List.mem_singleton.mp hc]; exact la) (fun c hc => by rw [List.mem_singleton.mp hc]; exact lb)
        have D1 := Draws.list (prog := X.prog) (w := X.w) (A := X.A.in1.in1.in1) (I1.ok.hd hc) s1.heap.objs.size a (Nat.ne_of_lt la) its.toArray
        have D2 := Draws.list (prog := X.prog) (w := X.w) (A := X.A.in1.in1.in1) (I1.ok.hd hc) (s1.heap.objs.size + 1) b (Nat.ne_of_lt (Nat.lt_succ_of_lt lb)) its2.toArray
        rw [show its2.toArray.size = its.toArray.size by rw [List.size_toArray, List.size_toArray, ← e1, ← e2, hxy]] at D2
        refine zl_call (tk := s1.toks) hc I1 rfl hz hTI hTO hsz hk sep D1 D2 (fun i u hu => vals_ix rv hu) (fun i u hu => vals_ix rv2 hu) (fun c hc => ?_) (fun c hc => ?_) (by rw [List.size_toArray, ← e1]; exact z1) ⟨⟨_, h1, rfl, rfl⟩, p1.isList.at fun o e => hk _ o e⟩ ⟨⟨_, h2, rfl, rfl⟩, p2.isList.at fun o e => hk _ o e⟩ fun H' p ts G hl => q H' p ts G (by rw [hl, List.size_toArray, e1])
        · have hc : c = s1.heap.objs.size ∨ c = a := by simpa using hc
          rcases hc with h | h
          · rw [h]; exact Nat.lt_add_of_pos_right (by decide)
          · rw [h]; exact Nat.lt_add_right 5 la
        · have hc : c = s1.heap.objs.size + 1 ∨ c = b := by simpa using hc
          rcases hc with h | h
          · rw [h]; exact Nat.add_lt_add_left (by decide) _
          · rw [h]; exact Nat.lt_add_right 5 lb
      · obtain ⟨its, rv, p1, z1⟩ := I1.tuple hqx
        obtain ⟨its2, rv2, p2, z2⟩ := I1.tuple hqy
        obtain ⟨o1, ho1, _⟩ := id p1
        obtain ⟨o2, ho2, _⟩ := id p2
        have la : a < s1.heap.objs.size := Heap.lt_size ho1
        have lb : b < s1.heap.objs.size := Heap.lt_size ho2
        have e1 := rv.length
        have e2 := rv2.length
        refine zip_begins2 (begins_tuple a its.toArray) (begins_tuple b its2.toArray) p1 p2 fun h' hz hTI hTO h1 h2 hsz hk => ?_
        refine Calls.spliced_nil ?_
        have sep := zip_sep2 (N := s1.heap.objs.size) (fp1 := [a]) (fp2 := [b]) (fun c hc => by rw [List.mem_singleton.mp hc]; exact la) (fun c hc => by rw [List.mem_singleton.mp hc]; exact lb)
        have D1 := Draws.tuple (prog := X.prog) (w := X.w) (A := X.A.in1.in1.in1) (I1.ok.hd hc) s1.heap.objs.size a (Nat.ne_of_lt la) its.toArray
        have D2 := Draws.tuple (prog := X.prog) (w := X.w) (A := X.A.in1.in1.in1) (I1.ok.hd hc) (s1.heap.objs.size + 1) b (Nat.ne_of_lt (Nat.lt_succ_of_lt lb)) its2.toArray
        rw [show its2.toArray.size = its.toArray.size by rw [List.size_toArray, List.size_toArray, ← e1, ← e2, hxy]] at D2
        refine zl_call (tk := s1.toks) hc I1 rfl hz hTI hTO hsz hk sep D1 D2 (fun i u hu => vals_ix rv hu) (fun i u hu => vals_ix rv2 hu) (fun c hc => ?_) (fun c hc => ?_) (by rw [List.size_toArray, ← e1]; exact z1) ⟨⟨_, h1, rfl, rfl⟩, Heap.IsTuple.at p1 fun o e => hk _ o e⟩ ⟨⟨_, h2, rfl, rfl⟩, Heap.IsTuple.at p2 fun o e => hk _ o e⟩ fun H' p ts G hl => q H' p ts G (by rw [hl, List.size_toArray, e1])
        · have hc : c = s1.heap.objs.size ∨ c = a := by simpa using hc
          rcases hc with h | h
          · rw [h]; exact Nat.lt_add_of_pos_right (by decide)
          · rw [h]; exact Nat.lt_add_right 5 la
        · have hc : c = s1.heap.objs.size + 1 ∨ c = b := by simpa using hc
          rcases hc with h | h
          · rw [h]; exact Nat.add_lt_add_left (by decide) _
          · rw [h]; exact Nat.lt_add_right 5 lb
end
end ZLx
/-! the plain law: data, their bytes, the machine that reads bytes -/
namespace K14
inductive D where
  | int (n : Int)
  | str (s : List Nat)
  | tup (l : List D)
  | lst (l : List D)
def sgs : List Nat := [10, 32, 33, 34, 35, 40, 41, 42, 43, 44, 45, 46, 47, 48, 49, 50, 51, 52, 53, 54, 55, 56, 57, 58, 59, 60, 61, 62, 63, 97, 98, 99, 100, 101, 102, 103, 104, 105, 106, 107, 108, 109, 110, 111, 112, 113, 114, 115, 116, 117, 118, 119, 120, 121, 122]
def good9 : List Nat := [97, 122, 32, 48, 63, 10, 35, 111, 110]
def sx (c : Nat) : Nat := sgs.idxOf c
def two (n : Nat) : List Int := [((n / 256 : Nat) : Int), ((n % 256 : Nat) : Int)]
mutual
def enc : D → List Int
  | .int n => 1 :: two n.toNat
  | .str s => 2 :: (two s.length ++ s.map fun c => ((sx c : Nat) : Int))
  | .tup l => 3 :: (two l.length ++ encL l)
  | .lst _ => []
def encL : List D → List Int
  | [] => []
  | d :: r => enc d ++ encL r
end
mutual
/-- what is_data says, at a depth -/
def okD : Nat → D → Bool
  | _, .int n => decide (0 ≤ n) && decide (n ≤ 65535)
  | _, .str s => decide (s.length ≤ 65535)
  | k, .tup l => decide (k < 20) && decide (l.length ≤ 65535) && okL (k + 1) l
  | _, .lst _ => false
def okL : Nat → List D → Bool
  | _, [] => true
  | k, d :: r => okD k d && okL k r
end
mutual
/-- only signs of the nine; no list -/
def fit : D → Bool
  | .int n => decide (0 ≤ n)
  | .str s => s.all fun c => decide (c ∈ good9)
  | .tup l => fitL l
  | .lst _ => false
def fitL : List D → Bool
  | [] => true
  | d :: r => fit d && fitL r
end
mutual
def sz : D → Nat
  | .int _ => 1
  | .str s => 1 + s.length
  | .tup l => 1 + szL l
  | .lst l => 1 + szL l
def szL : List D → Nat
  | [] => 0
  | d :: r => sz d + szL r
end
theorem okL_all (k : Nat) : ∀ l, okL k l = l.all (okD k)
  | [] => rfl
  | d :: r => by rw [okL, okL_all k r, List.all_cons]
theorem fitL_all : ∀ l, fitL l = l.all fit
  | [] => rfl
  | d :: r => by rw [fitL, fitL_all r, List.all_cons]
theorem encL_app : ∀ l m, encL (l ++ m) = encL l ++ encL m
  | [], m => rfl
  | d :: r, m => by rw [List.cons_append, encL, encL, encL_app r m, List.append_assoc]
theorem szL_app : ∀ l m, szL (l ++ m) = szL l + szL m
  | [], m => by simp [szL]
  | d :: r, m => by rw [List.cons_append, szL, szL, szL_app r m]; omega
theorem sz_pos (d : D) : 1 ≤ sz d := by cases d <;> simp [sz]
theorem len_szL : ∀ l, l.length ≤ szL l
  | [] => Nat.le_refl _
  | d :: r => by have := len_szL r; have := sz_pos d; rw [szL, List.length_cons]; omega
/-! ### the machine -/
abbrev Op := List (Nat × List D)
inductive Out where
  | ok (at_ : Nat) (op : Op) (r : Option D)
  | bad (at_ : Nat) (w : PySem.Str)
def feed : Op → D → Op × Option D
  | [], d => ([], some d)
  | (n, ms) :: r, d => if ms.length + 1 < n then ((n, ms ++ [d]) :: r, none) else feed r (.tup (ms ++ [d]))
def strM (b : List Int) : Nat → Nat → List Nat → (Nat × List Nat) ⊕ (Nat × PySem.Str)
  | 0, a, acc => .inl (a, acc)
  | n + 1, a, acc => if b.length < a + 1 then .inr (b.length, "end") else if 55 ≤ b.getD a 0 then .inr (a, "sign") else strM b n (a + 1) (acc ++ [sgs.getD (b.getD a 0).toNat 0])
def fed (a : Nat) (op : Op) (d : D) : Out := .ok a (feed op d).1 (feed op d).2
def numM (b : List Int) (a : Nat) : Nat := (b.getD (a + 1) 0 * 256 + b.getD (a + 2) 0).toNat
def stepM (b : List Int) (a : Nat) (op : Op) : Out :=
  if b.length < a + 1 then .bad b.length "end"
  else if b.getD a 0 ≠ 1 ∧ b.getD a 0 ≠ 2 ∧ b.getD a 0 ≠ 3 then .bad a "word"
  else if b.getD a 0 = 3 ∧ op.length = 20 then .bad a "deep"
  else if b.length < a + 3 then .bad b.length "end"
  else if b.getD a 0 = 3 ∧ 0 < numM b a then .ok (a + 3) ((numM b a, []) :: op) none
  else if b.getD a 0 = 1 then fed (a + 3) op (.int (numM b a))
  else if b.getD a 0 = 2 then (match strM b (numM b a) (a + 3) [] with
    | .inl (a', cs) => fed a' op (.str cs)
    | .inr (a', w) => .bad a' w)
  else fed (a + 3) op (.tup [])
inductive Goes (b : List Int) : Nat → Op → Out → Prop
  | one {a op a' op' r} (h : stepM b a op = .ok a' op' r) : Goes b a op (.ok a' op' r)
  | more {a op a' op' o} (h : stepM b a op = .ok a' op' none) (t : Goes b a' op' o) : Goes b a op o
inductive Ends (b : List Int) : Nat → Nat → Op → D ⊕ (Nat × PySem.Str) → Prop
  | bad {n a op a' w} (h : stepM b a op = .bad a' w) : Ends b n a op (.inr (a', w))
  | more {n a op a' op' r} (h : stepM b a op = .ok a' op' none) (t : Ends b n a' op' r) : Ends b (n + 1) a op r
  | fin {n a op a' op' d} (h : stepM b a op = .ok a' op' (some d)) (e : ¬ a' < b.length) : Ends b n a op (.inl d)
  | rest {n a op a' op' d} (h : stepM b a op = .ok a' op' (some d)) (e : a' < b.length) : Ends b n a op (.inr (a', "more"))
theorem goes_then {b : List Int} {a : Nat} {op : Op} {o : Out} (g : Goes b a op o) : ∀ {a' op' o2}, o = .ok a' op' none → Goes b a' op' o2 → Goes b a op o2 := by
  induction g with
  | one h =>
    intro a' op' o2 e t
    cases e
    exact .more h t
  | more h t ih =>
    intro a' op' o2 e t2
    exact .more h (ih e t2)
theorem getD_mid (p : List Int) (x : Int) (q : List Int) : (p ++ x :: q).getD p.length 0 = x := by
  simp [List.getD]
theorem getD_off (p q : List Int) (i : Nat) : (p ++ q).getD (p.length + i) 0 = q.getD i 0 := by
  simp [List.getD, List.getElem?_append_right]
theorem two_val (n : Nat) : ((((n / 256 : Nat) : Int) * 256 + ((n % 256 : Nat) : Int))).toNat = n := by omega
theorem sx_lt : ∀ c ∈ good9, sx c < 55 := by decide +kernel
theorem sx_back : ∀ c ∈ good9, sgs.getD (sx c) 0 = c := by decide +kernel
theorem strM_run (cs : List Nat) (post : List Int) : ∀ (pre : List Int) (acc : List Nat), (∀ c ∈ cs, c ∈ good9) →
    strM (pre ++ (cs.map fun c => ((sx c : Nat) : Int)) ++ post) cs.length pre.length acc = .inl (pre.length + cs.length, acc ++ cs) := by
  induction cs with
  | nil => intro pre acc h; simp [strM]
  | cons c r ih =>
    intro pre acc h
    have hc : c ∈ good9 := h c List.mem_cons_self
    have e : pre ++ ((c :: r).map fun c => ((sx c : Nat) : Int)) ++ post = (pre ++ [((sx c : Nat) : Int)]) ++ (r.map fun c => ((sx c : Nat) : Int)) ++ post := by simp
    have g : (pre ++ ((c :: r).map fun c => ((sx c : Nat) : Int)) ++ post).getD pre.length 0 = ((sx c : Nat) : Int) := by
      rw [List.append_assoc]
      exact getD_mid pre _ _
    have hl : ¬ (pre ++ ((c :: r).map fun c => ((sx c : Nat) : Int)) ++ post).length < pre.length + 1 := by
      simp
    rw [List.length_cons, strM, if_neg hl, g, if_neg (by have := sx_lt c hc; omega), Int.toNat_natCast, sx_back c hc, e]
    have := ih (pre ++ [((sx c : Nat) : Int)]) (acc ++ [c]) fun x hx => h x (List.mem_cons_of_mem _ hx)
    rw [List.length_append, List.length_singleton] at this
    rw [this, List.append_assoc]
    congr 2
    omega
theorem num_at (pre : List Int) (w : Int) (n : Nat) (q : List Int) : numM (pre ++ w :: (two n ++ q)) pre.length = n := by
  unfold numM
  rw [getD_off, getD_off]
  exact two_val n
mutual
theorem goes_enc : ∀ (d : D) (pre post : List Int) (op : Op), okD op.length d = true → fit d = true → Goes (pre ++ enc d ++ post) pre.length op (fed (pre.length + (enc d).length) op d)
  | .int n, pre, post, op, ho, hf => by
    have h0 : 0 ≤ n := by rw [fit] at hf; exact of_decide_eq_true hf
    have e : pre ++ enc (.int n) ++ post = pre ++ (1 : Int) :: (two n.toNat ++ post) := by simp [enc]
    rw [e]
    refine .one ?_
    have hl : (pre ++ (1 : Int) :: (two n.toNat ++ post)).length = pre.length + 3 + post.length := by simp [two]; omega
    have en : D.int ((n.toNat : Nat) : Int) = D.int n := by rw [Int.toNat_of_nonneg h0]
    have hz : pre.length + (enc (.int n)).length = pre.length + 3 := by simp [enc, two]
    rw [stepM, if_neg (by omega), getD_mid, if_neg (by decide), if_neg (fun h => absurd h.1 (by decide)), if_neg (by omega), if_neg (fun h => absurd h.1 (by decide)), if_pos rfl, num_at, en]
    unfold fed
    rw [hz]
  | .str s, pre, post, op, ho, hf => by
    have hs : ∀ c ∈ s, c ∈ good9 := fun c hc => by
      rw [fit, List.all_eq_true] at hf
      exact of_decide_eq_true (hf c hc)
    have e : pre ++ enc (.str s) ++ post = pre ++ (2 : Int) :: (two s.length ++ ((s.map fun c => ((sx c : Nat) : Int)) ++ post)) := by simp [enc]
    have e2 : pre ++ (2 : Int) :: (two s.length ++ ((s.map fun c => ((sx c : Nat) : Int)) ++ post)) = (pre ++ (2 : Int) :: two s.length) ++ (s.map fun c => ((sx c : Nat) : Int)) ++ post := by simp
    have hl : (pre ++ (2 : Int) :: (two s.length ++ ((s.map fun c => ((sx c : Nat) : Int)) ++ post))).length = pre.length + 3 + s.length + post.length := by simp [two]; omega
    have hl3 : (pre ++ (2 : Int) :: two s.length).length = pre.length + 3 := by simp [two]
    have run := strM_run s post (pre ++ (2 : Int) :: two s.length) [] hs
    rw [hl3, ← e2] at run
    have hz : pre.length + 3 + s.length = pre.length + (enc (.str s)).length := by simp [enc, two]; omega
    rw [e]
    refine .one ?_
    rw [stepM, if_neg (by omega), getD_mid, if_neg (by decide), if_neg (fun h => absurd h.1 (by decide)), if_neg (by omega), if_neg (fun h => absurd h.1 (by decide)), if_neg (by decide), if_pos rfl, num_at, run]
    simp only [List.nil_append, hz]
    rfl
  | .tup l, pre, post, op, ho, hf => by
    rw [okD, Bool.and_eq_true, Bool.and_eq_true] at ho
    obtain ⟨⟨h1, h2⟩, h3⟩ := ho
    have h1 := of_decide_eq_true h1
    rw [fit] at hf
    have e : pre ++ enc (.tup l) ++ post = pre ++ (3 : Int) :: (two l.length ++ (encL l ++ post)) := by simp [enc]
    have hl : (pre ++ (3 : Int) :: (two l.length ++ (encL l ++ post))).length = pre.length + 3 + (encL l).length + post.length := by simp [two]; omega
    have hz : pre.length + (enc (.tup l)).length = pre.length + 3 + (encL l).length := by simp [enc, two]; omega
    cases l with
    | nil =>
      rw [e]
      refine .one ?_
      rw [stepM, if_neg (by omega), getD_mid, if_neg (by decide), if_neg (fun h => absurd h.2 (by omega)), if_neg (by omega), if_neg (fun h => absurd h.2 (by rw [num_at]; exact Nat.lt_irrefl _)), if_neg (by decide), if_neg (by decide)]
      unfold fed
      rw [hz]
      rfl
    | cons d r =>
      have st : stepM (pre ++ enc (.tup (d :: r)) ++ post) pre.length op = .ok (pre.length + 3) (((d :: r).length, []) :: op) none := by
        rw [e, stepM, if_neg (by omega), getD_mid, if_neg (by decide), if_neg (fun h => absurd h.2 (by omega)), if_neg (by omega), if_pos ⟨rfl, by rw [num_at]; exact Nat.succ_pos _⟩, num_at]
      refine .more st ?_
      have hl3 : (pre ++ (3 : Int) :: two (d :: r).length).length = pre.length + 3 := by simp [two]
      have := goes_encL (d :: r) (by simp) (pre ++ (3 : Int) :: two (d :: r).length) post (d :: r).length [] op (by simp) h3 hf
      have e2 : (pre ++ (3 : Int) :: two (d :: r).length) ++ encL (d :: r) ++ post = pre ++ enc (.tup (d :: r)) ++ post := by simp [enc]
      rw [e2, hl3, ← hz, List.nil_append] at this
      exact this
  | .lst l, pre, post, op, ho, hf => by
    rw [fit] at hf
    cases hf
theorem goes_encL : ∀ (l : List D), l ≠ [] → ∀ (pre post : List Int) (n : Nat) (ms : List D) (op : Op), ms.length + l.length = n → okL (op.length + 1) l = true → fitL l = true → Goes (pre ++ encL l ++ post) pre.length ((n, ms) :: op) (fed (pre.length + (encL l).length) op (.tup (ms ++ l)))
  | [], h, _, _, _, _, _, _, _, _ => absurd rfl h
  | d :: r, _, pre, post, n, ms, op, hn, ho, hf => by
    rw [okL, Bool.and_eq_true] at ho
    rw [fitL, Bool.and_eq_true] at hf
    have g := goes_enc d pre (encL r ++ post) ((n, ms) :: op) ho.1 hf.1
    have e : pre ++ enc d ++ (encL r ++ post) = pre ++ encL (d :: r) ++ post := by simp [encL]
    rw [e] at g
    cases r with
    | nil =>
      have hfd : feed ((n, ms) :: op) d = feed op (.tup (ms ++ [d])) := by
        rw [feed, if_neg (by simp at hn; omega)]
      have hz : (encL [d]).length = (enc d).length := by simp [encL]
      unfold fed at g ⊢
      rw [hfd] at g
      rw [hz]
      exact g
    | cons d2 r2 =>
      have hfd : feed ((n, ms) :: op) d = ((n, ms ++ [d]) :: op, none) := by
        rw [feed, if_pos (by simp at hn; omega)]
      unfold fed at g
      rw [hfd] at g
      refine goes_then g rfl ?_
      have := goes_encL (d2 :: r2) (by simp) (pre ++ enc d) post n (ms ++ [d]) op (by simp at hn ⊢; omega) ho.2 hf.2
      have e2 : pre ++ enc d ++ encL (d2 :: r2) ++ post = pre ++ encL (d :: d2 :: r2) ++ post := by simp [encL]
      have e3 : ms ++ [d] ++ d2 :: r2 = ms ++ d :: d2 :: r2 := by simp
      have e4 : pre.length + (enc d).length + (encL (d2 :: r2)).length = pre.length + (encL (d :: d2 :: r2)).length := by simp [encL]; omega
      rw [e2, e3, List.length_append, e4] at this
      exact this
end
theorem goes_whole {d : D} (post : List Int) (ho : okD 0 d = true) (hf : fit d = true) : Goes (enc d ++ post) 0 [] (.ok (enc d).length [] (some d)) := by
  have := goes_enc d [] post [] ho hf
  simpa [fed, feed] using this
theorem ends_of {b : List Int} {a : Nat} {op : Op} {o : Out} (g : Goes b a op o) : ∀ {a' op' d}, o = .ok a' op' (some d) → ∃ n, Ends b n a op (if a' < b.length then .inr (a', "more") else .inl d) := by
  induction g with
  | @one a op a1 op1 r1 h =>
    intro a' op' d e
    obtain ⟨rfl, rfl, rfl⟩ := Out.ok.inj e
    by_cases c : a1 < b.length
    · rw [if_pos c]
      exact ⟨0, .rest h c⟩
    · rw [if_neg c]
      exact ⟨0, .fin h c⟩
  | more h t ih =>
    intro a' op' d e
    obtain ⟨n, z⟩ := ih e
    exact ⟨n + 1, .more h z⟩
theorem ends_enc {d : D} (ho : okD 0 d = true) (hf : fit d = true) : ∃ n, Ends (enc d) n 0 [] (.inl d) := by
  obtain ⟨n, h⟩ := ends_of (goes_whole [] ho hf) rfl
  rw [List.append_nil, if_neg (Nat.lt_irrefl _)] at h
  exact ⟨n, h⟩
theorem ends_more {d : D} (x : Int) (ho : okD 0 d = true) (hf : fit d = true) : ∃ n, Ends (enc d ++ [x]) n 0 [] (.inr ((enc d).length, "more")) := by
  obtain ⟨n, h⟩ := ends_of (goes_whole [x] ho hf) rfl
  rw [if_pos (by simp)] at h
  exact ⟨n, h⟩
/-! ### cut -/
theorem getD_take {b : List Int} {c i : Nat} (h : i < c) : (b.take c).getD i 0 = b.getD i 0 := by
  simp [List.getD, List.getElem?_take, h]
theorem strM_ge (b : List Int) : ∀ (n a : Nat) (acc : List Nat) (a' : Nat) (cs : List Nat), strM b n a acc = .inl (a', cs) → a' = a + n
  | 0, a, acc, a', cs, h => by
    simp only [strM, Sum.inl.injEq, Prod.mk.injEq] at h
    omega
  | n + 1, a, acc, a', cs, h => by
    rw [strM] at h
    split at h
    · cases h
    · split at h
      · cases h
      · have := strM_ge b n _ _ _ _ h
        omega
theorem strM_take {b : List Int} {c : Nat} (hc : c ≤ b.length) : ∀ (n a : Nat) (acc : List Nat) (a' : Nat) (cs : List Nat), a ≤ c → strM b n a acc = .inl (a', cs) →
    strM (b.take c) n a acc = if a' ≤ c then .inl (a', cs) else .inr (c, "end")
  | 0, a, acc, a', cs, ha, h => by
    simp only [strM, Sum.inl.injEq, Prod.mk.injEq] at h
    obtain ⟨rfl, rfl⟩ := h
    rw [if_pos ha, strM]
  | n + 1, a, acc, a', cs, ha, h => by
    have hl : (b.take c).length = c := by rw [List.length_take]; omega
    rw [strM, hl]
    by_cases q : c < a + 1
    · have := strM_ge b _ _ _ _ _ h
      rw [if_pos q, if_neg (by omega)]
    · rw [if_neg q, getD_take (by omega)]
      rw [strM] at h
      split at h
      · cases h
      · split at h
        · cases h
        · rename_i h1 h2
          rw [if_neg h2]
          exact strM_take hc n _ _ _ _ (by omega) h
theorem step_ge {b : List Int} {a : Nat} {op : Op} {a' : Nat} {op' : Op} {r : Option D} (h : stepM b a op = .ok a' op' r) : a + 3 ≤ a' := by
  unfold stepM fed at h
  split at h
  · cases h
  split at h
  · cases h
  split at h
  · cases h
  split at h
  · cases h
  split at h
  · cases h; omega
  split at h
  · cases h; omega
  split at h
  · split at h
    · rename_i hs
      have := strM_ge _ _ _ _ _ _ hs
      cases h
      omega
    · cases h
  · cases h; omega
theorem step_take {b : List Int} {c a : Nat} {op : Op} {a' : Nat} {op' : Op} {r : Option D} (hc : c ≤ b.length) (ha : a ≤ c) (h : stepM b a op = .ok a' op' r) :
    stepM (b.take c) a op = if a' ≤ c then .ok a' op' r else .bad c "end" := by
  have ge := step_ge h
  have hl : (b.take c).length = c := by rw [List.length_take]; omega
  by_cases q : c < a + 1
  · rw [stepM, hl, if_pos q, if_neg (by omega)]
  unfold stepM at h
  rw [stepM, hl, if_neg q, getD_take (by omega)]
  split at h
  · cases h
  split at h
  · cases h
  rename_i h1 h2
  rw [if_neg h2]
  split at h
  · cases h
  rename_i h3
  rw [if_neg h3]
  split at h
  · cases h
  by_cases q2 : c < a + 3
  · rw [if_pos q2, if_neg (by omega)]
  have hn : numM (b.take c) a = numM b a := by
    unfold numM
    rw [getD_take (by omega), getD_take (by omega)]
  rw [if_neg q2, hn]
  split at h
  · rename_i h5
    rw [if_pos h5]
    cases h
    rw [if_pos (by omega)]
  rename_i h5
  rw [if_neg h5]
  split at h
  · rename_i h6
    unfold fed at h ⊢
    rw [if_pos h6]
    cases h
    rw [if_pos (by omega)]
  rename_i h6
  rw [if_neg h6]
  split at h
  · rename_i h7
    rw [if_pos h7]
    split at h
    · rename_i a2 cs hs
      have := strM_take hc _ _ _ _ _ (by omega) hs
      rw [this]
      unfold fed at h
      cases h
      by_cases q3 : a' ≤ c
      · rw [if_pos q3, if_pos q3]
        rfl
      · rw [if_neg q3, if_neg q3]
    · cases h
  · rename_i h7
    rw [if_neg h7]
    unfold fed at h ⊢
    cases h
    rw [if_pos (by omega)]
theorem ends_take {b : List Int} {c : Nat} (hc : c ≤ b.length) {a : Nat} {op : Op} {o : Out} (g : Goes b a op o) : ∀ {a' op' d}, o = .ok a' op' (some d) → c < a' → a ≤ c → ∃ n, Ends (b.take c) n a op (.inr (c, "end")) := by
  induction g with
  | one h =>
    intro a' op' d e hlt ha
    cases e
    have := step_take hc ha h
    rw [if_neg (by omega)] at this
    exact ⟨0, .bad this⟩
  | @more a op a1 op1 o h t ih =>
    intro a' op' d e hlt ha
    have := step_take hc ha h
    by_cases q : a1 ≤ c
    · rw [if_pos q] at this
      obtain ⟨n, z⟩ := ih e hlt q
      exact ⟨n + 1, .more this z⟩
    · rw [if_neg q] at this
      exact ⟨0, .bad this⟩
theorem ends_cut {d : D} {c : Nat} (hc : c < (enc d).length) (ho : okD 0 d = true) (hf : fit d = true) : ∃ n, Ends ((enc d).take c) n 0 [] (.inr (c, "end")) := by
  have := goes_whole [] ho hf
  rw [List.append_nil] at this
  exact ends_take (Nat.le_of_lt hc) this rfl hc (Nat.zero_le _)
/-! ### a bent word, a bent sign, too deep -/
theorem ends_word {x : Int} (r : List Int) (h : x ≠ 1 ∧ x ≠ 2 ∧ x ≠ 3) : Ends (x :: r) 0 0 [] (.inr (0, "word")) := by
  refine .bad ?_
  rw [stepM, if_neg (by simp)]
  have e : (x :: r).getD 0 0 = x := rfl
  rw [e, if_pos h]
theorem strM_bad (x : Int) (hx : 55 ≤ x) (post : List Int) (cs : List Nat) (n : Nat) : ∀ (pre : List Int) (acc : List Nat), (∀ c ∈ cs, c ∈ good9) → cs.length < n →
    strM (pre ++ (cs.map fun c => ((sx c : Nat) : Int)) ++ x :: post) n pre.length acc = .inr (pre.length + cs.length, "sign") := by
  induction cs generalizing n with
  | nil =>
    intro pre acc h hn
    obtain ⟨m, rfl⟩ : ∃ m, n = m + 1 := ⟨n - 1, by simp at hn; omega⟩
    rw [strM, if_neg (by simp)]
    simp only [List.map_nil, List.append_nil, getD_mid, if_pos hx, List.length_nil, Nat.add_zero]
  | cons c r ih =>
    intro pre acc h hn
    obtain ⟨m, rfl⟩ : ∃ m, n = m + 1 := ⟨n - 1, by simp at hn; omega⟩
    have hc : c ∈ good9 := h c List.mem_cons_self
    have e : pre ++ ((c :: r).map fun c => ((sx c : Nat) : Int)) ++ x :: post = (pre ++ [((sx c : Nat) : Int)]) ++ (r.map fun c => ((sx c : Nat) : Int)) ++ x :: post := by simp
    have g : (pre ++ ((c :: r).map fun c => ((sx c : Nat) : Int)) ++ x :: post).getD pre.length 0 = ((sx c : Nat) : Int) := by
      rw [List.append_assoc]
      exact getD_mid pre _ _
    have hl : ¬ (pre ++ ((c :: r).map fun c => ((sx c : Nat) : Int)) ++ x :: post).length < pre.length + 1 := by
      simp
    rw [strM, if_neg hl, g, if_neg (by have := sx_lt c hc; omega), e]
    have := ih m (pre ++ [((sx c : Nat) : Int)]) (acc ++ [sgs.getD (((sx c : Nat) : Int)).toNat 0]) (fun x hx => h x (List.mem_cons_of_mem _ hx)) (by simp at hn; omega)
    rw [List.length_append, List.length_singleton] at this
    rw [this, List.length_cons]
    congr 2
    omega
theorem ends_sign {x : Int} (hx : 55 ≤ x) (hi lo : Nat) (cs : List Nat) (post : List Int) (n : Nat) (hn : n = hi * 256 + lo) (hcs : ∀ c ∈ cs, c ∈ good9) (hlt : cs.length < n) :
    Ends ([3, 0, 4, 2, (hi : Int), (lo : Int)] ++ (cs.map fun c => ((sx c : Nat) : Int)) ++ x :: post) 1 0 [] (.inr (6 + cs.length, "sign")) := by
  have hl : ([3, 0, 4, 2, (hi : Int), (lo : Int)] ++ (cs.map fun c => ((sx c : Nat) : Int)) ++ x :: post).length = 7 + cs.length + post.length := by simp; omega
  refine .more (a' := 3) (op' := [(4, [])]) ?_ (.bad ?_)
  · rw [stepM, hl, if_neg (by omega)]
    have e0 : ([3, 0, 4, 2, (hi : Int), (lo : Int)] ++ (cs.map fun c => ((sx c : Nat) : Int)) ++ x :: post).getD 0 0 = 3 := rfl
    have en : numM ([3, 0, 4, 2, (hi : Int), (lo : Int)] ++ (cs.map fun c => ((sx c : Nat) : Int)) ++ x :: post) 0 = 4 := rfl
    rw [e0, en, if_neg (by decide), if_neg (fun h => absurd h.2 (by decide)), if_neg (by omega), if_pos ⟨rfl, by decide⟩]
  · rw [stepM, hl, if_neg (by omega)]
    have e0 : ([3, 0, 4, 2, (hi : Int), (lo : Int)] ++ (cs.map fun c => ((sx c : Nat) : Int)) ++ x :: post).getD 3 0 = 2 := rfl
    have en : numM ([3, 0, 4, 2, (hi : Int), (lo : Int)] ++ (cs.map fun c => ((sx c : Nat) : Int)) ++ x :: post) 3 = n := by
      show ((hi : Int) * 256 + (lo : Int)).toNat = n
      omega
    have rr := strM_bad x hx post cs n [3, 0, 4, 2, (hi : Int), (lo : Int)] [] hcs hlt
    have rr : strM ([3, 0, 4, 2, (hi : Int), (lo : Int)] ++ (cs.map fun c => ((sx c : Nat) : Int)) ++ x :: post) n (3 + 3) [] = .inr (6 + cs.length, "sign") := rr
    rw [e0, en, if_neg (by decide), if_neg (fun h => absurd h.1 (by decide)), if_neg (by omega), if_neg (fun h => absurd h.1 (by decide)), if_neg (by decide), if_pos rfl, rr]
def lad (k : Nat) : List Int := (List.replicate k [3, 0, 1]).flatten
theorem lad_len (k : Nat) : (lad k).length = 3 * k := by simp [lad, List.length_flatten]; omega
theorem lad_succ (k : Nat) : lad (k + 1) = lad k ++ [3, 0, 1] := by
  unfold lad
  rw [List.replicate_succ', List.flatten_append]
  simp
theorem ends_deep (y : Int) (r : List Int) : ∃ n, Ends (lad 20 ++ 3 :: y :: r) n 0 [] (.inr (60, "deep")) := by
  have key : ∀ (j k : Nat) (op : Op), j + k = 20 → op.length = k → ∃ n, Ends (lad 20 ++ 3 :: y :: r) n (3 * k) op (.inr (60, "deep")) := by
    intro j
    induction j with
    | zero =>
      intro k op hk ho
      have : k = 20 := by omega
      subst this
      refine ⟨0, .bad ?_⟩
      have g : (lad 20 ++ 3 :: y :: r).getD (3 * 20) 0 = 3 := by
        have := getD_mid (lad 20) 3 (y :: r)
        rw [lad_len] at this
        exact this
      have hl : (lad 20 ++ 3 :: y :: r).length = 62 + r.length := by simp [lad_len]; omega
      rw [stepM, hl, if_neg (by omega), g, if_neg (by decide), if_pos ⟨rfl, ho⟩]
    | succ j ih =>
      intro k op hk ho
      obtain ⟨n, z⟩ := ih (k + 1) ((1, []) :: op) (by omega) (by simp [ho])
      refine ⟨n + 1, .more (a' := 3 * (k + 1)) (op' := (1, []) :: op) ?_ z⟩
      have hl : (lad 20 ++ 3 :: y :: r).length = 62 + r.length := by simp [lad_len]; omega
      have e : lad 20 ++ 3 :: y :: r = lad k ++ (3 : Int) :: (two 1 ++ (lad (19 - k) ++ 3 :: y :: r)) := by
        have e1 : lad 20 = lad k ++ (3 : Int) :: (two 1 ++ lad (19 - k)) := by
          have h20 : 20 = k + (1 + (19 - k)) := by omega
          unfold lad
          conv => lhs; rw [h20, ← List.replicate_append_replicate, ← List.replicate_append_replicate, List.flatten_append, List.flatten_append]
          rfl
        rw [e1]
        simp
      have g : (lad 20 ++ 3 :: y :: r).getD (3 * k) 0 = 3 := by
        rw [e]
        have := getD_mid (lad k) 3 (two 1 ++ (lad (19 - k) ++ 3 :: y :: r))
        rw [lad_len] at this
        exact this
      have gn : numM (lad 20 ++ 3 :: y :: r) (3 * k) = 1 := by
        rw [e]
        have := num_at (lad k) 3 1 (lad (19 - k) ++ 3 :: y :: r)
        rw [lad_len] at this
        exact this
      rw [stepM, hl, if_neg (by omega), g, gn, if_neg (by decide), if_neg (fun h => absurd h.2 (by omega)), if_neg (by omega), if_pos ⟨rfl, by decide⟩]
      rfl
  exact key 20 0 [] rfl rfl
end K14
/-! small helps: defs as facts, maps by comprehensions, data in the heap -/
namespace L2
open PySem PySem.Spec PyProof.Rows
/-- the module's def x keeps the promise sp -/
structure Fd (P : Program) (w : World) (K : PySem.W.Frag) (mg : Str → Option Value) (base : Heap) (CX : CXT) (k : Nat) (x : Str) (ps : List Str) (sp : Sp) : Prop where
  ex : ∃ (f : Addr) (fd : FuncData), mg x = some (.ref f) ∧ PySem.W.keepIn K (.ref f) = true ∧ Binds K fd ps [] ∧ FnOk P w K mg base CX k f fd ps sp
section
variable {X : Cx} {k : Nat} {ps : List Str} {sp : Sp} {x : Str} {p pos : Pos} {e : Expr} {es : List Expr} {t : TA}
theorem pe_fd (F : Fd X.prog X.w X.K X.mg X.base CX0 k x ps sp) (hr : Room k X.A) (hg : Gl X x) (ha : PA X (e :: es) t) (hdb : (x == ("__debug__" : Str)) = false := by decide) (he : starEach (e :: es) X.env = (false, eval e X.env) :: starEach es X.env := by rfl) (hpl : (backTo pos (starEach es X.env)).any (·.1) = false := by rfl) :
    PE X (.Call (.Name x p) (e :: es) [] pos) (fun σ H Q => t σ H fun vs H1 => sp vs H1 Q E0) := by
  obtain ⟨f, fd, hm, hk, hb, G⟩ := F.ex
  have := pe_call (pos := pos) (p := p) G hr hg hm hk hb .nil pass0 ha hdb he hpl
  refine ⟨fun pins s σ H Q I h => this.run pins s σ H Q I ?_⟩
  have e0 : (fun (vs : List V) (H1 : Hp) => sp (vs ++ []) H1 Q E0) = fun vs H1 => sp vs H1 Q E0 := by
    funext vs H1
    rw [List.append_nil]
  show t σ H (fun vs H1 => sp (vs ++ []) H1 Q E0)
  rw [e0]
  exact h
theorem pe_fdX {E : XK} {CX : CXT} (F : Fd X.prog X.w X.K X.mg X.base CX k x ps sp) (hr : Room k X.A) (hg : Gl X x) (hx : Passes CX X E) (ha : PA X (e :: es) t) (hdb : (x == ("__debug__" : Str)) = false := by decide) (he : starEach (e :: es) X.env = (false, eval e X.env) :: starEach es X.env := by rfl) (hpl : (backTo pos (starEach es X.env)).any (·.1) = false := by rfl) :
    PE X (.Call (.Name x p) (e :: es) [] pos) (fun σ H Q => t σ H fun vs H1 => sp vs H1 Q E) := by
  obtain ⟨f, fd, hm, hk, hb, G⟩ := F.ex
  have := pe_call (pos := pos) (p := p) G hr hg hm hk hb .nil hx ha hdb he hpl
  refine ⟨fun pins s σ H Q I h => this.run pins s σ H Q I ?_⟩
  have e0 : (fun (vs : List V) (H1 : Hp) => sp (vs ++ []) H1 Q E) = fun vs H1 => sp vs H1 Q E := by
    funext vs H1
    rw [List.append_nil]
  show t σ H (fun vs H1 => sp (vs ++ []) H1 Q E)
  rw [e0]
  exact h
end
theorem Same.seqT {K : PySem.W.Frag} {H H' : Hp} {a : Addr} {xs : List V} (e : Same H H') (h : SqT K H a xs) : SqT K H' a xs := by
  rcases h with (h | ⟨o, h⟩) | h
  · exact .inl (.inl (e _ _ h))
  · exact .inl (.inr ⟨o, e _ _ h⟩)
  · exact .inr h
theorem Same.new {H : Hp} {p : Addr} {o : HO} (h : H p = none) : Same H (upd H p o) := fun b u e => by
  rw [upd_ne (ne_of_none e h)]
  exact e
theorem Same.put {H0 H : Hp} {p : Addr} {o : HO} (s : Same H0 H) (h : H0 p = none) : Same H0 (upd H p o) := fun b u e => by
  rw [upd_ne (ne_of_none e h)]
  exact s _ _ e
theorem take_snoc {α : Type} {l : List α} {i : Nat} {x : α} (h : l[i]? = some x) : l.take (i + 1) = l.take i ++ [x] := by
  rw [List.take_add_one, h]
  rfl
/-! ### comprehensions that only map -/
theorem lcm_tup {K : PySem.W.Frag} {a : Addr} {xs : List V} {te : TE} {vs : List Nat} {j : Nat} {σ : St} {H1 : Hp} {D : Addr} {Qd : Hp → Prop} (ys : List V) (hl : ys.length = xs.length) (hD : H1 D = none) (hT : SqT K H1 a xs) (hz : xs.length ≤ sizeLine)
    (hw : ∀ x, wipe ((wipe σ vs).set j (some x)) vs = wipe σ vs)
    (hs : ∀ (i : Nat) (x y : V) (H : Hp), xs[i]? = some x → ys[i]? = some y → Same H1 H → ∀ Q : VK, Q y H → te ((wipe σ vs).set j (some x)) H Q)
    (hd : Qd (upd H1 D (.lst ys))) :
    ∃ W : Nat → Nat → Hp → Prop, (∃ m, W 0 m (upd H1 D (.lst []))) ∧ ∀ i m H, W i m H →
      ((Itt K a).stop i H ∧ Qd H) ∨ ((Itt K a).go i H ∧ ∃ Nx : Hp → Prop, (∀ H', Nx H' → ∃ m', m' < m ∧ W (i + 1) m' H') ∧ ∀ x H', (Itt K a).yld i H x H' → gName j x (wipe σ vs) H' fun σ2 H2 => wipe σ2 vs = wipe σ vs ∧ tYes σ2 H2 fun b H3 =>
        if b = true then te σ2 H3 fun y H4 => ∃ acc, H4 D = some (.lst acc) ∧ acc.length < sizeLine ∧ Nx (upd H4 D (.lst (acc ++ [y]))) else Nx H3) := by
  refine lc_tup (xs := xs) (fun i H => H = upd H1 D (.lst (ys.take i))) (by simp) (fun i H _ e => by rw [e]; exact Same.seqT (Same.new hD) hT) ?_ ?_
  · intro i x H hx e
    have hi : i < ys.length := by
      rw [hl]
      exact (List.getElem?_eq_some_iff.mp hx).1
    refine ⟨hw x, ?_⟩
    unfold tYes
    simp only [if_true]
    refine hs i x ys[i] H hx (by simp [hi]) (by rw [e]; exact Same.new hD) _ ?_
    refine ⟨ys.take i, by rw [e, upd_same], ?_, ?_⟩
    · rw [List.length_take]
      omega
    · rw [e, upd_upd, take_snoc (x := ys[i]) (by simp [hi])]
  · intro H e
    rw [e, ← hl, List.take_length]
    exact hd
theorem lcm_list {K : PySem.W.Frag} {a : Addr} {xs : List V} {te : TE} {vs : List Nat} {j : Nat} {σ : St} {H1 : Hp} {D : Addr} {Qd : Hp → Prop} (ys : List V) (hl : ys.length = xs.length) (hD : H1 D = none) (hT : SqL K H1 a xs) (hz : xs.length ≤ sizeLine)
    (hw : ∀ x, wipe ((wipe σ vs).set j (some x)) vs = wipe σ vs)
    (hs : ∀ (i : Nat) (x y : V) (H : Hp), xs[i]? = some x → ys[i]? = some y → Same H1 H → ∀ Q : VK, Q y H → te ((wipe σ vs).set j (some x)) H Q)
    (hd : Qd (upd H1 D (.lst ys))) :
    ∃ W : Nat → Nat → Hp → Prop, (∃ m, W 0 m (upd H1 D (.lst []))) ∧ ∀ i m H, W i m H →
      ((Itl K a).stop i H ∧ Qd H) ∨ ((Itl K a).go i H ∧ ∃ Nx : Hp → Prop, (∀ H', Nx H' → ∃ m', m' < m ∧ W (i + 1) m' H') ∧ ∀ x H', (Itl K a).yld i H x H' → gName j x (wipe σ vs) H' fun σ2 H2 => wipe σ2 vs = wipe σ vs ∧ tYes σ2 H2 fun b H3 =>
        if b = true then te σ2 H3 fun y H4 => ∃ acc, H4 D = some (.lst acc) ∧ acc.length < sizeLine ∧ Nx (upd H4 D (.lst (acc ++ [y]))) else Nx H3) := by
  refine lc_list (xs := xs) (fun i H => H = upd H1 D (.lst (ys.take i))) (by simp) (fun i H _ e => by rw [e]; exact Same.seq (Same.new hD) hT) ?_ ?_
  · intro i x H hx e
    have hi : i < ys.length := by
      rw [hl]
      exact (List.getElem?_eq_some_iff.mp hx).1
    refine ⟨hw x, ?_⟩
    unfold tYes
    simp only [if_true]
    refine hs i x ys[i] H hx (by simp [hi]) (by rw [e]; exact Same.new hD) _ ?_
    refine ⟨ys.take i, by rw [e, upd_same], ?_, ?_⟩
    · rw [List.length_take]
      omega
    · rw [e, upd_upd, take_snoc (x := ys[i]) (by simp [hi])]
  · intro H e
    rw [e, ← hl, List.take_length]
    exact hd
theorem lcm_str {z : Str} {te : TE} {vs : List Nat} {j : Nat} {σ : St} {H1 : Hp} {D : Addr} {Qd : Hp → Prop} (ys : List V) (hl : ys.length = z.cps.size) (hD : H1 D = none) (hz : z.cps.size ≤ sizeLine)
    (hw : ∀ x, wipe ((wipe σ vs).set j (some x)) vs = wipe σ vs)
    (hs : ∀ (i : Nat) (c : Nat) (y : V) (H : Hp), z.cps[i]? = some c → ys[i]? = some y → Same H1 H → ∀ Q : VK, Q y H → te ((wipe σ vs).set j (some (.str ⟨#[c]⟩))) H Q)
    (hd : Qd (upd H1 D (.lst ys))) :
    ∃ W : Nat → Nat → Hp → Prop, (∃ m, W 0 m (upd H1 D (.lst []))) ∧ ∀ i m H, W i m H →
      ((Its z).stop i H ∧ Qd H) ∨ ((Its z).go i H ∧ ∃ Nx : Hp → Prop, (∀ H', Nx H' → ∃ m', m' < m ∧ W (i + 1) m' H') ∧ ∀ x H', (Its z).yld i H x H' → gName j x (wipe σ vs) H' fun σ2 H2 => wipe σ2 vs = wipe σ vs ∧ tYes σ2 H2 fun b H3 =>
        if b = true then te σ2 H3 fun y H4 => ∃ acc, H4 D = some (.lst acc) ∧ acc.length < sizeLine ∧ Nx (upd H4 D (.lst (acc ++ [y]))) else Nx H3) := by
  refine ⟨fun i m H => m = z.cps.size - i ∧ i ≤ z.cps.size ∧ H = upd H1 D (.lst (ys.take i)), ⟨z.cps.size, by simp, Nat.zero_le _, by simp⟩, ?_⟩
  rintro i m H ⟨rfl, hi, e⟩
  by_cases hlt : i < z.cps.size
  · refine .inr ⟨hlt, fun H' => H' = upd H1 D (.lst (ys.take (i + 1))), fun H' p' => ⟨z.cps.size - (i + 1), by omega, rfl, hlt, p'⟩, fun x H' y => ?_⟩
    obtain ⟨rfl, c, hc, rfl⟩ := y
    have hi2 : i < ys.length := by omega
    refine ⟨hw _, ?_⟩
    unfold tYes
    simp only [if_true]
    refine hs i c ys[i] H' hc (by simp [hi2]) (by rw [e]; exact Same.new hD) _ ?_
    refine ⟨ys.take i, by rw [e, upd_same], ?_, ?_⟩
    · rw [List.length_take]
      omega
    · rw [e, upd_upd, take_snoc (x := ys[i]) (by simp [hi2])]
  · have e2 : i = z.cps.size := by omega
    refine .inl ⟨by show z.cps.size ≤ i; omega, ?_⟩
    rw [e, e2, ← hl, List.take_length]
    exact hd
end L2
namespace K14
open PySem L2
/-! ### data in the heap -/
mutual
def Rep (H : Hp) : V → D → Prop
  | v, .int n => v = .int n
  | v, .str s => v = .str ⟨s.toArray⟩
  | v, .tup l => ∃ a xs, v = .ref a ∧ H a = some (.tup xs) ∧ RepL H xs l
  | v, .lst l => ∃ a xs, v = .ref a ∧ H a = some (.lst xs) ∧ RepL H xs l
def RepL (H : Hp) : List V → List D → Prop
  | xs, [] => xs = []
  | xs, d :: r => ∃ x ys, xs = x :: ys ∧ Rep H x d ∧ RepL H ys r
end
abbrev Ext (H H' : Hp) : Prop := LamX.ExtN H H'
mutual
theorem Rep.ext {H H' : Hp} (e : Ext H H') : ∀ {d : D} {v : V}, Rep H v d → Rep H' v d
  | .int n, v, h => h
  | .str s, v, h => h
  | .tup l, v, ⟨a, xs, h1, h2, h3⟩ => ⟨a, xs, h1, e _ _ h2 (fun _ z => by cases z), RepL.ext e h3⟩
  | .lst l, v, ⟨a, xs, h1, h2, h3⟩ => ⟨a, xs, h1, e _ _ h2 (fun _ z => by cases z), RepL.ext e h3⟩
theorem RepL.ext {H H' : Hp} (e : Ext H H') : ∀ {l : List D} {xs : List V}, RepL H xs l → RepL H' xs l
  | [], xs, h => h
  | d :: r, xs, ⟨x, ys, h1, h2, h3⟩ => ⟨x, ys, h1, Rep.ext e h2, RepL.ext e h3⟩
end
theorem Rep.same {H H' : Hp} (e : Same H H') {d : D} {v : V} (h : Rep H v d) : Rep H' v d := h.ext (LamX.ExtN.of e)
theorem RepL.same {H H' : Hp} (e : Same H H') {l : List D} {xs : List V} (h : RepL H xs l) : RepL H' xs l := h.ext (LamX.ExtN.of e)
theorem RepL.length {H : Hp} : ∀ {l : List D} {xs : List V}, RepL H xs l → xs.length = l.length
  | [], xs, h => by
    have h : xs = [] := h
    rw [h]; rfl
  | d :: r, xs, ⟨x, ys, h1, h2, h3⟩ => by rw [h1, List.length_cons, List.length_cons, RepL.length h3]
theorem RepL.app {H : Hp} : ∀ {l m : List D} {xs ys : List V}, RepL H xs l → RepL H ys m → RepL H (xs ++ ys) (l ++ m)
  | [], m, xs, ys, h, k => by
    have h : xs = [] := h
    rw [h]
    exact k
  | d :: r, m, xs, ys, ⟨x, zs, h1, h2, h3⟩, k => ⟨x, zs ++ ys, by rw [h1]; rfl, h2, RepL.app h3 k⟩
theorem RepL.at {H : Hp} : ∀ {l : List D} {xs : List V} {i : Nat} {x : V}, RepL H xs l → xs[i]? = some x → ∃ d, l[i]? = some d ∧ Rep H x d
  | [], xs, i, x, h, e => by
    have h : xs = [] := h
    rw [h] at e
    cases e
  | d :: r, xs, 0, x, ⟨y, ys, h1, h2, h3⟩, e => by
    rw [h1] at e
    cases e
    exact ⟨d, rfl, h2⟩
  | d :: r, xs, i + 1, x, ⟨y, ys, h1, h2, h3⟩, e => by
    have e : ys[i]? = some x := by
      rw [h1, List.getElem?_cons_succ] at e
      exact e
    exact RepL.at (l := r) (xs := ys) (i := i) h3 e
theorem RepL.snoc {H : Hp} {l : List D} {xs : List V} {d : D} {x : V} (h : RepL H xs l) (k : Rep H x d) : RepL H (xs ++ [x]) (l ++ [d]) := h.app ⟨x, [], rfl, k, rfl⟩
theorem RepL.rev {H : Hp} : ∀ {l : List D} {xs : List V}, RepL H xs l → RepL H xs.reverse l.reverse
  | [], xs, h => by
    have h : xs = [] := h
    rw [h]
    exact rfl
  | d :: r, xs, ⟨x, ys, h1, h2, h3⟩ => by
    rw [h1, List.reverse_cons, List.reverse_cons]
    exact h3.rev.snoc h2
theorem RepL.ints {H : Hp} : ∀ (ns : List Int), RepL H (ns.map V.int) (ns.map D.int)
  | [] => rfl
  | n :: r => ⟨.int n, r.map V.int, rfl, rfl, RepL.ints r⟩
end K14
/-! forms -/
namespace K14
open PySem L2
def top (i : Nat) : Stmt := PySem.Challenge.pw_worknets_k14_data_of_great_lengths.main.body.getD i (.Pass ⟨0, 0, 0, 0⟩)
def sgS : Str := ⟨sgs.toArray⟩
/-- what the module's names hold -/
structure Txt (mg : Str → Option Value) : Prop where
  isi : mg "isinstance" = none
  int : mg "int" = none
  bool : mg "bool" = none
  str : mg "str" = none
  tuple : mg "tuple" = none
  list : mg "list" = none
  all : mg "all" = none
  len : mg "len" = none
  range : mg "range" = none
  zip : mg "zip" = none
  abs : mg "abs" = none
  max : mg "max" = none
  cByte : ∃ t, mg "MOST_BYTE" = some (.int 255 t)
  cSigns : ∃ t, mg "SIGNS" = some (.str sgS t)
  cNumber : ∃ t, mg "NUMBER" = some (.int 1 t)
  cString : ∃ t, mg "STRING" = some (.int 2 t)
  cTuple : ∃ t, mg "TUPLE" = some (.int 3 t)
  cBase : ∃ t, mg "BASE" = some (.int 256 t)
  cMost : ∃ t, mg "MOST" = some (.int 65535 t)
  cDeep : ∃ t, mg "MOST_DEEP" = some (.int 20 t)
section
variable {X : Cx}
theorem pe_gi {x : Str} {n : Int} {pos : Pos} (hg : Gl X x) (hm : ∃ t, X.mg x = some (.int n t)) (hd : (x == ("__debug__" : Str)) = false := by decide) : PE X (.Name x pos) (tC (.int n)) := by
  obtain ⟨t, h⟩ := hm
  exact pe_glob hg h ⟨_, rfl⟩ hd
theorem pe_gs {x : Str} {z : Str} {pos : Pos} (hg : Gl X x) (hm : ∃ t, X.mg x = some (.str z t)) (hd : (x == ("__debug__" : Str)) = false := by decide) : PE X (.Name x pos) (tC (.str z)) := by
  obtain ⟨t, h⟩ := hm
  exact pe_glob hg h ⟨_, rfl⟩ hd
/-- whether the value is of the built-in class T -/
def IsI (K : PySem.W.Frag) (H : Hp) (v : V) (T : String) (b : Bool) : Prop := ∃ t, TyX K H v (.type t) ∧ kitB t T = some b
def rIsB (K : PySem.W.Frag) : List V → Hp → VK → Prop := fun xs H Q => match xs with
  | [v, .ty T] => ∃ b, IsI K H v T b ∧ Q (.bl b) H
  | _ => False
theorem call_isiB : CallR X (.builtin "isinstance") (rIsB X.K) := by
  intro pins s σ H xs us Q I r h
  unfold rIsB at h
  split at h
  · obtain ⟨b, ⟨t, ty, k⟩, q⟩ := h
    exact call_isi pins s σ H _ us Q I r ⟨_, _, _, _, b, rfl, .ty _, ty, kit_ty k, q⟩
  · exact h.elim
/-- isinstance(e, T), T a built-in class -/
theorem pe_isi {e : Expr} {T : String} {x : Str} {p1 p2 pos : Pos} {te : TE} (hi : Gl X "isinstance") (mi : X.mg "isinstance" = none) (hT : Gl X x) (mT : X.mg x = none) (bT : bootBuiltins x = some (.type T)) (he : PE X e te) (hn : x ≠ "__name__" := by decide) (hd : (x == ("__debug__" : Str)) = false := by decide)
    (h1 : starEach [e, .Name x p1] X.env = (false, eval e X.env) :: starEach [.Name x p1] X.env := by rfl) (hpl : (backTo pos (starEach [.Name x p1] X.env)).any (·.1) = false := by rfl) (h2 : starEach [.Name x p1] X.env = (false, eval (.Name x p1) X.env) :: starEach [] X.env := by rfl) :
    PE X (.Call (.Name "isinstance" p2) [e, .Name x p1] [] pos) (fun σ H Q => te σ H fun v H1 => ∃ b, IsI X.K H1 v T b ∧ Q (.bl b) H1) :=
  pe_callB (pos := pos) (p := p2) call_isiB hi mi (by decide +kernel) (pa_cons he (pa_cons (pe_bltn (pos := p1) hT mT bT (show RelV (.ty T) (.type T) from rfl) hn hd) pa_nil h2) h1) (by decide) (by decide) h1 hpl
end
theorem isi_int {K : PySem.W.Frag} {H : Hp} {n : Int} : IsI K H (.int n) "int" true := ⟨_, .base (.int n), by decide +kernel⟩
theorem isi_int_bool {K : PySem.W.Frag} {H : Hp} {n : Int} : IsI K H (.int n) "bool" false := ⟨_, .base (.int n), by decide +kernel⟩
theorem isi_int_str {K : PySem.W.Frag} {H : Hp} {n : Int} : IsI K H (.int n) "str" false := ⟨_, .base (.int n), by decide +kernel⟩
theorem isi_int_tup {K : PySem.W.Frag} {H : Hp} {n : Int} : IsI K H (.int n) "tuple" false := ⟨_, .base (.int n), by decide +kernel⟩
theorem isi_str {K : PySem.W.Frag} {H : Hp} {z : Str} : IsI K H (.str z) "str" true := ⟨_, .base (.str z), by decide +kernel⟩
theorem isi_str_tup {K : PySem.W.Frag} {H : Hp} {z : Str} : IsI K H (.str z) "tuple" false := ⟨_, .base (.str z), by decide +kernel⟩
theorem isi_tup {K : PySem.W.Frag} {H : Hp} {a : Addr} {xs : List V} (h : H a = some (.tup xs)) : IsI K H (.ref a) "tuple" true := ⟨_, .base (.tup h), by decide +kernel⟩
/-! ### the text by places -/
abbrev sIsInt : Stmt := top 6
abbrev sWithin : Stmt := top 7
abbrev sIsStr : Stmt := top 8
abbrev sAll : Stmt := top 9
abbrev sInts : Stmt := top 10
abbrev sBytes : Stmt := top 11
/-! ### the promises -/
def spIsInt : Sp := fun vs H Q _ => ∃ n : Int, vs = [.int n] ∧ Q (.bl true) H
def spWithin : Sp := fun vs H Q _ => ∃ n a b : Int, vs = [.int n, .int a, .int b] ∧ Q (.bl (decide (a ≤ n ∧ n ≤ b))) H
/-- of ints and texts -/
def spIsStr : Sp := fun vs H Q _ => (∃ n : Int, vs = [.int n] ∧ Q (.bl false) H) ∨ (∃ z : Str, vs = [.str z] ∧ Q (.bl true) H)
def spAll (f : Addr) : Sp := fun vs H Q _ => ∃ (a : Addr) (ns : List Int), vs = [.ref a, .ref f] ∧ H a = some (.tup (ns.map V.int)) ∧ ns.length ≤ 16777216 ∧ ∀ H', Same H H' → Q (.bl true) H'
def spInts : Sp := fun vs H Q _ => ∃ (a : Addr) (ns : List Int), vs = [.ref a] ∧ H a = some (.tup (ns.map V.int)) ∧ ns.length ≤ 16777216 ∧ ∀ H', Same H H' → Q (.bl true) H'
def spBytes : Sp := fun vs H Q _ => ∃ (a : Addr) (ns : List Int), vs = [.ref a] ∧ H a = some (.tup (ns.map V.int)) ∧ ns.length ≤ 16777216 ∧ (∀ n ∈ ns, 0 ≤ n ∧ n ≤ 255) ∧ ∀ H', Same H H' → Q (.bl true) H'
section
variable {P : Program} {w : World} {K : PySem.W.Frag} {mg : Str → Option Value} {base : Heap} {f : Addr} {fd : FuncData}
theorem scIsInt : FnScope ["thing"] ["thing"] (defScope sIsInt) := ⟨rfl, rfl, rfl, by decide +kernel, rfl, by decide +kernel, by decide +kernel⟩
theorem ok_isInt (F : Fun K "is_integer" "is_integer" sIsInt f fd) (T : Txt mg) : FnOk P w K mg base CX0 1 f fd ["thing"] spIsInt := by
  refine F.ok scIsInt (fun vs H Q E h => ?_) (fun cdv A outer s H vs Q E hr h => ?_)
  · obtain ⟨n, rfl, _⟩ := h
    rfl
  · obtain ⟨n, rfl, q⟩ := h
    refine ⟨_, pss_one (ps_ret (pe_and (pe_isi (T := "int") (by rfl) T.isi (by rfl) T.int (by decide +kernel) (pv 0)) (pe_one (pe_not (pe_isi (T := "bool") (by rfl) T.isi (by rfl) T.bool (by decide +kernel) (pv 0)))))), ?_⟩
    exact ⟨_, rfl, _, isi_int, _, rfl, iteT ⟨_, rfl, _, isi_int_bool, _, rfl, q⟩⟩
theorem scWithin : FnScope ["thing", "least", "most"] ["thing", "least", "most"] (defScope sWithin) := ⟨rfl, rfl, rfl, by decide +kernel, rfl, by decide +kernel, by decide +kernel⟩
theorem ok_within (F : Fun K "is_within" "is_within" sWithin f fd) (D1 : Fd P w K mg base CX0 1 "is_integer" ["thing"] spIsInt) : FnOk P w K mg base CX0 2 f fd ["thing", "least", "most"] spWithin := by
  refine F.ok scWithin (fun vs H Q E h => ?_) (fun cdv A outer s H vs Q E hr h => ?_)
  · obtain ⟨n, a, b, rfl, _⟩ := h
    rfl
  · obtain ⟨n, a, b, rfl, q⟩ := h
    refine ⟨_, pss_one (ps_ret (pe_and (pe_fd D1 hr (by rfl) (pa_cons (pv 0) pa_nil)) (pe_one (pe_chain op_le op_le (pv 1) (pv 0) (pv 2))))), ?_⟩
    refine ⟨_, rfl, n, rfl, _, rfl, iteT ⟨_, rfl, _, rfl, _, _, rfl, rfl, _, rfl, ?_⟩⟩
    by_cases h1 : a ≤ n
    · rw [decide_eq_true h1]
      refine iteT ⟨_, rfl, _, _, rfl, rfl, ?_⟩
      have e : decide (n ≤ b) = decide (a ≤ n ∧ n ≤ b) := by
        by_cases h2 : n ≤ b <;> simp [h1, h2]
      show Q (.bl (decide (n ≤ b))) H
      rw [e]
      exact q
    · rw [decide_eq_false h1]
      refine iteF ?_
      have e : false = decide (a ≤ n ∧ n ≤ b) := by simp [h1]
      rw [e]
      exact q
theorem scIsStr : FnScope ["thing"] ["thing"] (defScope sIsStr) := ⟨rfl, rfl, rfl, by decide +kernel, rfl, by decide +kernel, by decide +kernel⟩
theorem ok_isStr (F : Fun K "is_string" "is_string" sIsStr f fd) (T : Txt mg) : FnOk P w K mg base CX0 1 f fd ["thing"] spIsStr := by
  refine F.ok scIsStr (fun vs H Q E h => ?_) (fun cdv A outer s H vs Q E hr h => ?_)
  · rcases h with ⟨n, rfl, _⟩ | ⟨n, rfl, _⟩ <;> rfl
  · refine ⟨_, pss_one (ps_ret (pe_isi (T := "str") (by rfl) T.isi (by rfl) T.str (by decide +kernel) (pv 0))), ?_⟩
    rcases h with ⟨n, rfl, q⟩ | ⟨z, rfl, q⟩
    · exact ⟨_, rfl, _, isi_int_str, q⟩
    · exact ⟨_, rfl, _, isi_str, q⟩
theorem scAll : FnScope ["thing", "fits", "member"] ["thing", "fits"] (defScope sAll) := ⟨rfl, rfl, rfl, by decide +kernel, rfl, by decide +kernel, by decide +kernel⟩
theorem ok_all {g : Addr} {gd : FuncData} (F : Fun K "are_all" "are_all" sAll f fd) (T : Txt mg) (G : FnOk P w K mg base CX0 1 g gd ["thing"] spIsInt) (hk : PySem.W.keepIn K (.ref g) = true) (hb : Binds K gd ["thing"] []) : FnOk P w K mg base CX0 2 f fd ["thing", "fits"] (spAll g) := by
  refine F.ok scAll (fun vs H Q E h => ?_) (fun cdv A outer s H vs Q E hr h => ?_)
  · obtain ⟨a, ns, rfl, _⟩ := h
    rfl
  · obtain ⟨a, ns, rfl, hT, hz, q⟩ := h
    refine ⟨_, pss_one (ps_ret (pe_and (pe_isi (T := "tuple") (by rfl) T.isi (by rfl) T.tuple (by decide +kernel) (pv 0)) (pe_one (pe_callB (cr_all rfl) (by rfl) T.all (by decide +kernel) (pa_cons
      (pe_lc (own := [("member", 2)]) (g := gName 2) (tt := tYes) rfl scAll.nd (pi_tup (pv 0)) (blkOk_by (own := [("member", 2)]) (N := ["thing", "fits", "member"]) (sc := defScope sAll) (by decide +kernel)) (fun _ _ _ _ _ => pg_name (i := 2) scAll.nd rfl (Or.inl rfl)) (fun _ _ _ _ _ => pts_nil)
        (fun _ _ _ _ _ => pe_callL (i := 1) (f := g) (dvs := []) (E := E0) G hr rfl (by first | exact Or.inl rfl | exact Or.inr (Or.inl rfl) | exact Or.inr (Or.inr rfl)) hk hb .nil pass0 (pa_cons (pv 2) pa_nil))) pa_nil))))), ?_⟩
    have hST : SqT K H a (ns.map V.int) := SqT.of hT
    refine ⟨_, rfl, _, isi_tup hT, _, rfl, iteT ⟨_, rfl, a, rfl, ⟨_, hST⟩, fun D hD => ?_⟩⟩
    refine lcm_tup (K := K) (a := a) (xs := ns.map V.int) (ns.map fun _ => V.bl true) (by simp) hD hST (by rw [List.length_map, PySem.sizeLine_eq]; exact hz) (fun _ => rfl) (fun i x y H' hx hy _ Q' q' => ?_) ?_
    · rw [List.getElem?_map] at hx hy
      obtain ⟨n, hn, rfl⟩ := Option.map_eq_some_iff.mp hx
      rw [hn] at hy
      cases hy
      exact ⟨rfl, _, rfl, n, rfl, q'⟩
    · refine ⟨D, ns.map fun _ => true, rfl, ?_, ?_⟩
      · rw [List.map_map]
        exact SqL.of upd_same
      · have e : (ns.map fun _ => true).all id = true := by simp
        rw [e]
        exact q _ (Same.new hD)
end
end K14
/-! forms (2), packs: is_leaf, is_data, two, packed -/
namespace K14
open PySem L2
/-! ### two lists side by side -/
inductive A2 {α : Type} (R : V → α → Prop) : List V → List α → Prop
  | nil : A2 R [] []
  | cons {x a xs as} (h : R x a) (t : A2 R xs as) : A2 R (x :: xs) (a :: as)
theorem A2.length {α : Type} {R : V → α → Prop} {xs : List V} {as : List α} (h : A2 R xs as) : xs.length = as.length := by
  induction h with
  | nil => rfl
  | cons _ _ ih => rw [List.length_cons, List.length_cons, ih]
theorem A2.app {α : Type} {R : V → α → Prop} {xs ys : List V} {as bs : List α} (h : A2 R xs as) (k : A2 R ys bs) : A2 R (xs ++ ys) (as ++ bs) := by
  induction h with
  | nil => exact k
  | cons h _ ih => exact .cons h ih
theorem A2.rev {α : Type} {R : V → α → Prop} {xs : List V} {as : List α} (h : A2 R xs as) : A2 R xs.reverse as.reverse := by
  induction h with
  | nil => exact .nil
  | cons h _ ih =>
    rw [List.reverse_cons, List.reverse_cons]
    exact ih.app (.cons h .nil)
theorem A2.mono {α : Type} {R R' : V → α → Prop} (f : ∀ x a, R x a → R' x a) {xs : List V} {as : List α} (h : A2 R xs as) : A2 R' xs as := by
  induction h with
  | nil => exact .nil
  | cons h _ ih => exact .cons (f _ _ h) ih
theorem RepL.a2 {H : Hp} : ∀ {l : List D} {xs : List V}, RepL H xs l → A2 (Rep H) xs l
  | [], xs, h => by
    have h : xs = [] := h
    rw [h]
    exact .nil
  | d :: r, xs, ⟨x, ys, h1, h2, h3⟩ => by
    rw [h1]
    exact .cons h2 h3.a2
theorem repL_of {H : Hp} {xs : List V} {l : List D} (h : A2 (Rep H) xs l) : RepL H xs l := by
  induction h with
  | nil => rfl
  | cons h _ ih => exact ⟨_, _, rfl, h, ih⟩
theorem yes_it {σ : L2.St} {H : Hp} {A B : Hp → Prop} (h : A H) : tYes σ H fun b H3 => if b = true then A H3 else B H3 := by
  show (if true = true then A H else B H)
  exact iteT h
/-! ### the text -/
abbrev sLeaf : Stmt := top 20
abbrev sData : Stmt := top 21
abbrev sTwo : Stmt := top 22
abbrev sPacked : Stmt := top 23
def spLeaf : Sp := fun vs H Q _ => (∃ n : Int, vs = [.int n] ∧ Q (.bl (decide (0 ≤ n ∧ n ≤ 65535))) H) ∨
  (∃ s : List Nat, vs = [.str ⟨s.toArray⟩] ∧ s.length ≤ 16777216 ∧ (∀ c ∈ s, c ∈ good9) ∧ ∀ H', Same H H' → Q (.bl (decide (s.length ≤ 65535))) H')
section
variable {P : Program} {w : World} {K : PySem.W.Frag} {mg : Str → Option Value} {base : Heap} {f : Addr} {fd : FuncData}
theorem scInts : FnScope ["thing"] ["thing"] (defScope sInts) := ⟨rfl, rfl, rfl, by decide +kernel, rfl, by decide +kernel, by decide +kernel⟩
theorem ok_ints {g : Addr} (F : Fun K "are_integers" "are_integers" sInts f fd) (mI : mg "is_integer" = some (.ref g)) (D1 : Fd P w K mg base CX0 2 "are_all" ["thing", "fits"] (spAll g)) : FnOk P w K mg base CX0 3 f fd ["thing"] spInts := by
  refine F.ok scInts (fun vs H Q E h => ?_) (fun cdv A outer s H vs Q E hr h => ?_)
  · obtain ⟨a, ns, rfl, _⟩ := h
    rfl
  · obtain ⟨a, ns, rfl, hT, hz, q⟩ := h
    refine ⟨_, pss_one (ps_ret (pe_fd D1 hr (by rfl) (pa_cons (pv 0) (pa_cons (pe_glob (v := .ref g) (by rfl) mI rfl) pa_nil)))), ?_⟩
    exact ⟨_, rfl, a, ns, rfl, hT, hz, q⟩
theorem scBytes : FnScope ["thing", "one"] ["thing"] (defScope sBytes) := ⟨rfl, rfl, rfl, by decide +kernel, rfl, by decide +kernel, by decide +kernel⟩
theorem ok_bytes (F : Fun K "are_bytes" "are_bytes" sBytes f fd) (T : Txt mg) (D1 : Fd P w K mg base CX0 3 "are_integers" ["thing"] spInts) : FnOk P w K mg base CX0 4 f fd ["thing"] spBytes := by
  refine F.ok scBytes (fun vs H Q E h => ?_) (fun cdv A outer s H vs Q E hr h => ?_)
  · obtain ⟨a, ns, rfl, _⟩ := h
    rfl
  · obtain ⟨a, ns, rfl, hT, hz, hb, q⟩ := h
    refine ⟨_, pss_one (ps_ret (pe_and (pe_fd D1 hr (by rfl) (pa_cons (pv 0) pa_nil)) (pe_one (pe_callB (cr_all rfl) (by rfl) T.all (by decide +kernel) (pa_cons
      (pe_lc (own := [("one", 1)]) (g := gName 1) (tt := tYes) rfl scBytes.nd (pi_tup (pv 0)) (blkOk_by (own := [("one", 1)]) (N := ["thing", "one"]) (sc := defScope sBytes) (by decide +kernel)) (fun _ _ _ _ _ => pg_name (i := 1) scBytes.nd rfl (Or.inl rfl)) (fun _ _ _ _ _ => pts_nil)
        (fun _ _ _ _ _ => pe_chain op_le op_le pe_int (pv 1) (pe_gi (by rfl) T.cByte))) pa_nil))))), ?_⟩
    refine ⟨_, rfl, a, ns, rfl, hT, hz, fun H1 s1 => ⟨_, rfl, iteT ⟨_, rfl, a, rfl, ⟨_, SqT.of (s1 _ _ hT)⟩, fun D hD => ?_⟩⟩⟩
    refine lcm_tup (K := K) (a := a) (xs := ns.map V.int) (ns.map fun _ => V.bl true) (by simp) hD (SqT.of (s1 _ _ hT)) (by rw [List.length_map, PySem.sizeLine_eq]; exact hz) (fun _ => rfl) (fun i x y H' hx hy _ Q' q' => ?_) ?_
    · rw [List.getElem?_map] at hx hy
      obtain ⟨n, hn, rfl⟩ := Option.map_eq_some_iff.mp hx
      rw [hn] at hy
      cases hy
      obtain ⟨h0, h1⟩ := hb n (List.mem_of_getElem? hn)
      refine ⟨_, rfl, _, _, rfl, rfl, _, rfl, ?_⟩
      rw [decide_eq_true h0]
      refine iteT ⟨_, _, rfl, rfl, ?_⟩
      show Q' (.bl (decide (n ≤ 255))) H'
      rw [decide_eq_true h1]
      exact q'
    · refine ⟨D, ns.map fun _ => true, rfl, ?_, ?_⟩
      · rw [List.map_map]
        exact SqL.of upd_same
      · have e : (ns.map fun _ => true).all id = true := by simp
        rw [e]
        exact q _ (s1.trans (Same.new hD))
theorem scLeaf : FnScope ["thing", "sign"] ["thing"] (defScope sLeaf) := ⟨rfl, rfl, rfl, by decide +kernel, rfl, by decide +kernel, by decide +kernel⟩
theorem good_sgs : ∀ c ∈ good9, c ∈ sgs := by decide +kernel
theorem ok_leaf (F : Fun K "is_leaf" "is_leaf" sLeaf f fd) (T : Txt mg) (D1 : Fd P w K mg base CX0 1 "is_string" ["thing"] spIsStr) (D2 : Fd P w K mg base CX0 2 "is_within" ["thing", "least", "most"] spWithin) : FnOk P w K mg base CX0 3 f fd ["thing"] spLeaf := by
  refine F.ok scLeaf (fun vs H Q E h => ?_) (fun cdv A outer s H vs Q E hr h => ?_)
  · rcases h with ⟨n, rfl, _⟩ | ⟨n, rfl, _⟩ <;> rfl
  · refine ⟨_, pss_cons (ps_if (pt_val (pe_fd D1 (hr.mono (by decide)) (by rfl) (pa_cons (pv 0) pa_nil)))
        (pss_one (ps_ret (pe_and (pe_cmpR op_le (pe_callB call_len_str (by rfl) T.len PySem.boot_len (pa_cons (pv 0) pa_nil)) (pe_gi (by rfl) T.cMost) (nomark _)) (pe_one (pe_callB (cr_all rfl) (by rfl) T.all (by decide +kernel) (pa_cons
          (pe_lc (own := [("sign", 1)]) (g := gName 1) (tt := tYes) rfl scLeaf.nd (pi_str (pv 0)) (blkOk_by (own := [("sign", 1)]) (N := ["thing", "sign"]) (sc := defScope sLeaf) (by decide +kernel)) (fun _ _ _ _ _ => pg_name (i := 1) scLeaf.nd rfl (Or.inl rfl)) (fun _ _ _ _ _ => pts_nil)
            (fun _ _ _ _ _ => pe_cmpR op_in_sign (pv 1) (pe_gs (by rfl) T.cSigns) rfl)) pa_nil))))))
        pss_nil) (pss_one (ps_ret (pe_fd D2 hr (by rfl) (pa_cons (pv 0) (pa_cons pe_int (pa_cons (pe_gi (by rfl) T.cMost) pa_nil)))))), ?_⟩
    rcases h with ⟨n, rfl, q⟩ | ⟨z, rfl, hz, hg, q⟩
    · exact ⟨_, rfl, .inl ⟨n, rfl, _, rfl, iteF ⟨_, rfl, n, _, _, rfl, q⟩⟩⟩
    · have hl : (⟨z.toArray⟩ : Str).length = z.length := by show z.toArray.size = _; simp
      refine ⟨_, rfl, .inr ⟨_, rfl, _, rfl, iteT ⟨_, rfl, _, rfl, by rw [PySem.sizeLine_eq, hl]; exact hz, _, _, rfl, rfl, _, rfl, ?_⟩⟩⟩
      have e1 : ((⟨z.toArray⟩ : Str).length : Int) ≤ 65535 ↔ z.length ≤ 65535 := by rw [hl]; omega
      by_cases h1 : z.length ≤ 65535
      · rw [decide_eq_true (e1.mpr h1)]
        refine iteT ⟨_, rfl, _, rfl, fun D hD => ?_⟩
        refine lcm_str (z := ⟨z.toArray⟩) (z.map fun _ => V.bl true) (by simp) hD (by show z.toArray.size ≤ _; rw [PySem.sizeLine_eq]; simpa using hz) (fun _ => rfl) (fun i c y H' hx hy _ Q' q' => ?_) ?_
        · have hx : z[i]? = some c := by simpa using hx
          rw [List.getElem?_map, hx] at hy
          cases hy
          have hc : c ∈ sgs := good_sgs c (hg c (List.mem_of_getElem? hx))
          refine ⟨_, rfl, c, sgS, rfl, rfl, ?_⟩
          have e : decide (c ∈ sgS.cps.toList) = true := decide_eq_true hc
          rw [e]
          exact q'
        · refine ⟨D, z.map fun _ => true, rfl, ?_, ?_⟩
          · rw [List.map_map]
            exact SqL.of upd_same
          · have e : (z.map fun _ => true).all id = true := by simp
            rw [e]
            rw [decide_eq_true h1] at q
            exact q _ (Same.new hD)
      · rw [decide_eq_false (fun h => h1 (e1.mp h))]
        rw [decide_eq_false h1] at q
        exact iteF (q _ (Same.refl _))
/-! ### two -/
def spTwo : Sp := fun vs H Q _ => ∃ n : Nat, vs = [.int (n : Int)] ∧ ∀ p, H p = none → Q (.ref p) (upd H p (.lst ((two n).map V.int)))
theorem scTwo : FnScope ["number"] ["number"] (defScope sTwo) := ⟨rfl, rfl, rfl, by decide +kernel, rfl, by decide +kernel, by decide +kernel⟩
theorem ok_two (F : Fun K "two" "two" sTwo f fd) (T : Txt mg) : FnOk P w K mg base CX0 1 f fd ["number"] spTwo := by
  refine F.ok scTwo (fun vs H Q E h => ?_) (fun cdv A outer s H vs Q E hr h => ?_)
  · obtain ⟨n, rfl, _⟩ := h
    rfl
  · obtain ⟨n, rfl, q⟩ := h
    refine ⟨_, pss_one (ps_ret (pe_lst (pa_cons (pe_op op_fdiv (pv 0) (pe_gi (by rfl) T.cBase)) (pa_cons (pe_op op_mod (pv 0) (pe_gi (by rfl) T.cBase)) pa_nil)))), ?_⟩
    refine ⟨_, rfl, _, _, rfl, rfl, ⟨by decide, by decide⟩, _, rfl, _, _, rfl, rfl, by show (0 : Int) < 256; decide, by show 2 ≤ sizeLine; decide, fun p hp => ?_⟩
    have e : [V.int ((n : Int) / 256), V.int ((n : Int) % 256)] = (two n).map V.int := by
      unfold two
      simp
    show Q (.ref p) (upd H p (.lst [V.int ((n : Int) / 256), V.int ((n : Int) % 256)]))
    rw [e]
    exact q p hp
/-! ### is_data -/
def Pr (H0 H : Hp) (x : V) (p : D × Nat) : Prop := ∃ t v, x = .ref t ∧ H t = some (.tup [v, .int ((p.2 : Nat) : Int)]) ∧ Rep H0 v p.1
theorem Pr.same {H0 H H' : Hp} (e : Same H H') (x : V) (p : D × Nat) (h : Pr H0 H x p) : Pr H0 H' x p := by
  obtain ⟨t, v, h1, h2, h3⟩ := h
  exact ⟨t, v, h1, e _ _ h2, h3⟩
theorem Pr.put {H0 H : Hp} {l : Addr} {zs : List V} {o : HO} (e : H l = some (.lst zs)) (x : V) (p : D × Nat) (h : Pr H0 H x p) : Pr H0 (upd H l o) x p := by
  obtain ⟨t, v, h1, h2, h3⟩ := h
  refine ⟨t, v, h1, ?_, h3⟩
  rw [upd_ne (fun z => by rw [z, e] at h2; cases h2)]
  exact h2
def okA (L : List (D × Nat)) : Bool := L.all fun p => okD p.2 p.1
def szA (L : List (D × Nat)) : Nat := (L.map fun p => sz p.1).sum
theorem szA_app (L M : List (D × Nat)) : szA (L ++ M) = szA L + szA M := by
  simp [szA]
theorem szA_rev (L : List (D × Nat)) : szA L.reverse = szA L := by
  simp [szA]
theorem okA_app (L M : List (D × Nat)) : okA (L ++ M) = (okA L && okA M) := by
  simp [okA]
theorem okA_rev (L : List (D × Nat)) : okA L.reverse = okA L := by
  simp [okA]
theorem len_szA : ∀ L : List (D × Nat), L.length ≤ szA L
  | [] => Nat.le_refl _
  | p :: r => by
    have h1 := len_szA r
    have h2 := sz_pos p.1
    have h3 : szA (p :: r) = sz p.1 + szA r := by simp [szA]
    rw [h3, List.length_cons]
    omega
theorem szA_map (k : Nat) : ∀ l : List D, szA (l.map fun d => (d, k)) = szL l
  | [] => rfl
  | d :: r => by
    have := szA_map k r
    simp only [szA, List.map_cons, List.sum_cons, szL] at this ⊢
    omega
theorem okA_map (k : Nat) (l : List D) : okA (l.map fun d => (d, k)) = okL k l := by
  rw [okL_all, okA, List.all_map]
  rfl
def spData : Sp := fun vs H Q _ => ∃ (v : V) (d : D), vs = [v] ∧ Rep H v d ∧ fit d = true ∧ sz d ≤ 1000000 ∧ ∀ H', Same H H' → Q (.bl (okD 0 d)) H'
theorem scData : FnScope ["thing", "line", "here", "deep", "one"] ["thing"] (defScope sData) := ⟨rfl, rfl, rfl, by decide +kernel, rfl, by decide +kernel, by decide +kernel⟩
theorem ok_data (F : Fun K "is_data" "is_data" sData f fd) (T : Txt mg) (D1 : Fd P w K mg base CX0 3 "is_leaf" ["thing"] spLeaf) : FnOk P w K mg base CX0 4 f fd ["thing"] spData := by
  refine F.ok scData (fun vs H Q E h => ?_) (fun cdv A outer s H vs Q E hr h => ?_)
  · obtain ⟨v, d, rfl, _⟩ := h
    rfl
  · obtain ⟨v0, d0, rfl, hR, hf, hs, q⟩ := h
    refine ⟨_, pss_cons (ps_set (i := 1) scData.nd rfl (Or.inl rfl) (pe_lst (pa_cons (pe_tup (pa_cons (pv 0) (pa_cons pe_int pa_nil))) pa_nil)))
      (pss_cons (ps_while PassesOwn.never (pt_truth (pv 1) (by intro _; rfl))
        (pss_cons (ps_asg (pe_bm0 PySem.F.plainAttrs_list PySem.F.slot_list_pop PySem.F.type_list_pop mt_pop (pv 1)) (pg_tup (by rfl) (pgs_cons (pg_name (i := 2) scData.nd rfl (Or.inl rfl)) (pgs_cons (pg_name (i := 3) scData.nd rfl (Or.inr rfl)) pgs_nil))))
        (pss_one (ps_if (pt_val (pe_isi (T := "tuple") (by rfl) T.isi (by rfl) T.tuple (by decide +kernel) (pv 2)))
          (pss_cons (ps_if (PW.pt (pw_or (pt_cmpR op_ge (pv 3) (pe_gi (by rfl) T.cDeep) (nomark _)) (pw_or1 (pt_cmpR op_gt (pe_callB call_len_seq (by rfl) T.len PySem.boot_len (pa_cons (pv 2) pa_nil)) (pe_gi (by rfl) T.cMost) (nomark _))))) (pss_one (ps_ret pe_bl)) pss_nil)
            (pss_one (ps_expr (pe_bm PySem.F.plainAttrs_list PySem.F.slot_list_extend PySem.F.type_list_extend mt_extend (pv 1) (pa_cons
              (pe_lc (own := [("one", 4)]) (g := gName 4) (tt := tYes) rfl scData.nd (pi_tup (pv 2)) (blkOk_by (own := [("one", 4)]) (N := ["thing", "line", "here", "deep", "one"]) (sc := defScope sData) (by decide +kernel)) (fun _ _ _ _ _ => pg_name (i := 4) scData.nd rfl (Or.inl rfl)) (fun _ _ _ _ _ => pts_nil)
                (fun _ _ _ _ _ => pe_tup (pa_cons (pv 4) (pa_cons (pe_op op_add (pv 3) pe_int) pa_nil)))) pa_nil)))))
          (pss_one (ps_if (pt_not (pt_val (pe_fd D1 hr (by rfl) (pa_cons (pv 2) pa_nil)))) (pss_one (ps_ret pe_bl)) pss_nil))))))
      (pss_one (ps_ret pe_bl))), ?_⟩
    refine ⟨_, rfl, by show 2 ≤ sizeLine; decide, fun t ht => ⟨by show 1 ≤ sizeLine; decide, fun l hl => ?_⟩⟩
    have hl0 : H l = none := (Same.new ht).free hl
    have htl : t ≠ l := ne_of_none upd_same hl
    let W : Nat → L2.St → Hp → Prop := fun m σ H' => ∃ (L : List (D × Nat)) (ys : List V) (vh vd : Option V), m = szA L ∧ σ = [some v0, some (.ref l), vh, vd, none] ∧ H' l = some (.lst ys.reverse) ∧ A2 (Pr H H') ys L ∧ Same H H' ∧ (∀ p ∈ L, fit p.1 = true) ∧ okA L = okD 0 d0 ∧ szA L ≤ 1000000
    refine ⟨W, ⟨sz d0, [(d0, 0)], [.ref t], none, none, by simp [szA], rfl, upd_same, .cons ⟨t, v0, rfl, ?_, ?_⟩ .nil, (Same.new ht).trans (Same.new hl), ?_, by simp [okA], by simpa [szA] using hs⟩, ?_⟩
    · rw [upd_ne htl, upd_same]
      rfl
    · exact hR
    · intro p hp
      have : p = (d0, 0) := by simpa using hp
      rw [this]
      exact hf
    · rintro m σ H' ⟨L, ys, vh, vd, rfl, rfl, hL, hA, hS, hF, hO, hZ⟩
      refine ⟨_, rfl, _, .inl ⟨ys.reverse, SqL.of hL, rfl⟩, ?_⟩
      cases hA with
      | nil =>
        refine iteF ?_
        have e : okD 0 d0 = true := by rw [← hO]; rfl
        rw [e] at q
        exact q _ hS
      | @cons x p ys L hx hA =>
        obtain ⟨d, k⟩ := p
        obtain ⟨tt, v, rfl, hT, hv⟩ := hx
        have hk : szA ((d, k) :: L) = sz d + szA L := by simp [szA]
        have hfd : fit d = true := hF (d, k) List.mem_cons_self
        have hFL : ∀ p ∈ L, fit p.1 = true := fun p hp => hF p (List.mem_cons_of_mem _ hp)
        have hOc : okA ((d, k) :: L) = (okD k d && okA L) := by simp [okA]
        have hb : (!((V.ref tt :: ys).reverse).isEmpty) = true := by simp
        rw [hb]
        refine iteT ⟨fun σ' H' => ∃ m', m' < szA ((d, k) :: L) ∧ W m' σ' H', fun _ _ h => h, ?_⟩
        have hlen : (V.ref tt :: ys).reverse[(V.ref tt :: ys).reverse.length - 1]? = some (V.ref tt) := by simp
        have ttl : tt ≠ l := fun z => by
          rw [z, hL] at hT
          cases hT
        refine ⟨_, rfl, .inl ⟨rfl, _, SqL.of hL⟩, l, _, _, rfl, rfl, hL, hlen, ?_⟩
        have hdl : (V.ref tt :: ys).reverse.dropLast = ys.reverse := by simp
        rw [hdl]
        have hA2 : A2 (Pr H (upd H' l (.lst ys.reverse))) ys L := hA.mono (Pr.put hL)
        have hS2 : Same H (upd H' l (.lst ys.reverse)) := hS.put hl0
        have hT2 : (upd H' l (.lst ys.reverse)) tt = some (.tup [v, .int ((k : Nat) : Int)]) := by
          rw [upd_ne ttl]
          exact hT
        have hno : okD k d = false → ∀ H', Same H H' → Q (.bl false) H' := fun e H' hs' => by
          have e2 : okD 0 d0 = false := by rw [← hO, hOc, e]; rfl
          rw [e2] at q
          exact q _ hs'
        refine ⟨tt, _, rfl, SqT.of hT2, rfl, _, _, rfl, _, _, rfl, rfl, ?_⟩
        have hle : okD k d = true → W (szA L) [some v0, some (.ref l), some v, some (.int ((k : Nat) : Int)), none] (upd H' l (.lst ys.reverse)) := fun e =>
          ⟨L, ys, _, _, rfl, rfl, upd_same, hA2, hS2, hFL, by rw [← hO, hOc, e]; rfl, by omega⟩
        have hpos := sz_pos d
        cases d with
        | int n =>
          have hv : v = .int n := hv
          subst hv
          refine ⟨_, rfl, _, isi_int_tup, _, rfl, iteF ⟨_, rfl, .inl ⟨n, rfl, _, rfl, ?_⟩⟩⟩
          have e : okD k (.int n) = decide (0 ≤ n ∧ n ≤ 65535) := by rw [okD]; simp
          by_cases c : 0 ≤ n ∧ n ≤ 65535
          · rw [decide_eq_true c]
            refine iteF ⟨_, ?_, hle (by rw [e]; exact decide_eq_true c)⟩
            omega
          · rw [decide_eq_false c]
            exact iteT (hno (by rw [e]; exact decide_eq_false c) _ hS2)
        | str z =>
          have hv : v = .str ⟨z.toArray⟩ := hv
          subst hv
          have hz : z.length ≤ 16777216 := by
            simp only [sz] at hk
            omega
          have hg : ∀ c ∈ z, c ∈ good9 := fun c hc => by
            rw [fit, List.all_eq_true] at hfd
            exact of_decide_eq_true (hfd c hc)
          refine ⟨_, rfl, _, isi_str_tup, _, rfl, iteF ⟨_, rfl, .inr ⟨z, rfl, hz, hg, fun H3 s3 => ⟨_, rfl, ?_⟩⟩⟩⟩
          have e : okD k (.str z) = decide (z.length ≤ 65535) := by rw [okD]
          by_cases c : z.length ≤ 65535
          · rw [decide_eq_true c]
            refine iteF ⟨szA L, ?_, L, ys, _, _, rfl, rfl, s3 _ _ upd_same, hA2.mono (Pr.same s3), hS2.trans s3, hFL, by rw [← hO, hOc, e, decide_eq_true c]; rfl, by omega⟩
            omega
          · rw [decide_eq_false c]
            exact iteT (hno (by rw [e]; exact decide_eq_false c) _ (hS2.trans s3))
        | lst z =>
          rw [fit] at hfd
          cases hfd
        | tup cs =>
          obtain ⟨a, xs, rfl, ha, hx⟩ := hv
          have ha2 := hS2 _ _ ha
          have hxl := hx.length
          have hcl := len_szL cs
          have hsz : sz (.tup cs) = 1 + szL cs := by rw [sz]
          have hal : a ≠ l := fun z => by
            rw [z, hl0] at ha
            cases ha
          have e : okD k (.tup cs) = (decide (k < 20) && decide (cs.length ≤ 65535) && okL (k + 1) cs) := by rw [okD]
          refine ⟨_, rfl, _, isi_tup ha2, _, rfl, iteT ⟨_, rfl, _, _, rfl, rfl, _, rfl, ?_⟩⟩
          by_cases c1 : (20 : Int) ≤ ((k : Nat) : Int)
          · rw [decide_eq_true c1]
            refine iteT (hno ?_ _ hS2)
            rw [e, decide_eq_false (by omega)]
            rfl
          rw [decide_eq_false c1]
          refine iteF ⟨_, rfl, _, _, rfl, .inr (SqT.of ha2), _, _, rfl, rfl, _, rfl, ?_⟩
          by_cases c2 : (65535 : Int) < ((xs.length : Nat) : Int)
          · rw [decide_eq_true c2]
            refine iteT (hno ?_ _ hS2)
            have : decide (cs.length ≤ 65535) = false := decide_eq_false (by omega)
            rw [e, this, Bool.and_false]
            rfl
          rw [decide_eq_false c2]
          have ek : okD k (.tup cs) = okL (k + 1) cs := by
            have h1 : decide (k < 20) = true := decide_eq_true (by omega)
            have h2 : decide (cs.length ≤ 65535) = true := decide_eq_true (by omega)
            rw [e, h1, h2]
            rfl
          refine iteF ⟨_, rfl, .inl ⟨rfl, _, SqL.of upd_same⟩, _, rfl, a, rfl, ⟨_, SqT.of ha2⟩, fun D hD => ?_⟩
          have hsD : Same (upd H' l (.lst ys.reverse)) (upd (upd H' l (.lst ys.reverse)) D (.lst [])) := Same.new hD
          refine lc_tup (K := K) (a := a) (xs := xs) (fun i H3 => Same (upd H' l (.lst ys.reverse)) H3 ∧ ∃ ts, H3 D = some (.lst ts) ∧ A2 (Pr H H3) ts ((cs.take i).map fun d => (d, k + 1))) ⟨hsD, [], upd_same, .nil⟩ (fun i H3 _ h3 => SqT.of (h3.1 _ _ ha2)) ?_ ?_
          · rintro i x H3 hi ⟨s3, ts, hts, hA3⟩
            obtain ⟨d, hd, hxd⟩ := hx.at hi
            have hil := (List.getElem?_eq_some_iff.mp hi).1
            have htl3 := hA3.length
            rw [List.length_map, List.length_take] at htl3
            refine ⟨rfl, yes_it ?_⟩
            refine ⟨_, rfl, _, rfl, _, _, rfl, rfl, by show 2 ≤ sizeLine; decide, fun p hp => ⟨ts, ?_, ?_, ?_, _, upd_same, ?_⟩⟩
            · rw [upd_ne (ne_of_none hts hp)]
              exact hts
            · rw [PySem.sizeLine_eq]
              omega
            · exact fun b o eb => by
                have hbD : b ≠ D := ne_of_none eb hD
                rw [upd_ne hbD, upd_ne (ne_of_none (s3 _ _ eb) hp)]
                exact s3 _ _ eb
            · rw [take_snoc hd, List.map_append]
              have hpD : p ≠ D := fun z => by
                rw [z, hts] at hp
                cases hp
              refine A2.app (hA3.mono fun y b hy => ?_) (.cons ⟨p, x, rfl, ?_, hxd⟩ .nil)
              · refine Pr.put (zs := ts) ?_ y b (Pr.same (Same.new hp) y b hy)
                rw [upd_ne (ne_of_none hts hp)]
                exact hts
              · rw [upd_ne hpD, upd_same]
                show some (HO.tup [x, V.int (((k : Nat) : Int) + 1)]) = some (HO.tup [x, V.int (((k + 1 : Nat)) : Int)])
                rw [Int.natCast_succ]
          · rintro H3 ⟨s3, ts, hts, hA3⟩
            have hDl : D ≠ l := fun z => by
              rw [z, upd_same] at hD
              cases hD
            have htl3 := hA3.length
            rw [hxl, List.take_length] at hA3
            rw [List.length_map, List.length_take] at htl3
            have hl3 : H3 l = some (.lst ys.reverse) := s3 _ _ upd_same
            have hyl := hA2.length
            have hLz := len_szA L
            refine ⟨l, D, _, _, rfl, rfl, hl3, hts, by rw [PySem.sizeLine_eq, List.length_reverse]; omega, ?_⟩
            have ey : ys.reverse ++ ts = (ts.reverse ++ ys).reverse := by simp
            rw [ey]
            refine ⟨szA (((cs.map fun d => (d, k + 1)).reverse) ++ L), ?_, ((cs.map fun d => (d, k + 1)).reverse) ++ L, _, _, _, rfl, rfl, upd_same, ?_, ?_, ?_, ?_, ?_⟩
            · rw [szA_app, szA_rev, szA_map]
              omega
            · exact (hA3.rev.app (hA2.mono (Pr.same s3))).mono (Pr.put hl3)
            · exact (hS2.trans s3).put hl0
            · intro p hp
              rcases List.mem_append.mp hp with hp | hp
              · obtain ⟨d, hd, rfl⟩ := List.mem_map.mp (List.mem_reverse.mp hp)
                rw [fit, fitL_all, List.all_eq_true] at hfd
                exact hfd d hd
              · exact hFL p hp
            · rw [okA_app, okA_rev, okA_map, ← ek, ← hO, hOc]
            · rw [szA_app, szA_rev, szA_map]
              omega
end
end K14
/-! packed -/
namespace K14
open PySem L2
mutual
theorem enc_len : ∀ d : D, (enc d).length ≤ 3 * sz d
  | .int n => by simp [enc, two, sz]
  | .str s => by simp [enc, two, sz]; omega
  | .tup l => by
    have := encL_len l
    simp [enc, two, sz]
    omega
  | .lst l => by simp [enc]
theorem encL_len : ∀ l : List D, (encL l).length ≤ 3 * szL l
  | [] => by simp [encL]
  | d :: r => by
    have h1 := enc_len d
    have h2 := encL_len r
    simp [encL, szL]
    omega
end
theorem occ_all : (good9.all fun c => decide (Builtin.Str.occurrences sgS ⟨#[c]⟩ 0 sgS.length 1 = [sx c])) = true := by decide +kernel
theorem occ_at {c : Nat} (h : c ∈ good9) : Builtin.Str.occurrences sgS ⟨#[c]⟩ 0 sgS.length 1 = [sx c] := by
  have := occ_all
  rw [List.all_eq_true] at this
  exact of_decide_eq_true (this c h)
/-- the fields of the two own errors -/
def fsR : List V → List (Str × V)
  | [v] => [("why", v)]
  | _ => []
def fsB : List V → List (Str × V)
  | [a, b] => [("fault", b), ("at", a)]
  | _ => []
/-- what is told of the errors' classes -/
structure Errs (P : Program) (w : World) (K : PySem.W.Frag) (mg : Str → Option Value) (CR CB : Addr) : Prop where
  sup : mg "super" = none
  gR : mg "Refused" = some (.ref CR)
  gB : mg "BadBytes" = some (.ref CB)
  mR : Makes P w K mg CR 1 fsR
  mB : Makes P w K mg CB 2 fsB
def spPacked (CR : Addr) : Sp := fun vs H Q E => ∃ (v : V) (d : D), vs = [v] ∧ Rep H v d ∧ fit d = true ∧ sz d ≤ 1000000 ∧
  (okD 0 d = true → ∀ p H', Same H H' → H p = none → H' p = some (.tup ((enc d).map V.int)) → Q (.ref p) H') ∧
  (okD 0 d = false → ∀ e H', Same H H' → H e = none → H' e = some (.xd [("why", .str "data")]) → E (.ref CR) (some e) H')
section
variable {P : Program} {w : World} {K : PySem.W.Frag} {mg : Str → Option Value} {base : Heap} {f : Addr} {fd : FuncData}
theorem scPacked : FnScope ["thing", "found", "line", "here", "sign"] ["thing"] (defScope sPacked) := ⟨rfl, rfl, rfl, by decide +kernel, rfl, by decide +kernel, by decide +kernel⟩
theorem ok_packed {CR CB : Addr} (F : Fun K "packed" "packed" sPacked f fd) (T : Txt mg) (X : Errs P w K mg CR CB) (D1 : Fd P w K mg base CX0 4 "is_data" ["thing"] spData) (D2 : Fd P w K mg base CX0 1 "two" ["number"] spTwo) (D3 : Fd P w K mg base CX0 1 "is_string" ["thing"] spIsStr) :
    FnOk P w K mg base (L2.CX P w) 5 f fd ["thing"] (spPacked CR) := by
  refine F.okX scPacked (fun vs H Q E h => ?_) (fun cdv A outer s H vs Q E hr h => ?_)
  · obtain ⟨v, d, rfl, _⟩ := h
    rfl
  · obtain ⟨v0, d0, rfl, hR, hf, hs, q1, q2⟩ := h
    have hr1 : Room 1 _ := hr.mono (by decide)
    refine ⟨_, pss_cons (ps_if (pt_not (pt_val (pe_fd D1 hr (by rfl) (pa_cons (pv 0) pa_nil)))) (pss_one (ps_raise rfl (takes_of rfl rfl rfl rfl) (pmk_err X.mR hr X.sup X.gR (pa_cons pe_str pa_nil)))) pss_nil)
      (PSs.nox (pss_cons (ps_par (i := 1) (j := 2) (by rfl) scPacked.nd rfl rfl (by decide) rfl rfl (pa_cons (pe_lst pa_nil) (pa_cons (pe_lst (pa_cons (pv 0) pa_nil)) pa_nil)) (by rfl))
        (pss_cons (ps_while PassesOwn.never (pt_truth (pv 2) (by intro _; rfl))
          (pss_cons (ps_set (i := 3) scPacked.nd rfl (Or.inl rfl) (pe_bm0 PySem.F.plainAttrs_list PySem.F.slot_list_pop PySem.F.type_list_pop mt_pop (pv 2)))
          (pss_one (ps_if (pt_val (pe_isi (T := "tuple") (by rfl) T.isi (by rfl) T.tuple (by decide +kernel) (pv 3)))
            (pss_cons (ps_expr (pe_bm PySem.F.plainAttrs_list PySem.F.slot_list_extend PySem.F.type_list_extend mt_extend (pv 1) (pa_cons (pe_lst (pa_cons (pe_gi (by rfl) T.cTuple) (StX.pa_star (pe_fd D2 hr1 (by rfl) (pa_cons (pe_callB call_len_seq (by rfl) T.len PySem.boot_len (pa_cons (pv 3) pa_nil)) pa_nil)) pa_nil))) pa_nil)))
              (pss_one (ps_expr (pe_bm PySem.F.plainAttrs_list PySem.F.slot_list_extend PySem.F.type_list_extend mt_extendT (pv 2) (pa_cons (pe_revT (pv 3)) pa_nil)))))
            (pss_one (ps_if (pt_val (pe_fd D3 hr1 (by rfl) (pa_cons (pv 3) pa_nil)))
              (pss_one (ps_expr (pe_bm PySem.F.plainAttrs_list PySem.F.slot_list_extend PySem.F.type_list_extend mt_extend (pv 1) (pa_cons (pe_lst (pa_cons (pe_gi (by rfl) T.cString)
                (StX.pa_star (pe_fd D2 hr1 (by rfl) (pa_cons (pe_callB call_len_str (by rfl) T.len PySem.boot_len (pa_cons (pv 3) pa_nil)) pa_nil))
                (StX.pa_star (pe_lc (own := [("sign", 4)]) (g := gName 4) (tt := tYes) rfl scPacked.nd (pi_str (pv 3)) (blkOk_by (own := [("sign", 4)]) (N := ["thing", "found", "line", "here", "sign"]) (sc := defScope sPacked) (by decide +kernel)) (fun _ _ _ _ _ => pg_name (i := 4) scPacked.nd rfl (Or.inl rfl)) (fun _ _ _ _ _ => pts_nil)
                  (fun _ _ _ _ _ => pe_m1 PySem.F.slot_str_index PySem.F.type_str_index mt_sindex (pe_gs (by rfl) T.cSigns) (pv 4))) pa_nil)))) pa_nil))))
              (pss_one (ps_expr (pe_bm PySem.F.plainAttrs_list PySem.F.slot_list_extend PySem.F.type_list_extend mt_extend (pv 1) (pa_cons (pe_lst (pa_cons (pe_gi (by rfl) T.cNumber) (StX.pa_star (pe_fd D2 hr1 (by rfl) (pa_cons (pv 3) pa_nil)) pa_nil))) pa_nil))))))))))
        (pss_one (ps_ret (pe_callTy call_tuple_of (by rfl) T.tuple (by decide +kernel) (pa_cons (pv 1) pa_nil))))))), ?_⟩
    refine ⟨_, rfl, v0, d0, rfl, hR, hf, hs, fun H1 s1 => ⟨_, rfl, ?_⟩⟩
    cases ho : okD 0 d0 with
    | false =>
      refine iteT ⟨rfl, fun e he => ?_⟩
      exact q2 ho e _ (s1.trans (Same.new he)) (s1.free he) upd_same
    | true =>
      refine iteF ⟨Nat.zero_le _, fun fo hfo => ⟨_, rfl, by show 1 ≤ sizeLine; decide, fun l hl => ⟨_, _, rfl, ?_⟩⟩⟩
      have hs2 : Same H1 (upd (upd H1 fo (.lst [])) l (.lst [v0])) := (Same.new hfo).trans (Same.new hl)
      have hfo0 : H fo = none := s1.free hfo
      have hl0 : H l = none := s1.free ((Same.new hfo).free hl)
      have hfl : fo ≠ l := ne_of_none upd_same hl
      let W : Nat → L2.St → Hp → Prop := fun m σ H' => ∃ (L : List D) (ys : List V) (fs : List Int) (vh : Option V), m = szL L ∧ σ = [some v0, some (.ref fo), some (.ref l), vh, none] ∧ H' fo = some (.lst (fs.map V.int)) ∧ H' l = some (.lst ys.reverse) ∧ RepL H ys L ∧ Same H H' ∧ fs ++ encL L = enc d0 ∧ fitL L = true ∧ szL L ≤ 1000000
      have hlenf : ∀ (fs : List Int) (L : List D), fs ++ encL L = enc d0 → fs.length + (encL L).length ≤ 3000000 := fun fs L e => by
        have h1 := enc_len d0
        have h2 : (fs ++ encL L).length = (enc d0).length := by rw [e]
        rw [List.length_append] at h2
        omega
      refine ⟨W, ⟨szL [d0], [d0], [v0], [], none, rfl, rfl, ?_, upd_same, ⟨v0, [], rfl, hR, rfl⟩, s1.trans hs2, by simp [encL], by simp [fitL, hf], by simpa [szL] using hs⟩, ?_⟩
      · rw [upd_ne hfl, upd_same]
        rfl
      · rintro m σ H' ⟨L, ys, fs, vh, rfl, rfl, hF, hL, hA, hS, hE, hFit, hZ⟩
        refine ⟨_, rfl, _, .inl ⟨ys.reverse, SqL.of hL, rfl⟩, ?_⟩
        cases L with
        | nil =>
          have hy : ys = [] := hA
          subst hy
          refine iteF ⟨_, rfl, fo, _, rfl, .inl ⟨SqL.of hF, fun p hp => ?_⟩⟩
          have e2 : fs = enc d0 := by simpa [encL] using hE
          refine q1 ho p _ (hS.trans (Same.new hp)) (hS.free hp) ?_
          rw [upd_same, e2]
        | cons d L =>
          obtain ⟨x, ys, rfl, hx, hA⟩ := hA
          have hb : (!((x :: ys).reverse).isEmpty) = true := by simp
          rw [hb]
          have hk : szL (d :: L) = sz d + szL L := by rw [szL]
          rw [fitL, Bool.and_eq_true] at hFit
          obtain ⟨hfd, hFL⟩ := hFit
          have hpos := sz_pos d
          refine iteT ⟨fun σ' H' => ∃ m', m' < szL (d :: L) ∧ W m' σ' H', fun _ _ h => h, ?_⟩
          have hlen : (x :: ys).reverse[(x :: ys).reverse.length - 1]? = some x := by simp
          have hdl : (x :: ys).reverse.dropLast = ys.reverse := by simp
          refine ⟨_, rfl, .inl ⟨rfl, _, SqL.of hL⟩, l, _, _, rfl, rfl, hL, hlen, ?_⟩
          rw [hdl]
          have hS2 : Same H (upd H' l (.lst ys.reverse)) := hS.put hl0
          have hF2 : (upd H' l (.lst ys.reverse)) fo = some (.lst (fs.map V.int)) := by
            rw [upd_ne hfl]
            exact hF
          have hLn := hlenf _ _ hE
          have hEc : encL (d :: L) = enc d ++ encL L := by rw [encL]
          have hl2 : (upd H' l (.lst ys.reverse)) l = some (.lst ys.reverse) := upd_same
          have hdl2 : (enc d).length + fs.length ≤ 3000000 := by
            rw [hEc, List.length_append] at hLn
            omega
          have hE2 : (fs ++ enc d) ++ encL L = enc d0 := by rw [List.append_assoc, ← hEc]; exact hE
          have hclose : ∀ (H3 : Hp) (g : List V) (vh : Option V), Same (upd H' l (.lst ys.reverse)) H3 → g = (enc d).map V.int → ∃ m', m' < szL (d :: L) ∧ W m' [some v0, some (.ref fo), some (.ref l), vh, none] (upd H3 fo (.lst (fs.map V.int ++ g))) := fun H3 g vh s3 eg => by
            refine ⟨szL L, by omega, L, ys, fs ++ enc d, vh, rfl, rfl, ?_, ?_, hA, (hS2.trans s3).put hfo0, hE2, hFL, by omega⟩
            · rw [upd_same, List.map_append, eg]
            · rw [upd_ne hfl.symm]
              exact s3 _ _ hl2
          cases d with
          | lst z =>
            rw [fit] at hfd
            cases hfd
          | int n =>
            have hv : x = .int n := hx
            subst hv
            have hn : 0 ≤ n := by rw [fit] at hfd; exact of_decide_eq_true hfd
            refine ⟨_, rfl, _, isi_int_tup, _, rfl, iteF ⟨_, rfl, .inl ⟨n, rfl, _, rfl, iteF ?_⟩⟩⟩
            refine ⟨_, rfl, .inl ⟨rfl, _, SqL.of hF2⟩, _, rfl, n.toNat, by rw [Int.toNat_of_nonneg hn], fun p hp => ⟨p, _, rfl, .inr (SqL.of upd_same), by show 3 ≤ sizeLine; decide, fun b hb => ?_⟩⟩
            have s3 : Same (upd H' l (.lst ys.reverse)) (upd (upd (upd H' l (.lst ys.reverse)) p (.lst ((two n.toNat).map V.int))) b (.lst ([V.int 1] ++ ((two n.toNat).map V.int ++ [])))) := (Same.new hp).trans (Same.new hb)
            refine ⟨fo, b, _, _, rfl, rfl, s3 _ _ hF2, upd_same, ?_, ?_⟩
            · rw [PySem.sizeLine_eq]
              simp [two, enc] at hdl2 ⊢
              omega
            · exact hclose _ _ _ s3 (by simp [enc])
          | str z =>
            have hv : x = .str ⟨z.toArray⟩ := hx
            subst hv
            have hz : z.length ≤ 1000000 := by
              simp only [sz] at hk
              omega
            have hg : ∀ c ∈ z, c ∈ good9 := fun c hc => by
              rw [fit, List.all_eq_true] at hfd
              exact of_decide_eq_true (hfd c hc)
            have hl : (⟨z.toArray⟩ : Str).length = z.length := by show z.toArray.size = _; simp
            refine ⟨_, rfl, _, isi_str_tup, _, rfl, iteF ⟨_, rfl, .inr ⟨_, rfl, _, rfl, iteT ?_⟩⟩⟩
            refine ⟨_, rfl, .inl ⟨rfl, _, SqL.of hF2⟩, _, rfl, _, rfl, by rw [PySem.sizeLine_eq, hl]; omega, z.length, by rw [hl], fun p hp => ⟨p, _, rfl, .inr (SqL.of upd_same), _, rfl, _, rfl, fun D hD => ?_⟩⟩
            refine lcm_str (z := ⟨z.toArray⟩) (z.map fun c => V.int ((sx c : Nat) : Int)) (by simp) hD (by show z.toArray.size ≤ _; rw [PySem.sizeLine_eq]; simp; omega) (fun _ => rfl) (fun i c y H' hx hy _ Q' q' => ?_) ?_
            · have hx : z[i]? = some c := by simpa using hx
              rw [List.getElem?_map, hx] at hy
              cases hy
              exact ⟨⟨_, rfl⟩, _, rfl, sgS, _, sx c, [], rfl, rfl, occ_at (hg c (List.mem_of_getElem? hx)), q'⟩
            · refine ⟨D, _, rfl, .inr (SqL.of upd_same), ?_, fun b hb => ?_⟩
              · rw [PySem.sizeLine_eq]
                simp [two]
                omega
              · have s3 := fun o => ((Same.new (o := .lst ((two z.length).map V.int)) hp).trans (Same.new (o := .lst (z.map fun c => V.int ((sx c : Nat) : Int))) hD)).trans (Same.new (o := o) hb)
                refine ⟨fo, b, _, _, rfl, rfl, s3 _ _ _ hF2, upd_same, ?_, ?_⟩
                · rw [PySem.sizeLine_eq]
                  simp [two, enc] at hdl2 ⊢
                  omega
                · exact hclose _ _ _ (s3 _) (by simp [enc])
          | tup cs =>
            obtain ⟨a, xs, rfl, ha, hx⟩ := hx
            have ha2 := hS2 _ _ ha
            have hxl := hx.length
            have hsz : sz (.tup cs) = 1 + szL cs := by rw [sz]
            have hcl := len_szL cs
            refine ⟨_, rfl, _, isi_tup ha2, _, rfl, iteT ?_⟩
            refine ⟨_, rfl, .inl ⟨rfl, _, SqL.of hF2⟩, _, rfl, _, _, rfl, .inr (SqT.of ha2), xs.length, rfl, fun p hp => ⟨p, _, rfl, .inr (SqL.of upd_same), by show 3 ≤ sizeLine; decide, fun b hb => ?_⟩⟩
            have s3 := fun o => (Same.new (o := .lst ((two xs.length).map V.int)) hp).trans (Same.new (o := o) hb)
            refine ⟨fo, b, _, _, rfl, rfl, s3 _ _ _ hF2, upd_same, ?_, ?_⟩
            · rw [PySem.sizeLine_eq]
              simp [two, enc] at hdl2 ⊢
              omega
            · have hS4 : ∀ o o2, Same H (upd (upd (upd (upd H' l (.lst ys.reverse)) p (.lst ((two xs.length).map V.int))) b o) fo o2) := fun o o2 => (hS2.trans (s3 o)).put hfo0
              have hl4 : ∀ o o2, (upd (upd (upd (upd H' l (.lst ys.reverse)) p (.lst ((two xs.length).map V.int))) b o) fo o2) l = some (.lst ys.reverse) := fun o o2 => by
                rw [upd_ne hfl.symm]
                exact s3 _ _ _ hl2
              refine ⟨_, rfl, .inl ⟨rfl, _, SqL.of (hl4 _ _)⟩, _, rfl, a, xs, rfl, SqT.of (hS4 _ _ _ _ ha), fun p2 hp2 => ?_⟩
              have hlp : l ≠ p2 := ne_of_none (hl4 _ _) hp2
              have hfp : fo ≠ p2 := ne_of_none upd_same hp2
              have hyl := hA.length
              have hLz := len_szL L
              refine ⟨l, p2, _, _, rfl, rfl, by rw [upd_ne hlp]; exact hl4 _ _, SqT.of upd_same, by rw [PySem.sizeLine_eq]; simp; omega, ?_⟩
              have ey : ys.reverse ++ xs.reverse = (xs ++ ys).reverse := by simp
              rw [ey]
              have e3 : enc (.tup cs) = 3 :: (two cs.length ++ encL cs) := by rw [enc]
              refine ⟨szL (cs ++ L), by rw [szL_app]; omega, cs ++ L, xs ++ ys, fs ++ (3 :: two cs.length), _, rfl, rfl, ?_, upd_same, hx.app hA, ((hS4 _ _).trans (Same.new hp2)).put hl0, ?_, ?_, by rw [szL_app]; omega⟩
              · rw [upd_ne hfl, upd_ne hfp, upd_same, hxl]
                simp
              · rw [encL_app, ← hE2, e3]
                simp
              · rw [fitL_all, List.all_append, ← fitL_all, ← fitL_all, hFL, Bool.and_true]
                rw [fit] at hfd
                exact hfd
end
end K14
/-! t == (): a tuple beside the empty one -/
namespace L2
open PySem PySem.Spec PyProof.Rows
section
variable {X : Cx}
def rEqE (K : PySem.W.Frag) : R2 := fun x y H Q => ∃ a b xs, x = .ref a ∧ y = .ref b ∧ SqT K H a xs ∧ SqT K H b [] ∧ Q (.bl xs.isEmpty) H
theorem op_eqE (hu : X.A.units < cLine) : OpR X (compareOp .Eq) (rEqE X.K) := by
  intro pins s σ H x y v u Q I rx ry h
  obtain ⟨a, b, xs, rfl, rfl, ha, hb, q⟩ := h
  cases rx
  cases ry
  obtain ⟨its, r, e, z⟩ := I.tuple ha
  obtain ⟨its2, r2, e2, z2⟩ := I.tuple hb
  cases r2
  show wpAny (model X.prog X.w) X.A (richCompare .Eq (.ref a) (.ref b)) (EP X pins σ Q) X.xe s
  refine PySem.SeqAt.RcAt.tuples (e := fun _ => true) e e2 hu (fun j h1 h2 => absurd h2 (Nat.not_lt_zero _)) X.prog X.w X.xe _ ⟨.bl xs.isEmpty, H, I, ?_, q⟩
  show Value.bool _ = Value.bool _
  congr 1
  cases r with
  | nil => rfl
  | cons _ _ => simp
end
end L2
/-! the Reader -/
namespace L2
open PySem PySem.Spec PyProof.Rows
/-- the method m of the class at C keeps the promise sp -/
structure Md (P : Program) (w : World) (K : PySem.W.Frag) (mg : Str → Option Value) (base : Heap) (CX : CXT) (k : Nat) (C : Addr) (m : Str) (ps : List Str) (sp : Sp) : Prop where
  ex : ∃ (f : Addr) (fd : FuncData), Meth K C m f ∧ Binds K fd ps [] ∧ FnOk P w K mg base CX k f fd ps sp
section
variable {X : Cx} {k : Nat} {C : Addr} {ps : List Str} {sp : Sp} {m : Str} {apos pos : Pos} {o e : Expr} {es : List Expr} {ta : TE} {t : TA} {E : XK} {CX : CXT}
theorem pe_md {pl : Sem Bool} (F : Md X.prog X.w X.K X.mg X.base CX k C m ps sp) (c : Cls X.K C) (hr : Room k X.A) (hx : Passes CX X E) (he : PE X o ta) (ha : PA X (e :: es) t)
    (hst : starEach (e :: es) X.env = (false, eval e X.env) :: starEach es X.env := by rfl) (hpl : (backTo pos (starEach es X.env)).any (·.1) = false := by rfl)
    (ht : eval (.Call (.Attribute o m apos) (e :: es) [] pos) X.env = (do
      let ov ← eval o X.env
      standAt apos.atName
      let (f, first) ← holding [ov] (getMethod ov m pl)
      callWith pos f first (backTo pos (starEach (e :: es) X.env)) (backToKw pos (keywordEach [] X.env))) := by rfl) :
    PE X (.Call (.Attribute o m apos) (e :: es) [] pos) (fun σ H Q => ta σ H fun x H1 => ∃ a dx fs, x = .ref a ∧ H1 a = some (.ins C dx fs) ∧ fs.lookup m = none ∧ t σ H1 fun vs H2 => sp (x :: vs) H2 Q E) := by
  obtain ⟨f, fd, hm, hb, G⟩ := F.ex
  have := pe_meth (pos := pos) (apos := apos) he c hm G hr hb .nil hx ha hst hpl ht
  refine ⟨fun pins s σ H Q I h => this.run pins s σ H Q I ?_⟩
  have e0 : tMeth C m sp [] E ta t σ H Q = (ta σ H fun x H1 => ∃ a dx fs, x = .ref a ∧ H1 a = some (.ins C dx fs) ∧ fs.lookup m = none ∧ t σ H1 fun vs H2 => sp (x :: vs) H2 Q E) := by
    unfold tMeth
    simp only [List.append_nil]
  rw [e0]
  exact h
theorem pe_md0 {pl : Sem Bool} (F : Md X.prog X.w X.K X.mg X.base CX k C m ps sp) (c : Cls X.K C) (hr : Room k X.A) (hx : Passes CX X E) (he : PE X o ta)
    (ht : eval (.Call (.Attribute o m apos) [] [] pos) X.env = (do
      let ov ← eval o X.env
      standAt apos.atName
      let (f, first) ← holding [ov] (getMethod ov m pl)
      callWith pos f first (backTo pos (starEach [] X.env)) (backToKw pos (keywordEach [] X.env))) := by rfl) :
    PE X (.Call (.Attribute o m apos) [] [] pos) (fun σ H Q => ta σ H fun x H1 => ∃ a dx fs, x = .ref a ∧ H1 a = some (.ins C dx fs) ∧ fs.lookup m = none ∧ sp [x] H1 Q E) := by
  obtain ⟨f, fd, hm, hb, G⟩ := F.ex
  exact pe_meth0 (pos := pos) (apos := apos) he c hm G hr hb .nil hx ht
end
end L2
namespace K14
open PySem L2
/-! ### the fields -/
abbrev nB : Str := "its_bytes"
abbrev nA : Str := "its_at"
abbrev nO : Str := "its_open"
theorem nBA : ¬ (nB = nA) := by decide +kernel
theorem nBO : ¬ (nB = nO) := by decide +kernel
theorem nAO : ¬ (nA = nO) := by decide +kernel
def rf (b l : Addr) (a : Nat) : List (Str × V) := [(nB, .ref b), (nA, .int (a : Int)), (nO, .ref l)]
theorem rf_make (b l : Addr) : putF nO (.ref l) (putF nA (.int 0) (putF nB (.ref b) [])) = rf b l 0 := by
  have e1 : putF nB (.ref b) [] = [(nB, V.ref b)] := rfl
  have e2 : putF nA (.int 0) [(nB, V.ref b)] = [(nB, .ref b), (nA, .int 0)] := by
    unfold putF
    rw [if_neg nBA]
    rfl
  have e3 : putF nO (.ref l) [(nB, .ref b), (nA, .int 0)] = [(nB, V.ref b), (nA, .int 0), (nO, .ref l)] := by
    unfold putF
    rw [if_neg nBO]
    unfold putF
    rw [if_neg nAO]
    rfl
  rw [e1, e2, e3]
  rfl
theorem rf_put (b l : Addr) (a : Nat) (i : Nat) : putF nA (.int (i : Int)) (rf b l a) = rf b l i := by
  unfold rf putF
  rw [if_neg nBA]
  unfold putF
  rw [if_pos rfl]
theorem rf_B (b l : Addr) (a : Nat) : (rf b l a).lookup nB = some (.ref b) := by
  unfold rf
  rw [List.lookup_cons_self]
theorem rf_A (b l : Addr) (a : Nat) : (rf b l a).lookup nA = some (.int (a : Int)) := by
  have h : (nA == nB) = false := by decide +kernel
  unfold rf
  rw [List.lookup_cons, h, List.lookup_cons_self]
theorem rf_O (b l : Addr) (a : Nat) : (rf b l a).lookup nO = some (.ref l) := by
  have h : (nO == nB) = false := by decide +kernel
  have h2 : (nO == nA) = false := by decide +kernel
  unfold rf
  rw [List.lookup_cons, h, List.lookup_cons, h2, List.lookup_cons_self]
theorem rf_no {m : Str} (h1 : (m == nB) = false) (h2 : (m == nA) = false) (h3 : (m == nO) = false) (b l : Addr) (a : Nat) : (rf b l a).lookup m = none := by
  unfold rf
  rw [List.lookup_cons, h1, List.lookup_cons, h2, List.lookup_cons, h3]
  rfl
/-- the class, as the heap of the top has it -/
structure Rdr (K : PySem.W.Frag) (C : Addr) : Prop where
  c : Cls K C
  nB : NoAttr K C nB
  nA : NoAttr K C nA
  nO : NoAttr K C nO
/-! ### what a method finds -/
structure Rp (C : Addr) (H0 H : Hp) (p dx b l : Addr) (bs : List Int) (a : Nat) : Prop where
  same : Same H0 H
  p0 : H0 p = none
  hp : H p = some (.ins C dx (rf b l a))
  hb : H b = some (.tup (bs.map V.int))
  byt : ∀ n ∈ bs, 0 ≤ n ∧ n ≤ 255
  len : bs.length ≤ 16777216
  at_ : a ≤ bs.length
/-- all but p stays -/
def Mv (p : Addr) (H H' : Hp) : Prop := ∀ b o, b ≠ p → H b = some o → H' b = some o
theorem Mv.trans {p : Addr} {H H1 H2 : Hp} (x : Mv p H H1) (y : Mv p H1 H2) : Mv p H H2 := fun b o n h => y b o n (x b o n h)
theorem Mv.same {p : Addr} {H0 H H' : Hp} (x : Mv p H H') (s : Same H0 H) (n : H0 p = none) : Same H0 H' := fun b o h => x b o (fun z => by rw [z, n] at h; cases h) (s b o h)
theorem Mv.of {p : Addr} {H H' : Hp} (s : Same H H') : Mv p H H' := fun b o _ h => s b o h
theorem Mv.put {p : Addr} {H H' : Hp} {o : HO} (x : Mv p H H') : Mv p H (upd H' p o) := fun b u n h => by
  rw [upd_ne n]
  exact x b u n h
/-- what is raised -/
def Bad (E : XK) (CB : Addr) (H0 : Hp) (a : Nat) (w : Str) : Prop := ∀ e H', Same H0 H' → H0 e = none → H' e = some (.xd [("fault", .str w), ("at", .int (a : Int))]) → E (.ref CB) (some e) H'
theorem Rp.mv {C : Addr} {H0 H H' : Hp} {p dx b l : Addr} {bs : List Int} {a a' : Nat} (R : Rp C H0 H p dx b l bs a) (x : Mv p H H') (h : H' p = some (.ins C dx (rf b l a'))) (ha : a' ≤ bs.length) : Rp C H0 H' p dx b l bs a' :=
  ⟨x.same R.same R.p0, R.p0, h, x _ _ (fun z => by have := R.hp; rw [← z, R.hb] at this; cases this) R.hb, R.byt, R.len, ha⟩
theorem Rp.free {C : Addr} {H0 H : Hp} {p dx b l : Addr} {bs : List Int} {a : Nat} (R : Rp C H0 H p dx b l bs a) {e : Addr} (h : H e = none) : H0 e = none := R.same.free h
theorem ints_at {bs : List Int} {i : Nat} (h : i < bs.length) : (bs.map V.int)[i]? = some (.int (bs.getD i 0)) := by
  simp [List.getD, h]
abbrev cR : Stmt := top 24
abbrev sInit : Stmt := inClass cR 0
abbrev sNeed : Stmt := inClass cR 1
abbrev sNumber : Stmt := inClass cR 2
abbrev sString : Stmt := inClass cR 3
abbrev sWord : Stmt := inClass cR 4
abbrev sClosed : Stmt := inClass cR 5
abbrev sStep : Stmt := inClass cR 6
abbrev sWhole : Stmt := inClass cR 7
def spInit (C : Addr) : Sp := fun vs H Q _ => ∃ (p b dx : Addr), vs = [.ref p, .ref b] ∧ H p = some (.ins C dx []) ∧ ∀ l, H l = none → ∀ H', Mv p H H' → H' p = some (.ins C dx (rf b l 0)) → H' l = some (.lst []) → Q .non H'
def spNeed (C CB : Addr) : Sp := fun vs H Q E => ∃ (H0 : Hp) (p dx b l : Addr) (bs : List Int) (a many : Nat), vs = [.ref p, .int (many : Int)] ∧ Rp C H0 H p dx b l bs a ∧ (a + many ≤ bs.length → Q .non H) ∧ (bs.length < a + many → Bad E CB H0 bs.length "end")
def spNumber (C CB : Addr) : Sp := fun vs H Q E => ∃ (H0 : Hp) (p dx b l : Addr) (bs : List Int) (a : Nat), vs = [.ref p] ∧ Rp C H0 H p dx b l bs a ∧
  (a + 2 ≤ bs.length → ∀ H', Mv p H H' → H' p = some (.ins C dx (rf b l (a + 2))) → Q (.int (bs.getD a 0 * 256 + bs.getD (a + 1) 0)) H') ∧ (bs.length < a + 2 → Bad E CB H0 bs.length "end")
def spString (C CB : Addr) : Sp := fun vs H Q E => ∃ (H0 : Hp) (p dx b l : Addr) (bs : List Int) (a many : Nat), vs = [.ref p, .int (many : Int)] ∧ many ≤ 65535 ∧ Rp C H0 H p dx b l bs a ∧
  (∀ a' cs, strM bs many a [] = .inl (a', cs) → ∀ H', Mv p H H' → H' p = some (.ins C dx (rf b l a')) → Q (.str ⟨cs.toArray⟩) H') ∧ (∀ a' w, strM bs many a [] = .inr (a', w) → Bad E CB H0 a' w)
section
variable {P : Program} {w : World} {K : PySem.W.Frag} {mg : Str → Option Value} {base : Heap} {f : Addr} {fd : FuncData} {C CR CB : Addr}
theorem scInit : FnScope ["self", "some"] ["self", "some"] (defScope sInit) := ⟨rfl, rfl, rfl, by decide +kernel, rfl, by decide +kernel, by decide +kernel⟩
theorem ok_init (F : Fun K "__init__" "Reader.__init__" sInit f fd) (R : Rdr K C) : FnOk P w K mg base CX0 1 f fd ["self", "some"] (spInit C) := by
  refine F.ok scInit (fun vs H Q E h => ?_) (fun cdv A outer s H vs Q E hr h => ?_)
  · obtain ⟨p, b, dx, rfl, _⟩ := h
    rfl
  · obtain ⟨p, b, dx, rfl, hp, q⟩ := h
    refine ⟨_, pss_one (ps_asg (pe_tup (pa_cons (pv 1) (pa_cons pe_int (pa_cons (pe_lst pa_nil) pa_nil)))) (pg_tup (by rfl) (pgs_cons (pg_fld (pv 0)) (pgs_cons (pg_fld (pv 0)) (pgs_cons (pg_fld (pv 0)) pgs_nil))))), ?_⟩
    refine ⟨_, rfl, Nat.zero_le _, fun l hl => ⟨by show 3 ≤ sizeLine; decide, fun t ht => ⟨t, _, rfl, SqT.of upd_same, rfl, _, _, rfl, ?_⟩⟩⟩
    have hpl : p ≠ l := ne_of_none hp hl
    have hp1 : (upd H l (.lst [])) p = some (.ins C dx []) := by rw [upd_ne hpl]; exact hp
    have hpt : p ≠ t := ne_of_none hp1 ht
    refine ⟨_, rfl, p, C, dx, _, rfl, by rw [upd_ne hpt]; exact hp1, R.c, R.nB, by show 0 < 1000; decide, _, _, rfl, _, rfl, p, C, dx, _, rfl, upd_same, R.c, R.nA, by show 1 < 1000; decide, _, _, rfl, _, rfl, p, C, dx, _, rfl, upd_same, R.c, R.nO, ?_, rfl, ?_⟩
    · have : putF nA (.int 0) (putF nB (.ref b) []) = [(nB, V.ref b), (nA, .int 0)] := by
        show (if nB = nA then _ else (nB, V.ref b) :: putF nA (V.int 0) []) = _
        rw [if_neg nBA]
        rfl
      show (putF nA (.int 0) (putF nB (.ref b) [])).length < 1000
      rw [this]
      show 2 < 1000
      decide
    · have hlt : l ≠ t := ne_of_none upd_same ht
      refine q l hl _ ((((Mv.of ((Same.new hl).trans (Same.new ht))).put).put).put) ?_ ?_
      · rw [upd_same]
        exact congrArg (fun z => some (HO.ins C dx z)) (rf_make b l)
      · rw [upd_ne hpl.symm, upd_ne hpl.symm, upd_ne hpl.symm, upd_ne hlt, upd_same]
theorem scNeed : FnScope ["self", "many"] ["self", "many"] (defScope sNeed) := ⟨rfl, rfl, rfl, by decide +kernel, rfl, by decide +kernel, by decide +kernel⟩
theorem ok_need (F : Fun K "need" "Reader.need" sNeed f fd) (R : Rdr K C) (T : Txt mg) (X : Errs P w K mg CR CB) : FnOk P w K mg base (L2.CX P w) 2 f fd ["self", "many"] (spNeed C CB) := by
  refine F.okX scNeed (fun vs H Q E h => ?_) (fun cdv A outer s H vs Q E hr h => ?_)
  · obtain ⟨H0, p, dx, b, l, bs, a, many, rfl, _⟩ := h
    rfl
  · obtain ⟨H0, p, dx, b, l, bs, a, many, rfl, S, q1, q2⟩ := h
    refine ⟨_, pss_one (ps_if (pt_cmpR op_gt (pe_op op_add (pe_fld (pv 0) rfl) (pv 1)) (pe_callB call_len_seq (by rfl) T.len PySem.boot_len (pa_cons (pe_fld (pv 0) rfl) pa_nil)) (nomark _))
      (pss_one (ps_raise rfl (takes_of rfl rfl rfl rfl) (pmk_err X.mB hr X.sup X.gB (pa_cons (pe_callB call_len_seq (by rfl) T.len PySem.boot_len (pa_cons (pe_fld (pv 0) rfl) pa_nil)) (pa_cons pe_str pa_nil))))) pss_nil), ?_⟩
    refine ⟨_, rfl, p, C, dx, _, _, rfl, S.hp, R.c, R.nA, rf_A _ _ _, _, rfl, _, _, rfl, rfl, _, rfl, p, C, dx, _, _, rfl, S.hp, R.c, R.nB, rf_B _ _ _, b, _, rfl, .inr (SqT.of S.hb), _, _, rfl, rfl, _, rfl, ?_⟩
    by_cases c : bs.length < a + many
    · have e : decide (((bs.map V.int).length : Int) < (a : Int) + (many : Int)) = true := decide_eq_true (by rw [List.length_map]; omega)
      rw [e]
      refine iteT ⟨_, rfl, p, C, dx, _, _, rfl, S.hp, R.c, R.nB, rf_B _ _ _, b, _, rfl, .inr (SqT.of S.hb), rfl, fun e he => ?_⟩
      refine q2 c e _ (S.same.trans (Same.new he)) (S.free he) ?_
      rw [upd_same, List.length_map]
      rfl
    · have e : decide (((bs.map V.int).length : Int) < (a : Int) + (many : Int)) = false := decide_eq_false (by rw [List.length_map]; omega)
      rw [e]
      exact iteF (q1 (by omega))
theorem scNumber : FnScope ["self"] ["self"] (defScope sNumber) := ⟨rfl, rfl, rfl, by decide +kernel, rfl, by decide +kernel, by decide +kernel⟩
theorem ok_number (F : Fun K "number" "Reader.number" sNumber f fd) (R : Rdr K C) (T : Txt mg) (M : Md P w K mg base (L2.CX P w) 2 C "need" ["self", "many"] (spNeed C CB)) : FnOk P w K mg base (L2.CX P w) 3 f fd ["self"] (spNumber C CB) := by
  refine F.okX scNumber (fun vs H Q E h => ?_) (fun cdv A outer s H vs Q E hr h => ?_)
  · obtain ⟨H0, p, dx, b, l, bs, a, rfl, _⟩ := h
    rfl
  · obtain ⟨H0, p, dx, b, l, bs, a, rfl, S, q1, q2⟩ := h
    refine ⟨_, pss_cons (ps_expr (pe_md M R.c hr (passes_call (takes_of rfl rfl rfl rfl) fun _ _ _ _ h => h) (pv 0) (pa_cons pe_int pa_nil))) (PSs.nox (pss_cons (ps_fldaug (pv 0) pe_int in_add)
      (pss_one (ps_ret (pe_op op_add (pe_op op_mul (pe_ix ix_tup (pe_fld (pv 0) rfl) (pe_op op_sub (pe_fld (pv 0) rfl) pe_int) (fun _ _ => rfl)) (pe_gi (by rfl) T.cBase)) (pe_ix ix_tup (pe_fld (pv 0) rfl) (pe_op op_sub (pe_fld (pv 0) rfl) pe_int) (fun _ _ => rfl))))))), ?_⟩
    refine ⟨_, rfl, p, dx, _, rfl, S.hp, rf_no (by decide +kernel) (by decide +kernel) (by decide +kernel) _ _ _, H0, p, dx, b, l, bs, a, 2, rfl, S, fun c => ?_, q2⟩
    have e : (a : Int) + 2 = ((a + 2 : Nat) : Int) := by omega
    have S2 := S.mv (a' := a + 2) (Mv.put (Mv.of (Same.refl _))) upd_same c
    refine ⟨_, rfl, p, C, dx, _, _, rfl, S.hp, R.c, R.nA, rf_A _ _ _, _, _, rfl, rfl, dx, _, S.hp, by show 3 < 1000; decide, ?_⟩
    rw [e, rf_put]
    have i0 : ((a + 2 : Nat) : Int) - 2 = ((a : Nat) : Int) := by omega
    have i1 : ((a + 2 : Nat) : Int) - 1 = ((a + 1 : Nat) : Int) := by omega
    refine ⟨_, rfl, p, C, dx, _, _, rfl, S2.hp, R.c, R.nB, rf_B _ _ _, _, rfl, p, C, dx, _, _, rfl, S2.hp, R.c, R.nA, rf_A _ _ _, _, _, rfl, rfl, b, _, _, _, rfl, rfl, SqT.of S2.hb, by rw [i0]; exact atI_nat (ints_at (by omega)), ?_⟩
    have hb := S.byt (bs.getD a 0) (by simp [List.getD, show a < bs.length by omega])
    refine ⟨_, _, rfl, rfl, .inl ⟨by omega, by omega⟩, ?_⟩
    refine ⟨_, rfl, p, C, dx, _, _, rfl, S2.hp, R.c, R.nB, rf_B _ _ _, _, rfl, p, C, dx, _, _, rfl, S2.hp, R.c, R.nA, rf_A _ _ _, _, _, rfl, rfl, b, _, _, _, rfl, rfl, SqT.of S2.hb, by rw [i1]; exact atI_nat (ints_at (by omega)), ?_⟩
    refine ⟨_, _, rfl, rfl, ?_⟩
    exact q1 c _ (Mv.put (Mv.of (Same.refl _))) upd_same
theorem scString : FnScope ["self", "many", "found", "turn"] ["self", "many"] (defScope sString) := ⟨rfl, rfl, rfl, by decide +kernel, rfl, by decide +kernel, by decide +kernel⟩
def chs (cs : List Nat) : List Str := cs.map fun c => ⟨#[c]⟩
theorem joinL_ones : ∀ cs : List Nat, TL.joinL [] (cs.map fun c => [c]) = cs
  | [] => rfl
  | [_] => rfl
  | a :: b :: r => by
    show [a] ++ ([] ++ TL.joinL [] ((b :: r).map fun c => [c])) = a :: b :: r
    rw [joinL_ones (b :: r)]
    rfl
theorem join_chs (cs : List Nat) : Txt.join (Str.ofString "") (chs cs) = ⟨cs.toArray⟩ := by
  have e : chs cs = (cs.map fun c => [c]).map SX.S := by
    unfold chs
    rw [List.map_map]
    rfl
  have e0 : (Str.ofString "") = SX.S [] := by decide +kernel
  rw [e, e0, SX.join_S, joinL_ones]
theorem ok_string (F : Fun K "string" "Reader.string" sString f fd) (R : Rdr K C) (T : Txt mg) (X : Errs P w K mg CR CB) (M : Md P w K mg base (L2.CX P w) 2 C "need" ["self", "many"] (spNeed C CB)) : FnOk P w K mg base (L2.CX P w) 3 f fd ["self", "many"] (spString C CB) := by
  refine F.okX scString (fun vs H Q E h => ?_) (fun cdv A outer s H vs Q E hr h => ?_)
  · obtain ⟨H0, p, dx, b, l, bs, a, many, rfl, _⟩ := h
    rfl
  · obtain ⟨H0, p, dx, b, l, bs, a, many, rfl, hm, S, q1, q2⟩ := h
    refine ⟨_, pss_cons (ps_set (i := 2) scString.nd rfl (Or.inl rfl) (pe_lst pa_nil)) (pss_cons (ps_for (passes_of rfl) rfl (pi_range1 (by rfl) T.range (pa_cons (pv 1) pa_nil)) (pg_name (i := 3) scString.nd rfl (Or.inl rfl))
      (pss_cons (ps_expr (pe_md M R.c hr (passes_call (takes_of rfl rfl rfl rfl) fun _ _ _ _ h => h) (pv 0) (pa_cons pe_int pa_nil)))
      (pss_cons (ps_if (pt_cmpR op_ge (pe_ix ix_tup (pe_fld (pv 0) rfl) (pe_fld (pv 0) rfl) (fun _ _ => rfl)) (pe_callB call_len_str (by rfl) T.len PySem.boot_len (pa_cons (pe_gs (by rfl) T.cSigns) pa_nil)) (nomark _))
        (pss_one (ps_raise rfl (takes_of rfl rfl rfl rfl) (pmk_err X.mB hr X.sup X.gB (pa_cons (pe_fld (pv 0) rfl) (pa_cons pe_str pa_nil))))) pss_nil)
      (PSs.nox (pss_cons (ps_expr (pe_bm PySem.F.plainAttrs_list PySem.F.slot_list_append PySem.F.type_list_append mt_append (pv 2) (pa_cons (pe_ix ix_str (pe_gs (by rfl) T.cSigns) (pe_ix ix_tup (pe_fld (pv 0) rfl) (pe_fld (pv 0) rfl) (fun _ _ => rfl)) (fun _ _ => rfl)) pa_nil)))
        (pss_one (ps_fldaug (pv 0) pe_int in_add)))))))
      (PSs.nox (pss_one (ps_ret (pe_join pe_str (pv 2)))))), ?_⟩
    refine ⟨Nat.zero_le _, fun fo hfo => ?_⟩
    refine ⟨_, rfl, _, rfl, by omega, by omega, ?_⟩
    refine for_range (lo := 0) (n := (many : Int).toNat) (fun i σ H' => ∃ (a' : Nat) (acc : List Nat) (vt : Option V), i ≤ many ∧ strM bs many a [] = strM bs (many - i) a' acc ∧ σ = [some (.ref p), some (.int (many : Int)), some (.ref fo), vt] ∧ Mv p H H' ∧ H' p = some (.ins C dx (rf b l a')) ∧ a' ≤ bs.length ∧ H' fo = some (.lst ((chs acc).map V.str)) ∧ acc.length = i)
      ⟨a, [], none, Nat.zero_le _, by simp, rfl, Mv.of (Same.new hfo), ?_, S.at_, upd_same, rfl⟩ ?_ ?_
    · rw [upd_ne (ne_of_none S.hp hfo)]
      exact S.hp
    · rintro i σ H' hi ⟨a', acc, vt, hi2, hst, rfl, hmv, hp, ha', hfo', hacc⟩
      have hi3 : i < many := by omega
      have S1 := S.mv hmv hp ha'
      refine ⟨_, rfl, p, dx, _, rfl, hp, rf_no (by decide +kernel) (by decide +kernel) (by decide +kernel) _ _ _, H0, p, dx, b, l, bs, a', 1, rfl, S1, fun c => ?_, fun c => ?_⟩
      · refine ⟨_, rfl, p, C, dx, _, _, rfl, hp, R.c, R.nB, rf_B _ _ _, _, rfl, p, C, dx, _, _, rfl, hp, R.c, R.nA, rf_A _ _ _, b, _, _, _, rfl, rfl, SqT.of S1.hb, atI_nat (ints_at (by omega)), _, rfl, by decide +kernel, _, _, rfl, rfl, _, rfl, ?_⟩
        have es : many - i = (many - (i + 1)) + 1 := by omega
        rw [es, strM, if_neg (by omega)] at hst
        have hb55 : ((sgS.length : Nat) : Int) = 55 := by decide +kernel
        have hby := S.byt (bs.getD a' 0) (by simp [List.getD, show a' < bs.length by omega])
        by_cases c2 : 55 ≤ bs.getD a' 0
        · rw [if_pos c2] at hst
          have e : decide (((sgS.length : Nat) : Int) ≤ bs.getD a' 0) = true := decide_eq_true (by rw [hb55]; exact c2)
          rw [e]
          refine iteT ⟨_, rfl, p, C, dx, _, _, rfl, hp, R.c, R.nA, rf_A _ _ _, rfl, fun e he => ?_⟩
          exact q2 a' _ hst e _ (S1.same.trans (Same.new he)) (S1.free he) upd_same
        · rw [if_neg c2] at hst
          have e : decide (((sgS.length : Nat) : Int) ≤ bs.getD a' 0) = false := decide_eq_false (by rw [hb55]; exact c2)
          rw [e]
          refine iteF ?_
          have hg : atI sgS.cps.toList (bs.getD a' 0) = some (sgs.getD (bs.getD a' 0).toNat 0) := by
            obtain ⟨m, hm⟩ : ∃ m : Nat, bs.getD a' 0 = (m : Int) := ⟨_, (Int.toNat_of_nonneg hby.1).symm⟩
            have h2 : m < sgs.length := by
              have : sgs.length = 55 := by decide
              omega
            rw [hm]
            refine atI_nat ?_
            show sgs[m]? = some (sgs.getD m 0)
            simp [List.getD, h2]
          have hfp : fo ≠ p := fun z => by
            rw [z, hp] at hfo'
            cases hfo'
          have hfoH : H fo = none := hfo
          have hp2 : ∀ o, (upd H' fo o) p = some (.ins C dx (rf b l a')) := fun o => by
            rw [upd_ne hfp.symm]
            exact hp
          have e1 : ((a' : Nat) : Int) + 1 = ((a' + 1 : Nat) : Int) := by omega
          refine ⟨_, rfl, .inl ⟨rfl, _, SqL.of hfo'⟩, _, rfl, p, C, dx, _, _, rfl, hp, R.c, R.nB, rf_B _ _ _, _, rfl, p, C, dx, _, _, rfl, hp, R.c, R.nA, rf_A _ _ _, b, _, _, _, rfl, rfl, SqT.of S1.hb, atI_nat (ints_at (by omega)), sgS, _, _, rfl, rfl, by decide +kernel, hg, fo, _, _, rfl, rfl, hfo', ?_, ?_⟩
          · rw [PySem.sizeLine_eq]
            simp [chs, hacc]
            omega
          · refine ⟨_, rfl, p, C, dx, _, _, rfl, hp2 _, R.c, R.nA, rf_A _ _ _, _, _, rfl, rfl, dx, _, hp2 _, by show 3 < 1000; decide, ?_⟩
            rw [e1, rf_put]
            refine ⟨a' + 1, acc ++ [sgs.getD (bs.getD a' 0).toNat 0], _, hi3, hst, rfl, ?_, upd_same, c, ?_, by simp [hacc]⟩
            · refine Mv.put ?_
              intro c o hc h0
              rw [upd_ne (fun z => by rw [z, hfoH] at h0; cases h0)]
              exact hmv c o hc h0
            · rw [upd_ne hfp, upd_same]
              simp [chs]
      · have es : many - i = (many - (i + 1)) + 1 := by omega
        rw [es, strM, if_pos c] at hst
        exact q2 _ _ hst
    · rintro σ H' ⟨a', acc, vt, hi2, hst, rfl, hmv, hp, ha', hfo', hacc⟩
      have e0 : many - (many : Int).toNat = 0 := by omega
      rw [e0, strM] at hst
      refine ⟨⟨_, rfl⟩, _, rfl, _, fo, chs acc, rfl, rfl, .inl (SqL.of hfo'), ?_, ?_⟩
      · have e1 : ((chs acc).map (·.length)).sum = acc.length := by
          unfold chs
          rw [List.map_map]
          clear hst hfo' hacc
          induction acc with
          | nil => rfl
          | cons c r ih =>
            rw [List.map_cons, List.sum_cons, ih, List.length_cons]
            show 1 + r.length = r.length + 1
            omega
        rw [e1]
        show acc.length + (chs acc).length * 0 ≤ 16777216
        omega
      · have ej : Txt.join (Str.ofString "") (chs acc) = ⟨acc.toArray⟩ := join_chs acc
        show Q (.str (Txt.join (Str.ofString "") (chs acc))) H'
        rw [ej]
        exact q1 _ _ hst _ hmv hp
/-! ### word -/
def spWord (C CB : Addr) : Sp := fun vs H Q E => ∃ (H0 : Hp) (p dx b l : Addr) (bs : List Int) (a : Nat) (os : List V), vs = [.ref p] ∧ Rp C H0 H p dx b l bs a ∧ H l = some (.lst os) ∧
  (bs.length < a + 1 → Bad E CB H0 bs.length "end") ∧
  (a + 1 ≤ bs.length → (bs.getD a 0 ≠ 1 ∧ bs.getD a 0 ≠ 2 ∧ bs.getD a 0 ≠ 3 → Bad E CB H0 a "word") ∧
    (¬ (bs.getD a 0 ≠ 1 ∧ bs.getD a 0 ≠ 2 ∧ bs.getD a 0 ≠ 3) → (bs.getD a 0 = 3 ∧ os.length = 20 → Bad E CB H0 a "deep") ∧
      (¬ (bs.getD a 0 = 3 ∧ os.length = 20) → ∀ H', Mv p H H' → H' p = some (.ins C dx (rf b l (a + 1))) → Q (.int (bs.getD a 0)) H')))
theorem scWord : FnScope ["self", "word"] ["self"] (defScope sWord) := ⟨rfl, rfl, rfl, by decide +kernel, rfl, by decide +kernel, by decide +kernel⟩
theorem ok_word (F : Fun K "word" "Reader.word" sWord f fd) (R : Rdr K C) (T : Txt mg) (X : Errs P w K mg CR CB) (M : Md P w K mg base (L2.CX P w) 2 C "need" ["self", "many"] (spNeed C CB)) : FnOk P w K mg base (L2.CX P w) 3 f fd ["self"] (spWord C CB) := by
  refine F.okX scWord (fun vs H Q E h => ?_) (fun cdv A outer s H vs Q E hr h => ?_)
  · obtain ⟨H0, p, dx, b, l, bs, a, os, rfl, _⟩ := h
    rfl
  · obtain ⟨H0, p, dx, b, l, bs, a, os, rfl, S, hl, q1, q2⟩ := h
    refine ⟨_, pss_cons (ps_expr (pe_md M R.c hr (passes_call (takes_of rfl rfl rfl rfl) fun _ _ _ _ h => h) (pv 0) (pa_cons pe_int pa_nil)))
      (pss_cons (ps_set (i := 1) scWord.nd rfl (Or.inl rfl) (pe_ix ix_tup (pe_fld (pv 0) rfl) (pe_fld (pv 0) rfl) (fun _ _ => rfl)))
      (pss_cons (ps_if (pt_cmpR op_notIn_seq (pv 1) (pe_tup (pa_cons (pe_gi (by rfl) T.cNumber) (pa_cons (pe_gi (by rfl) T.cString) (pa_cons (pe_gi (by rfl) T.cTuple) pa_nil)))) rfl) (pss_one (ps_raise rfl (takes_of rfl rfl rfl rfl) (pmk_err X.mB hr X.sup X.gB (pa_cons (pe_fld (pv 0) rfl) (pa_cons pe_str pa_nil))))) pss_nil)
      (pss_cons (ps_if (PW.pt (pw_and (pt_cmpR op_eq (pv 1) (pe_gi (by rfl) T.cTuple) (nomark _)) (pw_and1 (pt_cmpR op_eq (pe_callB call_len_seq (by rfl) T.len PySem.boot_len (pa_cons (pe_fld (pv 0) rfl) pa_nil)) (pe_gi (by rfl) T.cDeep) (nomark _))))) (pss_one (ps_raise rfl (takes_of rfl rfl rfl rfl) (pmk_err X.mB hr X.sup X.gB (pa_cons (pe_fld (pv 0) rfl) (pa_cons pe_str pa_nil))))) pss_nil)
      (PSs.nox (pss_cons (ps_fldaug (pv 0) pe_int in_add) (pss_one (ps_ret (pv 1)))))))), ?_⟩
    refine ⟨_, rfl, p, dx, _, rfl, S.hp, rf_no (by decide +kernel) (by decide +kernel) (by decide +kernel) _ _ _, H0, p, dx, b, l, bs, a, 1, rfl, S, fun c => ?_, q1⟩
    obtain ⟨q2, q3⟩ := q2 c
    refine ⟨_, rfl, p, C, dx, _, _, rfl, S.hp, R.c, R.nB, rf_B _ _ _, _, rfl, p, C, dx, _, _, rfl, S.hp, R.c, R.nA, rf_A _ _ _, b, _, _, _, rfl, rfl, SqT.of S.hb, atI_nat (ints_at (by omega)), ?_⟩
    refine ⟨_, rfl, by show 3 ≤ sizeLine; decide, fun t ht => ⟨t, _, rfl, .inr (SqT.of upd_same), rfl, rfl, _, rfl, ?_⟩⟩
    have hp2 : ∀ o, (upd H t o) p = some (.ins C dx (rf b l a)) := fun o => by
      rw [upd_ne (ne_of_none S.hp ht)]
      exact S.hp
    have S2 : ∀ o, Rp C H0 (upd H t o) p dx b l bs a := fun o => S.mv (Mv.of (Same.new ht)) (hp2 o) (by omega)
    by_cases c1 : bs.getD a 0 ≠ 1 ∧ bs.getD a 0 ≠ 2 ∧ bs.getD a 0 ≠ 3
    · have e : (if true = true then !inV (.int (bs.getD a 0)) [.int 1, .int 2, .int 3] else inV (.int (bs.getD a 0)) [.int 1, .int 2, .int 3]) = true := by
        rw [if_pos rfl]
        show (!((1 : Int) == bs.getD a 0 || ((2 : Int) == bs.getD a 0 || ((3 : Int) == bs.getD a 0 || false)))) = true
        rw [beq_eq_false_iff_ne.mpr (Ne.symm c1.1), beq_eq_false_iff_ne.mpr (Ne.symm c1.2.1), beq_eq_false_iff_ne.mpr (Ne.symm c1.2.2)]
        rfl
      show (if (if true = true then !inV (.int (bs.getD a 0)) [.int 1, .int 2, .int 3] else inV (.int (bs.getD a 0)) [.int 1, .int 2, .int 3]) = true then _ else _)
      rw [e]
      refine iteT ⟨_, rfl, p, C, dx, _, _, rfl, hp2 _, R.c, R.nA, rf_A _ _ _, rfl, fun e he => ?_⟩
      exact q2 c1 e _ ((S2 _).same.trans (Same.new he)) ((S2 _).free he) upd_same
    · have e : (if true = true then !inV (.int (bs.getD a 0)) [.int 1, .int 2, .int 3] else inV (.int (bs.getD a 0)) [.int 1, .int 2, .int 3]) = false := by
        rw [if_pos rfl]
        have c1 : bs.getD a 0 = 1 ∨ bs.getD a 0 = 2 ∨ bs.getD a 0 = 3 := by omega
        rcases c1 with h | h | h <;> rw [h] <;> decide
      show (if (if true = true then !inV (.int (bs.getD a 0)) [.int 1, .int 2, .int 3] else inV (.int (bs.getD a 0)) [.int 1, .int 2, .int 3]) = true then _ else _)
      rw [e]
      obtain ⟨q3, q4⟩ := q3 c1
      have hl2 : ∀ o, (upd H t o) l = some (.lst os) := fun o => by
        rw [upd_ne (ne_of_none hl ht)]
        exact hl
      have fin : ¬ (bs.getD a 0 = 3 ∧ os.length = 20) → ∀ (D : L2.Ends) (o : HO), D.rt = Q → tSeq (sFldAug K (tVar 0) (tC (.int 1)) rAdd nA) (tRet (tVar 1)) D [some (.ref p), some (.int (bs.getD a 0))] (upd H t o) := fun c2 D o hD => by
        refine ⟨_, rfl, p, C, dx, _, _, rfl, hp2 _, R.c, R.nA, rf_A _ _ _, _, _, rfl, rfl, dx, _, hp2 _, by show 3 < 1000; decide, ?_⟩
        have e1 : ((a : Nat) : Int) + 1 = ((a + 1 : Nat) : Int) := by omega
        rw [e1, rf_put]
        refine ⟨_, rfl, ?_⟩
        rw [hD]
        exact q4 c2 _ ((Mv.of (Same.new ht)).put) upd_same
      refine iteF ⟨_, rfl, rfl, _, rfl, ?_⟩
      by_cases c2 : bs.getD a 0 = 3
      · have e : decide (V.int (bs.getD a 0) = V.int 3) = true := decide_eq_true (by rw [c2])
        rw [e]
        refine iteT ⟨_, rfl, p, C, dx, _, _, rfl, hp2 _, R.c, R.nO, rf_O _ _ _, l, _, rfl, .inl (SqL.of (hl2 _)), rfl, _, rfl, ?_⟩
        by_cases c3 : os.length = 20
        · have e : decide (V.int ((os.length : Nat) : Int) = V.int 20) = true := decide_eq_true (by rw [c3]; rfl)
          rw [e]
          refine iteT ⟨_, rfl, p, C, dx, _, _, rfl, hp2 _, R.c, R.nA, rf_A _ _ _, rfl, fun e he => ?_⟩
          exact q3 ⟨c2, c3⟩ e _ ((S2 _).same.trans (Same.new he)) ((S2 _).free he) upd_same
        · have e : decide (V.int ((os.length : Nat) : Int) = V.int 20) = false := decide_eq_false (fun h => c3 (by have := V.int.inj h; omega))
          rw [e]
          exact iteF (fin (fun h => c3 h.2) _ _ rfl)
      · have e : decide (V.int (bs.getD a 0) = V.int 3) = false := decide_eq_false (fun h => c2 (V.int.inj h))
        rw [e]
        exact iteF (iteF (fin (fun h => c2 h.1) _ _ rfl))
end
end K14
/-! the Reader: closed, step, whole; unpacked -/
namespace K14
open PySem L2
/-- tuples stay -/
def Tp (H H' : Hp) : Prop := ∀ b xs, H b = some (.tup xs) → H' b = some (.tup xs)
theorem Tp.refl (H : Hp) : Tp H H := fun _ _ h => h
theorem Tp.trans {H H1 H2 : Hp} (x : Tp H H1) (y : Tp H1 H2) : Tp H H2 := fun b xs h => y b xs (x b xs h)
theorem Tp.same {H H' : Hp} (s : Same H H') : Tp H H' := fun b xs h => s b _ h
theorem Tp.upd {H : Hp} {l : Addr} {o : HO} (h : ∀ xs, H l ≠ some (.tup xs)) : Tp H (upd H l o) := fun b xs e => by
  rw [upd_ne (fun z => by rw [z] at e; exact h _ e)]
  exact e
theorem Tp.lst {H : Hp} {l : Addr} {ys : List V} {o : HO} (h : H l = some (.lst ys)) : Tp H (L2.upd H l o) := .upd fun xs e => by
  rw [h] at e
  cases e
theorem Tp.ins {H H' : Hp} {p C dx : Addr} {fs : List (Str × V)} (h : H p = some (.ins C dx fs)) (x : Mv p H H') : Tp H H' := fun b xs e => x b _ (fun z => by rw [z, h] at e; cases e) e
mutual
/-- no list within -/
def noL : D → Bool
  | .int _ => true
  | .str _ => true
  | .tup l => noLL l
  | .lst _ => false
def noLL : List D → Bool
  | [] => true
  | d :: r => noL d && noLL r
end
theorem noLL_all : ∀ l, noLL l = l.all noL
  | [] => rfl
  | d :: r => by rw [noLL, noLL_all r, List.all_cons]
mutual
theorem Rep.tp {H H' : Hp} (e : Tp H H') : ∀ {d : D} {v : V}, noL d = true → Rep H v d → Rep H' v d
  | .int n, v, _, h => h
  | .str s, v, _, h => h
  | .tup l, v, f, ⟨a, xs, h1, h2, h3⟩ => ⟨a, xs, h1, e _ _ h2, RepL.tp e (by rw [noL] at f; exact f) h3⟩
  | .lst l, v, f, _ => by rw [noL] at f; cases f
theorem RepL.tp {H H' : Hp} (e : Tp H H') : ∀ {l : List D} {xs : List V}, noLL l = true → RepL H xs l → RepL H' xs l
  | [], xs, _, h => h
  | d :: r, xs, f, ⟨x, ys, h1, h2, h3⟩ => by
    rw [noLL, Bool.and_eq_true] at f
    exact ⟨x, ys, h1, Rep.tp e f.1 h2, RepL.tp e f.2 h3⟩
end
theorem noLL_snoc {l : List D} {d : D} (h : noLL l = true) (k : noL d = true) : noLL (l ++ [d]) = true := by
  rw [noLL_all] at h ⊢
  rw [List.all_append, h]
  simp [k]
/-- the open tuples -/
inductive Opn (H0 H : Hp) : List (Addr × Addr) → Op → Prop
  | nil : Opn H0 H [] []
  | cons {t m n ms vs r op} (ht : H t = some (.tup [.int ((n : Nat) : Int), .ref m])) (m0 : H0 m = none) (hm : H m = some (.lst vs)) (hv : RepL H vs ms) (hf : noLL ms = true) (hr : Opn H0 H r op) : Opn H0 H ((t, m) :: r) ((n, ms) :: op)
theorem Opn.tp {H0 H H' : Hp} (e : Tp H H') {tms : List (Addr × Addr)} {op : Op} (h : Opn H0 H tms op) : (∀ q ∈ tms, ∀ xs, H q.2 = some (.lst xs) → H' q.2 = some (.lst xs)) → Opn H0 H' tms op := by
  induction h with
  | nil => intro _; exact .nil
  | cons ht m0 hm hv hf hr ih =>
    intro g
    exact .cons (e _ _ ht) m0 (g _ List.mem_cons_self _ hm) (hv.tp e hf) hf (ih fun q hq => g q (List.mem_cons_of_mem _ hq))
theorem Opn.len {H0 H : Hp} {tms : List (Addr × Addr)} {op : Op} (h : Opn H0 H tms op) : tms.length = op.length := by
  induction h with
  | nil => rfl
  | cons _ _ _ _ _ _ ih => rw [List.length_cons, List.length_cons, ih]
theorem Opn.lsts {H0 H : Hp} {tms : List (Addr × Addr)} {op : Op} (h : Opn H0 H tms op) : ∀ q ∈ tms, ∃ xs, H q.2 = some (.lst xs) := by
  induction h with
  | nil =>
    intro q hq
    cases hq
  | cons _ _ hm _ _ _ ih =>
    intro q hq
    rcases List.mem_cons.mp hq with hq | hq
    · rw [hq]
      exact ⟨_, hm⟩
    · exact ih q hq
def OpOk (op : Op) : Prop := op.length ≤ 20 ∧ ∀ q ∈ op, q.2.length < q.1 ∧ q.1 ≤ 65535
structure Sta (C : Addr) (H0 H : Hp) (p dx b l : Addr) (bs : List Int) (a : Nat) (op : Op) : Prop where
  rp : Rp C H0 H p dx b l bs a
  l0 : H0 l = none
  ok : OpOk op
  ex : ∃ tms : List (Addr × Addr), H l = some (.lst ((tms.map fun q => V.ref q.1).reverse)) ∧ Opn H0 H tms op ∧ (l :: tms.map (·.2)).Nodup
theorem Sta.mv {C : Addr} {H0 H H' : Hp} {p dx b l : Addr} {bs : List Int} {a a' : Nat} {op : Op} (S : Sta C H0 H p dx b l bs a op) (x : Mv p H H') (h : H' p = some (.ins C dx (rf b l a'))) (ha : a' ≤ bs.length) : Sta C H0 H' p dx b l bs a' op := by
  obtain ⟨R, l0, ok, tms, hl, ho, nd⟩ := S
  have np : ∀ {q : Addr} {xs : List V}, H q = some (.lst xs) → q ≠ p := fun {q xs} e z => by
    rw [z, R.hp] at e
    cases e
  exact ⟨R.mv x h ha, l0, ok, tms, x _ _ (np hl) hl, ho.tp (.ins R.hp x) fun q _ xs e => x _ _ (np e) e, nd⟩
theorem Sta.same {C : Addr} {H0 H H' : Hp} {p dx b l : Addr} {bs : List Int} {a : Nat} {op : Op} (S : Sta C H0 H p dx b l bs a op) (s : Same H H') : Sta C H0 H' p dx b l bs a op := S.mv (Mv.of s) (s _ _ S.rp.hp) S.rp.at_
/-- the answer of closed and step -/
def RTup (H : Hp) (t : Addr) : Option D → Prop
  | none => H t = some (.tup [])
  | some d => ∃ v, H t = some (.tup [v]) ∧ Rep H v d ∧ noL d = true
def spClosed (C : Addr) : Sp := fun vs H Q _ => ∃ (H0 : Hp) (p dx b l : Addr) (bs : List Int) (a : Nat) (op : Op) (v : V) (d : D), vs = [.ref p, v] ∧ Sta C H0 H p dx b l bs a op ∧ Rep H v d ∧ noL d = true ∧
  ∀ H' t, Sta C H0 H' p dx b l bs a (feed op d).1 → RTup H' t (feed op d).2 → Q (.ref t) H'
section
variable {P : Program} {w : World} {K : PySem.W.Frag} {mg : Str → Option Value} {base : Heap} {f : Addr} {fd : FuncData} {C CR CB : Addr}
theorem scClosed : FnScope ["self", "thing", "many", "members"] ["self", "thing"] (defScope sClosed) := ⟨rfl, rfl, rfl, by decide +kernel, rfl, by decide +kernel, by decide +kernel⟩
theorem ok_closed (F : Fun K "closed" "Reader.closed" sClosed f fd) (R : Rdr K C) (T : Txt mg) : FnOk P w K mg base CX0 1 f fd ["self", "thing"] (spClosed C) := by
  refine F.ok scClosed (fun vs H Q E h => ?_) (fun cdv A outer s H vs Q E hr h => ?_)
  · obtain ⟨H0, p, dx, b, l, bs, a, op, v, d, rfl, _⟩ := h
    rfl
  · obtain ⟨H0, p, dx, b, l, bs, a, op, v, d, rfl, S, hR, hf, q⟩ := h
    refine ⟨_, pss_cons (ps_while PassesOwn.never (pt_truth (pe_fld (pv 0) rfl) (by intro _; rfl))
      (pss_cons (ps_asg (pe_ix ix_list (pe_fld (pv 0) rfl) (pe_un un_neg pe_int) (fun _ _ => rfl)) (pg_tup (by rfl) (pgs_cons (pg_name (i := 2) scClosed.nd rfl (Or.inl rfl)) (pgs_cons (pg_name (i := 3) scClosed.nd rfl (Or.inl rfl)) pgs_nil))))
      (pss_cons (ps_expr (pe_bm PySem.F.plainAttrs_list PySem.F.slot_list_append PySem.F.type_list_append mt_append (pv 3) (pa_cons (pv 1) pa_nil)))
      (pss_cons (ps_if (pt_cmpR op_lt (pe_callB call_len_seq (by rfl) T.len PySem.boot_len (pa_cons (pv 3) pa_nil)) (pv 2) (nomark _)) (pss_one (ps_ret (pe_tup pa_nil))) pss_nil)
      (pss_cons (ps_expr (pe_bm0 PySem.F.plainAttrs_list PySem.F.slot_list_pop PySem.F.type_list_pop mt_pop (pe_fld (pv 0) rfl)))
      (pss_one (ps_set (i := 1) scClosed.nd rfl (Or.inl rfl) (pe_callTy call_tuple_of (by rfl) T.tuple (by decide +kernel) (pa_cons (pv 3) pa_nil)))))))))
      (pss_one (ps_ret (pe_tup (pa_cons (pv 1) pa_nil)))), ?_⟩
    let W : Nat → L2.St → Hp → Prop := fun m σ H' => ∃ (op1 : Op) (v1 : V) (d1 : D) (x2 x3 : Option V), m = op1.length ∧ σ = [some (.ref p), some v1, x2, x3] ∧ Sta C H0 H' p dx b l bs a op1 ∧ Rep H' v1 d1 ∧ noL d1 = true ∧ feed op d = feed op1 d1
    refine ⟨W, ⟨_, op, v, d, none, none, rfl, rfl, S, hR, hf, rfl⟩, ?_⟩
    rintro m σ H' ⟨op1, v1, d1, x2, x3, rfl, rfl, S1, hR1, hf1, hfe⟩
    have Rp1 := S1.rp
    obtain ⟨R1, l0, ok1, tms, hl, ho, nd⟩ := S1
    refine ⟨_, rfl, p, C, dx, _, _, rfl, R1.hp, R.c, R.nO, rf_O _ _ _, _, .inl ⟨_, SqL.of hl, rfl⟩, ?_⟩
    have hlp : l ≠ p := fun z => by
      rw [z, R1.hp] at hl
      cases hl
    cases ho with
    | nil =>
      refine iteF ⟨_, rfl, by show 1 ≤ sizeLine; decide, fun t ht => ?_⟩
      have e : feed op d = ([], some d1) := by rw [hfe, feed]
      rw [e] at q
      refine q _ t (Sta.same ⟨R1, l0, ok1, [], hl, .nil, nd⟩ (Same.new ht)) ⟨v1, upd_same, hR1.same (Same.new ht), hf1⟩
    | @cons t m n ms vs r op2 ht m0 hm hv hfm hr2 =>
      have hb : (!(List.map (fun q => V.ref q.1) ((t, m) :: r)).reverse.isEmpty) = true := by simp
      rw [hb]
      refine iteT ⟨fun σ' H' => ∃ m', m' < ((n, ms) :: op2).length ∧ W m' σ' H', fun _ _ h => h, ?_⟩
      have el : (List.map (fun q => V.ref q.1) ((t, m) :: r)).reverse = (List.map (fun q => V.ref q.1) r).reverse ++ [V.ref t] := by simp
      rw [el] at hl
      have hn : ms.length < n ∧ n ≤ 65535 := ok1.2 (n, ms) List.mem_cons_self
      have hvl := hv.length
      have hlm : l ≠ m := fun z => by
        have := (List.nodup_cons.mp nd).1
        exact this (by simp [z])
      have hmp : m ≠ p := fun z => by
        rw [z, R1.hp] at hm
        cases hm
      refine ⟨_, rfl, p, C, dx, _, _, rfl, R1.hp, R.c, R.nO, rf_O _ _ _, _, rfl, l, _, _, _, rfl, rfl, SqL.of hl, atI_last _ _, t, _, rfl, SqT.of ht, rfl, _, _, rfl, _, _, rfl, rfl, ?_⟩
      refine ⟨_, rfl, .inl ⟨rfl, _, SqL.of hm⟩, _, rfl, m, _, _, rfl, rfl, hm, by rw [PySem.sizeLine_eq]; omega, ?_⟩
      refine ⟨_, rfl, m, _, rfl, .inl (SqL.of upd_same), _, rfl, _, _, rfl, rfl, _, rfl, ?_⟩
      have tp1 : ∀ o, Tp H' (upd H' m o) := fun o => .lst hm
      have sm1 : ∀ o, Same H0 (upd H' m o) := fun o => R1.same.put m0
      have hp1 : ∀ o, (upd H' m o) p = some (.ins C dx (rf b l a)) := fun o => by rw [upd_ne hmp.symm]; exact R1.hp
      have hl1 : ∀ o, (upd H' m o) l = some (.lst ((List.map (fun q => V.ref q.1) r).reverse ++ [V.ref t])) := fun o => by rw [upd_ne hlm]; exact hl
      have rp1 : ∀ o, Rp C H0 (upd H' m o) p dx b l bs a := fun o => ⟨sm1 o, R1.p0, hp1 o, tp1 o _ _ R1.hb, R1.byt, R1.len, R1.at_⟩
      have ndr : (l :: r.map (·.2)).Nodup ∧ m ∉ r.map (·.2) := by
        simp only [List.map_cons, List.nodup_cons, List.mem_cons, not_or] at nd ⊢
        exact ⟨⟨nd.1.2, nd.2.2⟩, nd.2.1⟩
      have ho1 : ∀ o, Opn H0 (upd H' m o) r op2 := fun o => hr2.tp (tp1 o) fun q hq xs e => by
        rw [upd_ne (fun z => ndr.2 (by rw [← z]; exact List.mem_map.mpr ⟨q, hq, rfl⟩))]
        exact e
      by_cases c : ms.length + 1 < n
      · have e : decide ((((vs ++ [v1]).length : Nat) : Int) < ((n : Nat) : Int)) = true := decide_eq_true (by rw [List.length_append, List.length_singleton]; omega)
        rw [e]
        refine iteT ⟨by show 0 ≤ sizeLine; exact Nat.zero_le _, fun t2 ht2 => ?_⟩
        have e2 : feed op d = ((n, ms ++ [d1]) :: op2, none) := by rw [hfe, feed, if_pos c]
        rw [e2] at q
        refine q _ t2 (Sta.same ⟨rp1 _, l0, ⟨ok1.1, fun x hx => ?_⟩, (t, m) :: r, by rw [el]; exact hl1 _, .cons (tp1 _ _ _ ht) m0 upd_same ((hv.tp (tp1 _) hfm).snoc (hR1.tp (tp1 _) hf1)) (noLL_snoc hfm hf1) (ho1 _), nd⟩ (Same.new ht2)) upd_same
        rcases List.mem_cons.mp hx with hx | hx
        · subst hx
          exact ⟨by simpa using c, hn.2⟩
        · exact ok1.2 x (List.mem_cons_of_mem _ hx)
      · have e : decide ((((vs ++ [v1]).length : Nat) : Int) < ((n : Nat) : Int)) = false := decide_eq_false (by rw [List.length_append, List.length_singleton]; omega)
        rw [e]
        refine iteF ⟨_, rfl, p, C, dx, _, _, rfl, hp1 _, R.c, R.nO, rf_O _ _ _, .inl ⟨rfl, _, SqL.of (hl1 _)⟩, l, _, V.ref t, rfl, rfl, hl1 _, by simp, ?_⟩
        have ed : ((List.map (fun q => V.ref q.1) r).reverse ++ [V.ref t]).dropLast = (List.map (fun q => V.ref q.1) r).reverse := by simp
        rw [ed]
        refine ⟨_, rfl, m, vs ++ [v1], rfl, .inl ⟨SqL.of (by rw [upd_ne hlm.symm]; exact upd_same), fun p2 hp2 => ?_⟩⟩
        have tp2 : Tp (upd H' m (.lst (vs ++ [v1]))) (upd (upd H' m (.lst (vs ++ [v1]))) l (.lst (List.map (fun q => V.ref q.1) r).reverse)) := .lst (hl1 _)
        have S2 : Sta C H0 (upd (upd H' m (.lst (vs ++ [v1]))) l (.lst (List.map (fun q => V.ref q.1) r).reverse)) p dx b l bs a op2 := by
          refine ⟨⟨(sm1 _).put l0, R1.p0, by rw [upd_ne hlp.symm]; exact hp1 _, tp2 _ _ (rp1 _).hb, R1.byt, R1.len, R1.at_⟩, l0, ⟨by have := ok1.1; simp at this; omega, fun x hx => ok1.2 x (List.mem_cons_of_mem _ hx)⟩, r, upd_same, (ho1 _).tp tp2 fun q hq xs e => ?_, ndr.1⟩
          rw [upd_ne (fun z => (List.nodup_cons.mp ndr.1).1 (by rw [← z]; exact List.mem_map.mpr ⟨q, hq, rfl⟩))]
          exact e
        have e2 : feed op d = feed op2 (.tup (ms ++ [d1])) := by rw [hfe, feed, if_neg c]
        refine ⟨op2.length, Nat.lt_succ_self _, op2, .ref p2, .tup (ms ++ [d1]), _, _, rfl, rfl, S2.same (Same.new hp2), ⟨p2, vs ++ [v1], rfl, upd_same, ?_⟩, by rw [noL]; exact noLL_snoc hfm hf1, e2⟩
        have tp3 : Tp H' (upd (upd (upd H' m (.lst (vs ++ [v1]))) l (.lst (List.map (fun q => V.ref q.1) r).reverse)) p2 (.tup (vs ++ [v1]))) := (tp1 _).trans (tp2.trans (Tp.same (Same.new hp2)))
        exact (hv.tp tp3 hfm).snoc (hR1.tp tp3 hf1)
/-! ### step -/
def spStep (C CB : Addr) : Sp := fun vs H Q E => ∃ (H0 : Hp) (p dx b l : Addr) (bs : List Int) (a : Nat) (op : Op), vs = [.ref p] ∧ Sta C H0 H p dx b l bs a op ∧
  (∀ a' op' r, stepM bs a op = .ok a' op' r → ∀ H' t, Sta C H0 H' p dx b l bs a' op' → RTup H' t r → Q (.ref t) H') ∧ (∀ a' w, stepM bs a op = .bad a' w → Bad E CB H0 a' w)
theorem feed_ok {op : Op} : ∀ {d : D}, OpOk op → OpOk (feed op d).1 := by
  induction op with
  | nil => intro d h; exact h
  | cons q r ih =>
    intro d h
    obtain ⟨n, ms⟩ := q
    rw [feed]
    split
    · rename_i c
      refine ⟨by simpa using h.1, fun x hx => ?_⟩
      rcases List.mem_cons.mp hx with hx | hx
      · rw [hx]
        exact ⟨by simpa using c, (h.2 (n, ms) List.mem_cons_self).2⟩
      · exact h.2 x (List.mem_cons_of_mem _ hx)
    · exact ih ⟨by have := h.1; simp at this; omega, fun x hx => h.2 x (List.mem_cons_of_mem _ hx)⟩
theorem strM_good {bs : List Int} : ∀ (n a : Nat) (acc : List Nat) (a' : Nat) (cs : List Nat), strM bs n a acc = .inl (a', cs) → a ≤ bs.length → a' ≤ bs.length
  | 0, a, acc, a', cs, h, hl => by
    simp only [strM, Sum.inl.injEq, Prod.mk.injEq] at h
    omega
  | n + 1, a, acc, a', cs, h, hl => by
    rw [strM] at h
    split at h
    · cases h
    · split at h
      · cases h
      · exact strM_good n _ _ _ _ h (by omega)
theorem scStep : FnScope ["self", "word", "number"] ["self"] (defScope sStep) := ⟨rfl, rfl, rfl, by decide +kernel, rfl, by decide +kernel, by decide +kernel⟩
theorem ok_step (F : Fun K "step" "Reader.step" sStep f fd) (R : Rdr K C) (T : Txt mg) (MW : Md P w K mg base (L2.CX P w) 3 C "word" ["self"] (spWord C CB)) (MN : Md P w K mg base (L2.CX P w) 3 C "number" ["self"] (spNumber C CB))
    (MS : Md P w K mg base (L2.CX P w) 3 C "string" ["self", "many"] (spString C CB)) (MC : Md P w K mg base CX0 1 C "closed" ["self", "thing"] (spClosed C)) : FnOk P w K mg base (L2.CX P w) 4 f fd ["self"] (spStep C CB) := by
  refine F.okX scStep (fun vs H Q E h => ?_) (fun cdv A outer s H vs Q E hr h => ?_)
  · obtain ⟨H0, p, dx, b, l, bs, a, op, rfl, _⟩ := h
    rfl
  · obtain ⟨H0, p, dx, b, l, bs, a, op, rfl, S, q1, q2⟩ := h
    have hr1 : Room 1 _ := hr.mono (by decide)
    refine ⟨_, pss_cons (ps_par (i := 1) (j := 2) (by rfl) scStep.nd rfl rfl (by decide) rfl rfl (pa_cons (pe_md0 MW R.c hr (passes_call (takes_of rfl rfl rfl rfl) fun _ _ _ _ h => h) (pv 0)) (pa_cons (pe_md0 MN R.c hr (passes_call (takes_of rfl rfl rfl rfl) fun _ _ _ _ h => h) (pv 0)) pa_nil)) (by rfl))
      (pss_cons (ps_if (PW.pt (pw_and (pt_cmpR op_eq (pv 1) (pe_gi (by rfl) T.cTuple) (nomark _)) (pw_and1 (pt_cmpR op_gt (pv 2) pe_int (nomark _)))))
        (pss_cons (ps_expr (pe_bm PySem.F.plainAttrs_list PySem.F.slot_list_append PySem.F.type_list_append mt_append (pe_fld (pv 0) rfl) (pa_cons (pe_tup (pa_cons (pv 2) (pa_cons (pe_lst pa_nil) pa_nil))) pa_nil))) (pss_one (ps_ret (pe_tup pa_nil)))) pss_nil)
      (pss_cons (ps_if (pt_cmpR op_eq (pv 1) (pe_gi (by rfl) T.cNumber) (nomark _)) (pss_one (ps_ret (pe_md MC R.c hr1 pass0 (pv 0) (pa_cons (pv 2) pa_nil)))) pss_nil)
      (pss_one (ps_ret (pe_md MC R.c hr1 pass0 (pv 0) (pa_cons (pe_ifExp (pt_cmpR op_eq (pv 1) (pe_gi (by rfl) T.cString) (nomark _)) (pe_md MS R.c hr (passes_call (takes_of rfl rfl rfl rfl) fun _ _ _ _ h => h) (pv 0) (pa_cons (pv 2) pa_nil)) (pe_tup pa_nil)) pa_nil)))))), ?_⟩
    obtain ⟨tms, hl, ho, nd⟩ := S.ex
    have hlen : (List.map (fun q => V.ref q.1) tms).reverse.length = op.length := by
      rw [List.length_reverse, List.length_map]
      exact ho.len
    have nof : ∀ a, (rf b l a).lookup ("word" : Str) = none ∧ (rf b l a).lookup ("number" : Str) = none ∧ (rf b l a).lookup ("string" : Str) = none ∧ (rf b l a).lookup ("closed" : Str) = none := fun a =>
      ⟨rf_no (by decide +kernel) (by decide +kernel) (by decide +kernel) _ _ _, rf_no (by decide +kernel) (by decide +kernel) (by decide +kernel) _ _ _, rf_no (by decide +kernel) (by decide +kernel) (by decide +kernel) _ _ _, rf_no (by decide +kernel) (by decide +kernel) (by decide +kernel) _ _ _⟩
    unfold stepM at q1 q2
    refine ⟨_, rfl, p, dx, _, rfl, S.rp.hp, (nof _).1, H0, p, dx, b, l, bs, a, _, rfl, S.rp, hl, fun c => ?_, fun c => ⟨fun c1 => ?_, fun c1 => ⟨fun c2 => ?_, fun c2 H1 mv1 hp1 => ?_⟩⟩⟩
    · rw [if_pos c] at q2
      exact q2 _ _ rfl
    · rw [if_neg (by omega), if_pos c1] at q2
      exact q2 _ _ rfl
    · rw [hlen] at c2
      rw [if_neg (by omega), if_neg c1, if_pos c2] at q2
      exact q2 _ _ rfl
    · rw [hlen] at c2
      rw [if_neg (by omega), if_neg c1, if_neg c2] at q1 q2
      have S1 := S.mv mv1 hp1 c
      refine ⟨_, rfl, p, dx, _, rfl, hp1, (nof _).2.1, H0, p, dx, b, l, bs, a + 1, rfl, S1.rp, fun c3 H2 mv2 hp2 => ?_, fun c3 => ?_⟩
      · have c3' : ¬ bs.length < a + 3 := by omega
        rw [if_neg c3'] at q1 q2
        have S2 := S1.mv mv2 hp2 c3
        have hn1 := S.rp.byt (bs.getD (a + 1) 0) (by simp [List.getD, show a + 1 < bs.length by omega])
        have hn2 := S.rp.byt (bs.getD (a + 2) 0) (by simp [List.getD, show a + 2 < bs.length by omega])
        have hnum : bs.getD (a + 1) 0 * 256 + bs.getD (a + 1 + 1) 0 = ((numM bs a : Nat) : Int) := by
          unfold numM
          rw [Int.toNat_of_nonneg (by omega)]
        have hnum2 : numM bs a ≤ 65535 := by
          have : ((numM bs a : Nat) : Int) ≤ 65535 := by
            rw [← hnum]
            show bs.getD (a + 1) 0 * 256 + bs.getD (a + 2) 0 ≤ 65535
            omega
          omega
        rw [hnum]
        refine ⟨_, _, rfl, ?_⟩
        obtain ⟨tms2, hl2, ho2, nd2⟩ := S2.ex
        have scm : ∀ (m : Nat), decide (V.int (bs.getD a 0) = V.int (m : Int)) = decide (bs.getD a 0 = (m : Int)) := fun m => by
          by_cases h : bs.getD a 0 = (m : Int)
          · rw [decide_eq_true h, decide_eq_true (by rw [h])]
          · rw [decide_eq_false h, decide_eq_false (fun e => h (V.int.inj e))]
        refine ⟨_, rfl, rfl, _, rfl, ?_⟩
        have rest : ¬ (bs.getD a 0 = 3 ∧ 0 < numM bs a) → (bs.getD a 0 = 1 → ∀ H' t, Sta C H0 H' p dx b l bs (a + 3) (feed op (.int (numM bs a))).1 → RTup H' t (feed op (.int (numM bs a))).2 → Q (.ref t) H') ∧
            (bs.getD a 0 ≠ 1 → bs.getD a 0 = 2 → (∀ a' cs, strM bs (numM bs a) (a + 3) [] = .inl (a', cs) → ∀ H' t, Sta C H0 H' p dx b l bs a' (feed op (.str cs)).1 → RTup H' t (feed op (.str cs)).2 → Q (.ref t) H') ∧ (∀ a' w, strM bs (numM bs a) (a + 3) [] = .inr (a', w) → Bad E CB H0 a' w)) ∧
            (bs.getD a 0 ≠ 1 → bs.getD a 0 ≠ 2 → ∀ H' t, Sta C H0 H' p dx b l bs (a + 3) (feed op (.tup [])).1 → RTup H' t (feed op (.tup [])).2 → Q (.ref t) H')   := fun c4 => by
          rw [if_neg c4] at q1 q2
          refine ⟨fun h => ?_, fun h h2 => ?_, fun h h2 => ?_⟩
          · rw [if_pos h] at q1
            exact q1 _ _ _ rfl
          · rw [if_neg h, if_pos h2] at q1 q2
            refine ⟨fun a' cs hs => ?_, fun a' w hs => ?_⟩
            · rw [hs] at q1
              exact q1 _ _ _ rfl
            · rw [hs] at q2
              exact q2 _ _ rfl
          · rw [if_neg h, if_neg h2] at q1
            exact q1 _ _ _ rfl
        have hlen2 : (List.map (fun q => V.ref q.1) tms2).reverse.length = op.length := by
          rw [List.length_reverse, List.length_map]
          exact ho2.len
        by_cases c4 : bs.getD a 0 = 3 ∧ 0 < numM bs a
        · rw [if_pos c4] at q1
          have e1 : decide (V.int (bs.getD a 0) = V.int 3) = true := by rw [show (3 : Int) = ((3 : Nat) : Int) from rfl, scm 3]; exact decide_eq_true c4.1
          rw [e1]
          refine iteT ⟨_, rfl, _, _, rfl, rfl, _, rfl, ?_⟩
          have e2 : decide ((0 : Int) < ((numM bs a : Nat) : Int)) = true := decide_eq_true (by omega)
          rw [e2]
          refine iteT ⟨_, rfl, p, C, dx, _, _, rfl, hp2, R.c, R.nO, rf_O _ _ _, .inl ⟨rfl, _, SqL.of hl2⟩, _, rfl, Nat.zero_le _, fun m hm => ⟨by show 2 ≤ sizeLine; decide, fun t ht => ?_⟩⟩
          have hl3 : ∀ o, (upd H2 m o) l = some (.lst (List.map (fun q => V.ref q.1) tms2).reverse) := fun o => by rw [upd_ne (ne_of_none hl2 hm)]; exact hl2
          have hl4 : ∀ o2, (upd (upd H2 m (.lst [])) t o2) l = some (.lst (List.map (fun q => V.ref q.1) tms2).reverse) := fun o2 => by rw [upd_ne (ne_of_none (hl3 _) ht)]; exact hl3 _
          have hmt : m ≠ t := ne_of_none upd_same ht
          have hlm : l ≠ m := ne_of_none hl2 hm
          have hlt : l ≠ t := ne_of_none (hl3 _) ht
          have ok2 := S2.ok
          refine ⟨l, _, _, rfl, rfl, hl4 _, by rw [hlen2, PySem.sizeLine_eq]; have := ok2.1; omega, Nat.zero_le _, fun t2 ht2 => ?_⟩
          have sm : Same H2 (upd (upd H2 m (.lst [])) t (.tup [.int ((numM bs a : Nat) : Int), .ref m])) := (Same.new hm).trans (Same.new ht)
          have S3 := S2.same sm
          have rp3 := S3.rp
          have hls := ho2.lsts
          have tp4 : Tp (upd (upd H2 m (.lst [])) t (.tup [.int ((numM bs a : Nat) : Int), .ref m])) (upd (upd (upd H2 m (.lst [])) t (.tup [.int ((numM bs a : Nat) : Int), .ref m])) l (.lst ((List.map (fun q => V.ref q.1) tms2).reverse ++ [V.ref t]))) := .lst (hl4 _)
          have S4 : Sta C H0 (upd (upd (upd H2 m (.lst [])) t (.tup [.int ((numM bs a : Nat) : Int), .ref m])) l (.lst ((List.map (fun q => V.ref q.1) tms2).reverse ++ [V.ref t]))) p dx b l bs (a + 3) ((numM bs a, []) :: op) := by
            have hlp : l ≠ p := fun z => by
              rw [z, hp2] at hl2
              cases hl2
            have h20 : op.length < 20 := by
              have h1 := ok2.1
              have h2 : op.length ≠ 20 := fun z => c2 ⟨c4.1, z⟩
              omega
            refine ⟨⟨rp3.same.put S2.l0, rp3.p0, by rw [upd_ne hlp.symm]; exact rp3.hp, tp4 _ _ rp3.hb, rp3.byt, rp3.len, rp3.at_⟩, S2.l0, ⟨h20, fun x hx => ?_⟩, (t, m) :: tms2, by rw [upd_same]; simp, .cons ?_ (S2.rp.free hm) ?_ rfl rfl ((ho2.tp (Tp.same sm) fun q _ xs e => sm _ _ e).tp tp4 fun q hq xs e => ?_), ?_⟩
            · rcases List.mem_cons.mp hx with hx | hx
              · rw [hx]
                exact ⟨c4.2, hnum2⟩
              · exact ok2.2 x hx
            · rw [upd_ne hlt.symm, upd_same]
            · rw [upd_ne hlm.symm, upd_ne hmt, upd_same]
            · rw [upd_ne (fun z => (List.nodup_cons.mp nd2).1 (by rw [← z]; exact List.mem_map.mpr ⟨q, hq, rfl⟩))]
              exact e
            · have nm : m ∉ tms2.map (·.2) := fun h => by
                obtain ⟨q, hq, e⟩ := List.mem_map.mp h
                obtain ⟨xs, hx⟩ := hls q hq
                have e : q.2 = m := e
                rw [e, hm] at hx
                cases hx
              simp only [List.map_cons, List.nodup_cons, List.mem_cons, not_or] at nd2 ⊢
              exact ⟨⟨hlm, nd2.1⟩, nm, nd2.2⟩
          exact q1 _ _ _ rfl _ t2 (S4.same (Same.new ht2)) upd_same
        · obtain ⟨r1, r2, r3⟩ := rest c4
          rcases Classical.em (bs.getD a 0 = 3) with c5 | c5
          case' inl =>
            have e1 : decide (V.int (bs.getD a 0) = V.int 3) = true := by rw [show (3 : Int) = ((3 : Nat) : Int) from rfl, scm 3]; exact decide_eq_true c5
            have e2 : decide ((0 : Int) < ((numM bs a : Nat) : Int)) = false := decide_eq_false (fun h => c4 ⟨c5, by omega⟩)
            rw [e1]
            refine iteT ⟨_, rfl, _, _, rfl, rfl, _, rfl, ?_⟩
            rw [e2]
            refine iteF ?_
          case' inr =>
            have e1 : decide (V.int (bs.getD a 0) = V.int 3) = false := by rw [show (3 : Int) = ((3 : Nat) : Int) from rfl, scm 3]; exact decide_eq_false c5
            rw [e1]
            refine iteF (iteF ?_)
          all_goals
            refine ⟨_, rfl, rfl, _, rfl, ?_⟩
            by_cases c6 : bs.getD a 0 = 1
            · have e3 : decide (V.int (bs.getD a 0) = V.int 1) = true := by rw [show (1 : Int) = ((1 : Nat) : Int) from rfl, scm 1]; exact decide_eq_true c6
              rw [e3]
              exact iteT ⟨_, rfl, p, dx, _, rfl, hp2, (nof _).2.2.2, _, rfl, H0, p, dx, b, l, bs, a + 3, op, _, .int ((numM bs a : Nat) : Int), rfl, S2, rfl, rfl, r1 c6⟩
            · have e3 : decide (V.int (bs.getD a 0) = V.int 1) = false := by rw [show (1 : Int) = ((1 : Nat) : Int) from rfl, scm 1]; exact decide_eq_false c6
              rw [e3]
              refine iteF ⟨_, rfl, p, dx, _, rfl, hp2, (nof _).2.2.2, _, rfl, rfl, _, rfl, ?_⟩
              by_cases c7 : bs.getD a 0 = 2
              · have e4 : decide (V.int (bs.getD a 0) = V.int 2) = true := by rw [show (2 : Int) = ((2 : Nat) : Int) from rfl, scm 2]; exact decide_eq_true c7
                rw [e4]
                obtain ⟨g1, g2⟩ := r2 c6 c7
                refine iteT ⟨_, rfl, p, dx, _, rfl, hp2, (nof _).2.2.1, _, rfl, H0, p, dx, b, l, bs, a + 3, numM bs a, rfl, hnum2, S2.rp, fun a' cs hs H3 mv3 hp3 => ?_, g2⟩
                exact ⟨H0, p, dx, b, l, bs, a', op, _, .str cs, rfl, S2.mv mv3 hp3 (strM_good _ _ _ _ _ hs c3), rfl, rfl, g1 a' cs hs⟩
              · have e4 : decide (V.int (bs.getD a 0) = V.int 2) = false := by rw [show (2 : Int) = ((2 : Nat) : Int) from rfl, scm 2]; exact decide_eq_false c7
                rw [e4]
                refine iteF ⟨Nat.zero_le _, fun t ht => ?_⟩
                exact ⟨H0, p, dx, b, l, bs, a + 3, op, _, .tup [], rfl, S2.same (Same.new ht), ⟨t, [], rfl, upd_same, rfl⟩, rfl, r3 c6 c7⟩
      · have c3' : bs.length < a + 3 := by omega
        rw [if_pos c3'] at q2
        exact q2 _ _ rfl
/-! ### whole -/
def spWhole (C CB : Addr) : Sp := fun vs H Q E => ∃ (H0 : Hp) (p dx b l : Addr) (bs : List Int) (a : Nat) (op : Op) (n : Nat) (r : D ⊕ (Nat × Str)), vs = [.ref p] ∧ Sta C H0 H p dx b l bs a op ∧ K14.Ends bs n a op r ∧
  (∀ d, r = .inl d → ∀ v H', Same H0 H' → Rep H' v d → Q v H') ∧ (∀ a' w, r = .inr (a', w) → Bad E CB H0 a' w)
theorem scWhole : FnScope ["self", "found"] ["self"] (defScope sWhole) := ⟨rfl, rfl, rfl, by decide +kernel, rfl, by decide +kernel, by decide +kernel⟩
theorem ok_whole (F : Fun K "whole" "Reader.whole" sWhole f fd) (R : Rdr K C) (T : Txt mg) (X : Errs P w K mg CR CB) (M : Md P w K mg base (L2.CX P w) 4 C "step" ["self"] (spStep C CB)) : FnOk P w K mg base (L2.CX P w) 5 f fd ["self"] (spWhole C CB) := by
  refine F.okX scWhole (fun vs H Q E h => ?_) (fun cdv A outer s H vs Q E hr h => ?_)
  · obtain ⟨H0, p, dx, b, l, bs, a, op, n, r, rfl, _⟩ := h
    rfl
  · obtain ⟨H0, p, dx, b, l, bs, a, op, n, r, rfl, S, hE, q1, q2⟩ := h
    refine ⟨_, pss_cons (ps_set (i := 1) scWhole.nd rfl (Or.inl rfl) (pe_tup pa_nil))
      (pss_cons (ps_while (passes_of rfl) (pt_cmpR (op_eqE hr.units0) (pv 1) (pe_tup pa_nil) (nomark _)) (pss_one (ps_set (i := 1) scWhole.nd rfl (Or.inl rfl) (pe_md0 M R.c hr (passes_call (takes_of rfl rfl rfl rfl) fun _ _ _ _ h => h) (pv 0)))))
      (pss_cons (ps_if (pt_cmpR op_lt (pe_fld (pv 0) rfl) (pe_callB call_len_seq (by rfl) T.len PySem.boot_len (pa_cons (pe_fld (pv 0) rfl) pa_nil)) (nomark _)) (pss_one (ps_raise rfl (takes_of rfl rfl rfl rfl) (pmk_err X.mB hr X.sup X.gB (pa_cons (pe_fld (pv 0) rfl) (pa_cons pe_str pa_nil))))) pss_nil)
      (pss_one (ps_ret (pe_ix ix_tup (pv 1) pe_int (fun _ _ => rfl)))))), ?_⟩
    refine ⟨Nat.zero_le _, fun t ht => ?_⟩
    let W : Nat → L2.St → Hp → Prop := fun m σ H' => ∃ (t a' : Nat) (op' : Op), σ = [some (.ref p), some (.ref t)] ∧ Sta C H0 H' p dx b l bs a' op' ∧
      ((∃ n', m = n' + 1 ∧ K14.Ends bs n' a' op' r ∧ H' t = some (.tup [])) ∨ (∃ v d, m = 0 ∧ H' t = some (.tup [v]) ∧ Rep H' v d ∧ r = if a' < bs.length then .inr (a', "more") else .inl d))
    refine ⟨W, ⟨n + 1, t, a, op, rfl, S.same (Same.new ht), .inl ⟨n, rfl, hE, upd_same⟩⟩, ?_⟩
    rintro m σ H' ⟨t, a', op', rfl, S1, hc⟩
    rcases hc with ⟨n', rfl, hE', hT⟩ | ⟨v, d, rfl, hT, hRp, hr'⟩
    · refine ⟨_, rfl, Nat.zero_le _, fun t2 ht2 => ⟨t, t2, [], rfl, rfl, SqT.of (by rw [upd_ne (ne_of_none hT ht2)]; exact hT), SqT.of upd_same, _, rfl, iteT ⟨fun σ' H' => ∃ m', m' < n' + 1 ∧ W m' σ' H', fun _ _ h => h, ?_⟩⟩⟩
      have S2 := S1.same (Same.new (o := .tup []) ht2)
      refine ⟨_, rfl, p, dx, _, rfl, S2.rp.hp, rf_no (by decide +kernel) (by decide +kernel) (by decide +kernel) _ _ _, H0, p, dx, b, l, bs, a', op', rfl, S2, fun a2 op2 r2 hs H3 t3 S3 hT3 => ?_, fun a2 w hs => ?_⟩
      · cases hE' with
        | bad h => rw [h] at hs; cases hs
        | @more n2 _ _ _ _ _ h t4 =>
          rw [h] at hs
          cases hs
          exact ⟨n2 + 1, Nat.lt_succ_self _, t3, a2, op2, rfl, S3, .inl ⟨n2, rfl, t4, hT3⟩⟩
        | fin h e =>
          rw [h] at hs
          cases hs
          obtain ⟨v, hv, hrv, hnl⟩ := hT3
          exact ⟨0, Nat.succ_pos _, t3, a2, op2, rfl, S3, .inr ⟨v, _, rfl, hv, hrv, by rw [if_neg e]⟩⟩
        | rest h e =>
          rw [h] at hs
          cases hs
          obtain ⟨v, hv, hrv, hnl⟩ := hT3
          exact ⟨0, Nat.succ_pos _, t3, a2, op2, rfl, S3, .inr ⟨v, _, rfl, hv, hrv, by rw [if_pos e]⟩⟩
      · cases hE' with
        | bad h =>
          rw [h] at hs
          cases hs
          exact q2 _ _ rfl
        | more h t4 => rw [h] at hs; cases hs
        | fin h e => rw [h] at hs; cases hs
        | rest h e => rw [h] at hs; cases hs
    · refine ⟨_, rfl, Nat.zero_le _, fun t2 ht2 => ⟨t, t2, [v], rfl, rfl, SqT.of (by rw [upd_ne (ne_of_none hT ht2)]; exact hT), SqT.of upd_same, _, rfl, iteF ?_⟩⟩
      have S2 := S1.same (Same.new (o := .tup []) ht2)
      have hT2 : (upd H' t2 (.tup [])) t = some (.tup [v]) := by rw [upd_ne (ne_of_none hT ht2)]; exact hT
      refine ⟨_, rfl, p, C, dx, _, _, rfl, S2.rp.hp, R.c, R.nA, rf_A _ _ _, _, rfl, p, C, dx, _, _, rfl, S2.rp.hp, R.c, R.nB, rf_B _ _ _, b, _, rfl, .inr (SqT.of S2.rp.hb), _, _, rfl, rfl, _, rfl, ?_⟩
      by_cases c : a' < bs.length
      · have e : decide (((a' : Nat) : Int) < (((bs.map V.int).length : Nat) : Int)) = true := decide_eq_true (by rw [List.length_map]; omega)
        rw [e]
        rw [if_pos c] at hr'
        refine iteT ⟨_, rfl, p, C, dx, _, _, rfl, S2.rp.hp, R.c, R.nA, rf_A _ _ _, rfl, fun e he => ?_⟩
        exact q2 _ _ hr' e _ (S2.rp.same.trans (Same.new he)) (S2.rp.free he) upd_same
      · have e : decide (((a' : Nat) : Int) < (((bs.map V.int).length : Nat) : Int)) = false := decide_eq_false (by rw [List.length_map]; omega)
        rw [e]
        rw [if_neg c] at hr'
        refine iteF ⟨_, rfl, t, _, _, v, rfl, rfl, SqT.of hT2, rfl, ?_⟩
        exact q1 d hr' v _ S2.rp.same (hRp.same (Same.new ht2))
/-! ### unpacked -/
abbrev sUnp : Stmt := top 25
def spUnp (CB : Addr) : Sp := fun vs H Q E => ∃ (b : Addr) (bs : List Int) (n : Nat) (r : D ⊕ (Nat × Str)), vs = [.ref b] ∧ H b = some (.tup (bs.map V.int)) ∧ (∀ n ∈ bs, 0 ≤ n ∧ n ≤ 255) ∧ bs.length ≤ 16777216 ∧ K14.Ends bs n 0 [] r ∧
  (∀ d, r = .inl d → ∀ v H', Same H H' → Rep H' v d → Q v H') ∧ (∀ a' w, r = .inr (a', w) → Bad E CB H a' w)
theorem scUnp : FnScope ["some"] ["some"] (defScope sUnp) := ⟨rfl, rfl, rfl, by decide +kernel, rfl, by decide +kernel, by decide +kernel⟩
theorem ok_unp {fI : Addr} {fdI : FuncData} (F : Fun K "unpacked" "unpacked" sUnp f fd) (R : Rdr K C) (mR : mg "Reader" = some (.ref C)) (D1 : Fd P w K mg base CX0 4 "are_bytes" ["thing"] spBytes)
    (Mm : Mk K C fI) (GI : FnOk P w K mg base CX0 1 fI fdI ["self", "some"] (spInit C)) (bI : Binds K fdI ["self", "some"] []) (M : Md P w K mg base (L2.CX P w) 5 C "whole" ["self"] (spWhole C CB)) : FnOk P w K mg base (L2.CX P w) 6 f fd ["some"] (spUnp CB) := by
  refine F.okX scUnp (fun vs H Q E h => ?_) (fun cdv A outer s H vs Q E hr h => ?_)
  · obtain ⟨b, bs, n, r, rfl, _⟩ := h
    rfl
  · obtain ⟨b, bs, n, r, rfl, hb, hby, hz, hE, q1, q2⟩ := h
    refine ⟨_, pss_cons (ps_if (pt_not (pt_val (pe_fd D1 (hr.mono (by decide)) (by rfl) (pa_cons (pv 0) pa_nil)))) (pss_one ps_never) pss_nil)
      (pss_one (ps_ret (pe_md0 M R.c hr (passes_call (takes_of rfl rfl rfl rfl) fun _ _ _ _ h => h) (pe_make Mm GI (hr.mono (by decide)) (by rfl) mR bI .nil pass0 (pa_cons (pv 0) pa_nil))))), ?_⟩
    refine ⟨_, rfl, b, bs, rfl, hb, hz, hby, fun H1 s1 => ⟨_, rfl, iteF ⟨_, rfl, fun p dx hp hdx ne => ?_⟩⟩⟩
    have hb1 := s1 _ _ hb
    have hbp : b ≠ p := ne_of_none hb1 hp
    have hbd : b ≠ dx := ne_of_none hb1 hdx
    have s2 : ∀ o o2, Same H1 (upd (upd H1 dx o) p o2) := fun o o2 => ((Same.refl H1).put hdx).put hp
    refine ⟨p, b, dx, rfl, upd_same, fun l hl H2 mv hp2 hl2 => ⟨rfl, ?_⟩⟩
    have hlp : l ≠ p := fun z => by
      rw [z, hp2] at hl2
      cases hl2
    have sm2 : Same H1 H2 := mv.same (s2 _ _) hp
    refine ⟨p, dx, _, rfl, hp2, rf_no (by decide +kernel) (by decide +kernel) (by decide +kernel) _ _ _, H1, p, dx, b, l, bs, 0, [], n, r, rfl, ⟨⟨sm2, hp, hp2, sm2 _ _ hb1, hby, hz, Nat.zero_le _⟩, (s2 _ _).free hl, ⟨Nat.zero_le _, fun x hx => by cases hx⟩, [], hl2, .nil, by simp⟩, hE, fun d hd v H' s' hr' => q1 d hd v H' (s1.trans s') hr', fun a' w hw e H' s' he h' => q2 a' w hw e H' (s1.trans s') (s1.free he) h'⟩
end
end K14
/-! the law's own helps: bag, take, some -/
namespace L2
open PySem PySem.Spec PyProof.Rows
section
variable {X : Cx}
/-- xs[k] as the read of xs[k] op= e, k not negative -/
theorem gt_list : PGet X (fun o i H Q => ∃ p xs k v, o = .ref p ∧ i = .int k ∧ SqL X.K H p xs ∧ 0 ≤ k ∧ atI xs k = some v ∧ Q v H) := by
  intro pins s σ H o i ov iv Q I ro ri h
  obtain ⟨p, xs, k, z, rfl, rfl, hq, h0, he, q⟩ := h
  cases ro
  obtain ⟨t, rfl⟩ := ri
  obtain ⟨its, r, pl, hz⟩ := I.list hq
  obtain ⟨j, h1, h2, h3, h4, h5⟩ := atI_get he
  obtain ⟨w, ew, rw'⟩ := r.get h2
  have hn := line63
  have hl := r.length
  have hj : k.toNat = j := by
    rw [seqIndex_of h0 h5] at h1
    exact Option.some.inj h1
  exact wpAny_getItem_list pl.isList h0 (by omega) (by rw [hj]; simpa using ew) ⟨z, H, I, rw', q⟩
end
end L2
namespace K14
open PySem L2
abbrev sBag : Stmt := top 27
abbrev sTake : Stmt := top 28
abbrev sSome : Stmt := top 29
theorem cut_ints (ns : List Int) (lo hi : Option Int) : ∃ cs : List Int, cutV (ns.map V.int) lo hi = cs.map V.int ∧ cs.length ≤ ns.length := by
  refine ⟨(ns.drop (HT.sIx (ns.map V.int).length 0 lo)).take (HT.sIx (ns.map V.int).length (ns.map V.int).length hi - HT.sIx (ns.map V.int).length 0 lo), ?_, ?_⟩
  · unfold cutV
    rw [List.map_take, List.map_drop]
  · rw [List.length_take, List.length_drop]
    omega
/-- the bag of draws, its cells at l; at most n draws were made -/
def BagN (H : Hp) (q l : Addr) (n : Nat) : Prop := ∃ (b0 b1 b2 : Int) (cells : List Int), H q = some (.lst [.int b0, .int b1, .int b2, .ref l]) ∧ H l = some (.lst (cells.map V.int)) ∧ 0 ≤ b0 ∧ 0 ≤ b1 ∧ b1 < 2147483647 ∧ 0 ≤ b2 ∧ b2 ≤ (n : Int) ∧ cells.length ≤ 1000
theorem BagN.mono {H : Hp} {q l : Addr} {n m : Nat} (h : n ≤ m) (B : BagN H q l n) : BagN H q l m := by
  obtain ⟨b0, b1, b2, cells, h1, h2, h3, h4, h5, h6, h7, h8⟩ := B
  exact ⟨b0, b1, b2, cells, h1, h2, h3, h4, h5, h6, by omega, h8⟩
theorem BagN.ext {H H' : Hp} {q l : Addr} {n : Nat} (e : Ext H H') (B : BagN H q l n) : BagN H' q l n := by
  obtain ⟨b0, b1, b2, cells, h1, h2, h⟩ := B
  exact ⟨b0, b1, b2, cells, e _ _ h1 (fun _ z => by cases z), e _ _ h2 (fun _ z => by cases z), h⟩
def spBag (K : PySem.W.Frag) : Sp := fun vs H Q _ => ∃ (a : Addr) (ns : List Int), vs = [.ref a] ∧ SqL K H a (ns.map V.int) ∧ ns.length ≤ 63 ∧ ∀ q l H', Same H H' → H q = none → H l = none → BagN H' q l 0 → Q (.ref q) H'
def spTake : Sp := fun vs H Q _ => ∃ (q l : Addr) (m : Int) (n : Nat), vs = [.ref q, .int m] ∧ BagN H q l n ∧ n ≤ 100000 ∧ 1 ≤ m ∧ m < 1073741824 ∧ ∀ v H', 0 ≤ v → v < m → Mv q H H' → BagN H' q l (n + 1) → Q (.int v) H'
def spSome (K : PySem.W.Frag) : Sp := fun vs H Q _ => ∃ (q l a : Addr) (n : Nat) (xs : List V), vs = [.ref q, .ref a] ∧ BagN H q l n ∧ n ≤ 100000 ∧ a ≠ q ∧ H a = some (.lst xs) ∧ xs ≠ [] ∧ xs.length < 1000000 ∧ ∀ x ∈ xs, ∀ H', Mv q H H' → BagN H' q l (n + 1) → Q x H'
section
variable {P : Program} {w : World} {K : PySem.W.Frag} {mg : Str → Option Value} {base : Heap} {f : Addr} {fd : FuncData}
theorem scBag : FnScope ["script", "cell"] ["script"] (defScope sBag) := ⟨rfl, rfl, rfl, by decide +kernel, rfl, by decide +kernel, by decide +kernel⟩
theorem ok_bag (F : Fun K "_law_bag" "_law_bag" sBag f fd) (T : Txt mg) : FnOk P w K mg base CX0 1 f fd ["script"] (spBag K) := by
  refine F.ok scBag (fun vs H Q E h => ?_) (fun cdv A outer s H vs Q E hr h => ?_)
  · obtain ⟨a, ns, rfl, _⟩ := h
    rfl
  · obtain ⟨a, ns, rfl, hS, hz, q⟩ := h
    refine ⟨_, pss_one (ps_ret (pe_lst (pa_cons pe_int (pa_cons pe_int (pa_cons pe_int (pa_cons
      (pe_lc (own := [("cell", 1)]) (g := gName 1) (tt := tYes) rfl scBag.nd (pi_list (pe_slice sl_list (pv 0) po_none (po_some pe_int))) (blkOk_by (own := [("cell", 1)]) (N := ["script", "cell"]) (sc := defScope sBag) (by decide +kernel)) (fun _ _ _ _ _ => pg_name (i := 1) scBag.nd rfl (Or.inl rfl)) (fun _ _ _ _ _ => pts_nil)
        (fun _ _ _ _ _ => pe_callB call_abs (by rfl) T.abs (by decide +kernel) (pa_cons (pv 1) pa_nil))) pa_nil)))))), ?_⟩
    refine ⟨_, rfl, _, rfl, a, _, rfl, hS, fun p hp => ?_⟩
    obtain ⟨cs, ec, hc⟩ := cut_ints ns none (some 63)
    rw [ec]
    refine ⟨p, rfl, ⟨_, SqL.of upd_same⟩, fun D hD => ?_⟩
    refine lcm_list (K := K) (a := p) (xs := cs.map V.int) (cs.map fun c => V.int (if c < 0 then -c else c)) (by simp) hD (SqL.of upd_same) (by rw [List.length_map, PySem.sizeLine_eq]; omega) (fun _ => rfl) (fun i x y H' hx hy _ Q' q' => ?_) ?_
    · rw [List.getElem?_map] at hx hy
      obtain ⟨n, hn, rfl⟩ := Option.map_eq_some_iff.mp hx
      rw [hn] at hy
      cases hy
      exact ⟨_, rfl, n, rfl, q'⟩
    · refine ⟨by show 4 ≤ sizeLine; decide, fun r hr' => ?_⟩
      have hDr : D ≠ r := ne_of_none upd_same hr'
      refine q r D _ (((Same.new hp).trans (Same.new hD)).trans (Same.new hr')) ((Same.new hp).free ((Same.new hD).free hr')) ((Same.new hp).free hD) ⟨0, 1234567891, 0, cs.map (fun c => if c < 0 then -c else c), upd_same, ?_, by decide, by decide, by decide, by decide, by decide, by simp; omega⟩
      rw [upd_ne hDr, upd_same, List.map_map]
      rfl
theorem scTake : FnScope ["bag", "many", "cell", "stirred", "value", "begin", "second"] ["bag", "many"] (defScope sTake) := ⟨rfl, rfl, rfl, by decide +kernel, rfl, by decide +kernel, by decide +kernel⟩
theorem ok_take (F : Fun K "_law_take" "_law_take" sTake f fd) (T : Txt mg) : FnOk P w K mg base CX0 1 f fd ["bag", "many"] spTake := by
  refine F.ok scTake (fun vs H Q E h => ?_) (fun cdv A outer s H vs Q E hr h => ?_)
  · obtain ⟨q, l, m, n, rfl, _⟩ := h
    rfl
  · obtain ⟨q, l, m, n, rfl, B, hn, hm1, hm2, k⟩ := h
    obtain ⟨b0, b1, b2, cells, hq, hl, h0, h1, h2, h3, h4, h5⟩ := B
    have hlq : l ≠ q := fun z => by
      rw [z, hq] at hl
      have e := HO.lst.inj (Option.some.inj hl)
      cases cells with
      | nil => cases e
      | cons c1 r1 => cases r1 with
        | nil => cases e
        | cons c2 r2 => cases r2 with
          | nil => cases e
          | cons c3 r3 => cases r3 with
            | nil => cases e
            | cons c4 r4 => cases e
    -- what stands behind the first if
    obtain ⟨t2, ht2, hr2⟩ : ∃ t2, PSs (cxOf CX0 P w K mg base ["bag", "many", "cell", "stirred", "value", "begin", "second"] "_law_take" (defScope sTake) f cdv A outer s H E).nox ((defBody sTake).drop 1) t2 ∧
        ∀ (H1 : Hp) (c0 c1 c2 : Int) (x2 x3 : Option V) (D : L2.Ends), D.rt = Q → H1 q = some (.lst [.int c0, .int c1, .int c2, .ref l]) → Mv q H H1 → 0 ≤ c0 → 0 ≤ c1 → c1 < 2147483647 → 0 ≤ c2 → c2 ≤ ((n + 1 : Nat) : Int) → t2 D [some (.ref q), some (.int m), x2, x3, none, none, none] H1 := by
      refine ⟨_, pss_cons (ps_if (pt_cmpR op_gt (pe_ix ix_list (pv 0) pe_int (fun _ _ => rfl)) pe_int (nomark _))
          (pss_cons (ps_set (i := 4) scTake.nd rfl (Or.inl rfl) (pe_op op_mod (pe_callTy call_int1 (by rfl) T.int (by decide +kernel) (pa_cons (pe_ix ix_list (pv 0) pe_int (fun _ _ => rfl)) pa_nil)) (pv 1)))
          (pss_cons (ps_asg (pe_op op_fdiv (pe_callTy call_int1 (by rfl) T.int (by decide +kernel) (pa_cons (pe_ix ix_list (pv 0) pe_int (fun _ _ => rfl)) pa_nil)) (pv 1)) (pg_sub (pv 0) pe_int set_list))
          (pss_one (ps_ret (pv 4))))) pss_nil)
        (pss_cons (ps_set (i := 5) scTake.nd rfl (Or.inl rfl) (pe_op op_mod (pe_callTy call_int1 (by rfl) T.int (by decide +kernel) (pa_cons (pe_op op_mul (pe_op op_add (pe_ix ix_list (pv 0) pe_int (fun _ _ => rfl)) pe_int) pe_int) pa_nil)) pe_int))
        (pss_cons (ps_set (i := 6) scTake.nd rfl (Or.inl rfl) (pe_op op_mod (pe_callTy call_int1 (by rfl) T.int (by decide +kernel) (pa_cons (pe_op op_mul (pe_op op_mod (pe_callTy call_int1 (by rfl) T.int (by decide +kernel) (pa_cons (pe_op op_mul (pv 5) (pv 5)) pa_nil)) pe_int) pe_int) pa_nil)) pe_int))
        (pss_one (ps_ret (pe_op op_mod (pe_callTy call_int1 (by rfl) T.int (by decide +kernel) (pa_cons (pe_op op_fdiv (pv 6) pe_int) pa_nil)) (pv 1)))))), ?_⟩
      intro H1 c0 c1 c2 x2 x3 D hD hq1 mv g0 g1 g2 g3 g4
      have hl1 : H1 l = some (.lst (cells.map V.int)) := mv _ _ hlq hl
      refine ⟨_, rfl, q, _, _, _, rfl, rfl, SqL.of hq1, rfl, _, _, rfl, rfl, _, rfl, ite2 (fun hc => ?_) (fun hc => ?_)⟩
      · refine ⟨_, rfl, q, _, _, _, rfl, rfl, SqL.of hq1, rfl, .inl ⟨_, rfl, _, rfl, _, _, rfl, rfl, by show (0 : Int) < m; omega, ?_⟩⟩
        refine ⟨_, rfl, q, _, _, _, rfl, rfl, SqL.of hq1, rfl, .inl ⟨_, rfl, _, rfl, _, _, rfl, rfl, ⟨by omega, by omega⟩, ?_⟩⟩
        refine ⟨_, rfl, q, _, _, 0, rfl, rfl, hq1, rfl, _, rfl, ?_⟩
        rw [hD]
        have hmod := Int.emod_lt_of_pos c0 (show (0 : Int) < m by omega)
        exact k _ _ (Int.emod_nonneg _ (by omega)) hmod mv.put ⟨c0 / m, c1, c2, cells, upd_same, by rw [upd_ne hlq]; exact hl1, Int.ediv_nonneg g0 (by omega), g1, g2, g3, g4, h5⟩
      · refine ⟨_, rfl, q, _, _, _, rfl, rfl, SqL.of hq1, rfl, _, _, rfl, rfl, _, _, rfl, rfl, .inl ⟨by omega, by omega⟩, .inl ⟨_, rfl, _, _, rfl, rfl, by show (0 : Int) < 1000000007; decide, ?_⟩⟩
        have m1 := Int.emod_lt_of_pos ((c1 + 1) * 39373) (show (0 : Int) < 1000000007 by decide)
        have m2 := Int.emod_nonneg ((c1 + 1) * 39373) (show (1000000007 : Int) ≠ 0 by decide)
        refine ⟨_, rfl, _, rfl, _, _, rfl, rfl, .inl ⟨by omega, by omega⟩, .inl ⟨_, rfl, _, _, rfl, rfl, by show (0 : Int) < 998244353; decide, ?_⟩⟩
        have m3 := Int.emod_lt_of_pos ((c1 + 1) * 39373 % 1000000007 * ((c1 + 1) * 39373 % 1000000007)) (show (0 : Int) < 998244353 by decide)
        have m4 := Int.emod_nonneg ((c1 + 1) * 39373 % 1000000007 * ((c1 + 1) * 39373 % 1000000007)) (show (998244353 : Int) ≠ 0 by decide)
        refine ⟨_, _, rfl, rfl, .inl ⟨by omega, by omega⟩, .inl ⟨_, rfl, _, _, rfl, rfl, by show (0 : Int) < 998244353; decide, ?_⟩⟩
        refine ⟨_, rfl, _, _, rfl, rfl, ⟨by decide, by decide⟩, .inl ⟨_, rfl, _, rfl, _, _, rfl, rfl, by show (0 : Int) < m; omega, ?_⟩⟩
        rw [hD]
        exact k _ _ (Int.emod_nonneg _ (by omega)) (Int.emod_lt_of_pos _ (by omega)) mv ⟨c0, c1, c2, cells, hq1, hl1, g0, g1, g2, g3, g4, h5⟩
    -- the end of the first if's suite
    obtain ⟨t3, ht3, hr3⟩ : ∃ t3, PSs (cxOf CX0 P w K mg base ["bag", "many", "cell", "stirred", "value", "begin", "second"] "_law_take" (defScope sTake) f cdv A outer s H E).nox (match (defBody sTake).head? with | some (.If _ b _ _) => b.drop 3 | _ => []) t3 ∧
        ∀ (H1 : Hp) (c0 c1 c2 c : Int) (D : L2.Ends), (∀ H2 d1 x3, H2 q = some (.lst [.int c0, .int d1, .int c2, .ref l]) → Mv q H H2 → 0 ≤ d1 → d1 < 2147483647 → D.nx [some (.ref q), some (.int m), some (.int c), x3, none, none, none] H2) → H1 q = some (.lst [.int c0, .int c1, .int c2, .ref l]) → Mv q H H1 → 0 ≤ c1 → c1 < 2147483647 → 0 ≤ c2 → c2 ≤ ((n + 1 : Nat) : Int) →
          t3 D [some (.ref q), some (.int m), some (.int c), none, none, none, none] H1 := by
      refine ⟨_, pss_cons (ps_set (i := 3) scTake.nd rfl (Or.inl rfl) (pe_op op_add (pe_op op_add (pe_op op_mul (pe_ix ix_list (pv 0) pe_int (fun _ _ => rfl)) pe_int) (pe_op op_mod (pe_callTy call_int1 (by rfl) T.int (by decide +kernel) (pa_cons (pv 2) pa_nil)) pe_int)) (pe_op op_mul pe_int (pe_ix ix_list (pv 0) pe_int (fun _ _ => rfl)))))
        (pss_one (ps_asg (pe_op op_mod (pe_callTy call_int1 (by rfl) T.int (by decide +kernel) (pa_cons (pv 3) pa_nil)) pe_int) (pg_sub (pv 0) pe_int set_list))), ?_⟩
      intro H1 c0 c1 c2 c D hD hq1 mv g1 g2 g3 g4
      refine ⟨_, rfl, q, _, _, _, rfl, rfl, SqL.of hq1, rfl, _, _, rfl, rfl, .inl ⟨by omega, by omega⟩, _, rfl, .inl ⟨_, rfl, _, _, rfl, rfl, by show (0 : Int) < 2147483647; decide, _, _, rfl, rfl, ?_⟩⟩
      refine ⟨_, rfl, q, _, _, _, rfl, rfl, SqL.of hq1, rfl, _, _, rfl, rfl, .inl ⟨by decide, by decide⟩, _, _, rfl, rfl, ?_⟩
      refine ⟨_, rfl, .inl ⟨_, rfl, _, _, rfl, rfl, by show (0 : Int) < 2147483647; decide, ?_⟩⟩
      refine ⟨_, rfl, q, _, _, 1, rfl, rfl, hq1, rfl, ?_⟩
      exact hD _ _ _ upd_same mv.put (Int.emod_nonneg _ (by decide)) (Int.emod_lt_of_pos _ (by decide))
    refine ⟨_, pss_cons (ps_if (pt_cmpR op_eq (pe_ix ix_list (pv 0) pe_int (fun _ _ => rfl)) pe_int (nomark _))
        (pss_cons (ps_set (i := 2) scTake.nd rfl (Or.inl rfl) (pe_ix ix_list (pe_op op_cat (pe_slice sl_list (pe_ix ix_list (pv 0) pe_int (fun _ _ => rfl)) (po_some (pe_ix ix_list (pv 0) pe_int (fun _ _ => rfl))) po_none) (pe_lst (pa_cons pe_int pa_nil))) pe_int (fun _ _ => rfl)))
        (pss_cons (ps_augS (pv 0) pe_int gt_list pe_int ip_add set_list)
        (pss_cons (ps_if (pt_cmpR op_ge (pv 2) (pe_op op_pow pe_int pe_int) (nomark _)) (pss_one (ps_asg (pv 2) (pg_sub (pv 0) pe_int set_list))) pss_nil)
        ht3))) pss_nil) ht2, ?_⟩
    refine ⟨_, rfl, q, _, _, _, rfl, rfl, SqL.of hq, rfl, rfl, _, rfl, ite2 (fun hc => ?_) (fun hc => ?_)⟩
    · obtain ⟨cs, ec, hcs⟩ := cut_ints cells (some b2) none
      refine ⟨_, rfl, q, _, _, _, rfl, rfl, SqL.of hq, rfl, _, rfl, q, _, _, _, rfl, rfl, SqL.of hq, rfl, _, rfl, l, _, rfl, SqL.of hl, fun p hp => ?_⟩
      rw [ec]
      refine ⟨by show 1 ≤ sizeLine; decide, fun p2 hp2 => ⟨p, p2, _, _, rfl, rfl, by rw [upd_ne (ne_of_none upd_same hp2)]; exact upd_same, upd_same, by rw [PySem.sizeLine_eq]; simp; omega, fun p3 hp3 => ?_⟩⟩
      obtain ⟨c, hc2⟩ : ∃ c : Int, (cs.map V.int ++ [V.int 0])[0]? = some (.int c) := by
        cases cs with
        | nil => exact ⟨0, rfl⟩
        | cons c r => exact ⟨c, rfl⟩
      have sm := ((Same.new (o := .lst (cs.map V.int)) hp).trans (Same.new (o := .lst [V.int 0]) hp2)).trans (Same.new (o := .lst (cs.map V.int ++ [V.int 0])) hp3)
      have hq3 := sm _ _ hq
      refine ⟨p3, _, _, .int c, rfl, rfl, SqL.of upd_same, atI_nat (j := 0) hc2, ?_⟩
      refine ⟨_, rfl, q, _, _, _, rfl, rfl, SqL.of hq3, by decide, rfl, _, _, rfl, rfl, q, _, _, 2, rfl, rfl, hq3, rfl, ?_⟩
      have mv4 : ∀ o, Mv q H (upd (upd (upd (upd H p (.lst (cs.map V.int))) p2 (.lst [V.int 0])) p3 (.lst (cs.map V.int ++ [V.int 0]))) q o) := fun o => (Mv.of sm).put
      refine ⟨_, rfl, _, _, rfl, rfl, ⟨by decide, by decide, by decide⟩, _, _, rfl, rfl, _, rfl, ite2 (fun hd => ?_) (fun hd => ?_)⟩
      · refine ⟨_, rfl, _, rfl, q, _, _, 0, rfl, rfl, upd_same, rfl, ?_⟩
        have hd := of_decide_eq_true hd
        have hc0 : (0 : Int) ≤ c := Int.le_trans (by decide) hd
        exact hr3 _ c b1 (b2 + 1) c _ (fun H2 d1 x3 hq2 mv2 e1 e2 => hr2 H2 c d1 (b2 + 1) _ x3 _ rfl hq2 mv2 hc0 e1 e2 (by omega) (by omega)) upd_same (mv4 _).put h1 h2 (by omega) (by omega)
      · exact hr3 _ b0 b1 (b2 + 1) c _ (fun H2 d1 x3 hq2 mv2 e1 e2 => hr2 H2 b0 d1 (b2 + 1) _ x3 _ rfl hq2 mv2 h0 e1 e2 (by omega) (by omega)) upd_same (mv4 _) h1 h2 (by omega) (by omega)
    · exact hr2 H b0 b1 b2 none none _ rfl hq (Mv.of (Same.refl _)) h0 h1 h2 h3 (by omega)
theorem scSome : FnScope ["bag", "things"] ["bag", "things"] (defScope sSome) := ⟨rfl, rfl, rfl, by decide +kernel, rfl, by decide +kernel, by decide +kernel⟩
theorem ok_some (F : Fun K "_law_some" "_law_some" sSome f fd) (T : Txt mg) (D1 : Fd P w K mg base CX0 1 "_law_take" ["bag", "many"] spTake) : FnOk P w K mg base CX0 2 f fd ["bag", "things"] (spSome K) := by
  refine F.ok scSome (fun vs H Q E h => ?_) (fun cdv A outer s H vs Q E hr h => ?_)
  · obtain ⟨q, l, a, n, xs, rfl, _⟩ := h
    rfl
  · obtain ⟨q, l, a, n, xs, rfl, B, hn, haq, ha, hne, hz, k⟩ := h
    refine ⟨_, pss_one (ps_ret (pe_ix ix_list (pv 1) (pe_fd D1 hr (by rfl) (pa_cons (pv 0) (pa_cons (pe_callB call_len_seq (by rfl) T.len PySem.boot_len (pa_cons (pv 1) pa_nil)) pa_nil))) (fun _ _ => rfl))), ?_⟩
    have hpos : 0 < xs.length := List.length_pos_iff.mpr hne
    refine ⟨_, rfl, _, rfl, _, rfl, a, xs, rfl, .inl (SqL.of ha), q, l, ((xs.length : Nat) : Int), n, rfl, B, hn, by omega, by omega, fun v H' v0 v1 mv B' => ?_⟩
    obtain ⟨j, rfl⟩ : ∃ j : Nat, v = (j : Int) := ⟨_, (Int.toNat_of_nonneg v0).symm⟩
    have hj : j < xs.length := by omega
    refine ⟨a, xs, _, xs[j], rfl, rfl, SqL.of (mv _ _ haq ha), atI_nat (by simp [hj]), k _ (List.getElem_mem hj) H' mv B'⟩
end
end K14
/-! the law's own helps: alike, deep -/
namespace L2
open PySem PySem.Spec PyProof.Rows
def kitAB (t : String) : List String → Option Bool
  | [] => some false
  | c :: r => match kitB t c with
    | some true => some true
    | some false => kitAB t r
    | none => none
theorem kitAny_ty {K : PySem.W.Frag} {t : String} : ∀ {Ts : List String} {b : Bool}, kitAB t Ts = some b → PySem.W.kitAny K (.type t) (Ts.map Value.type) = some b
  | [], b, h => h
  | c :: r, b, h => by
    rw [kitAB] at h
    show (match PySem.W.kitOne K (.type t) (.type c) with
      | some true => some true
      | some false => PySem.W.kitAny K (.type t) (r.map Value.type)
      | none => none) = some b
    have e : PySem.W.kitOne K (.type t) (.type c) = kitB t c := rfl
    rw [e]
    split at h
    · exact h
    · exact kitAny_ty h
    · cases h
theorem cls_tys : ∀ Ts : List String, Paired ClsV (Ts.map V.ty) (Ts.map Value.type)
  | [] => .nil
  | t :: r => .cons (.ty t) (cls_tys r)
def IsA (K : PySem.W.Frag) (H : Hp) (v : V) (Ts : List String) (b : Bool) : Prop := ∃ t, TyX K H v (.type t) ∧ kitAB t Ts = some b
def rIsTB (K : PySem.W.Frag) : List V → Hp → VK → Prop := fun xs H Q => match xs with
  | [v, .ref tp] => ∃ Ts b, H tp = some (.tup (Ts.map V.ty)) ∧ IsA K H v Ts b ∧ Q (.bl b) H
  | _ => False
section
variable {X : Cx}
theorem call_isiTB : CallR X (.builtin "isinstance") (rIsTB X.K) := by
  intro pins s σ H xs us Q I r h
  unfold rIsTB at h
  split at h
  · obtain ⟨Ts, b, hp, ⟨t, ty, k⟩, q⟩ := h
    exact call_isiT pins s σ H _ us Q I r ⟨_, _, _, _, Ts.map Value.type, b, rfl, hp, cls_tys Ts, ty, kitAny_ty k, q⟩
  · exact h.elim
end
end L2
namespace K14
open PySem L2
abbrev sAlike : Stmt := top 30
abbrev sHeard : Stmt := top 31
abbrev sDeep : Stmt := top 32
def D.isStr : D → Bool
  | .str _ => true
  | _ => false
def D.isTup : D → Bool
  | .tup _ => true
  | _ => false
def D.isSeq : D → Bool
  | .tup _ => true
  | .lst _ => true
  | _ => false
theorem isi_lst {K : PySem.W.Frag} {H : Hp} {a : Addr} {xs : List V} {T : String} {b : Bool} (h : H a = some (.lst xs)) (k : kitB "list" T = some b) : IsI K H (.ref a) T b := ⟨_, .base (.lst h), k⟩
theorem isi_tp {K : PySem.W.Frag} {H : Hp} {a : Addr} {xs : List V} {T : String} {b : Bool} (h : H a = some (.tup xs)) (k : kitB "tuple" T = some b) : IsI K H (.ref a) T b := ⟨_, .base (.tup h), k⟩
/-- the built-in class of what stands for d -/
def D.tyn : D → String
  | .int _ => "int"
  | .str _ => "str"
  | .tup _ => "tuple"
  | .lst _ => "list"
theorem Rep.tyx {K : PySem.W.Frag} {H : Hp} : ∀ {d : D} {v : V}, Rep H v d → TyX K H v (.type d.tyn)
  | .int n, v, h => by
    have h : v = .int n := h
    subst h
    exact .base (.int n)
  | .str s, v, h => by
    have h : v = .str ⟨s.toArray⟩ := h
    subst h
    exact .base (.str _)
  | .tup l, v, ⟨a, xs, h1, h2, h3⟩ => by
    subst h1
    exact .base (.tup h2)
  | .lst l, v, ⟨a, xs, h1, h2, h3⟩ => by
    subst h1
    exact .base (.lst h2)
theorem Rep.isB {K : PySem.W.Frag} {H : Hp} {d : D} {v : V} (h : Rep H v d) : IsI K H v "bool" false := ⟨_, h.tyx, by cases d <;> (simp only [D.tyn, D.isStr, D.isTup, D.isSeq]; decide +kernel)⟩
theorem Rep.isS {K : PySem.W.Frag} {H : Hp} {d : D} {v : V} (h : Rep H v d) : IsI K H v "str" d.isStr := ⟨_, h.tyx, by cases d <;> (simp only [D.tyn, D.isStr, D.isTup, D.isSeq]; decide +kernel)⟩
theorem Rep.isT {K : PySem.W.Frag} {H : Hp} {d : D} {v : V} (h : Rep H v d) : IsI K H v "tuple" d.isTup := ⟨_, h.tyx, by cases d <;> (simp only [D.tyn, D.isStr, D.isTup, D.isSeq]; decide +kernel)⟩
theorem Rep.isTL {K : PySem.W.Frag} {H : Hp} {d : D} {v : V} (h : Rep H v d) : IsA K H v ["tuple", "list"] d.isSeq := ⟨_, h.tyx, by cases d <;> (simp only [D.tyn, D.isStr, D.isTup, D.isSeq]; decide +kernel)⟩
theorem Rep.isBIS {K : PySem.W.Frag} {H : Hp} {d : D} {v : V} (h : Rep H v d) : IsA K H v ["bool", "int", "str"] (!d.isSeq) := ⟨_, h.tyx, by cases d <;> (simp only [D.tyn, D.isStr, D.isTup, D.isSeq]; decide +kernel)⟩
def nestD : Nat → D → D
  | 0, d => d
  | k + 1, d => .tup [nestD k d]
def spDeep : Sp := fun vs H Q _ => ∃ (v : V) (k : Nat) (d : D), vs = [v, .int (k : Int)] ∧ k ≤ 1000 ∧ Rep H v d ∧ ∀ v' H', Same H H' → Rep H' v' (nestD k d) → Q v' H'
def spAlike : Sp := fun vs H Q _ => ∃ (v u : V) (d : D), vs = [v, u] ∧ Rep H v d ∧ Rep H u d ∧ sz d ≤ 3000000 ∧ ∀ H', Same H H' → Q (.bl true) H'
/-- a couple of two that stand for one -/
def Cp (H0 H : Hp) (x : V) (d : D) : Prop := ∃ t v u, x = .ref t ∧ H t = some (.tup [v, u]) ∧ Rep H0 v d ∧ Rep H0 u d
theorem Cp.same {H0 H H' : Hp} (e : Same H H') (x : V) (d : D) (h : Cp H0 H x d) : Cp H0 H' x d := by
  obtain ⟨t, v, u, h1, h2, h3⟩ := h
  exact ⟨t, v, u, h1, e _ _ h2, h3⟩
theorem Cp.put {H0 H : Hp} {l : Addr} {zs : List V} {o : HO} (e : H l = some (.lst zs)) (x : V) (d : D) (h : Cp H0 H x d) : Cp H0 (upd H l o) x d := by
  obtain ⟨t, v, u, h1, h2, h3⟩ := h
  refine ⟨t, v, u, h1, ?_, h3⟩
  rw [upd_ne (fun z => by rw [z, e] at h2; cases h2)]
  exact h2
theorem cps_of {H0 H : Hp} {ds : List D} : ∀ {xs ys : List V} {ts : List Addr}, RepL H0 xs ds → RepL H0 ys ds → ts.length = xs.length → ZLx.PairsAt H xs ys ts → A2 (Cp H0 H) (ts.map V.ref) ds := by
  induction ds with
  | nil =>
    intro xs ys ts h1 h2 hl hp
    have h1 : xs = [] := h1
    rw [h1] at hl
    have : ts = [] := List.eq_nil_of_length_eq_zero hl
    rw [this]
    exact .nil
  | cons d r ih =>
    intro xs ys ts h1 h2 hl hp
    obtain ⟨x, xs', rfl, hx, hxs⟩ := h1
    obtain ⟨y, ys', rfl, hy, hys⟩ := h2
    cases ts with
    | nil => cases hl
    | cons t ts =>
      obtain ⟨x', y', e1, e2, e3⟩ := hp 0 t rfl
      cases e1
      cases e2
      refine .cons ⟨t, _, _, rfl, e3, hx, hy⟩ (ih hxs hys (by simpa using hl) fun j t' ht => ?_)
      obtain ⟨a, b, f1, f2, f3⟩ := hp (j + 1) t' ht
      exact ⟨a, b, f1, f2, f3⟩
section
variable {P : Program} {w : World} {K : PySem.W.Frag} {mg : Str → Option Value} {base : Heap} {f : Addr} {fd : FuncData}
theorem scDeep : FnScope ["thing", "many", "turn"] ["thing", "many"] (defScope sDeep) := ⟨rfl, rfl, rfl, by decide +kernel, rfl, by decide +kernel, by decide +kernel⟩
theorem ok_deep (F : Fun K "_law_deep" "_law_deep" sDeep f fd) (T : Txt mg) : FnOk P w K mg base CX0 1 f fd ["thing", "many"] spDeep := by
  refine F.ok scDeep (fun vs H Q E h => ?_) (fun cdv A outer s H vs Q E hr h => ?_)
  · obtain ⟨v, k, d, rfl, _⟩ := h
    rfl
  · obtain ⟨v, k, d, rfl, hk, hR, q⟩ := h
    refine ⟨_, pss_cons (ps_for PassesOwn.never rfl (pi_range1 (by rfl) T.range (pa_cons (pv 1) pa_nil)) (pg_name (i := 2) scDeep.nd rfl (Or.inl rfl)) (pss_one (ps_set (i := 0) scDeep.nd rfl (Or.inl rfl) (pe_tup (pa_cons (pv 0) pa_nil))))) (pss_one (ps_ret (pv 0))), ?_⟩
    refine ⟨_, rfl, _, rfl, by omega, by omega, ?_⟩
    refine for_range (lo := 0) (n := (k : Int).toNat) (fun i σ H' => ∃ (v1 : V) (x2 : Option V), σ = [some v1, some (.int (k : Int)), x2] ∧ Same H H' ∧ Rep H' v1 (nestD i d)) ⟨v, none, rfl, Same.refl _, hR⟩ ?_ ?_
    · rintro i σ H' hi ⟨v1, x2, rfl, hS, hR1⟩
      refine ⟨_, rfl, by show 1 ≤ sizeLine; decide, fun t ht => ?_⟩
      exact ⟨_, _, rfl, hS.trans (Same.new ht), t, [v1], rfl, upd_same, v1, [], rfl, hR1.same (Same.new ht), rfl⟩
    · rintro σ H' ⟨v1, x2, rfl, hS, hR1⟩
      exact ⟨_, rfl, q v1 H' hS (by rw [Int.toNat_natCast] at hR1; exact hR1)⟩
theorem scAlike : FnScope ["found", "right", "pairs", "at", "one", "other"] ["found", "right"] (defScope sAlike) := ⟨rfl, rfl, rfl, by decide +kernel, rfl, by decide +kernel, by decide +kernel⟩
theorem ok_alike (F : Fun K "_law_alike" "_law_alike" sAlike f fd) (T : Txt mg) : FnOk P w K mg base CX0 1 f fd ["found", "right"] spAlike := by
  refine F.ok scAlike (fun vs H Q E h => ?_) (fun cdv A outer s H vs Q E hr h => ?_)
  · obtain ⟨v, u, d, rfl, _⟩ := h
    rfl
  · obtain ⟨v0, u0, d0, rfl, hv0, hu0, hz0, q⟩ := h
    refine ⟨_, pss_cons (ps_par (i := 2) (j := 3) (by rfl) scAlike.nd rfl rfl (by decide) rfl rfl (pa_cons (pe_lst (pa_cons (pe_tup (pa_cons (pv 0) (pa_cons (pv 1) pa_nil))) pa_nil)) (pa_cons pe_int pa_nil)) (by rfl))
      (pss_cons (ps_while PassesOwn.never (pt_cmpR op_lt (pv 3) (pe_callB call_len_seq (by rfl) T.len PySem.boot_len (pa_cons (pv 2) pa_nil)) (nomark _))
        (pss_cons (ps_asg (pe_ix ix_list (pv 2) (pv 3) (fun _ _ => rfl)) (pg_tup (by rfl) (pgs_cons (pg_name (i := 4) scAlike.nd rfl (Or.inl rfl)) (pgs_cons (pg_name (i := 5) scAlike.nd rfl (Or.inl rfl)) pgs_nil))))
        (pss_cons (ps_aug (i := 3) scAlike.nd rfl (.inl rfl) pe_int ip_add)
        (pss_cons (ps_if (PW.pt (pw_or (pt_cmpR op_ne (pe_isi (T := "bool") (by rfl) T.isi (by rfl) T.bool (by decide +kernel) (pv 4)) (pe_isi (T := "bool") (by rfl) T.isi (by rfl) T.bool (by decide +kernel) (pv 5)) (nomark _)) (pw_or1 (pt_cmpR op_ne (pe_isi (T := "str") (by rfl) T.isi (by rfl) T.str (by decide +kernel) (pv 4)) (pe_isi (T := "str") (by rfl) T.isi (by rfl) T.str (by decide +kernel) (pv 5)) (nomark _))))) (pss_one (ps_ret pe_bl)) pss_nil)
        (pss_cons (ps_if (pt_cmpR op_ne (pe_callB call_isiTB (by rfl) T.isi (by decide +kernel) (pa_cons (pv 4) (pa_cons (pe_tup (pa_cons (pe_bltn (v := .ty "tuple") (by rfl) T.tuple (by decide +kernel) rfl) (pa_cons (pe_bltn (v := .ty "list") (by rfl) T.list (by decide +kernel) rfl) pa_nil))) pa_nil))) (pe_callB call_isiTB (by rfl) T.isi (by decide +kernel) (pa_cons (pv 5) (pa_cons (pe_tup (pa_cons (pe_bltn (v := .ty "tuple") (by rfl) T.tuple (by decide +kernel) rfl) (pa_cons (pe_bltn (v := .ty "list") (by rfl) T.list (by decide +kernel) rfl) pa_nil))) pa_nil))) (nomark _)) (pss_one (ps_ret pe_bl)) pss_nil)
        (pss_one (ps_if (pt_val (pe_callB call_isiTB (by rfl) T.isi (by decide +kernel) (pa_cons (pv 4) (pa_cons (pe_tup (pa_cons (pe_bltn (v := .ty "tuple") (by rfl) T.tuple (by decide +kernel) rfl) (pa_cons (pe_bltn (v := .ty "list") (by rfl) T.list (by decide +kernel) rfl) pa_nil))) pa_nil))))
          (pss_cons (ps_if (PW.pt (pw_or (pt_cmpR op_ne (pe_isi (T := "tuple") (by rfl) T.isi (by rfl) T.tuple (by decide +kernel) (pv 4)) (pe_isi (T := "tuple") (by rfl) T.isi (by rfl) T.tuple (by decide +kernel) (pv 5)) (nomark _)) (pw_or1 (pt_cmpR op_ne (pe_callB call_len_seq (by rfl) T.len PySem.boot_len (pa_cons (pv 4) pa_nil)) (pe_callB call_len_seq (by rfl) T.len PySem.boot_len (pa_cons (pv 5) pa_nil)) (nomark _))))) (pss_one (ps_ret pe_bl)) pss_nil)
            (pss_one (ps_expr (pe_bm PySem.F.plainAttrs_list PySem.F.slot_list_extend PySem.F.type_list_extend mt_extend (pv 2) (pa_cons (ZLx.pe_listZip (by rfl) (by rfl) T.list (by rfl) T.zip (pa_cons (pv 4) (pa_cons (pv 5) pa_nil))) pa_nil)))))
          (pss_one (ps_if (PW.pt (pw_or (pt_cmpR op_ne (pe_callB call_isiTB (by rfl) T.isi (by decide +kernel) (pa_cons (pv 4) (pa_cons (pe_tup (pa_cons (pe_bltn (v := .ty "bool") (by rfl) T.bool (by decide +kernel) rfl) (pa_cons (pe_bltn (v := .ty "int") (by rfl) T.int (by decide +kernel) rfl) (pa_cons (pe_bltn (v := .ty "str") (by rfl) T.str (by decide +kernel) rfl) pa_nil)))) pa_nil))) (pe_callB call_isiTB (by rfl) T.isi (by decide +kernel) (pa_cons (pv 5) (pa_cons (pe_tup (pa_cons (pe_bltn (v := .ty "bool") (by rfl) T.bool (by decide +kernel) rfl) (pa_cons (pe_bltn (v := .ty "int") (by rfl) T.int (by decide +kernel) rfl) (pa_cons (pe_bltn (v := .ty "str") (by rfl) T.str (by decide +kernel) rfl) pa_nil)))) pa_nil))) (nomark _))
            (pw_or1 (pt_cmpR op_ne (pv 4) (pv 5) (nomark _))))) (pss_one (ps_ret pe_bl)) pss_nil)))))))))
      (pss_one (ps_ret pe_bl))), ?_⟩
    refine ⟨_, rfl, _, rfl, by show 2 ≤ sizeLine; decide, fun t ht => ⟨by show 1 ≤ sizeLine; decide, fun l hl => ⟨_, _, rfl, ?_⟩⟩⟩
    have hl0 : H l = none := (Same.new ht).free hl
    have htl : t ≠ l := ne_of_none upd_same hl
    let W : Nat → L2.St → Hp → Prop := fun m σ H' => ∃ (L : List D) (dn rs : List V) (x4 x5 : Option V) (k : Int), m = szL L ∧ σ = [some v0, some u0, some (.ref l), some (.int k), x4, x5] ∧ k = ((dn.length : Nat) : Int) ∧ H' l = some (.lst (dn ++ rs)) ∧ A2 (Cp H H') rs L ∧ Same H H' ∧ dn.length + szL L ≤ 3000000
    refine ⟨W, ⟨szL [d0], [d0], [], [.ref t], none, none, 0, rfl, rfl, rfl, upd_same, .cons ⟨t, v0, u0, rfl, ?_, hv0, hu0⟩ .nil, (Same.new ht).trans (Same.new hl), by simpa [szL] using hz0⟩, ?_⟩
    · rw [upd_ne htl, upd_same]
    · rintro m σ H' ⟨L, dn, rs, x4, x5, _, rfl, rfl, rfl, hL, hA, hS, hZ⟩
      refine ⟨_, rfl, _, rfl, l, _, rfl, .inl (SqL.of hL), _, _, rfl, rfl, _, rfl, ?_⟩
      cases hA with
      | nil =>
        have e : decide (((dn.length : Nat) : Int) < (((dn ++ []).length : Nat) : Int)) = false := decide_eq_false (by simp)
        rw [e]
        exact iteF (q _ hS)
      | @cons x d rs L hx hA =>
        obtain ⟨tt, v, u, rfl, hT, hv, hu⟩ := hx
        have e : decide (((dn.length : Nat) : Int) < (((dn ++ V.ref tt :: rs).length : Nat) : Int)) = true := decide_eq_true (by simp; omega)
        rw [e]
        refine iteT ⟨fun σ' H' => ∃ m', m' < szL (d :: L) ∧ W m' σ' H', fun _ _ h => h, ?_⟩
        have hk : szL (d :: L) = sz d + szL L := by rw [szL]
        have hpos := sz_pos d
        refine ⟨_, rfl, _, rfl, l, _, _, V.ref tt, rfl, rfl, SqL.of hL, atI_nat (by simp), tt, _, rfl, SqT.of hT, rfl, _, _, rfl, _, _, rfl, rfl, ?_⟩
        have hv1 := hv.same hS
        have hu1 := hu.same hS
        refine ⟨_, rfl, _, _, rfl, rfl, _, rfl, _, hv1.isB, _, rfl, _, hu1.isB, rfl, _, rfl, iteF ⟨_, rfl, _, hv1.isS, _, rfl, _, hu1.isS, rfl, _, rfl, ?_⟩⟩
        rw [decide_eq_true rfl]
        refine iteF ⟨_, rfl, by show 2 ≤ sizeLine; decide, fun a1 h1 => ⟨["tuple", "list"], _, upd_same, (hv1.same (Same.new h1)).isTL, _, rfl, by show 2 ≤ sizeLine; decide, fun a2 h2 => ⟨["tuple", "list"], _, upd_same, (hu1.same ((Same.new h1).trans (Same.new h2))).isTL, rfl, _, rfl, ?_⟩⟩⟩
        rw [decide_eq_true rfl]
        refine iteF ⟨_, rfl, by show 2 ≤ sizeLine; decide, fun a3 h3 => ⟨["tuple", "list"], _, upd_same, (hv1.same (((Same.new h1).trans (Same.new h2)).trans (Same.new h3))).isTL, _, rfl, ?_⟩⟩
        have s3 : Same H' (upd (upd (upd H' a1 (.tup [V.ty "tuple", V.ty "list"])) a2 (.tup [V.ty "tuple", V.ty "list"])) a3 (.tup [V.ty "tuple", V.ty "list"])) := ((Same.new h1).trans (Same.new h2)).trans (Same.new h3)
        generalize upd (upd (upd H' a1 (.tup [V.ty "tuple", V.ty "list"])) a2 (.tup [V.ty "tuple", V.ty "list"])) a3 (.tup [V.ty "tuple", V.ty "list"]) = H3 at s3 ⊢
        have hv3 := hv1.same s3
        have hu3 := hu1.same s3
        have hL3 := s3 _ _ hL
        have hS3 := hS.trans s3
        have hlen : ((dn.length : Nat) : Int) + 1 = (((dn ++ [V.ref tt]).length : Nat) : Int) := by simp
        have happ : dn ++ V.ref tt :: rs = (dn ++ [V.ref tt]) ++ rs := by simp
        have flat : ∀ (H4 : Hp) (x4 x5 : Option V), Same H3 H4 → ∃ m', m' < szL (d :: L) ∧ W m' [some v0, some u0, some (.ref l), some (.int (((dn.length : Nat) : Int) + 1)), x4, x5] H4 := fun H4 x4 x5 s4 =>
          ⟨szL L, by omega, L, dn ++ [V.ref tt], rs, x4, x5, _, rfl, rfl, hlen, by rw [← happ]; exact s4 _ _ hL3, hA.mono (Cp.same (s3.trans s4)), hS3.trans s4, by rw [List.length_append, List.length_singleton]; omega⟩
        cases d with
        | int n =>
          have ev : v = .int n := hv
          have eu : u = .int n := hu
          subst ev eu
          refine iteF ⟨_, rfl, by show 3 ≤ sizeLine; decide, fun a4 h4 => ⟨["bool", "int", "str"], _, upd_same, (hv3.same (Same.new h4)).isBIS, _, rfl, by show 3 ≤ sizeLine; decide, fun a5 h5 => ⟨["bool", "int", "str"], _, upd_same, (hu3.same ((Same.new h4).trans (Same.new h5))).isBIS, rfl, _, rfl, ?_⟩⟩⟩
          rw [decide_eq_true rfl]
          refine iteF ⟨_, rfl, _, rfl, rfl, _, rfl, ?_⟩
          rw [decide_eq_true rfl]
          exact iteF (flat _ _ _ ((Same.new h4).trans (Same.new h5)))
        | str z =>
          have ev : v = .str ⟨z.toArray⟩ := hv
          have eu : u = .str ⟨z.toArray⟩ := hu
          subst ev eu
          refine iteF ⟨_, rfl, by show 3 ≤ sizeLine; decide, fun a4 h4 => ⟨["bool", "int", "str"], _, upd_same, (hv3.same (Same.new h4)).isBIS, _, rfl, by show 3 ≤ sizeLine; decide, fun a5 h5 => ⟨["bool", "int", "str"], _, upd_same, (hu3.same ((Same.new h4).trans (Same.new h5))).isBIS, rfl, _, rfl, ?_⟩⟩⟩
          rw [decide_eq_true rfl]
          refine iteF ⟨_, rfl, _, rfl, rfl, _, rfl, ?_⟩
          rw [decide_eq_true rfl]
          exact iteF (flat _ _ _ ((Same.new h4).trans (Same.new h5)))
        | tup cs =>
          obtain ⟨a, xs, rfl, ha, hxs⟩ := hv
          obtain ⟨b, ys, rfl, hb, hys⟩ := hu
          have lx := hxs.length
          have ly := hys.length
          have ha3 := hS3 _ _ ha
          have hb3 := hS3 _ _ hb
          have hcl := len_szL cs
          have hLz := len_szL L
          have hAl := hA.length
          have hsz : sz (.tup cs) = 1 + szL cs := by rw [sz]
          refine iteT ⟨_, rfl, _, hv3.isT, _, rfl, _, hu3.isT, rfl, _, rfl, ?_⟩
          rw [decide_eq_true rfl]
          refine iteF ⟨_, rfl, a, xs, rfl, .inr (SqT.of ha3), _, rfl, b, ys, rfl, .inr (SqT.of hb3), rfl, _, rfl, ?_⟩
          rw [decide_eq_true (by rw [lx, ly])]
          refine iteF ⟨_, rfl, .inl ⟨rfl, _, SqL.of hL3⟩, _, rfl, _, rfl, a, b, xs, ys, rfl, .inr ⟨SqT.of ha3, SqT.of hb3⟩, by omega, fun H4 p ts G hts => ?_⟩
          have s4 : Same H3 H4 := G.old
          refine ⟨l, p, _, _, rfl, rfl, s4 _ _ hL3, G.lst, by rw [PySem.sizeLine_eq]; simp; omega, ?_⟩
          refine ⟨szL (L ++ cs), by rw [szL_app]; omega, L ++ cs, dn ++ [V.ref tt], rs ++ ts.map V.ref, _, _, _, rfl, rfl, hlen, by rw [upd_same, happ, List.append_assoc], ((hA.mono (Cp.same (s3.trans s4))).app (cps_of hxs hys hts G.prs)).mono (Cp.put (s4 _ _ hL3)), (hS3.trans s4).put hl0, by rw [szL_app, List.length_append, List.length_singleton]; omega⟩
        | lst cs =>
          obtain ⟨a, xs, rfl, ha, hxs⟩ := hv
          obtain ⟨b, ys, rfl, hb, hys⟩ := hu
          have lx := hxs.length
          have ly := hys.length
          have ha3 := hS3 _ _ ha
          have hb3 := hS3 _ _ hb
          have hcl := len_szL cs
          have hLz := len_szL L
          have hAl := hA.length
          have hsz : sz (.lst cs) = 1 + szL cs := by rw [sz]
          refine iteT ⟨_, rfl, _, hv3.isT, _, rfl, _, hu3.isT, rfl, _, rfl, ?_⟩
          rw [decide_eq_true rfl]
          refine iteF ⟨_, rfl, a, xs, rfl, .inl (SqL.of ha3), _, rfl, b, ys, rfl, .inl (SqL.of hb3), rfl, _, rfl, ?_⟩
          rw [decide_eq_true (by rw [lx, ly])]
          refine iteF ⟨_, rfl, .inl ⟨rfl, _, SqL.of hL3⟩, _, rfl, _, rfl, a, b, xs, ys, rfl, .inl ⟨SqL.of ha3, SqL.of hb3⟩, by omega, fun H4 p ts G hts => ?_⟩
          have s4 : Same H3 H4 := G.old
          refine ⟨l, p, _, _, rfl, rfl, s4 _ _ hL3, G.lst, by rw [PySem.sizeLine_eq]; simp; omega, ?_⟩
          refine ⟨szL (L ++ cs), by rw [szL_app]; omega, L ++ cs, dn ++ [V.ref tt], rs ++ ts.map V.ref, _, _, _, rfl, rfl, hlen, by rw [upd_same, happ, List.append_assoc], ((hA.mono (Cp.same (s3.trans s4))).app (cps_of hxs hys hts G.prs)).mono (Cp.put (s4 _ _ hL3)), (hS3.trans s4).put hl0, by rw [szL_app, List.length_append, List.length_singleton]; omega⟩
end
end K14
/-! _law_heard: a lambda called, its two errors told as lists -/
namespace K14
open PySem PySem.Spec PyProof.Rows L2 LamX
/-- what of an error is told -/
def EH (CR CB : Addr) (Q : VK) : XK := fun cls d H' =>
  (cls = .ref CR ∧ ∃ dd v, d = some dd ∧ H' dd = some (.xd [("why", v)]) ∧ ∀ p, H' p = none → Q (.ref p) (upd H' p (.lst [.str "refused", v]))) ∨
  (cls = .ref CB ∧ ∃ dd a v, d = some dd ∧ H' dd = some (.xd [("fault", v), ("at", a)]) ∧ ∀ p, H' p = none → Q (.ref p) (upd H' p (.lst [.str "bytes", a, v])))
def THeard (CR CB : Addr) : (XK → Hp → VK → Prop) → Hp → VK → Prop := fun tl H Q => tl (EH CR CB Q) H Q
/-- the two classes, as except asks -/
structure Catch (K : PySem.W.Frag) (mg : Str → Option Value) (CR CB : Addr) : Prop where
  gR : mg "Refused" = some (.ref CR)
  gB : mg "BadBytes" = some (.ref CB)
  rr : PySem.W.exmOne K (.ref CR) (.ref CR) = some true
  br : PySem.W.exmOne K (.ref CB) (.ref CR) = some false
  bb : PySem.W.exmOne K (.ref CB) (.ref CB) = some true
  xR : XfC K CR
  xB : XfC K CB
  nW : PySem.W.findIn K (.ref CR) "why" = some none
  nA : PySem.W.findIn K (.ref CB) "at" = some none
  nF : PySem.W.findIn K (.ref CB) "fault" = some none
theorem scHeard : FnScope ["act", "error"] ["act"] (defScope sHeard) := ⟨rfl, rfl, rfl, by decide +kernel, rfl, by decide +kernel, by decide +kernel⟩
theorem lk_at (v a : V) : ([(("fault" : Str), v), (("at" : Str), a)].lookup ("at" : Str)) = some a := by
  have h : (("at" : Str) == ("fault" : Str)) = false := by decide +kernel
  rw [List.lookup_cons, h, List.lookup_cons_self]
theorem heard_gives {X : Cx} {x q : Str} {g CR CB : Addr} {cdg : Value} (T : Catch X.K X.mg CR CB) :
    GivesTo X ["act", "error"] x (defScope sHeard) g cdg (defBody sHeard) "act" q (THeard CR CB) := by
  intro f c' s H Q tl act hc h
  refine ⟨_, pss_one (ps_try_many_as (X := (cxOf C8.CX0 X.prog X.w X.K X.mg X.base ["act", "error"] x (defScope sHeard) g cdg X.A X.stack s H C8.E0).nox) (n := "error") (i := 1)
      (l := [(.ref CR, fun a cls d => tRet (tLst (tCons (tC (.str "refused")) (tCons (tXf a cls d CR "why" (tVar 1)) tNil)))), (.ref CB, fun a cls d => tRet (tLst (tCons (tC (.str "bytes")) (tCons (tXf a cls d CB "at" (tVar 1)) (tCons (tXf a cls d CB "fault" (tVar 1)) tNil)))))])
      (tb := fun W D σ H => ∃ Ech : XK, (∀ cls d σ' H', Ech cls d H' → W cls d σ' H') ∧ σ[0]? = some (some (.ref f)) ∧ H c' = some (CodeO c' q) ∧ tl Ech H D.rt)
      rfl rfl scHeard.nd rfl rfl L2.takes0 (fun W pn xe tk _ => ?_) ?_), ?_⟩
  · refine ⟨fun pins s' σ H' D I h' => ?_⟩
    obtain ⟨Ech, hW, h1, h2, h3⟩ := h'
    exact (pss_one (ps_ret (act W pn xe Ech _ _ tk hW))).run pins s' σ H' D I ⟨h1, h2, h3⟩
  · refine .cons ⟨by rfl, by decide, .inl T.gR⟩ (fun a oe cls d pn hz hf => pss_one (ps_ret (pe_lst (pa_cons pe_str (pa_cons (pe_xf T.xR T.nW hz hf (pv 1)) pa_nil))))) (.cons ⟨by rfl, by decide, .inl T.gB⟩ (fun a oe cls d pn hz hf => pss_one (ps_ret (pe_lst (pa_cons pe_str (pa_cons (pe_xf T.xB T.nA hz hf (pv 1)) (pa_cons (pe_xf T.xB T.nF hz hf (pv 1)) pa_nil)))))) .nil)
  · refine ⟨EH CR CB Q, fun cls d σ' H' he => ?_, rfl, hc, h⟩
    have g1 : ∀ (e : Addr), 1 < σ'.length → (σ'.set 1 (some (V.ref e)))[1]? = some (some (V.ref e)) := fun e l1 => by simp [l1]
    rcases he with ⟨rfl, dd, v, rfl, hd, k⟩ | ⟨rfl, dd, a, v, rfl, hd, k⟩
    · refine ⟨true, T.rr, fun _ e ne l1 => ?_, (fun z => nomatch z)⟩
      exact ⟨_, g1 e l1, rfl, rfl, dd, _, v, rfl, hd, List.lookup_cons_self, by show 2 ≤ sizeLine; decide, k⟩
    · refine ⟨false, T.br, (fun z => nomatch z), fun _ => ⟨true, T.bb, fun _ e ne l1 => ?_, (fun z => nomatch z)⟩⟩
      exact ⟨_, g1 e l1, rfl, rfl, dd, _, a, rfl, hd, lk_at _ _, _, g1 e l1, rfl, rfl, dd, _, v, rfl, hd, List.lookup_cons_self, by show 3 ≤ sizeLine; decide, k⟩
end K14
/-! the law's own datum: what is_data says of it, its bytes -/
namespace K14
open PySem L2
def thingD (many c size number deep : Nat) : D := .tup [.str (List.replicate many c), .tup (List.replicate size (.int (number : Int))), nestD deep (.int (number : Int)), .str [111, 110]]
theorem ok_nest (number : Nat) : ∀ (j k : Nat), okD k (nestD j (.int (number : Int))) = (decide (j = 0 ∨ k + j ≤ 20) && decide (number ≤ 65535))
  | 0, k => by
    rw [nestD, okD]
    have : decide ((0 : Int) ≤ (number : Int)) = true := decide_eq_true (by omega)
    rw [this]
    by_cases h : number ≤ 65535
    · rw [decide_eq_true h, decide_eq_true (show (number : Int) ≤ 65535 by omega)]
      rfl
    · rw [decide_eq_false h, decide_eq_false (show ¬ (number : Int) ≤ 65535 by omega)]
      rfl
  | j + 1, k => by
    rw [nestD, okD, okL, okL, ok_nest number j (k + 1)]
    have h1 : decide ([nestD j (D.int (number : Int))].length ≤ 65535) = true := by
      rw [List.length_singleton]
      decide
    rw [h1]
    by_cases a : k + (j + 1) ≤ 20
    · have e1 : decide (k < 20) = true := decide_eq_true (by omega)
      have e2 : decide (j = 0 ∨ k + 1 + j ≤ 20) = true := decide_eq_true (.inr (by omega))
      have e3 : decide (j + 1 = 0 ∨ k + (j + 1) ≤ 20) = true := decide_eq_true (.inr a)
      rw [e1, e2, e3]
      simp
    · have e3 : decide (j + 1 = 0 ∨ k + (j + 1) ≤ 20) = false := decide_eq_false (by omega)
      rw [e3]
      by_cases b : k < 20
      · have e2 : decide (j = 0 ∨ k + 1 + j ≤ 20) = false := decide_eq_false (by omega)
        rw [e2]
        simp
      · rw [decide_eq_false b]
        simp
theorem okL_rep (k number : Nat) : ∀ size, okL k (List.replicate size (.int (number : Int))) = (decide (size = 0 ∨ number ≤ 65535))
  | 0 => rfl
  | n + 1 => by
    rw [List.replicate_succ, okL, okL_rep k number n]
    have := ok_nest number 0 k
    rw [nestD] at this
    rw [this]
    by_cases h : number ≤ 65535
    · simp [h]
    · simp [h]
theorem ok_thing {many c size number deep : Nat} (hs : size ≤ 1000) : okD 0 (thingD many c size number deep) = (decide (many ≤ 65535) && decide (number ≤ 65535) && decide (deep ≤ 19)) := by
  unfold thingD
  rw [okD, okL, okL, okL, okL, okL, ok_nest, okD, okD, okD, okL_rep]
  rw [List.length_replicate, List.length_replicate]
  by_cases h1 : many ≤ 65535 <;> by_cases h2 : number ≤ 65535 <;> by_cases h3 : deep ≤ 19
  all_goals
    have e1 : decide (size ≤ 65535) = true := decide_eq_true (by omega)
    first
      | (have e2 : decide (deep = 0 ∨ 0 + 1 + deep ≤ 20) = true := decide_eq_true (by omega)
         simp [h1, h2, h3, e1, e2])
      | (have e2 : decide (deep = 0 ∨ 0 + 1 + deep ≤ 20) = false := decide_eq_false (by omega)
         simp [h1, h2, h3, e1, e2])
theorem fit_nest (number : Nat) : ∀ j, fit (nestD j (.int (number : Int))) = true
  | 0 => by
    rw [nestD, fit]
    exact decide_eq_true (by omega)
  | j + 1 => by rw [nestD, fit, fitL, fitL, fit_nest number j]; rfl
theorem fitL_rep (number : Nat) : ∀ size, fitL (List.replicate size (.int (number : Int))) = true
  | 0 => rfl
  | n + 1 => by
    have := fit_nest number 0
    rw [nestD] at this
    rw [List.replicate_succ, fitL, fitL_rep number n, this]
    rfl
theorem fit_thing {many c size number deep : Nat} (hc : c ∈ good9) : fit (thingD many c size number deep) = true := by
  unfold thingD
  rw [fit, fitL, fitL, fitL, fitL, fitL, fit_nest, fit, fit, fit, fitL_rep]
  have h1 : ((List.replicate many c).all fun c => decide (c ∈ good9)) = true := by
    rw [List.all_eq_true]
    intro x hx
    rw [(List.mem_replicate.mp hx).2]
    exact decide_eq_true hc
  have h2 : (([111, 110] : List Nat).all fun c => decide (c ∈ good9)) = true := by decide
  rw [h1, h2]
  rfl
theorem sz_nest (number : Nat) : ∀ j, sz (nestD j (.int (number : Int))) = 1 + j
  | 0 => by rw [nestD, sz]
  | j + 1 => by rw [nestD, sz, szL, szL, sz_nest number j]; omega
theorem szL_rep (number : Nat) : ∀ size, szL (List.replicate size (.int (number : Int))) = size
  | 0 => rfl
  | n + 1 => by rw [List.replicate_succ, szL, szL_rep number n, sz]; omega
theorem sz_thing {many c size number deep : Nat} (h1 : many ≤ 65536) (h2 : size ≤ 1000) (h3 : deep ≤ 100) : sz (thingD many c size number deep) ≤ 100000 := by
  unfold thingD
  rw [sz, szL, szL, szL, szL, szL, sz_nest, sz, sz, sz, szL_rep, List.length_replicate]
  simp
  omega
theorem szL_ints : ∀ ns : List Int, szL (ns.map D.int) = ns.length
  | [] => rfl
  | n :: r => by rw [List.map_cons, szL, sz, szL_ints r, List.length_cons]; omega
/-- the bytes, part by part -/
def ownL (many place size number deep : Nat) : List Int :=
  [3, 0, 4, 2] ++ two many ++ List.replicate many (place : Int) ++ (3 :: two size) ++ (List.replicate size (1 :: two number)).flatten ++ lad deep ++ (1 :: two number) ++ [2, 0, 2, 43, 42]
theorem enc_nest (number : Nat) : ∀ j, enc (nestD j (.int (number : Int))) = lad j ++ (1 :: two number)
  | 0 => by rw [nestD, enc, Int.toNat_natCast]; rfl
  | j + 1 => by
    rw [nestD, enc, encL, encL, enc_nest number j]
    simp [lad, two, List.replicate_succ]
theorem encL_rep (number : Nat) : ∀ size, encL (List.replicate size (.int (number : Int))) = (List.replicate size (1 :: two number)).flatten
  | 0 => rfl
  | n + 1 => by
    rw [List.replicate_succ, encL, encL_rep number n, enc, Int.toNat_natCast, List.replicate_succ, List.flatten_cons]
theorem enc_thing (many c size number deep : Nat) : enc (thingD many c size number deep) = ownL many (sx c) size number deep := by
  unfold thingD ownL
  rw [enc, encL, encL, encL, encL, encL, enc_nest, enc, enc, enc, encL_rep]
  have e : two [D.str (List.replicate many c), D.tup (List.replicate size (D.int (number : Int))), nestD deep (D.int (number : Int)), D.str [111, 110]].length = [0, 4] := by show two 4 = [0, 4]; decide
  have e2 : two ([111, 110] : List Nat).length = [0, 2] := by show two 2 = [0, 2]; decide
  have e3 : (([111, 110] : List Nat).map fun c => ((sx c : Nat) : Int)) = [43, 42] := by decide +kernel
  rw [e, e2, e3]
  simp
theorem ownL_len (many place size number deep : Nat) : (ownL many place size number deep).length = 17 + many + 3 * size + 3 * deep := by
  unfold ownL
  simp [two, lad_len, List.length_flatten]
  omega
theorem two_byte {n : Nat} (h : n ≤ 65535) : ∀ x ∈ two n, 0 ≤ x ∧ x ≤ 255 := by
  intro x hx
  unfold two at hx
  simp only [List.mem_cons, List.mem_nil_iff, or_false] at hx
  rcases hx with rfl | rfl <;> omega
theorem lad_byte (k : Nat) : ∀ x ∈ lad k, 0 ≤ x ∧ x ≤ 255 := by
  intro x hx
  unfold lad at hx
  obtain ⟨l, hl, hx⟩ := List.mem_flatten.mp hx
  rw [(List.mem_replicate.mp hl).2] at hx
  simp only [List.mem_cons, List.mem_nil_iff, or_false] at hx
  rcases hx with rfl | rfl | rfl <;> decide
theorem ownL_byte {many place size number deep : Nat} (h1 : many ≤ 65535) (h2 : place ≤ 255) (h3 : size ≤ 65535) (h4 : number ≤ 65535) : ∀ x ∈ ownL many place size number deep, 0 ≤ x ∧ x ≤ 255 := by
  intro x hx
  unfold ownL at hx
  simp only [List.mem_append, List.mem_cons, List.mem_nil_iff, or_false, List.mem_flatten, List.mem_replicate] at hx
  rcases hx with ((((((h | h) | h) | h) | h) | h) | h) | h
  · rcases h with rfl | rfl | rfl | rfl <;> decide
  · exact two_byte h1 x h
  · rw [h.2]; omega
  · rcases h with rfl | h
    · decide
    · exact two_byte h3 x h
  · obtain ⟨l, ⟨_, rfl⟩, h⟩ := h
    rcases List.mem_cons.mp h with rfl | h
    · decide
    · exact two_byte h4 x h
  · exact lad_byte deep x h
  · rcases h with rfl | h
    · decide
    · exact two_byte h4 x h
  · rcases h with rfl | rfl | rfl | rfl | rfl <;> decide
end K14
/-! the law -/
namespace K14
open PySem PySem.Spec PyProof.Rows L2 LamX
abbrev sLaw : Stmt := top 33
abbrev Nlaw : List Str := ["script", "many", "sign", "size", "deep", "number", "nest", "good", "signs", "place", "sign_at", "tail", "bag", "bent", "cut", "deeper", "found", "odd", "own", "thing"]
theorem scLaw : FnScope Nlaw ["script"] (defScope sLaw) := ⟨rfl, rfl, rfl, by decide +kernel, rfl, by decide +kernel, by decide +kernel⟩
/-- _law_heard(lambda: body) -/
theorem pe_heard {X : Cx} {g CR CB c Pt : Addr} {gd : FuncData} {k : Nat} {params : Arguments} {body : Expr} {scope : Scope} {t : XK → TE} {p lpos pos : Pos} (F : Fun X.K "_law_heard" "_law_heard" sHeard g gd) (hm : X.mg "_law_heard" = some (.ref g)) (bG : Binds X.K gd ["act"] []) (TC : Catch X.K X.mg CR CB)
    (TB : TabB X.base X.mg c Pt) (hcode : X.env.code = .ref c) (hr : Room (k + 2) X.A) (L : LamS X.env.scope scope) (hdef : defaultsOf params X.env = ([], []))
    (hbind : ∀ (q : Str) (cl : List (Str × Addr)) (pm cv ctv : Value), bindArgs (PySem.W.kla_fn "<lambda>" q params body scope cl pm cv ctv) ⟨[], []⟩ = pure [])
    (hbody : ∀ (A : Around) (outer : List Env) (s : Shared) (H : Hp) (E : XK) (f c' : Addr), Room k (A.deeper (lamEnv X scope s.heap.objs.size f c')) → PE (lamCx X A outer s H E scope f c') body (t E)) (hg : Gl X "_law_heard") :
    PE X (.Call (.Name "_law_heard" p) [.Lambda params body scope lpos] [] pos) (tLam [(Pt, X.env.qual ++ "<lambda>")] (THeard CR CB) t) := by
  obtain ⟨⟨oc, od, kV, doc, pm, an, cdv, ct, osl, rfl, lk, hcd⟩, hk⟩ := F
  exact pe_lamcall (a := "act") hg hm hk lk hcd bG scHeard rfl (.inl rfl) (heard_gives TC) TB hcode List.mem_cons_self (fun p hp _ => by rw [List.mem_singleton.mp hp]) hr L hdef hbind hbody
/-- the defs that the law calls -/
structure Defs (P : Program) (w : World) (K : PySem.W.Frag) (mg : Str → Option Value) (base : Heap) (CR CB : Addr) : Prop where
  bag : Fd P w K mg base CX0 1 "_law_bag" ["script"] (spBag K)
  take : Fd P w K mg base CX0 1 "_law_take" ["bag", "many"] spTake
  some : Fd P w K mg base CX0 2 "_law_some" ["bag", "things"] (spSome K)
  alike : Fd P w K mg base CX0 1 "_law_alike" ["found", "right"] spAlike
  deep : Fd P w K mg base CX0 1 "_law_deep" ["thing", "many"] spDeep
  packed : Fd P w K mg base (L2.CX P w) 5 "packed" ["thing"] (spPacked CR)
  unp : Fd P w K mg base (L2.CX P w) 6 "unpacked" ["some"] (spUnp CB)
def spLaw (K : PySem.W.Frag) (tA : Addr) : Sp := fun vs H Q _ => ∃ (a : Addr) (ns : List Int), vs = [.ref a] ∧ SqL K H a (ns.map V.int) ∧ ns.length ≤ 63 ∧ H tA = some (.tbl #[]) ∧ ∀ H', Q (.bl true) H'
section
variable {P : Program} {w : World} {K : PySem.W.Frag} {mg : Str → Option Value} {base : Heap} {f g cA tA CR CB : Addr} {gd : FuncData} {oc kV dc pm ct : Value} {od an : Option Addr} {osl : Array (Option Value)}
abbrev XL (P : Program) (w : World) (K : PySem.W.Frag) (mg : Str → Option Value) (base : Heap) (f cA : Addr) (A : Around) (outer : List Env) (s : Shared) (H : Hp) (E : XK) : Cx := (cxOf CX0 P w K mg base Nlaw "law" (defScope sLaw) f (.ref cA) A outer s H E).nox
/-- what the law's body stands on -/
structure Env14 (P : Program) (w : World) (K : PySem.W.Frag) (mg : Str → Option Value) (base : Heap) (f cA tA CR CB : Addr) (A : Around) (outer : List Env) (s : Shared) (H : Hp) (E : XK) : Prop where
  TB : TabB base mg cA tA
  T : Txt mg
  TC : Catch K mg CR CB
  heard : ∃ (g : Addr) (gd : FuncData), Fun K "_law_heard" "_law_heard" sHeard g gd ∧ mg "_law_heard" = some (.ref g) ∧ Binds K gd ["act"] []
  D : Defs P w K mg base CR CB
  hr : Room 8 (XL P w K mg base f cA A outer s H E).A
variable {A : Around} {outer : List Env} {s : Shared} {H0 : Hp} {E : XK}
theorem Env14.lam (L : Env14 P w K mg base f cA tA CR CB A outer s H0 E) {k : Nat} (hk : k ≤ 6) {params : Arguments} {body : Expr} {scope : Scope} {t : XK → TE} {p lpos pos : Pos} (hL : lamSB (defScope sLaw) scope = true) (hdef : defaultsOf params (XL P w K mg base f cA A outer s H0 E).env = ([], []))
    (hbind : ∀ (q : Str) (cl : List (Str × Addr)) (pm cv ctv : Value), bindArgs (PySem.W.kla_fn "<lambda>" q params body scope cl pm cv ctv) ⟨[], []⟩ = pure [])
    (hbody : ∀ (A' : Around) (outer' : List Env) (s' : Shared) (H' : Hp) (E' : XK) (f' c' : Addr), Room k (A'.deeper (lamEnv (XL P w K mg base f cA A outer s H0 E) scope s'.heap.objs.size f' c')) → Passes (L2.CX P w) (lamCx (XL P w K mg base f cA A outer s H0 E) A' outer' s' H' E' scope f' c') E' → PE (lamCx (XL P w K mg base f cA A outer s H0 E) A' outer' s' H' E' scope f' c') body (t E')) :
    PE (XL P w K mg base f cA A outer s H0 E) (.Call (.Name "_law_heard" p) [.Lambda params body scope lpos] [] pos) (tLam [(tA, (XL P w K mg base f cA A outer s H0 E).env.qual ++ "<lambda>")] (THeard CR CB) t) := by
  obtain ⟨g, gd, FH, mH, bH⟩ := L.heard
  exact pe_heard FH mH bH L.TC L.TB rfl (L.hr.mono (by omega)) (lamS_by hL) hdef hbind (fun A' o' s' H' E' f' c' hr' => hbody A' o' s' H' E' f' c' hr' (passes_call (takes_of rfl rfl rfl rfl) fun _ _ _ _ h => h)) (by rfl)
/-- the bag and the table -/
structure Lw (tA : Addr) (qu : Str) (q l : Addr) (n : Nat) (H : Hp) : Prop where
  bag : BagN H q l n
  tabs : Tabs [(tA, qu)] H
theorem Lw.same {tA q l : Addr} {qu : Str} {n : Nat} {H H' : Hp} (L : Lw tA qu q l n H) (s : Same H H') : Lw tA qu q l n H' := ⟨L.bag.ext (LamX.ExtN.of s), L.tabs.ext s⟩
theorem Lw.mono {tA q l : Addr} {qu : Str} {n m : Nat} {H : Hp} (L : Lw tA qu q l n H) (h : n ≤ m) : Lw tA qu q l m H := ⟨L.bag.mono h, L.tabs⟩
theorem Lw.take {tA q l : Addr} {qu : Str} {n : Nat} {H H' : Hp} (L : Lw tA qu q l n H) (mv : Mv q H H') (B : BagN H' q l (n + 1)) : Lw tA qu q l (n + 1) H' := by
  obtain ⟨b0, b1, b2, cells, h1, _⟩ := L.bag
  refine ⟨B, fun p hp => ?_⟩
  obtain ⟨ps, e1, e2, e3⟩ := L.tabs p hp
  refine ⟨ps, mv _ _ (fun z => by rw [z, h1] at e1; cases e1) e1, e2, fun pos cv hc => ?_⟩
  obtain ⟨c, c1, c2⟩ := e3 pos cv hc
  exact ⟨c, c1, mv _ _ (fun z => by rw [z, h1] at c2; cases c2) c2⟩
theorem Lw.ext {tA q l : Addr} {qu : Str} {n : Nat} {H H' : Hp} (L : Lw tA qu q l n H) (e : ExtN H H') (t : Tabs [(tA, qu)] H') : Lw tA qu q l n H' := ⟨L.bag.ext e, t⟩
theorem Lw.tp {tA q l : Addr} {qu : Str} {n : Nat} {H H' : Hp} (L : Lw tA qu q l n H) (mv : Mv q H H') : Tp H H' := by
  obtain ⟨b0, b1, b2, cells, h1, _⟩ := L.bag
  exact fun b xs e => mv _ _ (fun z => by rw [z, h1] at e; cases e) e
theorem Tp.ext {H H' : Hp} (e : ExtN H H') : Tp H H' := fun b xs h => e _ _ h (fun _ z => by cases z)
theorem Lw.ne {tA q l : Addr} {qu : Str} {n : Nat} {H : Hp} (L : Lw tA qu q l n H) {p : Addr} (h : H p = none) : p ≠ q := by
  obtain ⟨b0, b1, b2, cells, h1, _⟩ := L.bag
  exact fun z => by rw [z, h1] at h; cases h
/-- bytes that are none, told by heard -/
theorem unp_bad {b : Addr} {bs : List Int} {a' : Nat} {w : Str} {Q : VK} {H : Hp} (hb : H b = some (.tup (bs.map V.int))) (hby : ∀ n ∈ bs, 0 ≤ n ∧ n ≤ 255) (hz : bs.length ≤ 16777216) (hE : ∃ n, K14.Ends bs n 0 [] (.inr (a', w)))
    (k : ∀ p H', Same H H' → H' p = some (.lst [.str "bytes", .int (a' : Int), .str w]) → Q (.ref p) H') : spUnp CB [.ref b] H Q (EH CR CB Q) := by
  obtain ⟨n, hE⟩ := hE
  refine ⟨b, bs, n, _, rfl, hb, hby, hz, hE, fun d hd => (by cases hd), fun a2 w2 e => ?_⟩
  cases e
  intro e H' s he h'
  exact .inr ⟨rfl, e, _, _, rfl, h', fun p hp => k p _ (s.trans (Same.new hp)) upd_same⟩
theorem alike_bad {p p2 : Addr} {a' : Nat} {w : Str} {Q : VK} {H : Hp} (h1 : H p = some (.lst [.str "bytes", .int (a' : Int), .str w])) (h2 : H p2 = some (.lst [.str "bytes", .int (a' : Int), .str w])) (hw : w.cps.size ≤ 1000) (k : ∀ H', Same H H' → Q (.bl true) H') : spAlike [.ref p, .ref p2] H Q E0 := by
  have r : ∀ a : Addr, H a = some (.lst [.str "bytes", .int (a' : Int), .str w]) → Rep H (.ref a) (.lst [.str ("bytes" : Str).cps.toList, .int (a' : Int), .str w.cps.toList]) := fun a h => by
    refine ⟨a, _, rfl, h, _, _, rfl, ?_, _, _, rfl, rfl, _, _, rfl, ?_, rfl⟩
    · show V.str _ = V.str _
      rw [Array.toArray_toList]
    · show V.str _ = V.str _
      rw [Array.toArray_toList]
  refine ⟨_, _, _, rfl, r p h1, r p2 h2, ?_, k⟩
  rw [sz, szL, szL, szL, szL, sz, sz, sz]
  have : ("bytes" : Str).cps.toList.length = 5 := by decide +kernel
  rw [this, Array.length_toList]
  omega
/-! ### tuples put together, cut -/
theorem catA_of {K : PySem.W.Frag} {a b : Addr} {xs ys : List V} {H : Hp} {Q : VK} (ha : H a = some (.tup xs)) (hb : H b = some (.tup ys)) (hz : xs.length + ys.length ≤ 16777216) (k : ∀ r H', Same H H' → H' r = some (.tup (xs ++ ys)) → Q (.ref r) H') : rCatA K (.ref a) (.ref b) H Q := by
  refine ⟨a, b, xs, ys, rfl, rfl, SqT.of ha, SqT.of hb, by rw [PySem.sizeLine_eq]; exact hz, fun e => k b H (Same.refl _) (by rw [e]; exact hb), fun _ e => k a H (Same.refl _) (by rw [e, List.append_nil]; exact ha), fun _ _ p hp => k p _ (Same.new hp) upd_same⟩
theorem slA_of {K : PySem.W.Frag} {a : Addr} {xs : List V} {lo hi : Option Int} {H : Hp} {Q : VK} (ha : H a = some (.tup xs)) (k : ∀ r H', Same H H' → H' r = some (.tup (cutV xs lo hi)) → Q (.ref r) H') : rSlA K (.ref a) lo hi H Q := by
  refine ⟨a, xs, rfl, SqT.of ha, fun ⟨e1, e2⟩ => k a H (Same.refl _) ?_, fun _ p hp => k p _ (Same.new hp) upd_same⟩
  have : cutV xs lo hi = xs := by
    unfold cutV
    rw [e1, e2, List.drop_zero, Nat.sub_zero, List.take_length]
  rw [this]
  exact ha
theorem repA_of {K : PySem.W.Frag} {a : Addr} {xs : List V} {m : Nat} {H : Hp} {Q : VK} (ha : H a = some (.tup xs)) (hne : xs ≠ []) (hm : m ≤ 1000) (hx : xs.length ≤ 1000) (k : ∀ r H', Same H H' → H' r = some (.tup (List.replicate m xs).flatten) → Q (.ref r) H') : rRepTA K (.ref a) (.int (m : Int)) H Q := by
  refine ⟨a, _, xs, rfl, rfl, SqT.of ha, hne, by omega, by omega, hx, fun e => k a H (Same.refl _) ?_, fun _ p hp => k p _ (Same.new hp) (by rw [upd_same, Int.toNat_natCast])⟩
  have : m = 1 := by omega
  rw [this, ha]
  simp
theorem cut_take (ns : List Int) (k : Nat) : cutV (ns.map V.int) none (some (k : Int)) = (ns.take k).map V.int := by
  unfold cutV
  rw [HT.sIx_none, HT.sIx_nat, List.drop_zero, Nat.sub_zero, List.length_map, List.map_take]
  by_cases h : k ≤ ns.length
  · rw [Nat.min_eq_left h]
  · rw [Nat.min_eq_right (by omega), List.take_of_length_le (by simp), List.take_of_length_le (by simp; omega)]
theorem cut_drop (ns : List Int) (k : Nat) : cutV (ns.map V.int) (some (k : Int)) none = (ns.drop k).map V.int := by
  unfold cutV
  rw [HT.sIx_none, HT.sIx_nat, List.length_map, List.map_drop]
  by_cases h : k ≤ ns.length
  · rw [Nat.min_eq_left h, List.take_of_length_le (by simp)]
  · rw [Nat.min_eq_right (by omega), Nat.sub_self, List.take_zero, List.drop_eq_nil_of_le (by simp; omega)]
theorem cut_any (ns : List Int) (lo hi : Option Int) : ∃ cs : List Int, cutV (ns.map V.int) lo hi = cs.map V.int ∧ cs.length ≤ ns.length ∧ ∀ x ∈ cs, x ∈ ns := by
  refine ⟨(ns.drop (HT.sIx (ns.map V.int).length 0 lo)).take (HT.sIx (ns.map V.int).length (ns.map V.int).length hi - HT.sIx (ns.map V.int).length 0 lo), ?_, ?_, fun x hx => List.mem_of_mem_drop (List.mem_of_mem_take hx)⟩
  · unfold cutV
    rw [List.map_take, List.map_drop]
  · rw [List.length_take, List.length_drop]
    omega
theorem lad_map (k : Nat) : (List.replicate k [V.int 3, V.int 0, V.int 1]).flatten = (lad k).map V.int := by
  unfold lad
  rw [List.map_flatten, List.map_replicate]
  rfl
/-! ### the last part: too deep -/
theorem part_E3 (L : Env14 P w K mg base f cA tA CR CB A outer s H0 E) : ∃ t, PSs (XL P w K mg base f cA A outer s H0 E) ((defBody sLaw).drop 25) t ∧
    ∀ (D : L2.Ends) (H : Hp) (dd : Addr) (y : Int) (xs : List Int) (x0 x1 x2 x3 x4 x5 x6 x7 x8 x9 x10 x11 x12 x13 x14 x16 x17 x18 x19 : Option V), (∀ H', D.rt (.bl true) H') → Tabs [(tA, (XL P w K mg base f cA A outer s H0 E).env.qual ++ "<lambda>")] H → H dd = some (.tup ((lad 20 ++ 3 :: 0 :: y :: xs).map V.int)) → (∀ x ∈ xs, 0 ≤ x ∧ x ≤ 255) → 0 ≤ y → y ≤ 255 → xs.length ≤ 1000000 →
      t D [x0, x1, x2, x3, x4, x5, x6, x7, x8, x9, x10, x11, x12, x13, x14, some (.ref dd), x16, x17, x18, x19] H := by
  have r1 : Room 1 _ := L.hr.mono (by decide)
  refine ⟨_, (pss_one (ps_ret (pe_fd L.D.alike r1 (by rfl) (pa_cons (L.lam (k := 6) (t := fun E => fun σ H Q => tCons (tVar 15) tNil σ H fun vs H1 => spUnp CB vs H1 Q E) (by decide) (by decide +kernel) rfl (fun _ _ _ _ _ => rfl)
        (fun A' o' s' H' E' f' c' hr' pas => pe_fdX L.D.unp hr' (by rfl) pas (pa_cons (pv 15) pa_nil))) (pa_cons (pe_lst (pa_cons pe_str (pa_cons pe_int (pa_cons pe_str pa_nil)))) pa_nil))))), ?_⟩
  intro D H dd y xs x0 x1 x2 x3 x4 x5 x6 x7 x8 x9 x10 x11 x12 x13 x14 x16 x17 x18 x19 hD hT hdd hby hy0 hy1 hlen
  refine ⟨hT, fun H1 e1 T1 => ⟨_, rfl, ?_⟩⟩
  have hdd1 := Tp.ext e1 _ _ hdd
  refine unp_bad (a' := 60) (w := "deep") hdd1 (fun n hn => ?_) (by rw [List.length_append, lad_len]; simp; omega) ?_ (fun p H2 s2 hp => ⟨by show 3 ≤ sizeLine; decide, fun p2 hp2 => ?_⟩)
  · rcases List.mem_append.mp hn with h | h
    · exact lad_byte 20 n h
    · simp only [List.mem_cons] at h
      rcases h with rfl | rfl | rfl | h
      · decide
      · decide
      · exact ⟨hy0, hy1⟩
      · exact hby n h
  · exact ends_deep 0 (y :: xs)
  · exact alike_bad (a' := 60) (w := "deep") (by rw [upd_ne (ne_of_none hp hp2)]; exact hp) upd_same (by decide +kernel) fun H' _ => hD H'
theorem part_E2 (L : Env14 P w K mg base f cA tA CR CB A outer s H0 E) : ∃ t, PSs (XL P w K mg base f cA A outer s H0 E) ((defBody sLaw).drop 24) t ∧
    ∀ (D : L2.Ends) (H : Hp) (q l tl : Addr) (n : Nat) (xs : List Int) (x0 x1 x2 x3 x4 x5 x6 x7 x8 x9 x10 x13 x14 x15 x16 x17 x18 x19 : Option V), (∀ H', D.rt (.bl true) H') → Lw tA ((XL P w K mg base f cA A outer s H0 E).env.qual ++ "<lambda>") q l n H → n ≤ 1000 → H tl = some (.tup (xs.map V.int)) → (∀ x ∈ xs, 0 ≤ x ∧ x ≤ 255) → xs.length ≤ 1000000 →
      t D [x0, x1, x2, x3, x4, x5, x6, x7, x8, x9, x10, some (.ref tl), some (.ref q), x13, x14, x15, x16, x17, x18, x19] H := by
  have r1 : Room 1 _ := L.hr.mono (by decide)
  obtain ⟨t3, ht3, hr3⟩ := part_E3 L
  refine ⟨_, (pss_cons (ps_set (i := 15) scLaw.nd rfl (Or.inr rfl) (pe_op op_catA (pe_op op_catA (pe_op op_repTA (pe_tup (pa_cons pe_int (pa_cons pe_int (pa_cons pe_int pa_nil)))) pe_int) (pe_tup (pa_cons pe_int (pa_cons pe_int (pa_cons (pe_fd L.D.take r1 (by rfl) (pa_cons (pv 12) (pa_cons pe_int pa_nil))) pa_nil))))) (pv 11))) ht3), ?_⟩
  intro D H q l tl n xs x0 x1 x2 x3 x4 x5 x6 x7 x8 x9 x10 x13 x14 x15 x16 x17 x18 x19 hD W hn htl hby hlen
  refine ⟨by show 3 ≤ sizeLine; decide, fun p1 h1 => ?_⟩
  unfold tC
  refine repA_of (xs := [V.int 3, V.int 0, V.int 1]) (m := 20) upd_same (by simp) (by decide) (by show 3 ≤ 1000; decide) fun p2 H2 s2 hp2 => ?_
  rw [lad_map] at hp2
  have sm2 := (Same.new (o := .tup [V.int 3, V.int 0, V.int 1]) h1).trans s2
  have W2 := W.same sm2
  refine ⟨_, rfl, q, l, 2, n, rfl, W2.bag, by omega, by decide, by decide, fun v H3 v0 v1 mv B => ⟨by show 3 ≤ sizeLine; decide, fun p3 h3 => ?_⟩⟩
  have W3 := W2.take mv B
  have tp3 := W2.tp mv
  have hp23 := tp3 _ _ hp2
  have s4 := Same.new (o := .tup [V.int 3, V.int 0, V.int v]) h3
  refine catA_of (s4 _ _ hp23) upd_same (by rw [List.length_map, lad_len]; show 3 * 20 + 3 ≤ 16777216; decide) fun p4 H5 s5 hp4 => ?_
  have e4 : (lad 20).map V.int ++ [V.int 3, V.int 0, V.int v] = (lad 20 ++ [3, 0, v]).map V.int := by simp
  rw [e4] at hp4
  have htl5 : H5 tl = some (.tup (xs.map V.int)) := s5 _ _ (s4 _ _ (tp3 _ _ (sm2 _ _ htl)))
  refine ⟨_, rfl, catA_of hp4 htl5 (by rw [List.length_map, List.length_map, List.length_append, lad_len]; simp; omega) fun p6 H7 s7 hp6 => ?_⟩
  have e6 : (lad 20 ++ [3, 0, v]).map V.int ++ xs.map V.int = (lad 20 ++ 3 :: 0 :: v :: xs).map V.int := by simp
  rw [e6] at hp6
  exact hr3 D H7 p6 v xs _ _ _ _ _ _ _ _ _ _ _ _ _ _ _ _ _ _ _ hD (W3.same ((s4.trans s5).trans s7)).tabs hp6 hby v0 (by omega) hlen
theorem part_E (L : Env14 P w K mg base f cA tA CR CB A outer s H0 E) : ∃ t, PSs (XL P w K mg base f cA A outer s H0 E) ((defBody sLaw).drop 23) t ∧
    ∀ (D : L2.Ends) (H : Hp) (q l ow : Addr) (n dp : Nat) (ns : List Int) (x0 x1 x2 x3 x5 x6 x7 x8 x9 x10 x11 x13 x14 x15 x16 x17 x19 : Option V), (∀ H', D.rt (.bl true) H') → Lw tA ((XL P w K mg base f cA A outer s H0 E).env.qual ++ "<lambda>") q l n H → n ≤ 1000 → H ow = some (.tup (ns.map V.int)) → (∀ x ∈ ns, 0 ≤ x ∧ x ≤ 255) → ns.length ≤ 1000000 →
      t D [x0, x1, x2, x3, some (.int (dp : Int)), x5, x6, x7, x8, x9, x10, x11, some (.ref q), x13, x14, x15, x16, x17, some (.ref ow), x19] H := by
  obtain ⟨t2, ht2, hr2⟩ := part_E2 L
  refine ⟨_, (pss_cons (ps_set (i := 11) scLaw.nd rfl (Or.inl rfl) (pe_ifExp (pt_cmpR op_eq (pv 4) pe_int (nomark _)) (pe_slice sl_tupA (pv 18) po_none (po_some (pe_un un_neg pe_int)))
        (pe_op op_catA (pe_op op_repTA (pe_tup (pa_cons pe_int (pa_cons pe_int (pa_cons pe_int pa_nil)))) pe_int) (pe_tup (pa_cons pe_int (pa_cons pe_int (pa_cons pe_int pa_nil))))))) ht2), ?_⟩
  intro D H q l ow n dp ns x0 x1 x2 x3 x5 x6 x7 x8 x9 x10 x11 x13 x14 x15 x16 x17 x19 hD W hn how hby hlen
  refine ⟨_, rfl, rfl, _, rfl, ite2 (fun hc => ?_) (fun hc => ?_)⟩
  · refine ⟨_, rfl, _, rfl, _, rfl, slA_of how fun r H1 s1 hr => ?_⟩
    obtain ⟨cs, ec, hc1, hc2⟩ := cut_any ns none (some (-5))
    rw [ec] at hr
    exact hr2 D H1 q l r n cs _ _ _ _ _ _ _ _ _ _ _ _ _ _ _ _ _ _ hD (W.same s1) hn hr (fun x hx => hby x (hc2 x hx)) (by omega)
  · refine ⟨by show 3 ≤ sizeLine; decide, fun p1 h1 => ?_⟩
    unfold tC
    refine repA_of (xs := [V.int 3, V.int 0, V.int 1]) (m := 20) upd_same (by simp) (by decide) (by show 3 ≤ 1000; decide) fun p2 H2 s2 hp2 => ⟨by show 3 ≤ sizeLine; decide, fun p3 h3 => ?_⟩
    rw [lad_map] at hp2
    have s3 := Same.new (o := .tup [V.int 1, V.int 0, V.int 0]) h3
    refine catA_of (s3 _ _ hp2) upd_same (by rw [List.length_map, lad_len]; show 3 * 20 + 3 ≤ 16777216; decide) fun p4 H5 s5 hp4 => ?_
    have e4 : (lad 20).map V.int ++ [V.int 1, V.int 0, V.int 0] = (lad 20 ++ [1, 0, 0]).map V.int := by simp
    rw [e4] at hp4
    refine hr2 D H5 q l p4 n _ _ _ _ _ _ _ _ _ _ _ _ _ _ _ _ _ _ _ hD (W.same ((((Same.new h1).trans s2).trans s3).trans s5)) hn hp4 (fun x hx => ?_) (by rw [List.length_append, lad_len]; decide)
    rcases List.mem_append.mp hx with h | h
    · exact lad_byte 20 x h
    · simp only [List.mem_cons, List.mem_nil_iff, or_false] at h
      rcases h with rfl | rfl | rfl <;> decide
end
end K14
/-! the law, parts D, C -/
namespace K14
open PySem PySem.Spec PyProof.Rows L2 LamX
theorem take_own {many place size number deep k : Nat} (hk : k ≤ many) : (ownL many place size number deep).take (6 + k) = [3, 0, 4, 2] ++ two many ++ List.replicate k (place : Int) := by
  obtain ⟨j, rfl⟩ : ∃ j, many = k + j := ⟨many - k, by omega⟩
  have e : ownL (k + j) place size number deep = ([3, 0, 4, 2] ++ two (k + j) ++ List.replicate k (place : Int)) ++ (List.replicate j (place : Int) ++ (3 :: two size) ++ (List.replicate size (1 :: two number)).flatten ++ lad deep ++ (1 :: two number) ++ [2, 0, 2, 43, 42]) := by
    have e0 : List.replicate (k + j) (place : Int) = List.replicate k (place : Int) ++ List.replicate j (place : Int) := (List.replicate_append_replicate).symm
    unfold ownL
    rw [e0]
    simp only [List.append_assoc, List.cons_append, List.nil_append]
  rw [e, List.take_append_of_le_length (by simp [two]; omega), List.take_of_length_le (by simp [two]; omega)]
theorem bent_ends {many c size number deep k : Nat} {x : Int} (hm : many ≤ 65535) (hk : k < many) (hc : c ∈ good9) (hx : 55 ≤ x) (post : List Int) :
    Ends ((ownL many (sx c) size number deep).take (6 + k) ++ x :: post) 1 0 [] (.inr (6 + k, "sign")) := by
  rw [take_own (Nat.le_of_lt hk)]
  have h := ends_sign hx (many / 256) (many % 256) (List.replicate k c) post many (by omega) (fun d hd => by rw [(List.mem_replicate.mp hd).2]; exact hc) (by rw [List.length_replicate]; exact hk)
  rw [List.length_replicate, List.map_replicate] at h
  have e : [3, 0, 4, 2] ++ two many ++ List.replicate k ((sx c : Nat) : Int) = [3, 0, 4, 2, ((many / 256 : Nat) : Int), ((many % 256 : Nat) : Int)] ++ List.replicate k ((sx c : Nat) : Int) := by
    simp [two]
  rw [e]
  exact h
/-- the draws are such that is_data says yes -/
structure Gd (many c size number deep : Nat) : Prop where
  m : many ≤ 65535
  c : c ∈ good9
  s : size ≤ 1000
  n : number ≤ 65535
  d : deep ≤ 19
theorem Gd.byt {many c size number deep : Nat} (G : Gd many c size number deep) : ∀ x ∈ ownL many (sx c) size number deep, 0 ≤ x ∧ x ≤ 255 :=
  ownL_byte G.m (by have := sx_lt c G.c; omega) (by have := G.s; omega) G.n
theorem Gd.len {many c size number deep : Nat} (G : Gd many c size number deep) : (ownL many (sx c) size number deep).length ≤ 100000 := by
  rw [ownL_len]
  have := G.m
  have := G.s
  have := G.d
  omega
section
variable {P : Program} {w : World} {K : PySem.W.Frag} {mg : Str → Option Value} {base : Heap} {f cA tA CR CB : Addr} {A : Around} {outer : List Env} {s : Shared} {H0 : Hp} {E : XK}
abbrev qL (P : Program) (w : World) (K : PySem.W.Frag) (mg : Str → Option Value) (base : Heap) (f cA : Addr) (A : Around) (outer : List Env) (s : Shared) (H : Hp) (E : XK) : Str := (XL P w K mg base f cA A outer s H E).env.qual ++ "<lambda>"
/-- s23 on: slot 13 holds the bent bytes -/
theorem part_D2 (L : Env14 P w K mg base f cA tA CR CB A outer s H0 E) : ∃ t, PSs (XL P w K mg base f cA A outer s H0 E) ((defBody sLaw).drop 22) t ∧
    ∀ (D : L2.Ends) (H : Hp) (q l ow bt : Addr) (n many c size number deep sa : Nat) (x : Int) (x0 x2 x3 x5 x6 x7 x8 x9 x11 x14 x15 x16 x17 x19 : Option V), (∀ H', D.rt (.bl true) H') → Lw tA (qL P w K mg base f cA A outer s H0 E) q l n H → n ≤ 1000 → Gd many c size number deep →
      H ow = some (.tup ((ownL many (sx c) size number deep).map V.int)) → H bt = some (.tup (((ownL many (sx c) size number deep).take sa ++ x :: (ownL many (sx c) size number deep).drop (sa + 1)).map V.int)) → 6 ≤ sa → sa < 6 + max 1 many → 55 ≤ x → x ≤ 255 →
      t D [x0, some (.int (many : Int)), x2, x3, some (.int (deep : Int)), x5, x6, x7, x8, x9, some (.int (sa : Int)), x11, some (.ref q), some (.ref bt), x14, x15, x16, x17, some (.ref ow), x19] H := by
  have r1 : Room 1 _ := L.hr.mono (by decide)
  obtain ⟨t2, ht2, hr2⟩ := part_E L
  refine ⟨_, (pss_cons (ps_if (PW.pt (pw_and (pt_cmpR op_gt (pv 1) pe_int (nomark _)) (pw_and1 (pt_not (pt_val (pe_fd L.D.alike r1 (by rfl) (pa_cons (L.lam (k := 6) (t := fun E => fun σ H Q => tCons (tVar 13) tNil σ H fun vs H1 => spUnp CB vs H1 Q E) (by decide) (by decide +kernel) rfl (fun _ _ _ _ _ => rfl)
        (fun A' o' s' H' E' f' c' hr' pas => pe_fdX L.D.unp hr' (by rfl) pas (pa_cons (pv 13) pa_nil))) (pa_cons (pe_lst (pa_cons pe_str (pa_cons (pv 10) (pa_cons pe_str pa_nil)))) pa_nil)))))))) (pss_one (ps_ret pe_bl)) pss_nil) ht2), ?_⟩
  intro D H q l ow bt n many c size number deep sa x x0 x2 x3 x5 x6 x7 x8 x9 x11 x14 x15 x16 x17 x19 hD W hn G how hbt h6 hsa hx0 hx1
  have fin : ∀ H', Lw tA (qL P w K mg base f cA A outer s H0 E) q l n H' → Tp H H' → t2 D [x0, some (.int (many : Int)), x2, x3, some (.int (deep : Int)), x5, x6, x7, x8, x9, some (.int (sa : Int)), x11, some (.ref q), some (.ref bt), x14, x15, x16, x17, some (.ref ow), x19] H' := fun H' W' tp =>
    hr2 D H' q l ow n deep _ _ _ _ _ _ _ _ _ _ _ _ _ _ _ _ _ _ hD W' hn (tp _ _ how) G.byt (by have := G.len; omega)
  refine ⟨_, rfl, _, _, rfl, rfl, _, rfl, ?_⟩
  by_cases hm : (0 : Int) < (many : Int)
  · rw [decide_eq_true hm]
    refine iteT ⟨W.tabs, fun H1 e1 T1 => ⟨_, rfl, ?_⟩⟩
    have W1 := W.ext e1 T1
    have tp1 := Tp.ext e1
    obtain ⟨k, rfl⟩ : ∃ k, sa = 6 + k := ⟨sa - 6, by omega⟩
    have hk : k < many := by omega
    refine unp_bad (a' := 6 + k) (w := "sign") (tp1 _ _ hbt) (fun z hz => ?_) (by have := G.len; rw [List.length_append, List.length_cons, List.length_take, List.length_drop]; omega) ⟨1, bent_ends G.m hk G.c hx0 _⟩ (fun p H2 s2 hp => ⟨_, rfl, by show 3 ≤ sizeLine; decide, fun p2 hp2 => ?_⟩)
    · rcases List.mem_append.mp hz with h | h
      · exact G.byt z (List.mem_of_mem_take h)
      · rcases List.mem_cons.mp h with rfl | h
        · omega
        · exact G.byt z (List.mem_of_mem_drop h)
    · unfold tNil
      refine alike_bad (a' := 6 + k) (w := "sign") (by rw [upd_ne (ne_of_none hp hp2)]; exact hp) upd_same (by decide +kernel) fun H3 s3 => ⟨_, rfl, iteF ?_⟩
      exact fin H3 (W1.same ((s2.trans (Same.new hp2)).trans s3)) (tp1.trans (Tp.same ((s2.trans (Same.new hp2)).trans s3)))
  · rw [decide_eq_false hm]
    exact iteF (iteF (fin H W (Tp.refl H)))
/-- s22: bent -/
theorem part_D (L : Env14 P w K mg base f cA tA CR CB A outer s H0 E) : ∃ t, PSs (XL P w K mg base f cA A outer s H0 E) ((defBody sLaw).drop 21) t ∧
    ∀ (D : L2.Ends) (H : Hp) (q l ow : Addr) (n many c size number deep sa : Nat) (x0 x2 x3 x5 x6 x7 x8 x9 x11 x13 x14 x15 x16 x17 x19 : Option V), (∀ H', D.rt (.bl true) H') → Lw tA (qL P w K mg base f cA A outer s H0 E) q l n H → n ≤ 900 → Gd many c size number deep →
      H ow = some (.tup ((ownL many (sx c) size number deep).map V.int)) → 6 ≤ sa → sa < 6 + max 1 many →
      t D [x0, some (.int (many : Int)), x2, x3, some (.int (deep : Int)), x5, x6, x7, x8, x9, some (.int (sa : Int)), x11, some (.ref q), x13, x14, x15, x16, x17, some (.ref ow), x19] H := by
  have r2 : Room 2 _ := L.hr.mono (by decide)
  obtain ⟨t2, ht2, hr2⟩ := part_D2 L
  refine ⟨_, (pss_cons (ps_set (i := 13) scLaw.nd rfl (Or.inr rfl) (pe_op op_catA (pe_op op_catA (pe_slice sl_tupA (pv 18) po_none (po_some (pv 10))) (pe_tup (pa_cons (pe_fd L.D.some r2 (by rfl) (pa_cons (pv 12) (pa_cons (pe_lst (pa_cons pe_int (pa_cons pe_int (pa_cons pe_int pa_nil)))) pa_nil))) pa_nil))) (pe_slice sl_tupA (pv 18) (po_some (pe_op op_add (pv 10) pe_int)) po_none))) ht2), ?_⟩
  intro D H q l ow n many c size number deep sa x0 x2 x3 x5 x6 x7 x8 x9 x11 x13 x14 x15 x16 x17 x19 hD W hn G how h6 hsa
  have hlen := G.len
  refine ⟨_, rfl, _, rfl, _, rfl, slA_of how fun r1 H1 s1 hr1 => ?_⟩
  rw [cut_take] at hr1
  have W1 := W.same s1
  refine ⟨_, rfl, by show 3 ≤ sizeLine; decide, fun p2 h2 => ⟨q, l, p2, n, _, rfl, (W1.same (Same.new h2)).bag, by omega, W1.ne h2, upd_same, by simp, by show 3 < 1000000; decide, fun y hy H3 mv B => ⟨by show 1 ≤ sizeLine; decide, fun p3 h3 => ?_⟩⟩⟩
  obtain ⟨x, rfl, hx0, hx1⟩ : ∃ x : Int, y = .int x ∧ 55 ≤ x ∧ x ≤ 255 := by
    simp only [List.mem_cons, List.mem_nil_iff, or_false] at hy
    rcases hy with rfl | rfl | rfl <;> exact ⟨_, rfl, by decide, by decide⟩
  have W2 := W1.same (Same.new (o := .lst [V.int 56, V.int 200, V.int 255]) h2)
  have tp3 := W2.tp mv
  have W3 := W2.take mv B
  have s4 := Same.new (o := .tup [V.int x]) h3
  have hr3 := s4 _ _ (tp3 _ _ (Same.new (o := .lst [V.int 56, V.int 200, V.int 255]) h2 _ _ hr1))
  refine catA_of hr3 upd_same (by rw [List.length_map, List.length_take]; show _ + 1 ≤ _; omega) fun r5 H5 s5 hr5 => ?_
  have how5 : H5 ow = some (.tup ((ownL many (sx c) size number deep).map V.int)) := s5 _ _ (s4 _ _ (tp3 _ _ (Same.new (o := .lst [V.int 56, V.int 200, V.int 255]) h2 _ _ (s1 _ _ how))))
  refine ⟨_, rfl, _, rfl, _, _, rfl, rfl, _, rfl, ?_⟩
  unfold tNoPart
  refine slA_of how5 fun r6 H6 s6 hr6 => ?_
  have e1 : ((sa : Nat) : Int) + 1 = ((sa + 1 : Nat) : Int) := by omega
  rw [e1, cut_drop] at hr6
  refine catA_of (s6 _ _ hr5) hr6 (by rw [List.length_append, List.length_map, List.length_map, List.length_take, List.length_drop]; show _ + 1 + _ ≤ _; omega) fun r7 H7 s7 hr7 => ?_
  have e7 : ((ownL many (sx c) size number deep).take sa).map V.int ++ [V.int x] ++ ((ownL many (sx c) size number deep).drop (sa + 1)).map V.int = ((ownL many (sx c) size number deep).take sa ++ x :: (ownL many (sx c) size number deep).drop (sa + 1)).map V.int := by simp
  rw [e7] at hr7
  exact hr2 D H7 q l ow r7 (n + 1) many c size number deep sa x _ _ _ _ _ _ _ _ _ _ _ _ _ _ hD (W3.same (((s4.trans s5).trans s6).trans s7)) (by omega) G (s7 _ _ (s6 _ _ how5)) hr7 h6 hsa hx0 hx1
/-- s21: another word -/
theorem part_C4 (L : Env14 P w K mg base f cA tA CR CB A outer s H0 E) : ∃ t, PSs (XL P w K mg base f cA A outer s H0 E) ((defBody sLaw).drop 20) t ∧
    ∀ (D : L2.Ends) (H : Hp) (q l ow : Addr) (n many c size number deep sa : Nat) (o : Int) (x0 x2 x3 x5 x6 x7 x8 x9 x11 x13 x14 x15 x16 x19 : Option V), (∀ H', D.rt (.bl true) H') → Lw tA (qL P w K mg base f cA A outer s H0 E) q l n H → n ≤ 900 → Gd many c size number deep →
      H ow = some (.tup ((ownL many (sx c) size number deep).map V.int)) → 6 ≤ sa → sa < 6 + max 1 many → 0 ≤ o → o ≤ 255 → o ≠ 1 ∧ o ≠ 2 ∧ o ≠ 3 →
      t D [x0, some (.int (many : Int)), x2, x3, some (.int (deep : Int)), x5, x6, x7, x8, x9, some (.int (sa : Int)), x11, some (.ref q), x13, x14, x15, x16, some (.int o), some (.ref ow), x19] H := by
  have r1 : Room 1 _ := L.hr.mono (by decide)
  obtain ⟨t2, ht2, hr2⟩ := part_D L
  refine ⟨_, (pss_cons (ps_if (pt_not (pt_val (pe_fd L.D.alike r1 (by rfl) (pa_cons (L.lam (k := 6) (t := fun E => fun σ H Q => tCons (tOp (rCatA K) (tTup (tCons (tVar 17) tNil)) (tSl (rSlA K) (tVar 18) (tPart (tC (.int 1))) tNoPart)) tNil σ H fun vs H1 => spUnp CB vs H1 Q E) (by decide) (by decide +kernel) rfl (fun _ _ _ _ _ => rfl)
        (fun A' o' s' H' E' f' c' hr' pas => pe_fdX L.D.unp hr' (by rfl) pas (pa_cons (pe_op op_catA (pe_tup (pa_cons (pv 17) pa_nil)) (pe_slice sl_tupA (pv 18) (po_some pe_int) po_none)) pa_nil))) (pa_cons (pe_lst (pa_cons pe_str (pa_cons pe_int (pa_cons pe_str pa_nil)))) pa_nil))))) (pss_one (ps_ret pe_bl)) pss_nil) ht2), ?_⟩
  intro D H q l ow n many c size number deep sa o x0 x2 x3 x5 x6 x7 x8 x9 x11 x13 x14 x15 x16 x19 hD W hn G how h6 hsa ho0 ho1 ho
  have hlen := G.len
  refine ⟨W.tabs, fun H1 e1 T1 => ⟨_, rfl, by show 1 ≤ sizeLine; decide, fun p hp => ⟨_, rfl, _, rfl, ?_⟩⟩⟩
  have W1 := W.ext e1 T1
  have tp1 := Tp.ext e1
  unfold tNoPart
  refine slA_of (Tp.same (Same.new hp) _ _ (tp1 _ _ how)) fun r2 H2 s2 hr2' => ?_
  rw [show (1 : Int) = ((1 : Nat) : Int) from rfl, cut_drop] at hr2'
  refine catA_of (s2 _ _ upd_same) hr2' (by rw [List.length_map, List.length_drop]; show 1 + _ ≤ _; omega) fun r3 H3 s3 hr3 => ?_
  have e3 : [V.int o] ++ ((ownL many (sx c) size number deep).drop 1).map V.int = (o :: (ownL many (sx c) size number deep).drop 1).map V.int := by simp
  rw [e3] at hr3
  have s13 := ((Same.new (o := .tup [V.int o]) hp).trans s2).trans s3
  refine unp_bad (a' := 0) (w := "word") hr3 (fun z hz => ?_) (by rw [List.length_cons, List.length_drop]; omega) ⟨0, ends_word _ ho⟩ (fun p4 H4 s4 hp4 => ⟨by show 3 ≤ sizeLine; decide, fun p5 hp5 => ?_⟩)
  · rcases List.mem_cons.mp hz with rfl | h
    · exact ⟨ho0, ho1⟩
    · exact G.byt z (List.mem_of_mem_drop h)
  · unfold tNil
    refine alike_bad (a' := 0) (w := "word") (by rw [upd_ne (ne_of_none hp4 hp5)]; exact hp4) upd_same (by decide +kernel) fun H6 s6 => ⟨_, rfl, iteF ?_⟩
    have s16 := ((s13.trans s4).trans (Same.new hp5)).trans s6
    exact hr2 D H6 q l ow n many c size number deep sa _ _ _ _ _ _ _ _ _ _ _ _ _ _ _ hD (W1.same s16) hn G (s16 _ _ (tp1 _ _ how)) h6 hsa
/-- s20: odd, sign_at -/
theorem part_C3 (L : Env14 P w K mg base f cA tA CR CB A outer s H0 E) : ∃ t, PSs (XL P w K mg base f cA A outer s H0 E) ((defBody sLaw).drop 19) t ∧
    ∀ (D : L2.Ends) (H : Hp) (q l ow : Addr) (n many c size number deep : Nat) (x0 x2 x3 x5 x6 x7 x8 x9 x10 x11 x13 x14 x15 x16 x17 x19 : Option V), (∀ H', D.rt (.bl true) H') → Lw tA (qL P w K mg base f cA A outer s H0 E) q l n H → n ≤ 800 → Gd many c size number deep →
      H ow = some (.tup ((ownL many (sx c) size number deep).map V.int)) →
      t D [x0, some (.int (many : Int)), x2, x3, some (.int (deep : Int)), x5, x6, x7, x8, x9, x10, x11, some (.ref q), x13, x14, x15, x16, x17, some (.ref ow), x19] H := by
  have T := L.T
  have r1 : Room 1 _ := L.hr.mono (by decide)
  have r2 : Room 2 _ := L.hr.mono (by decide)
  obtain ⟨t2, ht2, hr2⟩ := part_C4 L
  refine ⟨_, (pss_cons (ps_asg (pe_tup (pa_cons (pe_fd L.D.some r2 (by rfl) (pa_cons (pv 12) (pa_cons (pe_lst (pa_cons pe_int (pa_cons pe_int (pa_cons pe_int pa_nil)))) pa_nil)))
          (pa_cons (pe_op op_add pe_int (pe_fd L.D.take r1 (by rfl) (pa_cons (pv 12) (pa_cons (pe_callB (call_max2 rfl) (by rfl) T.max (by decide +kernel) (pa_cons pe_int (pa_cons (pv 1) pa_nil))) pa_nil)))) pa_nil))) (pg_tup (by rfl) (pgs_cons (pg_name (i := 17) scLaw.nd rfl (Or.inr rfl)) (pgs_cons (pg_name (i := 10) scLaw.nd rfl (Or.inl rfl)) pgs_nil)))) ht2), ?_⟩
  intro D H q l ow n many c size number deep x0 x2 x3 x5 x6 x7 x8 x9 x10 x11 x13 x14 x15 x16 x17 x19 hD W hn G how
  refine ⟨_, rfl, by show 3 ≤ sizeLine; decide, fun p2 h2 => ⟨q, l, p2, n, _, rfl, (W.same (Same.new h2)).bag, by omega, W.ne h2, upd_same, by simp, by show 3 < 1000000; decide, fun y hy H3 mv B => ?_⟩⟩
  obtain ⟨o, rfl, ho0, ho1, ho⟩ : ∃ x : Int, y = .int x ∧ 0 ≤ x ∧ x ≤ 255 ∧ (x ≠ 1 ∧ x ≠ 2 ∧ x ≠ 3) := by
    simp only [List.mem_cons, List.mem_nil_iff, or_false] at hy
    rcases hy with rfl | rfl | rfl <;> exact ⟨_, rfl, by decide, by decide, by decide⟩
  have W2 := W.same (Same.new (o := .lst [V.int 0, V.int 4, V.int 255]) h2)
  have tp3 := W2.tp mv
  have W3 := W2.take mv B
  have how3 := tp3 _ _ (Same.new (o := .lst [V.int 0, V.int 4, V.int 255]) h2 _ _ how)
  have hmany := G.m
  refine ⟨_, rfl, _, rfl, _, _, rfl, q, l, _, n + 1, rfl, W3.bag, by omega, ?_, ?_, fun v H4 v0 v1 mv4 B4 => ?_⟩
  · show (1 : Int) ≤ (if (many : Int) > 1 then (many : Int) else 1)
    split <;> omega
  · show (if (many : Int) > 1 then (many : Int) else 1) < 1073741824
    split <;> omega
  · have W4 := W3.take mv4 B4
    have how4 := W3.tp mv4 _ _ how3
    obtain ⟨k, rfl⟩ : ∃ k : Nat, v = (k : Int) := ⟨_, (Int.toNat_of_nonneg v0).symm⟩
    have v1 : (k : Int) < (if (many : Int) > 1 then (many : Int) else 1) := v1
    have hk : k < max 1 many := by
      split at v1 <;> omega
    refine ⟨_, _, rfl, rfl, by show 2 ≤ sizeLine; decide, fun t ht => ⟨t, _, rfl, SqT.of upd_same, rfl, _, _, rfl, _, _, rfl, rfl, ?_⟩⟩
    have e6 : (6 : Int) + (k : Int) = ((6 + k : Nat) : Int) := by omega
    dsimp only
    rw [e6]
    exact hr2 D _ q l ow (n + 1 + 1) many c size number deep (6 + k) o _ _ _ _ _ _ _ _ _ _ _ _ _ _ hD (W4.same (Same.new ht)) (by omega) G (Same.new ht _ _ how4) (by omega) (by omega) ho0 ho1 ho
/-- s19: one more byte -/
theorem part_C2 (L : Env14 P w K mg base f cA tA CR CB A outer s H0 E) : ∃ t, PSs (XL P w K mg base f cA A outer s H0 E) ((defBody sLaw).drop 18) t ∧
    ∀ (D : L2.Ends) (H : Hp) (q l ow : Addr) (n many c size number deep : Nat) (x0 x2 x3 x5 x6 x7 x8 x9 x10 x11 x13 x14 x15 x16 x17 x19 : Option V), (∀ H', D.rt (.bl true) H') → Lw tA (qL P w K mg base f cA A outer s H0 E) q l n H → n ≤ 700 → Gd many c size number deep →
      H ow = some (.tup ((ownL many (sx c) size number deep).map V.int)) →
      t D [x0, some (.int (many : Int)), x2, x3, some (.int (deep : Int)), x5, x6, x7, x8, x9, x10, x11, some (.ref q), x13, x14, x15, x16, x17, some (.ref ow), x19] H := by
  have T := L.T
  have r1 : Room 1 _ := L.hr.mono (by decide)
  obtain ⟨t2, ht2, hr2⟩ := part_C3 L
  refine ⟨_, (pss_cons (ps_if (pt_not (pt_val (pe_fd L.D.alike r1 (by rfl) (pa_cons (L.lam (k := 6) (t := fun E => fun σ H Q => tCons (tOp (rCatA K) (tVar 18) (tTup (tCons (fun σ H Q => tCons (tVar 12) (tCons (tC (.int 256)) tNil) σ H fun vs H1 => spTake vs H1 Q E0) tNil))) tNil σ H fun vs H1 => spUnp CB vs H1 Q E) (by decide) (by decide +kernel) rfl (fun _ _ _ _ _ => rfl)
        (fun A' o' s' H' E' f' c' hr' pas => pe_fdX L.D.unp hr' (by rfl) pas (pa_cons (pe_op op_catA (pv 18) (pe_tup (pa_cons (pe_fd L.D.take (hr'.mono (by decide)) (by rfl) (pa_cons (pv 12) (pa_cons pe_int pa_nil))) pa_nil))) pa_nil))) (pa_cons (pe_lst (pa_cons pe_str (pa_cons (pe_callB call_len_seq (by rfl) T.len PySem.boot_len (pa_cons (pv 18) pa_nil)) (pa_cons pe_str pa_nil)))) pa_nil))))) (pss_one (ps_ret pe_bl)) pss_nil) ht2), ?_⟩
  intro D H q l ow n many c size number deep x0 x2 x3 x5 x6 x7 x8 x9 x10 x11 x13 x14 x15 x16 x17 x19 hD W hn G how
  have hlen := G.len
  refine ⟨W.tabs, fun H1 e1 T1 => ⟨_, rfl, _, rfl, q, l, 256, n, rfl, (W.ext e1 T1).bag, by omega, by decide, by decide, fun v H2 v0 v1 mv B => ⟨by show 1 ≤ sizeLine; decide, fun p hp => ?_⟩⟩⟩
  have W1 := W.ext e1 T1
  have tp1 := Tp.ext e1
  have W2 := W1.take mv B
  have how2 := W1.tp mv _ _ (tp1 _ _ how)
  refine catA_of (Same.new hp _ _ how2) upd_same (by rw [List.length_map]; show _ + 1 ≤ _; omega) fun r3 H3 s3 hr3 => ?_
  have e3 : (ownL many (sx c) size number deep).map V.int ++ [V.int v] = (ownL many (sx c) size number deep ++ [v]).map V.int := by simp
  rw [e3] at hr3
  have s23 := (Same.new (o := .tup [V.int v]) hp).trans s3
  have hE : ∃ n, Ends (ownL many (sx c) size number deep ++ [v]) n 0 [] (.inr ((ownL many (sx c) size number deep).length, "more")) := by
    have := ends_more v (d := thingD many c size number deep) (by rw [ok_thing G.s, decide_eq_true G.m, decide_eq_true G.n, decide_eq_true G.d]; rfl) (fit_thing G.c)
    rw [enc_thing] at this
    exact this
  refine unp_bad (w := "more") hr3 (fun z hz => ?_) (by rw [List.length_append, List.length_singleton]; omega) hE (fun p4 H4 s4 hp4 => ⟨_, rfl, ow, _, rfl, .inr (SqT.of (s4 _ _ (s23 _ _ how2))), by show 3 ≤ sizeLine; decide, fun p5 hp5 => ?_⟩)
  · rcases List.mem_append.mp hz with h | h
    · exact G.byt z h
    · rw [List.mem_singleton.mp h]
      omega
  · unfold tNil
    refine alike_bad (a' := (ownL many (sx c) size number deep).length) (w := "more") (by rw [upd_ne (ne_of_none hp4 hp5)]; exact hp4) (by rw [upd_same, List.length_map]) (by decide +kernel) fun H6 s6 => ⟨_, rfl, iteF ?_⟩
    have s26 := ((s23.trans s4).trans (Same.new hp5)).trans s6
    exact hr2 D H6 q l ow (n + 1) many c size number deep _ _ _ _ _ _ _ _ _ _ _ _ _ _ _ _ hD (W2.same s26) (by omega) G (s26 _ _ how2)
/-- s18: cut -/
theorem part_C1 (L : Env14 P w K mg base f cA tA CR CB A outer s H0 E) : ∃ t, PSs (XL P w K mg base f cA A outer s H0 E) ((defBody sLaw).drop 17) t ∧
    ∀ (D : L2.Ends) (H : Hp) (q l ow : Addr) (n many c size number deep cut : Nat) (x0 x2 x3 x5 x6 x7 x8 x9 x10 x11 x13 x15 x16 x17 x19 : Option V), (∀ H', D.rt (.bl true) H') → Lw tA (qL P w K mg base f cA A outer s H0 E) q l n H → n ≤ 700 → Gd many c size number deep →
      H ow = some (.tup ((ownL many (sx c) size number deep).map V.int)) → cut < (ownL many (sx c) size number deep).length →
      t D [x0, some (.int (many : Int)), x2, x3, some (.int (deep : Int)), x5, x6, x7, x8, x9, x10, x11, some (.ref q), x13, some (.int (cut : Int)), x15, x16, x17, some (.ref ow), x19] H := by
  have r1 : Room 1 _ := L.hr.mono (by decide)
  obtain ⟨t2, ht2, hr2⟩ := part_C2 L
  refine ⟨_, (pss_cons (ps_if (pt_not (pt_val (pe_fd L.D.alike r1 (by rfl) (pa_cons (L.lam (k := 6) (t := fun E => fun σ H Q => tCons (tSl (rSlA K) (tVar 18) tNoPart (tPart (tVar 14))) tNil σ H fun vs H1 => spUnp CB vs H1 Q E) (by decide) (by decide +kernel) rfl (fun _ _ _ _ _ => rfl)
        (fun A' o' s' H' E' f' c' hr' pas => pe_fdX L.D.unp hr' (by rfl) pas (pa_cons (pe_slice sl_tupA (pv 18) po_none (po_some (pv 14))) pa_nil))) (pa_cons (pe_lst (pa_cons pe_str (pa_cons (pv 14) (pa_cons pe_str pa_nil)))) pa_nil))))) (pss_one (ps_ret pe_bl)) pss_nil) ht2), ?_⟩
  intro D H q l ow n many c size number deep cut x0 x2 x3 x5 x6 x7 x8 x9 x10 x11 x13 x15 x16 x17 x19 hD W hn G how hcut
  have hlen := G.len
  refine ⟨W.tabs, fun H1 e1 T1 => ⟨_, rfl, _, rfl, _, rfl, slA_of (Tp.ext e1 _ _ how) fun r2 H2 s2 hr2' => ?_⟩⟩
  have W1 := W.ext e1 T1
  have tp1 := Tp.ext e1
  rw [cut_take] at hr2'
  have hE : ∃ n, Ends ((ownL many (sx c) size number deep).take cut) n 0 [] (.inr (cut, "end")) := by
    have := ends_cut (d := thingD many c size number deep) (c := cut) (by rw [enc_thing]; exact hcut) (by rw [ok_thing G.s, decide_eq_true G.m, decide_eq_true G.n, decide_eq_true G.d]; rfl) (fit_thing G.c)
    rw [enc_thing] at this
    exact this
  refine unp_bad (a' := cut) (w := "end") hr2' (fun z hz => G.byt z (List.mem_of_mem_take hz)) (by rw [List.length_take]; omega) hE (fun p4 H4 s4 hp4 => ⟨_, rfl, by show 3 ≤ sizeLine; decide, fun p5 hp5 => ?_⟩)
  unfold tNil
  refine alike_bad (a' := cut) (w := "end") (by rw [upd_ne (ne_of_none hp4 hp5)]; exact hp4) upd_same (by decide +kernel) fun H6 s6 => ⟨_, rfl, iteF ?_⟩
  have s26 := ((s2.trans s4).trans (Same.new hp5)).trans s6
  exact hr2 D H6 q l ow n many c size number deep _ _ _ _ _ _ _ _ _ _ _ _ _ _ _ _ hD (W1.same s26) hn G (s26 _ _ (tp1 _ _ how))
end
end K14
/-! the law, part B -/
namespace K14
open PySem PySem.Spec PyProof.Rows L2 LamX
theorem rep_ints (k : Nat) (xs : List Int) : (List.replicate k (xs.map V.int)).flatten = ((List.replicate k xs).flatten).map V.int := by
  rw [List.map_flatten, List.map_replicate]
theorem two_ints (n : Nat) : [V.int ((n : Int) / 256), V.int ((n : Int) % 256)] = (two n).map V.int := by simp [two]
theorem signs_lit : ("\n !\"#()*+,-./0123456789:;<=>?abcdefghijklmnopqrstuvwxyz" : Str) = sgS := by decide +kernel
theorem occ_o : Builtin.Str.occurrences sgS ("o" : Str) 0 sgS.length 1 = [43] := by decide +kernel
theorem occ_n : Builtin.Str.occurrences sgS ("n" : Str) 0 sgS.length 1 = [42] := by decide +kernel
def own1 (many place : Nat) : List Int := [3, 0, 4, 2] ++ two many ++ List.replicate many (place : Int)
def own2 (many place size number : Nat) : List Int := own1 many place ++ (3 :: two size) ++ (List.replicate size (1 :: two number)).flatten
def own3 (many place size number deep : Nat) : List Int := own2 many place size number ++ lad deep ++ (1 :: two number)
theorem own1_len (many place : Nat) : (own1 many place).length = 6 + many := by
  unfold own1
  simp [two]
  omega
theorem own2_len (many place size number : Nat) : (own2 many place size number).length = 9 + many + 3 * size := by
  unfold own2
  rw [List.length_append, List.length_append, own1_len]
  simp [two, List.length_flatten]
  omega
theorem own3_len (many place size number deep : Nat) : (own3 many place size number deep).length = 12 + many + 3 * size + 3 * deep := by
  unfold own3
  rw [List.length_append, List.length_append, own2_len, lad_len]
  simp [two]
  omega
theorem own4 (many place size number deep : Nat) : own3 many place size number deep ++ [2, 0, 2, 43, 42] = ownL many place size number deep := by
  unfold own3 own2 own1 ownL
  simp only [List.append_assoc, List.cons_append, List.nil_append]
section
variable {P : Program} {w : World} {K : PySem.W.Frag} {mg : Str → Option Value} {base : Heap} {f cA tA CR CB : Addr} {A : Around} {outer : List Env} {s : Shared} {H0 : Hp} {E : XK}
/-- s17: cut -/
theorem part_B8 (L : Env14 P w K mg base f cA tA CR CB A outer s H0 E) : ∃ t, PSs (XL P w K mg base f cA A outer s H0 E) ((defBody sLaw).drop 16) t ∧
    ∀ (D : L2.Ends) (H : Hp) (q l ow : Addr) (n many c size number deep : Nat) (x0 x2 x3 x5 x6 x7 x8 x9 x10 x11 x13 x14 x15 x16 x17 x19 : Option V), (∀ H', D.rt (.bl true) H') → Lw tA (qL P w K mg base f cA A outer s H0 E) q l n H → n ≤ 600 → Gd many c size number deep →
      H ow = some (.tup ((ownL many (sx c) size number deep).map V.int)) →
      t D [x0, some (.int (many : Int)), x2, x3, some (.int (deep : Int)), x5, x6, x7, x8, x9, x10, x11, some (.ref q), x13, x14, x15, x16, x17, some (.ref ow), x19] H := by
  have T := L.T
  have r1 : Room 1 _ := L.hr.mono (by decide)
  have r2 : Room 2 _ := L.hr.mono (by decide)
  obtain ⟨t2, ht2, hr2⟩ := part_C1 L
  refine ⟨_, (pss_cons (ps_set (i := 14) scLaw.nd rfl (Or.inr rfl) (pe_fd L.D.some r2 (by rfl) (pa_cons (pv 12) (pa_cons (pe_lst (pa_cons pe_int (pa_cons (pe_op op_sub (pe_callB call_len_seq (by rfl) T.len PySem.boot_len (pa_cons (pv 18) pa_nil)) pe_int) (pa_cons (pe_op op_sub (pe_callB call_len_seq (by rfl) T.len PySem.boot_len (pa_cons (pv 18) pa_nil)) pe_int)
        (pa_cons (pe_fd L.D.take r1 (by rfl) (pa_cons (pv 12) (pa_cons (pe_callB call_len_seq (by rfl) T.len PySem.boot_len (pa_cons (pv 18) pa_nil)) pa_nil))) pa_nil))))) pa_nil)))) ht2), ?_⟩
  intro D H q l ow n many c size number deep x0 x2 x3 x5 x6 x7 x8 x9 x10 x11 x13 x14 x15 x16 x17 x19 hD W hn G how
  have hlen := G.len
  have hl17 : 17 ≤ (ownL many (sx c) size number deep).length := by rw [ownL_len]; omega
  have hml : ((ownL many (sx c) size number deep).map V.int).length = (ownL many (sx c) size number deep).length := List.length_map ..
  refine ⟨_, rfl, _, rfl, ow, _, rfl, .inr (SqT.of how), _, _, rfl, rfl, _, rfl, ow, _, rfl, .inr (SqT.of how), _, _, rfl, rfl, _, rfl, _, rfl, ow, _, rfl, .inr (SqT.of how), q, l, _, n, rfl, W.bag, by omega, by rw [hml]; omega, by rw [hml]; omega, fun v H2 v0 v1 mv B => ?_⟩
  have W2 := W.take mv B
  have how2 := W.tp mv _ _ how
  rw [hml] at v1
  refine ⟨by show 4 ≤ sizeLine; decide, fun p hp => ⟨q, l, p, n + 1, _, rfl, (W2.same (Same.new hp)).bag, by omega, W2.ne hp, upd_same, by simp, by show 4 < 1000000; decide, fun y hy H3 mv3 B3 => ?_⟩⟩
  have W3 := (W2.same (Same.new (o := .lst [V.int 1, V.int ((((ownL many (sx c) size number deep).map V.int).length : Int) - 1), V.int ((((ownL many (sx c) size number deep).map V.int).length : Int) - 2), V.int v]) hp)).take mv3 B3
  have how3 := (W2.same (Same.new (o := .lst [V.int 1, V.int ((((ownL many (sx c) size number deep).map V.int).length : Int) - 1), V.int ((((ownL many (sx c) size number deep).map V.int).length : Int) - 2), V.int v]) hp)).tp mv3 _ _ (Same.new (o := .lst [V.int 1, V.int ((((ownL many (sx c) size number deep).map V.int).length : Int) - 1), V.int ((((ownL many (sx c) size number deep).map V.int).length : Int) - 2), V.int v]) hp _ _ how2)
  obtain ⟨cut, rfl, hcut⟩ : ∃ k : Nat, y = .int (k : Int) ∧ k < (ownL many (sx c) size number deep).length := by
    simp only [List.mem_cons, List.mem_nil_iff, or_false] at hy
    rw [hml] at hy
    rcases hy with rfl | rfl | rfl | rfl
    · exact ⟨1, rfl, by omega⟩
    · exact ⟨(ownL many (sx c) size number deep).length - 1, congrArg V.int (by omega), by omega⟩
    · exact ⟨(ownL many (sx c) size number deep).length - 2, congrArg V.int (by omega), by omega⟩
    · exact ⟨v.toNat, congrArg V.int (by omega), by omega⟩
  exact hr2 D H3 q l ow (n + 1 + 1) many c size number deep cut _ _ _ _ _ _ _ _ _ _ _ _ _ _ _ hD W3 (by omega) G how3 hcut
/-- s16: bytes and data, each from the other -/
theorem part_B7 (L : Env14 P w K mg base f cA tA CR CB A outer s H0 E) : ∃ t, PSs (XL P w K mg base f cA A outer s H0 E) ((defBody sLaw).drop 15) t ∧
    ∀ (D : L2.Ends) (H : Hp) (q l ow fo th : Addr) (n many c size number deep : Nat) (x0 x2 x3 x5 x6 x7 x8 x9 x10 x11 x13 x14 x15 x17 : Option V), (∀ H', D.rt (.bl true) H') → Lw tA (qL P w K mg base f cA A outer s H0 E) q l n H → n ≤ 600 → Gd many c size number deep →
      H ow = some (.tup ((ownL many (sx c) size number deep).map V.int)) → H fo = some (.tup ((ownL many (sx c) size number deep).map V.int)) → Rep H (.ref th) (thingD many c size number deep) →
      t D [x0, some (.int (many : Int)), x2, x3, some (.int (deep : Int)), x5, x6, x7, x8, x9, x10, x11, some (.ref q), x13, x14, x15, some (.ref fo), x17, some (.ref ow), some (.ref th)] H := by
  have r1 : Room 1 _ := L.hr.mono (by decide)
  obtain ⟨t2, ht2, hr2⟩ := part_B8 L
  refine ⟨_, (pss_cons (ps_if (pt_not (pt_val (pe_fd L.D.alike r1 (by rfl) (pa_cons (pe_lst (pa_cons (pv 16) (pa_cons (L.lam (k := 6) (t := fun E => fun σ H Q => tCons (tVar 16) tNil σ H fun vs H1 => spUnp CB vs H1 Q E) (by decide) (by decide +kernel) rfl (fun _ _ _ _ _ => rfl)
        (fun A' o' s' H' E' f' c' hr' pas => pe_fdX L.D.unp hr' (by rfl) pas (pa_cons (pv 16) pa_nil))) pa_nil))) (pa_cons (pe_lst (pa_cons (pv 18) (pa_cons (pv 19) pa_nil))) pa_nil))))) (pss_one (ps_ret pe_bl)) pss_nil) ht2), ?_⟩
  intro D H q l ow fo th n many c size number deep x0 x2 x3 x5 x6 x7 x8 x9 x10 x11 x13 x14 x15 x17 hD W hn G how hfo hth
  have hlen := G.len
  have hok : okD 0 (thingD many c size number deep) = true := by rw [ok_thing G.s, decide_eq_true G.m, decide_eq_true G.n, decide_eq_true G.d]; rfl
  refine ⟨_, rfl, W.tabs, fun H1 e1 T1 => ⟨_, rfl, ?_⟩⟩
  have W1 := W.ext e1 T1
  have tp1 := Tp.ext e1
  obtain ⟨k, hE⟩ := ends_enc hok (fit_thing G.c)
  rw [enc_thing] at hE
  refine ⟨fo, _, k, _, rfl, tp1 _ _ hfo, G.byt, by omega, hE, fun d hd v H2 s2 hv => ⟨by show 2 ≤ sizeLine; decide, fun p1 h1 => ⟨_, rfl, _, rfl, by show 2 ≤ sizeLine; decide, fun p2 h2 => ?_⟩⟩, fun a' w' e => (by cases e)⟩
  cases hd
  unfold tNil
  have s3 := Same.new (o := .lst [V.ref fo, v]) h1
  have s4 := Same.new (o := .lst [V.ref ow, V.ref th]) h2
  have s24 := (s2.trans s3).trans s4
  have hp1 := s4 _ _ (upd_same (H := H2) (a := p1) (o := .lst [V.ref fo, v]))
  have ri : ∀ {a : Addr} {ns : List Int} {H : Hp}, H a = some (.tup (ns.map V.int)) → Rep H (.ref a) (.tup (ns.map K14.D.int)) := fun h => ⟨_, _, rfl, h, RepL.ints _⟩
  refine ⟨_, _, .lst [.tup ((ownL many (sx c) size number deep).map K14.D.int), thingD many c size number deep], rfl, ⟨p1, _, rfl, hp1, _, _, rfl, ri (s24 _ _ (tp1 _ _ hfo)), _, _, rfl, hv.same (s3.trans s4), rfl⟩, ⟨p2, _, rfl, upd_same, _, _, rfl, ri (s24 _ _ (tp1 _ _ how)), _, _, rfl, (hth.ext e1).same s24, rfl⟩, ?_, fun H5 s5 => ⟨_, rfl, iteF ?_⟩⟩
  · rw [sz, szL, szL, szL, sz, szL_ints]
    have := sz_thing (many := many) (c := c) (size := size) (number := number) (deep := deep) (by have := G.m; omega) G.s (by have := G.d; omega)
    omega
  · have s25 := s24.trans s5
    exact hr2 D H5 q l ow n many c size number deep _ _ _ _ _ _ _ _ _ _ _ _ _ _ _ _ hD (W1.same s25) hn G (s25 _ _ (tp1 _ _ how))
/-- s15: a tuple of them -/
theorem part_B6 (L : Env14 P w K mg base f cA tA CR CB A outer s H0 E) : ∃ t, PSs (XL P w K mg base f cA A outer s H0 E) ((defBody sLaw).drop 14) t ∧
    ∀ (D : L2.Ends) (H : Hp) (q l ow fo th : Addr) (n many c size number deep : Nat) (x0 x2 x3 x5 x6 x7 x9 x10 x11 x13 x14 x15 x17 : Option V), (∀ H', D.rt (.bl true) H') → Lw tA (qL P w K mg base f cA A outer s H0 E) q l n H → n ≤ 600 → Gd many c size number deep →
      H ow = some (.lst ((own3 many (sx c) size number deep).map V.int)) → H fo = some (.tup ((ownL many (sx c) size number deep).map V.int)) → Rep H (.ref th) (thingD many c size number deep) →
      t D [x0, some (.int (many : Int)), x2, x3, some (.int (deep : Int)), x5, x6, x7, some (.str sgS), x9, x10, x11, some (.ref q), x13, x14, x15, some (.ref fo), x17, some (.ref ow), some (.ref th)] H := by
  have T := L.T
  obtain ⟨t2, ht2, hr2⟩ := part_B7 L
  refine ⟨_, (pss_cons (ps_set (i := 18) scLaw.nd rfl (Or.inr rfl) (pe_callTy call_tuple_of (by rfl) T.tuple (by decide +kernel) (pa_cons (pe_op op_cat (pv 18) (pe_lst (pa_cons pe_int (pa_cons pe_int (pa_cons pe_int (pa_cons (pe_m1 PySem.F.slot_str_index PySem.F.type_str_index mt_sindex (pv 8) pe_str) (pa_cons (pe_m1 PySem.F.slot_str_index PySem.F.type_str_index mt_sindex (pv 8) pe_str) pa_nil))))))) pa_nil))) ht2), ?_⟩
  intro D H q l ow fo th n many c size number deep x0 x2 x3 x5 x6 x7 x9 x10 x11 x13 x14 x15 x17 hD W hn G how hfo hth
  have hm := G.m
  have hs := G.s
  have hd := G.d
  refine ⟨_, rfl, _, rfl, ⟨_, rfl⟩, sgS, _, 43, [], rfl, rfl, occ_o, _, rfl, ⟨_, rfl⟩, sgS, _, 42, [], rfl, rfl, occ_n, by show 5 ≤ sizeLine; decide, fun p hp => ⟨ow, p, _, _, rfl, rfl, Same.new hp _ _ how, upd_same, ?_, fun p2 h2 => ⟨p2, _, rfl, .inl ⟨SqL.of upd_same, fun p3 h3 => ?_⟩⟩⟩⟩
  · rw [PySem.sizeLine_eq, List.length_map, own3_len]
    show _ + 5 ≤ _
    omega
  · have e : (own3 many (sx c) size number deep).map V.int ++ [V.int 2, V.int 0, V.int 2, V.int ((43 : Nat) : Int), V.int ((42 : Nat) : Int)] = (ownL many (sx c) size number deep).map V.int := by
      rw [← own4, List.map_append]
      rfl
    rw [e] at h3 ⊢
    have s3 := ((Same.new (o := .lst [V.int 2, V.int 0, V.int 2, V.int ((43 : Nat) : Int), V.int ((42 : Nat) : Int)]) hp).trans (Same.new (o := .lst ((ownL many (sx c) size number deep).map V.int)) h2)).trans (Same.new (o := .tup ((ownL many (sx c) size number deep).map V.int)) h3)
    exact hr2 D _ q l p3 fo th n many c size number deep _ _ _ _ _ _ _ _ _ _ _ _ _ _ hD (W.same s3) hn G upd_same (s3 _ _ hfo) (hth.same s3)
/-- s14 -/
theorem part_B5 (L : Env14 P w K mg base f cA tA CR CB A outer s H0 E) : ∃ t, PSs (XL P w K mg base f cA A outer s H0 E) ((defBody sLaw).drop 13) t ∧
    ∀ (D : L2.Ends) (H : Hp) (q l ow fo th : Addr) (n many c size number deep : Nat) (x0 x2 x3 x6 x7 x9 x10 x11 x13 x14 x15 x17 : Option V), (∀ H', D.rt (.bl true) H') → Lw tA (qL P w K mg base f cA A outer s H0 E) q l n H → n ≤ 600 → Gd many c size number deep →
      H ow = some (.lst ((own2 many (sx c) size number).map V.int)) → H fo = some (.tup ((ownL many (sx c) size number deep).map V.int)) → Rep H (.ref th) (thingD many c size number deep) →
      t D [x0, some (.int (many : Int)), x2, x3, some (.int (deep : Int)), some (.int (number : Int)), x6, x7, some (.str sgS), x9, x10, x11, some (.ref q), x13, x14, x15, some (.ref fo), x17, some (.ref ow), some (.ref th)] H := by
  have T := L.T
  obtain ⟨t2, ht2, hr2⟩ := part_B6 L
  refine ⟨_, (pss_cons (ps_set (i := 18) scLaw.nd rfl (Or.inr rfl) (pe_op op_cat (pe_op op_cat (pv 18) (pe_op op_rep (pe_lst (pa_cons pe_int (pa_cons pe_int (pa_cons pe_int pa_nil)))) (pv 4)))
        (pe_lst (pa_cons pe_int (pa_cons (pe_op op_fdiv (pv 5) pe_int) (pa_cons (pe_op op_mod (pe_callTy call_int1 (by rfl) T.int (by decide +kernel) (pa_cons (pv 5) pa_nil)) pe_int) pa_nil)))))) ht2), ?_⟩
  intro D H q l ow fo th n many c size number deep x0 x2 x3 x6 x7 x9 x10 x11 x13 x14 x15 x17 hD W hn G how hfo hth
  have hm := G.m
  have hs := G.s
  have hd := G.d
  refine ⟨_, rfl, by show 3 ≤ sizeLine; decide, fun p1 h1 => ⟨_, rfl, p1, _, _, rfl, rfl, upd_same, by omega, by omega, ?_, fun p2 h2 => ⟨ow, p2, _, _, rfl, rfl, Same.new h2 _ _ (Same.new h1 _ _ how), upd_same, ?_, fun p3 h3 => ?_⟩⟩⟩
  · rw [Int.toNat_natCast, PySem.sizeLine_eq]
    show 3 * deep ≤ _
    omega
  · rw [Int.toNat_natCast, PySem.sizeLine_eq, List.length_map, own2_len, lad_map, List.length_map, lad_len]
    omega
  · rw [Int.toNat_natCast, lad_map] at h3 ⊢
    rw [← List.map_append]
    refine ⟨_, rfl, _, _, rfl, rfl, ⟨by decide, by decide⟩, _, rfl, .inl ⟨_, rfl, _, _, rfl, rfl, by show (0 : Int) < 256; decide, by show 3 ≤ sizeLine; decide, fun p4 h4 => ⟨p3, p4, _, _, rfl, rfl, Same.new h4 _ _ upd_same, upd_same, ?_, fun p5 h5 => ?_⟩⟩⟩
    · rw [PySem.sizeLine_eq, List.length_map, List.length_append, own2_len, lad_len]
      show _ + 3 ≤ _
      omega
    · have e : (own2 many (sx c) size number ++ lad deep).map V.int ++ [V.int 1, V.int ((number : Int) / 256), V.int ((number : Int) % 256)] = (own3 many (sx c) size number deep).map V.int := by
        unfold own3
        rw [List.map_append (l₁ := own2 many (sx c) size number ++ lad deep), List.map_cons, ← two_ints]
      have e : (own2 many (sx c) size number ++ lad deep).map V.int ++ [V.int 1, (fun i j => V.int (i / j)) (number : Int) 256, (fun i j => V.int (i % j)) (number : Int) 256] = (own3 many (sx c) size number deep).map V.int := e
      rw [e]
      have s5 := ((((Same.new (o := .lst [V.int 3, V.int 0, V.int 1]) h1).trans (Same.new (o := _) h2)).trans (Same.new (o := _) h3)).trans (Same.new (o := _) h4)).trans (Same.new (o := .lst ((own3 many (sx c) size number deep).map V.int)) h5)
      exact hr2 D _ q l p5 fo th n many c size number deep _ _ _ _ _ _ _ _ _ _ _ _ _ hD (W.same s5) hn G upd_same (s5 _ _ hfo) (hth.same s5)
/-- s13 -/
theorem part_B4 (L : Env14 P w K mg base f cA tA CR CB A outer s H0 E) : ∃ t, PSs (XL P w K mg base f cA A outer s H0 E) ((defBody sLaw).drop 12) t ∧
    ∀ (D : L2.Ends) (H : Hp) (q l ow fo th : Addr) (n many c size number deep : Nat) (x0 x2 x6 x7 x9 x10 x11 x13 x14 x15 x17 : Option V), (∀ H', D.rt (.bl true) H') → Lw tA (qL P w K mg base f cA A outer s H0 E) q l n H → n ≤ 600 → Gd many c size number deep →
      H ow = some (.lst ((own1 many (sx c)).map V.int)) → H fo = some (.tup ((ownL many (sx c) size number deep).map V.int)) → Rep H (.ref th) (thingD many c size number deep) →
      t D [x0, some (.int (many : Int)), x2, some (.int (size : Int)), some (.int (deep : Int)), some (.int (number : Int)), x6, x7, some (.str sgS), x9, x10, x11, some (.ref q), x13, x14, x15, some (.ref fo), x17, some (.ref ow), some (.ref th)] H := by
  have T := L.T
  obtain ⟨t2, ht2, hr2⟩ := part_B5 L
  refine ⟨_, (pss_cons (ps_set (i := 18) scLaw.nd rfl (Or.inr rfl) (pe_op op_cat (pe_op op_cat (pv 18) (pe_lst (pa_cons pe_int (pa_cons (pe_op op_fdiv (pv 3) pe_int) (pa_cons (pe_op op_mod (pe_callTy call_int1 (by rfl) T.int (by decide +kernel) (pa_cons (pv 3) pa_nil)) pe_int) pa_nil)))))
        (pe_op op_rep (pe_lst (pa_cons pe_int (pa_cons (pe_op op_fdiv (pv 5) pe_int) (pa_cons (pe_op op_mod (pe_callTy call_int1 (by rfl) T.int (by decide +kernel) (pa_cons (pv 5) pa_nil)) pe_int) pa_nil)))) (pv 3)))) ht2), ?_⟩
  intro D H q l ow fo th n many c size number deep x0 x2 x6 x7 x9 x10 x11 x13 x14 x15 x17 hD W hn G how hfo hth
  have hm := G.m
  have hs := G.s
  have hd := G.d
  have e1 : ∀ k : Nat, [V.int 3, (fun i j => V.int (i / j)) (k : Int) 256, (fun i j => V.int (i % j)) (k : Int) 256] = (3 :: two k).map V.int := fun k => by
    rw [List.map_cons, ← two_ints]
  have e2 : ∀ k : Nat, [V.int 1, (fun i j => V.int (i / j)) (k : Int) 256, (fun i j => V.int (i % j)) (k : Int) 256] = (1 :: two k).map V.int := fun k => by
    rw [List.map_cons, ← two_ints]
  refine ⟨_, rfl, _, rfl, _, _, rfl, rfl, ⟨by decide, by decide⟩, _, rfl, .inl ⟨_, rfl, _, _, rfl, rfl, by show (0 : Int) < 256; decide, by show 3 ≤ sizeLine; decide, fun p1 h1 => ⟨ow, p1, _, _, rfl, rfl, Same.new h1 _ _ how, upd_same, ?_, fun p2 h2 => ?_⟩⟩⟩
  · rw [PySem.sizeLine_eq, List.length_map, own1_len]
    show _ + 3 ≤ _
    omega
  · rw [e1] at h2 ⊢
    rw [← List.map_append]
    refine ⟨_, rfl, _, _, rfl, rfl, ⟨by decide, by decide⟩, _, rfl, .inl ⟨_, rfl, _, _, rfl, rfl, by show (0 : Int) < 256; decide, by show 3 ≤ sizeLine; decide, fun p3 h3 => ?_⟩⟩
    rw [e2]
    refine ⟨_, rfl, p3, _, _, rfl, rfl, upd_same, by omega, by omega, ?_, fun p4 h4 => ⟨p2, p4, _, _, rfl, rfl, Same.new h4 _ _ (Same.new h3 _ _ upd_same), upd_same, ?_, fun p5 h5 => ?_⟩⟩
    · rw [Int.toNat_natCast, PySem.sizeLine_eq]
      show 3 * size ≤ _
      omega
    · rw [Int.toNat_natCast, PySem.sizeLine_eq, rep_ints, List.length_map, List.length_map, List.length_append, own1_len]
      simp [two, List.length_flatten]
      omega
    · rw [Int.toNat_natCast, rep_ints] at h5 ⊢
      rw [← List.map_append]
      have s5 := ((((Same.new (o := _) h1).trans (Same.new (o := _) h2)).trans (Same.new (o := _) h3)).trans (Same.new (o := _) h4)).trans (Same.new (o := .lst ((own2 many (sx c) size number).map V.int)) h5)
      exact hr2 D _ q l p5 fo th n many c size number deep _ _ _ _ _ _ _ _ _ _ _ _ hD (W.same s5) hn G upd_same (s5 _ _ hfo) (hth.same s5)
/-- s12 -/
theorem part_B3 (L : Env14 P w K mg base f cA tA CR CB A outer s H0 E) : ∃ t, PSs (XL P w K mg base f cA A outer s H0 E) ((defBody sLaw).drop 11) t ∧
    ∀ (D : L2.Ends) (H : Hp) (q l fo th : Addr) (n many c size number deep : Nat) (x0 x2 x6 x7 x10 x11 x13 x14 x15 x17 x18 : Option V), (∀ H', D.rt (.bl true) H') → Lw tA (qL P w K mg base f cA A outer s H0 E) q l n H → n ≤ 600 → Gd many c size number deep →
      H fo = some (.tup ((ownL many (sx c) size number deep).map V.int)) → Rep H (.ref th) (thingD many c size number deep) →
      t D [x0, some (.int (many : Int)), x2, some (.int (size : Int)), some (.int (deep : Int)), some (.int (number : Int)), x6, x7, some (.str sgS), some (.int ((sx c : Nat) : Int)), x10, x11, some (.ref q), x13, x14, x15, some (.ref fo), x17, x18, some (.ref th)] H := by
  have T := L.T
  obtain ⟨t2, ht2, hr2⟩ := part_B4 L
  refine ⟨_, (pss_cons (ps_set (i := 18) scLaw.nd rfl (Or.inr rfl) (pe_op op_cat (pe_lst (pa_cons pe_int (pa_cons pe_int (pa_cons pe_int (pa_cons pe_int (pa_cons (pe_op op_fdiv (pv 1) pe_int) (pa_cons (pe_op op_mod (pe_callTy call_int1 (by rfl) T.int (by decide +kernel) (pa_cons (pv 1) pa_nil)) pe_int) pa_nil))))))) (pe_op op_rep (pe_lst (pa_cons (pv 9) pa_nil)) (pv 1)))) ht2), ?_⟩
  intro D H q l fo th n many c size number deep x0 x2 x6 x7 x10 x11 x13 x14 x15 x17 x18 hD W hn G hfo hth
  have hm := G.m
  have e1 : ∀ k : Nat, [V.int 3, V.int 0, V.int 4, V.int 2, (fun i j => V.int (i / j)) (k : Int) 256, (fun i j => V.int (i % j)) (k : Int) 256] = ([3, 0, 4, 2] ++ two k).map V.int := fun k => by
    rw [List.map_append, ← two_ints]
    rfl
  refine ⟨_, rfl, _, _, rfl, rfl, ⟨by decide, by decide⟩, _, rfl, .inl ⟨_, rfl, _, _, rfl, rfl, by show (0 : Int) < 256; decide, by show 6 ≤ sizeLine; decide, fun p1 h1 => ?_⟩⟩
  rw [e1]
  refine ⟨_, rfl, by show 1 ≤ sizeLine; decide, fun p2 h2 => ⟨_, rfl, p2, _, _, rfl, rfl, upd_same, by omega, by omega, ?_, fun p3 h3 => ⟨p1, p3, _, _, rfl, rfl, Same.new h3 _ _ (Same.new h2 _ _ upd_same), upd_same, ?_, fun p4 h4 => ?_⟩⟩⟩
  · rw [Int.toNat_natCast, PySem.sizeLine_eq]
    show 1 * many ≤ _
    omega
  · rw [Int.toNat_natCast, PySem.sizeLine_eq]
    simp [two, List.length_flatten]
    omega
  · have e2 : (List.replicate ((many : Nat) : Int).toNat [V.int ((sx c : Nat) : Int)]).flatten = (List.replicate many ((sx c : Nat) : Int)).map V.int := by
      rw [Int.toNat_natCast, List.map_replicate]
      simp
    rw [e2] at h4 ⊢
    rw [← List.map_append]
    have s5 := (((Same.new (o := _) h1).trans (Same.new (o := _) h2)).trans (Same.new (o := _) h3)).trans (Same.new (o := .lst ((own1 many (sx c)).map V.int)) h4)
    exact hr2 D _ q l p4 fo th n many c size number deep _ _ _ _ _ _ _ _ _ _ _ hD (W.same s5) hn G upd_same (s5 _ _ hfo) (hth.same s5)
/-- s10, s11 -/
theorem part_B (L : Env14 P w K mg base f cA tA CR CB A outer s H0 E) : ∃ t, PSs (XL P w K mg base f cA A outer s H0 E) ((defBody sLaw).drop 9) t ∧
    ∀ (D : L2.Ends) (H : Hp) (q l fo th : Addr) (n many c size number deep : Nat) (x0 x6 x7 x8 x9 x10 x11 x13 x14 x15 x17 x18 : Option V), (∀ H', D.rt (.bl true) H') → Lw tA (qL P w K mg base f cA A outer s H0 E) q l n H → n ≤ 600 → Gd many c size number deep →
      H fo = some (.tup ((ownL many (sx c) size number deep).map V.int)) → Rep H (.ref th) (thingD many c size number deep) →
      t D [x0, some (.int (many : Int)), some (.str ⟨#[c]⟩), some (.int (size : Int)), some (.int (deep : Int)), some (.int (number : Int)), x6, x7, x8, x9, x10, x11, some (.ref q), x13, x14, x15, some (.ref fo), x17, x18, some (.ref th)] H := by
  obtain ⟨t2, ht2, hr2⟩ := part_B3 L
  refine ⟨_, (pss_cons (ps_set (i := 8) scLaw.nd rfl (Or.inl rfl) pe_str)
      (pss_cons (ps_set (i := 9) scLaw.nd rfl (Or.inl rfl) (pe_m1 PySem.F.slot_str_index PySem.F.type_str_index mt_sindex (pv 8) (pv 2))) ht2)), ?_⟩
  intro D H q l fo th n many c size number deep x0 x6 x7 x8 x9 x10 x11 x13 x14 x15 x17 x18 hD W hn G hfo hth
  refine ⟨_, rfl, ⟨_, rfl⟩, _, rfl, _, _, sx c, [], rfl, rfl, ?_, ?_⟩
  · have := occ_at G.c
    rw [← signs_lit] at this
    exact this
  · have := hr2 D H q l fo th n many c size number deep x0 (some (.str ⟨#[c]⟩)) x6 x7 x10 x11 x13 x14 x15 x17 x18 hD W hn G hfo hth
    rw [← signs_lit] at this
    exact this
end
end K14
/-! the law, part A -/
namespace K14
open PySem PySem.Spec PyProof.Rows L2 LamX
section
variable {P : Program} {w : World} {K : PySem.W.Frag} {mg : Str → Option Value} {base : Heap} {f cA tA CR CB : Addr} {A : Around} {outer : List Env} {s : Shared} {H0 : Hp} {E : XK}
/-- s9 on -/
theorem part_A9 (L : Env14 P w K mg base f cA tA CR CB A outer s H0 E) : ∃ t, PSs (XL P w K mg base f cA A outer s H0 E) ((defBody sLaw).drop 8) t ∧
    (∀ (D : L2.Ends) (H : Hp) (q l fo th : Addr) (n many c size number deep : Nat) (x0 x6 x8 x9 x10 x11 x13 x14 x15 x17 x18 : Option V), (∀ H', D.rt (.bl true) H') → Lw tA (qL P w K mg base f cA A outer s H0 E) q l n H → n ≤ 600 → Gd many c size number deep →
      H fo = some (.tup ((ownL many (sx c) size number deep).map V.int)) → Rep H (.ref th) (thingD many c size number deep) →
      t D [x0, some (.int (many : Int)), some (.str ⟨#[c]⟩), some (.int (size : Int)), some (.int (deep : Int)), some (.int (number : Int)), x6, some (.bl true), x8, x9, x10, x11, some (.ref q), x13, x14, x15, some (.ref fo), x17, x18, some (.ref th)] H) ∧
    (∀ (D : L2.Ends) (H : Hp) (fo : Addr) (x0 x1 x2 x3 x4 x5 x6 x8 x9 x10 x11 x12 x13 x14 x15 x17 x18 x19 : Option V), (∀ H', D.rt (.bl true) H') → H fo = some (.lst [.str "refused", .str "data"]) →
      t D [x0, x1, x2, x3, x4, x5, x6, some (.bl false), x8, x9, x10, x11, x12, x13, x14, x15, some (.ref fo), x17, x18, x19] H) := by
  have r1 : Room 1 _ := L.hr.mono (by decide)
  obtain ⟨t2, ht2, hr2⟩ := part_B L
  refine ⟨_, (pss_cons (ps_if (pt_not (pt_val (pv 7))) (pss_one (ps_ret (pe_fd L.D.alike r1 (by rfl) (pa_cons (pv 16) (pa_cons (pe_lst (pa_cons pe_str (pa_cons pe_str pa_nil))) pa_nil))))) pss_nil) ht2), ?_, ?_⟩
  · intro D H q l fo th n many c size number deep x0 x6 x8 x9 x10 x11 x13 x14 x15 x17 x18 hD W hn G hfo hth
    refine ⟨_, rfl, _, rfl, iteF ?_⟩
    exact hr2 D H q l fo th n many c size number deep _ _ _ _ _ _ _ _ _ _ _ _ hD W hn G hfo hth
  · intro D H fo x0 x1 x2 x3 x4 x5 x6 x8 x9 x10 x11 x12 x13 x14 x15 x17 x18 x19 hD hfo
    refine ⟨_, rfl, _, rfl, iteT ⟨_, rfl, by show 2 ≤ sizeLine; decide, fun p hp => ?_⟩⟩
    unfold tNil
    have r : ∀ {a : Addr} {H : Hp}, H a = some (.lst [.str "refused", .str "data"]) → Rep H (.ref a) (.lst [.str ("refused" : Str).cps.toList, .str ("data" : Str).cps.toList]) := fun h => by
      refine ⟨_, _, rfl, h, _, _, rfl, ?_, _, _, rfl, ?_, rfl⟩
      · show V.str _ = V.str _
        rw [Array.toArray_toList]
      · show V.str _ = V.str _
        rw [Array.toArray_toList]
    refine ⟨_, _, _, rfl, r (Same.new hp _ _ hfo), r upd_same, by decide +kernel, fun H' _ => hD H'⟩
/-- s8: the lambda of packed -/
theorem part_A8 (L : Env14 P w K mg base f cA tA CR CB A outer s H0 E) : ∃ t, PSs (XL P w K mg base f cA A outer s H0 E) ((defBody sLaw).drop 7) t ∧
    ∀ (D : L2.Ends) (H : Hp) (q l th : Addr) (n many c size number deep : Nat) (x0 x6 x8 x9 x10 x11 x13 x14 x15 x16 x17 x18 : Option V), (∀ H', D.rt (.bl true) H') → Lw tA (qL P w K mg base f cA A outer s H0 E) q l n H → n ≤ 600 → many ≤ 65536 → c ∈ good9 → size ≤ 1000 → deep ≤ 100 → Rep H (.ref th) (thingD many c size number deep) →
      t D [x0, some (.int (many : Int)), some (.str ⟨#[c]⟩), some (.int (size : Int)), some (.int (deep : Int)), some (.int (number : Int)), x6, some (.bl (okD 0 (thingD many c size number deep))), x8, x9, x10, x11, some (.ref q), x13, x14, x15, x16, x17, x18, some (.ref th)] H := by
  obtain ⟨t2, ht2, hrT, hrF⟩ := part_A9 L
  refine ⟨_, (pss_cons (ps_set (i := 16) scLaw.nd rfl (Or.inr rfl) (L.lam (k := 5) (t := fun E => fun σ H Q => tCons (tVar 19) tNil σ H fun vs H1 => spPacked CR vs H1 Q E) (by decide) (by decide +kernel) rfl (fun _ _ _ _ _ => rfl)
        (fun A' o' s' H' E' f' c' hr' pas => pe_fdX L.D.packed hr' (by rfl) pas (pa_cons (pv 19) pa_nil)))) ht2), ?_⟩
  intro D H q l th n many c size number deep x0 x6 x8 x9 x10 x11 x13 x14 x15 x16 x17 x18 hD W hn hm hc hs hd hth
  have hok := ok_thing (many := many) (c := c) (size := size) (number := number) (deep := deep) hs
  refine ⟨W.tabs, fun H1 e1 T1 => ⟨_, rfl, .ref th, thingD many c size number deep, rfl, hth.ext e1, fit_thing hc, by have := sz_thing (many := many) (c := c) (size := size) (number := number) (deep := deep) hm hs hd; omega, fun hy p H2 s2 _ hp => ?_, fun hno e H2 s2 _ he => ?_⟩⟩
  · rw [enc_thing] at hp
    have hy2 := hy
    rw [hok, Bool.and_eq_true, Bool.and_eq_true] at hy2
    have G : Gd many c size number deep := ⟨of_decide_eq_true hy2.1.1, hc, hs, of_decide_eq_true hy2.1.2, of_decide_eq_true hy2.2⟩
    rw [hy]
    exact hrT D H2 q l p th n many c size number deep _ _ _ _ _ _ _ _ _ _ _ hD ((W.ext e1 T1).same s2) hn G hp ((hth.ext e1).same s2)
  · refine .inl ⟨rfl, e, _, rfl, he, fun p hp => ?_⟩
    rw [hno]
    exact hrF D _ p _ _ _ _ _ _ _ _ _ _ _ _ _ _ _ _ _ _ hD upd_same
/-- s6, s7: thing, good -/
theorem part_A6 (L : Env14 P w K mg base f cA tA CR CB A outer s H0 E) : ∃ t, PSs (XL P w K mg base f cA A outer s H0 E) ((defBody sLaw).drop 5) t ∧
    ∀ (D : L2.Ends) (H : Hp) (q l : Addr) (v6 : V) (n many c size number deep : Nat) (x0 x7 x8 x9 x10 x11 x13 x14 x15 x16 x17 x18 x19 : Option V), (∀ H', D.rt (.bl true) H') → Lw tA (qL P w K mg base f cA A outer s H0 E) q l n H → n ≤ 600 → many ≤ 65536 → c ∈ good9 → size ≤ 1000 → deep ≤ 100 → Rep H v6 (nestD deep (.int (number : Int))) →
      t D [x0, some (.int (many : Int)), some (.str ⟨#[c]⟩), some (.int (size : Int)), some (.int (deep : Int)), some (.int (number : Int)), some v6, x7, x8, x9, x10, x11, some (.ref q), x13, x14, x15, x16, x17, x18, x19] H := by
  obtain ⟨t2, ht2, hr2⟩ := part_A8 L
  refine ⟨_, (pss_cons (ps_set (i := 19) scLaw.nd rfl (Or.inr rfl) (pe_tup (pa_cons (pe_op op_mulS (pv 2) (pv 1)) (pa_cons (pe_op op_repTA (pe_tup (pa_cons (pv 5) pa_nil)) (pv 3)) (pa_cons (pv 6) (pa_cons pe_str pa_nil))))))
      (pss_cons (ps_set (i := 7) scLaw.nd rfl (Or.inl rfl) (pe_and (pe_cmpR op_le (pv 1) pe_int (nomark _)) (pe_and (pe_cmpR op_le (pv 5) pe_int (nomark _)) (pe_one (pe_cmpR op_le (pv 4) pe_int (nomark _)))))) ht2)), ?_⟩
  intro D H q l v6 n many c size number deep x0 x7 x8 x9 x10 x11 x13 x14 x15 x16 x17 x18 x19 hD W hn hm hc hs hd h6
  have hok := ok_thing (many := many) (c := c) (size := size) (number := number) (deep := deep) hs
  refine ⟨_, rfl, _, rfl, ⟨#[c]⟩, _, rfl, rfl, by omega, by omega, by show 1 ≤ 1000; decide, ?_, _, rfl, by show 1 ≤ sizeLine; decide, fun p1 h1 => ⟨_, rfl, ?_⟩⟩
  · rw [Int.toNat_natCast]
    show 1 * many ≤ _
    omega
  refine repA_of (xs := [V.int (number : Int)]) (m := size) upd_same (by simp) hs (by show 1 ≤ 1000; decide) fun p2 H2 s2 hp2 => ⟨_, rfl, by show 4 ≤ sizeLine; decide, fun p3 h3 => ?_⟩
  have s3 := ((Same.new (o := .tup [V.int (number : Int)]) h1).trans s2)
  have hrep : RepL H2 (List.replicate size [V.int (number : Int)]).flatten (List.replicate size (.int (number : Int))) := by
    have : ∀ k : Nat, RepL H2 (List.replicate k [V.int (number : Int)]).flatten (List.replicate k (.int (number : Int))) := fun k => by
      induction k with
      | zero => rfl
      | succ k ih => exact ⟨_, _, rfl, rfl, ih⟩
    exact this size
  have est : (List.replicate ((many : Nat) : Int).toNat (⟨#[c]⟩ : Str).cps.toList).flatten = List.replicate many c := by
    rw [Int.toNat_natCast]
    show (List.replicate many [c]).flatten = _
    simp
  have e110 : ("on" : Str) = ⟨[111, 110].toArray⟩ := by decide +kernel
  rw [est]
  have hth : Rep (upd H2 p3 (.tup [V.str ⟨(List.replicate many c).toArray⟩, .ref p2, v6, .str ("on" : Str)])) (.ref p3) (thingD many c size number deep) := by
    have sn := Same.new (o := .tup [V.str ⟨(List.replicate many c).toArray⟩, .ref p2, v6, .str ("on" : Str)]) h3
    refine ⟨p3, _, rfl, upd_same, _, _, rfl, rfl, _, _, rfl, ⟨p2, _, rfl, sn _ _ hp2, hrep.same sn⟩, _, _, rfl, (h6.same s3).same sn, _, _, rfl, ?_, rfl⟩
    show V.str _ = V.str _
    rw [e110]
  have W3 := W.same (s3.trans (Same.new (o := .tup [V.str ⟨(List.replicate many c).toArray⟩, .ref p2, v6, .str ("on" : Str)]) h3))
  have fin : t2 D [x0, some (.int (many : Int)), some (.str ⟨#[c]⟩), some (.int (size : Int)), some (.int (deep : Int)), some (.int (number : Int)), some v6, some (.bl (decide (many ≤ 65535) && decide (number ≤ 65535) && decide (deep ≤ 19))), x8, x9, x10, x11, some (.ref q), x13, x14, x15, x16, x17, x18, some (.ref p3)] (upd H2 p3 (.tup [V.str ⟨(List.replicate many c).toArray⟩, .ref p2, v6, .str ("on" : Str)])) := by
    have := hr2 D _ q l p3 n many c size number deep x0 (some v6) x8 x9 x10 x11 x13 x14 x15 x16 x17 x18 hD W3 hn hm hc hs hd hth
    rw [hok] at this
    exact this
  refine ⟨_, rfl, _, _, rfl, rfl, _, rfl, ?_⟩
  by_cases c1 : many ≤ 65535
  · rw [decide_eq_true (show ((many : Nat) : Int) ≤ 65535 by omega)]
    rw [decide_eq_true c1] at fin
    refine iteT ⟨_, rfl, _, _, rfl, rfl, _, rfl, ?_⟩
    by_cases c2 : number ≤ 65535
    · rw [decide_eq_true (show ((number : Nat) : Int) ≤ 65535 by omega)]
      rw [decide_eq_true c2] at fin
      refine iteT ⟨_, rfl, _, _, rfl, rfl, ?_⟩
      have e : decide (((deep : Nat) : Int) ≤ 19) = decide (deep ≤ 19) := by
        by_cases c3 : deep ≤ 19
        · rw [decide_eq_true c3, decide_eq_true (by omega)]
        · rw [decide_eq_false c3, decide_eq_false (by omega)]
      dsimp only
      rw [e]
      exact fin
    · rw [decide_eq_false (show ¬ ((number : Nat) : Int) ≤ 65535 by omega)]
      rw [decide_eq_false c2] at fin
      exact iteF fin
  · rw [decide_eq_false (show ¬ ((many : Nat) : Int) ≤ 65535 by omega)]
    rw [decide_eq_false c1] at fin
    exact iteF fin
/-- s5: nest -/
theorem part_A5 (L : Env14 P w K mg base f cA tA CR CB A outer s H0 E) : ∃ t, PSs (XL P w K mg base f cA A outer s H0 E) ((defBody sLaw).drop 4) t ∧
    ∀ (D : L2.Ends) (H : Hp) (q l : Addr) (n many c size number deep : Nat) (x0 x6 x7 x8 x9 x10 x11 x13 x14 x15 x16 x17 x18 x19 : Option V), (∀ H', D.rt (.bl true) H') → Lw tA (qL P w K mg base f cA A outer s H0 E) q l n H → n ≤ 600 → many ≤ 65536 → c ∈ good9 → size ≤ 1000 → deep ≤ 100 →
      t D [x0, some (.int (many : Int)), some (.str ⟨#[c]⟩), some (.int (size : Int)), some (.int (deep : Int)), some (.int (number : Int)), x6, x7, x8, x9, x10, x11, some (.ref q), x13, x14, x15, x16, x17, x18, x19] H := by
  have r1 : Room 1 _ := L.hr.mono (by decide)
  obtain ⟨t2, ht2, hr2⟩ := part_A6 L
  refine ⟨_, (pss_cons (ps_set (i := 6) scLaw.nd rfl (Or.inl rfl) (pe_fd L.D.deep r1 (by rfl) (pa_cons (pv 5) (pa_cons (pv 4) pa_nil)))) ht2), ?_⟩
  intro D H q l n many c size number deep x0 x6 x7 x8 x9 x10 x11 x13 x14 x15 x16 x17 x18 x19 hD W hn hm hc hs hd
  refine ⟨_, rfl, _, rfl, _, deep, .int (number : Int), rfl, by omega, rfl, fun v' H' s' hv => ?_⟩
  exact hr2 D H' q l v' n many c size number deep _ _ _ _ _ _ _ _ _ _ _ _ _ hD (W.same s') hn hm hc hs hd hv
/-- s4: deep, number -/
theorem part_A4 (L : Env14 P w K mg base f cA tA CR CB A outer s H0 E) : ∃ t, PSs (XL P w K mg base f cA A outer s H0 E) ((defBody sLaw).drop 3) t ∧
    ∀ (D : L2.Ends) (H : Hp) (q l : Addr) (n many c size : Nat) (x0 x4 x5 x6 x7 x8 x9 x10 x11 x13 x14 x15 x16 x17 x18 x19 : Option V), (∀ H', D.rt (.bl true) H') → Lw tA (qL P w K mg base f cA A outer s H0 E) q l n H → n ≤ 500 → many ≤ 65536 → c ∈ good9 → size ≤ 1000 →
      t D [x0, some (.int (many : Int)), some (.str ⟨#[c]⟩), some (.int (size : Int)), x4, x5, x6, x7, x8, x9, x10, x11, some (.ref q), x13, x14, x15, x16, x17, x18, x19] H := by
  have r1 : Room 1 _ := L.hr.mono (by decide)
  have r2 : Room 2 _ := L.hr.mono (by decide)
  obtain ⟨t2, ht2, hr2⟩ := part_A5 L
  refine ⟨_, (pss_cons (ps_par (i := 4) (j := 5) (by rfl) scLaw.nd rfl rfl (by decide) rfl rfl
        (pa_cons (pe_fd L.D.some r2 (by rfl) (pa_cons (pv 12) (pa_cons (pe_lst (pa_cons pe_int (pa_cons pe_int (pa_cons pe_int (pa_cons pe_int (pa_cons (pe_fd L.D.take r1 (by rfl) (pa_cons (pv 12) (pa_cons pe_int pa_nil))) pa_nil)))))) pa_nil)))
          (pa_cons (pe_fd L.D.some r2 (by rfl) (pa_cons (pv 12) (pa_cons (pe_lst (pa_cons pe_int (pa_cons pe_int (pa_cons pe_int (pa_cons pe_int (pa_cons pe_int pa_nil)))))) pa_nil))) pa_nil)) (by rfl)) ht2), ?_⟩
  intro D H q l n many c size x0 x4 x5 x6 x7 x8 x9 x10 x11 x13 x14 x15 x16 x17 x18 x19 hD W hn hm hc hs
  refine ⟨_, rfl, _, rfl, q, l, 21, n, rfl, W.bag, by omega, by decide, by decide, fun v H2 v0 v1 mv B => ⟨by show 5 ≤ sizeLine; decide, fun p hp => ?_⟩⟩
  have W2 := W.take mv B
  have W2' := W2.same (Same.new (o := .lst [V.int 19, V.int 18, V.int 20, V.int 1, V.int v]) hp)
  refine ⟨q, l, p, n + 1, _, rfl, W2'.bag, by omega, W2.ne hp, upd_same, by simp, by show 5 < 1000000; decide, fun y hy H3 mv3 B3 => ?_⟩
  have W3 := W2'.take mv3 B3
  obtain ⟨deep, rfl, hd⟩ : ∃ k : Nat, y = .int (k : Int) ∧ k ≤ 100 := by
    simp only [List.mem_cons, List.mem_nil_iff, or_false] at hy
    rcases hy with rfl | rfl | rfl | rfl | rfl
    · exact ⟨19, rfl, by omega⟩
    · exact ⟨18, rfl, by omega⟩
    · exact ⟨20, rfl, by omega⟩
    · exact ⟨1, rfl, by omega⟩
    · exact ⟨v.toNat, congrArg V.int (by omega), by omega⟩
  refine ⟨_, rfl, by show 5 ≤ sizeLine; decide, fun p4 h4 => ?_⟩
  have W4 := W3.same (Same.new (o := .lst [V.int 0, V.int 255, V.int 256, V.int 65535, V.int 65536]) h4)
  refine ⟨q, l, p4, n + 1 + 1, _, rfl, W4.bag, by omega, W3.ne h4, upd_same, by simp, by show 5 < 1000000; decide, fun y hy H5 mv5 B5 => ?_⟩
  have W5 := W4.take mv5 B5
  obtain ⟨number, rfl⟩ : ∃ k : Nat, y = .int (k : Int) := by
    simp only [List.mem_cons, List.mem_nil_iff, or_false] at hy
    rcases hy with rfl | rfl | rfl | rfl | rfl
    · exact ⟨0, rfl⟩
    · exact ⟨255, rfl⟩
    · exact ⟨256, rfl⟩
    · exact ⟨65535, rfl⟩
    · exact ⟨65536, rfl⟩
  refine ⟨_, _, rfl, ?_⟩
  exact hr2 D H5 q l _ many c size number deep _ _ _ _ _ _ _ _ _ _ _ _ _ _ hD W5 (by omega) hm hc hs hd
theorem sign_lit : ("az 0?\n#" : Str) = ⟨#[97, 122, 32, 48, 63, 10, 35]⟩ := by decide +kernel
/-- s3: sign, size -/
theorem part_A3 (L : Env14 P w K mg base f cA tA CR CB A outer s H0 E) : ∃ t, PSs (XL P w K mg base f cA A outer s H0 E) ((defBody sLaw).drop 2) t ∧
    ∀ (D : L2.Ends) (H : Hp) (q l : Addr) (n many : Nat) (x0 x2 x3 x4 x5 x6 x7 x8 x9 x10 x11 x13 x14 x15 x16 x17 x18 x19 : Option V), (∀ H', D.rt (.bl true) H') → Lw tA (qL P w K mg base f cA A outer s H0 E) q l n H → n ≤ 400 → many ≤ 65536 →
      t D [x0, some (.int (many : Int)), x2, x3, x4, x5, x6, x7, x8, x9, x10, x11, some (.ref q), x13, x14, x15, x16, x17, x18, x19] H := by
  have T := L.T
  have r1 : Room 1 _ := L.hr.mono (by decide)
  have r2 : Room 2 _ := L.hr.mono (by decide)
  obtain ⟨t2, ht2, hr2⟩ := part_A4 L
  refine ⟨_, (pss_cons (ps_par (i := 2) (j := 3) (by rfl) scLaw.nd rfl rfl (by decide) rfl rfl
        (pa_cons (pe_fd L.D.some r2 (by rfl) (pa_cons (pv 12) (pa_cons (pe_callTy (call_listS rfl) (by rfl) T.list (by decide +kernel) (pa_cons pe_str pa_nil)) pa_nil)))
          (pa_cons (pe_fd L.D.some r2 (by rfl) (pa_cons (pv 12) (pa_cons (pe_lst (pa_cons pe_int (pa_cons pe_int (pa_cons pe_int (pa_cons pe_int (pa_cons pe_int (pa_cons (pe_fd L.D.take r1 (by rfl) (pa_cons (pv 12) (pa_cons pe_int pa_nil))) pa_nil))))))) pa_nil))) pa_nil)) (by rfl)) ht2), ?_⟩
  intro D H q l n many x0 x2 x3 x4 x5 x6 x7 x8 x9 x10 x11 x13 x14 x15 x16 x17 x18 x19 hD W hn hm
  refine ⟨_, rfl, _, rfl, by decide +kernel, fun p hp => ?_⟩
  have W2 : ∀ o, Lw tA (qL P w K mg base f cA A outer s H0 E) q l n (upd H p o) := fun o => W.same (Same.new hp)
  have hne : (("az 0?\n#" : Str).cps.toList.map fun c => V.str ⟨#[c]⟩) ≠ [] := by
    rw [sign_lit]
    simp
  have hl : (("az 0?\n#" : Str).cps.toList.map fun c => V.str ⟨#[c]⟩).length < 1000000 := by
    rw [sign_lit]
    simp
  refine ⟨q, l, p, n, _, rfl, (W2 _).bag, by omega, W.ne hp, upd_same, hne, hl, fun y hy H3 mv3 B3 => ?_⟩
  have W3 := (W2 _).take mv3 B3
  obtain ⟨c, rfl, hc⟩ : ∃ c, y = .str ⟨#[c]⟩ ∧ c ∈ good9 := by
    rw [sign_lit] at hy
    obtain ⟨c, hc, rfl⟩ := List.mem_map.mp hy
    refine ⟨c, rfl, ?_⟩
    have : ∀ c ∈ ([97, 122, 32, 48, 63, 10, 35] : List Nat), c ∈ good9 := by decide
    exact this c hc
  refine ⟨_, rfl, _, rfl, q, l, 700, n + 1, rfl, W3.bag, by omega, by decide, by decide, fun v H4 v0 v1 mv4 B4 => ⟨by show 6 ≤ sizeLine; decide, fun p5 h5 => ?_⟩⟩
  have W4 := W3.take mv4 B4
  have W5 := W4.same (Same.new (o := .lst [V.int 0, V.int 1, V.int 255, V.int 256, V.int 257, V.int v]) h5)
  refine ⟨q, l, p5, n + 1 + 1, _, rfl, W5.bag, by omega, W4.ne h5, upd_same, by simp, by show 6 < 1000000; decide, fun y hy H6 mv6 B6 => ?_⟩
  have W6 := W5.take mv6 B6
  obtain ⟨size, rfl, hs⟩ : ∃ k : Nat, y = .int (k : Int) ∧ k ≤ 1000 := by
    simp only [List.mem_cons, List.mem_nil_iff, or_false] at hy
    rcases hy with rfl | rfl | rfl | rfl | rfl | rfl
    · exact ⟨0, rfl, by omega⟩
    · exact ⟨1, rfl, by omega⟩
    · exact ⟨255, rfl, by omega⟩
    · exact ⟨256, rfl, by omega⟩
    · exact ⟨257, rfl, by omega⟩
    · exact ⟨v.toNat, congrArg V.int (by omega), by omega⟩
  refine ⟨_, _, rfl, ?_⟩
  exact hr2 D H6 q l _ many c size _ _ _ _ _ _ _ _ _ _ _ _ _ _ _ _ hD W6 (by omega) hm hc hs
/-- s1, s2: bag, many -/
theorem part_A1 (L : Env14 P w K mg base f cA tA CR CB A outer s H0 E) : ∃ t, PSs (XL P w K mg base f cA A outer s H0 E) (defBody sLaw) t ∧
    ∀ (D : L2.Ends) (H : Hp) (a : Addr) (ns : List Int), (∀ H', D.rt (.bl true) H') → Tabs [(tA, qL P w K mg base f cA A outer s H0 E)] H → SqL K H a (ns.map V.int) → ns.length ≤ 63 →
      t D (L2.start Nlaw [V.ref a]) H := by
  have r1 : Room 1 _ := L.hr.mono (by decide)
  have r2 : Room 2 _ := L.hr.mono (by decide)
  obtain ⟨t2, ht2, hr2⟩ := part_A3 L
  refine ⟨_, (pss_cons (ps_set (i := 12) scLaw.nd rfl (Or.inr rfl) (pe_fd L.D.bag r1 (by rfl) (pa_cons (pv 0) pa_nil)))
      (pss_cons (ps_set (i := 1) scLaw.nd rfl (Or.inl rfl) (pe_fd L.D.some r2 (by rfl) (pa_cons (pv 12) (pa_cons (pe_lst (pa_cons pe_int (pa_cons pe_int (pa_cons pe_int (pa_cons pe_int (pa_cons pe_int (pa_cons pe_int (pa_cons (pe_fd L.D.take r1 (by rfl) (pa_cons (pv 12) (pa_cons pe_int pa_nil))) pa_nil)))))))) pa_nil)))) ht2)), ?_⟩
  intro D H a ns hD hT hS hl
  refine ⟨_, rfl, a, ns, rfl, hS, hl, fun q l H1 s1 hq hl1 B => ?_⟩
  have W1 : Lw tA (qL P w K mg base f cA A outer s H0 E) q l 0 H1 := ⟨B, hT.ext s1⟩
  refine ⟨_, rfl, _, rfl, q, l, 65536, 0, rfl, W1.bag, by omega, by decide, by decide, fun v H2 v0 v1 mv B2 => ⟨by show 7 ≤ sizeLine; decide, fun p hp => ?_⟩⟩
  have W2 := W1.take mv B2
  have W3 := W2.same (Same.new (o := .lst [V.int 65535, V.int 65536, V.int 65534, V.int 256, V.int 255, V.int 0, V.int v]) hp)
  refine ⟨q, l, p, 0 + 1, _, rfl, W3.bag, by omega, W2.ne hp, upd_same, by simp, by show 7 < 1000000; decide, fun y hy H4 mv4 B4 => ?_⟩
  have W4 := W3.take mv4 B4
  obtain ⟨many, rfl, hm⟩ : ∃ k : Nat, y = .int (k : Int) ∧ k ≤ 65536 := by
    simp only [List.mem_cons, List.mem_nil_iff, or_false] at hy
    rcases hy with rfl | rfl | rfl | rfl | rfl | rfl | rfl
    · exact ⟨65535, rfl, by omega⟩
    · exact ⟨65536, rfl, by omega⟩
    · exact ⟨65534, rfl, by omega⟩
    · exact ⟨256, rfl, by omega⟩
    · exact ⟨255, rfl, by omega⟩
    · exact ⟨0, rfl, by omega⟩
    · exact ⟨v.toNat, congrArg V.int (by omega), by omega⟩
  exact hr2 D H4 q l _ many _ _ _ _ _ _ _ _ _ _ _ _ _ _ _ _ _ _ hD W4 (by omega) hm
/-- the law's def -/
theorem ok_law {g : Addr} {gd : FuncData} {oc kV dc pm ct : Value} {od an : Option Addr} {osl : Array (Option Value)} (lk : K.lookup f = some ⟨oc, od, .func (PySem.W.fnOf "law" "law" (defArgs sLaw) (defBody sLaw) (defScope sLaw) .none kV dc pm an (.ref cA) ct), osl⟩) (hcd : PySem.W.codeIn K (.ref cA) "law" = true) (TB : TabB base mg cA tA) (T : Txt mg) (TC : Catch K mg CR CB)
    (FH : Fun K "_law_heard" "_law_heard" sHeard g gd) (mH : mg "_law_heard" = some (.ref g)) (bH : Binds K gd ["act"] []) (D : Defs P w K mg base CR CB) :
    FnOk P w K mg base CX0 9 f (PySem.W.fnOf "law" "law" (defArgs sLaw) (defBody sLaw) (defScope sLaw) .none kV dc pm an (.ref cA) ct) ["script"] (spLaw K tA) := by
  refine fn_of lk hcd scLaw (fun vs H Q E h => ?_) (fun A outer s H vs Q E hr h => ?_)
  · obtain ⟨a, ns, rfl, _⟩ := h
    rfl
  · obtain ⟨a, ns, rfl, hS, hlen, hTbl, q⟩ := h
    obtain ⟨t, ht, hq⟩ := part_A1 (P := P) (w := w) (K := K) (mg := mg) (base := base) (f := f) (cA := cA) (tA := tA) (CR := CR) (CB := CB) (A := A) (outer := outer) (s := s) (H0 := H) (E := E) ⟨TB, T, TC, ⟨g, gd, FH, mH, bH⟩, D, hr⟩
    refine ⟨t, ht.nox, hq _ H a ns (fun H' => q H') (fun p hp => ?_) hS hlen⟩
    rw [List.mem_singleton.mp hp]
    exact .nil hTbl
end
end K14
/-! what the top leaves, put together -/
namespace K14
open PySem PySem.Spec PyProof.Rows L2 LamX PySem.ErX
abbrev PW14 : Program := PySem.Challenge.pw_worknets_k14_data_of_great_lengths
abbrev sRI : Stmt := inClass (top 3) 0
abbrev sBI : Stmt := inClass (top 2) 0
section
variable {w : World} {K : PySem.W.Frag} {mg : Str → Option Value} {CR CB fR fB ccR ccB cdR cdB : Addr} {oc kV doc pm ct : Value} {od an : Option Addr} {osl : Array (Option Value)}
theorem mk_R (T : ErrC PW14 K CR fR ccR cdR) (lf : K.lookup fR = some ⟨oc, od, .func (PySem.W.ksFn "__init__" "Refused.__init__" (defArgs sRI) (defBody sRI) (defScope sRI) .none kV doc pm an (.ref cdR) ct ccR), osl⟩) (hcd : PySem.W.codeIn K (.ref cdR) "Refused.__init__" = true)
    (no : PySem.W.findIn K (.ref CR) "why" = some none) : Makes PW14 w K mg CR 1 fsR where
  kC := T.kC
  exC := T.exC
  tyC := T.tyC
  run := by
    intro s A R us vs hl hv G hroom hq
    obtain ⟨u, rfl⟩ : ∃ u, us = [u] := by
      match us, hl with
      | [u], _ => exact ⟨u, rfl⟩
    obtain ⟨v, rfl, rv⟩ : ∃ v, vs = [v] ∧ RelV v u := by
      cases hv with
      | cons r t => cases t; exact ⟨_, rfl, r⟩
    refine err_made T (m := fun y => if y = ("why" : Str) then some u else none) (by rw [sizeLine_eq]; show 1 ≤ 16777216; decide) G hroom (fun s' A' R' x t0 G' hx hnx hr' hq' => ?_) (fun h' tk e d M => hq h' tk e d _ M fun f => ?_)
    · exact err_init1 (f1 := "why") (v1 := u) T (by exact lf) hcd rfl rfl (fun _ _ => rfl) rfl rfl rfl rfl rfl rfl rfl (by decide +kernel) (fun L => ⟨_, rfl⟩) (by decide +kernel) (by decide +kernel) no G' hx hnx hr' hq'
    · show RelO ([(("why" : Str), v)].lookup f) (if f = ("why" : Str) then some u else none)
      by_cases h : f = "why"
      · rw [if_pos h, h, List.lookup_cons_self]
        exact rv
      · rw [if_neg h, List.lookup_cons, beq_eq_false_iff_ne.mpr h]
        trivial
theorem mk_B (T : ErrC PW14 K CB fB ccB cdB) (lf : K.lookup fB = some ⟨oc, od, .func (PySem.W.ksFn "__init__" "BadBytes.__init__" (defArgs sBI) (defBody sBI) (defScope sBI) .none kV doc pm an (.ref cdB) ct ccB), osl⟩) (hcd : PySem.W.codeIn K (.ref cdB) "BadBytes.__init__" = true)
    (no : PySem.W.findIn K (.ref CB) "at" = some none) (no2 : PySem.W.findIn K (.ref CB) "fault" = some none) : Makes PW14 w K mg CB 2 fsB where
  kC := T.kC
  exC := T.exC
  tyC := T.tyC
  run := by
    intro s A R us vs hl hv G hroom hq
    obtain ⟨u, u2, rfl⟩ : ∃ u u2, us = [u, u2] := by
      match us, hl with
      | [u, u2], _ => exact ⟨u, u2, rfl⟩
    obtain ⟨v, v2, rfl, rv, rv2⟩ : ∃ v v2, vs = [v, v2] ∧ RelV v u ∧ RelV v2 u2 := by
      cases hv with
      | cons r t => cases t with
        | cons r2 t2 => cases t2; exact ⟨_, _, rfl, r, r2⟩
    refine err_made T (m := fun y => if y = ("fault" : Str) then some u2 else if y = ("at" : Str) then some u else none) (by rw [sizeLine_eq]; show 2 ≤ 16777216; decide) G hroom (fun s' A' R' x t0 G' hx hnx hr' hq' => ?_) (fun h' tk e d M => hq h' tk e d _ M fun f => ?_)
    · exact err_init2 (f1 := "at") (f2 := "fault") (v1 := u) (v2 := u2) T (by exact lf) hcd rfl rfl (fun _ _ _ => rfl) rfl rfl rfl rfl rfl rfl rfl rfl (by decide +kernel) (fun L => ⟨_, rfl⟩) (by decide +kernel) (by decide +kernel) (by decide +kernel) (by decide +kernel) (by decide +kernel) no no2 G' hx hnx hr' hq'
    · show RelO ([(("fault" : Str), v2), (("at" : Str), v)].lookup f) (if f = ("fault" : Str) then some u2 else if f = ("at" : Str) then some u else none)
      by_cases h : f = "fault"
      · rw [if_pos h, h, List.lookup_cons_self]
        exact rv2
      · rw [if_neg h, List.lookup_cons, beq_eq_false_iff_ne.mpr h]
        by_cases h2 : f = "at"
        · rw [if_pos h2, h2, List.lookup_cons_self]
          exact rv
        · rw [if_neg h2, List.lookup_cons, beq_eq_false_iff_ne.mpr h2]
          trivial
end
/-- the def x of the text stands at f -/
def HasFn (K : PySem.W.Frag) (x qual : Str) (st : Stmt) (f : Addr) : Prop := ∃ (oc : Value) (od : Option Addr) (kV dc pm : Value) (an : Option Addr) (cd ct : Value) (sl : Array (Option Value)),
  K.lookup f = some ⟨oc, od, .func (PySem.W.fnOf x qual (defArgs st) (defBody st) (defScope st) .none kV dc pm an cd ct), sl⟩ ∧ PySem.W.codeIn K cd qual = true ∧ PySem.W.keepIn K (.ref f) = true
def Glob (K : PySem.W.Frag) (x : Str) (st : Stmt) : Prop := ∃ f, PySem.W.nsIn K mainGlobals x = some (some (.ref f)) ∧ HasFn K x x st f
def MethF (K : PySem.W.Frag) (C : Addr) (x qual : Str) (st : Stmt) : Prop := ∃ f, PySem.W.findIn K (.ref C) x = some (some (.ref f)) ∧ PySem.W.isFn K (.ref f) = true ∧ HasFn K x qual st f
theorem glob_of {K : PySem.W.Frag} {x : Str} {st : Stmt} {f : Addr} {oc kV dc pm cd ct : Value} {od an : Option Addr} {sl : Array (Option Value)} (a : PySem.W.nsIn K mainGlobals x = some (some (.ref f))) (l : K.lookup f = some ⟨oc, od, .func (PySem.W.fnOf x x (defArgs st) (defBody st) (defScope st) .none kV dc pm an cd ct), sl⟩)
    (c : PySem.W.codeIn K cd x = true) (k : PySem.W.keepIn K (.ref f) = true) : Glob K x st := ⟨f, a, _, _, _, _, _, _, _, _, _, l, c, k⟩
theorem meth_of {K : PySem.W.Frag} {C : Addr} {x qual : Str} {st : Stmt} {f : Addr} {oc kV dc pm cd ct : Value} {od an : Option Addr} {sl : Array (Option Value)} (a : PySem.W.findIn K (.ref C) x = some (some (.ref f))) (i : PySem.W.isFn K (.ref f) = true) (l : K.lookup f = some ⟨oc, od, .func (PySem.W.fnOf x qual (defArgs st) (defBody st) (defScope st) .none kV dc pm an cd ct), sl⟩)
    (c : PySem.W.codeIn K cd qual = true) (k : PySem.W.keepIn K (.ref f) = true) : MethF K C x qual st := ⟨f, a, i, _, _, _, _, _, _, _, _, _, l, c, k⟩
theorem hasFn_of {K : PySem.W.Frag} {x qual : Str} {st : Stmt} {f : Addr} {oc kV dc pm cd ct : Value} {od an : Option Addr} {sl : Array (Option Value)} (l : K.lookup f = some ⟨oc, od, .func (PySem.W.fnOf x qual (defArgs st) (defBody st) (defScope st) .none kV dc pm an cd ct), sl⟩)
    (c : PySem.W.codeIn K cd qual = true) (k : PySem.W.keepIn K (.ref f) = true) : HasFn K x qual st f := ⟨_, _, _, _, _, _, _, _, _, l, c, k⟩
theorem ex_of {K : PySem.W.Frag} {x : Str} {n : Int} {t : Tok} (a : PySem.W.nsIn K mainGlobals x = some (some (.int n t))) : ∃ t, PySem.W.nsIn K mainGlobals x = some (some (.int n t)) := ⟨t, a⟩
theorem exs_of {K : PySem.W.Frag} {x : Str} {z : Str} {t : Tok} (a : PySem.W.nsIn K mainGlobals x = some (some (.str z t))) : ∃ t, PySem.W.nsIn K mainGlobals x = some (some (.str z t)) := ⟨t, a⟩
theorem HasFn.fn {K : PySem.W.Frag} {x qual : Str} {st : Stmt} {f : Addr} (h : HasFn K x qual st f) : ∃ fd, Fun K x qual st f fd := by
  obtain ⟨oc, od, kV, dc, pm, an, cd, ct, sl, l, c, k⟩ := h
  exact ⟨_, fun_mk l c k⟩
/-- what the heap of the top tells of a class of errors -/
structure ErrK (K : PySem.W.Frag) (x : Str) (qual : Str) (st : Stmt) (C fI cc cda : Addr) : Prop where
  a : PySem.W.nsIn K mainGlobals x = some (some (.ref C))
  T : ErrC PW14 K C fI cc cda
  f : ∃ (oc : Value) (od : Option Addr) (kV doc pm : Value) (an : Option Addr) (ct : Value) (osl : Array (Option Value)), K.lookup fI = some ⟨oc, od, .func (PySem.W.ksFn "__init__" qual (defArgs st) (defBody st) (defScope st) .none kV doc pm an (.ref cda) ct cc), osl⟩ ∧ PySem.W.codeIn K (.ref cda) qual = true
theorem errK_of {K : PySem.W.Frag} {x qual : Str} {st : Stmt} {C fI cc cda N : Addr} {nm q : Str} {bs bm : List Value} {sn : List Str} {sub : List Value} {ab : Bool} {col : Option Bool} {dd : Option Addr} {k0 k1 k2 k3 k5 : Option Value} {cl : Value} {cld : Option Addr} {csl : Array (Option Value)} {oc kV doc pm ct : Value} {od an : Option Addr} {osl : Array (Option Value)} {ccl : Value} {cdd : Option Addr} {vs : Array Value} {ccs : Array (Option Value)} {file : Str} {tf : Tok}
    (a : PySem.W.nsIn K mainGlobals x = some (some (.ref C))) (l : K.lookup C = some (excClassObj nm q C N bs bm true sn sub ab col dd k0 k1 k2 k3 k5 "ValueError.__new__")) (b : PySem.HandSPX.refsVE bm = true) (sa : PySem.W.findIn K (.ref C) "__setattr__" = some (some (.builtin "object.__setattr__"))) (iC : PySem.W.findIn K (.ref C) "__init__" = some (some (.ref fI)))
    (tC : PySem.W.typeIn K (.ref fI) = some (.type "function")) (kC : PySem.W.keepIn K (.ref C) = true) (exC : PySem.W.subIn K (.ref C) (.type "BaseException") = some true) (tyC : PySem.W.typeIn K (.ref C) = some (.type "type")) (lf : K.lookup fI = some ⟨oc, od, .func (PySem.W.ksFn "__init__" qual (defArgs st) (defBody st) (defScope st) .none kV doc pm an (.ref cda) ct cc), osl⟩) (hcd : PySem.W.codeIn K (.ref cda) qual = true)
    (te : PySem.W.exmOne K (.ref C) (.ref C) = some true) (lc : K.lookup cc = some ⟨cl, cld, .cell (some (.ref C)), csl⟩) (opq : PySem.W.nsIn K cStatics "thirdparty.any" = some none) (sI : PySem.W.ks_superIn K C C "__init__" = some (some (.builtin "ValueError.__init__"))) (sB : PySem.W.subIn K (.ref C) (.type "ValueError") = some true) (mC : PySem.W.mroIn K C (.ref C) = some true)
    (ld : K.lookup cda = some ⟨ccl, cdd, .fields vs, ccs⟩) (lv : vs[2]? = some (.str file tf)) (ff : ((PW14.main.file : Str) == file) = true) : ErrK K x qual st C fI cc cda :=
  ⟨a, ⟨⟨nm, q, N, bs, bm, sn, sub, ab, col, dd, k0, k1, k2, k3, k5, l, b⟩, sa, iC, tC, kC, exC, tyC, te, ⟨cl, cld, csl, lc⟩, opq, sI, sB, mC, ⟨ccl, cdd, vs, ccs, file, tf, ld, lv, ff⟩, by decide +kernel⟩, _, _, _, _, _, _, _, _, lf, hcd⟩
theorem all_mk {l : PySem.W.OpenLaw} {w : World} {K : PySem.W.Frag} {h : Heap} {mg : Str → Option Value} {fa CR CB C fR fB ccR ccB cdR cdB fI f0 cA tA : Addr} {oc kV dc pm ct : Value} {od an : Option Addr} {sl : Array (Option Value)} (hl : l.prog = PW14) (X : K.In h) (G : h.Ns mainGlobals mg) (hfa : mg "law" = some (.ref fa)) (tb : h.get? tA = some { cls := .none, data := .fields #[] })
    (g_is_integer : Glob K "is_integer" (top 6))
    (g_is_within : Glob K "is_within" (top 7))
    (g_is_string : Glob K "is_string" (top 8))
    (g_are_all : Glob K "are_all" (top 9))
    (g_are_integers : Glob K "are_integers" (top 10))
    (g_are_bytes : Glob K "are_bytes" (top 11))
    (g_is_leaf : Glob K "is_leaf" (top 20))
    (g_is_data : Glob K "is_data" (top 21))
    (g_two : Glob K "two" (top 22))
    (g_packed : Glob K "packed" (top 23))
    (g_unpacked : Glob K "unpacked" (top 25))
    (g__law_bag : Glob K "_law_bag" (top 27))
    (g__law_take : Glob K "_law_take" (top 28))
    (g__law_some : Glob K "_law_some" (top 29))
    (g__law_alike : Glob K "_law_alike" (top 30))
    (g__law_heard : Glob K "_law_heard" (top 31))
    (g__law_deep : Glob K "_law_deep" (top 32))
    (m_need : MethF K C "need" "Reader.need" (inClass cR 1))
    (m_number : MethF K C "number" "Reader.number" (inClass cR 2))
    (m_string : MethF K C "string" "Reader.string" (inClass cR 3))
    (m_word : MethF K C "word" "Reader.word" (inClass cR 4))
    (m_closed : MethF K C "closed" "Reader.closed" (inClass cR 5))
    (m_step : MethF K C "step" "Reader.step" (inClass cR 6))
    (m_whole : MethF K C "whole" "Reader.whole" (inClass cR 7))
    (z_isi : PySem.W.nsIn K mainGlobals "isinstance" = some none)
    (z_int : PySem.W.nsIn K mainGlobals "int" = some none)
    (z_bool : PySem.W.nsIn K mainGlobals "bool" = some none)
    (z_str : PySem.W.nsIn K mainGlobals "str" = some none)
    (z_tuple : PySem.W.nsIn K mainGlobals "tuple" = some none)
    (z_list : PySem.W.nsIn K mainGlobals "list" = some none)
    (z_all : PySem.W.nsIn K mainGlobals "all" = some none)
    (z_len : PySem.W.nsIn K mainGlobals "len" = some none)
    (z_range : PySem.W.nsIn K mainGlobals "range" = some none)
    (z_zip : PySem.W.nsIn K mainGlobals "zip" = some none)
    (z_abs : PySem.W.nsIn K mainGlobals "abs" = some none)
    (z_max : PySem.W.nsIn K mainGlobals "max" = some none)
    (cByte : ∃ t, PySem.W.nsIn K mainGlobals "MOST_BYTE" = some (some (.int 255 t)))
    (cNumber : ∃ t, PySem.W.nsIn K mainGlobals "NUMBER" = some (some (.int 1 t)))
    (cString : ∃ t, PySem.W.nsIn K mainGlobals "STRING" = some (some (.int 2 t)))
    (cTuple : ∃ t, PySem.W.nsIn K mainGlobals "TUPLE" = some (some (.int 3 t)))
    (cBase : ∃ t, PySem.W.nsIn K mainGlobals "BASE" = some (some (.int 256 t)))
    (cMost : ∃ t, PySem.W.nsIn K mainGlobals "MOST" = some (some (.int 65535 t)))
    (cDeep : ∃ t, PySem.W.nsIn K mainGlobals "MOST_DEEP" = some (some (.int 20 t)))
    (cSigns : ∃ t, PySem.W.nsIn K mainGlobals "SIGNS" = some (some (.str sgS t)))
    (z_super : PySem.W.nsIn K mainGlobals "super" = some none)
    (eR : ErrK K "Refused" "Refused.__init__" sRI CR fR ccR cdR)
    (eB : ErrK K "BadBytes" "BadBytes.__init__" sBI CB fB ccB cdB)
    (nW : PySem.W.findIn K (.ref CR) "why" = some none)
    (nAt : PySem.W.findIn K (.ref CB) "at" = some none)
    (nF : PySem.W.findIn K (.ref CB) "fault" = some none)
    (br : PySem.W.exmOne K (.ref CB) (.ref CR) = some false)
    (gaR : PySem.W.findIn K (.ref CR) "__getattribute__" = some (some (.builtin "BaseException.__getattribute__")))
    (ggR : PySem.W.findIn K (.ref CR) "__getattr__" = some none)
    (hdR : PySem.W.hasDictIn K CR = true)
    (gaB : PySem.W.findIn K (.ref CB) "__getattribute__" = some (some (.builtin "BaseException.__getattribute__")))
    (ggB : PySem.W.findIn K (.ref CB) "__getattr__" = some none)
    (hdB : PySem.W.hasDictIn K CB = true)
    (aC : PySem.W.nsIn K mainGlobals "Reader" = some (some (.ref C)))
    (pg : PySem.W.plainGet K C Str.empty = true)
    (hd : PySem.W.hasDictIn K C = true)
    (po : PySem.W.plainOver K C = true)
    (sa : PySem.W.findIn K (.ref C) "__setattr__" = some (some (.builtin "object.__setattr__")))
    (mk : PySem.W.makesIn K C = true)
    (kc : PySem.W.keepIn K (.ref C) = true)
    (nB : PySem.W.findIn K (.ref C) "its_bytes" = some none)
    (nA : PySem.W.findIn K (.ref C) "its_at" = some none)
    (nO : PySem.W.findIn K (.ref C) "its_open" = some none)
    (i1 : PySem.W.findIn K (.ref C) "__init__" = some (some (.ref fI)))
    (i2 : PySem.W.isFn K (.ref fI) = true)
    (i3 : HasFn K "__init__" "Reader.__init__" (inClass cR 0) fI)
    (a0 : PySem.W.nsIn K mainGlobals "law" = some (some (.ref f0)))
    (l0 : K.lookup f0 = some ⟨oc, od, .func (PySem.W.fnOf "law" "law" (defArgs sLaw) (defBody sLaw) (defScope sLaw) .none kV dc pm an (.ref cA) ct), sl⟩)
    (c0 : PySem.W.codeIn K (.ref cA) "law" = true)
    (nT : K.lookup tA = none)
    (cH : PySem.W.codeHdIn K cA tA = true)
    : LawAtS l w K CX0 9 63 "script" mg fa h := by
  have e := hfa.symm.trans (PySem.W.mg_of X G a0)
  cases e
  have T : Txt mg := ⟨PySem.W.mg_none_of X G z_isi, PySem.W.mg_none_of X G z_int, PySem.W.mg_none_of X G z_bool, PySem.W.mg_none_of X G z_str, PySem.W.mg_none_of X G z_tuple, PySem.W.mg_none_of X G z_list, PySem.W.mg_none_of X G z_all, PySem.W.mg_none_of X G z_len, PySem.W.mg_none_of X G z_range, PySem.W.mg_none_of X G z_zip, PySem.W.mg_none_of X G z_abs, PySem.W.mg_none_of X G z_max, (let ⟨t, e⟩ := cByte; ⟨t, PySem.W.mg_of X G e⟩), (let ⟨t, e⟩ := cSigns; ⟨t, PySem.W.mg_of X G e⟩), (let ⟨t, e⟩ := cNumber; ⟨t, PySem.W.mg_of X G e⟩), (let ⟨t, e⟩ := cString; ⟨t, PySem.W.mg_of X G e⟩), (let ⟨t, e⟩ := cTuple; ⟨t, PySem.W.mg_of X G e⟩), (let ⟨t, e⟩ := cBase; ⟨t, PySem.W.mg_of X G e⟩), (let ⟨t, e⟩ := cMost; ⟨t, PySem.W.mg_of X G e⟩), (let ⟨t, e⟩ := cDeep; ⟨t, PySem.W.mg_of X G e⟩)⟩
  obtain ⟨ocR, odR, kVR, docR, pmR, anR, ctR, oslR, lfR, hcdR⟩ := eR.f
  obtain ⟨ocB, odB, kVB, docB, pmB, anB, ctB, oslB, lfB, hcdB⟩ := eB.f
  have ER : Errs PW14 w K mg CR CB := ⟨PySem.W.mg_none_of X G z_super, PySem.W.mg_of X G eR.a, PySem.W.mg_of X G eB.a, mk_R eR.T lfR hcdR nW, mk_B eB.T lfB hcdB nAt nF⟩
  have TC : Catch K mg CR CB := ⟨PySem.W.mg_of X G eR.a, PySem.W.mg_of X G eB.a, eR.T.te, br, eB.T.te, ⟨gaR, ggR, eR.T.exC, hdR⟩, ⟨gaB, ggB, eB.T.exC, hdB⟩, nW, nAt, nF⟩
  have RD : Rdr K C := ⟨⟨pg, hd, po, sa⟩, nB, nA, nO⟩
  obtain ⟨f_is_integer, a_is_integer, h_is_integer⟩ := g_is_integer
  have q_is_integer := PySem.W.mg_of X G a_is_integer
  obtain ⟨d_is_integer, F_is_integer⟩ := h_is_integer.fn
  have b_is_integer := F_is_integer.binds (ps := ["thing"]) (fun _ _ _ _ _ _ us hl => match us, hl with | [_], _ => rfl)
  obtain ⟨f_is_within, a_is_within, h_is_within⟩ := g_is_within
  have q_is_within := PySem.W.mg_of X G a_is_within
  obtain ⟨d_is_within, F_is_within⟩ := h_is_within.fn
  have b_is_within := F_is_within.binds (ps := ["thing", "least", "most"]) (fun _ _ _ _ _ _ us hl => match us, hl with | [_, _, _], _ => rfl)
  obtain ⟨f_is_string, a_is_string, h_is_string⟩ := g_is_string
  have q_is_string := PySem.W.mg_of X G a_is_string
  obtain ⟨d_is_string, F_is_string⟩ := h_is_string.fn
  have b_is_string := F_is_string.binds (ps := ["thing"]) (fun _ _ _ _ _ _ us hl => match us, hl with | [_], _ => rfl)
  obtain ⟨f_are_all, a_are_all, h_are_all⟩ := g_are_all
  have q_are_all := PySem.W.mg_of X G a_are_all
  obtain ⟨d_are_all, F_are_all⟩ := h_are_all.fn
  have b_are_all := F_are_all.binds (ps := ["thing", "fits"]) (fun _ _ _ _ _ _ us hl => match us, hl with | [_, _], _ => rfl)
  obtain ⟨f_are_integers, a_are_integers, h_are_integers⟩ := g_are_integers
  have q_are_integers := PySem.W.mg_of X G a_are_integers
  obtain ⟨d_are_integers, F_are_integers⟩ := h_are_integers.fn
  have b_are_integers := F_are_integers.binds (ps := ["thing"]) (fun _ _ _ _ _ _ us hl => match us, hl with | [_], _ => rfl)
  obtain ⟨f_are_bytes, a_are_bytes, h_are_bytes⟩ := g_are_bytes
  have q_are_bytes := PySem.W.mg_of X G a_are_bytes
  obtain ⟨d_are_bytes, F_are_bytes⟩ := h_are_bytes.fn
  have b_are_bytes := F_are_bytes.binds (ps := ["thing"]) (fun _ _ _ _ _ _ us hl => match us, hl with | [_], _ => rfl)
  obtain ⟨f_is_leaf, a_is_leaf, h_is_leaf⟩ := g_is_leaf
  have q_is_leaf := PySem.W.mg_of X G a_is_leaf
  obtain ⟨d_is_leaf, F_is_leaf⟩ := h_is_leaf.fn
  have b_is_leaf := F_is_leaf.binds (ps := ["thing"]) (fun _ _ _ _ _ _ us hl => match us, hl with | [_], _ => rfl)
  obtain ⟨f_is_data, a_is_data, h_is_data⟩ := g_is_data
  have q_is_data := PySem.W.mg_of X G a_is_data
  obtain ⟨d_is_data, F_is_data⟩ := h_is_data.fn
  have b_is_data := F_is_data.binds (ps := ["thing"]) (fun _ _ _ _ _ _ us hl => match us, hl with | [_], _ => rfl)
  obtain ⟨f_two, a_two, h_two⟩ := g_two
  have q_two := PySem.W.mg_of X G a_two
  obtain ⟨d_two, F_two⟩ := h_two.fn
  have b_two := F_two.binds (ps := ["number"]) (fun _ _ _ _ _ _ us hl => match us, hl with | [_], _ => rfl)
  obtain ⟨f_packed, a_packed, h_packed⟩ := g_packed
  have q_packed := PySem.W.mg_of X G a_packed
  obtain ⟨d_packed, F_packed⟩ := h_packed.fn
  have b_packed := F_packed.binds (ps := ["thing"]) (fun _ _ _ _ _ _ us hl => match us, hl with | [_], _ => rfl)
  obtain ⟨f_unpacked, a_unpacked, h_unpacked⟩ := g_unpacked
  have q_unpacked := PySem.W.mg_of X G a_unpacked
  obtain ⟨d_unpacked, F_unpacked⟩ := h_unpacked.fn
  have b_unpacked := F_unpacked.binds (ps := ["some"]) (fun _ _ _ _ _ _ us hl => match us, hl with | [_], _ => rfl)
  obtain ⟨f__law_bag, a__law_bag, h__law_bag⟩ := g__law_bag
  have q__law_bag := PySem.W.mg_of X G a__law_bag
  obtain ⟨d__law_bag, F__law_bag⟩ := h__law_bag.fn
  have b__law_bag := F__law_bag.binds (ps := ["script"]) (fun _ _ _ _ _ _ us hl => match us, hl with | [_], _ => rfl)
  obtain ⟨f__law_take, a__law_take, h__law_take⟩ := g__law_take
  have q__law_take := PySem.W.mg_of X G a__law_take
  obtain ⟨d__law_take, F__law_take⟩ := h__law_take.fn
  have b__law_take := F__law_take.binds (ps := ["bag", "many"]) (fun _ _ _ _ _ _ us hl => match us, hl with | [_, _], _ => rfl)
  obtain ⟨f__law_some, a__law_some, h__law_some⟩ := g__law_some
  have q__law_some := PySem.W.mg_of X G a__law_some
  obtain ⟨d__law_some, F__law_some⟩ := h__law_some.fn
  have b__law_some := F__law_some.binds (ps := ["bag", "things"]) (fun _ _ _ _ _ _ us hl => match us, hl with | [_, _], _ => rfl)
  obtain ⟨f__law_alike, a__law_alike, h__law_alike⟩ := g__law_alike
  have q__law_alike := PySem.W.mg_of X G a__law_alike
  obtain ⟨d__law_alike, F__law_alike⟩ := h__law_alike.fn
  have b__law_alike := F__law_alike.binds (ps := ["found", "right"]) (fun _ _ _ _ _ _ us hl => match us, hl with | [_, _], _ => rfl)
  obtain ⟨f__law_heard, a__law_heard, h__law_heard⟩ := g__law_heard
  have q__law_heard := PySem.W.mg_of X G a__law_heard
  obtain ⟨d__law_heard, F__law_heard⟩ := h__law_heard.fn
  have b__law_heard := F__law_heard.binds (ps := ["act"]) (fun _ _ _ _ _ _ us hl => match us, hl with | [_], _ => rfl)
  obtain ⟨f__law_deep, a__law_deep, h__law_deep⟩ := g__law_deep
  have q__law_deep := PySem.W.mg_of X G a__law_deep
  obtain ⟨d__law_deep, F__law_deep⟩ := h__law_deep.fn
  have b__law_deep := F__law_deep.binds (ps := ["thing", "many"]) (fun _ _ _ _ _ _ us hl => match us, hl with | [_, _], _ => rfl)
  obtain ⟨f_need, a_need, j_need, h_need⟩ := m_need
  obtain ⟨d_need, F_need⟩ := h_need.fn
  have b_need := F_need.binds (ps := ["self", "many"]) (fun _ _ _ _ _ _ us hl => match us, hl with | [_, _], _ => rfl)
  have M_need : Meth K C "need" f_need := ⟨a_need, j_need, F_need.kp⟩
  obtain ⟨f_number, a_number, j_number, h_number⟩ := m_number
  obtain ⟨d_number, F_number⟩ := h_number.fn
  have b_number := F_number.binds (ps := ["self"]) (fun _ _ _ _ _ _ us hl => match us, hl with | [_], _ => rfl)
  have M_number : Meth K C "number" f_number := ⟨a_number, j_number, F_number.kp⟩
  obtain ⟨f_string, a_string, j_string, h_string⟩ := m_string
  obtain ⟨d_string, F_string⟩ := h_string.fn
  have b_string := F_string.binds (ps := ["self", "many"]) (fun _ _ _ _ _ _ us hl => match us, hl with | [_, _], _ => rfl)
  have M_string : Meth K C "string" f_string := ⟨a_string, j_string, F_string.kp⟩
  obtain ⟨f_word, a_word, j_word, h_word⟩ := m_word
  obtain ⟨d_word, F_word⟩ := h_word.fn
  have b_word := F_word.binds (ps := ["self"]) (fun _ _ _ _ _ _ us hl => match us, hl with | [_], _ => rfl)
  have M_word : Meth K C "word" f_word := ⟨a_word, j_word, F_word.kp⟩
  obtain ⟨f_closed, a_closed, j_closed, h_closed⟩ := m_closed
  obtain ⟨d_closed, F_closed⟩ := h_closed.fn
  have b_closed := F_closed.binds (ps := ["self", "thing"]) (fun _ _ _ _ _ _ us hl => match us, hl with | [_, _], _ => rfl)
  have M_closed : Meth K C "closed" f_closed := ⟨a_closed, j_closed, F_closed.kp⟩
  obtain ⟨f_step, a_step, j_step, h_step⟩ := m_step
  obtain ⟨d_step, F_step⟩ := h_step.fn
  have b_step := F_step.binds (ps := ["self"]) (fun _ _ _ _ _ _ us hl => match us, hl with | [_], _ => rfl)
  have M_step : Meth K C "step" f_step := ⟨a_step, j_step, F_step.kp⟩
  obtain ⟨f_whole, a_whole, j_whole, h_whole⟩ := m_whole
  obtain ⟨d_whole, F_whole⟩ := h_whole.fn
  have b_whole := F_whole.binds (ps := ["self"]) (fun _ _ _ _ _ _ us hl => match us, hl with | [_], _ => rfl)
  have M_whole : Meth K C "whole" f_whole := ⟨a_whole, j_whole, F_whole.kp⟩
  obtain ⟨dI, FI⟩ := i3.fn
  have bI := FI.binds (ps := ["self", "some"]) (fun _ _ _ _ _ _ us hl => match us, hl with | [_, _], _ => rfl)
  refine ⟨PySem.W.fnOf "law" "law" (defArgs sLaw) (defBody sLaw) (defScope sLaw) .none kV dc pm an (.ref cA) ct, [(cA, tA)], spLaw K tA, fun p hp => ?_, fun p hp => ?_, fun p hp => ?_, fun s u => .of_eq rfl, fun H a ns hn _ hT hS => ?_, fun base hKb hnb hTb => ?_⟩
  · rw [List.mem_singleton.mp hp]
    exact tb
  · rw [List.mem_singleton.mp hp]
    exact nT
  · rw [List.mem_singleton.mp hp]
    exact PySem.W.codeHd_of_K X cH
  · exact ⟨a, ns, rfl, hS, hn, hT (cA, tA) List.mem_cons_self, fun _ => rfl⟩
  · rw [hl]
    have TB := hTb (cA, tA) List.mem_cons_self
    have D_is_integer : Fd PW14 w K mg base CX0 1 "is_integer" ["thing"] spIsInt := ⟨f_is_integer, d_is_integer, q_is_integer, F_is_integer.kp, b_is_integer, ok_isInt F_is_integer T⟩
    have D_is_within : Fd PW14 w K mg base CX0 2 "is_within" ["thing", "least", "most"] spWithin := ⟨f_is_within, d_is_within, q_is_within, F_is_within.kp, b_is_within, ok_within F_is_within D_is_integer⟩
    have D_is_string : Fd PW14 w K mg base CX0 1 "is_string" ["thing"] spIsStr := ⟨f_is_string, d_is_string, q_is_string, F_is_string.kp, b_is_string, ok_isStr F_is_string T⟩
    have D_are_all : Fd PW14 w K mg base CX0 2 "are_all" ["thing", "fits"] (spAll f_is_integer) := ⟨f_are_all, d_are_all, q_are_all, F_are_all.kp, b_are_all, ok_all F_are_all T (ok_isInt F_is_integer T) F_is_integer.kp b_is_integer⟩
    have D_are_integers : Fd PW14 w K mg base CX0 3 "are_integers" ["thing"] spInts := ⟨f_are_integers, d_are_integers, q_are_integers, F_are_integers.kp, b_are_integers, ok_ints F_are_integers q_is_integer D_are_all⟩
    have D_are_bytes : Fd PW14 w K mg base CX0 4 "are_bytes" ["thing"] spBytes := ⟨f_are_bytes, d_are_bytes, q_are_bytes, F_are_bytes.kp, b_are_bytes, ok_bytes F_are_bytes T D_are_integers⟩
    have D_is_leaf : Fd PW14 w K mg base CX0 3 "is_leaf" ["thing"] spLeaf := ⟨f_is_leaf, d_is_leaf, q_is_leaf, F_is_leaf.kp, b_is_leaf, ok_leaf F_is_leaf T D_is_string D_is_within⟩
    have D_is_data : Fd PW14 w K mg base CX0 4 "is_data" ["thing"] spData := ⟨f_is_data, d_is_data, q_is_data, F_is_data.kp, b_is_data, ok_data F_is_data T D_is_leaf⟩
    have D_two : Fd PW14 w K mg base CX0 1 "two" ["number"] spTwo := ⟨f_two, d_two, q_two, F_two.kp, b_two, ok_two F_two T⟩
    have D_packed : Fd PW14 w K mg base (L2.CX PW14 w) 5 "packed" ["thing"] (spPacked CR) := ⟨f_packed, d_packed, q_packed, F_packed.kp, b_packed, ok_packed F_packed T ER D_is_data D_two D_is_string⟩
    have D_need : Md PW14 w K mg base (L2.CX PW14 w) 2 C "need" ["self", "many"] (spNeed C CB) := ⟨f_need, d_need, M_need, b_need, ok_need F_need RD T ER⟩
    have D_number : Md PW14 w K mg base (L2.CX PW14 w) 3 C "number" ["self"] (spNumber C CB) := ⟨f_number, d_number, M_number, b_number, ok_number F_number RD T D_need⟩
    have D_string : Md PW14 w K mg base (L2.CX PW14 w) 3 C "string" ["self", "many"] (spString C CB) := ⟨f_string, d_string, M_string, b_string, ok_string F_string RD T ER D_need⟩
    have D_word : Md PW14 w K mg base (L2.CX PW14 w) 3 C "word" ["self"] (spWord C CB) := ⟨f_word, d_word, M_word, b_word, ok_word F_word RD T ER D_need⟩
    have D_closed : Md PW14 w K mg base CX0 1 C "closed" ["self", "thing"] (spClosed C) := ⟨f_closed, d_closed, M_closed, b_closed, ok_closed F_closed RD T⟩
    have D_step : Md PW14 w K mg base (L2.CX PW14 w) 4 C "step" ["self"] (spStep C CB) := ⟨f_step, d_step, M_step, b_step, ok_step F_step RD T D_word D_number D_string D_closed⟩
    have D_whole : Md PW14 w K mg base (L2.CX PW14 w) 5 C "whole" ["self"] (spWhole C CB) := ⟨f_whole, d_whole, M_whole, b_whole, ok_whole F_whole RD T ER D_step⟩
    have D_unpacked : Fd PW14 w K mg base (L2.CX PW14 w) 6 "unpacked" ["some"] (spUnp CB) := ⟨f_unpacked, d_unpacked, q_unpacked, F_unpacked.kp, b_unpacked, ok_unp F_unpacked RD (PySem.W.mg_of X G aC) D_are_bytes ⟨mk, i1, i2, kc⟩ (ok_init FI RD) bI D_whole⟩
    have D__law_bag : Fd PW14 w K mg base CX0 1 "_law_bag" ["script"] (spBag K) := ⟨f__law_bag, d__law_bag, q__law_bag, F__law_bag.kp, b__law_bag, ok_bag F__law_bag T⟩
    have D__law_take : Fd PW14 w K mg base CX0 1 "_law_take" ["bag", "many"] spTake := ⟨f__law_take, d__law_take, q__law_take, F__law_take.kp, b__law_take, ok_take F__law_take T⟩
    have D__law_some : Fd PW14 w K mg base CX0 2 "_law_some" ["bag", "things"] (spSome K) := ⟨f__law_some, d__law_some, q__law_some, F__law_some.kp, b__law_some, ok_some F__law_some T D__law_take⟩
    have D__law_alike : Fd PW14 w K mg base CX0 1 "_law_alike" ["found", "right"] spAlike := ⟨f__law_alike, d__law_alike, q__law_alike, F__law_alike.kp, b__law_alike, ok_alike F__law_alike T⟩
    have D__law_deep : Fd PW14 w K mg base CX0 1 "_law_deep" ["thing", "many"] spDeep := ⟨f__law_deep, d__law_deep, q__law_deep, F__law_deep.kp, b__law_deep, ok_deep F__law_deep T⟩
    exact ok_law l0 c0 TB T TC F__law_heard q__law_heard b__law_heard ⟨D__law_bag, D__law_take, D__law_some, D__law_alike, D__law_deep, D_packed, D_unpacked⟩
end K14
namespace K14
open PySem PySem.Spec PyProof.Rows L2 LamX
theorem walk14 {l : PySem.W.OpenLaw} {q : Program} {loose : List Str} {XP : (Str → Option Value) → Heap → Prop} {YP : World → Heap → Prop} {d : DefRec} {K : Params → PySem.W.Frag} (hn : l.most = some 63) (hdf : d.params.defaults = []) (hY : ∀ (w : World) (h : Heap), YP w h → (K w.params).In h)
    (F : ∀ (w : World) (mg : Str → Option Value) (fa : Addr) (h : Heap), YP w h → (K w.params).In h → h.Ns mainGlobals mg → mg d.name = some (.ref fa) → LawAtS l w (K w.params) CX0 9 63 "script" mg fa h) : PySem.W.WalkO q loose XP YP l.row.toRowW d [] (fun f vs => PySem.call f vs) :=
  walk_ofTs (n := 63) (k := 9) (x := "script") (CX := fun _ => CX0) hn (by rw [sizeLine_eq]; decide) hdf ⟨rfl, by decide, by decide⟩ hY F fun _ _ _ _ _ z => z
end K14
open PySem PySem.W PyProof.Rows in
set_option maxRecDepth 100000 in
set_option maxHeartbeats 0 in
theorem PySem.Challenge.cw_worknets_k14_data_of_great_lengths_holds : PySem.Challenge.rw_worknets_k14_data_of_great_lengths.Holds := by
  w_on; o_law; k_head; (case hw => w_witness2)
  k_fill
  refine K14.walk14 (l := PySem.Challenge.rw_worknets_k14_data_of_great_lengths) rfl rfl (fun w h Y => PySem.W.km_in_of Y) ?F
  case F =>
    intro w mg fa h YP KX G hmg
    refine' K14.all_mk rfl KX G hmg ?tb ?g_is_integer ?g_is_within ?g_is_string ?g_are_all ?g_are_integers ?g_are_bytes ?g_is_leaf ?g_is_data ?g_two ?g_packed ?g_unpacked ?g__law_bag ?g__law_take ?g__law_some ?g__law_alike ?g__law_heard ?g__law_deep ?m_need ?m_number ?m_string ?m_word ?m_closed ?m_step ?m_whole ?z_isi ?z_int ?z_bool ?z_str ?z_tuple ?z_list ?z_all ?z_len ?z_range ?z_zip ?z_abs ?z_max ?cByte ?cNumber ?cString ?cTuple ?cBase ?cMost ?cDeep ?cSigns ?z_super ?eR ?eB ?nW ?nAt ?nF ?br ?gaR ?ggR ?hdR ?gaB ?ggB ?hdB ?aC ?pg ?hd ?po ?sa ?mk ?kc ?nB ?nA ?nO ?i1 ?i2 ?i3 ?a0 ?l0 ?c0 ?nT ?cH
    (case a0 => k_is)
    (case l0 => k_is)
    (case c0 => k_is)
    (case tb => exact PySem.W.km_tabs_of YP _ (List.Mem.head _))
    (case nT => kernel_rfl)
    (case cH => kernel_rfl)
    (case aC => k_is)
    (case pg => k_is)
    (case hd => k_is)
    (case po => k_is)
    (case sa => k_is)
    (case mk => k_is)
    (case kc => k_is)
    (case nB => k_is)
    (case nA => k_is)
    (case nO => k_is)
    (case i1 => k_is)
    (case i2 => k_is)
    (case i3 => refine' K14.hasFn_of ?l ?c ?k; (case l => k_is); (case c => k_is); (case k => k_is))
    (case g_is_integer => refine' K14.glob_of ?a ?l ?c ?k; (case a => k_is); (case l => k_is); (case c => k_is); (case k => k_is))
    (case g_is_within => refine' K14.glob_of ?a ?l ?c ?k; (case a => k_is); (case l => k_is); (case c => k_is); (case k => k_is))
    (case g_is_string => refine' K14.glob_of ?a ?l ?c ?k; (case a => k_is); (case l => k_is); (case c => k_is); (case k => k_is))
    (case g_are_all => refine' K14.glob_of ?a ?l ?c ?k; (case a => k_is); (case l => k_is); (case c => k_is); (case k => k_is))
    (case g_are_integers => refine' K14.glob_of ?a ?l ?c ?k; (case a => k_is); (case l => k_is); (case c => k_is); (case k => k_is))
    (case g_are_bytes => refine' K14.glob_of ?a ?l ?c ?k; (case a => k_is); (case l => k_is); (case c => k_is); (case k => k_is))
    (case g_is_leaf => refine' K14.glob_of ?a ?l ?c ?k; (case a => k_is); (case l => k_is); (case c => k_is); (case k => k_is))
    (case g_is_data => refine' K14.glob_of ?a ?l ?c ?k; (case a => k_is); (case l => k_is); (case c => k_is); (case k => k_is))
    (case g_two => refine' K14.glob_of ?a ?l ?c ?k; (case a => k_is); (case l => k_is); (case c => k_is); (case k => k_is))
    (case g_packed => refine' K14.glob_of ?a ?l ?c ?k; (case a => k_is); (case l => k_is); (case c => k_is); (case k => k_is))
    (case g_unpacked => refine' K14.glob_of ?a ?l ?c ?k; (case a => k_is); (case l => k_is); (case c => k_is); (case k => k_is))
    (case g__law_bag => refine' K14.glob_of ?a ?l ?c ?k; (case a => k_is); (case l => k_is); (case c => k_is); (case k => k_is))
    (case g__law_take => refine' K14.glob_of ?a ?l ?c ?k; (case a => k_is); (case l => k_is); (case c => k_is); (case k => k_is))
    (case g__law_some => refine' K14.glob_of ?a ?l ?c ?k; (case a => k_is); (case l => k_is); (case c => k_is); (case k => k_is))
    (case g__law_alike => refine' K14.glob_of ?a ?l ?c ?k; (case a => k_is); (case l => k_is); (case c => k_is); (case k => k_is))
    (case g__law_heard => refine' K14.glob_of ?a ?l ?c ?k; (case a => k_is); (case l => k_is); (case c => k_is); (case k => k_is))
    (case g__law_deep => refine' K14.glob_of ?a ?l ?c ?k; (case a => k_is); (case l => k_is); (case c => k_is); (case k => k_is))
    (case m_need => refine' K14.meth_of ?a ?i ?l ?c ?k; (case a => k_is); (case i => k_is); (case l => k_is); (case c => k_is); (case k => k_is))
    (case m_number => refine' K14.meth_of ?a ?i ?l ?c ?k; (case a => k_is); (case i => k_is); (case l => k_is); (case c => k_is); (case k => k_is))
    (case m_string => refine' K14.meth_of ?a ?i ?l ?c ?k; (case a => k_is); (case i => k_is); (case l => k_is); (case c => k_is); (case k => k_is))
    (case m_word => refine' K14.meth_of ?a ?i ?l ?c ?k; (case a => k_is); (case i => k_is); (case l => k_is); (case c => k_is); (case k => k_is))
    (case m_closed => refine' K14.meth_of ?a ?i ?l ?c ?k; (case a => k_is); (case i => k_is); (case l => k_is); (case c => k_is); (case k => k_is))
    (case m_step => refine' K14.meth_of ?a ?i ?l ?c ?k; (case a => k_is); (case i => k_is); (case l => k_is); (case c => k_is); (case k => k_is))
    (case m_whole => refine' K14.meth_of ?a ?i ?l ?c ?k; (case a => k_is); (case i => k_is); (case l => k_is); (case c => k_is); (case k => k_is))
    (case z_isi => k_is)
    (case z_int => k_is)
    (case z_bool => k_is)
    (case z_str => k_is)
    (case z_tuple => k_is)
    (case z_list => k_is)
    (case z_all => k_is)
    (case z_len => k_is)
    (case z_range => k_is)
    (case z_zip => k_is)
    (case z_abs => k_is)
    (case z_max => k_is)
    (case z_super => k_is)
    (case cByte => refine' K14.ex_of ?a; (case a => k_is))
    (case cNumber => refine' K14.ex_of ?a; (case a => k_is))
    (case cString => refine' K14.ex_of ?a; (case a => k_is))
    (case cTuple => refine' K14.ex_of ?a; (case a => k_is))
    (case cBase => refine' K14.ex_of ?a; (case a => k_is))
    (case cMost => refine' K14.ex_of ?a; (case a => k_is))
    (case cDeep => refine' K14.ex_of ?a; (case a => k_is))
    (case cSigns => refine' K14.exs_of ?a; (case a => k_is))
    (case eR => refine' K14.errK_of ?a ?l ?b ?sa ?iC ?tC ?kC ?exC ?tyC ?lf ?hcd ?te ?lc ?opq ?sI ?sB ?mC ?ld ?lv ?ff; (case a => k_is); (case l => k_is); (case b => decide +kernel); (case sa => k_is); (case iC => k_is); (case tC => k_is); (case kC => k_is); (case exC => k_is); (case tyC => k_is); (case lf => k_is); (case hcd => k_is); (case te => kernel_rfl); (case lc => k_is); (case opq => kernel_rfl); (case sI => kernel_rfl); (case sB => k_is); (case mC => k_is); (case ld => k_is); (case lv => rfl); (case ff => decide +kernel))
    (case eB => refine' K14.errK_of ?a ?l ?b ?sa ?iC ?tC ?kC ?exC ?tyC ?lf ?hcd ?te ?lc ?opq ?sI ?sB ?mC ?ld ?lv ?ff; (case a => k_is); (case l => k_is); (case b => decide +kernel); (case sa => k_is); (case iC => k_is); (case tC => k_is); (case kC => k_is); (case exC => k_is); (case tyC => k_is); (case lf => k_is); (case hcd => k_is); (case te => kernel_rfl); (case lc => k_is); (case opq => kernel_rfl); (case sI => kernel_rfl); (case sB => k_is); (case mC => k_is); (case ld => k_is); (case lv => rfl); (case ff => decide +kernel))
    (case nW => k_is)
    (case nAt => k_is)
    (case nF => k_is)
    (case gaR => k_is)
    (case ggR => k_is)
    (case hdR => k_is)
    (case gaB => k_is)
    (case ggB => k_is)
    (case hdB => k_is)
    (case br => kernel_rfl)
