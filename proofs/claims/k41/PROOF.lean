import PyProof.Rows.All
import Wide.All
import OpenK.AllK
import Wide.FinOn
import HandS.ForMost
import HandS.Exc
import HandS.WordsExc
import HandS.ExcInit
import HandS.Nested
import KE.KExcSuper
import HandS.ExcValue
import HandS.ExcField
import HandS.ExcIs
import KE.KExcIs
import HandS.Lambda
import HandS.Defaults
import HandS.EndTab
import PyProof.ReprReads
import PyProof.ReprRoads
import HandS.Wide
import HandS.IsInst
import HandS.Evl
import HandS.Style
import HandS.NoneIn
import PySem.Challenge.RW_whichways_k41_slants_in_order_of_steepne
import HandS.Conv
import PyProof.StrOps2
import HandS.EndBits
import KE.KStateDown
import HandS.Head0
import HandS.Head1
import HandS.Head2
import HandS.HeadHook1
import HandS.HeadHook2
import HandS.HeadHook3
import HandS.HeadHook4
import Lean
set_option Elab.async false
set_option linter.all false
set_option maxRecDepth 100000
set_option maxHeartbeats 4000000
/-! an own exception's __init__ that says super().__init__('..') and keeps one field -/
namespace GA
open PySem PySem.Spec PyProof.Rows L2
/-- what the written part says of such a class at C and of its __init__ at f -/
structure SupC (P : Program) (K : PySem.W.Frag) (mg : Str → Option Value) (C cc c f : Addr) (qual : Str) (params : Arguments) (body : List Stmt) (scope : Scope) (fd : FuncData) (fld : Str) : Prop where
  ox : OexC K C
  fn : ∃ (oc : Value) (od an : Option Addr) (doc pm ct : Value) (osl : Array (Option Value)), fd = PySem.W.fnX "__init__" qual params body scope [("__class__", cc)] .none .none doc pm an (.ref c) ct ∧ K.lookup f = some ⟨oc, od, .func fd, osl⟩
  cd : PySem.W.codeIn K (.ref c) qual = true
  file : ∃ (oc : Value) (od : Option Addr) (vs : Array Value) (osl : Array (Option Value)) (fl : Str) (tf : Tok), K.lookup c = some ⟨oc, od, .fields vs, osl⟩ ∧ vs[2]? = some (.str fl tf) ∧ ((P.main.file : Str) == fl) = true
  cell : ∃ (oc : Value) (od : Option Addr) (osl : Array (Option Value)), K.lookup cc = some ⟨oc, od, .cell (some (.ref C)), osl⟩
  sub : PySem.W.mroIn K C (.ref C) = some true
  nosup : mg "super" = none
  top : (P.main.scope.names.lookup ("super" : Str)).isSome = false
  opq : PySem.W.nsIn K cStatics "thirdparty.any" = some none
  ini : PySem.W.ks_superIn K C C "__init__" = some (some (.builtin "ValueError.__init__"))
  subV : PySem.W.subIn K (.ref C) (.type "ValueError") = some true
  nof : PySem.W.findIn K (.ref C) fld = some none
def spIni (K : PySem.W.Frag) (C : Addr) (fld : Str) : Sp := fun vs H Q _ => ∃ (a : Addr) (y : V), vs = [.ref a, y] ∧ H a = some (exo a C none) ∧
  ∀ d, H d = none → d ≠ a → Q .non (upd (upd H d (exd d [(fld, y)])) a (exo a C (some d)))
/-- the method-wrapper is called: the exception's args are laid anew -/
theorem call_mw {prog : Program} {w : World} {A : Around} {E : Value → Shared → Prop} {hp : Heap} {g : Array GenState} {d : Drawn} {t : Nat} {os : OsState} {nm q : Str} {C N : Addr} {bs bm : List Value} {hdct : Bool} {sn : List Str} {sub : List Value} {ab : Bool} {col : Option Bool} {dd : Option Addr} {k0 k1 k2 k3 k5 : Option Value}
    {u e t0 : Addr} {rest : List Value} {Q : Value → Shared → Prop} (hC : hp.get? C = some (excClassObj nm q C N bs bm hdct sn sub ab col dd k0 k1 k2 k3 k5 "ValueError.__new__")) (he : hp.get? e = some (PySem.W.excObj C t0 none .none)) (hu : hp.get? u = some (PySem.W.kxs_mw "ValueError.__init__" e)) (hl : rest.length ≤ sizeLine)
    (h : ∀ h' t1, (∀ b o, b ≠ e → hp.get? b = some o → h'.get? b = some o) → h'.get? e = some (PySem.W.excObj C t1 none .none) → Q .none ⟨h', g, d, t, os⟩) :
    wpAny (model prog w) A (call (.ref u) rest) Q E ⟨hp, g, d, t, os⟩ := by
  refine wpAny_call (codeAny_of_tree ?_)
  show wpAny (model prog w) A.in1 (callAny (.ref u) ⟨rest, []⟩) _ _ ⟨hp, g, d, t, os⟩
  rw [callAny]
  refine wpAny_bind (wpAny_load hu ?_)
  have e1 : (Value.type "method-wrapper" == Value.type "method" || Value.type "method-wrapper" == Value.type "builtin_function_or_method" || Value.type "method-wrapper" == Value.type "method-wrapper") = true := by decide
  simp only [PySem.W.kxs_mw, e1, if_true]
  refine PySem.W.KFB.if_so (by decide) (wpAny_bind (PySem.W.check_bound_init F.excBase_ValueError.toExcCallFacts hC he rfl ?_))
  refine wpAny_bind (wpAny_pure (wpAny_pure ⟨plainId_quiet F.excBase_ValueError.init.plain _, codeAny_builtin F.excBase_ValueError.initEntry ?_⟩))
  exact PySem.W.exc_init_tree (cls := .ref C) (t0 := t0) (dv := none) (c2 := .none) (c3 := .none) (b4 := .bool false) he hl fun h' k1 k2 _ => h h' _ k1 k2
section
variable {P : Program} {w : World} {K : PySem.W.Frag} {mg : Str → Option Value} {base : Heap} {C cc c f : Addr} {qual : Str} {params : Arguments} {scope : Scope} {fd : FuncData} {z fld : Str} {j : Nat} {p0 p1 p2 p3 p4 p5 p6 p7 p8 p9 : Pos}
abbrev iniBody (z fld : Str) (j : Nat) (p0 p1 p2 p3 p4 p5 p6 p7 p8 p9 : Pos) : List Stmt :=
  [.Expr (.Call (.Attribute (.Call (.Name "super" p0) [] [] p1) "__init__" p2) [.Constant (.str z) j p3] [] p4) p5, .Assign [.Attribute (.Name "self" p6) fld p7] (.Name fld p8) p9]
theorem ok_ini (T : SupC P K mg C cc c f qual params (iniBody z fld j p0 p1 p2 p3 p4 p5 p6 p7 p8 p9) scope fd fld) (S : NdefX.NScope ["self", fld, "__class__"] ["self", fld] ["__class__"] scope)
    (hsg : scope.names.lookup ("super" : Str) = some .globalImplicit) (hp : ∃ ar : Arg, (params.posonlyargs ++ params.args).head? = some ar ∧ ar.arg = "self") (hfl : (fld == ("self" : Str)) = false) (hd1 : (fld == ("__debug__" : Str)) = false) (hd2 : (fld == ("__classdict__" : Str)) = false)
    (hev : ∀ env : Env, ∃ pl : Sem Bool, eval (.Call (.Attribute (.Call (.Name "super" p0) [] [] p1) "__init__" p2) [.Constant (.str z) j p3] [] p4) env = (do
      let ov ← attributeBase (.Call (.Name "super" p0) [] [] p1) "__init__" env (eval (.Call (.Name "super" p0) [] [] p1) env)
      standAt p2.atName
      let (f, first) ← holding [ov] (getMethod ov "__init__" pl)
      callWith p4 f first (backTo p4 (starEach [.Constant (.str z) j p3] env)) [])) :
    FnOk P w K mg base CX0 1 f fd ["self", fld] (spIni K C fld) := by
  refine ⟨fun vs H Q E h => ?_, fun A outer s H args us vs Q E hr e0 hb r hsp => ?_⟩
  · obtain ⟨a, y, rfl, _⟩ := h
    rfl
  obtain ⟨a, y, rfl, ha, q⟩ := hsp
  obtain ⟨oc, od, an, doc, pm, ct, osl, rfl, lk⟩ := T.fn
  obtain ⟨oc2, od2, cvs, osl2, fl, tf, lc, hvs, hfile⟩ := T.file
  obtain ⟨oc3, od3, osl3, lcell⟩ := T.cell
  have KX : K.In s.heap := e0.mod.kin.keeps fun b o e => (e0.bs b o e).1
  have lim : s.heap.NoLimit := e0.mod.nolimit.keeps fun b o e => (e0.bs b o e).1
  obtain ⟨ar, hpar, har⟩ := hp
  have hcn : H cc = none := (e0.bs cc _ (e0.mod.kin _ _ lcell)).2
  cases r with
  | @cons _ ua _ us1 ra r1 => cases r1 with
  | @cons _ uy _ us2 ry r2 =>
  cases r2
  obtain rfl : ua = Value.ref a := ra
  let NFF : NdefX.NF := ⟨"__init__", qual, params, iniBody z fld j p0 p1 p2 p3 p4 p5 p6 p7 p8 p9, scope, [("__class__", cc)], c⟩
  have Cl : NdefX.CellsAt NFF.cl ["__class__"] [none] s.heap H := by
    have look : ∀ y' c', NFF.cl.lookup y' = some c' → y' = "__class__" ∧ c' = cc := fun y' c' e => by
      have e2 : (match y' == ("__class__" : Str) with | true => some cc | false => none) = some c' := e
      cases hq : (y' == ("__class__" : Str)) with
      | true =>
        rw [hq] at e2
        exact ⟨beq_iff_eq.mp hq, (Option.some.inj e2).symm⟩
      | false =>
        rw [hq] at e2
        cases e2
    refine ⟨rfl, fun y' c' e => ?_, fun x1 x2 c' e e2 => ?_, fun i y' e => ?_⟩
    · obtain ⟨_, rfl⟩ := look y' c' e
      exact ⟨hcn, _, _, KX _ _ lcell, rfl⟩
    · rw [(look _ _ e).1, (look _ _ e2).1]
    · have e1 : i = 0 ∧ y' = "__class__" := by
        cases i with
        | zero => exact ⟨rfl, (Option.some.inj e).symm⟩
        | succ n => cases e
      obtain ⟨rfl, rfl⟩ := e1
      exact ⟨cc, rfl, fun v hv => by cases hv⟩
  refine PySem.ks_codeAny_call_defAt (body := iniBody z fld j p0 p1 p2 p3 p4 p5 p6 p7 p8 p9) (binds := (["self", fld] : List Str).zip [.ref a, uy]) hr.depth (KX _ _ lk) rfl lim (PySem.W.codeRec_of KX T.cd) rfl hb (fun y hy => S.nocell y hy) (fun y hy => S.par y.1 (List.of_mem_zip hy).1) (fun h₁ hns kp => ?_) S.co S.gen S.kind
  have I0 : Inv (NdefX.ncx CX0 P w K mg base ["self", fld, "__class__"] NFF f A outer s H E) [] (NdefX.startF ["self", fld, "__class__"] [.ref a, y] [none]) H { s with heap := h₁, toks := s.toks + ((["self", fld] : List Str).zip [.ref a, uy]).length } :=
    NdefX.inv_startN S hr.hd e0 rfl (.cons rfl (.cons ry .nil)) Cl hns kp
  let X : Cx := NdefX.ncx CX0 P w K mg base ["self", fld, "__class__"] NFF f A outer s H E
  have kh : K.In h₁ := KX.keeps kp
  have hob : ∃ t1 : Addr, h₁.get? a = some (PySem.W.excObj C t1 none .none) := exo_at I0.hok ha
  obtain ⟨t1, hob⟩ := hob
  obtain ⟨nm, qn, N, bs, bm, sn, sb, ab, col, dd, k0, k1, k2, k3, k5, lC, hbm⟩ := T.ox.cls
  have hcl : PySem.W.clsIn K C = some { name := nm, bases := bs, mro := .ref C :: bm, ns := N, qualname := qn, hasDict := true, slotNames := sn, subclasses := sb, abstract := ab, collection := col, hasDel := false } := by
    unfold PySem.W.clsIn
    rw [lC]
  have hxC : a ≠ C := fun e => by
    have e1 := kh _ _ lC
    rw [← e, hob] at e1
    have e2 := congrArg (fun o : Option Obj => o.map (·.data)) e1
    cases e2
  have JJ := I0.os
  obtain ⟨pl, hpl⟩ := hev X.env
  have hint : interactive X.env = false := by
    show (X.env.scope.kind == ScopeKind.module && _) = false
    rw [show X.env.scope.kind = ScopeKind.function from S.kind]
    rfl
  refine ks_wpAt_execs_cons (ks_wpAt_Expr_any (ks_wpAt_MethodCall (pl := pl) ?_ hpl) hint)
  refine ks_wpAt_super_base (ar := ar) hsg (S.frk "__class__" (List.mem_singleton.mpr rfl)) (by decide) rfl (kh _ _ lk) rfl hpar rfl (kh _ _ lc) rfl hvs hfile T.top ?_
  refine PySem.W.ks_loadName_global S.kind hsg ?_
  obtain ⟨mb, b1, b2⟩ := I0.mod.blt
  refine Calls.loadGlobal_builtin (I0.mod.glob.keeps I0.bk) T.nosup (b1.keeps I0.bk) ((b2 _ (by decide)).trans (show bootBuiltins "super" = some (.type "super") by decide +kernel)) ⟨rfl, ?_⟩
  refine wpAny_loadName_free S.kind (S.frk "__class__" (List.mem_singleton.mpr rfl)) rfl ⟨_, kh _ _ lcell, rfl⟩ ?_
  rw [har]
  refine wpAny_loadName_local S.kind (S.par "self" List.mem_cons_self) hns (v := .ref a) ?_ ?_
  · show (match ("self" : Str) == fld with | true => some uy | false => _) = _
    rw [show (("self" : Str) == fld) = false from by rw [Bool.beq_comm]; exact hfl]
    rfl
  refine ks_wpAny_isType_cls (kh _ _ lC) rfl ⟨rfl, ?_⟩
  refine ks_wpAny_call_super (kh _ _ lC) rfl hob rfl (fun c e => by cases e) (PySem.W.looks_mroIn kh T.sub) (fun h2 e2 kp2 => ?_)
  have kh2 : K.In h2 := kh.keeps kp2
  have hob2 := kp2 _ _ hob
  have lini : PySem.W.alongIn K "__init__" ((((Value.ref C :: bm).dropWhile (· != .ref C)).drop 1)) = some (some (.builtin "ValueError.__init__")) := by
    have e := T.ini
    unfold PySem.W.ks_superIn at e
    rw [hcl] at e
    exact e
  have IA : PySem.W.InstAt h2 a (PySem.W.excObj C t1 none .none) C none := ⟨hob2, rfl, rfl, trivial⟩
  refine PySem.W.kxs_getMethod PySem.W.kxs_ValueError e2 (PySem.W.looks_opaque kh2 T.opq) (l₀ := .ref C :: bm) (fun A' Q' E' s' k' q' => wpAny_bind ((PySem.W.looks_clsIn kh2 hcl) A' _ E' s' k' (wpAny_pure q'))) rfl kh2 lini (IA.type.andThen (PySem.W.looks_subIn kh2 T.subV)) hxC (by decide) ?_
  show wpAny _ _ (callWith p4 (.ref h2.objs.size) [] (backTo p4 (starEach [.Constant (.str z) j p3] X.env)) []) _ _ _
  have hu3 : (h2.push (PySem.W.kxs_mw "ValueError.__init__" a)).get? h2.objs.size = some (PySem.W.kxs_mw "ValueError.__init__" a) := Heap.get?_push_at rfl rfl
  have k3 : ∀ b o, h2.get? b = some o → (h2.push (PySem.W.kxs_mw "ValueError.__init__" a)).get? b = some o := fun b o e => Heap.get?_push_of_some _ e
  refine PySem.W.kxs_callWith (i := "ValueError.__init__") (x := a) rfl (PySem.Calls.evalArgs_plain ?_)
  show wpAny _ _ (spliced ((false, eval (.Constant (.str z) j p3) X.env) :: backTo p4 (starEach [] X.env))) _ _ _
  refine Calls.spliced_cons (Calls.Constant_str (Calls.spliced_nil ⟨hu3, ?_⟩))
  refine call_mw (k3 _ _ (kh2 _ _ lC)) (k3 _ _ hob2) hu3 (by show 1 ≤ sizeLine; rw [sizeLine_eq]; omega) (fun h4 t4 k4 hob4 => ?_)
  have I1 : Inv X [] (NdefX.startF ["self", fld, "__class__"] [.ref a, y] [none]) H _ := I0.kept (t' := 0) (fun b u e => k3 _ _ (kp2 b u e))
  have I2 := I1.write (t' := 0) (x := a) (e := a) (o := exo a C none) (h' := h4) (by rw [ha]; exact True.intro) (.inl rfl) k4 ⟨_, hob4⟩ (exo_ok hob4)
  have eu : upd H a (exo a C none) = H := by
    funext b
    by_cases hb : b = a
    · rw [hb, upd_same, ha]
    · rw [upd_ne hb]
  rw [eu] at I2
  refine wpAt_of_wpAny ?_
  have hst : PSs X [.Assign [.Attribute (.Name "self" p6) fld p7] (.Name fld p8) p9] (tOst K fld (tVar 0) (tVar 1)) :=
    pss_one (ps_ost (pe_var (i := 0) rfl (.inl (S.par "self" List.mem_cons_self))) (pe_var (i := 1) rfl (.inl (S.par fld (List.mem_cons_of_mem _ List.mem_cons_self))) hd1 hd2))
  refine wpAny_mono (hst.run [] _ _ H { nx := fun _ H' => Q .non H', rt := Q } (I2.tok _) ⟨y, rfl, .ref a, rfl, a, C, rfl, T.ox, T.nof, .inl ⟨ha, fun dx n ne => q dx n ne⟩⟩) (fun fl s' hs => ?_) (fun e s' hs => hs)
  cases fl with
  | next =>
    obtain ⟨σ', H', J, q'⟩ := hs
    exact ⟨.non, H', J.os, J.bare, J.base, J.hok, rfl, q'⟩
  | ret u =>
    obtain ⟨v, σ', H', J, rv, q'⟩ := hs
    exact ⟨v, H', J.os, J.bare, J.base, J.hok, rv, q'⟩
  | brk =>
    obtain ⟨_, _, _, q'⟩ := hs
    exact q'.elim
  | cont =>
    obtain ⟨_, _, _, q'⟩ := hs
    exact q'.elim
end
end GA

set_option Elab.async false
set_option linter.all false
set_option maxRecDepth 100000
set_option maxHeartbeats 4000000
/-! try: body except X as n: suite, the caught exception tracked from the suite on; isinstance of it; its fields -/
namespace GB
open PySem PySem.Spec PyProof.Rows L2
/-- a caught exception: its class and its own dict -/
def XcO (cls : Value) (d : Option Addr) (a : Addr) : HO := .ext fun h => ∃ (oe : Obj) (vs : Array Value), h.get? a = some oe ∧ Zc cls d oe ∧ oe.data = .fields vs
theorem xcO_ok {P : Program} {w : World} {H : Hp} {h : Heap} {a : Addr} {cls : Value} {d : Option Addr} {oe : Obj} {vs : Array Value} (e : h.get? a = some oe) (z : Zc cls d oe) (f : oe.data = .fields vs) : ObjOk P w H h a (XcO cls d a) :=
  ⟨⟨oe, vs, e, z, f⟩, ⟨oe, e⟩, fun _ _ ⟨o, v, q, r⟩ k => ⟨o, v, k o q, r⟩⟩
theorem xcO_at {P : Program} {w : World} {H : Hp} {h : Heap} {a : Addr} {cls : Value} {d : Option Addr} (x : HOk P w H h) (e : H a = some (XcO cls d a)) : ∃ (oe : Obj) (vs : Array Value), h.get? a = some oe ∧ Zc cls d oe ∧ oe.data = .fields vs := by
  have y := x a _ e
  exact y.1
section
variable {X : Cx} {pins : List (Addr × Obj)} {σ : L2.St} {H : Hp} {s : Shared}
/-- an exception object that the entry did not know is tracked -/
theorem track {a : Addr} {cls : Value} {d : Option Addr} {oe : Obj} {vs : Array Value} (I : Inv X pins σ H s) (na : H a = none) (ha : s.heap.get? a = some oe) (hz : Zc cls d oe) (hd : oe.data = .fields vs) (nL : a ≠ X.env.locals)
    (n0 : X.s_0.heap.get? a = none) (np : ∀ p ∈ X.pn ++ pins, p.1 ≠ a) : Inv X pins σ (upd H a (XcO cls d a)) s := by
  have nc : ∀ x c, X.env.cells.lookup x = some c → c ≠ a := fun x c e z => by
    obtain ⟨v, o, ho, hv⟩ := I.cell x c e
    rw [z, ha] at ho
    have z2 := Option.some.inj ho
    rw [← z2, hd] at hv
    cases hv
  have old : ∀ b o, X.s_0.heap.get? b = some o → b ≠ a := fun b o e z => by
    rw [z, n0] at e
    cases e
  have up : ∀ b, b ≠ a → upd H a (XcO cls d a) b = H b := fun b h => upd_ne h
  have kn : ∀ b u, H b = some u → b ≠ a := fun b u e => ne_of_none e na
  refine ⟨I.ok, I.os, I.bare, ⟨I.base.keep, I.base.slot, fun b o e n hx => ?_, I.base.there, fun b xs e => ?_, fun b o u e => ?_, fun b ps e => ?_⟩, I.loc, I.cell, ?_, fun x c e => ?_, fun p hp => ?_, ?_, I.len⟩
  · rw [up b (old b o e)]
    exact I.base.free b o e n hx
  · have q := I.base.tups b xs e
    rw [up b (kn _ _ q)]
    exact q
  · have q := I.base.frzs b o u e
    rw [up b (kn _ _ q)]
    exact q
  · obtain ⟨m, q⟩ := I.base.tbls b ps e
    exact ⟨m, by rw [up b (kn _ _ q)]; exact q⟩
  · rw [up _ (Ne.symm nL)]
    exact I.free
  · rw [up _ (nc x c e)]
    exact I.freeC x c e
  · obtain ⟨h1, h2, h3⟩ := I.pin p hp
    exact ⟨h1, by rw [up _ (np p hp)]; exact h2, h3⟩
  · exact I.hok.laidN (fun _ _ q => q) na (xcO_ok ha hz hd)
theorem toSuite {a : Addr} (I : Inv X pins σ H s) : Inv (X.suite a (X.pn ++ pins)) [] σ H s :=
  ⟨I.ok.suite _ _, I.os, I.bare, I.base, I.loc, I.cell, I.free, I.freeC, fun p hp => I.pin p ((List.append_nil (X.pn ++ pins)) ▸ hp), I.hok, I.len⟩
theorem ofSuite {a : Addr} {pn' : List (Addr × Obj)} (I : Inv (X.suite a (X.pn ++ pins)) pn' σ H s) (ok : X.Ok) : Inv X pins σ H s :=
  ⟨ok, I.os, I.bare, I.base, I.loc, I.cell, I.free, I.freeC, fun p hp => I.pin p (List.mem_append_left _ hp), I.hok, I.len⟩
end
/-- what the clause wishes of an exception of the body -/
def wKeep (K : PySem.W.Frag) (c : Value) (i : Nat) (ts : Addr → Value → Option Addr → TS) (Wout : WX) (D : Ends) : WX := fun cls d σ H =>
  ∃ b, PySem.W.exmOne K cls c = some b ∧
    (b = true → ∀ a, H a = none → ts a cls d { nx := fun σ' H' => D.nx (σ'.set i none) H', rt := D.rt, bk := fun σ' H' => D.bk (σ'.set i none) H', ct := fun σ' H' => D.ct (σ'.set i none) H' } (σ.set i (some (.ref a))) (upd H a (XcO cls d a))) ∧
    (b = false → Wout cls d σ H)
section
variable {X : Cx} {x n : Str} {c : Value} {i : Nat} {body suite : List Stmt} {b₀ : Stmt} {np pos pos' : Pos} {tb : WX → TS} {ts : Addr → Value → Option Addr → TS} {Wout : WX}
theorem ps_try_keep (hst : X.stack = X.env :: X.outer) (hex : X.ex = []) (hfr : X.env.frame = some X.env.locals) (hN : X.N.Nodup) (hi : X.N[i]? = some n) (hln : X.env.kindOf n = some .local) (hc : Names X x c) (tk : Takes X Wout)
    (hb : ∀ (W : WX) (pn : List (Addr × Obj)) (xe : Value → Shared → Prop), Takes (X.tr pn xe) W → PassesOwn (model X.prog X.w) X.A X.env xe → PSs (X.tr pn xe) body (tb W))
    (hsu : ∀ (a : Addr) (cls : Value) (d : Option Addr) (pn : List (Addr × Obj)), PSs (X.suite a pn) (b₀ :: suite) (ts a cls d)) :
    PS X (.Try body [.ExceptHandler (some (.Name x np)) (some n) (b₀ :: suite) pos'] [] [] pos) (fun D σ H => tb (wKeep X.K c i ts Wout D) D σ H) := by
  refine ⟨fun pins s σ H D I h => ?_⟩
  have ok := I.ok
  have hfrA : X.A.frames = some (X.env :: X.outer) := ok.frames.trans (by rw [hst])
  let catch_ : Value → Shared → Prop := fun e s₁ => wpAny (model X.prog X.w) X.A (noteFrame e X.env) (fun _ s₂ => wpAny (model X.prog X.w) X.A (setFlight e none) (fun _ s₃ =>
    wpAny (model X.prog X.w) X.A (handleBy e X.env [.ExceptHandler (some (.Name x np)) (some n) (b₀ :: suite) pos']) (SP X pins D) X.xe s₃) X.xe s₂) X.xe s₁
  have takesC : Takes (X.tr (X.pn ++ pins) catch_) (wKeep X.K c i ts Wout D) := by
    intro u s' xx
    obtain ⟨a, B, sI, pins', σ', H', cls, d, rfl, J0, nb, up, sky, na, os, ag, b, hb1, hyes, hno⟩ := xx
    have J : Inv X pins σ' H' sI := J0.ofTry ok
    have nb' : ∀ b o, sI.heap.get? b = some o → b ∉ frs X.stack → B.get? b = some o := nb
    have sk : Sky B (X.env :: X.outer) a (Zc cls d) X.env.locals s'.heap := hst ▸ sky
    show wpAny (model X.prog X.w) X.A (noteFrame (.ref a) X.env) _ _ _
    refine Sky.land Zc.steady hfrA hfr sk fun h3 fl3 up3 => ?_
    have J3 : Inv X pins σ' H' { s' with heap := h3 } := J.landed nb' fl3.1 (up.trans up3) os ag
    obtain ⟨oe3, vs3, he3, hz3, hd3⟩ := fl3.there
    have nfr : a ∉ frs (X.env :: X.outer) := fun hm => by
      obtain ⟨_, o', e', hnf⟩ := fl3.2.2.1.mem hm
      rw [he3] at e'
      cases e'
      exact hnf _ hd3
    have nL : a ≠ X.env.locals := fun z => nfr (List.mem_filterMap.mpr ⟨X.env, List.mem_cons_self, by rw [hfr, z]⟩)
    have nI : sI.heap.get? a = none := by
      cases e : sI.heap.get? a with
      | none => rfl
      | some o =>
        have z := nb' a o e (hst ▸ nfr)
        rw [fl3.2.1] at z
        cases z
    have n0 : X.s_0.heap.get? a = none := by
      cases e : X.s_0.heap.get? a with
      | none => rfl
      | some o =>
        obtain ⟨o', z⟩ := J.base.there a o e (by rw [hex]; exact fun z => nomatch z)
        rw [nI] at z
        cases z
    have npin : ∀ p ∈ X.pn ++ pins, p.1 ≠ a := fun p hp z => by
      have q := (J.pin p hp).1
      rw [z, nI] at q
      cases q
    refine wpAny_handleBy_cons (codeAny_handlers_test ?_) (by intro q; cases q)
    have LT : PySem.W.Looks (model X.prog X.w) h3 (typeOf (.ref a)) cls := fun A Q E s k q => wpAny_typeOf_ref (k _ _ he3) (by rw [hz3.1]; exact q)
    have LM := PySem.W.exm_one (M := model X.prog X.w) J3.kIn LT hb1
    have S3 := toSuite (a := a) J3
    have test : ∀ {Q : Value → Shared → Prop} {E : Value → Shared → Prop}, Q c { s' with heap := h3 } → wpAny (model X.prog X.w) (X.A.mark (some (.ref a))) (eval (.Name x np) X.env) Q E { s' with heap := h3 } := fun {Q E} q => by
      obtain ⟨hg, hdbg, hm | ⟨hm, hv, hnn⟩⟩ := hc
      · exact ld_glob (X := X.suite a (X.pn ++ pins)) S3 hg hm q hdbg
      · exact ld_blt (X := X.suite a (X.pn ++ pins)) S3 hg hm hv q hnn hdbg
    refine test (LM.here ?_)
    cases b with
    | false =>
      show wpAny _ X.A (handleBy (.ref a) X.env []) _ _ _
      refine wpAny_handleBy_nil ?_
      obtain ⟨g1, g2, g3, oe, vs, T, oT, ts', he, hz, hd, h1, hr⟩ := id fl3
      unfold PySem.passOn
      refine wpAny_bind (wpAny_field he hd h1 ?_)
      rw [if_neg (show ¬ ((Value.ref T == Value.none) = true) from by simp)]
      have fin : wpAny (model X.prog X.w) X.A (setFlight (.ref a) X.env.frame) (fun _ s4 => wpAny (model X.prog X.w) X.A (throw (.ref a) : Sem Flow) (SP X pins D) X.xe s4) X.xe { s' with heap := h3 } := by
        rw [hfr]
        exact HandSPX.setFlight_upZ fl3 fun h4 hh4 up4 => wpAny_throw (tk _ _ ⟨a, B, sI, pins, σ', H', cls, d, rfl, J, nb', (up.trans up3).trans up4, .inr (.inr (hst ▸ hh4)), na, os, ag, hno rfl⟩)
      first
        | exact wpAny_bind (wpAny_pure (wpAny_bind fin))
        | exact wpAny_bind fin
    | true =>
      refine codeAny_handlers_suite_as ?_
      refine HandSPX.lands_againZ fl3 fun h4 fl4 up4 => ?_
      have J4 : Inv X pins σ' H' { s' with heap := h4 } := J.landed nb' fl4.1 ((up.trans up3).trans up4) os ag
      obtain ⟨oe4, vs4, he4, hz4, hd4⟩ := fl4.there
      have S4 := toSuite (a := a) (track J4 na he4 hz4 hd4 nL n0 npin)
      refine store_ok (X := X.suite a (X.pn ++ pins)) (v := .ref a) S4 hN hi (.inl hln) rfl (fun s5 S5 => ?_) (.inr hln)
      refine wpAny_mono ((hsu a cls d (X.pn ++ pins)).run [] s5 _ _ _ S5 (hyes rfl a na)) (fun f s6 hsp => ?_) (fun _ _ z => False.elim z)
      have goes : ∀ {σ6 : L2.St} {H6 : Hp} {Q : Shared → Prop}, Inv (X.suite a (X.pn ++ pins)) [] σ6 H6 s6 → (∀ s7, Inv X pins (σ6.set i none) H6 s7 → Q s7) →
          wpAny (model X.prog X.w) X.A (do bindName X.env n .none; unbindBehindTheSuite X.env n pos') (fun _ s7 => Q s7) X.xe s6 := fun {σ6 H6 Q} S6 hq => gone_ok (ofSuite S6 ok) hN hi hln hq
      cases f with
      | next =>
        obtain ⟨σ6, H6, S6, q6⟩ := hsp
        exact goes S6 fun s7 J7 => ⟨_, _, J7, q6⟩
      | brk =>
        obtain ⟨σ6, H6, S6, q6⟩ := hsp
        exact goes S6 fun s7 J7 => ⟨_, _, J7, q6⟩
      | cont =>
        obtain ⟨σ6, H6, S6, q6⟩ := hsp
        exact goes S6 fun s7 J7 => ⟨_, _, J7, q6⟩
      | ret u =>
        obtain ⟨v6, σ6, H6, S6, r6, q6⟩ := hsp
        exact goes S6 fun s7 J7 => ⟨_, _, _, J7, r6, q6⟩
  refine wpAny_Try_except (wpAny_mono ((hb _ (X.pn ++ pins) catch_ takesC PassesOwn.looking).run [] s σ H D (I.toTry _) h) (fun f s1 hsp => ?_) (fun e s1 he => he))
  cases f with
  | next =>
    obtain ⟨σ', H', J', q⟩ := hsp
    exact wpAny_execs_nil ⟨σ', H', J'.ofTry ok, q⟩
  | brk =>
    obtain ⟨σ', H', J', q⟩ := hsp
    exact ⟨σ', H', J'.ofTry ok, q⟩
  | cont =>
    obtain ⟨σ', H', J', q⟩ := hsp
    exact ⟨σ', H', J'.ofTry ok, q⟩
  | ret u =>
    obtain ⟨v, σ', H', J', r, q⟩ := hsp
    exact ⟨v, σ', H', J'.ofTry ok, r, q⟩
end
/-! ### isinstance of a caught exception; its fields -/
/-- the exception's own dict stands where its object says -/
def HasXd (H : Hp) (d : Option Addr) : Prop := ∃ (dd : Addr) (fs : List (Str × V)), d = some dd ∧ H dd = some (.xd fs)
def rIsX (K : PySem.W.Frag) : List V → Hp → VK → Prop := fun xs H Q => ∃ (a D : Addr) (d : Option Addr) (c : V) (cv : Value) (b : Bool), xs = [.ref a, c] ∧ H a = some (XcO (.ref D) d a) ∧ HasXd H d ∧ ExcC K D ∧ (∀ u, RelV c u → u = cv) ∧ PySem.W.kitOne K (.ref D) cv = some b ∧ Q (.bl b) H
theorem xc_inst {X : Cx} {pins : List (Addr × Obj)} {σ : L2.St} {H : Hp} {s : Shared} {a D : Addr} {d : Option Addr} (I : Inv X pins σ H s) (e : H a = some (XcO (.ref D) d a)) (hx : HasXd H d) : ∃ (oe od : Obj), PySem.W.InstAt s.heap a oe D (some od) := by
  obtain ⟨oe, vs, he, hz, hd⟩ := xcO_at I.hok e
  obtain ⟨dd, fs, rfl, hdd⟩ := hx
  have x : ObjOk X.prog X.w H s.heap dd (.xd fs) := I.hok dd _ hdd
  obtain ⟨mA, ⟨od, es, ep, ho, _⟩, _⟩ := x
  exact ⟨oe, od, he, hz.1, by unfold PySem.W.notCls; rw [hd], by rw [hz.2]; exact ho⟩
theorem call_isX {X : Cx} : CallR X (.builtin "isinstance") (rIsX X.K) := by
  intro pins s σ H xs us Q I r h
  obtain ⟨a, D, d, c, cv, b, rfl, ha, hx, T, hcv, e, q⟩ := h
  cases r with
  | @cons _ u0 _ ur rx rr => cases rr with
  | @cons _ u1 _ ur2 rt rr =>
  cases rr
  obtain rfl : u0 = Value.ref a := rx
  have ec := hcv _ rt
  subst ec
  obtain ⟨oe, od, J⟩ := xc_inst I ha hx
  have hcl : (PySem.W.clsIn X.K D).isSome = true := by
    have z := T.hd
    unfold PySem.W.hasDictIn at z
    cases q : PySem.W.clsIn X.K D with
    | none =>
      rw [q] at z
      cases z
    | some cd => rfl
  exact PySem.W.kia_one (PySem.W.kitx_exc hcl T.hg T.hk T.hs T.ha T.hn T.ht T.hm) I.kIn J e (fun z => nomatch z) fun tk => ⟨.bl b, H, I.kept (t' := tk) fun _ _ z => z, rfl, q⟩
/-- e.n of a caught exception -/
def tXcf (K : PySem.W.Frag) (n : Str) (te : TE) : TE := fun σ H Q => te σ H fun x H1 => ∃ (a C dd : Addr) (fs : List (Str × V)) (v : V), x = .ref a ∧ H1 a = some (XcO (.ref C) (some dd) a) ∧ XfC K C ∧ PySem.W.findIn K (.ref C) n = some none ∧ H1 dd = some (.xd fs) ∧ fs.lookup n = some v ∧ Q v H1
theorem pe_xcf {X : Cx} {e : Expr} {te : TE} {pos : Pos} {n : Str} (he : PE X e te) (hb : attributeBase e n X.env (eval e X.env) = eval e X.env := by rfl) : PE X (.Attribute e n pos) (tXcf X.K n te) := by
  refine ⟨fun pins s σ H Q I h => ?_⟩
  refine attr_of hb (thn (he.run pins s σ H _ I h) fun u s1 hh => ?_)
  obtain ⟨x, H1, I1, rx, a, C, dd, fs, v, ex, ha, T, hno, hdd, l, q⟩ := hh
  subst ex
  obtain rfl : u = Value.ref a := rx
  obtain ⟨oe, vs, hoe, hz, hd⟩ := xcO_at I1.hok ha
  have x : ObjOk X.prog X.w H1 s1.heap dd (.xd fs) := I1.hok dd _ hdd
  obtain ⟨mA, hns, hr⟩ := x
  obtain ⟨od, ho, hl⟩ := lookIn_ns hns
  obtain ⟨u, hu, ru⟩ := RelO.some_of (v := v) (o := mA n) (by rw [← l]; exact hr n)
  have J : PySem.W.InstAt s1.heap a oe C (some od) := ⟨hoe, hz.1, by unfold PySem.W.notCls; rw [hd], by rw [hz.2]; exact ho⟩
  exact HandSPX.exc_get I1.kIn J T.ga T.gg T.exC (PySem.W.findObj_own T.hdC hno rfl (by rw [hl, hu])) (handed_of ru) ⟨v, H1, I1.tok _, ru, q⟩
end GB

set_option Elab.async false
set_option linter.all false
set_option maxRecDepth 100000
set_option maxHeartbeats 4000000
/-! a lambda with or without a defaulted parameter, handed to a def that calls it -/
namespace GC
open PySem PySem.Spec PyProof.Rows L2 LamX
abbrev dfn (qual : Str) (params : Arguments) (body : Expr) (scope : Scope) (cl : List (Str × Addr)) (pm cdv ct dV : Value) : FuncData :=
  { PySem.W.kla_fn "<lambda>" qual params body scope cl pm cdv ct with defaults := dV }
abbrev dobj (qual : Str) (params : Arguments) (body : Expr) (scope : Scope) (cl : List (Str × Addr)) (pm cdv ct dV : Value) : Obj := { cls := .type "function", data := .func (dfn qual params body scope cl pm cdv ct dV) }
/-- the defaults' values and the word that stands for them -/
def DvAt (h : Heap) (ds : List Value) (dV : Value) : Prop := (ds = [] ∧ dV = .none) ∨ ∃ T : Addr, ds.isEmpty = false ∧ dV = .ref T ∧ h.get? T = some { cls := .type "tuple", data := .seq ds.toArray }
theorem DvAt.keeps {h h' : Heap} {ds : List Value} {dV : Value} (x : DvAt h ds dV) (k : ∀ b o, h.get? b = some o → h'.get? b = some o) : DvAt h' ds dV := by
  rcases x with x | ⟨T, a, b, c⟩
  · exact .inl x
  · exact .inr ⟨T, a, b, k _ _ c⟩
section
variable {M : Model} {A : Around} {E : Value → Shared → Prop} {s : Shared} {qual : Str} {params : Arguments} {body : Expr} {scope : Scope} {env : Env} {c P : Addr} {ps : Array Value} {pos : Pos} {mg : Str → Option Value} {clos : List (Str × Addr)} {dV : Value} {Q : Value → Shared → Prop}
/-- the function object: its code object is new, or found -/
theorem tail_ok (hcl : closureFor scope env = pure clos) (hge : env.globals = mainGlobals) (hg : s.heap.Ns mainGlobals mg) (hcode : env.code = .ref c) (C : PySem.W.CodeHd s.heap c P) (hP : s.heap.get? P = some (PySem.W.tabObj ps)) (ht : TriplesOk ps.toList)
    (hit : ∀ cv, codeAmong pos ps.toList = some cv → ∃ c', cv = .ref c') (hgP : mainGlobals ≠ P) (hb : s.heap.BuiltinsAt mg P)
    (h : ∀ (c' : Addr) (ctv : Value) (h' : Heap) (tk : Nat) (more : Array Value), Heap.ExtBut P s.heap h' → s.heap.objs.size ≤ h'.objs.size → h'.get? P = some (PySem.W.tabObj (ps ++ more)) →
      ((more = #[] ∧ codeAmong pos ps.toList = some (.ref c')) ∨ (more = #[rawInt pos.line, rawInt pos.col, .ref c'] ∧ s.heap.objs.size ≤ c' ∧ c' < h'.objs.size ∧ h'.CodeRec (.ref c') qual)) →
      Q (.ref h'.objs.size) { s with heap := h'.push (dobj qual params body scope clos ((mg "__name__").getD .none) (.ref c') ctv dV), toks := tk }) :
    wpAny M A (makeTail "<lambda>" qual params (.expr body) scope env dV .none none pos pos.line) Q E s := by
  obtain ⟨bm, ob, hbm, hne0, _, hneP, hbo, hcls, hdict, hdata⟩ := hb
  -- behind the closure's tuple
  have step : ∀ (ctv : Value) (s1 : Shared), (∀ b o, s.heap.get? b = some o → s1.heap.get? b = some o) → s.heap.objs.size ≤ s1.heap.objs.size → s1.gens = s.gens → s1.drawn = s.drawn → s1.os = s.os →
      wpAny M A (do
        let code ← functionCode env pos pos.line "<lambda>" qual params scope (.expr body)
        let bs ← builtinsFor mainGlobals env.builtins
        let nm ← nsGet mainGlobals "__name__"
        let doc ← (pure .none : Sem Value)
        newObj (.type "function") (.func { name := "<lambda>", qualname := qual, params, body := .expr body, scope, globals := mainGlobals, closure := clos, closureTuple := ctv, code := code, builtins := bs, defaults := dV, kwdefaults := .none, annotations := none, pyModule := nm.getD .none, doc := doc })) Q E s1 := by
    intro ctv s1 k1 sz1 eg ed eo
    have hP1 := k1 _ _ hP
    have C1 := C.keeps k1
    have hg1 := hg.keeps k1
    cases hc : codeAmong pos ps.toList with
    | none =>
      refine wpAny_bind (wpAny_functionCodeX hcode (C1.code hP1 ht) (C1.tab hP1) hc fun c' h' tk hx hge' hlt _ hrec htb _ => ?_)
      refine wpAny_bind (wpAny_builtinsFor (hg1.extBut hx hgP) hbm hne0 (hx _ _ hneP (k1 _ _ hbo)) hcls hdict hdata ?_)
      refine wpAny_bind (wpAny_nsGet (hg1.extBut hx hgP) (wpAny_bind (wpAny_pure (wpAny_newObj_type ?_ (by size_fits)))))
      obtain ⟨hh, g, d, t, os⟩ := s1
      subst eg ed eo
      exact h c' ctv h' tk _ (fun b o nb e => hx b o nb (k1 b o e)) (Nat.le_trans sz1 (Nat.le_trans hge' (Nat.le_of_lt hlt))) htb.2 (.inr ⟨rfl, Nat.le_trans sz1 hge', hlt, hrec⟩)
    | some cv =>
      obtain ⟨c', rfl⟩ := hit cv hc
      refine wpAny_bind (wpAny_functionCode_hit hcode (C1.code hP1 ht) hc ?_)
      refine wpAny_bind (wpAny_builtinsFor hg1 hbm hne0 (k1 _ _ hbo) hcls hdict hdata ?_)
      refine wpAny_bind (wpAny_nsGet hg1 (wpAny_bind (wpAny_pure (wpAny_newObj_type ?_ (by size_fits)))))
      obtain ⟨hh, g, d, t, os⟩ := s1
      subst eg ed eo
      exact h c' ctv hh t #[] (fun b o _ e => k1 b o e) sz1 (by rw [Array.append_empty]; exact hP1) (.inl ⟨rfl, hc⟩)
  unfold makeTail
  rw [hcl, hge]
  refine wpAny_bind (wpAny_pure ?_)
  cases clos with
  | nil => exact wpAny_bind (wpAny_pure (step .none s (fun _ _ e => e) (Nat.le_refl _) rfl rfl rfl))
  | cons q r =>
    refine wpAny_bind (wpAny_newTextTuple ?_)
    exact step _ _ (fun b o e => Heap.get?_push_of_some _ e) (by rw [Heap.size_push]; omega) rfl rfl rfl
end
/-! ### the lambda's names -/
structure LamG (X : Cx) (scope : Scope) : Prop where
  kind : scope.kind = .function
  co : scope.isCoroutine = false
  gen : scope.isGenerator = false
  own : ∀ y ∈ scope.names, y.2 ≠ .cell ∧ (y.2 = .local → y.1 ∉ X.N)
  free : ∀ y ∈ scope.names, y.2 = .free → X.env.scope.names.lookup y.1 = some .cell ∨ X.env.scope.names.lookup y.1 = some .free
def lamGB (N : List Str) (sc scope : Scope) : Bool :=
  decide (scope.kind = .function) && (!scope.isCoroutine && (!scope.isGenerator && scope.names.all fun y => !decide (y.2 = .cell) && ((!decide (y.2 = .local) || !decide (y.1 ∈ N)) && (!decide (y.2 = .free) || (decide (sc.names.lookup y.1 = some .cell) || decide (sc.names.lookup y.1 = some .free))))))
theorem lamG_by {X : Cx} {scope : Scope} (h : lamGB X.N X.env.scope scope = true) : LamG X scope := by
  unfold lamGB at h
  simp only [Bool.and_eq_true, Bool.or_eq_true, Bool.not_eq_true', decide_eq_true_eq, decide_eq_false_iff_not, List.all_eq_true] at h
  obtain ⟨h1, h2, h3, h4⟩ := h
  refine ⟨h1, h2, h3, fun y hy => ⟨(h4 y hy).1, fun e => ?_⟩, fun y hy e => ?_⟩
  · rcases (h4 y hy).2.1 with z | z
    · exact absurd e z
    · exact z
  · rcases (h4 y hy).2.2 with z | z
    · exact absurd e z
    · exact z
theorem LamG.has {X : Cx} {scope : Scope} (L : LamG X scope) (ok : X.Ok) : ∀ y ∈ scope.names, y.2 = .free → ∃ c, X.env.cells.lookup y.1 = some c := fun y hy e => by
  rcases L.free y hy e with k | k
  · exact ok.has _ (.inl k)
  · exact ok.has _ (.inr k)
section
variable {X : Cx} {pins : List (Addr × Obj)} {σ : L2.St} {H HZ : Hp} {s s1 : Shared}
/-- the lambda is made at s: f its object, from s' on -/
theorem made {T : List (Addr × Str)} {c P : Addr} {params : Arguments} {body : Expr} {scope : Scope} {pos : Pos} {E : Value → Shared → Prop} {Q : Value → Shared → Prop} {n : Nat} (I : Inv X pins σ H s) (TB : TabB X.base X.mg c P) (hcode : X.env.code = .ref c)
    (hm : (P, X.env.qual ++ "<lambda>") ∈ T) (hu : ∀ p ∈ T, p.1 = P → p.2 = X.env.qual ++ "<lambda>") (hT : Tabs T H) (hfree : ∀ y ∈ scope.names, y.2 = .free → ∃ c, X.env.cells.lookup y.1 = some c)
    (hev : ∀ (Q' : Value → Shared → Prop), (∀ (ds : List Value) (t : Nat), ds.length = n → wpAny (model X.prog X.w) X.A (makeFunction "<lambda>" (X.env.qual ++ "<lambda>") params (.expr body) scope X.env ds [] [] pos pos.line) Q' E { s with toks := t }) → wpAny (model X.prog X.w) X.A (eval (.Lambda params body scope pos) X.env) Q' E s)
    (h : ∀ (ds : List Value) (f c' : Addr) (pm ctv dV : Value) (H1 : Hp) (s' : Shared), ds.length = n → Inv X pins σ H1 s' → ExtN H H1 → Tabs T H1 → (∀ b, H1 b = none → H b = none) → DvAt s'.heap ds dV → (∀ T' : Addr, dV = .ref T' → H1 T' = none ∧ T' ∉ frs X.stack) →
      s'.heap.get? f = some (dobj (X.env.qual ++ "<lambda>") params body scope (cloFrom X.env.cells scope.names []) pm (.ref c') ctv dV) → H1 f = none → f ∉ frs X.stack → H1 c' = some (CodeO c' (X.env.qual ++ "<lambda>")) → Q (.ref f) s') :
    wpAny (model X.prog X.w) X.A (eval (.Lambda params body scope pos) X.env) Q E s := by
  refine hev _ fun ds t hn => ?_
  have nofr : ∀ {u : Shared} {f : Addr}, Inv X pins σ H u → u.heap.objs.size ≤ f → f ∉ frs X.stack := fun {u f} J hf z => by
    rcases List.mem_cons.mp (J.stkSub _ z) with e | e
    · have h1 := J.lt
      rw [← e] at h1
      exact Nat.lt_irrefl _ (Nat.lt_of_lt_of_le h1 hf)
    · exact J.nofs hf e
  -- behind the defaults' tuple
  have go : ∀ (dV : Value) (u : Shared), Inv X pins σ H u → DvAt u.heap ds dV → (∀ T' : Addr, dV = .ref T' → H T' = none ∧ T' ∉ frs X.stack ∧ T' < u.heap.objs.size) →
      wpAny (model X.prog X.w) X.A (makeTail "<lambda>" (X.env.qual ++ "<lambda>") params (.expr body) scope X.env dV .none none pos pos.line) Q E u := by
    intro dV u J hD hdT
    obtain ⟨ps, hP, ht, ha⟩ := hT _ hm
    have hP' : u.heap.get? P = some { cls := .none, data := .fields ps } := J.hok P _ hP
    refine tail_ok (mg := X.mg) (c := c) (P := P) (ps := ps) (closure_ok hfree) J.ok.glob (J.mod.glob.keeps J.bk) hcode (TB.code.keeps J.bk) hP' ht (fun cv e => (ha pos cv e).imp fun _ q => q.1) TB.gP (TB.bm.keeps J.bk) fun c' ctv h' tk more hx hsz htb hcase => ?_
    have fobj := Heap.get?_push_size h' (o := dobj (X.env.qual ++ "<lambda>") params body scope (cloFrom X.env.cells scope.names []) ((X.mg "__name__").getD .none) (.ref c') ctv dV) rfl
    have kD : ∀ (T' : Addr), dV = .ref T' → T' ≠ P := fun T' e z => by
      have q := (hdT T' e).1
      rw [z, hP] at q
      cases q
    have hD' : DvAt (h'.push (dobj (X.env.qual ++ "<lambda>") params body scope (cloFrom X.env.cells scope.names []) ((X.mg "__name__").getD .none) (.ref c') ctv dV)) ds dV := by
      rcases hD with z | ⟨T', z1, z2, z3⟩
      · exact .inl z
      · exact .inr ⟨T', z1, z2, Heap.get?_push_of_some _ (hx _ _ (kD T' z2) z3)⟩
    rcases hcase with ⟨rfl, hc⟩ | ⟨rfl, hge, hlt, hrec⟩
    · obtain ⟨c2, e2, hco⟩ := ha pos _ hc
      cases e2
      have kk : ∀ b o, u.heap.get? b = some o → h'.get? b = some o := fun b o e => by
        by_cases hb : b = P
        · rw [hb, hP'] at e
          rw [hb, htb, Array.append_empty]
          exact e
        · exact hx b o hb e
      have I1 : Inv X pins σ H { u with heap := h'.push (dobj (X.env.qual ++ "<lambda>") params body scope (cloFrom X.env.cells scope.names []) ((X.mg "__name__").getD .none) (.ref c') ctv dV), toks := tk } := J.kept fun b o e => Heap.get?_push_of_some _ (kk b o e)
      exact h ds _ c' _ ctv dV H _ hn I1 (ExtN.refl H) hT (fun _ e => e) hD' (fun T' e => ⟨(hdT T' e).1, (hdT T' e).2.1⟩) fobj (J.hok.fresh hsz) (nofr J hsz) hco
    · obtain ⟨c2, oc, vs, t2, e2, hoc, hd, hv⟩ := hrec
      cases e2
      have nC : H c' = none := J.hok.fresh hge
      have I1 := inv_table (t' := tk) (q := X.env.qual ++ "<lambda>") (more := #[rawInt pos.line, rawInt pos.col, .ref c']) (h' := h'.push (dobj (X.env.qual ++ "<lambda>") params body scope (cloFrom X.env.cells scope.names []) ((X.mg "__name__").getD .none) (.ref c') ctv dV)) J hP
        (fun b o hb e => Heap.get?_push_of_some _ (hx b o hb e)) (Heap.get?_push_of_some _ htb) hge ⟨oc, vs, t2, Heap.get?_push_of_some _ hoc, hd, hv⟩
      have hE : ExtN H (upd (upd H P (.tbl (ps ++ #[rawInt pos.line, rawInt pos.col, .ref c']))) c' (CodeO c' (X.env.qual ++ "<lambda>"))) := fun b o e nt => by
        rw [upd_ne (ne_of_none e nC), upd_ne (fun z => nt ps (Option.some.inj (e.symm.trans (by rw [z]; exact hP))))]
        exact e
      have eL : (ps ++ #[rawInt pos.line, rawInt pos.col, .ref c']).toList = ps.toList ++ [rawInt pos.line, rawInt pos.col, .ref c'] := by simp
      have up : ∀ b, b ≠ c' → b ≠ P → upd (upd H P (.tbl (ps ++ #[rawInt pos.line, rawInt pos.col, .ref c']))) c' (CodeO c' (X.env.qual ++ "<lambda>")) b = H b := fun b e1 e2 => by rw [upd_ne e1, upd_ne e2]
      refine h ds _ c' _ ctv dV _ _ hn I1 hE (fun p hp => ?_) (fun b e => ?_) hD' (fun T' e => ⟨?_, (hdT T' e).2.1⟩) fobj ?_ (nofr J hsz) upd_same
      · by_cases hb : p.1 = P
        · rw [hu p hp hb, hb]
          refine ⟨_, by rw [upd_ne (ne_of_none hP nC), upd_same], by rw [eL]; exact PySem.TriplesOk_snoc _ _ _ _ ht, fun p' cv hcv => ?_⟩
          rw [eL] at hcv
          rcases among_app _ ht hcv with z | z
          · obtain ⟨c0, e1, e2⟩ := ha p' cv z
            exact ⟨c0, e1, hE _ _ e2 codeO_ne⟩
          · exact ⟨c', z, upd_same⟩
        · obtain ⟨ps', a1, a2, a3⟩ := hT p hp
          refine ⟨ps', by rw [up _ (ne_of_none a1 nC) hb]; exact a1, a2, fun p' cv hcv => ?_⟩
          obtain ⟨c0, e1, e2⟩ := a3 p' cv hcv
          exact ⟨c0, e1, hE _ _ e2 codeO_ne⟩
      · by_cases h1 : b = c'
        · rw [h1, upd_same] at e
          cases e
        · by_cases h2 : b = P
          · rw [h2, upd_ne (ne_of_none hP nC), upd_same] at e
            cases e
          · rw [up b h1 h2] at e
            exact e
      · have h1 : T' ≠ c' := Nat.ne_of_lt (Nat.lt_of_lt_of_le (hdT T' e).2.2 hge)
        rw [up T' h1 (kD T' e)]
        exact (hdT T' e).1
      · rw [up _ (Nat.ne_of_gt hlt) (Nat.ne_of_gt (Nat.lt_of_lt_of_le (Heap.lt_size hP') hsz))]
        exact J.hok.fresh hsz
  have I' : Inv X pins σ H { s with toks := t } := I.tok t
  rw [makeFunction_eq]
  simp only [List.zip_nil_right, List.filterMap_nil, List.isEmpty_nil, if_true, pure_bind]
  cases hds : ds.isEmpty with
  | true =>
    have e0 : ds = [] := List.isEmpty_iff.mp hds
    simp only [if_true, pure_bind]
    exact go .none _ I' (.inl ⟨e0, rfl⟩) (fun T' e => by cases e)
  | false =>
    simp only [Bool.false_eq_true, if_false]
    refine wpAny_bind (wpAny_newTextTuple ?_)
    have I2 : Inv X pins σ H { s with heap := s.heap.push { cls := .type "tuple", data := .seq ds.toArray }, toks := t } := I.kept fun b o e => Heap.get?_push_of_some _ e
    refine go (.ref s.heap.objs.size) _ I2 (.inr ⟨_, hds, rfl, Heap.get?_push_at rfl rfl⟩) (fun T' e => ?_)
    cases e
    exact ⟨I.hok.fresh (Nat.le_refl _), nofr I (Nat.le_refl _), by show s.heap.objs.size < (s.heap.push _).objs.size; rw [Heap.size_push]; omega⟩
end
/-! ### the lambda called -/
/-- how its parameters are bound where no argument is given -/
def BindD (qual : Str) (params : Arguments) (body : Expr) (scope : Scope) (n : Nat) : Prop := ∀ (cl : List (Str × Addr)) (pm cdv ct dV : Value) (ds : List Value) (s : Shared), ds.length = n → DvAt s.heap ds dV →
  ∃ bs : List (Str × Value), (∀ y ∈ bs, scope.names.lookup y.1 = some .local) ∧ BindsTo s (dfn qual params body scope cl pm cdv ct dV) ⟨[], []⟩ bs
section
variable {X : Cx} {pins : List (Addr × Obj)} {σ : L2.St} {H HZ : Hp} {s s1 : Shared}
theorem lam_in {A : Around} {outer : List Env} {E : XK} {scope : Scope} {f c' : Addr} {h₁ : Heap} {tk : Nat} {bs : List (Str × Value)} (I : Inv X pins σ H s) (L : LamG X scope) (e0 : Env0 X.prog X.w X.K X.mg X.base A outer s1 HZ) (hd : A.handled = none)
    (un : Un (frs X.stack) [] H HZ s.heap s1.heap) (hns : h₁.Ns s1.heap.objs.size fun y => bs.reverse.lookup y) (kp : ∀ b o, s1.heap.get? b = some o → h₁.get? b = some o) :
    Inv (lamCx X A outer s1 HZ E scope f c') [] σ HZ { s1 with heap := h₁, toks := tk } := by
  have hfree := L.has I.ok
  have cm : ∀ {y c}, (cloFrom X.env.cells scope.names []).lookup y = some c → X.env.cells.lookup y = some c := fun {y c} e => by
    rcases cloFrom_mem (PySem.mem_of_lookup e) with hm | ⟨h1, h2⟩
    · cases hm
    · obtain ⟨c1, hc⟩ := hfree _ h1 rfl
      have hc : X.env.cells.lookup y = some c1 := hc
      rw [show c = c1 from by rw [h2, hc]; rfl]
      exact hc
  have look : ∀ {y}, scope.names.lookup y = some .free → ∃ c, (cloFrom X.env.cells scope.names []).lookup y = some c := fun {y} hl => by
    have hy : (y, NameKind.free) ∈ scope.names := PySem.mem_of_lookup hl
    exact mem_lookup (cloFrom_has (cells := X.env.cells) (acc := []) hy)
  have cellK : ∀ {c : Addr} {v : Option Value}, H c = none → s.heap.IsCell c v → h₁.IsCell c v := fun {c v} n ⟨o, ho, hv⟩ => by
    obtain ⟨sl, q⟩ := un.any ho n (by simp)
    exact ⟨_, kp _ _ q, hv⟩
  have nothing : ∀ b : Addr, b ∉ (lamCx X A outer s1 HZ E scope f c').ex := fun b z => nomatch (show b ∈ ([] : List Addr) from z)
  refine ⟨⟨e0.mod, L.kind, rfl, rfl, Nat.le_refl _, fun y z c e1 e2 => I.ok.inj y z c (cm e1) (cm e2), fun y hy => ?_, fun y c z _ => (nomatch (show false = true from z)), fun _ => hd, Around.frames_deeper e0.frames, .inr ⟨rfl, rfl⟩, fun b z => absurd z (nothing b), e0.bs, e0.bsz, fun b _ _ => nothing b,
      fun b z => absurd z (nothing b), e0.funs, e0.frf⟩,
    rfl, e0.bare, Un.kept kp, ⟨_, hns, fun i y v e1 e2 e3 => ?_⟩, fun y c e => ?_, e0.hok.fresh (Nat.le_refl _), fun y c e => ?_, fun q hq => (nomatch (show q ∈ ([] : List (Addr × Obj)) from hq)), e0.hok.kept kp, I.len⟩
  · have hy : scope.names.lookup y = some .cell ∨ scope.names.lookup y = some .free := hy
    rcases hy with hy | hy
    · exact absurd rfl (L.own _ (PySem.mem_of_lookup hy)).1
    · exact look hy
  · have e3 : Vis scope y := e3
    have e1 : X.N[i]? = some y := e1
    rcases e3 with k | k | k
    · exact absurd (List.mem_of_getElem? e1) ((L.own _ (PySem.mem_of_lookup k)).2 rfl)
    · exact absurd rfl (L.own _ (PySem.mem_of_lookup k)).1
    · obtain ⟨m, hn, hl⟩ := I.loc
      have hfr := L.free _ (PySem.mem_of_lookup k) rfl
      have hfr : X.env.scope.names.lookup y = some .cell ∨ X.env.scope.names.lookup y = some .free := hfr
      obtain ⟨w', r, q⟩ := hl i y v e1 e2 (.inr hfr)
      obtain ⟨c2, h2⟩ := look k
      refine ⟨w', r, .inr ⟨.inr k, c2, h2, ?_⟩⟩
      have c1 := cm h2
      rcases q with ⟨k', _⟩ | ⟨_, c3, e', z⟩
      · have k' : X.env.scope.names.lookup y = some .local := k'
        rcases hfr with k2 | k2 <;> rw [k2] at k' <;> cases k'
      · rw [c1] at e'
        cases e'
        exact cellK (I.freeC y _ c1) z
  · obtain ⟨w', z⟩ := I.cell y c (cm e)
    exact ⟨w', cellK (I.freeC y c (cm e)) z⟩
  · obtain ⟨v, o, ho, hv⟩ := I.cell y c (cm e)
    exact un.free c o ho (I.freeC y c (cm e)) (by simp)
/-- ask(), in the def that got the lambda -/
theorem pe_ask {CXg : CXT} {Eg : XK} {Ng : List Str} {qg : Str} {sg : Scope} {g f c' : Addr} {cdg pm ctv dV : Value} {ds : List Value} {n : Nat} {params : Arguments} {body : Expr} {scope : Scope} {k i : Nat} {a : Str} {pn : List (Addr × Obj)} {xe : Value → Shared → Prop} {W : WX} {E : L2.St → XK} {tb : XK → TE} {p1 p2 : Pos}
    (I : Inv X pins σ H s) (L : LamG X scope) (hn : ds.length = n) (hD : DvAt s.heap ds dV) (hDT : ∀ T' : Addr, dV = .ref T' → H T' = none ∧ T' ∉ frs X.stack) (hf : s.heap.get? f = some (dobj (X.env.qual ++ "<lambda>") params body scope (cloFrom X.env.cells scope.names []) pm (.ref c') ctv dV)) (hfn : H f = none) (hfr : f ∉ frs X.stack)
    (hbind : BindD (X.env.qual ++ "<lambda>") params body scope n)
    (tk : Takes ((cxOf CXg X.prog X.w X.K X.mg X.base Ng qg sg g cdg X.A X.stack s H Eg).tr pn xe) W) (hW : ∀ cls d σ' H', E σ' cls d H' → W cls d σ' H') (hr : Room (k + 1) (X.A.deeper (envOfC qg sg s.heap.objs.size g cdg)))
    (hbody : ∀ (A : Around) (outer : List Env) (s : Shared) (H : Hp) (E : XK), Room k (A.deeper (lamEnv X scope s.heap.objs.size f c')) → PE (lamCx X A outer s H E scope f c') body (tb E))
    (hN : Ng[i]? = some a) (hv : Vis sg a) (hd : (a == ("__debug__" : Str)) = false := by decide) (hcd : (a == ("__classdict__" : Str)) = false := by decide) :
    PE ((cxOf CXg X.prog X.w X.K X.mg X.base Ng qg sg g cdg X.A X.stack s H Eg).tr pn xe) (.Call (.Name a p1) [] [] p2)
      (fun σZ HZ Q => σZ[i]? = some (some (.ref f)) ∧ HZ c' = some (CodeO c' (X.env.qual ++ "<lambda>")) ∧ tb (E σZ) σ HZ Q) := by
  refine ⟨fun pinsZ sZ σZ HZ Q IZ h => ?_⟩
  obtain ⟨hs, hc, ht⟩ := h
  refine wpAny_Call_Name_kw (thn ((pe_var (pos := p1) (i := i) hN hv hd hcd).run pinsZ sZ σZ HZ (fun v H1 => v = .ref f ∧ H1 = HZ) IZ ⟨.ref f, hs, rfl, rfl⟩) fun u s1 ⟨v, H1, I1, r1, q1⟩ => ?_)
  obtain ⟨ev, eH⟩ := q1
  subst ev
  rw [eH] at I1
  obtain rfl : u = Value.ref f := r1
  have un : Un (frs X.stack) [] H HZ s.heap s1.heap := I1.base
  have of1 := un.keep f _ hf hfn hfr (by simp)
  have hD1 : DvAt s1.heap ds dV := by
    rcases hD with z | ⟨T', z1, z2, z3⟩
    · exact .inl z
    · exact .inr ⟨T', z1, z2, un.keep T' _ z3 (hDT T' z2).1 (hDT T' z2).2 (by simp)⟩
  refine PySem.W.callWith_F0 ⟨_, _, _, _, of1⟩ ?_
  have hok : ObjOk X.prog X.w HZ s1.heap c' (CodeO c' (X.env.qual ++ "<lambda>")) := I1.hok c' _ hc
  obtain ⟨⟨oc, vs, t, hoc, hdc, hvc⟩, _, _⟩ := hok
  obtain ⟨bs, hloc, hbs⟩ := hbind (cloFrom X.env.cells scope.names []) pm (.ref c') ctv dV ds s1 hn hD1
  have rc : codeAny (model X.prog X.w) (X.A.deeper (envOfC qg sg s.heap.objs.size g cdg)) (.call (.ref f) ⟨[], []⟩) (CR (L2.CX X.prog X.w) (envOfC qg sg s.heap.objs.size g cdg :: X.stack) X.prog X.w HZ s1 Q (E σZ)) s1 := by
    refine PySem.W.kla_callFunE hr.depth of1 rfl L.co L.gen rfl ⟨c', oc, vs, t, rfl, hoc, hdc, hvc⟩ (hbs _ _ _ _ ?_)
    refine wpAny_newFunctionEnv (fun y hy => (L.own y hy).1) hloc (fun h₁ hns hsb => ⟨I1.nolimit.fresh _ hsb, ?_⟩) L.kind
    show codeAny _ _ (.expr body (lamEnv X scope s1.heap.objs.size f c')) _ _
    have kp : ∀ b o, s1.heap.get? b = some o → h₁.get? b = some o := fun b o e => hsb.extBut b o (Nat.ne_of_lt (Heap.lt_size e)) (Heap.get?_push_of_some _ e)
    have J := lam_in (A := X.A.deeper (envOfC qg sg s.heap.objs.size g cdg)) (outer := envOfC qg sg s.heap.objs.size g cdg :: X.stack) (E := E σZ) (f := f) (c' := c') (tk := s1.toks + bs.length) I L I1.env0 hr.hd un hns kp
    refine PySem.W.kla_codeExpr (wpAny_mono ((hbody _ _ s1 HZ (E σZ) (hr.deeper _)).run [] _ _ HZ Q J ht) (fun v s' hq => ?_) fun e s' hq => hq)
    obtain ⟨w', H', J', rv, q⟩ := hq
    exact ⟨w', H', J'.os, J'.bare, J'.base, J'.hok, rv, q⟩
  refine wpAny_call (codeAny_mono rc fun r s' hq => ?_)
  cases r with
  | error e => exact tk e s' (XE.of_call I1 (fun cls d H' h => hW cls d σZ H' h) hq)
  | ok fl =>
    cases fl with
    | ret u => exact I1.after hq
    | next => exact False.elim hq
    | brk => exact False.elim hq
    | cont => exact False.elim hq
end
/-- LamX.GivesTo, where what is wished of an exception may look at the slots -/
def GivesS (X : Cx) (Ng : List Str) (x : Str) (sg : Scope) (g : Addr) (cdg : Value) (bg : List Stmt) (a : Str) (q : Str) (TT : (XK → Hp → VK → Prop) → Hp → VK → Prop) : Prop :=
  ∀ (f c' : Addr) (s : Shared) (H : Hp) (Q : VK) (tl : XK → Hp → VK → Prop),
    (∀ (W : WX) (pn : List (Addr × Obj)) (xe : Value → Shared → Prop) (E : L2.St → XK) (p1 p2 : Pos), Takes ((cxOf C8.CX0 X.prog X.w X.K X.mg X.base Ng x sg g cdg X.A X.stack s H C8.E0).tr pn xe) W → (∀ cls d σ' H', E σ' cls d H' → W cls d σ' H') →
      PE ((cxOf C8.CX0 X.prog X.w X.K X.mg X.base Ng x sg g cdg X.A X.stack s H C8.E0).tr pn xe) (.Call (.Name a p1) [] [] p2) (fun σZ HZ Q => σZ[0]? = some (some (.ref f)) ∧ HZ c' = some (CodeO c' q) ∧ tl (E σZ) HZ Q)) →
    H c' = some (CodeO c' q) → TT tl H Q → Room 1 (X.A.deeper (envOfC x sg s.heap.objs.size g cdg)) →
    ∃ t, PSs (cxOf C8.CX0 X.prog X.w X.K X.mg X.base Ng x sg g cdg X.A X.stack s H C8.E0).nox bg t ∧ t { nx := fun _ H' => Q .non H', rt := Q } (L2.start Ng [.ref f]) H
/-- the reading of «x(lambda: body)»: what the called def makes of the body's reading -/
def tLamG (T : List (Addr × Str)) (TT : (XK → Hp → VK → Prop) → Hp → VK → Prop) (t : XK → TE) : TE := fun σ H Q => Tabs T H ∧ ∀ H1, ExtN H H1 → (∀ b, H1 b = none → H b = none) → Tabs T H1 → TT (fun E H' Q' => t E σ H' Q') H1 Q
section
variable {X : Cx}
theorem pe_lamG {T : List (Addr × Str)} {TT : (XK → Hp → VK → Prop) → Hp → VK → Prop} {x a : Str} {g c P : Addr} {k n : Nat} {pg : Arguments} {bg : List Stmt} {sg : Scope} {dV kV doc pm cdv ct oc : Value} {an od : Option Addr} {osl : Array (Option Value)} {Ng : List Str}
    {params : Arguments} {body : Expr} {scope : Scope} {t : XK → TE} {p lpos pos : Pos} (hg : Gl X x) (hm : X.mg x = some (.ref g)) (hk : PySem.W.keepIn X.K (.ref g) = true)
    (lk : X.K.lookup g = some ⟨oc, od, .func (PySem.W.fnOf x x pg bg sg dV kV doc pm an cdv ct), osl⟩) (hcg : PySem.W.codeIn X.K cdv x = true) (hb : L2.Binds X.K (PySem.W.fnOf x x pg bg sg dV kV doc pm an cdv ct) [a] []) (Sg : FnScope Ng [a] sg) (hNg : Ng[0]? = some a) (hva : Vis sg a)
    (hG : GivesS X Ng x sg g cdv bg a (X.env.qual ++ "<lambda>") TT)
    (TB : TabB X.base X.mg c P) (hcode : X.env.code = .ref c) (hmT : (P, X.env.qual ++ "<lambda>") ∈ T) (hu : ∀ p ∈ T, p.1 = P → p.2 = X.env.qual ++ "<lambda>") (hr : Room (k + 2) X.A) (L : LamG X scope)
    (hev : ∀ (s : Shared) (Q' : Value → Shared → Prop) (E : Value → Shared → Prop), (∀ (ds : List Value) (t : Nat), ds.length = n → wpAny (model X.prog X.w) X.A (makeFunction "<lambda>" (X.env.qual ++ "<lambda>") params (.expr body) scope X.env ds [] [] lpos lpos.line) Q' E { s with toks := t }) → wpAny (model X.prog X.w) X.A (eval (.Lambda params body scope lpos) X.env) Q' E s)
    (hbind : BindD (X.env.qual ++ "<lambda>") params body scope n)
    (hbody : ∀ (A : Around) (outer : List Env) (s : Shared) (H : Hp) (E : XK) (f c' : Addr), Room k (A.deeper (lamEnv X scope s.heap.objs.size f c')) → PE (lamCx X A outer s H E scope f c') body (t E))
    (hdb : (x == ("__debug__" : Str)) = false := by decide) (hd : (a == ("__debug__" : Str)) = false := by decide) (hcd : (a == ("__classdict__" : Str)) = false := by decide) :
    PE X (.Call (.Name x p) [.Lambda params body scope lpos] [] pos) (tLamG T TT t) := by
  refine ⟨fun pins s σ H Q I h => ?_⟩
  obtain ⟨hT, h⟩ := h
  refine wpAny_Call_Name_kw (ld_glob I hg hm ?_ hdb)
  refine PySem.W.callWith_K (h₀ := X.base) I.ok.mod.kin hk ?_ (by rfl) (by rfl)
  show wpAny _ _ (spliced ((false, eval (.Lambda params body scope lpos) X.env) :: backTo pos (starEach [] X.env))) _ _ s
  refine Calls.spliced_cons (made I TB hcode hmT hu hT (L.has I.ok) (hev s · X.xe) fun ds f c' pm' ctv dV' H1 s' hn I1 eN T1 hback hD hDT hf hfn hfr hco => ?_)
  refine Calls.spliced_nil ⟨I1.kIn, ?_⟩
  have rc : codeAny (model X.prog X.w) X.A (.call (.ref g) ⟨[.ref f], []⟩) (CR C8.CX0 X.stack X.prog X.w H1 s' Q C8.E0) s' := by
    refine run_ofS (N := Ng) (ps := [a]) (us := [.ref f]) (vs := [.ref f]) lk hcg Sg hr I1.env0 (hb s' [.ref f] I1.kIn rfl) (.cons rfl .nil) rfl fun hr' => ?_
    obtain ⟨t', ht', hq'⟩ := hG f c' s' H1 Q (fun E H' Q' => t E σ H' Q') (fun W pn xe E p1 p2 tk hW => pe_ask (i := 0) I1 L hn hD hDT hf hfn hfr hbind tk hW hr' (fun A outer s H E hr2 => hbody A outer s H E f c' hr2) hNg hva hd hcd) hco (h H1 eN hback T1) (hr'.mono (by omega))
    exact ⟨t', ht'.nox, hq'⟩
  refine wpAny_call (codeAny_mono rc fun r s2 hq => ?_)
  cases r with
  | error e => exact (show False from hq).elim
  | ok fl =>
    cases fl with
    | ret u => exact I1.after hq
    | next => exact False.elim hq
    | brk => exact False.elim hq
    | cont => exact False.elim hq
/-- a lambda without parameters is made -/
theorem hev0 {params : Arguments} {body : Expr} {scope : Scope} {pos : Pos} (h : defaultsOf params X.env = ([], [])) (s : Shared) (Q' : Value → Shared → Prop) (E : Value → Shared → Prop)
    (q : ∀ (ds : List Value) (t : Nat), ds.length = 0 → wpAny (model X.prog X.w) X.A (makeFunction "<lambda>" (X.env.qual ++ "<lambda>") params (.expr body) scope X.env ds [] [] pos pos.line) Q' E { s with toks := t }) : wpAny (model X.prog X.w) X.A (eval (.Lambda params body scope pos) X.env) Q' E s :=
  PySem.W.kla_eval h (q [] s.toks rfl)
/-- .. with one whose default is a number -/
theorem hev1 {params : Arguments} {body : Expr} {scope : Scope} {pos p1 : Pos} {i : Int} {j : Nat} (h : defaultsOf params X.env = ([eval (.Constant (.int i) j p1) X.env], [])) (s : Shared) (Q' : Value → Shared → Prop) (E : Value → Shared → Prop)
    (q : ∀ (ds : List Value) (t : Nat), ds.length = 1 → wpAny (model X.prog X.w) X.A (makeFunction "<lambda>" (X.env.qual ++ "<lambda>") params (.expr body) scope X.env ds [] [] pos pos.line) Q' E { s with toks := t }) : wpAny (model X.prog X.w) X.A (eval (.Lambda params body scope pos) X.env) Q' E s := by
  rw [arm_eval_Lambda, h]
  show wpAny _ _ (do let dv ← evalAll [eval (.Constant (.int i) j p1) X.env]; let kdv ← holding dv (evalAllOpt []); makeFunction "<lambda>" (X.env.qual ++ "<lambda>") params (.expr body) scope X.env dv kdv [] pos pos.line) Q' E s
  refine wpAny_bind ?_
  unfold evalAll
  refine wpAny_bind (wpAny_Constant_int ?_)
  refine wpAny_bind (wpAny_holding ?_)
  unfold evalAll
  refine wpAny_pure (wpAny_pure (wpAny_bind (wpAny_holding ?_)))
  unfold evalAllOpt
  exact wpAny_pure (q _ _ rfl)
theorem bind0 {qual : Str} {params : Arguments} {body : Expr} {scope : Scope} (h : ∀ (cl : List (Str × Addr)) (pm cdv ct : Value), bindArgs (dfn qual params body scope cl pm cdv ct .none) ⟨[], []⟩ = pure []) : BindD qual params body scope 0 := by
  intro cl pm cdv ct dV ds s hn hD
  rcases hD with ⟨_, rfl⟩ | ⟨T, h1, _⟩
  · exact ⟨[], fun y hy => (nomatch hy), .of_eq (h cl pm cdv ct)⟩
  · rw [List.length_eq_zero_iff.mp hn] at h1
    cases h1
theorem bind1 {qual : Str} {params : Arguments} {body : Expr} {scope : Scope} {x : Str} (hx : scope.names.lookup x = some .local)
    (h : ∀ (cl : List (Str × Addr)) (pm cdv ct : Value) (T : Addr), ∃ k : Option (Array Value) → Sem (List (Str × Value)), bindArgs (dfn qual params body scope cl pm cdv ct (.ref T)) ⟨[], []⟩ = seqItems? (.ref T) >>= k ∧ ∀ v, k (some #[v]) = pure [(x, v)]) : BindD qual params body scope 1 := by
  intro cl pm cdv ct dV ds s hn hD
  rcases hD with ⟨rfl, _⟩ | ⟨T, h1, rfl, hT⟩
  · cases hn
  · obtain ⟨v, rfl⟩ : ∃ v, ds = [v] := by
      match ds, hn with
      | [v], _ => exact ⟨v, rfl⟩
    obtain ⟨k, e1, e2⟩ := h cl pm cdv ct T
    refine ⟨[(x, v)], fun y hy => ?_, fun M A E Q q => ?_⟩
    · obtain rfl := List.mem_singleton.mp hy
      exact hx
    · rw [e1]
      refine wpAny_bind (wpAny_seqItems hT rfl ?_)
      rw [show k (some [v].toArray) = pure [(x, v)] from e2 v]
      exact wpAny_pure q
end
end GC

set_option Elab.async false
set_option linter.all false
set_option maxRecDepth 100000
set_option maxHeartbeats 4000000
/-! defs that are called where no guard runs (repr of a list asks that); the end of a law row for such a law -/
namespace GD
open PySem PySem.Spec PyProof.Rows L2
structure FnOkG (P : Program) (w : World) (K : PySem.W.Frag) (mg : Str → Option Value) (base : Heap) (CX : CXT) (k : Nat) (f : Addr) (fd : FuncData) (ps : List Str) (sp : Sp) : Prop where
  len : ∀ vs H Q E, sp vs H Q E → vs.length = ps.length
  run : ∀ (A : Around) (outer : List Env) (s : Shared) (H : Hp) (args : Args) (us : List Value) (vs : List V) (Q : VK) (E : XK), A.guards = some [] → Room k A → Env0 P w K mg base A outer s H → BindsTo s fd args (ps.zip us) → Vals vs us → sp vs H Q E →
    codeAny (model P w) A (.call (.ref f) args) (CR CX outer P w H s Q E) s
section
variable {P : Program} {w : World} {K : PySem.W.Frag} {mg : Str → Option Value} {base : Heap} {CX : CXT} {k : Nat} {f : Addr} {fd : FuncData} {N ps : List Str} {sp : Sp}
theorem FnOkG.of (F : FnOk P w K mg base CX k f fd ps sp) : FnOkG P w K mg base CX k f fd ps sp := ⟨F.len, fun A outer s H args us vs Q E _ => F.run A outer s H args us vs Q E⟩
theorem fnG_of {x qual : Str} {params : Arguments} {body : List Stmt} {scope : Scope} {dvs : List V} {kws : List (Str × V)} (F : FunD K x qual params body scope dvs kws f fd) (S : FnScope N ps scope) (len : ∀ vs H Q E, sp vs H Q E → vs.length = ps.length)
    (hbody : ∀ (cdv : Value) (A : Around) (outer : List Env) (s : Shared) (H : Hp) (vs : List V) (Q : VK) (E : XK), A.guards = some [] → Room k (A.deeper (envOfC qual scope s.heap.objs.size f cdv)) → sp vs H Q E →
      ∃ t, PSs (cxOf CX P w K mg base N qual scope f cdv A outer s H E) body t ∧ t { nx := fun _ H' => Q .non H', rt := Q } (L2.start N vs) H) : FnOkG P w K mg base CX (k + 1) f fd ps sp := by
  obtain ⟨oc, od, dV, kV, doc, pm, an, cdv, ct, osl, rfl, lk, hcd, _, _⟩ := F.ex
  refine ⟨len, fun A outer s H args us vs Q E hg hr e0 hb r hsp => ?_⟩
  have kx : K.In s.heap := e0.mod.kin.keeps fun b o e => (e0.bs b o e).1
  have lim : s.heap.NoLimit := e0.mod.nolimit.keeps fun b o e => (e0.bs b o e).1
  refine codeAny_call_function hr.depth (kx _ _ lk) rfl S.co S.gen rfl (PySem.W.codeRec_of kx hcd) (hb _ _ _ _ (wpAny_newFunctionEnv_cells S.kind (fun y hy => ?_) fun env he s1 x => ?_))
  · rcases S.par y.1 (List.of_mem_zip (a := y.1) (b := y.2) hy).1 with q | q
    · exact .inl q
    · exact .inr ⟨q, PySem.W.cellsFrom_some _ _ _ (.inl q)⟩
  · subst he
    refine ⟨lim.keeps x.toInCall.keep, codeAny_func ?_⟩
    obtain ⟨t, ht, hq⟩ := hbody cdv A outer s H vs Q E hg (hr.deeper _) hsp
    refine wpAny_mono (ht.run [] s1 _ H _ (inv_start S hr.hd e0 (len _ _ _ _ hsp) r x) hq) (fun fl s' hs => ?_) fun e s' hs => hs
    cases fl with
    | ret u =>
      obtain ⟨v, σ', H', J, rv, q⟩ := hs
      exact ⟨v, H', J.os, J.bare, J.base, J.hok, rv, q⟩
    | next =>
      obtain ⟨σ', H', J, q⟩ := hs
      exact ⟨.non, H', J.os, J.bare, J.base, J.hok, rfl, q⟩
    | brk => exact hs.elim fun _ z => z.elim fun _ z => z.2.elim
    | cont => exact hs.elim fun _ z => z.elim fun _ z => z.2.elim
end
section
variable {X : Cx} {CX : CXT} {k : Nat} {f : Addr} {fd : FuncData} {ps : List Str} {sp : Sp} {E : XK} {x : Str} {p pos : Pos} {e : Expr} {es : List Expr} {t : TA}
/-- such a def called -/
theorem pe_callG (F : FnOkG X.prog X.w X.K X.mg X.base CX k f fd ps sp) (hgd : X.A.guards = some []) (hr : Room k X.A) (hg : Gl X x) (hm : X.mg x = some (.ref f)) (hk : PySem.W.keepIn X.K (.ref f) = true) (hb : Binds X.K fd ps []) (hx : Passes CX X E) (ha : PA X (e :: es) t)
    (hdb : (x == ("__debug__" : Str)) = false := by decide) (he : starEach (e :: es) X.env = (false, eval e X.env) :: starEach es X.env := by rfl) (hpl : (backTo pos (starEach es X.env)).any (·.1) = false := by rfl) :
    PE X (.Call (.Name x p) (e :: es) [] pos) (tCall sp [] E t) := by
  refine ⟨fun pins s σ H Q I h => ?_⟩
  refine wpAny_Call_Name_kw (ld_glob I hg hm ?_ hdb)
  refine PySem.W.callWith_K (h₀ := X.base) I.ok.mod.kin hk (thn (ha.run pos pins s σ H _ I h) fun us s1 ⟨vs, H1, I1, r1, q1⟩ => ⟨I1.kIn, ?_⟩) he hpl
  have q2 : sp vs H1 Q E := by
    have z : sp (vs ++ []) H1 Q E := q1
    rw [List.append_nil] at z
    exact z
  have hl : (us ++ []).length = ps.length := by
    rw [List.append_nil, ← Paired.length r1]
    exact F.len _ _ _ _ q2
  have bt := hb s1 us I1.kIn hl
  rw [List.append_nil] at bt
  refine wpAny_call (codeAny_mono (F.run X.A X.stack s1 H1 ⟨us, []⟩ us vs Q E hgd hr I1.env0 bt r1 q2) fun r s' hq => ?_)
  cases r with
  | error er => exact hx pins σ _ _ er s' I1 hq
  | ok fl =>
    cases fl with
    | ret u => exact I1.after hq
    | next => exact False.elim hq
    | brk => exact False.elim hq
    | cont => exact False.elim hq
/-- repr of a list of truths -/
def shB (bs : List Bool) : Str := (PyData.list (bs.map PyData.bool)).shown
theorem readsB {h : Heap} : ∀ {bs : List Bool} {its : List Value}, Vals (bs.map V.bl) its → ∃ as, ReadsAll h its (bs.map PyData.bool) as
  | [], _, .nil => ⟨[], .nil⟩
  | b :: bs, _, .cons r t => by
    obtain ⟨as, q⟩ := readsB t
    cases r
    exact ⟨_, .cons (.bool b) q⟩
theorem showB : ∀ bs : List Bool, PyData.showableAll (bs.map PyData.bool) = true
  | [] => rfl
  | b :: bs => by
    show (PyData.showable (.bool b) && PyData.showableAll (bs.map PyData.bool)) = true
    rw [showB bs]
    rfl
theorem depB : ∀ bs : List Bool, PyData.depthAll (bs.map PyData.bool) = 0
  | [] => rfl
  | b :: bs => by
    show max (PyData.depth (.bool b)) (PyData.depthAll (bs.map PyData.bool)) = 0
    rw [depB bs]
    rfl
theorem noDict : ∀ bs : List Bool, PyData.hasDictAll (bs.map PyData.bool) = false
  | [] => rfl
  | b :: bs => by
    show (PyData.hasDict (.bool b) || PyData.hasDictAll (bs.map PyData.bool)) = false
    rw [noDict bs]
    rfl
def rReprB : List V → Hp → VK → Prop := fun xs H Q => ∃ (a : Addr) (bs : List Bool), xs = [.ref a] ∧ H a = some (.lst (bs.map V.bl)) ∧ (shB bs).length ≤ sizeLine ∧ Q (.str (shB bs)) H
theorem call_reprB (hgd : X.A.guards = some []) (hu : X.A.units + 10 < cLine) : CallR X (.builtin "repr") rReprB := by
  intro pins s σ H xs us Q I r h
  obtain ⟨a, bs, rfl, ha, hz, q⟩ := h
  cases r with
  | @cons _ u0 _ ur rx rr =>
  cases rr
  obtain rfl : u0 = Value.ref a := rx
  have hok : ObjOk X.prog X.w H s.heap a (.lst (bs.map V.bl)) := I.hok a _ ha
  obtain ⟨_, its, n, rv, ho⟩ := hok
  obtain ⟨as, ra⟩ := readsB (h := s.heap) rv
  have R : Reads s.heap (.ref a) (.list (bs.map PyData.bool)) (a :: as) := .list ho rfl rfl ra
  refine repr_of_reads' R (by show PyData.showableAll (bs.map PyData.bool) = true; exact showB bs) (fun e => ?_) hgd ?_ (fun _ _ e => e) (fun h' u tk kp => ?_) hz
  · have e : PyData.hasDictAll (bs.map PyData.bool) = true := e
    rw [noDict bs] at e
    cases e
  · show X.A.units + ((PyData.depthAll (bs.map PyData.bool) + 1) + 1) < cLine
    rw [depB bs]
    omega
  · exact ⟨.str (shB bs), H, I.kept (t' := tk) kp, ⟨u, rfl⟩, q⟩
end
end GD

set_option Elab.async false
set_option linter.all false
set_option maxRecDepth 100000
set_option maxHeartbeats 4000000
/-! words for the defs -/
namespace K4
open PySem PySem.Spec PyProof.Rows L2 Evl
/-- the built-in names that the module leaves alone -/
structure MF (mg : Str → Option Value) : Prop where
  isinstance : mg "isinstance" = none
  int : mg "int" = none
  bool : mg "bool" = none
  list : mg "list" = none
  tuple : mg "tuple" = none
  len : mg "len" = none
  all : mg "all" = none
  abs : mg "abs" = none
  range : mg "range" = none
  repr : mg "repr" = none
/-- a def of the module that keeps a promise -/
structure CalC (P : Program) (w : World) (K : PySem.W.Frag) (mg : Str → Option Value) (base : Heap) (CX : CXT) (k : Nat) (x : Str) (ps : List Str) (sp : Sp) : Prop where
  ex : ∃ (f : Addr) (fd : FuncData), FnOk P w K mg base CX k f fd ps sp ∧ mg x = some (.ref f) ∧ PySem.W.keepIn K (.ref f) = true ∧ Binds K fd ps [] ∧ ∃ (oc : Value) (od : Option Addr) (osl : Array (Option Value)), K.lookup f = some ⟨oc, od, .func fd, osl⟩
abbrev Cal (P : Program) (w : World) (K : PySem.W.Frag) (mg : Str → Option Value) (base : Heap) (k : Nat) (x : Str) (ps : List Str) (sp : Sp) : Prop := CalC P w K mg base CX0 k x ps sp
abbrev CalX (P : Program) (w : World) (K : PySem.W.Frag) (mg : Str → Option Value) (base : Heap) (k : Nat) (x : Str) (ps : List Str) (sp : Sp) : Prop := CalC P w K mg base (L2.CX P w) k x ps sp
theorem pe_cal {X : Cx} {CX : CXT} {k : Nat} {x : Str} {ps : List Str} {sp : Sp} {E : XK} {p pos : Pos} {e : Expr} {es : List Expr} {t : TA} (c : CalC X.prog X.w X.K X.mg X.base CX k x ps sp) (hr : Room k X.A) (hg : Gl X x) (hx : Passes CX X E) (ha : PA X (e :: es) t)
    (hdb : (x == ("__debug__" : Str)) = false := by decide) (he : starEach (e :: es) X.env = (false, eval e X.env) :: starEach es X.env := by rfl) (hpl : (backTo pos (starEach es X.env)).any (·.1) = false := by rfl) :
    PE X (.Call (.Name x p) (e :: es) [] pos) (tCall sp [] E t) := by
  obtain ⟨f, fd, F, hm, hk, hb, _⟩ := c.ex
  exact pe_call F hr hg hm hk hb .nil hx ha hdb he hpl
/-- the def x of the text as it stands behind the top -/
structure FD (K : PySem.W.Frag) (mg : Str → Option Value) (x : Str) (st : Stmt) : Prop where
  ex : ∃ (f : Addr) (fd : FuncData), FunD K x x (defArgs st) (defBody st) (defScope st) [] [] f fd ∧ mg x = some (.ref f)
section
variable {P : Program} {w : World} {K : PySem.W.Frag} {mg : Str → Option Value} {base : Heap} {CX : CXT} {k : Nat} {x : Str} {st : Stmt} {N ps : List Str} {sp : Sp}
theorem cal_of (D : FD K mg x st) (S : FnScope N ps (defScope st)) (hbn : ∀ (kV doc pm : Value) (an : Option Addr) (cdv ct : Value) (us : List Value), us.length = ps.length → bindArgs (PySem.W.fnOf x x (defArgs st) (defBody st) (defScope st) .none kV doc pm an cdv ct) ⟨us, []⟩ = pure (ps.zip us))
    (len : ∀ vs H Q E, sp vs H Q E → vs.length = ps.length)
    (hbody : ∀ (f : Addr) (cdv : Value) (A : Around) (outer : List Env) (s : Shared) (H : Hp) (vs : List V) (Q : VK) (E : XK), Room k (A.deeper (envOfC x (defScope st) s.heap.objs.size f cdv)) → sp vs H Q E →
      ∃ t, PSs (cxOf CX P w K mg base N x (defScope st) f cdv A outer s H E) (defBody st) t ∧ t { nx := fun _ H' => Q .non H', rt := Q } (L2.start N vs) H) : CalC P w K mg base CX (k + 1) x ps sp := by
  obtain ⟨f, fd, F, hm⟩ := D.ex
  refine ⟨f, fd, FunD.ok F S len (hbody f), hm, F.kp, ?_, by obtain ⟨oc, od, dV, kV, doc, pm, an, cdv, ct, osl, _, lk, _⟩ := F.ex; exact ⟨oc, od, osl, lk⟩⟩
  obtain ⟨oc, od, dV, kV, doc, pm, an, cdv, ct, osl, rfl, lk, hcd, hdv, _⟩ := F.ex
  have e : dV = .none := by
    rcases hdv with ⟨_, e⟩ | ⟨e, _⟩
    · exact e
    · exact absurd rfl e
  subst e
  exact .all (hbn kV doc pm an cdv ct)
/-- .. that lets nothing out -/
theorem cal_of0 (D : FD K mg x st) (S : FnScope N ps (defScope st)) (hbn : ∀ (kV doc pm : Value) (an : Option Addr) (cdv ct : Value) (us : List Value), us.length = ps.length → bindArgs (PySem.W.fnOf x x (defArgs st) (defBody st) (defScope st) .none kV doc pm an cdv ct) ⟨us, []⟩ = pure (ps.zip us))
    (len : ∀ vs H Q E, sp vs H Q E → vs.length = ps.length)
    (hbody : ∀ (f : Addr) (cdv : Value) (A : Around) (outer : List Env) (s : Shared) (H : Hp) (vs : List V) (Q : VK) (E : XK), Room k (A.deeper (envOfC x (defScope st) s.heap.objs.size f cdv)) → sp vs H Q E →
      ∃ t, PSs (cxOf CX0 P w K mg base N x (defScope st) f cdv A outer s H E).nox (defBody st) t ∧ t { nx := fun _ H' => Q .non H', rt := Q } (L2.start N vs) H) : Cal P w K mg base (k + 1) x ps sp :=
  cal_of D S hbn len fun f cdv A outer s H vs Q E hr h => (hbody f cdv A outer s H vs Q E hr h).imp fun _ z => ⟨z.1.nox, z.2⟩
end
/-! ### what values stand for -/
/-- a tuple of two numbers -/
def Tp (K : PySem.W.Frag) (H : Hp) (v : V) (p q : Int) : Prop := ∃ a, v = .ref a ∧ SqT K H a [.int p, .int q]
def Tl (K : PySem.W.Frag) (H : Hp) (v : V) (p q : Int) : Prop := ∃ a, v = .ref a ∧ (SqL K H a [.int p, .int q] ∨ SqT K H a [.int p, .int q])
/-- .. made on the way -/
def Tt (H : Hp) (v : V) (p q : Int) : Prop := ∃ a, v = .ref a ∧ H a = some (.tup [.int p, .int q])
section
variable {K : PySem.W.Frag} {H H' : Hp} {v : V} {p q : Int}
theorem Tt.ex (e : Ex H H') (h : Tt H v p q) : Tt H' v p q := h.imp fun _ z => ⟨z.1, e _ _ z.2⟩
theorem Tt.tp (h : Tt H v p q) : Tp K H v p q := h.imp fun _ z => ⟨z.1, st_of z.2⟩
theorem Tp.ex (e : Ex H H') (h : Tp K H v p q) : Tp K H' v p q := h.imp fun _ z => ⟨z.1, ex_t e z.2⟩
theorem Tl.ex (e : Ex H H') (h : Tl K H v p q) : Tl K H' v p q := h.imp fun _ z => ⟨z.1, z.2.imp (ex_l e) (ex_t e)⟩
theorem Tp.tl (h : Tp K H v p q) : Tl K H v p q := h.imp fun _ z => ⟨z.1, .inr z.2⟩
theorem Tp.of {a : Addr} (h : H a = some (.tup [.int p, .int q])) : Tp K H (.ref a) p q := ⟨a, rfl, st_of h⟩
end
/-! the i-th of a pair -/
section
variable {K : PySem.W.Frag} {σ : L2.St} {H : Hp} {ta tb : TE} {v : V} {p q : Int}
theorem ev_fst (h : Ev ta σ H v) (hp : Tp K H v p q) : Ev (tOp (rIxT K) ta (tC (.int 0))) σ H (.int p) := by
  obtain ⟨a, rfl, hs⟩ := hp
  exact ev_op h ev_c (rv_ixT hs rfl)
theorem ev_snd (h : Ev ta σ H v) (hp : Tp K H v p q) : Ev (tOp (rIxT K) ta (tC (.int 1))) σ H (.int q) := by
  obtain ⟨a, rfl, hs⟩ := hp
  exact ev_op h ev_c (rv_ixT hs rfl)
end
/-! ### what evaluates to something of a kind -/
def EvR (te : TE) (σ : L2.St) (H : Hp) (P : V → Hp → Prop) : Prop := ∀ H1, Ex H H1 → ∀ Q : VK, (∀ v H2, Ex H1 H2 → P v H2 → Q v H2) → te σ H1 Q
section
variable {K : PySem.W.Frag} {σ : L2.St} {H H' : Hp} {ta tb te : TE} {v : V} {p q : Int} {P : V → Hp → Prop} {D : Ends} {ts : TS}
theorem EvR.mono (e : Ex H H') (h : EvR te σ H P) : EvR te σ H' P := fun H1 a Q q => h H1 (e.trans a) Q q
theorem evr_of (h : Ev te σ H v) (hp : ∀ H1, Ex H H1 → P v H1) : EvR te σ H P := fun H1 e Q q => h H1 e Q fun H2 e2 => q v H2 e2 (hp H2 (e.trans e2))
theorem evr_tup {t : TA} (h : EvA t σ H [.int p, .int q]) : EvR (tTup t) σ H fun v H => Tp K H v p q := fun H1 e Q k =>
  eu_tup h (by show 2 ≤ 100000; omega) H1 e Q fun a H2 _ e2 ht => k (.ref a) H2 e2 (Tp.of ht)
theorem evr_tt {t : TA} (h : EvA t σ H [.int p, .int q]) : EvR (tTup t) σ H fun v H => Tt H v p q := fun H1 e Q k =>
  eu_tup h (by show 2 ≤ 100000; omega) H1 e Q fun a H2 _ e2 ht => k (.ref a) H2 e2 ⟨a, rfl, ht⟩
theorem evr_var {i : Nat} (h : σ[i]? = some (some v)) (hp : ∀ H1, Ex H H1 → P v H1) : EvR (tVar i) σ H P := evr_of (ev_var h) hp
theorem evr_if {t : TT} {b : Bool} (h : EvT t σ H b) (h1 : b = true → EvR ta σ H P) (h2 : b = false → EvR tb σ H P) : EvR (tIf t ta tb) σ H P := fun H1 e Q k => h H1 e _ fun H2 e2 => by
  cases b with
  | true =>
    show ta σ H2 Q
    exact h1 rfl H2 (e.trans e2) Q fun v H3 e3 => k v H3 (e2.trans e3)
  | false =>
    show tb σ H2 Q
    exact h2 rfl H2 (e.trans e2) Q fun v H3 e3 => k v H3 (e2.trans e3)
theorem s_asgR {i : Nat} (h : EvR te σ H P) (k : ∀ v H1, Ex H H1 → P v H1 → D.nx (σ.set i (some v)) H1) : tAsg te (gName i) D σ H := h H (Ex.refl H) _ k
theorem s_retR (h : EvR te σ H P) (k : ∀ v H1, Ex H H1 → P v H1 → D.rt v H1) : tRet te D σ H := h H (Ex.refl H) _ k
/-- a one-place operation behind -/
theorem ev_fstR (h : EvR ta σ H fun v H => Tp K H v p q) : Ev (tOp (rIxT K) ta (tC (.int 0))) σ H (.int p) := fun H1 e Q k => h H1 e _ fun v H2 e2 hp => by
  obtain ⟨a, rfl, hs⟩ := hp
  exact ⟨a, _, 0, _, rfl, rfl, hs, rfl, k H2 e2⟩
theorem s_par {i j : Nat} {t : TA} {u z : V} (h : EvA t σ H [u, z]) (k : ∀ H1, Ex H H1 → D.nx ((σ.set i (some u)).set j (some z)) H1) : tPar i j t D σ H := h H (Ex.refl H) _ fun H1 e => ⟨u, z, rfl, k H1 e⟩
/-! ### promises -/
/-- hands back the value that Pre tells -/
def spP (Pre : Hp → List V → V → Prop) : Sp := fun vs H Q _ => ∃ z, Pre H vs z ∧ ∀ H', Ex H H' → Q z H'
/-- hands back something of a kind -/
def spR (Pre : Hp → List V → (V → Hp → Prop) → Prop) : Sp := fun vs H Q _ => ∃ P, Pre H vs P ∧ ∀ v H', Ex H H' → P v H' → Q v H'
theorem spP_v {Pre : Hp → List V → V → Prop} {vs : List V} {z : V} (h : ∀ H1, Ex H H1 → Pre H1 vs z) : SpV (spP Pre) vs H z := fun H1 e Q q _ => ⟨z, h H1 e, q⟩
theorem ev_calP {Pre : Hp → List V → V → Prop} {vs : List V} {z : V} {E : XK} {t : TA} (h : EvA t σ H vs) (hp : ∀ H1, Ex H H1 → Pre H1 vs z) : Ev (tCall (spP Pre) [] E t) σ H z := ev_call h (by rw [List.append_nil]; exact spP_v hp)
theorem evr_calR {Pre : Hp → List V → (V → Hp → Prop) → Prop} {vs : List V} {E : XK} {t : TA} (h : EvA t σ H vs) (hp : ∀ H1, Ex H H1 → Pre H1 vs P) : EvR (tCall (spR Pre) [] E t) σ H P := fun H1 e Q k => h H1 e _ fun H2 e2 => by
  show spR Pre (vs ++ []) H2 Q E
  rw [List.append_nil]
  exact ⟨P, hp H2 (e.trans e2), fun v H3 e3 => k v H3 (e2.trans e3)⟩
end
end K4

set_option Elab.async false
set_option linter.all false
set_option maxRecDepth 100000
set_option maxHeartbeats 4000000
namespace K4
open PySem PySem.Spec PyProof.Rows L2 Evl
def top (i : Nat) : Stmt := PySem.Challenge.pw_whichways_k41_slants_in_order_of_steepne.main.body.getD i (.Pass ⟨0, 0, 0, 0⟩)
abbrev s_common : Stmt := top 14
abbrev s_added : Stmt := top 19
abbrev s_steeper_in : Stmt := top 20
abbrev s_leap : Stmt := top 21
theorem sc_common : FnScope ["one", "other"] ["one", "other"] (defScope s_common) := ⟨rfl, rfl, rfl, by decide +kernel, rfl, by decide +kernel, by decide +kernel⟩
theorem sc_added : FnScope ["one", "other"] ["one", "other"] (defScope s_added) := ⟨rfl, rfl, rfl, by decide +kernel, rfl, by decide +kernel, by decide +kernel⟩
theorem sc_steeper_in : FnScope ["one", "other"] ["one", "other"] (defScope s_steeper_in) := ⟨rfl, rfl, rfl, by decide +kernel, rfl, by decide +kernel, by decide +kernel⟩
theorem sc_leap : FnScope ["begin", "step", "goal", "is_up", "way", "each", "lacking"] ["begin", "step", "goal", "is_up"] (defScope s_leap) := ⟨rfl, rfl, rfl, by decide +kernel, rfl, by decide +kernel, by decide +kernel⟩
section
variable {P : Program} {w : World} {K : PySem.W.Frag} {mg : Str → Option Value} {base : Heap}
/-! ### common -/
def preCommon : Hp → List V → V → Prop := fun _ vs z => ∃ a b : Int, vs = [.int a, .int b] ∧ z = .int (Int.gcd a b)
theorem cal_common (D : FD K mg "common" s_common) (T : MF mg) : Cal P w K mg base 1 "common" ["one", "other"] (spP preCommon) := by
  refine cal_of0 D sc_common (fun _ _ _ _ _ _ us hl => match us, hl with | [_, _], _ => rfl) (fun vs H Q E h => ?_) (fun f cdv A outer s H vs Q E hr h => ?_)
  · obtain ⟨z, ⟨a, b, rfl, _⟩, _⟩ := h
    rfl
  · obtain ⟨z, ⟨a, b, rfl, rfl⟩, q⟩ := h
    refine ⟨_, (pss_cons (ps_par (i := 0) (j := 1) (by rfl) sc_common.nd rfl rfl (by decide) rfl rfl (pa_cons (pe_callB call_abs (by rfl) T.abs (by decide +kernel) (pa_cons (pv 0) pa_nil)) (pa_cons (pe_callB call_abs (by rfl) T.abs (by decide +kernel) (pa_cons (pv 1) pa_nil)) pa_nil)) (by rfl))
      (pss_cons (ps_while PassesOwn.never (pt_cmpR op_ne (pv 1) pe_int (nomark _)) (pss_one (ps_par (i := 0) (j := 1) (by rfl) sc_common.nd rfl rfl (by decide) rfl rfl (pa_cons (pv 1) (pa_cons (pe_op op_modN (pv 0) (pv 1)) pa_nil)) (by rfl))))
      (pss_one (ps_ret (pv 0))))), ?_⟩
    have absR : ∀ (i : Int) (H1 : Hp), RC (fun xs H Q => ∃ i, xs = [.int i] ∧ Q (.int (if i < 0 then -i else i)) H) [.int i] H1 (.int ((i.natAbs : Nat) : Int)) := fun i H1 H2 e Q q => ⟨i, rfl, by
      rw [show (if i < 0 then -i else i) = ((i.natAbs : Nat) : Int) by split <;> omega]
      exact q H2 (Ex.refl H2)⟩
    refine s_par (ea_cons (ev_cb (ea_cons (ev_var rfl) ea_nil) (absR a _)) (ea_cons (ev_cb (ea_cons (ev_var rfl) ea_nil) (absR b _)) ea_nil)) fun H1 e1 => ?_
    refine s_while (fun m σ' H' => ∃ x y : Nat, σ' = [some (.int x), some (.int y)] ∧ Nat.gcd x y = Int.gcd a b ∧ m = y ∧ Ex H H') b.natAbs ⟨a.natAbs, b.natAbs, rfl, rfl, rfl, e1⟩ fun m σ' H' hw => ?_
    obtain ⟨x, y, rfl, hg, rfl, e2⟩ := hw
    refine ⟨_, et_test (ev_op (ev_var rfl) ev_c (rv_ne rfl)), fun hb H2 e3 => ?_, fun hb H2 e3 => ?_⟩
    · have hy : 0 < m := Nat.pos_of_ne_zero fun z => by
        subst z
        cases hb
      refine ⟨fun σ2 H3 => ∃ x2 y2 : Nat, σ2 = [some (.int x2), some (.int y2)] ∧ Nat.gcd x2 y2 = Int.gcd a b ∧ y2 < m ∧ Ex H H3, fun σ2 H3 hN => ?_, ?_⟩
      · obtain ⟨x2, y2, h1, h2, h3, h4⟩ := hN
        exact ⟨y2, h3, x2, y2, h1, h2, rfl, h4⟩
      · refine s_par (ea_cons (ev_var rfl) (ea_cons (ev_op (ev_var rfl) (ev_var rfl) (rv_I (by omega))) ea_nil)) fun H3 e4 => ⟨m, x % m, ?_, ?_, Nat.mod_lt _ hy, (e2.trans e3).trans e4⟩
        · show [some (V.int (m : Int)), some (V.int (Int.fmod (x : Int) (m : Int)))] = _
          rw [Int.fmod_eq_emod_of_nonneg _ (by omega)]
          rfl
        · rw [← hg, Nat.gcd_comm m, ← Nat.gcd_rec, Nat.gcd_comm]
    · have hy : m = 0 := by
        have z2 : V.int (m : Int) = V.int 0 := Classical.byContradiction fun h => by
          rw [decide_eq_false h] at hb
          cases hb
        have z3 := V.int.inj z2
        omega
      subst hy
      rw [Nat.gcd_zero_right] at hg
      refine s_ret (ev_var rfl) fun H3 e4 => ?_
      rw [hg]
      exact q H3 ((e2.trans e3).trans e4)
/-! ### added -/
def preAdded (K : PySem.W.Frag) : Hp → List V → (V → Hp → Prop) → Prop := fun H vs R => ∃ (x y : V) (a b c d : Int), vs = [x, y] ∧ Tp K H x a b ∧ Tp K H y c d ∧ R = fun v H => Tt H v (a + c) (b + d)
theorem cal_added (D : FD K mg "added" s_added) : Cal P w K mg base 1 "added" ["one", "other"] (spR (preAdded K)) := by
  refine cal_of0 D sc_added (fun _ _ _ _ _ _ us hl => match us, hl with | [_, _], _ => rfl) (fun vs H Q E h => ?_) (fun f cdv A outer s H vs Q E hr h => ?_)
  · obtain ⟨R, ⟨x, y, a, b, c, d, rfl, _⟩, _⟩ := h
    rfl
  · obtain ⟨R, ⟨x, y, a, b, c, d, rfl, hx, hy, rfl⟩, q⟩ := h
    refine ⟨_, (pss_one (ps_ret (pe_tup (pa_cons (pe_op op_add (pe_ix ix_tup (pv 0) pe_int (fun _ _ => rfl)) (pe_ix ix_tup (pv 1) pe_int (fun _ _ => rfl))) (pa_cons (pe_op op_add (pe_ix ix_tup (pv 0) pe_int (fun _ _ => rfl)) (pe_ix ix_tup (pv 1) pe_int (fun _ _ => rfl))) pa_nil))))), ?_⟩
    exact s_retR (evr_tt (ea_cons (ev_op (ev_fst (ev_var rfl) hx) (ev_fst (ev_var rfl) hy) rv_I0) (ea_cons (ev_op (ev_snd (ev_var rfl) hx) (ev_snd (ev_var rfl) hy) rv_I0) ea_nil))) q
/-! ### steeper_in -/
/-- a number that fits -/
def Bd (i : Int) : Prop := i.natAbs < 2 ^ 1000
theorem bd_mul {i j : Int} (hi : Bd i) (hj : Bd j) : CMulW i j := wide_mul hi hj (by omega) (by omega) (by omega)
def preSteep (K : PySem.W.Frag) : Hp → List V → V → Prop := fun H vs z => ∃ (x y : V) (a b c d : Int), vs = [x, y] ∧ Tp K H x a b ∧ Tp K H y c d ∧ (Bd b ∧ Bd c ∧ Bd d ∧ Bd a) ∧ z = .bl (decide (d * a < b * c))
theorem cal_steeper_in (D : FD K mg "steeper_in" s_steeper_in) : Cal P w K mg base 1 "steeper_in" ["one", "other"] (spP (preSteep K)) := by
  refine cal_of0 D sc_steeper_in (fun _ _ _ _ _ _ us hl => match us, hl with | [_, _], _ => rfl) (fun vs H Q E h => ?_) (fun f cdv A outer s H vs Q E hr h => ?_)
  · obtain ⟨z, ⟨x, y, a, b, c, d, rfl, _⟩, _⟩ := h
    rfl
  · obtain ⟨z, ⟨x, y, a, b, c, d, rfl, hx, hy, ⟨h1, h2, h3, h4⟩, rfl⟩, q⟩ := h
    refine ⟨_, (pss_one (ps_ret (pe_cmpR op_gt (pe_op op_mulW (pe_ix ix_tup (pv 0) pe_int (fun _ _ => rfl)) (pe_ix ix_tup (pv 1) pe_int (fun _ _ => rfl))) (pe_op op_mulW (pe_ix ix_tup (pv 1) pe_int (fun _ _ => rfl)) (pe_ix ix_tup (pv 0) pe_int (fun _ _ => rfl))) (nomark _)))), ?_⟩
    exact s_ret (ev_op (ev_op (ev_snd (ev_var rfl) hx) (ev_fst (ev_var rfl) hy) (rv_I (bd_mul h1 h2))) (ev_op (ev_snd (ev_var rfl) hy) (ev_fst (ev_var rfl) hx) (rv_I (bd_mul h3 h4))) rv_I0) q
/-! ### leap -/
def leapV (b0 b1 s0 s1 g0 g1 : Int) (up : Bool) : Int :=
  if up then (g1 * b0 - b1 * g0) / (s1 * g0 - g1 * s0) + 1 else -1 * (g1 * b0 - b1 * g0) / (-1 * (s1 * g0 - g1 * s0)) + 1
def preLeap (K : PySem.W.Frag) : Hp → List V → V → Prop := fun H vs z => ∃ (x y u : V) (b0 b1 s0 s1 g0 g1 : Int) (up : Bool), vs = [x, y, u, .bl up] ∧ Tp K H x b0 b1 ∧ Tp K H y s0 s1 ∧ Tp K H u g0 g1 ∧ (Bd b0 ∧ Bd b1 ∧ Bd s0 ∧ Bd s1 ∧ Bd g0 ∧ Bd g1) ∧
  0 < (if up then s1 * g0 - g1 * s0 else -1 * (s1 * g0 - g1 * s0)) ∧ z = .int (leapV b0 b1 s0 s1 g0 g1 up)
theorem bd_two {i j k l : Int} (hi : Bd i) (hj : Bd j) (hk : Bd k) (hl : Bd l) : (i * j - k * l).natAbs < 2 ^ 2001 := by
  have h1 : (i * j).natAbs < 2 ^ 2000 := wide_lt (a := 1000) (b := 1000) hi hj
  have h2 : (k * l).natAbs < 2 ^ 2000 := wide_lt (a := 1000) (b := 1000) hk hl
  have e : (2 : Nat) ^ 2001 = 2 ^ 2000 + 2 ^ 2000 := by rw [show (2001 : Nat) = 2000 + 1 from rfl, Nat.pow_succ]; omega
  omega
theorem cal_leap (D : FD K mg "leap" s_leap) : Cal P w K mg base 1 "leap" ["begin", "step", "goal", "is_up"] (spP (preLeap K)) := by
  refine cal_of0 D sc_leap (fun _ _ _ _ _ _ us hl => match us, hl with | [_, _, _, _], _ => rfl) (fun vs H Q E h => ?_) (fun f cdv A outer s H vs Q E hr h => ?_)
  · obtain ⟨z, ⟨x, y, u, b0, b1, s0, s1, g0, g1, up, rfl, _⟩, _⟩ := h
    rfl
  · obtain ⟨z, ⟨x, y, u, b0, b1, s0, s1, g0, g1, up, rfl, hx, hy, hu, ⟨h1, h2, h3, h4, h5, h6⟩, hpos, rfl⟩, q⟩ := h
    have way : ∀ i : Int, (-1 * i).natAbs = i.natAbs := fun i => by omega
    have D1 : (s1 * g0 - g1 * s0).natAbs < 2 ^ 2001 := bd_two h4 h5 h6 h3
    have D2 : (g1 * b0 - b1 * g0).natAbs < 2 ^ 2001 := bd_two h6 h1 h2 h5
    have one : ∀ {i : Int}, i.natAbs < 2 ^ 2001 → ∀ b : Bool, CMulW (if b then 1 else -1) i := fun h b => wide_mul (a := 1) (b := 2001) (by cases b <;> decide) h (by omega) (by omega) (by omega)
    refine ⟨_, (pss_cons (ps_set (i := 4) sc_leap.nd rfl (.inl rfl) (pe_ifExp (pt_val (pv 3)) pe_int (pe_un un_neg pe_int)))
      (pss_cons (ps_set (i := 5) sc_leap.nd rfl (.inl rfl) (pe_op op_mulW (pv 4) (pe_op op_sub (pe_op op_mulW (pe_ix ix_tup (pv 1) pe_int (fun _ _ => rfl)) (pe_ix ix_tup (pv 2) pe_int (fun _ _ => rfl))) (pe_op op_mulW (pe_ix ix_tup (pv 2) pe_int (fun _ _ => rfl)) (pe_ix ix_tup (pv 1) pe_int (fun _ _ => rfl))))))
      (pss_cons (ps_set (i := 6) sc_leap.nd rfl (.inl rfl) (pe_op op_mulW (pv 4) (pe_op op_sub (pe_op op_mulW (pe_ix ix_tup (pv 2) pe_int (fun _ _ => rfl)) (pe_ix ix_tup (pv 0) pe_int (fun _ _ => rfl))) (pe_op op_mulW (pe_ix ix_tup (pv 0) pe_int (fun _ _ => rfl)) (pe_ix ix_tup (pv 2) pe_int (fun _ _ => rfl))))))
      (pss_one (ps_ret (pe_op op_add (pe_op op_fdivW (pv 6) (pv 5)) pe_int)))))), ?_⟩
    refine s_asg (v := .int (if up then 1 else -1)) (ev_if (b := up) (et_B (ev_var rfl)) (fun e => by subst e; exact ev_c) (fun e => by subst e; exact ev_un ev_c ru_neg)) fun H1 e1 => ?_
    refine s_asg (ev_op (ev_var rfl) (ev_op (ev_op (ev_snd (ev_var rfl) (hy.ex e1)) (ev_fst (ev_var rfl) (hu.ex e1)) (rv_I (bd_mul h4 h5))) (ev_op (ev_snd (ev_var rfl) (hu.ex e1)) (ev_fst (ev_var rfl) (hy.ex e1)) (rv_I (bd_mul h6 h3))) rv_I0) (rv_I (one D1 up))) fun H2 e2 => ?_
    refine s_asg (ev_op (ev_var rfl) (ev_op (ev_op (ev_snd (ev_var rfl) ((hu.ex e1).ex e2)) (ev_fst (ev_var rfl) ((hx.ex e1).ex e2)) (rv_I (bd_mul h6 h1))) (ev_op (ev_snd (ev_var rfl) ((hx.ex e1).ex e2)) (ev_fst (ev_var rfl) ((hu.ex e1).ex e2)) (rv_I (bd_mul h2 h5))) rv_I0) (rv_I (one D2 up))) fun H3 e3 => ?_
    refine s_ret (ev_op (ev_op (ev_var rfl) (ev_var rfl) (rv_I (wide_div (b := 2001) ?_ ?_ (by omega) (by omega)))) ev_c rv_I0) fun H4 e4 => ?_
    · cases up with
      | true => simpa using hpos
      | false => simpa using hpos
    · cases up with
      | true => rw [if_pos rfl, Int.one_mul]; exact D1
      | false => rw [if_neg Bool.false_ne_true, way]; exact D1
    · have q' := q H4 (((e1.trans e2).trans e3).trans e4)
      cases up with
      | true =>
        have e : leapV b0 b1 s0 s1 g0 g1 true = (g1 * b0 - b1 * g0) / (s1 * g0 - g1 * s0) + 1 := rfl
        rw [e] at q'
        show Q (.int (((if true = true then (1 : Int) else -1) * (g1 * b0 - b1 * g0)) / ((if true = true then (1 : Int) else -1) * (s1 * g0 - g1 * s0)) + 1)) H4
        rw [if_pos rfl, Int.one_mul, Int.one_mul]
        exact q'
      | false => exact q'
end
end K4

set_option linter.all false
/-! the mathematics of slants -/
namespace M4
/-- two neighbours, the flatter and the steeper one, about a gap from low to high -/
structure SI (l0 l1 h0 h1 f0 f1 s0 s1 : Int) : Prop where
  f0p : 0 ≤ f0
  f1p : 0 ≤ f1
  s0p : 0 ≤ s0
  s1p : 0 ≤ s1
  det : f0 * s1 - f1 * s0 = 1
  lo : f1 * l0 ≤ l1 * f0
  hi : h1 * s0 ≤ s1 * h0
structure Gap (l0 l1 h0 h1 : Int) : Prop where
  l0p : 0 ≤ l0
  l1p : 0 ≤ l1
  h0p : 0 ≤ h0
  h1p : 0 ≤ h1
  lt : l1 * h0 < h1 * l0
theorem mul_nn {a b : Int} (h : 0 ≤ a) (h' : 0 ≤ b) : 0 ≤ a * b := Int.mul_nonneg h h'
theorem le_mul_of_one {a b : Int} (h : 1 ≤ a) (hb : 0 ≤ b) : b ≤ a * b := by
  have z := mul_nn (show 0 ≤ a - 1 by omega) hb
  grind
/-- the steeper one is steeper than low, the flatter one flatter than high -/
theorem strict {l0 l1 h0 h1 f0 f1 s0 s1 : Int} (G : Gap l0 l1 h0 h1) (I : SI l0 l1 h0 h1 f0 f1 s0 s1) : 0 < s1 * l0 - l1 * s0 ∧ 0 < h1 * f0 - f1 * h0 := by
  obtain ⟨g1, g2, g3, g4, g5⟩ := G
  obtain ⟨i1, i2, i3, i4, i5, i6, i7⟩ := I
  -- h1*l0 > l1*h0 >= 0: h1 > 0, l0 > 0
  have p1 : 0 ≤ l1 * h0 := mul_nn g2 g3
  have hl : 0 < h1 * l0 := by omega
  have l0pos : 0 < l0 := by
    rcases Int.lt_or_eq_of_le g1 with z | z
    · exact z
    · rw [← z, Int.mul_zero] at hl; omega
  have h1pos : 0 < h1 := by
    rcases Int.lt_or_eq_of_le g4 with z | z
    · exact z
    · rw [← z, Int.zero_mul] at hl; omega
  constructor
  · -- (s1 l0 - l1 s0) h1 = ...
    refine Int.lt_of_not_ge fun z => ?_
    -- s1*l0 <= l1*s0
    have a1 : 0 ≤ (l1 * s0 - s1 * l0) * h1 := mul_nn (by omega) g4
    have a2 : 0 ≤ (s1 * h0 - h1 * s0) * l1 := mul_nn (by omega) g2
    -- sum: s1 (h0 l1 - l0 h1) >= 0
    have a3 : 0 ≤ s1 * (h0 * l1 - l0 * h1) := by grind
    have a4 : h0 * l1 - l0 * h1 < 0 := by grind
    have s1z : s1 = 0 := by
      refine Classical.byContradiction fun q => ?_
      have q1 : 0 < s1 := by omega
      have := Int.mul_neg_of_pos_of_neg q1 a4
      omega
    rw [s1z] at i5 i7
    have b1 : 0 ≤ f1 * s0 := mul_nn i2 i3
    omega
  · refine Int.lt_of_not_ge fun z => ?_
    have a1 : 0 ≤ (f1 * h0 - h1 * f0) * l0 := mul_nn (by omega) g1
    have a2 : 0 ≤ (l1 * f0 - f1 * l0) * h0 := mul_nn (by omega) g3
    have a3 : 0 ≤ f0 * (h0 * l1 - l0 * h1) := by grind
    have a4 : h0 * l1 - l0 * h1 < 0 := by grind
    have f0z : f0 = 0 := by
      refine Classical.byContradiction fun q => ?_
      have q1 : 0 < f0 := by omega
      have := Int.mul_neg_of_pos_of_neg q1 a4
      omega
    rw [f0z] at i5 i6
    have b1 : 0 ≤ f1 * s0 := mul_nn i2 i3
    omega
theorem bounds {l0 l1 h0 h1 f0 f1 s0 s1 : Int} (G : Gap l0 l1 h0 h1) (I : SI l0 l1 h0 h1 f0 f1 s0 s1) : f0 ≤ l0 ∧ f1 ≤ l1 ∧ s0 ≤ h0 ∧ s1 ≤ h1 := by
  obtain ⟨t1, t2⟩ := strict G I
  obtain ⟨i1, i2, i3, i4, i5, i6, i7⟩ := I
  have a : ∀ x : Int, 0 ≤ x → x ≤ (s1 * l0 - l1 * s0) * x := fun x hx => le_mul_of_one (by omega) hx
  have b : ∀ x : Int, 0 ≤ x → x ≤ (h1 * f0 - f1 * h0) * x := fun x hx => le_mul_of_one (by omega) hx
  have p1 := a f0 i1
  have p2 := a f1 i2
  have p3 := b s0 i3
  have p4 := b s1 i4
  have q1 := mul_nn (show 0 ≤ l1 * f0 - f1 * l0 by omega) i3
  have q2 := mul_nn (show 0 ≤ l1 * f0 - f1 * l0 by omega) i4
  have q3 := mul_nn (show 0 ≤ s1 * h0 - h1 * s0 by omega) i1
  have q4 := mul_nn (show 0 ≤ s1 * h0 - h1 * s0 by omega) i2
  have e1 : (s1 * l0 - l1 * s0) * f0 + (l1 * f0 - f1 * l0) * s0 = l0 := by grind
  have e2 : (s1 * l0 - l1 * s0) * f1 + (l1 * f0 - f1 * l0) * s1 = l1 := by grind
  have e3 : (h1 * f0 - f1 * h0) * s0 + (s1 * h0 - h1 * s0) * f0 = h0 := by grind
  have e4 : (h1 * f0 - f1 * h0) * s1 + (s1 * h0 - h1 * s0) * f1 = h1 := by grind
  omega
theorem floor_lt (lack each : Int) (h : 0 < each) : 0 < (lack / each + 1) * each - lack := by
  have h1 := Int.mul_ediv_add_emod lack each
  have h2 := Int.emod_lt_of_pos lack h
  grind
theorem floor_le (lack each : Int) (h : 0 < each) : (lack / each) * each - lack ≤ 0 := by
  have h1 := Int.mul_ediv_add_emod lack each
  have h2 := Int.emod_nonneg lack (show each ≠ 0 by omega)
  grind
/-- the sum is not steeper than low: the flatter side goes on by the steeper one -/
theorem turn_up {l0 l1 h0 h1 f0 f1 s0 s1 t : Int} (G : Gap l0 l1 h0 h1) (I : SI l0 l1 h0 h1 f0 f1 s0 s1) (hn : ¬ l1 * (f0 + s0) < (f1 + s1) * l0) (ht : t = (l1 * (f0 + s0) - (f1 + s1) * l0) / (s1 * l0 - l1 * s0) + 1) :
    1 ≤ t ∧ SI l0 l1 h0 h1 (f0 + t * s0) (f1 + t * s1) s0 s1 ∧ l1 * (f0 + t * s0 + s0) < (f1 + t * s1 + s1) * l0 := by
  obtain ⟨t1, t2⟩ := strict G I
  obtain ⟨i1, i2, i3, i4, i5, i6, i7⟩ := I
  have q0 : 0 ≤ (l1 * (f0 + s0) - (f1 + s1) * l0) / (s1 * l0 - l1 * s0) := Int.ediv_nonneg (by omega) (by omega)
  have fl := floor_lt (l1 * (f0 + s0) - (f1 + s1) * l0) (s1 * l0 - l1 * s0) t1
  have fe := floor_le (l1 * (f0 + s0) - (f1 + s1) * l0) (s1 * l0 - l1 * s0) t1
  have ht1 : 1 ≤ t := by omega
  rw [← ht] at fl
  have fe' : (t - 1) * (s1 * l0 - l1 * s0) - (l1 * (f0 + s0) - (f1 + s1) * l0) ≤ 0 := by
    rw [ht, Int.add_sub_cancel]
    exact fe
  have n1 := mul_nn (show 0 ≤ t by omega) i3
  have n2 := mul_nn (show 0 ≤ t by omega) i4
  refine ⟨ht1, ⟨by omega, by omega, i3, i4, by grind, by grind, i7⟩, by grind⟩
/-- the sum is not flatter than high -/
theorem turn_down {l0 l1 h0 h1 f0 f1 s0 s1 t : Int} (G : Gap l0 l1 h0 h1) (I : SI l0 l1 h0 h1 f0 f1 s0 s1) (hn : ¬ (f1 + s1) * h0 < h1 * (f0 + s0)) (ht : t = -1 * (h1 * (f0 + s0) - (f1 + s1) * h0) / (-1 * (f1 * h0 - h1 * f0)) + 1) :
    1 ≤ t ∧ SI l0 l1 h0 h1 f0 f1 (s0 + t * f0) (s1 + t * f1) ∧ (f1 + (s1 + t * f1)) * h0 < h1 * (f0 + (s0 + t * f0)) := by
  obtain ⟨t1, t2⟩ := strict G I
  obtain ⟨i1, i2, i3, i4, i5, i6, i7⟩ := I
  have each : 0 < -1 * (f1 * h0 - h1 * f0) := by omega
  have q0 : 0 ≤ -1 * (h1 * (f0 + s0) - (f1 + s1) * h0) / (-1 * (f1 * h0 - h1 * f0)) := Int.ediv_nonneg (by omega) (by omega)
  have fl := floor_lt (-1 * (h1 * (f0 + s0) - (f1 + s1) * h0)) _ each
  have fe := floor_le (-1 * (h1 * (f0 + s0) - (f1 + s1) * h0)) _ each
  have ht1 : 1 ≤ t := by omega
  rw [← ht] at fl
  have fe' : (t - 1) * (-1 * (f1 * h0 - h1 * f0)) - (-1 * (h1 * (f0 + s0) - (f1 + s1) * h0)) ≤ 0 := by
    rw [ht, Int.add_sub_cancel]
    exact fe
  have n1 := mul_nn (show 0 ≤ t by omega) i1
  have n2 := mul_nn (show 0 ≤ t by omega) i2
  refine ⟨ht1, ⟨i1, i2, by omega, by omega, by grind, i6, by grind⟩, by grind⟩
theorem sum_pos {f0 f1 s0 s1 : Int} (h0 : 0 ≤ f0) (h1 : 0 ≤ f1) (h2 : 0 ≤ s0) (h3 : 0 ≤ s1) (d : f0 * s1 - f1 * s0 = 1) : 1 ≤ f0 ∧ 1 ≤ s1 := by
  have p := mul_nn h1 h2
  constructor
  · refine (show (0 : Int) < f0 from Int.lt_of_not_ge fun z => ?_)
    rw [show f0 = 0 by omega] at d
    omega
  · refine (show (0 : Int) < s1 from Int.lt_of_not_ge fun z => ?_)
    rw [show s1 = 0 by omega] at d
    omega
theorem gcd_one {a b p q : Int} (h : a * q - b * p = 1) : Int.gcd p q = 1 := by
  have h1 : ((Int.gcd p q : Nat) : Int) ∣ 1 := by
    rw [← h]
    exact Int.dvd_sub (Int.dvd_mul_of_dvd_right (Int.gcd_dvd_right ..) ) (Int.dvd_mul_of_dvd_right (Int.gcd_dvd_left ..))
  have h2 := Int.le_of_dvd (by omega) h1
  have h3 : Int.gcd p q ≠ 0 := fun z => by
    rw [z] at h1
    have := Int.zero_dvd.mp h1
    omega
  omega
end M4

set_option Elab.async false
set_option linter.all false
set_option maxRecDepth 100000
set_option maxHeartbeats 4000000
namespace K4
open PySem PySem.Spec PyProof.Rows L2 Evl M4
abbrev s_simplest_in : Stmt := top 22
theorem sc_simplest_in : FnScope ["low", "high", "flatter", "steeper", "found", "times"] ["low", "high"] (defScope s_simplest_in) := ⟨rfl, rfl, rfl, by decide +kernel, rfl, by decide +kernel, by decide +kernel⟩
/-- the two constants -/
structure Ends2 (K : PySem.W.Frag) (mg : Str → Option Value) (aE aN : Addr) : Prop where
  gE : mg "EAST_SLANT" = some (.ref aE)
  gN : mg "NORTH_SLANT" = some (.ref aN)
  tE : ∀ H : Hp, SqT K H aE [.int 1, .int 0]
  tN : ∀ H : Hp, SqT K H aN [.int 0, .int 1]
/-- half of what fits -/
def Bh (i : Int) : Prop := i.natAbs < 2 ^ 900
theorem bh_le {i j : Int} (h0 : 0 ≤ i) (h : i ≤ j) (hj : Bh j) : Bh i := Nat.lt_of_le_of_lt (by omega) hj
theorem bh_bd {i : Int} (h : Bh i) : Bd i := Nat.lt_trans h (Nat.pow_lt_pow_right (by omega) (by omega))
theorem bh_add {i j : Int} (h : Bh i) (h' : Bh j) : Bd (i + j) := by
  have e : (2 : Nat) ^ 901 = 2 ^ 900 + 2 ^ 900 := by rw [show (901 : Nat) = 900 + 1 from rfl, Nat.pow_succ]; omega
  have e2 : (2 : Nat) ^ 901 < 2 ^ 1000 := Nat.pow_lt_pow_right (by omega) (by omega)
  unfold Bh at h h'
  unfold Bd
  omega
/-- what the simplest slant between is -/
structure Simple (l0 l1 h0 h1 p q f0 f1 s0 s1 : Int) : Prop where
  si : SI l0 l1 h0 h1 f0 f1 s0 s1
  ep : p = f0 + s0
  eq : q = f1 + s1
  above : l1 * p < q * l0
  below : q * h0 < h1 * p
def preSimpIn (K : PySem.W.Frag) : Hp → List V → (V → Hp → Prop) → Prop := fun H vs R => ∃ (x y : V) (l0 l1 h0 h1 : Int), vs = [x, y] ∧ Tp K H x l0 l1 ∧ Tp K H y h0 h1 ∧ Gap l0 l1 h0 h1 ∧ (Bh l0 ∧ Bh l1 ∧ Bh h0 ∧ Bh h1) ∧
  R = fun v H => ∃ p q f0 f1 s0 s1 : Int, Tt H v p q ∧ Simple l0 l1 h0 h1 p q f0 f1 s0 s1
section
variable {P : Program} {w : World} {K : PySem.W.Frag} {mg : Str → Option Value} {base : Heap} {aE aN : Addr}
theorem cal_simplest_in (D : FD K mg "simplest_in" s_simplest_in) (Z : Ends2 K mg aE aN) (c_added : Cal P w K mg base 1 "added" ["one", "other"] (spR (preAdded K))) (c_steeper_in : Cal P w K mg base 1 "steeper_in" ["one", "other"] (spP (preSteep K))) (c_leap : Cal P w K mg base 1 "leap" ["begin", "step", "goal", "is_up"] (spP (preLeap K))) :
    Cal P w K mg base 2 "simplest_in" ["low", "high"] (spR (preSimpIn K)) := by
  refine cal_of0 D sc_simplest_in (fun _ _ _ _ _ _ us hl => match us, hl with | [_, _], _ => rfl) (fun vs H Q E h => ?_) (fun f cdv A outer s H vs Q E hr h => ?_)
  · obtain ⟨R, ⟨x, y, l0, l1, h0, h1, rfl, _⟩, _⟩ := h
    rfl
  · obtain ⟨R, ⟨x, y, l0, l1, h0, h1, rfl, hx, hy, G, ⟨B1, B2, B3, B4⟩, rfl⟩, q⟩ := h
    refine ⟨_, (pss_cons (ps_par (i := 2) (j := 3) (by rfl) sc_simplest_in.nd rfl rfl (by decide) rfl rfl (pa_cons (pe_glob rfl Z.gE (v := .ref aE) rfl) (pa_cons (pe_glob rfl Z.gN (v := .ref aN) rfl) pa_nil)) (by rfl))
      (pss_cons (ps_set (i := 4) sc_simplest_in.nd rfl (.inl rfl) (pe_cal c_added (hr.mono (by decide)) rfl pass0 (pa_cons (pv 2) (pa_cons (pv 3) pa_nil))))
      (pss_cons (ps_while PassesOwn.never (PW.pt (pw_or (pt_not (pt_val (pe_cal c_steeper_in (hr.mono (by decide)) rfl pass0 (pa_cons (pv 4) (pa_cons (pv 0) pa_nil))))) (pw_or1 (pt_not (pt_val (pe_cal c_steeper_in (hr.mono (by decide)) rfl pass0 (pa_cons (pv 1) (pa_cons (pv 4) pa_nil)))))))) (pss_cons (ps_if (pt_not (pt_val (pe_cal c_steeper_in (hr.mono (by decide)) rfl pass0 (pa_cons (pv 4) (pa_cons (pv 0) pa_nil))))) (pss_cons (ps_set (i := 5) sc_simplest_in.nd rfl (.inl rfl) (pe_cal c_leap (hr.mono (by decide)) rfl pass0 (pa_cons (pv 4) (pa_cons (pv 3) (pa_cons (pv 0) (pa_cons pe_bl pa_nil))))))
      (pss_one (ps_set (i := 2) sc_simplest_in.nd rfl (.inl rfl) (pe_tup (pa_cons (pe_op op_add (pe_ix ix_tup (pv 2) pe_int (fun _ _ => rfl)) (pe_op op_mulW (pv 5) (pe_ix ix_tup (pv 3) pe_int (fun _ _ => rfl)))) (pa_cons (pe_op op_add (pe_ix ix_tup (pv 2) pe_int (fun _ _ => rfl)) (pe_op op_mulW (pv 5) (pe_ix ix_tup (pv 3) pe_int (fun _ _ => rfl)))) pa_nil)))))) (pss_cons (ps_set (i := 5) sc_simplest_in.nd rfl (.inl rfl) (pe_cal c_leap (hr.mono (by decide)) rfl pass0 (pa_cons (pv 4) (pa_cons (pv 2) (pa_cons (pv 1) (pa_cons pe_bl pa_nil))))))
      (pss_one (ps_set (i := 3) sc_simplest_in.nd rfl (.inl rfl) (pe_tup (pa_cons (pe_op op_add (pe_ix ix_tup (pv 3) pe_int (fun _ _ => rfl)) (pe_op op_mulW (pv 5) (pe_ix ix_tup (pv 2) pe_int (fun _ _ => rfl)))) (pa_cons (pe_op op_add (pe_ix ix_tup (pv 3) pe_int (fun _ _ => rfl)) (pe_op op_mulW (pv 5) (pe_ix ix_tup (pv 2) pe_int (fun _ _ => rfl)))) pa_nil)))))))
      (pss_one (ps_set (i := 4) sc_simplest_in.nd rfl (.inl rfl) (pe_cal c_added (hr.mono (by decide)) rfl pass0 (pa_cons (pv 2) (pa_cons (pv 3) pa_nil)))))))
      (pss_one (ps_ret (pv 4)))))), ?_⟩
    refine s_par (ea_cons ev_c (ea_cons ev_c ea_nil)) fun H1 e1 => ?_
    refine s_asgR (evr_calR (ea_cons (ev_var rfl) (ea_cons (ev_var rfl) ea_nil)) fun H2 e2 => ⟨_, _, 1, 0, 0, 1, rfl, ⟨aE, rfl, Z.tE _⟩, ⟨aN, rfl, Z.tN _⟩, rfl⟩) fun vf H2 e2 hf => ?_
    -- the loop
    refine s_while (fun m σ' H' => ∃ (vF vS vM : V) (t5 : Option V) (f0 f1 s0 s1 : Int), σ' = [some x, some y, some vF, some vS, some vM, t5] ∧ Ex H H' ∧ Tp K H' vF f0 f1 ∧ Tp K H' vS s0 s1 ∧ Tt H' vM (f0 + s0) (f1 + s1) ∧ SI l0 l1 h0 h1 f0 f1 s0 s1 ∧ m = ((l0 + l1 + h0 + h1) - (f0 + f1 + s0 + s1)).toNat)
      ((l0 + l1 + h0 + h1) - (1 + 0 + 0 + 1)).toNat ⟨_, _, vf, none, 1, 0, 0, 1, rfl, e1.trans e2, ⟨aE, rfl, Z.tE _⟩, ⟨aN, rfl, Z.tN _⟩, hf, ⟨by omega, by omega, by omega, by omega, by omega, ?_, ?_⟩, rfl⟩ fun m σ' H' hw => ?_
    · have := G.l1p; omega
    · have := G.h0p; omega
    obtain ⟨vF, vS, vM, t5, f0, f1, s0, s1, rfl, eH, tF, tS, tM, I, rfl⟩ := hw
    obtain ⟨b1, b2, b3, b4⟩ := bounds G I
    obtain ⟨st1, st2⟩ := strict G I
    obtain ⟨u1, u2⟩ := sum_pos I.f0p I.f1p I.s0p I.s1p I.det
    have Bf0 := bh_le I.f0p b1 B1
    have Bf1 := bh_le I.f1p b2 B2
    have Bs0 := bh_le I.s0p b3 B3
    have Bs1 := bh_le I.s1p b4 B4
    have hup : ∀ {H3 : Hp} {t5' : Option V}, Ex H' H3 → Ev (tCall (spP (preSteep K)) [] E0 (tCons (tVar 4) (tCons (tVar 0) tNil))) [some x, some y, some vF, some vS, some vM, t5'] H3 (.bl (decide (l1 * (f0 + s0) < (f1 + s1) * l0))) := fun e3 =>
      ev_calP (ea_cons (ev_var rfl) (ea_cons (ev_var rfl) ea_nil)) fun H4 e4 => ⟨_, _, f0 + s0, f1 + s1, l0, l1, rfl, ((tM.ex e3).ex e4).tp, ((hx.ex eH).ex e3).ex e4, ⟨bh_add Bf1 Bs1, bh_bd B1, bh_bd B2, bh_add Bf0 Bs0⟩, rfl⟩
    have hdn : ∀ {H3 : Hp} {t5' : Option V}, Ex H' H3 → Ev (tCall (spP (preSteep K)) [] E0 (tCons (tVar 1) (tCons (tVar 4) tNil))) [some x, some y, some vF, some vS, some vM, t5'] H3 (.bl (decide ((f1 + s1) * h0 < h1 * (f0 + s0)))) := fun e3 =>
      ev_calP (ea_cons (ev_var rfl) (ea_cons (ev_var rfl) ea_nil)) fun H4 e4 => ⟨_, _, h0, h1, f0 + s0, f1 + s1, rfl, ((hy.ex eH).ex e3).ex e4, ((tM.ex e3).ex e4).tp, ⟨bh_bd B4, bh_add Bf0 Bs0, bh_add Bf1 Bs1, bh_bd B3⟩, rfl⟩
    refine ⟨_, et_or (et_not (et_B (hup (Ex.refl H')))) (fun _ => et_not (et_B (hdn (Ex.refl H')))), fun hb H3 e3 => ?_, fun hb H3 e3 => ?_⟩
    · refine ⟨fun σ2 H4 => ∃ m', m' < ((l0 + l1 + h0 + h1) - (f0 + f1 + s0 + s1)).toNat ∧ ∃ (vF vS vM : V) (t5 : Option V) (f0 f1 s0 s1 : Int), σ2 = [some x, some y, some vF, some vS, some vM, t5] ∧ Ex H H4 ∧ Tp K H4 vF f0 f1 ∧ Tp K H4 vS s0 s1 ∧ Tt H4 vM (f0 + s0) (f1 + s1) ∧ SI l0 l1 h0 h1 f0 f1 s0 s1 ∧ m' = ((l0 + l1 + h0 + h1) - (f0 + f1 + s0 + s1)).toNat, fun σ2 H4 h => h, ?_⟩
      refine s_if (et_not (et_B (hup e3))) (fun hc H4 e4 => ?_) (fun hc H4 e4 => ?_)
      · have hn : ¬ l1 * (f0 + s0) < (f1 + s1) * l0 := fun z => by
          rw [decide_eq_true z] at hc
          cases hc
        obtain ⟨ht, I2, _⟩ := turn_up G I hn rfl
        refine s_asg (ev_calP (z := .int (leapV (f0 + s0) (f1 + s1) s0 s1 l0 l1 true)) (ea_cons (ev_var rfl) (ea_cons (ev_var rfl) (ea_cons (ev_var rfl) (ea_cons ev_c ea_nil)))) fun H5 e5 => ⟨_, _, _, _, _, _, _, _, _, true, rfl, (((tM.ex e3).ex e4).ex e5).tp, ((tS.ex e3).ex e4).ex e5, (((hx.ex eH).ex e3).ex e4).ex e5, ⟨bh_add Bf0 Bs0, bh_add Bf1 Bs1, bh_bd Bs0, bh_bd Bs1, bh_bd B1, bh_bd B2⟩, st1, rfl⟩) fun H5 e5 => ?_
        have el : leapV (f0 + s0) (f1 + s1) s0 s1 l0 l1 true = (l1 * (f0 + s0) - (f1 + s1) * l0) / (s1 * l0 - l1 * s0) + 1 := rfl
        generalize htt : leapV (f0 + s0) (f1 + s1) s0 s1 l0 l1 true = t at *
        rw [← el] at ht I2
        obtain ⟨c1, c2, _, _⟩ := bounds G I2
        have n1 := mul_nn (show 0 ≤ t by omega) I.s0p
        have n2 := mul_nn (show 0 ≤ t by omega) I.s1p
        have Bt : Bd t := by
          have k := Int.mul_le_mul_of_nonneg_right ht I.s1p
          have k2 : t * 1 ≤ t * s1 := Int.mul_le_mul_of_nonneg_left u2 (by omega)
          have k3 : t ≤ l1 := by have := I.f1p; omega
          exact bh_bd (bh_le (by omega) k3 B2)
        have tF5 := ((tF.ex e3).ex e4).ex e5
        have tS5 := ((tS.ex e3).ex e4).ex e5
        refine s_asgR (evr_tup (K := K) (p := f0 + t * s0) (q := f1 + t * s1) (ea_cons (ev_op (ev_fst (ev_var rfl) tF5) (ev_op (ev_var rfl) (ev_fst (ev_var rfl) tS5) (rv_I (bd_mul Bt (bh_bd Bs0)))) rv_I0) (ea_cons (ev_op (ev_snd (ev_var rfl) tF5) (ev_op (ev_var rfl) (ev_snd (ev_var rfl) tS5) (rv_I (bd_mul Bt (bh_bd Bs1)))) rv_I0) ea_nil))) fun vF2 H6 e6 hF2 => ?_
        refine s_asgR (evr_calR (ea_cons (ev_var rfl) (ea_cons (ev_var rfl) ea_nil)) fun H7 e7 => ⟨_, _, _, _, _, _, rfl, hF2.ex e7, (tS5.ex e6).ex e7, rfl⟩) fun vM2 H7 e7 hM2 => ?_
        refine ⟨_, ?_, vF2, vS, vM2, some (.int t), f0 + t * s0, f1 + t * s1, s0, s1, rfl, ((((eH.trans e3).trans e4).trans e5).trans e6).trans e7, hF2.ex e7, (tS5.ex e6).ex e7, hM2, I2, rfl⟩
        have k2 : 1 * s1 ≤ t * s1 := Int.mul_le_mul_of_nonneg_right ht I.s1p
        omega
      · have hn : ¬ (f1 + s1) * h0 < h1 * (f0 + s0) := fun z => by
          have hu : l1 * (f0 + s0) < (f1 + s1) * l0 := Classical.byContradiction fun k => by
            rw [decide_eq_false k] at hc
            cases hc
          rw [decide_eq_true z, decide_eq_true hu] at hb
          cases hb
        obtain ⟨ht, I2, _⟩ := turn_down G I hn rfl
        refine s_asg (ev_calP (z := .int (leapV (f0 + s0) (f1 + s1) f0 f1 h0 h1 false)) (ea_cons (ev_var rfl) (ea_cons (ev_var rfl) (ea_cons (ev_var rfl) (ea_cons ev_c ea_nil)))) fun H5 e5 => ⟨_, _, _, _, _, _, _, _, _, false, rfl, (((tM.ex e3).ex e4).ex e5).tp, ((tF.ex e3).ex e4).ex e5, (((hy.ex eH).ex e3).ex e4).ex e5, ⟨bh_add Bf0 Bs0, bh_add Bf1 Bs1, bh_bd Bf0, bh_bd Bf1, bh_bd B3, bh_bd B4⟩, by show 0 < -1 * (f1 * h0 - h1 * f0); omega, rfl⟩) fun H5 e5 => ?_
        have el : leapV (f0 + s0) (f1 + s1) f0 f1 h0 h1 false = -1 * (h1 * (f0 + s0) - (f1 + s1) * h0) / (-1 * (f1 * h0 - h1 * f0)) + 1 := rfl
        generalize htt : leapV (f0 + s0) (f1 + s1) f0 f1 h0 h1 false = t at *
        rw [← el] at ht I2
        obtain ⟨_, _, c1, c2⟩ := bounds G I2
        have n1 := mul_nn (show 0 ≤ t by omega) I.f0p
        have n2 := mul_nn (show 0 ≤ t by omega) I.f1p
        have Bt : Bd t := by
          have k2 : t * 1 ≤ t * f0 := Int.mul_le_mul_of_nonneg_left u1 (by omega)
          have k3 : t ≤ h0 := by have := I.s0p; omega
          exact bh_bd (bh_le (by omega) k3 B3)
        have tF5 := ((tF.ex e3).ex e4).ex e5
        have tS5 := ((tS.ex e3).ex e4).ex e5
        refine s_asgR (evr_tup (K := K) (p := s0 + t * f0) (q := s1 + t * f1) (ea_cons (ev_op (ev_fst (ev_var rfl) tS5) (ev_op (ev_var rfl) (ev_fst (ev_var rfl) tF5) (rv_I (bd_mul Bt (bh_bd Bf0)))) rv_I0) (ea_cons (ev_op (ev_snd (ev_var rfl) tS5) (ev_op (ev_var rfl) (ev_snd (ev_var rfl) tF5) (rv_I (bd_mul Bt (bh_bd Bf1)))) rv_I0) ea_nil))) fun vS2 H6 e6 hS2 => ?_
        refine s_asgR (evr_calR (ea_cons (ev_var rfl) (ea_cons (ev_var rfl) ea_nil)) fun H7 e7 => ⟨_, _, _, _, _, _, rfl, (tF5.ex e6).ex e7, hS2.ex e7, rfl⟩) fun vM2 H7 e7 hM2 => ?_
        refine ⟨_, ?_, vF, vS2, vM2, some (.int t), f0, f1, s0 + t * f0, s1 + t * f1, rfl, ((((eH.trans e3).trans e4).trans e5).trans e6).trans e7, (tF5.ex e6).ex e7, hS2.ex e7, hM2, I2, rfl⟩
        have k2 : 1 * f0 ≤ t * f0 := Int.mul_le_mul_of_nonneg_right ht I.f0p
        omega
    · have hu : l1 * (f0 + s0) < (f1 + s1) * l0 := Classical.byContradiction fun k => by
        rw [decide_eq_false k] at hb
        cases hb
      have hd : (f1 + s1) * h0 < h1 * (f0 + s0) := Classical.byContradiction fun k => by
        rw [decide_eq_false k, decide_eq_true hu] at hb
        cases hb
      exact s_ret (ev_var rfl) fun H4 e4 => q vM H4 ((eH.trans e3).trans e4) ⟨f0 + s0, f1 + s1, f0, f1, s0, s1, (tM.ex e3).ex e4, I, rfl, rfl, hu, hd⟩
end
end K4

set_option Elab.async false
set_option linter.all false
set_option maxRecDepth 100000
set_option maxHeartbeats 4000000
namespace K4
open PySem PySem.Spec PyProof.Rows L2 Evl M4
abbrev s_is_integer : Stmt := top 11
abbrev s_is_list : Stmt := top 12
abbrev s_is_point : Stmt := top 13
abbrev s_is_slant : Stmt := top 18
theorem sc_is_integer : FnScope ["value"] ["value"] (defScope s_is_integer) := ⟨rfl, rfl, rfl, by decide +kernel, rfl, by decide +kernel, by decide +kernel⟩
theorem sc_is_list : FnScope ["value"] ["value"] (defScope s_is_list) := ⟨rfl, rfl, rfl, by decide +kernel, rfl, by decide +kernel, by decide +kernel⟩
theorem sc_is_point : FnScope ["value", "each"] ["value"] (defScope s_is_point) := ⟨rfl, rfl, rfl, by decide +kernel, rfl, by decide +kernel, by decide +kernel⟩
theorem sc_is_slant : FnScope ["value"] ["value"] (defScope s_is_slant) := ⟨rfl, rfl, rfl, by decide +kernel, rfl, by decide +kernel, by decide +kernel⟩
/-! ### values that may be slants -/
/-- an int or a truth, as a value -/
def IB : V → Prop
  | .int _ => True
  | .bl _ => True
  | _ => False
def isI : V → Bool
  | .int _ => true
  | _ => false
/-- no list, no tuple -/
inductive NoSeq (H : Hp) : V → Prop where
  | non : NoSeq H .non
  | int (i : Int) : NoSeq H (.int i)
  | str (x : Str) : NoSeq H (.str x)
  | dict {a : Addr} {kvs : List (Key × V)} (h : H a = some (.dK kvs)) : NoSeq H (.ref a)
/-- a list or tuple of ints and truths -/
def Seq (H : Hp) (v : V) (xs : List V) : Prop := ∃ a, v = .ref a ∧ (H a = some (.lst xs) ∨ H a = some (.tup xs)) ∧ (∀ x ∈ xs, IB x) ∧ xs.length ≤ 100
theorem NoSeq.ex {H H' : Hp} {v : V} (e : Ex H H') : NoSeq H v → NoSeq H' v
  | .non => .non
  | .int i => .int i
  | .str x => .str x
  | .dict h => .dict (e _ _ h)
theorem Seq.ex {H H' : Hp} {v : V} {xs : List V} (e : Ex H H') (h : Seq H v xs) : Seq H' v xs := h.imp fun _ z => ⟨z.1, z.2.1.imp (e _ _) (e _ _), z.2.2⟩
section
variable {P : Program} {w : World} {K : PySem.W.Frag} {mg : Str → Option Value} {base : Heap}
theorem rc_isi {H : Hp} {x : V} {t : Value} {n : String} {b : Bool} (ty : ∀ H1, Ex H H1 → TyX K H1 x t) (hk : PySem.W.kitOne K t (.type n) = some b) : RC (rIsi K) [x, .ty n] H (.bl b) := fun H1 e Q q => ⟨x, .ty n, t, .type n, b, rfl, .ty n, ty H1 e, hk, q H1 (Ex.refl H1)⟩
/-! ### is_integer -/
def preIsInt : Hp → List V → V → Prop := fun _ vs z => ∃ x, vs = [x] ∧ IB x ∧ z = .bl (isI x)
theorem cal_is_integer (D : FD K mg "is_integer" s_is_integer) (T : MF mg) : Cal P w K mg base 1 "is_integer" ["value"] (spP preIsInt) := by
  refine cal_of0 D sc_is_integer (fun _ _ _ _ _ _ us hl => match us, hl with | [_], _ => rfl) (fun vs H Q E h => ?_) (fun f cdv A outer s H vs Q E hr h => ?_)
  · obtain ⟨z, ⟨x, rfl, _⟩, _⟩ := h
    rfl
  · obtain ⟨z, ⟨x, rfl, hx, rfl⟩, q⟩ := h
    refine ⟨_, (pss_one (ps_ret (pe_and (pe_callB call_isi (by rfl) T.isinstance (by decide +kernel) (pa_cons (pv 0) (pa_cons (pe_bltn (v := .ty "int") (by rfl) T.int (by decide +kernel) rfl) pa_nil))) (pe_one (pe_not (pe_callB call_isi (by rfl) T.isinstance (by decide +kernel) (pa_cons (pv 0) (pa_cons (pe_bltn (v := .ty "bool") (by rfl) T.bool (by decide +kernel) rfl) pa_nil)))))))), ?_⟩
    cases x with
    | int i =>
      refine s_ret (v := .bl (true && !false)) (ev_andV (ev_cb (ea_cons (ev_var rfl) (ea_cons ev_c ea_nil)) (rc_isi (t := .type "int") (fun H1 _ => .base (.int i)) (kit_ty (by decide +kernel)))) (fun _ => ev_notV (ev_cb (ea_cons (ev_var rfl) (ea_cons ev_c ea_nil)) (rc_isi (t := .type "int") (fun H1 _ => .base (.int i)) (kit_ty (by decide +kernel)))))) q
    | bl c =>
      refine s_ret (v := .bl (true && !true)) (ev_andV (ev_cb (ea_cons (ev_var rfl) (ea_cons ev_c ea_nil)) (rc_isi (t := .type "bool") (fun H1 _ => .base (.bl c)) (kit_ty (by decide +kernel)))) (fun _ => ev_notV (ev_cb (ea_cons (ev_var rfl) (ea_cons ev_c ea_nil)) (rc_isi (t := .type "bool") (fun H1 _ => .base (.bl c)) (kit_ty (by decide +kernel)))))) q
    | _ => exact hx.elim
/-! ### is_list -/
def preIsList : Hp → List V → V → Prop := fun H vs z => ∃ x, vs = [x] ∧ ((NoSeq H x ∧ z = .bl false) ∨ ∃ xs, Seq H x xs ∧ z = .bl true)
theorem cal_is_list (D : FD K mg "is_list" s_is_list) (T : MF mg) : Cal P w K mg base 1 "is_list" ["value"] (spP preIsList) := by
  refine cal_of0 D sc_is_list (fun _ _ _ _ _ _ us hl => match us, hl with | [_], _ => rfl) (fun vs H Q E h => ?_) (fun f cdv A outer s H vs Q E hr h => ?_)
  · obtain ⟨z, ⟨x, rfl, _⟩, _⟩ := h
    rfl
  · obtain ⟨z, ⟨x, rfl, hx⟩, q⟩ := h
    refine ⟨_, (pss_one (ps_ret (pe_callB call_isiT (by rfl) T.isinstance (by decide +kernel) (pa_cons (pv 0) (pa_cons (pe_tup (pa_cons (pe_bltn (v := .ty "list") (by rfl) T.list (by decide +kernel) rfl) (pa_cons (pe_bltn (v := .ty "tuple") (by rfl) T.tuple (by decide +kernel) rfl) pa_nil))) pa_nil))))), ?_⟩
    have fin : ∀ (t : Value) (b : Bool), (∀ H1, Ex H H1 → TyX K H1 x t) → PySem.W.kitAny K t [.type "list", .type "tuple"] = some b → z = .bl b → tRet (tCB (rIsiT K) (tCons (tVar 0) (tCons (tTup (tCons (tC (.ty "list")) (tCons (tC (.ty "tuple")) tNil))) tNil))) { nx := fun _ H' => Q .non H', rt := Q } (L2.start ["value"] [x]) H := by
      intro t b ty hk ez
      refine ⟨x, rfl, by show 2 ≤ sizeLine; rw [sizeLine_eq]; omega, fun p hp => ⟨x, p, _, t, _, b, rfl, upd_same, .cons (.ty _) (.cons (.ty _) .nil), ty _ (Ex.new hp), hk, ?_⟩⟩
      rw [← ez]
      exact q _ (Ex.new hp)
    have ans : ∀ (a : String) (b1 b2 : Bool), kitB a "list" = some b1 → kitB a "tuple" = some b2 → PySem.W.kitAny K (.type a) [.type "list", .type "tuple"] = some (b1 || b2) := by
      intro a b1 b2 h1 h2
      cases b1 with
      | true => exact kitAny_cons (kit_ty h1) (fun z => by cases z) (fun _ => rfl)
      | false =>
        refine kitAny_cons (kit_ty h1) (fun _ => ?_) (fun z => by cases z)
        cases b2 with
        | true => exact kitAny_cons (kit_ty h2) (fun z => by cases z) (fun _ => rfl)
        | false => exact kitAny_cons (kit_ty h2) (fun _ => kitAny_nil) (fun z => by cases z)
    rcases hx with ⟨hx, rfl⟩ | ⟨xs, ⟨a, rfl, hs, _⟩, rfl⟩
    · cases hx with
      | non => exact fin _ _ (fun _ _ => .base .non) (ans "NoneType" false false (by decide +kernel) (by decide +kernel)) rfl
      | int i => exact fin _ _ (fun _ _ => .base (.int i)) (ans "int" false false (by decide +kernel) (by decide +kernel)) rfl
      | str y => exact fin _ _ (fun _ _ => .base (.str y)) (ans "str" false false (by decide +kernel) (by decide +kernel)) rfl
      | dict h => exact fin _ _ (fun _ e => .base (.dK (e _ _ h))) (ans "dict" false false (by decide +kernel) (by decide +kernel)) rfl
    · rcases hs with h | h
      · exact fin _ _ (fun _ e => .base (.lst (e _ _ h))) (ans "list" true false (by decide +kernel) (by decide +kernel)) rfl
      · exact fin _ _ (fun _ e => .base (.tup (e _ _ h))) (ans "tuple" false true (by decide +kernel) (by decide +kernel)) rfl
theorem rv_eqI {a b : Int} {H : Hp} : RV rEq (.int a) (.int b) H (.bl (decide (a = b))) := by
  have e : decide (V.int a = V.int b) = decide (a = b) := decide_eq_decide.mpr ⟨V.int.inj, fun z => by rw [z]⟩
  rw [← e]
  exact rv_eq rfl
/-! ### is_point -/
theorem el_lcT {σ : L2.St} {H : Hp} {t : TT} {te tl : TE} {a : Addr} {xs : List V} {j : Nat} {vs : List Nat} (f : Nat → Bool) (v : Nat → V) (h : Ev tl σ H (.ref a)) (hx : SqT K H a xs) (hz : xs.length ≤ 40000) (hw : ∀ x, wipe ((wipe σ vs).set j (some x)) vs = wipe σ vs)
    (ht : ∀ (i : Nat) (x : V) H1, Ex H H1 → xs[i]? = some x → EvT t ((wipe σ vs).set j (some x)) H1 (f i)) (he : ∀ (i : Nat) (x : V) H1, Ex H H1 → xs[i]? = some x → f i = true → Ev te ((wipe σ vs).set j (some x)) H1 (v i)) :
    EvL (tLc (iTup K tl) (gName j) t te vs) σ H (given xs.length f v) := fun H0 e Q q => h H0 e _ fun H1 e1 => ⟨a, rfl, ⟨xs, ex_t (e.trans e1) hx⟩, fun Dl hD =>
  lc_tup (xs := xs) (Cw H1 f v Dl) ⟨hD, Ex.new hD, upd_same⟩ (fun i H' _ p => ex_t ((e.trans e1).trans p.2.1) hx) (fun i x H' hi p => ⟨hw x, cw_turn p (by have := (List.getElem?_eq_some_iff.mp hi).1; omega) (ht i x H1 (e.trans e1) hi) (fun hf => he i x H1 (e.trans e1) hi hf)⟩)
    (fun H' p => q Dl H' (fresh_back e1 p.1) (e1.trans p.2.1) p.2.2)⟩
theorem et_yes {σ : L2.St} {H : Hp} : EvT tYes σ H true := fun H1 _ _ q => q H1 (Ex.refl H1)
theorem given_map {xs : List V} {g : V → Bool} : given xs.length (fun _ => true) (fun i => .bl (g (xs.getD i .non))) = (xs.map g).map V.bl := by
  unfold given
  rw [List.filter_eq_self.mpr (fun _ _ => rfl)]
  refine List.ext_getElem? fun i => ?_
  rw [List.getElem?_map, List.getElem?_map, List.getElem?_map]
  by_cases hi : i < xs.length
  · rw [List.getElem?_range hi, List.getElem?_eq_getElem hi]
    simp [List.getElem?_eq_getElem hi]
  · rw [List.getElem?_eq_none (by simp; omega), List.getElem?_eq_none (by omega)]
    rfl
theorem given_map' {xs : List V} {g : V → Bool} : given xs.length (fun _ => true) (fun i => .bl (g (xs.getD i .non))) = ((xs.map g).map V.bl) := given_map
theorem ev_lenS {σ : L2.St} {H : Hp} {ta : TE} {v : V} {xs : List V} (h : Ev ta σ H v) (hs : Seq H v xs) : Ev (tCB (fun vs H Q => ∃ p ys, vs = [.ref p] ∧ (SqL K H p ys ∨ SqT K H p ys) ∧ Q (.int ys.length) H) (tCons ta tNil)) σ H (.int (xs.length : Int)) := fun H1 e Q q =>
  h H1 e _ fun H2 e2 => by
    obtain ⟨a, rfl, hh, _⟩ := hs
    refine ⟨a, xs, rfl, ?_, q H2 e2⟩
    rcases hh with z | z
    · exact .inl (sq_of (e2 _ _ (e _ _ z)))
    · exact .inr (st_of (e2 _ _ (e _ _ z)))
theorem ev_all {σ : L2.St} {H : Hp} {te : TE} {bs : List Bool} (h : EvL te σ H (bs.map V.bl)) : Ev (tCB (rAll K) (tCons te tNil)) σ H (.bl (bs.all id)) := fun H1 e Q q =>
  h H1 e _ fun p H2 _ e2 hp => ⟨p, bs, rfl, sq_of hp, q H2 e2⟩
def prePoint : Hp → List V → V → Prop := fun H vs z => ∃ x, vs = [x] ∧ ((NoSeq H x ∧ z = .bl false) ∨ ∃ xs, Seq H x xs ∧ z = .bl (decide ((xs.length : Int) = 2) && xs.all isI))
theorem cal_is_point (D : FD K mg "is_point" s_is_point) (T : MF mg) (c_is_list : Cal P w K mg base 1 "is_list" ["value"] (spP preIsList)) (c_is_integer : Cal P w K mg base 1 "is_integer" ["value"] (spP preIsInt)) : Cal P w K mg base 2 "is_point" ["value"] (spP prePoint) := by
  refine cal_of0 D sc_is_point (fun _ _ _ _ _ _ us hl => match us, hl with | [_], _ => rfl) (fun vs H Q E h => ?_) (fun f cdv A outer s H vs Q E hr h => ?_)
  · obtain ⟨z, ⟨x, rfl, _⟩, _⟩ := h
    rfl
  · obtain ⟨z, ⟨x, rfl, hx⟩, q⟩ := h
    rcases hx with ⟨hx, rfl⟩ | ⟨xs, hs, rfl⟩
    · refine ⟨_, (pss_one (ps_ret (pe_and (pe_cal c_is_list (hr.mono (by decide)) rfl pass0 (pa_cons (pv 0) pa_nil)) (pe_and (pe_cmpR op_eq (pe_callB call_len_seq (by rfl) T.len (by decide +kernel) (pa_cons (pv 0) pa_nil)) pe_int (nomark _)) (pe_one (pe_callB (cr_all rfl) (by rfl) T.all (by decide +kernel) (pa_cons
        (pe_lc (own := [("each", 1)]) (g := gName 1) (tt := tYes) rfl sc_is_point.nd (pi_list (pv 0)) (blkOk_by (N := ["value", "each"]) (sc := defScope s_is_point) (by decide +kernel)) (fun _ _ _ _ _ => pg_name (i := 1) sc_is_point.nd rfl (Or.inl rfl)) (fun _ _ _ _ _ => pts_nil) (fun _ _ _ _ _ => pe_cal c_is_integer (hr.mono (by decide)) rfl pass0 (pa_cons (pv 1) pa_nil))) pa_nil))))))), ?_⟩
      exact s_ret (v := .bl (false && true)) (ev_andV (ev_calP (ea_cons (ev_var rfl) ea_nil) fun H1 e => ⟨x, rfl, .inl ⟨hx.ex e, rfl⟩⟩) (fun z => by cases z)) q
    · obtain ⟨a, rfl, hh, hib, hle⟩ := id hs
      have cells : ∀ {σ : L2.St} {H1 : Hp} (i : Nat) (x : V) H2, Ex H H2 → xs[i]? = some x → Ev (tCall (spP preIsInt) [] E0 (tCons (tVar 1) tNil)) [some (V.ref a), some x] H2 (.bl (isI (xs.getD i .non))) := fun i x H2 _ hi => by
        rw [List.getD_eq_getElem?_getD, hi]
        exact ev_calP (ea_cons (ev_var rfl) ea_nil) fun H3 _ => ⟨x, rfl, hib x (List.mem_of_getElem? hi), rfl⟩
      have eall : (xs.map isI).all id = xs.all isI := by rw [List.all_map]; rfl
      rcases hh with hL | hT
      · refine ⟨_, (pss_one (ps_ret (pe_and (pe_cal c_is_list (hr.mono (by decide)) rfl pass0 (pa_cons (pv 0) pa_nil)) (pe_and (pe_cmpR op_eq (pe_callB call_len_seq (by rfl) T.len (by decide +kernel) (pa_cons (pv 0) pa_nil)) pe_int (nomark _)) (pe_one (pe_callB (cr_all rfl) (by rfl) T.all (by decide +kernel) (pa_cons
          (pe_lc (own := [("each", 1)]) (g := gName 1) (tt := tYes) rfl sc_is_point.nd (pi_list (pv 0)) (blkOk_by (N := ["value", "each"]) (sc := defScope s_is_point) (by decide +kernel)) (fun _ _ _ _ _ => pg_name (i := 1) sc_is_point.nd rfl (Or.inl rfl)) (fun _ _ _ _ _ => pts_nil) (fun _ _ _ _ _ => pe_cal c_is_integer (hr.mono (by decide)) rfl pass0 (pa_cons (pv 1) pa_nil))) pa_nil))))))), ?_⟩
        refine s_ret (v := .bl (true && (decide ((xs.length : Int) = 2) && xs.all isI))) (ev_andV (ev_calP (ea_cons (ev_var rfl) ea_nil) fun H1 e => ⟨_, rfl, .inr ⟨xs, hs.ex e, rfl⟩⟩) (fun _ => ev_andV (ev_op (ev_lenS (ev_var rfl) hs) ev_c (rv_eqI)) (fun _ => ?_))) q
        rw [← eall]
        exact ev_all (by
          have h2 := el_lcL (te := tCall (spP preIsInt) [] E0 (tCons (tVar 1) tNil)) (j := 1) (vs := [1]) (fun _ => true) (fun i => .bl (isI (xs.getD i .non))) (ev_var (σ := [some (V.ref a), none]) (i := 0) rfl) (sq_of (K := K) hL) (by omega) (fun _ => rfl) (fun _ _ _ _ _ => et_yes) (fun i x H2 e2 hi _ => cells (σ := []) (H1 := H) i x H2 e2 hi)
          rw [given_map] at h2
          exact h2)
      · refine ⟨_, (pss_one (ps_ret (pe_and (pe_cal c_is_list (hr.mono (by decide)) rfl pass0 (pa_cons (pv 0) pa_nil)) (pe_and (pe_cmpR op_eq (pe_callB call_len_seq (by rfl) T.len (by decide +kernel) (pa_cons (pv 0) pa_nil)) pe_int (nomark _)) (pe_one (pe_callB (cr_all rfl) (by rfl) T.all (by decide +kernel) (pa_cons
          (pe_lc (own := [("each", 1)]) (g := gName 1) (tt := tYes) rfl sc_is_point.nd (pi_tup (pv 0)) (blkOk_by (N := ["value", "each"]) (sc := defScope s_is_point) (by decide +kernel)) (fun _ _ _ _ _ => pg_name (i := 1) sc_is_point.nd rfl (Or.inl rfl)) (fun _ _ _ _ _ => pts_nil) (fun _ _ _ _ _ => pe_cal c_is_integer (hr.mono (by decide)) rfl pass0 (pa_cons (pv 1) pa_nil))) pa_nil))))))), ?_⟩
        refine s_ret (v := .bl (true && (decide ((xs.length : Int) = 2) && xs.all isI))) (ev_andV (ev_calP (ea_cons (ev_var rfl) ea_nil) fun H1 e => ⟨_, rfl, .inr ⟨xs, hs.ex e, rfl⟩⟩) (fun _ => ev_andV (ev_op (ev_lenS (ev_var rfl) hs) ev_c (rv_eqI)) (fun _ => ?_))) q
        rw [← eall]
        exact ev_all (by
          have h2 := el_lcT (te := tCall (spP preIsInt) [] E0 (tCons (tVar 1) tNil)) (j := 1) (vs := [1]) (fun _ => true) (fun i => .bl (isI (xs.getD i .non))) (ev_var (σ := [some (V.ref a), none]) (i := 0) rfl) (st_of (K := K) hT) (by omega) (fun _ => rfl) (fun _ _ _ _ _ => et_yes) (fun i x H2 e2 hi _ => cells (σ := []) (H1 := H) i x H2 e2 hi)
          rw [given_map] at h2
          exact h2)
/-! ### is_slant -/
def slantB : List V → Bool
  | [.int p, .int q] => decide (0 ≤ p) && (decide (0 ≤ q) && decide ((Int.gcd p q : Int) = 1))
  | _ => false
theorem point_two : ∀ xs : List V, (decide ((xs.length : Int) = 2) && xs.all isI) = true → ∃ p q, xs = [.int p, .int q]
  | [], h => by simp at h
  | [_], h => by simp at h
  | [x, y], h => by
    have h2 : ((isI x) && ((isI y) && true)) = true := by simpa using h
    cases x <;> cases y <;> first | exact ⟨_, _, rfl⟩ | cases h2
  | _ :: _ :: _ :: _, h => by
    simp at h
    omega
theorem point_no : ∀ xs : List V, (decide ((xs.length : Int) = 2) && xs.all isI) = false → slantB xs = false := fun xs h => by
  unfold slantB
  split
  · cases h
  · rfl
def preSlant : Hp → List V → V → Prop := fun H vs z => ∃ x, vs = [x] ∧ ((NoSeq H x ∧ z = .bl false) ∨ ∃ xs, Seq H x xs ∧ z = .bl (slantB xs))
theorem cal_is_slant (D : FD K mg "is_slant" s_is_slant) (c_is_point : Cal P w K mg base 2 "is_point" ["value"] (spP prePoint)) (c_common : Cal P w K mg base 1 "common" ["one", "other"] (spP preCommon)) : Cal P w K mg base 3 "is_slant" ["value"] (spP preSlant) := by
  refine cal_of0 D sc_is_slant (fun _ _ _ _ _ _ us hl => match us, hl with | [_], _ => rfl) (fun vs H Q E h => ?_) (fun f cdv A outer s H vs Q E hr h => ?_)
  · obtain ⟨z, ⟨x, rfl, _⟩, _⟩ := h
    rfl
  · obtain ⟨z, ⟨x, rfl, hx⟩, q⟩ := h
    have run : ∀ {r : R2} (ix : IxR (cxOf CX0 P w K mg base ["value"] "is_slant" (defScope s_is_slant) f cdv A outer s H E).nox r) (b : Bool) (hb : ∀ H1, Ex H H1 → prePoint H1 [x] (.bl b)) (h0 : b = true → ∃ p q : Int, (∀ H1, Ex H H1 → Ev (tOp r (tVar 0) (tC (.int 0))) [some x] H1 (.int p)) ∧ (∀ H1, Ex H H1 → Ev (tOp r (tVar 0) (tC (.int 1))) [some x] H1 (.int q)) ∧ z = .bl (slantB [.int p, .int q])) (h1 : b = false → z = .bl false),
        ∃ t, PSs (cxOf CX0 P w K mg base ["value"] "is_slant" (defScope s_is_slant) f cdv A outer s H E).nox (defBody s_is_slant) t ∧ t { nx := fun _ H' => Q .non H', rt := Q } (L2.start ["value"] [x]) H := by
      intro r ix b hb h0 h1
      refine ⟨_, (pss_one (ps_ret (pe_and (pe_cal c_is_point (hr.mono (by decide)) rfl pass0 (pa_cons (pv 0) pa_nil)) (pe_and (pe_cmpR op_ge (pe_ix ix (pv 0) pe_int (fun _ _ => rfl)) pe_int (nomark _)) (pe_and (pe_cmpR op_ge (pe_ix ix (pv 0) pe_int (fun _ _ => rfl)) pe_int (nomark _)) (pe_one (pe_cmpR op_eq (pe_cal c_common (hr.mono (by decide)) rfl pass0 (pa_cons (pe_ix ix (pv 0) pe_int (fun _ _ => rfl)) (pa_cons (pe_ix ix (pv 0) pe_int (fun _ _ => rfl)) pa_nil))) pe_int (nomark _)))))))), ?_⟩
      cases b with
      | false =>
        have hz := h1 rfl
        subst hz
        exact s_ret (v := .bl (false && true)) (ev_andV (ev_calP (ea_cons (ev_var rfl) ea_nil) hb) (fun z => by cases z)) q
      | true =>
        obtain ⟨p, q', i0, i1, rfl⟩ := h0 rfl
        exact s_ret (v := .bl (true && (decide (0 ≤ p) && (decide (0 ≤ q') && decide ((Int.gcd p q' : Int) = 1))))) (ev_andV (ev_calP (ea_cons (ev_var rfl) ea_nil) hb) (fun _ => ev_andV (ev_op (i0 H (Ex.refl H)) ev_c rv_I0) (fun _ => ev_andV (ev_op (i1 H (Ex.refl H)) ev_c rv_I0) (fun _ => ev_op (ev_calP (ea_cons (i0 H (Ex.refl H)) (ea_cons (i1 H (Ex.refl H)) ea_nil)) fun H1 e => ⟨p, q', rfl, rfl⟩) ev_c rv_eqI)))) q
    rcases hx with ⟨hx, rfl⟩ | ⟨xs, hs, rfl⟩
    · exact run ix_list false (fun H1 e => ⟨x, rfl, .inl ⟨hx.ex e, rfl⟩⟩) (fun z => by cases z) (fun _ => rfl)
    · have hpt : ∀ H1, Ex H H1 → prePoint H1 [x] (.bl (decide ((xs.length : Int) = 2) && xs.all isI)) := fun H1 e => ⟨x, rfl, .inr ⟨xs, hs.ex e, rfl⟩⟩
      obtain ⟨a, rfl, hh, _, _⟩ := hs
      rcases hh with hL | hT
      · refine run ix_list _ hpt (fun hb => ?_) (fun hb => by rw [point_no xs hb])
        obtain ⟨p, q', rfl⟩ := point_two xs hb
        exact ⟨p, q', fun H1 e => ev_op (ev_var rfl) ev_c (rv_ixL (sq_of (e _ _ hL)) rfl), fun H1 e => ev_op (ev_var rfl) ev_c (rv_ixL (sq_of (e _ _ hL)) rfl), rfl⟩
      · refine run ix_tup _ hpt (fun hb => ?_) (fun hb => by rw [point_no xs hb])
        obtain ⟨p, q', rfl⟩ := point_two xs hb
        exact ⟨p, q', fun H1 e => ev_op (ev_var rfl) ev_c (rv_ixT (st_of (e _ _ hT)) rfl), fun H1 e => ev_op (ev_var rfl) ev_c (rv_ixT (st_of (e _ _ hT)) rfl), rfl⟩
end
end K4

set_option Elab.async false
set_option linter.all false
set_option maxRecDepth 100000
set_option maxHeartbeats 4000000
namespace K4
open PySem PySem.Spec PyProof.Rows L2 Evl M4
abbrev s_need_slant : Stmt := top 23
abbrev s_is_steeper : Stmt := top 24
abbrev s_simplest : Stmt := top 25
theorem sc_need_slant : FnScope ["value", "part"] ["value", "part"] (defScope s_need_slant) := ⟨rfl, rfl, rfl, by decide +kernel, rfl, by decide +kernel, by decide +kernel⟩
theorem sc_is_steeper : FnScope ["one", "other"] ["one", "other"] (defScope s_is_steeper) := ⟨rfl, rfl, rfl, by decide +kernel, rfl, by decide +kernel, by decide +kernel⟩
theorem sc_simplest : FnScope ["low", "high", "one", "other"] ["low", "high"] (defScope s_simplest) := ⟨rfl, rfl, rfl, by decide +kernel, rfl, by decide +kernel, by decide +kernel⟩
/-- an own exception class of the module -/
structure ErrK (P : Program) (w : World) (K : PySem.W.Frag) (mg : Str → Option Value) (base : Heap) (x : Str) (C : Addr) (fld : Str) : Prop where
  ex : ∃ (fI : Addr) (fd : FuncData), OexC K C ∧ PySem.W.findIn K (.ref C) "__init__" = some (some (.ref fI)) ∧ PySem.W.typeIn K (.ref fI) = some (.type "function") ∧ FnOk P w K mg base CX0 1 fI fd ["self", fld] (GA.spIni K C fld) ∧ Binds K fd ["self", fld] [] ∧ mg x = some (.ref C)
/-- what is known of the exception that C(v) is -/
def Rz (C : Addr) (fld : Str) (v : V) (H : Hp) (E : XK) : Prop := ∀ d H', Ex H H' → H d = none → H' d = some (.xd [(fld, v)]) → E (.ref C) (some d) H'
theorem Rz.mono {C : Addr} {fld : Str} {v : V} {H H1 : Hp} {E : XK} (e : Ex H H1) (h : Rz C fld v H E) : Rz C fld v H1 E := fun d H' e' n => h d H' (e.trans e') (fresh_back e n)
theorem ps_err {X : Cx} {x : Str} {C : Addr} {fld : Str} {W : WX} {e : Expr} {te : TE} {p pos pos' : Pos} (R : ErrK X.prog X.w X.K X.mg X.base x C fld) (hc : X.calm = true) (tk : Takes X W) (hr : Room 2 X.A) (hg : Gl X x) (he : PE X e te)
    (hdb : (x == ("__debug__" : Str)) = false := by decide) (hst : starEach [e] X.env = (false, eval e X.env) :: starEach [] X.env := by rfl) :
    PS X (.Raise (some (.Call (.Name x p) [e] [] pos)) none pos') (fun _ σ H => ∃ v, Ev te σ H v ∧ ∀ H1, Ex H H1 → ∀ d, H1 d = none → W (.ref C) (some d) σ (upd H1 d (.xd [(fld, v)]))) := by
  obtain ⟨fI, fd, ox, iC, tI, F1, hb, hm⟩ := R.ex
  refine ⟨fun pins s σ H D I h => (ps_raise hc tk (pmk_oex (ds := []) (dvs := []) ox iC tI F1 hr hb .nil pass0 hg hm (pa_cons he pa_nil hst) hdb hst rfl)).run pins s σ H D I ?_⟩
  obtain ⟨v, hv, hw⟩ := h
  refine hv H (Ex.refl H) _ fun H1 e1 => ⟨by show 1 ≤ 1000; omega, fun a ha => ⟨a, v, rfl, upd_same, fun d hd n => ⟨rfl, d, [(fld, v)], upd_same, by rw [upd_ne n, upd_same], ?_, ?_⟩⟩⟩
  · rw [upd_ne n] at hd
    exact hd
  · rw [upd_ne n] at hd
    have e : upd (del (upd (upd (upd H1 a (exo a C none)) d (exd d [(fld, v)])) a (exo a C (some d))) a) d (.xd [(fld, v)]) = upd H1 d (.xd [(fld, v)]) := by
      funext b
      by_cases hb : b = d
      · rw [hb, upd_same, upd_same]
      · rw [upd_ne hb, upd_ne hb]
        by_cases hba : b = a
        · rw [hba, del_same, ha]
        · rw [del_ne hba, upd_ne hba, upd_ne hb, upd_ne hba]
    rw [e]
    exact hw H1 e1 d hd
/-! ### need_slant -/
def SlantV (H : Hp) (x : V) (p q : Int) : Prop := Seq H x [.int p, .int q] ∧ slantB [.int p, .int q] = true
def NoSlant (H : Hp) (x : V) : Prop := NoSeq H x ∨ ∃ xs, Seq H x xs ∧ slantB xs = false
theorem SlantV.ex {H H' : Hp} {x : V} {p q : Int} (e : Ex H H') (h : SlantV H x p q) : SlantV H' x p q := ⟨h.1.ex e, h.2⟩
theorem NoSlant.ex {H H' : Hp} {x : V} (e : Ex H H') (h : NoSlant H x) : NoSlant H' x := h.imp (fun z => z.ex e) fun ⟨xs, z, b⟩ => ⟨xs, z.ex e, b⟩
def spNeed (K : PySem.W.Frag) (CW : Addr) : Sp := fun vs H Q E => ∃ x part, vs = [x, .str part] ∧ ((∃ p q : Int, SlantV H x p q ∧ ∀ v H', Ex H H' → Tp K H' v p q → Q v H') ∨ (NoSlant H x ∧ Rz CW "part" (.str part) H E))
section
variable {P : Program} {w : World} {K : PySem.W.Frag} {mg : Str → Option Value} {base : Heap} {CW CM : Addr}
theorem cal_need_slant (D : FD K mg "need_slant" s_need_slant) (T : MF mg) (RW : ErrK P w K mg base "BadWay" CW "part") (c_is_slant : Cal P w K mg base 3 "is_slant" ["value"] (spP preSlant)) : CalX P w K mg base 4 "need_slant" ["value", "part"] (spNeed K CW) := by
  refine cal_of D sc_need_slant (fun _ _ _ _ _ _ us hl => match us, hl with | [_, _], _ => rfl) (fun vs H Q E h => ?_) (fun f cdv A outer s H vs Q E hr h => ?_)
  · obtain ⟨x, part, rfl, _⟩ := h
    rfl
  · obtain ⟨x, part, rfl, hx⟩ := h
    refine ⟨_, (pss_cons (ps_if (pt_not (pt_val (pe_cal c_is_slant (hr.mono (by decide)) rfl pass0 (pa_cons (pv 0) pa_nil)))) (pss_one (ps_err RW rfl (takes_of rfl rfl rfl rfl) (hr.mono (by decide)) rfl (pv 1))) pss_nil) (pss_one (ps_ret (pe_tupleOf rfl T.tuple (pv 0))))), ?_⟩
    have hsl : ∀ b, (∀ H1, Ex H H1 → preSlant H1 [x] (.bl b)) → Ev (tCall (spP preSlant) [] E0 (tCons (tVar 0) tNil)) [some x, some (V.str part)] H (.bl b) := fun b h => ev_calP (ea_cons (ev_var rfl) ea_nil) h
    rcases hx with ⟨p, q', ⟨hs, hb⟩, q⟩ | ⟨hn, r⟩
    · refine s_if (et_not (et_B (hsl true fun H1 e => ⟨x, rfl, .inr ⟨_, hs.ex e, by rw [hb]⟩⟩))) (fun z => by cases z) (fun _ H1 e1 => ?_)
      obtain ⟨a, rfl, hh, _⟩ := hs
      refine ⟨_, rfl, ?_⟩
      rcases hh with h | h
      · exact .inl ⟨a, _, rfl, sq_of (e1 _ _ h), fun p' hp => q _ _ (e1.trans (Ex.new hp)) (.of upd_same)⟩
      · exact .inr ⟨a, _, rfl, st_of (e1 _ _ h), q _ _ e1 (.of (e1 _ _ h))⟩
    · refine s_if (et_not (et_B (hsl false fun H1 e => ?_))) (fun _ H1 e1 => ?_) (fun z => by cases z)
      · rcases hn with hn | ⟨xs, hs, hb⟩
        · exact ⟨x, rfl, .inl ⟨hn.ex e, rfl⟩⟩
        · exact ⟨x, rfl, .inr ⟨xs, hs.ex e, by rw [hb]⟩⟩
      · exact ⟨.str part, ev_var rfl, fun H2 e2 d hd => r d _ ((e1.trans e2).trans (Ex.new hd)) (fresh_back (e1.trans e2) hd) upd_same⟩
/-! ### is_steeper -/
def spSteeper (K : PySem.W.Frag) (CW : Addr) : Sp := fun vs H Q E => ∃ x y, vs = [x, y] ∧ (
  (∃ a b c d : Int, SlantV H x a b ∧ SlantV H y c d ∧ (Bd b ∧ Bd c ∧ Bd d ∧ Bd a) ∧ ∀ H', Ex H H' → Q (.bl (decide (d * a < b * c))) H') ∨
  (NoSlant H x ∧ Rz CW "part" (.str "one") H E) ∨ ((∃ a b : Int, SlantV H x a b) ∧ NoSlant H y ∧ Rz CW "part" (.str "other") H E))
theorem tk_E {X : Cx} {E : XK} (tk : Takes X (fun cls d _ H => E cls d H)) : Passes (L2.CX X.prog X.w) X E := passes_call tk fun _ _ _ _ h => h
theorem cal_is_steeper (D : FD K mg "is_steeper" s_is_steeper) (c_need_slant : CalX P w K mg base 4 "need_slant" ["value", "part"] (spNeed K CW)) (c_steeper_in : Cal P w K mg base 1 "steeper_in" ["one", "other"] (spP (preSteep K))) : CalX P w K mg base 5 "is_steeper" ["one", "other"] (spSteeper K CW) := by
  refine cal_of D sc_is_steeper (fun _ _ _ _ _ _ us hl => match us, hl with | [_, _], _ => rfl) (fun vs H Q E h => ?_) (fun f cdv A outer s H vs Q E hr h => ?_)
  · obtain ⟨x, y, rfl, _⟩ := h
    rfl
  · obtain ⟨x, y, rfl, hx⟩ := h
    refine ⟨_, (pss_one (ps_ret (pe_cal c_steeper_in (hr.mono (by decide)) rfl pass0 (pa_cons (pe_cal c_need_slant (E := E) (hr.mono (by decide)) rfl (tk_E (takes_of rfl rfl rfl rfl)) (pa_cons (pv 0) (pa_cons pe_str pa_nil))) (pa_cons (pe_cal c_need_slant (E := E) (hr.mono (by decide)) rfl (tk_E (takes_of rfl rfl rfl rfl)) (pa_cons (pv 1) (pa_cons pe_str pa_nil))) pa_nil))))), ?_⟩
    rcases hx with ⟨a, b, c, d, hx, hy, bb, q⟩ | ⟨hn, r⟩ | ⟨⟨a, b, hx⟩, hn, r⟩
    · refine ⟨x, rfl, x, "one", rfl, .inl ⟨a, b, hx, fun v1 H1 e1 t1 => ?_⟩⟩
      refine ⟨y, rfl, y, "other", rfl, .inl ⟨c, d, hy.ex e1, fun v2 H2 e2 t2 => ?_⟩⟩
      exact ⟨_, ⟨v1, v2, a, b, c, d, rfl, t1.ex e2, t2, bb, rfl⟩, fun H3 e3 => q H3 ((e1.trans e2).trans e3)⟩
    · exact ⟨x, rfl, x, "one", rfl, .inr ⟨hn, r⟩⟩
    · refine ⟨x, rfl, x, "one", rfl, .inl ⟨a, b, hx, fun v1 H1 e1 t1 => ?_⟩⟩
      exact ⟨y, rfl, y, "other", rfl, .inr ⟨hn.ex e1, r.mono e1⟩⟩
/-! ### simplest -/
def spSimplest (K : PySem.W.Frag) (CW CM : Addr) : Sp := fun vs H Q E => ∃ x y, vs = [x, y] ∧ (
  (∃ l0 l1 h0 h1 : Int, SlantV H x l0 l1 ∧ SlantV H y h0 h1 ∧ (Bh l0 ∧ Bh l1 ∧ Bh h0 ∧ Bh h1) ∧ ((l1 * h0 < h1 * l0 ∧ ∀ v H' p q f0 f1 s0 s1, Ex H H' → Tt H' v p q → Simple l0 l1 h0 h1 p q f0 f1 s0 s1 → Q v H') ∨ (¬ l1 * h0 < h1 * l0 ∧ Rz CM "part" (.str "high") H E))) ∨
  (NoSlant H x ∧ Rz CW "part" (.str "low") H E) ∨ ((∃ a b : Int, SlantV H x a b) ∧ NoSlant H y ∧ Rz CW "part" (.str "high") H E))
theorem slant_nn {H : Hp} {x : V} {p q : Int} (h : SlantV H x p q) : 0 ≤ p ∧ 0 ≤ q ∧ Int.gcd p q = 1 := by
  have h2 := h.2
  unfold slantB at h2
  simp only [Bool.and_eq_true, decide_eq_true_eq] at h2
  exact ⟨h2.1, h2.2.1, by omega⟩
theorem cal_simplest (D : FD K mg "simplest" s_simplest) (RM : ErrK P w K mg base "Misfit" CM "part") (c_need_slant : CalX P w K mg base 4 "need_slant" ["value", "part"] (spNeed K CW)) (c_steeper_in : Cal P w K mg base 1 "steeper_in" ["one", "other"] (spP (preSteep K)))
    (c_simplest_in : Cal P w K mg base 2 "simplest_in" ["low", "high"] (spR (preSimpIn K))) : CalX P w K mg base 5 "simplest" ["low", "high"] (spSimplest K CW CM) := by
  refine cal_of D sc_simplest (fun _ _ _ _ _ _ us hl => match us, hl with | [_, _], _ => rfl) (fun vs H Q E h => ?_) (fun f cdv A outer s H vs Q E hr h => ?_)
  · obtain ⟨x, y, rfl, _⟩ := h
    rfl
  · obtain ⟨x, y, rfl, hx⟩ := h
    refine ⟨_, (pss_cons (ps_par (i := 2) (j := 3) (by rfl) sc_simplest.nd rfl rfl (by decide) rfl rfl (pa_cons (pe_cal c_need_slant (E := E) (hr.mono (by decide)) rfl (tk_E (takes_of rfl rfl rfl rfl)) (pa_cons (pv 0) (pa_cons pe_str pa_nil))) (pa_cons (pe_cal c_need_slant (E := E) (hr.mono (by decide)) rfl (tk_E (takes_of rfl rfl rfl rfl)) (pa_cons (pv 1) (pa_cons pe_str pa_nil))) pa_nil)) (by rfl))
      (pss_cons (ps_if (pt_not (pt_val (pe_cal c_steeper_in (hr.mono (by decide)) rfl pass0 (pa_cons (pv 3) (pa_cons (pv 2) pa_nil))))) (pss_one (ps_err RM rfl (takes_of rfl rfl rfl rfl) (hr.mono (by decide)) rfl pe_str)) pss_nil)
      (pss_one (ps_ret (pe_cal c_simplest_in (hr.mono (by decide)) rfl pass0 (pa_cons (pv 2) (pa_cons (pv 3) pa_nil))))))), ?_⟩
    rcases hx with ⟨l0, l1, h0, h1, hx, hy, ⟨b1, b2, b3, b4⟩, hc⟩ | ⟨hn, r⟩ | ⟨⟨a, b, hx⟩, hn, r⟩
    · refine ⟨x, rfl, x, "low", rfl, .inl ⟨l0, l1, hx, fun v1 H1 e1 t1 => ?_⟩⟩
      refine ⟨y, rfl, y, "high", rfl, .inl ⟨h0, h1, hy.ex e1, fun v2 H2 e2 t2 => ⟨v1, v2, rfl, ?_⟩⟩⟩
      have t1' := t1.ex e2
      have hst : ∀ {σ : L2.St}, σ[3]? = some (some v2) → σ[2]? = some (some v1) → Ev (tCall (spP (preSteep K)) [] E0 (tCons (tVar 3) (tCons (tVar 2) tNil))) σ H2 (.bl (decide (l1 * h0 < h1 * l0))) := fun i3 i2 => ev_calP (ea_cons (ev_var i3) (ea_cons (ev_var i2) ea_nil)) fun H3 e3 => ⟨_, _, h0, h1, l0, l1, rfl, t2.ex e3, t1'.ex e3, ⟨bh_bd b4, bh_bd b1, bh_bd b2, bh_bd b3⟩, rfl⟩
      obtain ⟨n1, n2, _⟩ := slant_nn hx
      obtain ⟨n3, n4, _⟩ := slant_nn hy
      dsimp only
      rcases hc with ⟨hlt, q⟩ | ⟨hge, r⟩
      · refine s_if (b := false) (et_is (et_not (et_B (hst rfl rfl))) (by rw [decide_eq_true hlt]; rfl)) (fun z => by cases z) (fun _ H3 e3 => ?_)
        refine s_retR (P := fun v H => ∃ p q f0 f1 s0 s1 : Int, Tt H v p q ∧ Simple l0 l1 h0 h1 p q f0 f1 s0 s1) (evr_calR (ea_cons (ev_var rfl) (ea_cons (ev_var rfl) ea_nil)) fun H4 e4 => ⟨_, _, l0, l1, h0, h1, rfl, (t1'.ex e3).ex e4, (t2.ex e3).ex e4, ?_, ⟨b1, b2, b3, b4⟩, rfl⟩) fun v H4 e4 hv => ?_
        · obtain ⟨p, q', f0, f1, s0, s1, tv, hS⟩ := hv
          exact q v H4 p q' f0 f1 s0 s1 (((e1.trans e2).trans e3).trans e4) tv hS
        · exact ⟨n1, n2, n3, n4, hlt⟩
      · refine s_if (b := true) (et_is (et_not (et_B (hst rfl rfl))) (by rw [decide_eq_false hge]; rfl)) (fun _ H3 e3 => ?_) (fun z => by cases z)
        exact ⟨.str "high", ev_c, fun H4 e4 d hd => r d _ ((((e1.trans e2).trans e3).trans e4).trans (Ex.new hd)) (fresh_back (((e1.trans e2).trans e3).trans e4) hd) upd_same⟩
    · exact ⟨x, rfl, x, "low", rfl, .inr ⟨hn, r⟩⟩
    · refine ⟨x, rfl, x, "low", rfl, .inl ⟨a, b, hx, fun v1 H1 e1 t1 => ?_⟩⟩
      exact ⟨y, rfl, y, "high", rfl, .inr ⟨hn.ex e1, r.mono e1⟩⟩
end
end K4

set_option Elab.async false
set_option linter.all false
set_option maxRecDepth 100000
set_option maxHeartbeats 4000000
namespace K4
open PySem PySem.Spec PyProof.Rows L2 Evl M4
/-! ### f(b = .., a = ..) of a def f(a, b) -/
structure CalW (P : Program) (w : World) (K : PySem.W.Frag) (mg : Str → Option Value) (base : Heap) (CX : CXT) (k : Nat) (x p0 p1 : Str) (sp : Sp) : Prop where
  ex : ∃ (f : Addr) (fd : FuncData), FnOk P w K mg base CX k f fd [p0, p1] sp ∧ mg x = some (.ref f) ∧ PySem.W.keepIn K (.ref f) = true ∧ ∀ (s : Shared) (u0 u1 : Value), BindsTo s fd ⟨[], [(p1, u1), (p0, u0)]⟩ [(p0, u0), (p1, u1)]
theorem CalC.swap {P : Program} {w : World} {K : PySem.W.Frag} {mg : Str → Option Value} {base : Heap} {CX : CXT} {k : Nat} {x p0 p1 : Str} {sp : Sp} {st : Stmt} (c : CalC P w K mg base CX k x [p0, p1] sp) (D : FD K mg x st)
    (h : ∀ (kV doc pm : Value) (an : Option Addr) (cdv ct u0 u1 : Value), bindArgs (PySem.W.fnOf x x (defArgs st) (defBody st) (defScope st) .none kV doc pm an cdv ct) ⟨[], [(p1, u1), (p0, u0)]⟩ = pure [(p0, u0), (p1, u1)]) : CalW P w K mg base CX k x p0 p1 sp := by
  obtain ⟨f, fd, F, hm, hk, _, oc, od, osl, lk⟩ := c.ex
  obtain ⟨f', fd', F', hm'⟩ := D.ex
  obtain ⟨oc', od', dV, kV, doc, pm, an, cdv, ct, osl', rfl, lk', hcd, hdv, _⟩ := F'.ex
  have e : dV = .none := by
    rcases hdv with ⟨_, e⟩ | ⟨e, _⟩
    · exact e
    · exact absurd rfl e
  subst e
  rw [hm] at hm'
  obtain rfl : f = f' := Value.ref.inj (Option.some.inj hm')
  rw [lk] at lk'
  have e2 := Option.some.inj lk'
  have e3 : fd = _ := Data.func.inj (congrArg Obj.data e2)
  refine ⟨f, fd, F, hm, hk, fun s u0 u1 => ?_⟩
  rw [e3]
  exact .of_eq (h kV doc pm an cdv ct u0 u1)
def tCallW (sp : Sp) (E : XK) (tk : TA) : TE := fun σ H Q => tk σ H fun zs H1 => ∃ a b, zs = [b, a] ∧ sp [a, b] H1 Q E
theorem pe_calW {X : Cx} {CX : CXT} {k : Nat} {x p0 p1 : Str} {sp : Sp} {E : XK} {p pos : Pos} {kws : List Keyword} {tk : TA} (c : CalW X.prog X.w X.K X.mg X.base CX k x p0 p1 sp) (hr : Room k X.A) (hg : Gl X x) (hx : Passes CX X E) (hkw : PK X kws tk)
    (hall : (backToKw pos (keywordEach kws X.env)).all (·.1.isSome) = true := by rfl) (hks : (backToKw pos (keywordEach kws X.env)).filterMap (·.1) = [p1, p0] := by rfl) (hdb : (x == ("__debug__" : Str)) = false := by decide)
    (hpl : ((backTo pos (starEach [] X.env)).any (·.1) || (backToKw pos (keywordEach kws X.env)).any (·.1.isNone)) = false := by rfl) :
    PE X (.Call (.Name x p) [] kws pos) (tCallW sp E tk) := by
  obtain ⟨f, fd, F, hm, hk, hb⟩ := c.ex
  refine ⟨fun pins s σ H Q I h => ?_⟩
  refine wpAny_Call_Name_kw (ld_glob I hg hm ?_ hdb)
  refine PySem.W.callWith_KW0 (h₀ := X.base) I.ok.mod.kin hk hall ?_ hpl
  refine thn (hkw.run pos pins s σ H _ I h) fun ws s2 ⟨zs, H2, I2, rz, a, b, hz, q2⟩ => ⟨I2.kIn, ?_⟩
  subst hz
  rw [hks]
  cases rz with
  | @cons _ ub _ us1 rb r1 => cases r1 with
  | @cons _ ua _ us2 ra r2 =>
  cases r2
  refine wpAny_call (codeAny_mono (F.run X.A X.stack s2 H2 ⟨[], [(p1, ub), (p0, ua)]⟩ [ua, ub] [a, b] Q E hr I2.env0 (hb s2 ua ub) (.cons ra (.cons rb .nil)) q2) fun r s' hq => ?_)
  cases r with
  | error e => exact hx pins σ H2 s2 e s' I2 hq
  | ok fl =>
    cases fl with
    | ret u => exact I2.after hq
    | next => exact False.elim hq
    | brk => exact False.elim hq
    | cont => exact False.elim hq
theorem is_steeper_swap {P : Program} {w : World} {K : PySem.W.Frag} {mg : Str → Option Value} {base : Heap} {CX : CXT} {k : Nat} {sp : Sp} (c : CalC P w K mg base CX k "is_steeper" ["one", "other"] sp) (D : FD K mg "is_steeper" s_is_steeper) : CalW P w K mg base CX k "is_steeper" "one" "other" sp := c.swap D fun _ _ _ _ _ _ _ _ => rfl
theorem simplest_swap {P : Program} {w : World} {K : PySem.W.Frag} {mg : Str → Option Value} {base : Heap} {CX : CXT} {k : Nat} {sp : Sp} (c : CalC P w K mg base CX k "simplest" ["low", "high"] sp) (D : FD K mg "simplest" s_simplest) : CalW P w K mg base CX k "simplest" "low" "high" sp := c.swap D fun _ _ _ _ _ _ _ _ => rfl
end K4

set_option Elab.async false
set_option linter.all false
set_option maxRecDepth 100000
set_option maxHeartbeats 4000000
namespace K4
open PySem PySem.Spec PyProof.Rows L2 Evl M4
abbrev s_deck : Stmt := top 27
abbrev s_draw : Stmt := top 28
abbrev s_pick : Stmt := top 29
abbrev s_low : Stmt := top 30
theorem sc_deck : FnScope ["script", "cell"] ["script"] (defScope s_deck) := ⟨rfl, rfl, rfl, by decide +kernel, rfl, by decide +kernel, by decide +kernel⟩
theorem sc_draw : FnScope ["deck", "many", "rest", "turn", "cell", "mixed"] ["deck", "many"] (defScope s_draw) := ⟨rfl, rfl, rfl, by decide +kernel, rfl, by decide +kernel, by decide +kernel⟩
theorem sc_pick : FnScope ["deck", "some"] ["deck", "some"] (defScope s_pick) := ⟨rfl, rfl, rfl, by decide +kernel, rfl, by decide +kernel, by decide +kernel⟩
theorem sc_low : FnScope ["p", "q", "one", "other"] ["p", "q"] (defScope s_low) := ⟨rfl, rfl, rfl, by decide +kernel, rfl, by decide +kernel, by decide +kernel⟩
/-! ### the deck -/
structure DS where
  a : Addr
  c : Addr
  cells : List Int
/-- not what a deck looks like -/
def NoDk : HO → Prop
  | .lst [.ref _, .int _, .int _] => False
  | _ => True
/-- everything but decks stays -/
def Dx (H H' : Hp) : Prop := ∀ b o, NoDk o → H b = some o → H' b = some o
theorem Dx.refl (H : Hp) : Dx H H := fun _ _ _ e => e
theorem Dx.trans {H H1 H2 : Hp} (a : Dx H H1) (b : Dx H1 H2) : Dx H H2 := fun x o n e => b x o n (a x o n e)
theorem Ex.dx {H H' : Hp} (e : Ex H H') : Dx H H' := fun x o _ h => e x o h
theorem dx_rd {H H' : Hp} {a : Addr} {xs : List V} (e : Dx H H') (h : Rd H a (.tup xs)) : Rd H' a (.tup xs) := by
  rcases h with h | ⟨o, h⟩
  · exact .inl (e _ _ trivial h)
  · exact .inr ⟨o, e _ _ trivial h⟩
theorem dx_t {K : PySem.W.Frag} {H H' : Hp} {a : Addr} {xs : List V} (e : Dx H H') (h : SqT K H a xs) : SqT K H' a xs := by
  rcases h with h | h
  · exact .inl (dx_rd e h)
  · exact .inr h
theorem Tp.dx {K : PySem.W.Frag} {H H' : Hp} {v : V} {p q : Int} (e : Dx H H') (h : Tp K H v p q) : Tp K H' v p q := h.imp fun _ z => ⟨z.1, dx_t e z.2⟩
theorem Tt.dx {H H' : Hp} {v : V} {p q : Int} (e : Dx H H') (h : Tt H v p q) : Tt H' v p q := h.imp fun _ z => ⟨z.1, e _ _ trivial z.2⟩
/-- the deck in its n-th draw at the most -/
def Dk (S : DS) (n : Nat) (H : Hp) : Prop := ∃ t r : Int, H S.a = some (.lst [.ref S.c, .int t, .int r]) ∧ H S.c = some (.lst (S.cells.map V.int)) ∧ 0 ≤ t ∧ t ≤ n
theorem noDk_ints : ∀ ns : List Int, NoDk (.lst (ns.map V.int))
  | [] => trivial
  | [_] => trivial
  | [_, _] => trivial
  | [_, _, _] => trivial
  | _ :: _ :: _ :: _ :: _ => trivial
theorem Dk.ex {S : DS} {n : Nat} {H H' : Hp} (e : Ex H H') (h : Dk S n H) : Dk S n H' := by
  obtain ⟨t, r, h1, h2, h3⟩ := h
  exact ⟨t, r, e _ _ h1, e _ _ h2, h3⟩
theorem Dk.le {S : DS} {n m : Nat} {H : Hp} (h : Dk S n H) (l : n ≤ m) : Dk S m H := by
  obtain ⟨t, r, h1, h2, h3, h4⟩ := h
  exact ⟨t, r, h1, h2, h3, by omega⟩
theorem Dk.ne {S : DS} {n : Nat} {H : Hp} (h : Dk S n H) : S.c ≠ S.a := fun z => by
  obtain ⟨t, r, h1, h2, _⟩ := h
  rw [z, h1] at h2
  have e := HO.lst.inj (Option.some.inj h2)
  cases hc : S.cells with
  | nil => rw [hc] at e; cases e
  | cons x xs => rw [hc] at e; cases e
/-- the deck's own turn -/
theorem dk_set {S : DS} {n : Nat} {H : Hp} {t r : Int} (h : Dk S n H) (h0 : 0 ≤ t) (h1 : t ≤ n) : Dk S n (upd H S.a (.lst [.ref S.c, .int t, .int r])) := by
  have ne := h.ne
  obtain ⟨_, _, _, h2, _⟩ := h
  exact ⟨t, r, upd_same, by rw [upd_ne ne]; exact h2, h0, h1⟩
theorem dx_set {H : Hp} {a c : Addr} {t r : Int} {o : HO} (h : H a = some (.lst [.ref c, .int t, .int r])) : Dx H (upd H a o) := fun b u hn e => by
  by_cases hb : b = a
  · rw [hb, h] at e
    cases e
    exact hn.elim
  · rw [upd_ne hb]
    exact e
def Fuel : Nat := 1000000
/-- a promise of a def that draws k times at the most -/
def spG (Pre : DS → Hp → List V → Nat → (V → Hp → Prop) → Prop) : Sp := fun vs H Q _ => ∃ S n k R, Pre S H vs k R ∧ Dk S n H ∧ n + k ≤ Fuel ∧ ∀ v H', Dx H H' → Dk S (n + k) H' → R v H' → Q v H'
/-! ### rules -/
def rInt1 : List V → Hp → VK → Prop := fun xs H Q => (∃ i, xs = [.int i] ∧ Q (.int i) H) ∨ ∃ k, xs = [.bl k] ∧ Q (.int (if k then 1 else 0)) H
theorem cr_int {X : Cx} : CallR X (.type "int") rInt1 := call_int1
section
variable {K : PySem.W.Frag} {σ : L2.St} {H : Hp} {te tb : TE}
theorem ev_int {i : Int} (h : Ev te σ H (.int i)) : Ev (tCB rInt1 (tCons te tNil)) σ H (.int i) := ev_cb (ea_cons h ea_nil) fun H1 _ Q q => .inl ⟨i, rfl, q H1 (Ex.refl H1)⟩
theorem ev_intB {k : Bool} (h : Ev te σ H (.bl k)) : Ev (tCB rInt1 (tCons te tNil)) σ H (.int (if k then 1 else 0)) := ev_cb (ea_cons h ea_nil) fun H1 _ Q q => .inr ⟨k, rfl, q H1 (Ex.refl H1)⟩
theorem ev_abs {i : Int} (h : Ev te σ H (.int i)) : Ev (tCB (fun xs H Q => ∃ i, xs = [.int i] ∧ Q (.int (if i < 0 then -i else i)) H) (tCons te tNil)) σ H (.int (if i < 0 then -i else i)) := ev_cb (ea_cons h ea_nil) fun H1 _ Q q => ⟨i, rfl, q H1 (Ex.refl H1)⟩
theorem ev_ixL {a : Addr} {xs : List V} {i : Int} {v : V} (h : Ev te σ H (.ref a)) (hb : Ev tb σ H (.int i)) (hx : H a = some (.lst xs)) (ha : atI xs i = some v) : Ev (tOp (rIxL K) te tb) σ H v := ev_op h hb (rv_ixL (sq_of hx) ha)
end
theorem dpInts {K : PySem.W.Frag} {H : Hp} : ∀ ns : List Int, DpAll K H (ns.map V.int) (ns.map PyData.int)
  | [] => .nil
  | _ :: ns => .cons (.int _) (dpInts ns)
theorem atI_get {ns : List Int} {i : Int} (h0 : 0 ≤ i) (h : i < ns.length) : ∃ c : Int, atI (ns.map V.int) i = some (.int c) := by
  have e : i = ((i.toNat : Nat) : Int) := by omega
  rw [e]
  exact ⟨ns[i.toNat]'(by omega), by
    have e2 : ixN (ns.map V.int).length ((i.toNat : Nat) : Int) = some i.toNat := ixN_nat (by rw [List.length_map]; omega)
    unfold atI
    rw [e2]
    simp⟩
theorem shInts : ∀ ns : List Int, PyData.canLayAll0 (ns.map PyData.int) = true
  | [] => rfl
  | n :: ns => by
    show (PyData.canLay0 (.int n) && PyData.canLayAll0 (ns.map PyData.int)) = true
    rw [shInts ns]
    rfl
theorem dpthInts : ∀ ns : List Int, PyData.depthAll (ns.map PyData.int) = 0
  | [] => rfl
  | n :: ns => by
    show max (PyData.depth (.int n)) (PyData.depthAll (ns.map PyData.int)) = 0
    rw [dpthInts ns]
    rfl
theorem shapedInts (ns : List Int) : SeqAt.shaped (.list (ns.map PyData.int)) = true := by
  unfold SeqAt.shaped
  have h1 : PyData.canLay0 (.list (ns.map PyData.int)) = true := shInts ns
  have h2 : PyData.depth (.list (ns.map PyData.int)) ≤ 64 := by
    show PyData.depthAll (ns.map PyData.int) + 1 ≤ 64
    rw [dpthInts]
    omega
  rw [h1, decide_eq_true h2]
  rfl
theorem rv_neInts {K : PySem.W.Frag} {H : Hp} {a b : Addr} {ns : List Int} (ha : H a = some (.lst (ns.map V.int))) (hb : H b = some (.lst [])) : RV (rNeD K) (.ref a) (.ref b) H (.bl (decide (ns ≠ []))) := fun H1 e Q q =>
  ⟨.list (ns.map PyData.int), .list [], .lst (sq_of (e _ _ ha)) (dpInts ns), .lst (sq_of (e _ _ hb)) .nil, shapedInts ns, rfl, by
    have e2 : (!PyData.eqv (.list (ns.map PyData.int)) (.list [])) = decide (ns ≠ []) := by
      cases ns with
      | nil => rfl
      | cons x xs => rfl
    rw [e2]
    exact q H1 (Ex.refl H1)⟩
theorem s_cut {t u : TS} {D : Ends} {σ : L2.St} {H : Hp} (Mid : L2.St → Hp → Prop) (h1 : t { D with nx := Mid } σ H) (h2 : ∀ σ' H', Mid σ' H' → u D σ' H') : tCut t u D σ H := ⟨Mid, h1, h2⟩
section
variable {P : Program} {w : World} {K : PySem.W.Frag} {mg : Str → Option Value} {base : Heap}
theorem given_getD {xs : List V} : given xs.length (fun _ => true) (fun i => xs.getD i .non) = xs := by
  unfold given
  rw [List.filter_eq_self.mpr (fun _ _ => rfl)]
  refine List.ext_getElem? fun i => ?_
  rw [List.getElem?_map]
  by_cases hi : i < xs.length
  · rw [List.getElem?_range hi, List.getElem?_eq_getElem hi]
    simp [List.getElem?_eq_getElem hi]
  · rw [List.getElem?_eq_none (by rw [List.length_range]; omega), List.getElem?_eq_none (by omega)]
    rfl
theorem rt_deck {D : Ends} {σ : L2.St} {H : Hp} {te : TE} {xs : List V} {x y : V} (h : EvL te σ H xs) (k : ∀ p d H1, Ex H H1 → H1 p = some (.lst xs) → H1 d = none → D.rt (.ref d) (upd H1 d (.lst [.ref p, x, y]))) :
    tRet (tLst (tCons te (tCons (tC x) (tCons (tC y) tNil)))) D σ H :=
  h H (Ex.refl H) _ fun p H1 _ e1 h1 => ⟨by show 3 ≤ sizeLine; rw [sizeLine_eq]; omega, fun d hd => k p d H1 e1 h1 hd⟩
/-! ### _law_deck -/
def spDeck (K : PySem.W.Frag) : Sp := fun vs H Q _ => ∃ (a : Addr) (ns : List Int), vs = [.ref a] ∧ SqL K H a (ns.map V.int) ∧ ns.length ≤ 63 ∧ ∀ S H', Dx H H' → Dk S 0 H' → Q (.ref S.a) H'
theorem cal_deck (D : FD K mg "_law_deck" s_deck) (T : MF mg) : Cal P w K mg base 1 "_law_deck" ["script"] (spDeck K) := by
  refine cal_of0 D sc_deck (fun _ _ _ _ _ _ us hl => match us, hl with | [_], _ => rfl) (fun vs H Q E h => ?_) (fun f cdv A outer s H vs Q E hr h => ?_)
  · obtain ⟨a, ns, rfl, _⟩ := h
    rfl
  · obtain ⟨a, ns, rfl, hs, hl, q⟩ := h
    refine ⟨_, (pss_one (ps_ret (pe_lst (pa_cons (pe_lc (own := [("cell", 1)]) (g := gName 1) (tt := tYes) rfl sc_deck.nd (pi_list (pe_slice sl_list (pv 0) po_none (po_some pe_int))) (blkOk_by (N := ["script", "cell"]) (sc := defScope s_deck) (by decide +kernel)) (fun _ _ _ _ _ => pg_name (i := 1) sc_deck.nd rfl (Or.inl rfl)) (fun _ _ _ _ _ => pts_nil)
      (fun _ _ _ _ _ => pe_callTy cr_int rfl T.int (by decide +kernel) (pa_cons (pv 1) pa_nil))) (pa_cons pe_int (pa_cons pe_int pa_nil)))))), ?_⟩
    obtain ⟨ms, hms, hml⟩ : ∃ ms : List Int, cutV (ns.map V.int) none (some 60) = ms.map V.int ∧ ms.length ≤ 63 := by
      refine ⟨(ns.drop (HT.sIx (ns.map V.int).length 0 none)).take (HT.sIx (ns.map V.int).length (ns.map V.int).length (some 60) - HT.sIx (ns.map V.int).length 0 none), ?_, ?_⟩
      · unfold cutV
        rw [List.map_take, List.map_drop]
      · rw [List.length_take, List.length_drop]
        omega
    have hsl : EvL (tSl (rSlL K) (tVar 0) tNoPart (tPart (tC (.int 60)))) [some (V.ref a), none] H (ms.map V.int) := by
      rw [← hms]
      exact el_sl (ev_var rfl) eo_none (eo_some ev_c) hs
    have h2 := el_lcNL (te := tCB rInt1 (tCons (tVar 1) tNil)) (j := 1) (vs := [1]) (K := K) (fun _ => true) (fun i => (ms.map V.int).getD i .non) hsl (by rw [List.length_map]; omega) (fun _ => rfl) (fun _ _ _ _ _ => et_yes) (fun i x H2 e2 hi _ => by
      rw [List.getD_eq_getElem?_getD, hi]
      rw [List.getElem?_map] at hi
      obtain ⟨z, _, rfl⟩ := Option.map_eq_some_iff.mp hi
      exact ev_int (ev_var rfl))
    rw [given_getD] at h2
    refine rt_deck h2 fun p d H1 e1 h1 hd => q ⟨d, p, ms⟩ _ (Ex.dx (e1.trans (Ex.new hd))) ⟨0, 0, upd_same, ?_, by omega, by omega⟩
    show upd H1 d _ p = _
    rw [upd_ne (ne_of_none h1 hd)]
    exact h1
/-! ### _law_draw -/
def preDraw : DS → Hp → List V → Nat → (V → Hp → Prop) → Prop := fun S _ vs k R => ∃ m : Int, vs = [.ref S.a, .int m] ∧ 0 < m ∧ m.natAbs < 2 ^ 200 ∧ k = 1 ∧ R = fun v _ => ∃ i : Int, v = .int i ∧ 0 ≤ i ∧ i < m
theorem cal_draw (D : FD K mg "_law_draw" s_draw) (T : MF mg) : Cal P w K mg base 1 "_law_draw" ["deck", "many"] (spG preDraw) := by
  refine cal_of0 D sc_draw (fun _ _ _ _ _ _ us hl => match us, hl with | [_, _], _ => rfl) (fun vs H Q E h => ?_) (fun f cdv A outer s H vs Q E hr h => ?_)
  · obtain ⟨S, n, k, R, ⟨m, rfl, _⟩, _⟩ := h
    rfl
  · obtain ⟨S, n, k, R, ⟨m, rfl, hm, hb, rfl, rfl⟩, hd, hn, q⟩ := h
    refine ⟨_, (pss_cons (ps_if (pt_cmpR op_gt (pe_ix ix_list (pv 0) pe_int (fun _ _ => rfl)) pe_int (nomark _))
        (pss_cons (ps_set (i := 2) sc_draw.nd rfl (.inl rfl) (pe_callTy cr_int rfl T.int (by decide +kernel) (pa_cons (pe_ix ix_list (pv 0) pe_int (fun _ _ => rfl)) pa_nil)))
        (pss_cons (ps_asg (pe_op op_fdivW (pv 2) (pv 1)) (pg_sub (pv 0) pe_int set_list))
        (pss_one (ps_ret (pe_op op_mod (pe_callTy cr_int rfl T.int (by decide +kernel) (pa_cons (pv 2) pa_nil)) (pv 1)))))) pss_nil)
      (pss_cons (ps_set (i := 3) sc_draw.nd rfl (.inl rfl) (pe_ix ix_list (pv 0) pe_int (fun _ _ => rfl)))
      (pss_cons (ps_asg (pe_op op_add (pv 3) pe_int) (pg_sub (pv 0) pe_int set_list))
      (pss_cons (ps_set (i := 4) sc_draw.nd rfl (.inl rfl) (pe_op op_add (pe_op op_mul pe_int (pv 3)) pe_int))
      (pss_cut (ps_if (pt_cmpR (op_neD hr.units) (pe_ix ix_list (pv 0) pe_int (fun _ _ => rfl)) (pe_lst pa_nil) (nomark _))
        (pss_one (ps_set (i := 4) sc_draw.nd rfl (.inl rfl) (pe_ix ix_list (pe_ix ix_list (pv 0) pe_int (fun _ _ => rfl)) (pe_op op_mod (pe_callTy cr_int rfl T.int (by decide +kernel) (pa_cons (pv 3) pa_nil)) (pe_callB call_len_seq (by rfl) T.len (by decide +kernel) (pa_cons (pe_ix ix_list (pv 0) pe_int (fun _ _ => rfl)) pa_nil))) (fun _ _ => rfl)))) pss_nil)
      (pss_cons (ps_if (PW.pt (pw_and (pt_cmpR op_lt (pv 3) (pe_callB call_len_seq (by rfl) T.len (by decide +kernel) (pa_cons (pe_ix ix_list (pv 0) pe_int (fun _ _ => rfl)) pa_nil)) (nomark _)) (pw_and1 (pt_cmpR op_ge (pe_callB call_abs (by rfl) T.abs (by decide +kernel) (pa_cons (pv 4) pa_nil)) (pe_op op_pow pe_int pe_int) (nomark _)))))
        (pss_cons (ps_set (i := 2) sc_draw.nd rfl (.inl rfl) (pe_op op_add (pe_op op_mul pe_int (pe_op op_sub (pe_callB call_abs (by rfl) T.abs (by decide +kernel) (pa_cons (pv 4) pa_nil)) (pe_op op_pow pe_int pe_int))) (pe_callTy cr_int rfl T.int (by decide +kernel) (pa_cons (pe_cmpR op_lt (pv 4) pe_int (nomark _)) pa_nil))))
        (pss_cons (ps_asg (pe_op op_fdivW (pv 2) (pv 1)) (pg_sub (pv 0) pe_int set_list))
        (pss_one (ps_ret (pe_op op_mod (pe_callTy cr_int rfl T.int (by decide +kernel) (pa_cons (pv 2) pa_nil)) (pv 1)))))) pss_nil)
      (pss_cons (ps_set (i := 5) sc_draw.nd rfl (.inl rfl) (pe_op op_mod (pe_callTy cr_int rfl T.int (by decide +kernel) (pa_cons (pe_op op_pow (pe_op op_add (pe_op op_add (pe_op op_mod (pe_callTy cr_int rfl T.int (by decide +kernel) (pa_cons (pv 4) pa_nil)) pe_int) (pe_op op_mul pe_int (pv 3))) pe_int) pe_int) pa_nil)) pe_int))
      (pss_cons (ps_set (i := 5) sc_draw.nd rfl (.inl rfl) (pe_op op_mod (pe_callTy cr_int rfl T.int (by decide +kernel) (pa_cons (pe_op op_pow (pe_op op_add (pe_op op_add (pe_op op_mul (pv 5) (pe_op op_add (pe_op op_mul pe_int (pv 3)) pe_int)) (pe_op op_mul (pe_op op_mul pe_int (pv 3)) (pv 3))) pe_int) pe_int) pa_nil)) pe_int))
      (pss_one (ps_ret (pe_op op_mod (pe_callTy cr_int rfl T.int (by decide +kernel) (pa_cons (pe_op op_fdiv (pv 5) pe_int) pa_nil)) (pv 1)))))))))))), ?_⟩
    obtain ⟨t, r, h1, h2, h3, h4⟩ := hd
    have bm : m.natAbs < 2 ^ 200 := hb
    have two : ∀ {σ : L2.St} {H1 : Hp} {t r : Int}, σ[0]? = some (some (.ref S.a)) → H1 S.a = some (.lst [.ref S.c, .int t, .int r]) → Ev (tOp (rIxL K) (tVar 0) (tC (.int 2))) σ H1 (.int r) := fun i0 h => ev_ixL (ev_var i0) ev_c h rfl
    have one : ∀ {σ : L2.St} {H1 : Hp} {t r : Int}, σ[0]? = some (some (.ref S.a)) → H1 S.a = some (.lst [.ref S.c, .int t, .int r]) → Ev (tOp (rIxL K) (tVar 0) (tC (.int 1))) σ H1 (.int t) := fun i0 h => ev_ixL (ev_var i0) ev_c h rfl
    have zer : ∀ {σ : L2.St} {H1 : Hp} {t r : Int}, σ[0]? = some (some (.ref S.a)) → H1 S.a = some (.lst [.ref S.c, .int t, .int r]) → Ev (tOp (rIxL K) (tVar 0) (tC (.int 0))) σ H1 (.ref S.c) := fun i0 h => ev_ixL (ev_var i0) ev_c h rfl
    have fin : ∀ (x : Int) (H' : Hp), Dx H H' → Dk S (n + 1) H' → Q (.int (x % m)) H' := fun x H' e d => q _ H' e d ⟨x % m, rfl, Int.emod_nonneg _ (by omega), Int.emod_lt_of_pos _ hm⟩
    have dv : ∀ x : Int, CDivW x m := fun x => wide_div (b := 200) hm bm (by omega) (by omega)
    refine s_if (et_test (ev_op (two rfl h1) ev_c rv_I0)) (fun _ H1 e1 => ?_) (fun _ H1 e1 => ?_)
    · refine s_asg (ev_int (two rfl (e1 _ _ h1))) fun H2 e2 => ?_
      refine s_setL (j := 2) (e2 _ _ (e1 _ _ h1)) (ev_op (ev_var rfl) (ev_var rfl) (rv_I (dv _))) (ev_var rfl) ev_c (by show 2 < 3; omega) fun H3 e3 => ?_
      have g3 := ((e1.trans e2).trans e3) _ _ h1
      have k3 : Dk S n H3 := ⟨t, r, g3, ((e1.trans e2).trans e3) _ _ h2, h3, h4⟩
      dsimp only
      refine s_ret (ev_op (ev_int (ev_var rfl)) (ev_var rfl) (rv_I (C := fun _ j => 0 < j) hm)) fun H4 e4 => ?_
      exact fin _ H4 ((Ex.dx ((e1.trans e2).trans e3)).trans ((dx_set g3).trans (Ex.dx e4))) (Dk.ex e4 (Dk.le (dk_set k3 h3 h4) (by omega)))
    · refine s_asg (one rfl (e1 _ _ h1)) fun H2 e2 => ?_
      refine s_setL (j := 1) (e2 _ _ (e1 _ _ h1)) (ev_op (ev_var rfl) ev_c rv_I0) (ev_var rfl) ev_c (by show 1 < 3; omega) fun H3 e3 => ?_
      have g3 := ((e1.trans e2).trans e3) _ _ h1
      have k3 : Dk S (n + 1) H3 := ⟨t, r, g3, ((e1.trans e2).trans e3) _ _ h2, h3, by omega⟩
      have k4 := dk_set (t := t + 1) (r := r) k3 (by omega) (by omega)
      have x4 : Dx H (upd H3 S.a (.lst [.ref S.c, .int (t + 1), .int r])) := (Ex.dx ((e1.trans e2).trans e3)).trans (dx_set g3)
      have a4 : (upd H3 S.a (.lst [.ref S.c, .int (t + 1), .int r])) S.a = some (.lst [.ref S.c, .int (t + 1), .int r]) := upd_same
      have c4 : (upd H3 S.a (.lst [.ref S.c, .int (t + 1), .int r])) S.c = some (.lst (S.cells.map V.int)) := by
        obtain ⟨_, _, _, c, _⟩ := k4
        exact c
      show tSeq _ _ _ _ (upd H3 S.a (.lst [.ref S.c, .int (t + 1), .int r]))
      generalize upd H3 S.a (.lst [.ref S.c, .int (t + 1), .int r]) = H4 at k4 x4 a4 c4
      have tb : t < 2 ^ 20 := by
        have : n + 1 ≤ 1000000 := hn
        omega
      refine s_asg (ev_op (ev_op ev_c (ev_var rfl) (rv_I (C := CMul) (.inl ⟨by decide, by decide⟩))) ev_c rv_I0) fun H5 e5 => ?_
      refine s_cut (fun σ' H' => ∃ cv : Int, σ' = [some (.ref S.a), some (.int m), none, some (.int t), some (.int cv), none] ∧ Ex H4 H') ?_ fun σ' H' hm' => ?_
      · refine s_if (et_test (ev_opL (zer rfl (e5 _ _ a4)) (el_lst ea_nil (by decide)) fun p H6 hp e6 => rv_neInts (e6 _ _ (e5 _ _ c4)) hp)) (fun hne H6 e6 => ?_) (fun _ H6 e6 => ⟨_, rfl, e5.trans e6⟩)
        have hne2 : S.cells ≠ [] := of_decide_eq_true hne
        have hl : 0 < S.cells.length := List.length_pos_iff.mpr hne2
        obtain ⟨cv, hcv⟩ := atI_get (ns := S.cells) (i := t % (S.cells.length : Int)) (Int.emod_nonneg _ (by omega)) (Int.emod_lt_of_pos _ (by omega))
        have a6 := (e5.trans e6) _ _ a4
        have c6 := (e5.trans e6) _ _ c4
        refine s_asg (ev_ixL (zer rfl a6) (ev_op (ev_int (ev_var rfl)) (ev_is (w := .int (S.cells.length : Int)) (ev_len (zer rfl a6) (sq_of c6)) (by rw [List.length_map])) (rv_I (by omega))) c6 hcv) fun H7 e7 => ⟨cv, rfl, (e5.trans e6).trans e7⟩
      · obtain ⟨cv, rfl, e6⟩ := hm'
        have a6 := e6 _ _ a4
        have c6 := e6 _ _ c4
        have k6 := Dk.ex e6 k4
        have x6 := x4.trans (Ex.dx e6)
        have p10 : ∀ {σ : L2.St} {H1 : Hp}, Ev (tOp (rI CPow fun i j => .int (i ^ j.toNat)) (tC (.int 10)) (tC (.int 18))) σ H1 (.int (10 ^ 18)) := ev_op ev_c ev_c (rv_I (C := CPow) ⟨by decide, by decide, by decide⟩)
        refine s_if (et_and (et_test (ev_op (ev_var rfl) (ev_len (zer rfl a6) (sq_of c6)) rv_I0)) (fun _ => et_test (ev_op (ev_abs (ev_var rfl)) p10 rv_I0))) (fun _ H7 e7 => ?_) (fun _ H7 e7 => ?_)
        · refine s_asg (ev_op (ev_op ev_c (ev_op (ev_abs (ev_var rfl)) p10 rv_I0) (rv_I (C := CMul) (.inl ⟨by decide, by decide⟩))) (ev_intB (ev_op (ev_var rfl) ev_c rv_I0)) rv_I0) fun H8 e8 => ?_
          refine s_setL (j := 2) (e8 _ _ (e7 _ _ a6)) (ev_op (ev_var rfl) (ev_var rfl) (rv_I (dv _))) (ev_var rfl) ev_c (by show 2 < 3; omega) fun H9 e9 => ?_
          have g9 := ((e7.trans e8).trans e9) _ _ a6
          have k9 := Dk.ex ((e7.trans e8).trans e9) k6
          refine s_ret (ev_op (ev_int (ev_var rfl)) (ev_var rfl) (rv_I (C := fun _ j => 0 < j) hm)) fun H10 e10 => ?_
          exact fin _ H10 ((x6.trans (Ex.dx ((e7.trans e8).trans e9))).trans ((dx_set g9).trans (Ex.dx e10))) (Dk.ex e10 (dk_set k9 (by omega) (by omega)))
        · have m1 := Int.emod_nonneg cv (show (2147483549 : Int) ≠ 0 by decide)
          have m2 := Int.emod_lt_of_pos cv (show (0 : Int) < 2147483549 by decide)
          refine s_asg (ev_op (ev_int (ev_op (ev_op (ev_op (ev_op (ev_int (ev_var rfl)) ev_c (rv_I (by decide))) (ev_op ev_c (ev_var rfl) (rv_I (C := CMul) (.inl ⟨by decide, by decide⟩))) rv_I0) ev_c rv_I0) ev_c (rv_I (C := CPow) ⟨by decide, by decide, by omega⟩))) ev_c (rv_I (by decide))) fun H8 e8 => ?_
          obtain ⟨mx, hmx, n1, n2⟩ : ∃ mx : Int, mx = ((cv % 2147483549 + 30211 * t + 4421) ^ (5 : Int).toNat) % 2147483587 ∧ 0 ≤ mx ∧ mx < 2147483587 := ⟨_, rfl, Int.emod_nonneg _ (by decide), Int.emod_lt_of_pos _ (by decide)⟩
          rw [← hmx]
          have tt : 0 ≤ t * t ∧ t * t ≤ 2 ^ 40 := ⟨Int.mul_nonneg h3 h3, by
            have := Int.mul_le_mul (show t ≤ 2 ^ 20 by omega) (show t ≤ 2 ^ 20 by omega) h3 (by decide)
            omega⟩
          have bb : 0 ≤ mx * (2 * t + 3019) ∧ mx * (2 * t + 3019) ≤ 2147483587 * (2 * 2 ^ 20 + 3019) := ⟨Int.mul_nonneg n1 (by omega), Int.mul_le_mul (by omega) (by omega) (by omega) (by decide)⟩
          have t3 : 51043 * t * t = 51043 * (t * t) := Int.mul_assoc _ _ _
          refine s_asg (ev_op (ev_int (ev_op (ev_op (ev_op (ev_op (ev_var rfl) (ev_op (ev_op ev_c (ev_var rfl) (rv_I (C := CMul) (.inl ⟨by decide, by decide⟩))) ev_c rv_I0) (rv_I (C := CMul) (.inl ⟨by omega, by omega⟩))) (ev_op (ev_op ev_c (ev_var rfl) (rv_I (C := CMul) (.inl ⟨by decide, by decide⟩))) (ev_var rfl) (rv_I (C := CMul) (.inr ⟨by omega, by omega⟩))) rv_I0) ev_c rv_I0) ev_c (rv_I (C := CPow) ⟨by decide, by decide, by omega⟩))) ev_c (rv_I (by decide))) fun H9 e9 => ?_
          refine s_ret (ev_op (ev_int (ev_op (ev_var rfl) ev_c (rv_I (C := CDiv) (i := _) (j := 64) ⟨by decide, by decide⟩))) (ev_var rfl) (rv_I (C := fun _ j => 0 < j) hm)) fun H10 e10 => ?_
          exact fin _ H10 (x6.trans (Ex.dx (((e7.trans e8).trans e9).trans e10))) (Dk.ex (((e7.trans e8).trans e9).trans e10) k6)
end
end K4

set_option Elab.async false
set_option linter.all false
set_option maxRecDepth 100000
set_option maxHeartbeats 4000000
namespace K4
open PySem PySem.Spec PyProof.Rows L2 Evl M4
/-! ### what draws on its way -/
def EvG (S : DS) (te : TE) (σ : L2.St) (H : Hp) (n k : Nat) (R : V → Hp → Prop) : Prop := ∀ H1, Dx H H1 → Dk S n H1 → ∀ Q : VK, (∀ v H2, Dx H1 H2 → Dk S (n + k) H2 → R v H2 → Q v H2) → te σ H1 Q
def EvGT (S : DS) (tt : TT) (σ : L2.St) (H : Hp) (n k : Nat) : Prop := ∀ H1, Dx H H1 → Dk S n H1 → ∀ Q : Bool → Hp → Prop, (∀ b H2, Dx H1 H2 → Dk S (n + k) H2 → Q b H2) → tt σ H1 Q
def EvGA (S : DS) (ta : TA) (σ : L2.St) (H : Hp) (n k : Nat) (R : List V → Hp → Prop) : Prop := ∀ H1, Dx H H1 → Dk S n H1 → ∀ Q : List V → Hp → Prop, (∀ v H2, Dx H1 H2 → Dk S (n + k) H2 → R v H2 → Q v H2) → ta σ H1 Q
def StR {α : Type} (R : α → Hp → Prop) : Prop := ∀ v H H', Dx H H' → R v H → R v H'
section
variable {K : PySem.W.Frag} {S : DS} {σ : L2.St} {H : Hp} {te ta tb : TE} {tt : TT} {t : TA} {n k k1 k2 : Nat} {R R' : V → Hp → Prop} {r : R2} {x y v : V} {vs : List V} {D : Ends}
theorem eg_le (h : EvG S te σ H n k1 R) (l : k1 ≤ k) : EvG S te σ H n k R := fun H1 x d Q q => h H1 x d Q fun v H2 x2 d2 r => q v H2 x2 (d2.le (by omega)) r
theorem eg_imp (h : EvG S te σ H n k R) (l : ∀ v H1, Dx H H1 → R v H1 → R' v H1) : EvG S te σ H n k R' := fun H1 x d Q q => h H1 x d Q fun v H2 x2 d2 r => q v H2 x2 d2 (l v H2 (x.trans x2) r)
theorem eg_v (h : ∀ H1, Dx H H1 → Ev te σ H1 v) (hr : ∀ H1, Dx H H1 → R v H1) : EvG S te σ H n 0 R := fun H1 x d Q q => h H1 x H1 (Ex.refl H1) Q fun H2 e2 => q v H2 (Ex.dx e2) (d.ex e2) (hr H2 (x.trans (Ex.dx e2)))
theorem eg_r (h : ∀ H1, Dx H H1 → EvR te σ H1 R) : EvG S te σ H n 0 R := fun H1 x d Q q => h H1 x H1 (Ex.refl H1) Q fun v H2 e2 hv => q v H2 (Ex.dx e2) (d.ex e2) hv
theorem eg_opR (ha : ∀ H1, Dx H H1 → Ev ta σ H1 x) (hb : EvG S tb σ H n k R) (hr : ∀ y H1, Dx H H1 → R y H1 → ∃ z, RV r x y H1 z ∧ ∀ H2, Ex H1 H2 → R' z H2) : EvG S (tOp r ta tb) σ H n k R' := fun H1 x1 d1 Q q =>
  ha H1 x1 H1 (Ex.refl H1) _ fun H2 e2 => hb H2 (x1.trans (Ex.dx e2)) (d1.ex e2) _ fun y H3 x3 d3 r3 => by
    obtain ⟨z, rv, r'⟩ := hr y H3 ((x1.trans (Ex.dx e2)).trans x3) r3
    exact rv H3 (Ex.refl H3) Q fun H4 e4 => q z H4 (((Ex.dx e2).trans x3).trans (Ex.dx e4)) (d3.ex e4) (r' H4 e4)
theorem eg_opL (ha : EvG S ta σ H n k R) (hb : ∀ H1, Dx H H1 → Ev tb σ H1 y) (hr : ∀ x H1, Dx H H1 → R x H1 → ∃ z, (∀ H2, Ex H1 H2 → RV r x y H2 z) ∧ ∀ H2, Ex H1 H2 → R' z H2) : EvG S (tOp r ta tb) σ H n k R' := fun H1 x1 d1 Q q =>
  ha H1 x1 d1 _ fun x H2 x2 d2 r2 => hb H2 (x1.trans x2) H2 (Ex.refl H2) _ fun H3 e3 => by
    obtain ⟨z, rv, r'⟩ := hr x H2 (x1.trans x2) r2
    exact rv H3 e3 H3 (Ex.refl H3) Q fun H4 e4 => q z H4 ((x2.trans (Ex.dx e3)).trans (Ex.dx e4)) ((d2.ex e3).ex e4) (r' H4 (e3.trans e4))
theorem egt_B (h : EvG S te σ H n k fun v _ => ∃ b, v = .bl b) : EvGT S (tB te) σ H n k := fun H1 x d Q q => h H1 x d _ fun v H2 x2 d2 ⟨b, e⟩ => ⟨b, e, q b H2 x2 d2⟩
theorem egt_test (h : EvG S te σ H n k fun v _ => ∃ b, v = .bl b) : EvGT S (tTest te) σ H n k := fun H1 x d Q q => h H1 x d _ fun v H2 x2 d2 ⟨b, e⟩ => ⟨b, e, q b H2 x2 d2⟩
theorem eg_if (hc : EvGT S tt σ H n k1) (h1 : EvG S ta σ H (n + k1) k2 R) (h2 : EvG S tb σ H (n + k1) k2 R) : EvG S (tIf tt ta tb) σ H n (k1 + k2) R := fun H1 x d Q q => hc H1 x d _ fun b H2 x2 d2 => by
  cases b with
  | true =>
    show ta σ H2 Q
    exact h1 H2 (x.trans x2) d2 Q fun v H3 x3 d3 hv => q v H3 (x2.trans x3) (d3.le (by omega)) hv
  | false =>
    show tb σ H2 Q
    exact h2 H2 (x.trans x2) d2 Q fun v H3 x3 d3 hv => q v H3 (x2.trans x3) (d3.le (by omega)) hv
theorem ega_nil : EvGA S tNil σ H n 0 fun vs _ => vs = [] := fun H1 x d Q q => q [] H1 (Dx.refl H1) d rfl
theorem ega_cons {Rs : V → List V → Hp → Prop} (st : StR R) (h : EvG S te σ H n k1 R) (hr : ∀ v H1, Dx H H1 → R v H1 → EvGA S t σ H1 (n + k1) k2 (Rs v)) : EvGA S (tCons te t) σ H n (k1 + k2) fun vs H => ∃ v ws, vs = v :: ws ∧ R v H ∧ Rs v ws H := fun H1 x d Q q =>
  h H1 x d _ fun v H2 x2 d2 r2 => hr v H2 (x.trans x2) r2 H2 (Dx.refl H2) d2 _ fun ws H3 x3 d3 r3 => q (v :: ws) H3 (x2.trans x3) (d3.le (by omega)) ⟨v, ws, rfl, st v H2 H3 x3 r2, r3⟩
theorem ega_of (h : ∀ H1, Dx H H1 → EvA t σ H1 vs) : EvGA S t σ H n 0 fun ws _ => ws = vs := fun H1 x d Q q => h H1 x H1 (Ex.refl H1) Q fun H2 e2 => q vs H2 (Ex.dx e2) (d.ex e2) rfl
theorem eg_callA {Rs : List V → Hp → Prop} {Pre : DS → Hp → List V → Nat → (V → Hp → Prop) → Prop} (h : EvGA S t σ H n k1 Rs) (hn : n + k1 + k2 ≤ Fuel) (hp : ∀ ws H1, Dx H H1 → Rs ws H1 → Pre S H1 ws k2 R) : EvG S (tCall (spG Pre) [] E0 t) σ H n (k1 + k2) R := fun H1 x d Q q =>
  h H1 x d _ fun ws H2 x2 d2 r2 => by
    show spG Pre (ws ++ []) H2 Q E0
    rw [List.append_nil]
    exact ⟨S, n + k1, k2, R, hp ws H2 (x.trans x2) r2, d2, hn, fun v H3 x3 d3 r3 => q v H3 (x2.trans x3) (d3.le (by omega)) r3⟩
theorem eg_callR {Rs : List V → Hp → Prop} {Pre : Hp → List V → (V → Hp → Prop) → Prop} (h : EvGA S t σ H n k Rs) (hp : ∀ ws H1, Dx H H1 → Rs ws H1 → ∃ R0, Pre H1 ws R0 ∧ ∀ v H2, Dx H1 H2 → R0 v H2 → R v H2) : EvG S (tCall (spR Pre) [] E0 t) σ H n k R := fun H1 x d Q q =>
  h H1 x d _ fun ws H2 x2 d2 r2 => by
    show spR Pre (ws ++ []) H2 Q E0
    rw [List.append_nil]
    obtain ⟨R0, h0, h1⟩ := hp ws H2 (x.trans x2) r2
    exact ⟨R0, h0, fun v H3 e3 r3 => q v H3 (x2.trans (Ex.dx e3)) (d2.ex e3) (h1 v H3 (Ex.dx e3) r3)⟩
theorem eg_call {Pre : DS → Hp → List V → Nat → (V → Hp → Prop) → Prop} (h : ∀ H1, Dx H H1 → EvA t σ H1 vs) (hn : n + k ≤ Fuel) (hp : ∀ H1, Dx H H1 → Pre S H1 vs k R) : EvG S (tCall (spG Pre) [] E0 t) σ H n k R :=
  eg_le (eg_callA (ega_of h) (by omega) fun ws H1 x e => by subst e; exact hp H1 x) (by omega)
theorem eg_lst {Rs : List V → Hp → Prop} (st : StR Rs) (h : EvGA S t σ H n k Rs) (hl : ∀ ws H1, Rs ws H1 → ws.length ≤ 100) : EvG S (tLst t) σ H n k fun v H => ∃ l ws, v = .ref l ∧ H l = some (.lst ws) ∧ Rs ws H := fun H1 x d Q q =>
  h H1 x d _ fun ws H2 x2 d2 r2 => ⟨by have := hl ws H2 r2; rw [sizeLine_eq]; omega, fun p hp => q (.ref p) _ (x2.trans (Ex.dx (Ex.new hp))) (d2.ex (Ex.new hp)) ⟨p, ws, rfl, upd_same, st _ _ _ (Ex.dx (Ex.new hp)) r2⟩⟩
theorem g_asg {i : Nat} (h : EvG S te σ H n k R) (d : Dk S n H) (q : ∀ v H1, Dx H H1 → Dk S (n + k) H1 → R v H1 → D.nx (σ.set i (some v)) H1) : tAsg te (gName i) D σ H := h H (Dx.refl H) d _ q
theorem s_unp {i j : Nat} {u z : V} (h : EvU te σ H [u, z]) (q : ∀ H1, Ex H H1 → D.nx ((σ.set i (some u)).set j (some z)) H1) : tAsg te (gTup K 2 (gCons (gName i) (gCons (gName j) gNil))) D σ H :=
  h H (Ex.refl H) _ fun p H1 _ e hp => ⟨p, _, rfl, st_of hp, rfl, u, _, rfl, z, _, rfl, rfl, q H1 e⟩
theorem g_forR1 {j : Nat} {m : Int} {tu : TS} (h : EvG S te σ H n k fun v _ => ∃ i : Int, v = .int i ∧ 0 ≤ i ∧ i < m) (hm : m ≤ 100000) (d : Dk S n H)
    (q : ∀ (c : Nat) H1, (c : Int) < m → Dx H H1 → Dk S (n + k) H1 → ∃ Pv : Nat → L2.St → Hp → Prop, Pv 0 σ H1 ∧ (∀ (i : Nat) σ' H', i < c → Pv i σ' H' → tu { D with nx := Pv (i + 1), ct := Pv (i + 1), bk := D.nx } (σ'.set j (some (.int (i : Int)))) H') ∧ ∀ σ' H', Pv c σ' H' → D.nx σ' H') :
    tFor (iRng1 (tCons te tNil)) (gName j) tu D σ H := h H (Dx.refl H) d _ fun v H1 x1 d1 ⟨i, e, i0, i1⟩ => by
  subst e
  obtain ⟨c, rfl⟩ : ∃ c : Nat, i = (c : Int) := ⟨i.toNat, by omega⟩
  obtain ⟨Pv, p0, ps, pd⟩ := q c H1 i1 x1 d1
  exact ⟨(c : Int), rfl, by omega, by omega, for_range (lo := 0) (n := c) Pv p0 (fun i σ' H' hi p => by
    have e0 : (0 : Int) + (i : Int) = (i : Int) := Int.zero_add _
    show tu { D with nx := Pv (i + 1), ct := Pv (i + 1), bk := D.nx } (σ'.set j (some (.int ((0 : Int) + (i : Int))))) H'
    rw [e0]
    exact ps i σ' H' hi p) pd⟩
theorem g_ret (h : EvG S te σ H n k R) (d : Dk S n H) (q : ∀ v H1, Dx H H1 → Dk S (n + k) H1 → R v H1 → D.rt v H1) : tRet te D σ H := h H (Dx.refl H) d _ q
end
section
variable {P : Program} {w : World} {K : PySem.W.Frag} {mg : Str → Option Value} {base : Heap}
/-! ### _law_pick -/
def prePick : DS → Hp → List V → Nat → (V → Hp → Prop) → Prop := fun S H vs k R => ∃ l xs, vs = [.ref S.a, .ref l] ∧ H l = some (.lst xs) ∧ NoDk (.lst xs) ∧ 0 < xs.length ∧ xs.length ≤ 100 ∧ k = 1 ∧ R = fun v _ => v ∈ xs
theorem cal_pick (D : FD K mg "_law_pick" s_pick) (T : MF mg) (c_draw : Cal P w K mg base 1 "_law_draw" ["deck", "many"] (spG preDraw)) : Cal P w K mg base 2 "_law_pick" ["deck", "some"] (spG prePick) := by
  refine cal_of0 D sc_pick (fun _ _ _ _ _ _ us hl => match us, hl with | [_, _], _ => rfl) (fun vs H Q E h => ?_) (fun f cdv A outer s H vs Q E hr h => ?_)
  · obtain ⟨S, n, k, R, ⟨l, xs, rfl, _⟩, _⟩ := h
    rfl
  · obtain ⟨S, n, k, R, ⟨l, xs, rfl, hl, nd, h0, h1, rfl, rfl⟩, hd, hn, q⟩ := h
    refine ⟨_, (pss_one (ps_ret (pe_ix ix_list (pv 1) (pe_cal c_draw (hr.mono (by decide)) rfl pass0 (pa_cons (pv 0) (pa_cons (pe_callB call_len_seq (by rfl) T.len (by decide +kernel) (pa_cons (pv 1) pa_nil)) pa_nil))) (fun _ _ => rfl)))), ?_⟩
    refine g_ret (k := 1) (R := fun v _ => v ∈ xs) (eg_opR (R := fun v _ => ∃ i : Int, v = .int i ∧ 0 ≤ i ∧ i < xs.length) (fun H1 _ => ev_var rfl) (eg_call (fun H1 x => ea_cons (ev_var rfl) (ea_cons (ev_len (ev_var rfl) (sq_of (x _ _ nd hl))) ea_nil)) (by omega) fun H1 _ => ⟨xs.length, rfl, by omega, ?_, rfl, rfl⟩) fun y H1 x ⟨i, e, i0, i1⟩ => ?_) hd q
    · exact Nat.lt_of_le_of_lt (show (xs.length : Int).natAbs ≤ 100 by omega) (by decide)
    · subst e
      obtain ⟨j, rfl⟩ : ∃ j : Nat, i = (j : Int) := ⟨i.toNat, by omega⟩
      have hj : j < xs.length := by omega
      refine ⟨xs[j], rv_ixL (sq_of (x _ _ nd hl)) ?_, fun _ _ => List.getElem_mem _⟩
      unfold atI
      rw [ixN_nat hj]
      simp [List.getElem?_eq_getElem hj]
/-! ### _law_low -/
def preLow (K : PySem.W.Frag) : Hp → List V → (V → Hp → Prop) → Prop := fun _ vs R => ∃ p q : Int, vs = [.int p, .int q] ∧ 1 ≤ p ∧ 1 ≤ q ∧ Bd p ∧ R = fun v H => Tt H v (p / (Int.gcd p q : Int)) (q / (Int.gcd p q : Int))
theorem cal_low (D : FD K mg "_law_low" s_low) (T : MF mg) : Cal P w K mg base 1 "_law_low" ["p", "q"] (spR (preLow K)) := by
  refine cal_of0 D sc_low (fun _ _ _ _ _ _ us hl => match us, hl with | [_, _], _ => rfl) (fun vs H Q E h => ?_) (fun f cdv A outer s H vs Q E hr h => ?_)
  · obtain ⟨R, ⟨p, q, rfl, _⟩, _⟩ := h
    rfl
  · obtain ⟨R, ⟨p, q, rfl, hp, hq, bp, rfl⟩, k⟩ := h
    refine ⟨_, (pss_cons (ps_par (i := 2) (j := 3) (by rfl) sc_low.nd rfl rfl (by decide) rfl rfl (pa_cons (pv 0) (pa_cons (pv 1) pa_nil)) (by rfl))
      (pss_cons (ps_while PassesOwn.never (pt_cmpR op_gt (pv 3) pe_int (nomark _)) (pss_one (ps_par (i := 2) (j := 3) (by rfl) sc_low.nd rfl rfl (by decide) rfl rfl (pa_cons (pv 3) (pa_cons (pe_op op_mod (pe_callTy cr_int rfl T.int (by decide +kernel) (pa_cons (pv 2) pa_nil)) (pv 3)) pa_nil)) (by rfl))))
      (pss_one (ps_ret (pe_tup (pa_cons (pe_op op_fdivW (pe_callTy cr_int rfl T.int (by decide +kernel) (pa_cons (pv 0) pa_nil)) (pv 2)) (pa_cons (pe_op op_fdivW (pe_callTy cr_int rfl T.int (by decide +kernel) (pa_cons (pv 1) pa_nil)) (pv 2)) pa_nil))))))), ?_⟩
    refine s_par (ea_cons (ev_var rfl) (ea_cons (ev_var rfl) ea_nil)) fun H1 e1 => ?_
    refine s_while (fun m σ' H' => ∃ x y : Nat, σ' = [some (.int p), some (.int q), some (.int x), some (.int y)] ∧ Nat.gcd x y = Int.gcd p q ∧ m = y ∧ Ex H H') q.natAbs ⟨p.natAbs, q.natAbs, ?_, rfl, rfl, e1⟩ fun m σ' H' hw => ?_
    · have a1 : ((p.natAbs : Nat) : Int) = p := by omega
      have a2 : ((q.natAbs : Nat) : Int) = q := by omega
      rw [a1, a2]
      rfl
    obtain ⟨x, y, rfl, hg, rfl, e2⟩ := hw
    refine ⟨_, et_test (ev_op (ev_var rfl) ev_c rv_I0), fun hb H2 e3 => ?_, fun hb H2 e3 => ?_⟩
    · have hy : 0 < m := by
        have := of_decide_eq_true hb
        omega
      refine ⟨fun σ2 H3 => ∃ x2 y2 : Nat, σ2 = [some (.int p), some (.int q), some (.int x2), some (.int y2)] ∧ Nat.gcd x2 y2 = Int.gcd p q ∧ y2 < m ∧ Ex H H3, fun σ2 H3 hN => ?_, ?_⟩
      · obtain ⟨x2, y2, h1, h2, h3, h4⟩ := hN
        exact ⟨y2, h3, x2, y2, h1, h2, rfl, h4⟩
      · refine s_par (ea_cons (ev_var rfl) (ea_cons (ev_op (ev_int (ev_var rfl)) (ev_var rfl) (rv_I (C := fun _ j => 0 < j) (by omega))) ea_nil)) fun H3 e4 => ⟨m, x % m, ?_, ?_, Nat.mod_lt _ hy, (e2.trans e3).trans e4⟩
        · rfl
        · rw [← hg, Nat.gcd_comm m, ← Nat.gcd_rec, Nat.gcd_comm]
    · have hy : m = 0 := by
        have := of_decide_eq_false hb
        omega
      subst hy
      rw [Nat.gcd_zero_right] at hg
      subst hg
      have gp : 0 < Int.gcd p q := Int.gcd_pos_of_ne_zero_left _ (by omega)
      have gl : Int.gcd p q ≤ p.natAbs := Nat.le_of_dvd (by omega) (Nat.gcd_dvd_left _ _)
      have hb2 : ((Int.gcd p q : Nat) : Int).natAbs < 2 ^ 1000 := Nat.lt_of_le_of_lt (by omega) bp
      have dv : ∀ i : Int, CDivW i ((Int.gcd p q : Nat) : Int) := fun i => wide_div (b := 1000) (by omega) hb2 (by omega) (by omega)
      refine s_retR (evr_tt (ea_cons (ev_op (ev_int (ev_var rfl)) (ev_var rfl) (rv_I (dv p))) (ea_cons (ev_op (ev_int (ev_var rfl)) (ev_var rfl) (rv_I (dv q))) ea_nil))) fun v H3 e4 hv => ?_
      exact k v H3 ((e2.trans e3).trans e4) hv
theorem two_le {a b : Nat} (h : a ≤ b) : (2 : Int) ^ a ≤ 2 ^ b := by
  have e := Nat.pow_le_pow_right (n := 2) (by decide) h
  exact_mod_cast e
/-! ### _law_slant -/
structure Gs (p q : Int) : Prop where
  p1 : 1 ≤ p
  q1 : 1 ≤ q
  g : Int.gcd p q = 1
  bp : p < 2 ^ 200
  bq : q < 2 ^ 200
theorem Gs.swap {p q : Int} (h : Gs p q) : Gs q p := ⟨h.q1, h.p1, by rw [Int.gcd_comm]; exact h.g, h.bq, h.bp⟩
theorem gs_low {p q : Int} (hp : 1 ≤ p) (hq : 1 ≤ q) (bp : p < 2 ^ 200) (bq : q < 2 ^ 200) : Gs (p / (Int.gcd p q : Int)) (q / (Int.gcd p q : Int)) := by
  have gp : 0 < Int.gcd p q := Int.gcd_pos_of_ne_zero_left _ (by omega)
  have d1 : ((Int.gcd p q : Nat) : Int) ∣ p := Int.gcd_dvd_left ..
  have d2 : ((Int.gcd p q : Nat) : Int) ∣ q := Int.gcd_dvd_right ..
  have l1 : p / (Int.gcd p q : Int) ≤ p := Int.ediv_le_self _ (by omega)
  have l2 : q / (Int.gcd p q : Int) ≤ q := Int.ediv_le_self _ (by omega)
  have g1 := Int.le_of_dvd (by omega) d1
  have g2 := Int.le_of_dvd (by omega) d2
  refine ⟨?_, ?_, Int.gcd_ediv_gcd_ediv_gcd gp, by omega, by omega⟩
  · exact (Int.le_ediv_iff_mul_le (by omega)).mpr (by omega)
  · exact (Int.le_ediv_iff_mul_le (by omega)).mpr (by omega)
abbrev s_slant : Stmt := top 31
theorem sc_slant : FnScope ["deck", "top", "kind", "p", "q", "turn", "most", "pair"] ["deck", "top"] (defScope s_slant) := ⟨rfl, rfl, rfl, by decide +kernel, rfl, by decide +kernel, by decide +kernel⟩
def preSlantD (K : PySem.W.Frag) : DS → Hp → List V → Nat → (V → Hp → Prop) → Prop := fun S _ vs k R => ∃ top : Int, vs = [.ref S.a, .int top] ∧ 1 ≤ top ∧ top < 2 ^ 190 ∧ k = 6 ∧ R = fun v H => ∃ p q : Int, Tt H v p q ∧ Gs p q
theorem cal_slant (D : FD K mg "_law_slant" s_slant) (T : MF mg) (c_draw : Cal P w K mg base 1 "_law_draw" ["deck", "many"] (spG preDraw)) (c_low : Cal P w K mg base 1 "_law_low" ["p", "q"] (spR (preLow K))) : Cal P w K mg base 2 "_law_slant" ["deck", "top"] (spG (preSlantD K)) := by
  refine cal_of0 D sc_slant (fun _ _ _ _ _ _ us hl => match us, hl with | [_, _], _ => rfl) (fun vs H Q E h => ?_) (fun f cdv A outer s H vs Q E hr h => ?_)
  · obtain ⟨S, n, k, R, ⟨l, rfl, _⟩, _⟩ := h
    rfl
  · obtain ⟨S, n, k, R, ⟨top, rfl, t1, tb, rfl, rfl⟩, hd, hn, q⟩ := h
    refine ⟨_, (pss_cons (ps_set (i := 2) sc_slant.nd rfl (.inl rfl) (pe_cal c_draw (hr.mono (by decide)) rfl pass0 (pa_cons (pv 0) (pa_cons pe_int pa_nil))))
      (pss_cons (ps_if (pt_cmpR op_eq (pv 2) pe_int (nomark _))
        (pss_cons (ps_asg (pe_tup (pa_cons pe_int (pa_cons pe_int pa_nil))) (pg_tup rfl (pgs_cons (pg_name (i := 3) sc_slant.nd rfl (.inl rfl)) (pgs_cons (pg_name (i := 4) sc_slant.nd rfl (.inl rfl)) pgs_nil))))
        (pss_cons (ps_for PassesOwn.never rfl (pi_range1 rfl T.range (pa_cons (pe_cal c_draw (hr.mono (by decide)) rfl pass0 (pa_cons (pv 0) (pa_cons pe_int pa_nil))) pa_nil)) (pg_name (i := 5) sc_slant.nd rfl (.inl rfl))
          (pss_one (ps_par (i := 3) (j := 4) (by rfl) sc_slant.nd rfl rfl (by decide) rfl rfl (pa_cons (pe_op op_add (pv 3) (pv 4)) (pa_cons (pv 3) pa_nil)) (by rfl))))
        (pss_one (ps_ret (pe_ifExp (pt_cmpR op_eq (pe_cal c_draw (hr.mono (by decide)) rfl pass0 (pa_cons (pv 0) (pa_cons pe_int pa_nil))) pe_int (nomark _)) (pe_tup (pa_cons (pv 3) (pa_cons (pv 4) pa_nil))) (pe_tup (pa_cons (pv 4) (pa_cons (pv 3) pa_nil)))))))) pss_nil)
      (pss_cons (ps_set (i := 6) sc_slant.nd rfl (.inl rfl) (pe_ix ix_list (pe_lst (pa_cons pe_int (pa_cons pe_int (pa_cons (pe_op op_pow pe_int pe_int) (pa_cons (pv 1) pa_nil))))) (pe_op op_sub (pv 2) pe_int) (fun _ _ => rfl)))
      (pss_cons (ps_set (i := 7) sc_slant.nd rfl (.inl rfl) (pe_cal c_low (hr.mono (by decide)) rfl pass0 (pa_cons (pe_op op_add pe_int (pe_cal c_draw (hr.mono (by decide)) rfl pass0 (pa_cons (pv 0) (pa_cons (pv 6) pa_nil)))) (pa_cons (pe_op op_add pe_int (pe_ifExp (pt_cmpR op_gt (pe_cal c_draw (hr.mono (by decide)) rfl pass0 (pa_cons (pv 0) (pa_cons pe_int pa_nil))) pe_int (nomark _)) (pe_cal c_draw (hr.mono (by decide)) rfl pass0 (pa_cons (pv 0) (pa_cons (pv 6) pa_nil))) (pe_cal c_draw (hr.mono (by decide)) rfl pass0 (pa_cons (pv 0) (pa_cons pe_int pa_nil))))) pa_nil))))
      (pss_one (ps_ret (pe_ifExp (pt_cmpR op_eq (pe_cal c_draw (hr.mono (by decide)) rfl pass0 (pa_cons (pv 0) (pa_cons pe_int pa_nil))) pe_int (nomark _)) (pv 7) (pe_tup (pa_cons (pe_ix ix_tup (pv 7) pe_int (fun _ _ => rfl)) (pa_cons (pe_ix ix_tup (pv 7) pe_int (fun _ _ => rfl)) pa_nil)))))))))), ?_⟩
    have dr : ∀ {σ : L2.St} {H : Hp} {n : Nat} {t : TE} {m : Int}, σ[0]? = some (some (.ref S.a)) → (∀ H1, Dx H H1 → Ev t σ H1 (.int m)) → 0 < m → m.natAbs < 2 ^ 200 → n + 1 ≤ Fuel → EvG S (tCall (spG preDraw) [] E0 (tCons (tVar 0) (tCons t tNil))) σ H n 1 (fun v _ => ∃ i : Int, v = .int i ∧ 0 ≤ i ∧ i < m) := fun i0 h h1 h2 hn => eg_call (fun H1 x => ea_cons (ev_var i0) (ea_cons (h H1 x) ea_nil)) hn fun H1 _ => ⟨_, rfl, h1, h2, rfl, rfl⟩
    have half : ∀ {σ : L2.St} {H : Hp} {n : Nat}, σ[0]? = some (some (.ref S.a)) → n + 1 ≤ Fuel → EvGT S (tTest (tOp rEq (tCall (spG preDraw) [] E0 (tCons (tVar 0) (tCons (tC (.int 2)) tNil))) (tC (.int 0)))) σ H n 1 := fun i0 hn =>
      egt_test (eg_opL (dr i0 (fun _ _ => ev_c) (by decide) (by decide) hn) (fun _ _ => ev_c) fun x H1 _ ⟨i, e, _⟩ => by subst e; exact ⟨_, fun _ _ => rv_eqI, fun _ _ => ⟨_, rfl⟩⟩)
    have hn6 : n + 6 ≤ Fuel := hn
    refine g_asg (dr rfl (fun _ _ => ev_c) (by decide) (by decide) (by omega)) hd fun v H1 x1 d1 ⟨kd, e, kd0, kd1⟩ => ?_
    subst e
    refine s_if (et_test (ev_op (ev_var rfl) ev_c rv_eqI)) (fun hb H2 e2 => ?_) (fun hb H2 e2 => ?_)
    · refine s_unp (eu_tup (ea_cons ev_c (ea_cons ev_c ea_nil)) (by decide)) fun H3 e3 => ?_
      have d3 : Dk S (n + 1) H3 := (d1.ex e2).ex e3
      refine g_forR1 (dr rfl (fun _ _ => ev_c) (by decide) (by decide) (by omega)) (by decide) d3 fun c H4 hc x4 d4 => ⟨fun i σ' H' => ∃ (a b : Int) (o : Option V), σ' = [some (.ref S.a), some (.int top), some (.int kd), some (.int a), some (.int b), o, none, none] ∧ Dx H H' ∧ Dk S (n + 1 + 1) H' ∧ 1 ≤ a ∧ 1 ≤ b ∧ Int.gcd a b = 1 ∧ a ≤ 2 ^ i ∧ b ≤ 2 ^ i, ?_, ?_, ?_⟩
      · exact ⟨1, 1, none, rfl, ((x1.trans (Ex.dx e2)).trans (Ex.dx e3)).trans x4, d4, by omega, by omega, by decide, by decide, by decide⟩
      · intro i σ' H' hi hp
        obtain ⟨a, b, o, rfl, x, d, a1, b1, g, la, lb⟩ := hp
        refine s_par (ea_cons (ev_op (ev_var rfl) (ev_var rfl) rv_I0) (ea_cons (ev_var rfl) ea_nil)) fun H5 e5 => ⟨a + b, a, _, rfl, x.trans (Ex.dx e5), d.ex e5, by omega, a1, ?_, ?_, ?_⟩
        · rw [Int.gcd_comm, ← g]
          simp
        · rw [Int.pow_succ]
          omega
        · rw [Int.pow_succ]
          omega
      · intro σ' H' hp
        obtain ⟨a, b, o, rfl, x, d, a1, b1, g, la, lb⟩ := hp
        have big : (2 : Int) ^ c ≤ 2 ^ 150 := two_le (by omega)
        have bb : (2 : Int) ^ 150 < 2 ^ 200 := by decide
        have G : Gs a b := ⟨a1, b1, g, by omega, by omega⟩
        refine g_ret (eg_if (k2 := 0) (half rfl (by omega)) (R := fun v H => ∃ p q : Int, Tt H v p q ∧ Gs p q) (eg_r fun H1 _ => ?_) (eg_r fun H1 _ => ?_)) d fun v H1 x1 d1 hv => q v H1 (x.trans x1) (d1.le (by omega)) hv
        · exact fun H2 e2 Q k => evr_tt (ea_cons (ev_var rfl) (ea_cons (ev_var rfl) ea_nil)) H2 e2 Q fun v H3 e3 hv => k v H3 e3 ⟨a, b, hv, G⟩
        · exact fun H2 e2 Q k => evr_tt (ea_cons (ev_var rfl) (ea_cons (ev_var rfl) ea_nil)) H2 e2 Q fun v H3 e3 hv => k v H3 e3 ⟨b, a, hv, G.swap⟩
    · have kn : kd ≠ 0 := fun z => by
        subst z
        cases hb
      have d2 : Dk S (n + 1) H2 := d1.ex e2
      have p6 : ∀ {σ : L2.St} {H1 : Hp}, Ev (tOp (rI CPow fun i j => .int (i ^ j.toNat)) (tC (.int 10)) (tC (.int 6))) σ H1 (.int (10 ^ 6)) := ev_op ev_c ev_c (rv_I (C := CPow) ⟨by decide, by decide, by decide⟩)
      obtain ⟨mo, hmo, m1, m2⟩ : ∃ mo : Int, atI [V.int 7, V.int 30, V.int (10 ^ 6), V.int top] (kd - 1) = some (V.int mo) ∧ 1 ≤ mo ∧ mo < 2 ^ 190 := by
        have hk : kd = 1 ∨ kd = 2 ∨ kd = 3 ∨ kd = 4 := by omega
        rcases hk with rfl | rfl | rfl | rfl
        · exact ⟨7, rfl, by decide, by decide⟩
        · exact ⟨30, rfl, by decide, by decide⟩
        · exact ⟨10 ^ 6, rfl, by decide, by decide⟩
        · exact ⟨top, rfl, t1, tb⟩
      refine s_asg (v := .int mo) (ev_opL1 (y := .int (kd - 1)) (el_lst (ea_cons ev_c (ea_cons ev_c (ea_cons p6 (ea_cons (ev_var rfl) ea_nil)))) (by show 4 ≤ 100000; omega)) (fun H1 _ => ev_op (ev_var rfl) ev_c rv_I0) fun p H1 h1 _ => rv_ixL (sq_of h1) hmo) fun H3 e3 => ?_
      have d3 : Dk S (n + 1) H3 := d2.ex e3
      have mb : mo.natAbs < 2 ^ 200 := by omega
      have pos : ∀ {σ : L2.St} {H : Hp} {n : Nat}, σ[0]? = some (some (.ref S.a)) → n + 1 ≤ Fuel → EvGT S (tTest (tOp (rI0 fun i j => .bl (decide (j < i))) (tCall (spG preDraw) [] E0 (tCons (tVar 0) (tCons (tC (.int 4)) tNil))) (tC (.int 0)))) σ H n 1 := fun i0 hn =>
        egt_test (eg_opL (dr i0 (fun _ _ => ev_c) (by decide) (by decide) hn) (fun _ _ => ev_c) fun x H1 _ ⟨i, e, _⟩ => by subst e; exact ⟨_, fun _ _ => rv_I0, fun _ _ => ⟨_, rfl⟩⟩)
      have up : ∀ {σ : L2.St} {H : Hp} {n k : Nat} {t : TE}, EvG S t σ H n k (fun v _ => ∃ i : Int, v = .int i ∧ 0 ≤ i ∧ i < 2 ^ 190) → EvG S (tOp (rI0 fun i j => .int (i + j)) (tC (.int 1)) t) σ H n k (fun v _ => ∃ i : Int, v = .int i ∧ 1 ≤ i ∧ i < 2 ^ 200) := fun h =>
        eg_opR (fun _ _ => ev_c) h fun y H1 _ ⟨i, e, i0, i1⟩ => by subst e; exact ⟨_, rv_I0, fun _ _ => ⟨1 + i, rfl, by omega, by omega⟩⟩
      have sm : ∀ {m : Int}, m ≤ 2 ^ 190 → ∀ v (H1 : Hp), (∃ i : Int, v = V.int i ∧ 0 ≤ i ∧ i < m) → ∃ i : Int, v = V.int i ∧ 0 ≤ i ∧ i < 2 ^ 190 := fun hm v H1 ⟨i, e, i0, i1⟩ => ⟨i, e, i0, by omega⟩
      have st : StR (fun (v : V) (_ : Hp) => ∃ i : Int, v = .int i ∧ 1 ≤ i ∧ i < 2 ^ 200) := fun _ _ _ _ h => h
      refine g_asg (k := 3) (R := fun v H => ∃ p q : Int, Tt H v p q ∧ Gs p q) (eg_callR (ega_cons (k1 := 1) (k2 := 2) (Rs := fun _ ws _ => ∃ w : V, ws = [w] ∧ ∃ i : Int, w = .int i ∧ 1 ≤ i ∧ i < 2 ^ 200) st (up (eg_imp (dr rfl (fun _ _ => ev_var rfl) (by omega) mb (by omega)) fun v H1 _ h => sm (by omega) v H1 h))
        fun v1 H4 x4 hv1 => fun H5 x5 d5 Q5 q5 => ega_cons (k1 := 2) (k2 := 0) (Rs := fun _ ws _ => ws = []) st (up (eg_if (k1 := 1) (k2 := 1) (pos rfl (by omega)) (eg_imp (dr rfl (fun _ _ => ev_var rfl) (by omega) mb (by omega)) fun v H1 _ h => sm (by omega) v H1 h) (eg_imp (dr rfl (fun _ _ => ev_c) (by decide) (by decide) (by omega)) fun v H1 _ h => sm (by decide) v H1 h))) (fun _ _ _ _ => ega_nil) H5 x5 d5 Q5 fun ws H6 x6 d6 ⟨v, us, e, hv, e2⟩ => q5 ws H6 x6 d6 ⟨v, by rw [e, e2], hv⟩) fun ws H4 x4 hws => ?_) d3 fun v H4 x4 d4 hv => ?_
      · obtain ⟨v, us, rfl, ⟨i, rfl, i1, i2⟩, w, rfl, j, rfl, j1, j2⟩ := hws
        exact ⟨_, ⟨i, j, rfl, i1, j1, Nat.lt_trans (show i.natAbs < 2 ^ 200 by omega) (Nat.pow_lt_pow_right (by decide) (by decide)), rfl⟩, fun v H2 _ hv => ⟨_, _, hv, gs_low i1 j1 i2 j2⟩⟩
      · obtain ⟨a, b, tv, G⟩ := hv
        have x : Dx H H4 := (((x1.trans (Ex.dx e2)).trans (Ex.dx e3)).trans x4)
        refine g_ret (eg_if (k2 := 0) (half rfl (by omega)) (R := fun v H => ∃ p q : Int, Tt H v p q ∧ Gs p q) (eg_v (fun H1 _ => ev_var rfl) fun H1 x1 => ⟨a, b, tv.dx x1, G⟩) (eg_r fun H1 x1 => ?_)) d4 fun v H1 x1 d1 hv => q v H1 (x.trans x1) (d1.le (by omega)) hv
        exact fun H2 e2 Q k => evr_tt (ea_cons (ev_snd (ev_var rfl) (tv.dx x1).tp) (ea_cons (ev_fst (ev_var rfl) (tv.dx x1).tp) ea_nil)) H2 e2 Q fun v H3 e3 hv => k v H3 e3 ⟨b, a, hv, G.swap⟩
end
end K4

set_option Elab.async false
set_option linter.all false
set_option maxRecDepth 100000
set_option maxHeartbeats 4000000
/-! text[::-1]; text * int -/
namespace K4
open PySem PySem.Spec PyProof.Rows L2 Evl
def revS (x : Str) : Str := ⟨x.cps.toList.reverse.toArray⟩
def tRevS (te : TE) : TE := fun σ H Q => te σ H fun x H1 => ∃ z : Str, x = .str z ∧ z.length ≤ sizeLine ∧ Q (.str (revS z)) H1
theorem picked_rev (z : Str) (k : Tok) : (PySem.slicePicked z none none (some (-1, k))).filterMap (z.cps[·]?) = z.cps.toList.reverse := by
  show (sliceRange ((z.length : Int) - 1) (-1) (-1)).filterMap (z.cps[·]?) = _
  rw [PySem.W.krv_sliceRange, PySem.W.krv_range, List.filterMap_reverse]
  show ((List.range z.cps.size).filterMap (z.cps[·]?)).reverse = _
  rw [PySem.W.krv_all]
theorem pe_revS {X : Cx} {e : Expr} {te : TE} {k : Nat} {p1 p2 p3 pos : Pos} (he : PE X e te) : PE X (.Subscript e (.Slice none none (some (.UnaryOp .USub (.Constant (.int 1) k p1) p2)) p3) pos) (tRevS te) := by
  refine ⟨fun pins s σ H Q I h => ?_⟩
  refine Subscript_ (thn (he.run pins s σ H _ I h) fun v s1 ⟨x, H1, I1, r1, q1⟩ => ?_)
  obtain ⟨z, ex, hz, q⟩ := q1
  subst ex
  obtain ⟨tk, rfl⟩ := r1
  have hst : PO X (some (.UnaryOp .USub (.Constant (.int 1) k p1) p2)) (tPart (tUn (rU fun i => .int (-i)) (tC (.int 1)))) := po_some (pe_un un_neg pe_int)
  refine wpAny_Slice (thn (po_none.run pins s1 σ H1 (fun o H2 => o = none ∧ H2 = H1) I1 ⟨rfl, rfl⟩) fun vl s2 ⟨l, H2, I2, pl, el, e2⟩ => ?_)
  subst el e2
  refine thn (po_none.run pins s2 σ H2 (fun o H3 => o = none ∧ H3 = H2) I2 ⟨rfl, rfl⟩) fun vu s3 ⟨u, H3, I3, pu, eu, e3⟩ => ?_
  subst eu e3
  refine thn (hst.run pins s3 σ H3 (fun o H4 => o = some (-1) ∧ H4 = H3) I3 ⟨1, rfl, -1, rfl, rfl, rfl⟩) fun vs s4 ⟨o, H4, I4, ps, eo, e4⟩ => ?_
  subst eo e4
  have I5 : Inv X pins σ H4 { s4 with heap := s4.heap.push { cls := .type "slice", data := .fields #[vl, vu, vs] } } := I4.kept (t' := s4.toks) fun b ob q => Heap.get?_push_of_some _ q
  obtain ⟨l, rfl, hl⟩ := IsPart.raw pl
  obtain ⟨u, rfl, hu⟩ := IsPart.raw pu
  obtain ⟨sp, rfl, hs⟩ := IsPart.raw ps
  have el : l = none := by
    cases l with
    | none => rfl
    | some _ => cases hl
  have eu : u = none := by
    cases u with
    | none => rfl
    | some _ => cases hu
  subst el eu
  obtain ⟨ks, rfl⟩ : ∃ ks : Tok, sp = some (-1, ks) := by
    cases sp with
    | none => cases hs
    | some c =>
      obtain ⟨i, t⟩ := c
      have e : i = -1 := Option.some.inj hs
      exact ⟨t, by rw [e]⟩
  show wpAny (model X.prog X.w) X.A (subscriptTail e (.Slice none none (some (.UnaryOp .USub (.Constant (.int 1) k p1) p2)) p3) (.str z tk) (.ref s4.heap.objs.size)) (EP X pins σ Q) X.xe { s4 with heap := s4.heap.push { cls := .type "slice", data := .fields #[partValue none, partValue none, partValue (some (-1, ks))] } }
  refine tail_any (ops := [.str z tk, .ref s4.heap.objs.size]) (typeIs_str _ _ _) (PySem.F.slot_str_getitem.lookup) ?_ (by with_unfolding_all rfl)
  refine wpAny_getItem_str_slice (l := none) (u := none) (st := some (-1, ks)) ⟨_, Heap.get?_push_size _ rfl, rfl, rfl⟩ rfl ?_
  show Made.post (Made.str ⟨((PySem.slicePicked z none none (some (-1, ks))).filterMap (z.cps[·]?)).toArray⟩) _ _
  rw [picked_rev]
  refine ⟨?_, .str (revS z), H4, I5.tok _, ⟨_, rfl⟩, q⟩
  show z.cps.toList.reverse.toArray.size ≤ sizeLine
  rw [List.size_toArray, List.length_reverse]
  exact hz
def repS (z : Str) (n : Int) : Str := ⟨(List.replicate n.toNat z.cps).foldl (· ++ ·) #[]⟩
def rMulS : R2 := fun x y H Q => ∃ (z : Str) (n : Int), x = .str z ∧ y = .int n ∧ 0 ≤ n ∧ n ≤ 100 ∧ z.length = 1 ∧ Q (.str (repS z n)) H
theorem rep_size (z : Str) : ∀ (n : Nat) (a : Array Nat), ((List.replicate n z.cps).foldl (· ++ ·) a).size = a.size + n * z.cps.size
  | 0, a => by simp
  | n + 1, a => by
    rw [List.replicate_succ, List.foldl_cons, rep_size z n, Array.size_append, Nat.succ_mul]
    omega
theorem op_mulS {X : Cx} : OpR X (binaryOp .Mult) rMulS := by
  intro pins s σ H x y v u Q I rx ry h
  obtain ⟨z, n, rfl, rfl, n0, n1, hz, q⟩ := h
  obtain ⟨t, rfl⟩ := rx
  obtain ⟨t', rfl⟩ := ry
  have hlen : z.cps.size = 1 := hz
  refine PySem.P.mul_str ?_ (fun h1 _ => ?_) (fun h1 _ => ?_) ?_
  · rw [decide_eq_false (by omega), decide_eq_false (by omega)]
    rfl
  · rw [hz]
    have h2 : (1 : Int) ≤ (2 ^ 63 - 1) / n := (Int.le_ediv_iff_mul_le (by omega)).mpr (by omega)
    show ¬ ((1 : Nat) : Int) > _
    omega
  · have h3 : z.length * n.toNat ≤ 100 := by rw [hz]; omega
    have h4 : z.length * n.toNat ≤ sizeLine := by rw [sizeLine_eq]; omega
    unfold Builtin.Str.tooLong
    exact decide_eq_false (by omega)
  · by_cases c0 : n < 1
    · have e : n = 0 := by omega
      subst e
      rw [if_pos (by decide)]
      exact ⟨by decide, .str (repS z 0), H, I.tok _, ⟨_, rfl⟩, q⟩
    · rw [if_neg c0]
      by_cases c1 : (n == 1 || z.length == 0) = true
      · rw [if_pos c1]
        have e : n = 1 := by
          rw [hz] at c1
          simpa using c1
        subst e
        have e2 : repS z 1 = z := by
          show (⟨#[] ++ z.cps⟩ : Str) = z
          rw [Array.empty_append]
        rw [e2] at q
        exact ⟨.str z, H, I, ⟨_, rfl⟩, q⟩
      · rw [if_neg c1]
        refine ⟨?_, .str (repS z n), H, I.tok _, ⟨_, rfl⟩, q⟩
        show ((List.replicate n.toNat z.cps).foldl (· ++ ·) #[]).size ≤ sizeLine
        rw [rep_size, hlen, sizeLine_eq]
        simp
        omega
end K4

set_option Elab.async false
set_option linter.all false
/-! plain: the runs of a slant, its sides, the slant of a path -/
namespace M4
/-- the turns from p, q down to 1, 1 -/
inductive Run : Int → Int → List (Bool × Int) → Prop
  | done : Run 1 1 []
  | east {p q m : Int} {rs : List (Bool × Int)} : 1 ≤ q → q < p → 1 ≤ m → 1 ≤ p - m * q → p - m * q ≤ q → Run (p - m * q) q rs → Run p q ((true, m) :: rs)
  | north {p q m : Int} {rs : List (Bool × Int)} : 1 ≤ p → p < q → 1 ≤ m → 1 ≤ q - m * p → q - m * p ≤ p → Run p (q - m * p) rs → Run p q ((false, m) :: rs)
/-- one turn: how often, and what is left -/
theorem turn_of {p q : Int} (hq : 1 ≤ q) (h : q < p) : 1 ≤ (p - 1) / q ∧ 1 ≤ p - (p - 1) / q * q ∧ p - (p - 1) / q * q ≤ q := by
  have e := Int.mul_ediv_add_emod (p - 1) q
  have h1 := Int.emod_nonneg (p - 1) (show q ≠ 0 by omega)
  have h2 := Int.emod_lt_of_pos (p - 1) (show 0 < q by omega)
  have h3 : 1 ≤ (p - 1) / q := (Int.le_ediv_iff_mul_le (by omega)).mpr (by omega)
  have e2 : q * ((p - 1) / q) = (p - 1) / q * q := Int.mul_comm _ _
  refine ⟨h3, ?_, ?_⟩ <;> omega
/-- the sides of p, q -/
structure Sd (p q f0 f1 s0 s1 : Int) : Prop where
  f0p : 0 ≤ f0
  f1p : 0 ≤ f1
  s0p : 0 ≤ s0
  s1p : 0 ≤ s1
  e0 : f0 + s0 = p
  e1 : f1 + s1 = q
  det : f0 * s1 - f1 * s0 = 1
/-- they are the only ones -/
theorem Sd.uniq {p q f0 f1 s0 s1 g0 g1 t0 t1 : Int} (hp : 1 ≤ p) (hq : 1 ≤ q) (a : Sd p q f0 f1 s0 s1) (b : Sd p q g0 g1 t0 t1) : f0 = g0 ∧ f1 = g1 ∧ s0 = t0 ∧ s1 = t1 := by
  obtain ⟨a1, a2, a3, a4, a5, a6, a7⟩ := a
  obtain ⟨b1, b2, b3, b4, b5, b6, b7⟩ := b
  have x : f0 * q - f1 * p = 1 := by rw [← a5, ← a6]; grind
  have y : g0 * q - g1 * p = 1 := by rw [← b5, ← b6]; grind
  have z : (f0 - g0) * q = (f1 - g1) * p := by grind
  -- p divides f0 - g0
  have k : f0 - g0 = ((f0 - g0) * f0 - (f1 - g1) * f0 * 0) * 0 + (f0 - g0) * (f0 * q - f1 * p) := by rw [x]; grind
  have k2 : f0 - g0 = p * (f0 * (f1 - g1) - (f0 - g0) * f1) := by
    have : (f0 - g0) * (f0 * q - f1 * p) = f0 * ((f0 - g0) * q) - (f0 - g0) * f1 * p := by grind
    rw [z] at this
    grind
  have dd : f0 = g0 := by
    generalize f0 * (f1 - g1) - (f0 - g0) * f1 = c at k2
    have lo : f0 - g0 ≤ p := by omega
    have hi : -p ≤ f0 - g0 := by omega
    have c1 : c ≤ 1 := by
      refine Int.not_lt.mp fun h => ?_
      have := Int.mul_le_mul_of_nonneg_left (show (2 : Int) ≤ c by omega) (show (0 : Int) ≤ p by omega)
      omega
    have c2 : -1 ≤ c := by
      refine Int.not_lt.mp fun h => ?_
      have := Int.mul_le_mul_of_nonneg_left (show c ≤ -2 by omega) (show (0 : Int) ≤ p by omega)
      omega
    have hc : c = 0 ∨ c = 1 ∨ c = -1 := by omega
    rcases hc with rfl | rfl | rfl
    · omega
    · -- f0 = p, g0 = 0
      have e1 : g0 = 0 := by omega
      have e2 : f0 = p := by omega
      rw [e1] at y
      have : g1 * p = -1 := by omega
      have h3 := Int.mul_nonneg b2 (show (0 : Int) ≤ p by omega)
      omega
    · have e1 : f0 = 0 := by omega
      rw [e1] at x
      have h3 := Int.mul_nonneg a2 (show (0 : Int) ≤ p by omega)
      omega
  have dd1 : f1 = g1 := by
    rw [dd] at z
    have z1 : (f1 - g1) * p = 0 := by rw [← z]; grind
    rcases Int.mul_eq_zero.mp z1 with h | h <;> omega
  refine ⟨dd, dd1, by omega, by omega⟩
end M4

set_option Elab.async false
set_option linter.all false
set_option maxRecDepth 100000
set_option maxHeartbeats 4000000
namespace K4
open PySem PySem.Spec PyProof.Rows L2 Evl M4
abbrev s_runs : Stmt := top 32
abbrev s_back : Stmt := top 33
abbrev s_up : Stmt := top 35
abbrev s_sides : Stmt := top 36
theorem sc_runs : FnScope ["slant", "p", "q", "found", "letter", "many"] ["slant"] (defScope s_runs) := ⟨rfl, rfl, rfl, by decide +kernel, rfl, by decide +kernel, by decide +kernel⟩
theorem sc_back : FnScope ["text", "p", "q", "letter"] ["text"] (defScope s_back) := ⟨rfl, rfl, rfl, by decide +kernel, rfl, by decide +kernel, by decide +kernel⟩
theorem sc_up : FnScope ["one", "other"] ["one", "other"] (defScope s_up) := ⟨rfl, rfl, rfl, by decide +kernel, rfl, by decide +kernel, by decide +kernel⟩
theorem sc_sides : FnScope ["slant", "east", "north", "letter", "many"] ["slant"] (defScope s_sides) := ⟨rfl, rfl, rfl, by decide +kernel, rfl, by decide +kernel, by decide +kernel⟩
/-! ### pairs compared -/
def d2 (p q : Int) : PyData := .tuple [.int p, .int q]
theorem sh2 (p q : Int) : SeqAt.shaped (d2 p q) = true := rfl
theorem eqv2 (p q a b : Int) : PyData.eqv (d2 p q) (d2 a b) = (decide (p = a) && decide (q = b)) := by
  show ((p == a) && ((q == b) && true)) = _
  rw [Bool.and_true]
  rfl
section
variable {K : PySem.W.Frag} {σ : L2.St} {H H' : Hp} {te ta tb : TE} {v x y : V} {p q a b : Int}
theorem Tp.dp (h : Tp K H v p q) : Dp K H v (d2 p q) := by
  obtain ⟨c, rfl, hs⟩ := h
  exact .tup hs (.cons (.int _) (.cons (.int _) .nil))
theorem rv_ne2 (h : Tp K H x p q) (h' : Tp K H y a b) : RV (rNeD K) x y H (.bl (!(decide (p = a) && decide (q = b)))) := fun H1 e Q k =>
  ⟨d2 p q, d2 a b, (h.ex e).dp, (h'.ex e).dp, rfl, rfl, by rw [eqv2]; exact k H1 (Ex.refl H1)⟩
theorem rv_eq2 (h : Tp K H x p q) (h' : Tp K H y a b) : RV (rEqD K) x y H (.bl (decide (p = a) && decide (q = b))) := fun H1 e Q k =>
  ⟨d2 p q, d2 a b, (h.ex e).dp, (h'.ex e).dp, rfl, rfl, by rw [eqv2]; exact k H1 (Ex.refl H1)⟩
/-- both operands of a kind -/
theorem ev_opRR {r : R2} {z : V} {P1 P2 : V → Hp → Prop} (ha : EvR ta σ H P1) (hb : EvR tb σ H P2) (st : ∀ v H1 H2, Ex H1 H2 → P1 v H1 → P1 v H2) (hr : ∀ x y H1, Ex H H1 → P1 x H1 → P2 y H1 → RV r x y H1 z) : Ev (tOp r ta tb) σ H z := fun H1 e Q k =>
  ha H1 e _ fun x H2 e2 hx => hb H2 (e.trans e2) _ fun y H3 e3 hy => hr x y H3 ((e.trans e2).trans e3) (st _ _ _ e3 hx) hy H3 (Ex.refl H3) Q fun H4 e4 => k H4 ((e2.trans e3).trans e4)
/-- .. of a pair made on the way and another -/
theorem ev_ne2 {ta tb : TE} (ha : EvR ta σ H fun v H => Tp K H v p q) (hb : EvR tb σ H fun v H => Tp K H v a b) : Ev (tOp (rNeD K) ta tb) σ H (.bl (!(decide (p = a) && decide (q = b)))) := ev_opRR ha hb (fun _ _ _ e h => h.ex e) fun _ _ _ _ => rv_ne2
theorem ev_eq2 {ta tb : TE} (ha : EvR ta σ H fun v H => Tp K H v p q) (hb : EvR tb σ H fun v H => Tp K H v a b) : Ev (tOp (rEqD K) ta tb) σ H (.bl (decide (p = a) && decide (q = b))) := ev_opRR ha hb (fun _ _ _ e h => h.ex e) fun _ _ _ _ => rv_eq2
end
theorem eu_if {σ : L2.St} {H : Hp} {ta tb : TE} {t : TT} {b : Bool} {xs : List V} (h : EvT t σ H b) (h1 : b = true → EvU ta σ H xs) (h2 : b = false → EvU tb σ H xs) : EvU (tIf t ta tb) σ H xs := fun H1 e Q k => h H1 e _ fun H2 e2 => by
  cases b with
  | true =>
    show ta σ H2 Q
    exact h1 rfl H2 (e.trans e2) Q fun p H3 hp e3 h3 => k p H3 (fresh_back e2 hp) (e2.trans e3) h3
  | false =>
    show tb σ H2 Q
    exact h2 rfl H2 (e.trans e2) Q fun p H3 hp e3 h3 => k p H3 (fresh_back e2 hp) (e2.trans e3) h3
theorem t_upd {K : PySem.W.Frag} {H : Hp} {l a : Addr} {xs ys : List V} {o : HO} (hl : H l = some (.lst ys)) (h : SqT K H a xs) : SqT K (upd H l o) a xs := by
  have ne : ∀ {u : HO}, u ≠ .lst ys → H a = some u → upd H l o a = some u := fun hu e => by
    rw [upd_ne (fun z => by rw [z, hl] at e; exact hu (Option.some.inj e).symm)]
    exact e
  rcases h with (h | ⟨z, h⟩) | h
  · exact .inl (.inl (ne (fun z => by cases z) h))
  · exact .inl (.inr ⟨z, ne (fun z => by cases z) h⟩)
  · exact .inr h
/-! ### runs -/
def letS (b : Bool) : Str := if b then "a" else "b"
def Tq (K : PySem.W.Frag) (H : Hp) (v : V) (b : Bool) (m : Int) : Prop := ∃ a, v = .ref a ∧ SqT K H a [.str (letS b), .int m]
inductive RunI (K : PySem.W.Frag) (H : Hp) : List V → List (Bool × Int) → Prop
  | nil : RunI K H [] []
  | cons {w : V} {ws : List V} {b : Bool} {m : Int} {rs : List (Bool × Int)} : Tq K H w b m → RunI K H ws rs → RunI K H (w :: ws) ((b, m) :: rs)
def RunT (K : PySem.W.Frag) (H : Hp) (v : V) (rs : List (Bool × Int)) : Prop := ∃ a ws, v = .ref a ∧ SqT K H a ws ∧ RunI K H ws rs
section
variable {K : PySem.W.Frag} {H H' : Hp}
theorem RunI.ex (e : Ex H H') : ∀ {ws : List V} {rs : List (Bool × Int)}, RunI K H ws rs → RunI K H' ws rs
  | _, _, .nil => .nil
  | _, _, .cons ⟨a, ea, h⟩ t => .cons ⟨a, ea, ex_t e h⟩ (t.ex e)
theorem RunI.upd {l : Addr} {ys : List V} {o : HO} (hl : H l = some (.lst ys)) : ∀ {ws : List V} {rs : List (Bool × Int)}, RunI K H ws rs → RunI K (L2.upd H l o) ws rs
  | _, _, .nil => .nil
  | _, _, .cons ⟨a, ea, h⟩ t => .cons ⟨a, ea, t_upd hl h⟩ (t.upd hl)
theorem RunI.app {w : V} {b : Bool} {m : Int} (h : Tq K H w b m) : ∀ {ws : List V} {rs : List (Bool × Int)}, RunI K H ws rs → RunI K H (ws ++ [w]) (rs ++ [(b, m)])
  | _, _, .nil => .cons h .nil
  | _, _, .cons h1 t => .cons h1 (t.app h)
theorem RunI.len : ∀ {ws : List V} {rs : List (Bool × Int)}, RunI K H ws rs → ws.length = rs.length
  | _, _, .nil => rfl
  | _, _, .cons _ t => by
    rw [List.length_cons, List.length_cons, t.len]
theorem RunI.at {x : V} : ∀ {ws : List V} {rs : List (Bool × Int)} (i : Nat), RunI K H ws rs → ws[i]? = some x → ∃ b m, rs.drop i = (b, m) :: rs.drop (i + 1) ∧ Tq K H x b m
  | _, _, i, .nil, e => by cases e
  | _, _, 0, .cons h _, e => by
    obtain rfl := Option.some.inj e
    exact ⟨_, _, rfl, h⟩
  | _, _, i + 1, .cons _ t, e => t.at i e
end
section
variable {P : Program} {w : World} {K : PySem.W.Frag} {mg : Str → Option Value} {base : Heap}
def preRuns (K : PySem.W.Frag) : Hp → List V → (V → Hp → Prop) → Prop := fun H vs R => ∃ (x : V) (p q : Int), vs = [x] ∧ Tp K H x p q ∧ 1 ≤ p ∧ 1 ≤ q ∧ Int.gcd p q = 1 ∧ (Bh p ∧ Bh q) ∧ R = fun v H => ∃ rs, RunT K H v rs ∧ Run p q rs
theorem ne_self_pair {p q : Int} (g : Int.gcd p q = 1) (h : ¬ q < p) (hq : 1 ≤ q) (n : ¬ (p = 1 ∧ q = 1)) : p < q := by
  rcases Int.lt_or_eq_of_le (Int.not_lt.mp h) with z | z
  · exact z
  · subst z
    rw [Int.gcd_self] at g
    omega
theorem run_len {p q P0 Q0 : Int} {l : Nat} (hp : 1 ≤ p) (hq : 1 ≤ q) (h : p * q * 2 ^ l ≤ P0 * Q0) (b1 : Bh P0) (b2 : Bh Q0) (h1 : 1 ≤ P0) (h2 : 1 ≤ Q0) : l < 2000 := by
  refine Nat.lt_of_not_le fun z => ?_
  have m1 : (1 : Int) ≤ p * q := by
    have := Int.mul_le_mul hp hq (by decide) (by omega)
    omega
  have m2 : (2 : Int) ^ 2000 ≤ 2 ^ l := two_le z
  have m3 : (2 : Int) ^ l ≤ p * q * 2 ^ l := by
    have := Int.mul_le_mul_of_nonneg_right m1 (show (0 : Int) ≤ 2 ^ l from Int.le_of_lt (Int.pow_pos (by decide)))
    omega
  have m4 : P0 * Q0 < 2 ^ 1800 := by
    have k := wide_lt (a := 900) (b := 900) (show P0.natAbs < 2 ^ 900 from b1) (show Q0.natAbs < 2 ^ 900 from b2)
    have k2 : ((P0 * Q0).natAbs : Int) < ((2 ^ 1800 : Nat) : Int) := Int.ofNat_lt.mpr k
    have k3 : (((2 : Nat) ^ 1800 : Nat) : Int) = (2 : Int) ^ 1800 := by exact_mod_cast rfl
    rw [k3] at k2
    omega
  have m5 : (2 : Int) ^ 1800 ≤ 2 ^ 2000 := two_le (by omega)
  omega
theorem s_first {σ : L2.St} {H : Hp} {D : Ends} {x : V} {p q : Int} (hx : σ[0]? = some (some x)) (tx : Tp K H x p q) (k : ∀ l H1, H l = none → Ex H H1 → H1 l = some (.lst []) → D.nx (((σ.set 1 (some (.int p))).set 2 (some (.int q))).set 3 (some (.ref l))) H1) :
    tAsg (tTup (tCons (tVar 0) (tCons (tLst tNil) tNil))) (gTup K 2 (gCons (gTup K 2 (gCons (gName 1) (gCons (gName 2) gNil))) (gCons (gName 3) gNil))) D σ H := by
  obtain ⟨ax, rfl, hs⟩ := tx
  refine ⟨_, hx, by show 0 ≤ sizeLine; omega, fun l hl => ⟨by show 2 ≤ sizeLine; rw [sizeLine_eq]; omega, fun t ht => ?_⟩⟩
  have nl : l ≠ t := fun z => by
    rw [z, upd_same] at ht
    cases ht
  have e2 : Ex H (upd (upd H l (.lst [])) t (.tup [.ref ax, .ref l])) := (Ex.new hl).trans (Ex.new ht)
  exact ⟨t, _, rfl, st_of upd_same, rfl, _, _, rfl, ⟨ax, _, rfl, ex_t e2 hs, rfl, _, _, rfl, _, _, rfl, rfl, _, _, rfl, rfl, k l _ hl e2 (by rw [upd_ne nl, upd_same])⟩⟩
theorem cal_runs (D : FD K mg "_law_runs" s_runs) (T : MF mg) : Cal P w K mg base 1 "_law_runs" ["slant"] (spR (preRuns K)) := by
  refine cal_of0 D sc_runs (fun _ _ _ _ _ _ us hl => match us, hl with | [_], _ => rfl) (fun vs H Q E h => ?_) (fun f cdv A outer s H vs Q E hr h => ?_)
  · obtain ⟨R, ⟨x, p, q, rfl, _⟩, _⟩ := h
    rfl
  · obtain ⟨R, ⟨x, p0, q0, rfl, hx, hp, hq, hg, ⟨bp, bq⟩, rfl⟩, k⟩ := h
    refine ⟨_, (pss_cons (ps_asg (pe_tup (pa_cons (pv 0) (pa_cons (pe_lst pa_nil) pa_nil))) (pg_tup rfl (pgs_cons (pg_tup rfl (pgs_cons (pg_name (i := 1) sc_runs.nd rfl (.inl rfl)) (pgs_cons (pg_name (i := 2) sc_runs.nd rfl (.inl rfl)) pgs_nil))) (pgs_cons (pg_name (i := 3) sc_runs.nd rfl (.inl rfl)) pgs_nil))))
      (pss_cons (ps_while PassesOwn.never (pt_cmpR (op_neD hr.units) (pe_tup (pa_cons (pv 1) (pa_cons (pv 2) pa_nil))) (pe_tup (pa_cons pe_int (pa_cons pe_int pa_nil))) (nomark _))
        (pss_cons (ps_asg (pe_ifExp (pt_cmpR op_gt (pv 1) (pv 2) (nomark _)) (pe_tup (pa_cons pe_str (pa_cons (pe_op op_fdivW (pe_op op_sub (pv 1) pe_int) (pv 2)) pa_nil))) (pe_tup (pa_cons pe_str (pa_cons (pe_op op_fdivW (pe_op op_sub (pv 2) pe_int) (pv 1)) pa_nil)))) (pg_tup rfl (pgs_cons (pg_name (i := 4) sc_runs.nd rfl (.inl rfl)) (pgs_cons (pg_name (i := 5) sc_runs.nd rfl (.inl rfl)) pgs_nil))))
        (pss_cons (ps_expr (pe_bm PySem.F.plainAttrs_list PySem.F.slot_list_append PySem.F.type_list_append mt_append (pv 3) (pa_cons (pe_tup (pa_cons (pv 4) (pa_cons (pv 5) pa_nil))) pa_nil)))
        (pss_one (ps_asg (pe_ifExp (pt_cmpR op_eq (pv 4) pe_str (nomark _)) (pe_tup (pa_cons (pe_op op_sub (pv 1) (pe_op op_mulW (pv 5) (pv 2))) (pa_cons (pv 2) pa_nil))) (pe_tup (pa_cons (pv 1) (pa_cons (pe_op op_sub (pv 2) (pe_op op_mulW (pv 5) (pv 1))) pa_nil)))) (pg_tup rfl (pgs_cons (pg_name (i := 1) sc_runs.nd rfl (.inl rfl)) (pgs_cons (pg_name (i := 2) sc_runs.nd rfl (.inl rfl)) pgs_nil))))))))
      (pss_one (ps_ret (pe_tupleOf rfl T.tuple (pv 3)))))), ?_⟩
    refine s_first rfl hx fun l H1 hl e1 h1 => ?_
    refine s_while (fun m σ' H' => ∃ (p q : Int) (o4 o5 : Option V) (done : List (Bool × Int)) (ws : List V), σ' = [some x, some (.int p), some (.int q), some (.ref l), o4, o5] ∧ Ex H H' ∧ H' l = some (.lst ws) ∧ RunI K H' ws done ∧ (∀ rs, Run p q rs → Run p0 q0 (done ++ rs)) ∧ 1 ≤ p ∧ 1 ≤ q ∧ Int.gcd p q = 1 ∧ p ≤ p0 ∧ q ≤ q0 ∧ p * q * 2 ^ done.length ≤ p0 * q0 ∧ m = (p + q).toNat)
      (p0 + q0).toNat ⟨p0, q0, none, none, [], [], rfl, e1, h1, .nil, fun rs h => h, hp, hq, hg, Int.le_refl _, Int.le_refl _, by rw [List.length_nil, Int.pow_zero, Int.mul_one]; exact Int.le_refl _, rfl⟩ fun m σ' H' hw => ?_
    obtain ⟨p, q, o4, o5, done, ws, rfl, eH, hl', hI, hrun, p1, q1, g, lp, lq, hlen, rfl⟩ := hw
    have bp' : Bh p := bh_le (by omega) lp bp
    have bq' : Bh q := bh_le (by omega) lq bq
    have dl : done.length < 2000 := run_len p1 q1 hlen bp bq hp hq
    have wl : ws.length < 2000 := by rw [hI.len]; exact dl
    refine ⟨_, et_test (ev_ne2 (evr_tup (ea_cons (ev_var rfl) (ea_cons (ev_var rfl) ea_nil))) (evr_tup (ea_cons ev_c (ea_cons ev_c ea_nil)))), fun hb H2 e2 => ?_, fun hb H2 e2 => ?_⟩
    · have n11 : ¬ (p = 1 ∧ q = 1) := fun z => by
        rw [decide_eq_true z.1, decide_eq_true z.2] at hb
        cases hb
      refine ⟨fun σ2 H4 => ∃ m', m' < (p + q).toNat ∧ ∃ (p q : Int) (o4 o5 : Option V) (done : List (Bool × Int)) (ws : List V), σ2 = [some x, some (.int p), some (.int q), some (.ref l), o4, o5] ∧ Ex H H4 ∧ H4 l = some (.lst ws) ∧ RunI K H4 ws done ∧ (∀ rs, Run p q rs → Run p0 q0 (done ++ rs)) ∧ 1 ≤ p ∧ 1 ≤ q ∧ Int.gcd p q = 1 ∧ p ≤ p0 ∧ q ≤ q0 ∧ p * q * 2 ^ done.length ≤ p0 * q0 ∧ m' = (p + q).toNat, fun σ2 H4 h => h, ?_⟩
      have dvq : ∀ i : Int, CDivW i q := fun i => wide_div (b := 1000) (by omega) (bh_bd bq') (by omega) (by omega)
      have dvp : ∀ i : Int, CDivW i p := fun i => wide_div (b := 1000) (by omega) (bh_bd bp') (by omega) (by omega)
      have l2' := e2 _ _ hl'
      have I2 := hI.ex e2
      have grow : ∀ {H3 H4 : Hp} {t : Addr} {b : Bool} {m : Int}, Ex H2 H3 → Ex H3 H4 → H4 t = some (.tup [.str (letS b), .int m]) → RunI K (upd H4 l (.lst (ws ++ [.ref t]))) (ws ++ [.ref t]) (done ++ [(b, m)]) := fun e3 e4 ht =>
        RunI.app ⟨_, rfl, t_upd (e4 _ _ (e3 _ _ l2')) (st_of ht)⟩ (RunI.upd (e4 _ _ (e3 _ _ l2')) ((I2.ex e3).ex e4))
      have halve : ∀ {a b c : Int}, 2 * a ≤ c → 0 ≤ b → c * b * 2 ^ done.length ≤ p0 * q0 → a * b * 2 ^ (done.length + 1) ≤ p0 * q0 := fun {a b c} h hb hh => by
        have k1 := Int.mul_le_mul_of_nonneg_right (Int.mul_le_mul_of_nonneg_right h hb) (show (0 : Int) ≤ 2 ^ done.length from Int.le_of_lt (Int.pow_pos (by decide)))
        have k2 : a * b * 2 ^ (done.length + 1) = 2 * a * b * 2 ^ done.length := by rw [Int.pow_succ]; grind
        omega
      by_cases hlt : q < p
      · obtain ⟨m1, r1, r2⟩ := turn_of q1 hlt
        have bm : Bd ((p - 1) / q) := by
          have k := Int.ediv_le_self q (show 0 ≤ p - 1 by omega)
          exact bh_bd (bh_le (by omega) (show (p - 1) / q ≤ p by omega) bp')
        refine s_unp (eu_if (b := true) (et_is (et_test (ev_op (ev_var rfl) (ev_var rfl) rv_I0)) (decide_eq_true hlt)) (fun _ => eu_tup (ea_cons ev_c (ea_cons (ev_op (ev_op (ev_var rfl) ev_c rv_I0) (ev_var rfl) (rv_I (dvq _))) ea_nil)) (by show 2 ≤ 100000; omega)) (fun z => by cases z)) fun H3 e3 => ?_
        generalize (p - 1) / q = mm at *
        refine s_appU (e3 _ _ l2') (ev_var rfl) (eu_tup (ea_cons (ev_var rfl) (ea_cons (ev_var rfl) ea_nil)) (by show 2 ≤ 100000; omega)) (by omega) fun t H4 ht e4 h4 => ?_
        have eH4 : Ex H (upd H4 l (.lst (ws ++ [.ref t]))) := Ex.mut (((eH.trans e2).trans e3).trans e4) hl
        have I4 := grow e3 e4 (b := true) h4
        refine s_unp (u := .int (p - mm * q)) (z := .int q) (eu_if (b := true) (et_is (et_test (ev_op (ev_var rfl) ev_c (rv_eq rfl))) (by decide)) (fun _ => eu_tup (ea_cons (ev_op (ev_var rfl) (ev_op (ev_var rfl) (ev_var rfl) (rv_I (bd_mul bm (bh_bd bq')))) rv_I0) (ea_cons (ev_var rfl) ea_nil)) (by show 2 ≤ 100000; omega)) (fun z => by cases z)) fun H5 e5 => ?_
        refine ⟨_, ?_, p - mm * q, q, _, _, done ++ [(true, mm)], ws ++ [.ref t], rfl, eH4.trans e5, e5 _ _ upd_same, I4.ex e5, fun rs h => ?_, r1, q1, ?_, by omega, lq, ?_, rfl⟩
        · have := Int.mul_le_mul_of_nonneg_right m1 (show 0 ≤ q by omega)
          omega
        · rw [List.append_assoc]
          exact hrun _ (.east q1 hlt m1 r1 r2 h)
        · have k := Int.gcd_add_mul_right_left q (p - mm * q) mm
          rw [Int.sub_add_cancel, g] at k
          exact k.symm
        · rw [List.length_append]
          refine halve (c := p) ?_ (by omega) hlen
          have := Int.mul_le_mul_of_nonneg_right m1 (show 0 ≤ q by omega)
          omega
      · have hlt2 := ne_self_pair g hlt q1 n11
        obtain ⟨m1, r1, r2⟩ := turn_of p1 hlt2
        have bm : Bd ((q - 1) / p) := by
          have k := Int.ediv_le_self p (show 0 ≤ q - 1 by omega)
          exact bh_bd (bh_le (by omega) (show (q - 1) / p ≤ q by omega) bq')
        refine s_unp (eu_if (b := false) (et_is (et_test (ev_op (ev_var rfl) (ev_var rfl) rv_I0)) (decide_eq_false hlt)) (fun z => by cases z) (fun _ => eu_tup (ea_cons ev_c (ea_cons (ev_op (ev_op (ev_var rfl) ev_c rv_I0) (ev_var rfl) (rv_I (dvp _))) ea_nil)) (by show 2 ≤ 100000; omega))) fun H3 e3 => ?_
        generalize (q - 1) / p = mm at *
        refine s_appU (e3 _ _ l2') (ev_var rfl) (eu_tup (ea_cons (ev_var rfl) (ea_cons (ev_var rfl) ea_nil)) (by show 2 ≤ 100000; omega)) (by omega) fun t H4 ht e4 h4 => ?_
        have eH4 : Ex H (upd H4 l (.lst (ws ++ [.ref t]))) := Ex.mut (((eH.trans e2).trans e3).trans e4) hl
        have I4 := grow e3 e4 (b := false) h4
        refine s_unp (u := .int p) (z := .int (q - mm * p)) (eu_if (b := false) (et_is (et_test (ev_op (ev_var rfl) ev_c (rv_eq rfl))) (by decide)) (fun z => by cases z) (fun _ => eu_tup (ea_cons (ev_var rfl) (ea_cons (ev_op (ev_var rfl) (ev_op (ev_var rfl) (ev_var rfl) (rv_I (bd_mul bm (bh_bd bp')))) rv_I0) ea_nil)) (by show 2 ≤ 100000; omega))) fun H5 e5 => ?_
        refine ⟨_, ?_, p, q - mm * p, _, _, done ++ [(false, mm)], ws ++ [.ref t], rfl, eH4.trans e5, e5 _ _ upd_same, I4.ex e5, fun rs h => ?_, p1, r1, ?_, lp, by omega, ?_, rfl⟩
        · have := Int.mul_le_mul_of_nonneg_right m1 (show 0 ≤ p by omega)
          omega
        · rw [List.append_assoc]
          exact hrun _ (.north p1 hlt2 m1 r1 r2 h)
        · have k := Int.gcd_add_mul_right_right p (q - mm * p) mm
          rw [Int.sub_add_cancel, g] at k
          exact k.symm
        · rw [List.length_append]
          have k := halve (a := q - mm * p) (b := p) (c := q) ?_ (by omega) (by rw [Int.mul_comm q p]; exact hlen)
          · rw [Int.mul_comm p]
            exact k
          · have := Int.mul_le_mul_of_nonneg_right m1 (show 0 ≤ p by omega)
            omega
    · have n11 : p = 1 ∧ q = 1 := Classical.byContradiction fun z => by
        have k : (decide (p = 1) && decide (q = 1)) = false := by
          rw [← Bool.not_eq_true, Bool.and_eq_true, decide_eq_true_iff, decide_eq_true_iff]
          exact z
        rw [k] at hb
        cases hb
      obtain ⟨rfl, rfl⟩ := n11
      refine ⟨_, rfl, .inl ⟨l, ws, rfl, sq_of (e2 _ _ hl'), fun t ht => k _ _ ((eH.trans e2).trans (Ex.new ht)) ⟨done, ⟨t, ws, rfl, st_of upd_same, (hI.ex e2).ex (Ex.new ht)⟩, ?_⟩⟩⟩
      have := hrun [] .done
      rw [List.append_nil] at this
      exact this
/-! ### _law_up -/
def preUp (K : PySem.W.Frag) : Hp → List V → V → Prop := fun H vs z => ∃ (x y : V) (a b c d : Int), vs = [x, y] ∧ Tp K H x a b ∧ Tp K H y c d ∧ (Bd b ∧ Bd c ∧ Bd d ∧ Bd a) ∧ z = .bl (decide (d * a < b * c))
theorem cal_up (D : FD K mg "_law_up" s_up) : Cal P w K mg base 1 "_law_up" ["one", "other"] (spP (preUp K)) := by
  refine cal_of0 D sc_up (fun _ _ _ _ _ _ us hl => match us, hl with | [_, _], _ => rfl) (fun vs H Q E h => ?_) (fun f cdv A outer s H vs Q E hr h => ?_)
  · obtain ⟨z, ⟨x, y, a, b, c, d, rfl, _⟩, _⟩ := h
    rfl
  · obtain ⟨z, ⟨x, y, a, b, c, d, rfl, hx, hy, ⟨h1, h2, h3, h4⟩, rfl⟩, q⟩ := h
    refine ⟨_, (pss_one (ps_ret (pe_cmpR op_gt (pe_op op_sub (pe_op op_mulW (pe_ix ix_tup (pv 0) pe_int (fun _ _ => rfl)) (pe_ix ix_tup (pv 1) pe_int (fun _ _ => rfl))) (pe_op op_mulW (pe_ix ix_tup (pv 1) pe_int (fun _ _ => rfl)) (pe_ix ix_tup (pv 0) pe_int (fun _ _ => rfl)))) pe_int (nomark _)))), ?_⟩
    refine s_ret (ev_op (ev_op (ev_op (ev_snd (ev_var rfl) hx) (ev_fst (ev_var rfl) hy) (rv_I (bd_mul h1 h2))) (ev_op (ev_snd (ev_var rfl) hy) (ev_fst (ev_var rfl) hx) (rv_I (bd_mul h3 h4))) rv_I0) ev_c rv_I0) fun H1 e1 => ?_
    have e : decide (0 < b * c - d * a) = decide (d * a < b * c) := decide_eq_decide.mpr (by omega)
    rw [e]
    exact q H1 e1
/-! ### _law_sides -/
def EN (K : PySem.W.Frag) (H : Hp) (v : V) (e0 e1 n0 n1 : Int) : Prop := ∃ a ve vn, v = .ref a ∧ SqT K H a [ve, vn] ∧ Tt H ve e0 e1 ∧ Tt H vn n0 n1
def preSides (K : PySem.W.Frag) : Hp → List V → (V → Hp → Prop) → Prop := fun H vs R => ∃ (x : V) (p q : Int), vs = [x] ∧ Tp K H x p q ∧ 1 ≤ p ∧ 1 ≤ q ∧ Int.gcd p q = 1 ∧ (Bh p ∧ Bh q) ∧ R = fun v H => ∃ e0 e1 n0 n1, EN K H v e0 e1 n0 n1 ∧ Sd p q e0 e1 n0 n1
theorem s_unp2 {σ : L2.St} {H : Hp} {D : Ends} {ta tb : TE} {i j : Nat} {P1 P2 : V → Hp → Prop} (ha : EvR ta σ H P1) (hb : EvR tb σ H P2) (s1 : ∀ v H1 H2, Ex H1 H2 → P1 v H1 → P1 v H2) (s2 : ∀ v H1 H2, Ex H1 H2 → P2 v H1 → P2 v H2)
    (k : ∀ u z H1, Ex H H1 → P1 u H1 → P2 z H1 → D.nx ((σ.set i (some u)).set j (some z)) H1) : tAsg (tTup (tCons ta (tCons tb tNil))) (gTup K 2 (gCons (gName i) (gCons (gName j) gNil))) D σ H :=
  ha H (Ex.refl H) _ fun u H2 e2 hu => hb H2 e2 _ fun z H3 e3 hz => ⟨by show 2 ≤ sizeLine; rw [sizeLine_eq]; omega, fun t ht => ⟨t, _, rfl, st_of upd_same, rfl, u, _, rfl, z, _, rfl, rfl, k u z _ ((e2.trans e3).trans (Ex.new ht)) (s1 _ _ _ (e3.trans (Ex.new ht)) hu) (s2 _ _ _ (Ex.new ht) hz)⟩⟩
theorem evr_en {σ : L2.St} {H : Hp} {i j : Nat} {ve vn : V} {e0 e1 n0 n1 : Int} (hi : σ[i]? = some (some ve)) (hj : σ[j]? = some (some vn)) (he : Tt H ve e0 e1) (hn : Tt H vn n0 n1) : EvR (tTup (tCons (tVar i) (tCons (tVar j) tNil))) σ H fun v H => EN K H v e0 e1 n0 n1 := fun H1 e Q q =>
  eu_tup (ea_cons (ev_var hi) (ea_cons (ev_var hj) ea_nil)) (by show 2 ≤ 100000; omega) H1 e Q fun p H2 _ e2 hp => q _ H2 e2 ⟨p, ve, vn, rfl, st_of hp, (he.ex e).ex e2, (hn.ex e).ex e2⟩
theorem s_forTR {σ : L2.St} {H : Hp} {D : Ends} {g : TG} {tu : TS} {tl : TE} {R : V → Hp → Prop} (h : EvR tl σ H R)
    (k : ∀ v H1, Ex H H1 → R v H1 → ∃ a xs, v = .ref a ∧ SqT K H1 a xs ∧ ∃ Pv : Nat → L2.St → Hp → Prop, Pv 0 σ H1 ∧ (∀ i σ' H', i ≤ xs.length → Pv i σ' H' → SqT K H' a xs) ∧ (∀ i x σ' H', xs[i]? = some x → Pv i σ' H' → g x σ' H' fun σ2 H2 => tu { D with nx := Pv (i + 1), ct := Pv (i + 1), bk := D.nx } σ2 H2) ∧ (∀ σ' H', Pv xs.length σ' H' → D.nx σ' H')) :
    tFor (iTup K tl) g tu D σ H := h H (Ex.refl H) _ fun v H1 e1 hv => by
  obtain ⟨a, xs, rfl, hs, Pv, p0, pl, ps, pd⟩ := k v H1 e1 hv
  exact ⟨a, rfl, ⟨xs, hs⟩, for_tup Pv p0 pl ps pd⟩
theorem cal_sides (D : FD K mg "_law_sides" s_sides) (c_runs : Cal P w K mg base 1 "_law_runs" ["slant"] (spR (preRuns K))) : Cal P w K mg base 2 "_law_sides" ["slant"] (spR (preSides K)) := by
  refine cal_of0 D sc_sides (fun _ _ _ _ _ _ us hl => match us, hl with | [_], _ => rfl) (fun vs H Q E h => ?_) (fun f cdv A outer s H vs Q E hr h => ?_)
  · obtain ⟨R, ⟨x, p, q, rfl, _⟩, _⟩ := h
    rfl
  · obtain ⟨R, ⟨x, p0, q0, rfl, hx, hp, hq, hg, ⟨bp, bq⟩, rfl⟩, k⟩ := h
    refine ⟨_, (pss_cons (ps_asg (pe_tup (pa_cons (pe_tup (pa_cons pe_int (pa_cons pe_int pa_nil))) (pa_cons (pe_tup (pa_cons pe_int (pa_cons pe_int pa_nil))) pa_nil))) (pg_tup rfl (pgs_cons (pg_name (i := 1) sc_sides.nd rfl (.inl rfl)) (pgs_cons (pg_name (i := 2) sc_sides.nd rfl (.inl rfl)) pgs_nil))))
      (pss_cons (ps_for PassesOwn.never rfl (pi_tup (pe_cal c_runs (hr.mono (by decide)) rfl pass0 (pa_cons (pv 0) pa_nil))) (pg_tup rfl (pgs_cons (pg_name (i := 3) sc_sides.nd rfl (.inl rfl)) (pgs_cons (pg_name (i := 4) sc_sides.nd rfl (.inl rfl)) pgs_nil)))
        (pss_one (ps_if (pt_cmpR op_eq (pv 3) pe_str (nomark _))
          (pss_one (ps_set (i := 2) sc_sides.nd rfl (.inl rfl) (pe_tup (pa_cons (pe_op op_add (pe_ix ix_tup (pv 2) pe_int (fun _ _ => rfl)) (pe_op op_mulW (pv 4) (pe_ix ix_tup (pv 1) pe_int (fun _ _ => rfl)))) (pa_cons (pe_op op_add (pe_ix ix_tup (pv 2) pe_int (fun _ _ => rfl)) (pe_op op_mulW (pv 4) (pe_ix ix_tup (pv 1) pe_int (fun _ _ => rfl)))) pa_nil)))))
          (pss_one (ps_set (i := 1) sc_sides.nd rfl (.inl rfl) (pe_tup (pa_cons (pe_op op_add (pe_ix ix_tup (pv 1) pe_int (fun _ _ => rfl)) (pe_op op_mulW (pv 4) (pe_ix ix_tup (pv 2) pe_int (fun _ _ => rfl)))) (pa_cons (pe_op op_add (pe_ix ix_tup (pv 1) pe_int (fun _ _ => rfl)) (pe_op op_mulW (pv 4) (pe_ix ix_tup (pv 2) pe_int (fun _ _ => rfl)))) pa_nil))))))))
      (pss_one (ps_ret (pe_tup (pa_cons (pv 1) (pa_cons (pv 2) pa_nil))))))), ?_⟩
    refine s_unp2 (evr_tt (p := 1) (q := 0) (ea_cons ev_c (ea_cons ev_c ea_nil))) (evr_tt (p := 0) (q := 1) (ea_cons ev_c (ea_cons ev_c ea_nil))) (fun _ _ _ e h => h.ex e) (fun _ _ _ e h => h.ex e) fun ue un H1 e1 he hn => ?_
    refine s_forTR (evr_calR (P := fun v H => ∃ rs, RunT K H v rs ∧ Run p0 q0 rs) (ea_cons (ev_var rfl) ea_nil) fun H2 e2 => ⟨x, p0, q0, rfl, (hx.ex e1).ex e2, hp, hq, hg, ⟨bp, bq⟩, rfl⟩) fun v H2 e2 hv => ?_
    obtain ⟨rs, ⟨a, ws, rfl, hs, hI⟩, hrun⟩ := hv
    refine ⟨a, ws, rfl, hs, fun i σ' H' => ∃ (ve vn : V) (o3 o4 : Option V) (e0 e1 n0 n1 p q : Int), σ' = [some x, some ve, some vn, o3, o4] ∧ Ex H2 H' ∧ Tt H' ve e0 e1 ∧ Tt H' vn n0 n1 ∧ Run p q (rs.drop i) ∧ (0 ≤ e0 ∧ 0 ≤ e1 ∧ 0 ≤ n0 ∧ 0 ≤ n1) ∧ p * e0 + q * n0 = p0 ∧ p * e1 + q * n1 = q0 ∧ e0 * n1 - e1 * n0 = 1, ?_, ?_, ?_, ?_⟩
    · exact ⟨ue, un, none, none, 1, 0, 0, 1, p0, q0, rfl, Ex.refl H2, he.ex e2, hn.ex e2, hrun, by omega, by omega, by omega, by omega⟩
    · rintro i σ' H' _ ⟨ve, vn, o3, o4, e0, e1', n0, n1, p, q, rfl, eH, _⟩
      exact ex_t eH hs
    · rintro i y σ' H' hy ⟨ve, vn, o3, o4, e0, e1', n0, n1, p, q, rfl, eH, te, tn, hr1, ⟨z1, z2, z3, z4⟩, c0, c1, det⟩
      obtain ⟨b, m, hd, ⟨t, rfl, ht⟩⟩ := hI.at i hy
      rw [hd] at hr1
      refine ⟨t, _, rfl, ex_t eH ht, rfl, _, _, rfl, _, _, rfl, rfl, ?_⟩
      have pz : 0 < p ∧ 0 < q ∧ 1 ≤ m := by
        cases hr1 with
        | east _ _ _ _ _ _ => omega
        | north _ _ _ _ _ _ => omega
      have le0 : e0 ≤ p * e0 := by
        have := Int.mul_le_mul_of_nonneg_right (show (1 : Int) ≤ p by omega) z1
        omega
      have le1 : e1' ≤ p * e1' := by
        have := Int.mul_le_mul_of_nonneg_right (show (1 : Int) ≤ p by omega) z2
        omega
      have ln0 : n0 ≤ q * n0 := by
        have := Int.mul_le_mul_of_nonneg_right (show (1 : Int) ≤ q by omega) z3
        omega
      have ln1 : n1 ≤ q * n1 := by
        have := Int.mul_le_mul_of_nonneg_right (show (1 : Int) ≤ q by omega) z4
        omega
      have Be0 : Bd e0 := bh_bd (bh_le z1 (show e0 ≤ p0 by omega) bp)
      have Be1 : Bd e1' := bh_bd (bh_le z2 (show e1' ≤ q0 by omega) bq)
      have Bn0 : Bd n0 := bh_bd (bh_le z3 (show n0 ≤ p0 by omega) bp)
      have Bn1 : Bd n1 := bh_bd (bh_le z4 (show n1 ≤ q0 by omega) bq)
      cases hr1 with
      | east h1 h2 h3 h4 h5 h6 =>
        have lm : m ≤ m * q := by
          have := Int.mul_le_mul_of_nonneg_left (show (1 : Int) ≤ q by omega) (show 0 ≤ m by omega)
          omega
        have Bm : Bd m := by
          by_cases k0 : e0 = 0
          · have k1 : 1 ≤ e1' := by
              refine Int.not_lt.mp fun z => ?_
              have : e1' = 0 := by omega
              rw [k0, this] at det
              omega
            have := Int.mul_le_mul_of_nonneg_left k1 (show 0 ≤ p by omega)
            exact bh_bd (bh_le (by omega) (show m ≤ q0 by omega) bq)
          · have := Int.mul_le_mul_of_nonneg_left (show 1 ≤ e0 by omega) (show 0 ≤ p by omega)
            exact bh_bd (bh_le (by omega) (show m ≤ p0 by omega) bp)
        refine s_if (b := true) (et_is (et_test (ev_op (ev_var rfl) ev_c (rv_eq rfl))) (by decide)) (fun _ H3 e3 => ?_) (fun z => by cases z)
        have te3 := te.ex e3
        have tn3 := tn.ex e3
        refine s_asgR (evr_tt (p := n0 + m * e0) (q := n1 + m * e1') (ea_cons (ev_op (ev_fst (ev_var rfl) tn3.tp) (ev_op (ev_var rfl) (ev_fst (ev_var rfl) te3.tp) (rv_I (bd_mul Bm Be0))) rv_I0) (ea_cons (ev_op (ev_snd (ev_var rfl) tn3.tp) (ev_op (ev_var rfl) (ev_snd (ev_var rfl) te3.tp) (rv_I (bd_mul Bm Be1))) rv_I0) ea_nil))) fun v H4 e4 hv => ?_
        have y0 := Int.mul_nonneg (show 0 ≤ m by omega) z1
        have y1 := Int.mul_nonneg (show 0 ≤ m by omega) z2
        exact ⟨ve, v, _, _, e0, e1', n0 + m * e0, n1 + m * e1', p - m * q, q, rfl, (eH.trans e3).trans e4, te3.ex e4, hv, h6, ⟨z1, z2, by omega, by omega⟩, by rw [← c0]; grind, by rw [← c1]; grind, by rw [← det]; grind⟩
      | north h1 h2 h3 h4 h5 h6 =>
        have lm : m ≤ m * p := by
          have := Int.mul_le_mul_of_nonneg_left (show (1 : Int) ≤ p by omega) (show 0 ≤ m by omega)
          omega
        have Bm : Bd m := by
          by_cases k0 : n0 = 0
          · have k1 : 1 ≤ n1 := by
              refine Int.not_lt.mp fun z => ?_
              have : n1 = 0 := by omega
              rw [k0, this] at det
              omega
            have := Int.mul_le_mul_of_nonneg_left k1 (show 0 ≤ q by omega)
            exact bh_bd (bh_le (by omega) (show m ≤ q0 by omega) bq)
          · have := Int.mul_le_mul_of_nonneg_left (show 1 ≤ n0 by omega) (show 0 ≤ q by omega)
            exact bh_bd (bh_le (by omega) (show m ≤ p0 by omega) bp)
        refine s_if (b := false) (et_is (et_test (ev_op (ev_var rfl) ev_c (rv_eq rfl))) (by decide)) (fun z => by cases z) (fun _ H3 e3 => ?_)
        have te3 := te.ex e3
        have tn3 := tn.ex e3
        refine s_asgR (evr_tt (p := e0 + m * n0) (q := e1' + m * n1) (ea_cons (ev_op (ev_fst (ev_var rfl) te3.tp) (ev_op (ev_var rfl) (ev_fst (ev_var rfl) tn3.tp) (rv_I (bd_mul Bm Bn0))) rv_I0) (ea_cons (ev_op (ev_snd (ev_var rfl) te3.tp) (ev_op (ev_var rfl) (ev_snd (ev_var rfl) tn3.tp) (rv_I (bd_mul Bm Bn1))) rv_I0) ea_nil))) fun v H4 e4 hv => ?_
        have y0 := Int.mul_nonneg (show 0 ≤ m by omega) z3
        have y1 := Int.mul_nonneg (show 0 ≤ m by omega) z4
        exact ⟨v, vn, _, _, e0 + m * n0, e1' + m * n1, n0, n1, p, q - m * p, rfl, (eH.trans e3).trans e4, hv, tn3.ex e4, h6, ⟨by omega, by omega, z3, z4⟩, by rw [← c0]; grind, by rw [← c1]; grind, by rw [← det]; grind⟩
    · rintro σ' H' ⟨ve, vn, o3, o4, e0, e1', n0, n1, p, q, rfl, eH, te, tn, hr1, ⟨z1, z2, z3, z4⟩, c0, c1, det⟩
      rw [hI.len, List.drop_length] at hr1
      cases hr1
      refine s_retR (evr_en rfl rfl te tn) fun v H3 e3 hv => k v H3 (((e1.trans e2).trans eH).trans e3) ⟨e0, e1', n0, n1, hv, ⟨z1, z2, z3, z4, by omega, by omega, det⟩⟩
end
end K4

set_option Elab.async false
set_option linter.all false
set_option maxRecDepth 100000
set_option maxHeartbeats 4000000
namespace K4
open PySem PySem.Spec PyProof.Rows L2 Evl M4
/-! ### for c in a text -/
theorem for_str {x : Str} {g : TG} {tb : TS} {D : Ends} {σ : L2.St} {H : Hp} (Pv : Nat → L2.St → Hp → Prop) (h0 : Pv 0 σ H)
    (hs : ∀ i c σ H, x.cps[i]? = some c → Pv i σ H → g (.str ⟨#[c]⟩) σ H fun σ2 H2 => tb { D with nx := Pv (i + 1), ct := Pv (i + 1), bk := D.nx } σ2 H2) (hd : ∀ σ H, Pv x.cps.size σ H → D.nx σ H) :
    ∃ W : Nat → Nat → L2.St → Hp → Prop, (∃ m, W 0 m σ H) ∧ ∀ i m σ H, W i m σ H →
      (((Its x).stop i H ∧ D.nx σ H) ∨ ((Its x).go i H ∧ ∃ N : L2.St → Hp → Prop, (∀ σ' H', N σ' H' → ∃ m', m' < m ∧ W (i + 1) m' σ' H') ∧ ∀ v H', (Its x).yld i H v H' → g v σ H' fun σ2 H2 => tb { D with nx := N, ct := N, bk := D.nx } σ2 H2)) := by
  refine ⟨fun i m σ H => m = x.cps.size - i ∧ i ≤ x.cps.size ∧ Pv i σ H, ⟨x.cps.size, by simp, Nat.zero_le _, h0⟩, ?_⟩
  rintro i m σ H ⟨rfl, hi, p⟩
  by_cases hlt : i < x.cps.size
  · refine .inr ⟨hlt, Pv (i + 1), fun σ' H' p' => ⟨x.cps.size - (i + 1), by omega, rfl, hlt, p'⟩, fun v H' y => ?_⟩
    obtain ⟨rfl, c, hc, rfl⟩ := y
    exact hs i c σ _ hc p
  · have e : i = x.cps.size := by omega
    subst e
    exact .inl ⟨Nat.le_refl _, hd σ H p⟩
/-! ### _law_back -/
def codeS (b : Bool) : Nat := if b then 97 else 98
def txt (bs : List Bool) : Str := ⟨(bs.map codeS).toArray⟩
def bk : List Bool → Int × Int
  | [] => (1, 1)
  | b :: bs => if b then ((bk bs).1 + (bk bs).2, (bk bs).2) else ((bk bs).1, (bk bs).2 + (bk bs).1)
theorem bk_snoc (bs : List Bool) : ∀ (n : Nat), n ≤ bs.length → True := fun _ _ => trivial
section
variable {P : Program} {w : World} {K : PySem.W.Frag} {mg : Str → Option Value} {base : Heap}
def preBack (K : PySem.W.Frag) : Hp → List V → (V → Hp → Prop) → Prop := fun _ vs R => ∃ bs : List Bool, vs = [.str (txt bs)] ∧ bs.length ≤ 100 ∧ R = fun v H => Tp K H v (bk bs).1 (bk bs).2
theorem cal_back (D : FD K mg "_law_back" s_back) : Cal P w K mg base 1 "_law_back" ["text"] (spR (preBack K)) := by
  refine cal_of0 D sc_back (fun _ _ _ _ _ _ us hl => match us, hl with | [_], _ => rfl) (fun vs H Q E h => ?_) (fun f cdv A outer s H vs Q E hr h => ?_)
  · obtain ⟨R, ⟨x, rfl, _⟩, _⟩ := h
    rfl
  · obtain ⟨R, ⟨bs, rfl, hl, rfl⟩, k⟩ := h
    refine ⟨_, (pss_cons (ps_asg (pe_tup (pa_cons pe_int (pa_cons pe_int pa_nil))) (pg_tup rfl (pgs_cons (pg_name (i := 1) sc_back.nd rfl (.inl rfl)) (pgs_cons (pg_name (i := 2) sc_back.nd rfl (.inl rfl)) pgs_nil))))
      (pss_cons (ps_for PassesOwn.never rfl (pi_str (pe_revS (pv 0))) (pg_name (i := 3) sc_back.nd rfl (.inl rfl))
        (pss_one (ps_asg (pe_ifExp (pt_cmpR op_eq (pv 3) pe_str (nomark _)) (pe_tup (pa_cons (pe_op op_add (pv 1) (pv 2)) (pa_cons (pv 2) pa_nil))) (pe_tup (pa_cons (pv 1) (pa_cons (pe_op op_add (pv 2) (pv 1)) pa_nil)))) (pg_tup rfl (pgs_cons (pg_name (i := 1) sc_back.nd rfl (.inl rfl)) (pgs_cons (pg_name (i := 2) sc_back.nd rfl (.inl rfl)) pgs_nil))))))
      (pss_one (ps_ret (pe_tup (pa_cons (pv 1) (pa_cons (pv 2) pa_nil))))))), ?_⟩
    refine s_unp (eu_tup (ea_cons ev_c (ea_cons ev_c ea_nil)) (by decide)) fun H1 e1 => ?_
    have hsz : (revS (txt bs)).cps.size = bs.length := by
      unfold revS txt
      simp
    refine ⟨_, rfl, txt bs, rfl, by unfold txt Str.length; simp; rw [sizeLine_eq]; omega, revS (txt bs), rfl, for_str (fun i σ' H' => ∃ o, σ' = [some (.str (txt bs)), some (.int (bk (bs.drop (bs.length - i))).1), some (.int (bk (bs.drop (bs.length - i))).2), o] ∧ Ex H1 H') ?_ ?_ ?_⟩
    · exact ⟨none, by rw [Nat.sub_zero, List.drop_length]; rfl, Ex.refl H1⟩
    · rintro i c σ' H' hc ⟨o, rfl, eH⟩
      have hi : i < bs.length := by
        have := (Array.getElem?_eq_some_iff.mp hc).1
        omega
      obtain ⟨b, hb⟩ : ∃ b, bs[bs.length - (i + 1)]? = some b := ⟨bs[bs.length - (i + 1)]'(by omega), List.getElem?_eq_getElem _⟩
      have hd : bs.drop (bs.length - (i + 1)) = b :: bs.drop (bs.length - i) := by
        obtain ⟨hlt, e⟩ := List.getElem?_eq_some_iff.mp hb
        rw [List.drop_eq_getElem_cons hlt, e, show bs.length - (i + 1) + 1 = bs.length - i by omega]
      have hcb : c = codeS b := by
        have e0 : (revS (txt bs)).cps = (bs.map codeS).reverse.toArray := rfl
        rw [e0, List.getElem?_toArray, List.getElem?_reverse (by rw [List.length_map]; omega), List.length_map, List.getElem?_map, show bs.length - 1 - i = bs.length - (i + 1) by omega, hb] at hc
        exact (Option.some.inj hc).symm
      subst hcb
      cases b with
      | true =>
        refine s_unp (eu_if (b := true) (et_is (et_test (ev_op (ev_var rfl) ev_c (rv_eq rfl))) (by decide +kernel)) (fun _ => eu_tup (ea_cons (ev_op (ev_var rfl) (ev_var rfl) rv_I0) (ea_cons (ev_var rfl) ea_nil)) (by show 2 ≤ 100000; omega)) (fun z => by cases z)) fun H3 e3 => ⟨some (.str ⟨#[codeS true]⟩), ?_, eH.trans e3⟩
        rw [hd]
        rfl
      | false =>
        refine s_unp (eu_if (b := false) (et_is (et_test (ev_op (ev_var rfl) ev_c (rv_eq rfl))) (by decide +kernel)) (fun z => by cases z) (fun _ => eu_tup (ea_cons (ev_var rfl) (ea_cons (ev_op (ev_var rfl) (ev_var rfl) rv_I0) ea_nil)) (by show 2 ≤ 100000; omega))) fun H3 e3 => ⟨some (.str ⟨#[codeS false]⟩), ?_, eH.trans e3⟩
        rw [hd]
        rfl
    · rintro σ' H' ⟨o, rfl, eH⟩
      rw [hsz, Nat.sub_self, List.drop_zero]
      exact s_retR (evr_tup (ea_cons (ev_var rfl) (ea_cons (ev_var rfl) ea_nil))) fun v H3 e3 hv => k v H3 ((e1.trans eH).trans e3) hv
end
end K4

set_option Elab.async false
set_option linter.all false
set_option maxRecDepth 100000
set_option maxHeartbeats 4000000
namespace K4
open PySem PySem.Spec PyProof.Rows L2 Evl M4
abbrev s_any : Stmt := top 37
abbrev s_near : Stmt := top 38
theorem sc_any : FnScope ["deck"] ["deck"] (defScope s_any) := ⟨rfl, rfl, rfl, by decide +kernel, rfl, by decide +kernel, by decide +kernel⟩
theorem sc_near : FnScope ["deck", "slant", "side", "many"] ["deck", "slant"] (defScope s_near) := ⟨rfl, rfl, rfl, by decide +kernel, rfl, by decide +kernel, by decide +kernel⟩
/-- a slant with bound -/
structure Sl (b : Nat) (p q : Int) : Prop where
  p0 : 0 ≤ p
  q0 : 0 ≤ q
  g : Int.gcd p q = 1
  bp : p < 2 ^ b
  bq : q < 2 ^ b
theorem Gs.sl {p q : Int} (h : Gs p q) : Sl 200 p q := ⟨by have := h.p1; omega, by have := h.q1; omega, h.g, h.bp, h.bq⟩
theorem Sl.mono {b c : Nat} {p q : Int} (h : Sl b p q) (l : b ≤ c) : Sl c p q := by
  have := two_le l
  exact ⟨h.p0, h.q0, h.g, by have := h.bp; omega, by have := h.bq; omega⟩
/-- a value that is a slant -/
def Sv (b : Nat) (v : V) (H : Hp) : Prop := ∃ p q : Int, Tt H v p q ∧ Sl b p q
theorem Sv.st (b : Nat) : StR (Sv b) := fun _ _ _ x ⟨p, q, t, s⟩ => ⟨p, q, t.dx x, s⟩
theorem Sv.mono {b c : Nat} {v : V} {H : Hp} (l : b ≤ c) : Sv b v H → Sv c v H := fun ⟨p, q, t, s⟩ => ⟨p, q, t, s.mono l⟩
def Al (R : V → Hp → Prop) (c : Nat) (vs : List V) (H : Hp) : Prop := vs.length = c ∧ ∀ v ∈ vs, R v H
section
variable {K : PySem.W.Frag} {S : DS} {σ : L2.St} {H : Hp} {te ta tb : TE} {tt : TT} {t : TA} {n k k1 k2 c : Nat} {R R' R1 R2 : V → Hp → Prop} {r : L2.R2} {x y v : V} {vs : List V} {D : Ends}
theorem eg_mono {H' : Hp} (x : Dx H H') (h : EvG S te σ H n k R) : EvG S te σ H' n k R := fun H1 x1 => h H1 (x.trans x1)
theorem ega_mono {H' : Hp} {Rs : List V → Hp → Prop} (x : Dx H H') (h : EvGA S t σ H n k Rs) : EvGA S t σ H' n k Rs := fun H1 x1 => h H1 (x.trans x1)
theorem ega0 : EvGA S tNil σ H n 0 (Al R 0) := fun H1 x d Q q => q [] H1 (Dx.refl H1) d ⟨rfl, fun _ h => by cases h⟩
theorem egaU (st : StR R) (h : EvG S te σ H n k1 R) (hr : EvGA S t σ H (n + k1) k2 (Al R c)) : EvGA S (tCons te t) σ H n (k1 + k2) (Al R (c + 1)) := fun H1 x d Q q =>
  h H1 x d _ fun v H2 x2 d2 r2 => hr H2 (x.trans x2) d2 _ fun ws H3 x3 d3 r3 => q (v :: ws) H3 (x2.trans x3) (d3.le (by omega)) ⟨by rw [List.length_cons, r3.1], fun y hy => by
    rcases List.mem_cons.mp hy with rfl | hy
    · exact st _ _ _ x3 r2
    · exact r3.2 y hy⟩
theorem eg_pick (h : EvGA S t σ H n k (Al R c)) (st : StR R) (nd : ∀ xs H, Al R c xs H → NoDk (.lst xs)) (c0 : 0 < c) (c1 : c ≤ 100) (i0 : σ[0]? = some (some (.ref S.a))) (hn : n + k + 1 ≤ Fuel) : EvG S (tCall (spG prePick) [] E0 (tCons (tVar 0) (tCons (tLst t) tNil))) σ H n (k + 1) R := fun H1 x d Q q =>
  ⟨.ref S.a, i0, h H1 x d _ fun xs H2 x2 d2 r2 => ⟨by rw [r2.1, sizeLine_eq]; omega, fun p hp =>
    ⟨S, n + k, 1, fun v _ => v ∈ xs, ⟨p, xs, rfl, upd_same, nd xs H2 r2, by rw [r2.1]; exact c0, by rw [r2.1]; exact c1, rfl, rfl⟩, d2.ex (Ex.new hp), hn, fun v H3 x3 d3 hv => q v H3 (x2.trans ((Ex.dx (Ex.new hp)).trans x3)) d3 (st _ _ _ ((Ex.dx (Ex.new hp)).trans x3) (r2.2 v hv))⟩⟩⟩
theorem eg_op2 (ha : EvG S ta σ H n k1 R1) (st : StR R1) (hb : EvG S tb σ H (n + k1) k2 R2) (hr : ∀ x y H1, Dx H H1 → R1 x H1 → R2 y H1 → ∃ z, RV r x y H1 z ∧ ∀ H2, Ex H1 H2 → R' z H2) : EvG S (tOp r ta tb) σ H n (k1 + k2) R' := fun H1 x1 d1 Q q =>
  ha H1 x1 d1 _ fun x H2 x2 d2 r2 => hb H2 (x1.trans x2) d2 _ fun y H3 x3 d3 r3 => by
    obtain ⟨z, rv, r'⟩ := hr x y H3 ((x1.trans x2).trans x3) (st _ _ _ x3 r2) r3
    exact rv H3 (Ex.refl H3) Q fun H4 e4 => q z H4 ((x2.trans x3).trans (Ex.dx e4)) ((d3.ex e4).le (by omega)) (r' H4 e4)
theorem g_par {i j : Nat} (ha : EvG S ta σ H n k1 R1) (st : StR R1) (hb : EvG S tb σ H (n + k1) k2 R2) (d : Dk S n H) (q : ∀ v w H1, Dx H H1 → Dk S (n + (k1 + k2)) H1 → R1 v H1 → R2 w H1 → D.nx ((σ.set i (some v)).set j (some w)) H1) : tPar i j (tCons ta (tCons tb tNil)) D σ H :=
  ha H (Dx.refl H) d _ fun v H2 x2 d2 r2 => hb H2 x2 d2 _ fun w H3 x3 d3 r3 => ⟨v, w, rfl, q v w H3 (x2.trans x3) (d3.le (by omega)) (st _ _ _ x3 r2) r3⟩
end
theorem noDk_len {xs : List V} (h : xs.length ≠ 3) : NoDk (.lst xs) := by
  unfold NoDk
  split
  · next e =>
    cases e
    exact absurd rfl h
  · trivial
theorem gcd_pm {a b p q : Int} (h : a * q - b * p = 1 ∨ a * q - b * p = -1) : Int.gcd p q = 1 := by
  rcases h with h | h
  · exact gcd_one h
  · rw [Int.gcd_comm]
    exact gcd_one (a := b) (b := a) (by omega)
section
variable {P : Program} {w : World} {K : PySem.W.Frag} {mg : Str → Option Value} {base : Heap}
def preAny : DS → Hp → List V → Nat → (V → Hp → Prop) → Prop := fun S _ vs k R => vs = [.ref S.a] ∧ k = 19 ∧ R = Sv 200
theorem cal_any (D : FD K mg "_law_any" s_any) (T : MF mg) (c_pick : Cal P w K mg base 2 "_law_pick" ["deck", "some"] (spG prePick)) (c_slant : Cal P w K mg base 2 "_law_slant" ["deck", "top"] (spG (preSlantD K))) : Cal P w K mg base 3 "_law_any" ["deck"] (spG preAny) := by
  refine cal_of0 D sc_any (fun _ _ _ _ _ _ us hl => match us, hl with | [_], _ => rfl) (fun vs H Q E h => ?_) (fun f cdv A outer s H vs Q E hr h => ?_)
  · obtain ⟨S, n, k, R, ⟨rfl, _⟩, _⟩ := h
    rfl
  · obtain ⟨S, n, k, R, ⟨rfl, rfl, rfl⟩, hd, hn, q⟩ := h
    refine ⟨_, (pss_one (ps_ret (pe_cal c_pick (hr.mono (by decide)) rfl pass0 (pa_cons (pv 0) (pa_cons (pe_lst (pa_cons (pe_tup (pa_cons pe_int (pa_cons pe_int pa_nil))) (pa_cons (pe_tup (pa_cons pe_int (pa_cons pe_int pa_nil))) (pa_cons (pe_cal c_slant (hr.mono (by decide)) rfl pass0 (pa_cons (pv 0) (pa_cons (pe_op op_pow pe_int pe_int) pa_nil))) (pa_cons (pe_cal c_slant (hr.mono (by decide)) rfl pass0 (pa_cons (pv 0) (pa_cons (pe_op op_pow pe_int pe_int) pa_nil))) (pa_cons (pe_cal c_slant (hr.mono (by decide)) rfl pass0 (pa_cons (pv 0) (pa_cons pe_int pa_nil))) pa_nil)))))) pa_nil))))), ?_⟩
    have hn19 : n + 19 ≤ Fuel := hn
    have sl : ∀ {n : Nat} {t : TE} {m : Int}, (∀ H1, Dx H H1 → Ev t [some (.ref S.a)] H1 (.int m)) → 1 ≤ m → m < 2 ^ 190 → n + 6 ≤ Fuel → EvG S (tCall (spG (preSlantD K)) [] E0 (tCons (tVar 0) (tCons t tNil))) [some (.ref S.a)] H n 6 (Sv 200) := fun h h1 h2 hn =>
      eg_imp (eg_call (fun H1 x => ea_cons (ev_var rfl) (ea_cons (h H1 x) ea_nil)) hn fun H1 _ => ⟨_, rfl, h1, h2, rfl, rfl⟩) fun v H1 _ ⟨p, q, t, g⟩ => ⟨p, q, t, g.sl⟩
    have pw : ∀ {H1 : Hp} {j : Int}, 0 ≤ j → j ≤ 1000000 → Ev (tOp (rI CPow fun i j => .int (i ^ j.toNat)) (tC (.int 10)) (tC (.int j))) [some (.ref S.a)] H1 (.int (10 ^ j.toNat)) := fun h h' => ev_op ev_c ev_c (rv_I (C := CPow) ⟨h, h', by decide⟩)
    have lit : ∀ {n : Nat} {a b : Int}, Sl 200 a b → EvG S (tTup (tCons (tC (.int a)) (tCons (tC (.int b)) tNil))) [some (.ref S.a)] H n 0 (Sv 200) := fun s => eg_r fun H1 _ H2 e2 Q k => evr_tt (ea_cons ev_c (ea_cons ev_c ea_nil)) H2 e2 Q fun v H3 e3 hv => k v H3 e3 ⟨_, _, hv, s⟩
    exact g_ret (k := 19) (eg_pick (k := 18) (c := 5) (egaU (k1 := 0) (k2 := 18) (Sv.st _) (lit ⟨by decide, by decide, by decide, by decide, by decide⟩) (egaU (k1 := 0) (k2 := 18) (Sv.st _) (lit ⟨by decide, by decide, by decide, by decide, by decide⟩)
      (egaU (k1 := 6) (k2 := 12) (Sv.st _) (sl (fun _ _ => pw (by decide) (by decide)) (by decide) (by decide) (by omega)) (egaU (k1 := 6) (k2 := 6) (Sv.st _) (sl (fun _ _ => pw (by decide) (by decide)) (by decide) (by decide) (by omega)) (egaU (k1 := 6) (k2 := 0) (Sv.st _) (sl (fun _ _ => ev_c) (by decide) (by decide) (by omega)) ega0)))))
      (Sv.st _) (fun xs _ h => noDk_len (by rw [h.1]; decide)) (by decide) (by decide) rfl (by omega)) hd q
/-! ### _law_near -/
def preNear : DS → Hp → List V → Nat → (V → Hp → Prop) → Prop := fun S H vs k R => ∃ (x : V) (p q : Int), vs = [.ref S.a, x] ∧ Tt H x p q ∧ Sl 200 p q ∧ k = 6 ∧ R = Sv 300
theorem in0 (p q : Int) : inV (.int 0) [.int p, .int q] = (decide (p = 0) || decide (q = 0)) := by
  unfold inV
  show (eqV (.int p) (.int 0) || (eqV (.int q) (.int 0) || false)) = _
  rw [Bool.or_false]
  rfl
theorem cal_near (D : FD K mg "_law_near" s_near) (T : MF mg) (c_draw : Cal P w K mg base 1 "_law_draw" ["deck", "many"] (spG preDraw)) (c_pick : Cal P w K mg base 2 "_law_pick" ["deck", "some"] (spG prePick)) (c_slant : Cal P w K mg base 2 "_law_slant" ["deck", "top"] (spG (preSlantD K))) (c_sides : Cal P w K mg base 2 "_law_sides" ["slant"] (spR (preSides K))) :
    Cal P w K mg base 3 "_law_near" ["deck", "slant"] (spG preNear) := by
  refine cal_of0 D sc_near (fun _ _ _ _ _ _ us hl => match us, hl with | [_, _], _ => rfl) (fun vs H Q E h => ?_) (fun f cdv A outer s H vs Q E hr h => ?_)
  · obtain ⟨S, n, k, R, ⟨x, p, q, rfl, _⟩, _⟩ := h
    rfl
  · obtain ⟨S, n, k, R, ⟨x, p, q, rfl, tx, sx, rfl, rfl⟩, hd, hn, kk⟩ := h
    refine ⟨_, (pss_cons (ps_if (pt_cmpR op_in_seq pe_int (pv 1) (by with_unfolding_all rfl)) (pss_one (ps_ret (pe_cal c_slant (hr.mono (by decide)) rfl pass0 (pa_cons (pv 0) (pa_cons (pe_op op_pow pe_int pe_int) pa_nil))))) pss_nil)
      (pss_cons (ps_par (i := 2) (j := 3) (by rfl) sc_near.nd rfl rfl (by decide) rfl rfl (pa_cons (pe_ix ix_tup (pe_cal c_sides (hr.mono (by decide)) rfl pass0 (pa_cons (pv 1) pa_nil)) (pe_cal c_draw (hr.mono (by decide)) rfl pass0 (pa_cons (pv 0) (pa_cons pe_int pa_nil))) (fun _ _ => rfl))
        (pa_cons (pe_cal c_pick (hr.mono (by decide)) rfl pass0 (pa_cons (pv 0) (pa_cons (pe_lst (pa_cons pe_int (pa_cons pe_int (pa_cons (pe_cal c_draw (hr.mono (by decide)) rfl pass0 (pa_cons (pv 0) (pa_cons (pe_op op_pow pe_int pe_int) pa_nil))) pa_nil)))) pa_nil))) pa_nil)) (by rfl))
      (pss_one (ps_ret (pe_cal c_pick (hr.mono (by decide)) rfl pass0 (pa_cons (pv 0) (pa_cons (pe_lst (pa_cons (pv 2) (pa_cons (pe_tup (pa_cons (pe_op op_add (pe_ix ix_tup (pv 1) pe_int (fun _ _ => rfl)) (pe_op op_mulW (pv 3) (pe_ix ix_tup (pv 2) pe_int (fun _ _ => rfl)))) (pa_cons (pe_op op_add (pe_ix ix_tup (pv 1) pe_int (fun _ _ => rfl)) (pe_op op_mulW (pv 3) (pe_ix ix_tup (pv 2) pe_int (fun _ _ => rfl)))) pa_nil))) pa_nil))) pa_nil))))))), ?_⟩
    have hn6 : n + 6 ≤ Fuel := hn
    have pw : ∀ {σ : L2.St} {H1 : Hp} {j : Int}, 0 ≤ j → j ≤ 1000000 → Ev (tOp (rI CPow fun i j => .int (i ^ j.toNat)) (tC (.int 10)) (tC (.int j))) σ H1 (.int (10 ^ j.toNat)) := fun h h' => ev_op ev_c ev_c (rv_I (C := CPow) ⟨h, h', by decide⟩)
    have dr : ∀ {σ : L2.St} {H : Hp} {n : Nat} {t : TE} {m : Int}, σ[0]? = some (some (.ref S.a)) → (∀ H1, Dx H H1 → Ev t σ H1 (.int m)) → 0 < m → m.natAbs < 2 ^ 200 → n + 1 ≤ Fuel → EvG S (tCall (spG preDraw) [] E0 (tCons (tVar 0) (tCons t tNil))) σ H n 1 (fun v _ => ∃ i : Int, v = .int i ∧ 0 ≤ i ∧ i < m) := fun i0 h h1 h2 hn => eg_call (fun H1 x => ea_cons (ev_var i0) (ea_cons (h H1 x) ea_nil)) hn fun H1 _ => ⟨_, rfl, h1, h2, rfl, rfl⟩
    obtain ⟨ax, rfl, hx⟩ := id tx
    have q2 : ∀ v H', Dx H H' → Dk S (n + 6) H' → Sv 300 v H' → Q v H' := kk
    refine s_if (et_is (et_test (ev_op ev_c (ev_var rfl) (rv_isT (st_of (K := K) hx) rfl rfl))) (in0 p q)) (fun _ H1 e1 => ?_) (fun hb H1 e1 => ?_)
    · refine g_ret (k := 6) (R := Sv 300) (eg_imp (eg_call (R := fun v H => ∃ p q : Int, Tt H v p q ∧ Gs p q) (fun H1 x => ea_cons (ev_var rfl) (ea_cons (pw (by decide) (by decide)) ea_nil)) hn6 fun H1 _ => ⟨_, rfl, by decide, by decide, rfl, rfl⟩) fun v H1 _ ⟨p, q, t, g⟩ => ⟨p, q, t, g.sl.mono (by decide)⟩) (hd.ex e1) fun v H2 x2 d2 hv => q2 v H2 ((Ex.dx e1).trans x2) d2 hv
    · have pq : p ≠ 0 ∧ q ≠ 0 := by
        constructor
        · intro z
          rw [decide_eq_true z] at hb
          cases hb
        · intro z
          rw [decide_eq_true z, Bool.or_true] at hb
          cases hb
      have hp : 1 ≤ p := by have := sx.p0; omega
      have hq : 1 ≤ q := by have := sx.q0; omega
      have bb : (2 : Nat) ^ 200 < 2 ^ 900 := Nat.pow_lt_pow_right (by decide) (by decide)
      have Bp : Bh p := Nat.lt_trans (show p.natAbs < 2 ^ 200 by have := sx.bp; omega) bb
      have Bq : Bh q := Nat.lt_trans (show q.natAbs < 2 ^ 200 by have := sx.bq; omega) bb
      have stE : StR (fun v H => ∃ e0 e1 n0 n1 : Int, EN K H v e0 e1 n0 n1 ∧ Sd p q e0 e1 n0 n1) := fun v H H' x ⟨e0, e1, n0, n1, ⟨a, ve, vn, ev, hs, h1, h2⟩, sd⟩ => ⟨e0, e1, n0, n1, ⟨a, ve, vn, ev, dx_t x hs, h1.dx x, h2.dx x⟩, sd⟩
      have stS : StR (fun (v : V) H => ∃ a b : Int, Tt H v a b ∧ (0 ≤ a ∧ a ≤ p ∧ 0 ≤ b ∧ b ≤ q) ∧ (a * q - b * p = 1 ∨ a * q - b * p = -1)) := fun v H H' x ⟨a, b, t, h⟩ => ⟨a, b, t.dx x, h⟩
      have d1 : Dk S n H1 := hd.ex e1
      refine g_par (k1 := 1) (k2 := 2) (R1 := fun v H => ∃ a b : Int, Tt H v a b ∧ (0 ≤ a ∧ a ≤ p ∧ 0 ≤ b ∧ b ≤ q) ∧ (a * q - b * p = 1 ∨ a * q - b * p = -1)) (R2 := fun v _ => ∃ m : Int, v = .int m ∧ 0 ≤ m ∧ m < 2 ^ 30)
        (eg_op2 (k1 := 0) (k2 := 1) (eg_callR (ega_of fun H2 x2 => ea_cons (ev_var rfl) ea_nil) fun ws H2 x2 hws => ⟨_, ⟨_, p, q, hws, ((tx.ex e1).dx x2).tp, hp, hq, sx.g, ⟨Bp, Bq⟩, rfl⟩, fun v H3 _ h => h⟩) stE (dr rfl (fun _ _ => ev_c) (by decide) (by decide) (by omega)) fun xv yv H2 x2 hE hY => ?_) stS
        (eg_pick (k := 1) (c := 3) (egaU (k1 := 0) (k2 := 1) (fun _ _ _ _ h => h) (eg_v (fun _ _ => ev_c) fun _ _ => ⟨1, rfl, by decide, by decide⟩) (egaU (k1 := 0) (k2 := 1) (fun _ _ _ _ h => h) (eg_v (fun _ _ => ev_c) fun _ _ => ⟨2, rfl, by decide, by decide⟩) (egaU (k1 := 1) (k2 := 0) (fun _ _ _ _ h => h) (eg_imp (dr rfl (fun _ _ => pw (by decide) (by decide)) (by decide) (by decide) (by omega)) fun v _ _ ⟨i, e, i0, i1⟩ => ⟨i, e, i0, Int.lt_trans i1 (by decide)⟩) ega0)))
          (fun _ _ _ _ h => h) (fun xs H2 h => ?_) (by decide) (by decide) rfl (by omega)) d1 fun sv mv H2 x2 d2 hs hm => ?_
      · obtain ⟨e0, e1', n0, n1, ⟨a, ve, vn, rfl, hs, h1, h2⟩, sd⟩ := hE
        obtain ⟨i, rfl, i0, i1⟩ := hY
        have det : e0 * q - e1' * p = 1 := by
          have := sd.det
          rw [← sd.e0, ← sd.e1]
          grind
        have det2 : n0 * q - n1 * p = -1 := by
          have := sd.det
          rw [← sd.e0, ← sd.e1]
          grind
        have := sd.f0p
        have := sd.f1p
        have := sd.s0p
        have := sd.s1p
        have := sd.e0
        have := sd.e1
        have hi : i = 0 ∨ i = 1 := by omega
        rcases hi with rfl | rfl
        · exact ⟨ve, rv_ixT hs rfl, fun H3 e3 => ⟨e0, e1', h1.ex e3, by omega, .inl det⟩⟩
        · exact ⟨vn, rv_ixT hs rfl, fun H3 e3 => ⟨n0, n1, h2.ex e3, by omega, .inr det2⟩⟩
      · obtain ⟨hl, hv⟩ := h
        match xs, hl with
        | [u, v, z], _ =>
          obtain ⟨m, rfl, _⟩ := hv u (List.mem_cons_self ..)
          trivial
      · obtain ⟨a, b, ts, ⟨a0, a1, b0, b1⟩, det⟩ := hs
        obtain ⟨m, rfl, m0, m1⟩ := hm
        have Bm : Bd m := Nat.lt_trans (show m.natAbs < 2 ^ 200 by omega) (Nat.pow_lt_pow_right (by decide) (by decide))
        have Ba : Bd a := bh_bd (bh_le a0 a1 Bp)
        have Bb : Bd b := bh_bd (bh_le b0 b1 Bq)
        have bm : ∀ {c : Int}, 0 ≤ c → c < 2 ^ 200 → 0 ≤ m * c ∧ m * c ≤ 2 ^ 30 * 2 ^ 200 := fun h0 h1 => ⟨Int.mul_nonneg m0 h0, Int.mul_le_mul (by omega) (by omega) h0 (by decide)⟩
        obtain ⟨ma0, ma1⟩ := bm a0 (by have := sx.bp; omega)
        obtain ⟨mb0, mb1⟩ := bm b0 (by have := sx.bq; omega)
        have big : (2 : Int) ^ 30 * 2 ^ 200 + 2 ^ 200 < 2 ^ 300 := by decide
        have big2 : (2 : Int) ^ 200 < 2 ^ 300 := by decide
        have := sx.bp
        have := sx.bq
        have s1 : Sl 300 a b := ⟨a0, b0, by rw [Int.gcd_comm]; exact gcd_pm (a := q) (b := p) (p := b) (q := a) (by rw [Int.mul_comm q a, Int.mul_comm p b]; exact det), by omega, by omega⟩
        have e3 : a * (q + m * b) - b * (p + m * a) = a * q - b * p := by grind
        have s2 : Sl 300 (p + m * a) (q + m * b) := ⟨by omega, by omega, gcd_pm (a := a) (b := b) (by rw [e3]; exact det), by omega, by omega⟩
        have tx2 := (tx.ex e1).dx x2
        refine g_ret (k := 1) (eg_pick (k := 0) (c := 2) (R := Sv 300) (egaU (k1 := 0) (k2 := 0) (Sv.st _) (eg_v (fun _ _ => ev_var rfl) fun H3 x3 => ⟨a, b, ts.dx x3, s1⟩) (egaU (k1 := 0) (k2 := 0) (Sv.st _) (eg_r fun H3 x3 => fun H4 e4 Q4 k4 => ?_) ega0)) (Sv.st _) (fun xs _ h => noDk_len (by rw [h.1]; decide)) (by decide) (by decide) rfl (by omega)) d2 fun v H3 x3 d3 hv => q2 v H3 (((Ex.dx e1).trans x2).trans x3) (d3.le (by omega)) hv
        have tx3 : Tp K H3 (.ref ax) p q := (tx2.dx x3).tp
        have ts3 : Tp K H3 sv a b := (ts.dx x3).tp
        exact evr_tt (ea_cons (ev_op (ev_fst (ev_var rfl) tx3) (ev_op (ev_var rfl) (ev_fst (ev_var rfl) ts3) (rv_I (bd_mul Bm Ba))) rv_I0) (ea_cons (ev_op (ev_snd (ev_var rfl) tx3) (ev_op (ev_var rfl) (ev_snd (ev_var rfl) ts3) (rv_I (bd_mul Bm Bb))) rv_I0) ea_nil)) H4 e4 Q4 fun v H5 e5 hv => k4 v H5 e5 ⟨_, _, hv, s2⟩
end
end K4

set_option Elab.async false
set_option linter.all false
namespace M4
theorem cone_lo {l0 l1 f0 f1 p q : Int} (hl0 : 0 ≤ l0) (hl1 : 0 ≤ l1) (hp : 0 ≤ p) (hf : 0 ≤ f0) (lo : f1 * l0 ≤ l1 * f0) (ab : l1 * p < q * l0) : f1 * p ≤ q * f0 := by
  have z := mul_nn hl1 hp
  have l0pos : 0 < l0 := by
    rcases Int.lt_or_eq_of_le hl0 with k | k
    · exact k
    · rw [← k, Int.mul_zero] at ab; omega
  refine Int.not_lt.mp fun k => ?_
  have a1 := Int.mul_pos (show 0 < f1 * p - q * f0 by omega) l0pos
  have a2 := mul_nn hp (show 0 ≤ l1 * f0 - f1 * l0 by omega)
  have a3 := mul_nn hf (show 0 ≤ q * l0 - l1 * p by omega)
  have e : (f1 * p - q * f0) * l0 + p * (l1 * f0 - f1 * l0) + f0 * (q * l0 - l1 * p) = 0 := by grind
  omega
theorem cone_hi {h0 h1 s0 s1 p q : Int} (hh0 : 0 ≤ h0) (hh1 : 0 ≤ h1) (hq : 0 ≤ q) (hs : 0 ≤ s1) (hi : h1 * s0 ≤ s1 * h0) (be : q * h0 < h1 * p) : q * s0 ≤ s1 * p := by
  have z := mul_nn hq hh0
  have h1pos : 0 < h1 := by
    rcases Int.lt_or_eq_of_le hh1 with k | k
    · exact k
    · rw [← k, Int.zero_mul] at be; omega
  refine Int.not_lt.mp fun k => ?_
  have a1 := Int.mul_pos (show 0 < q * s0 - s1 * p by omega) h1pos
  have a2 := mul_nn hq (show 0 ≤ s1 * h0 - h1 * s0 by omega)
  have a3 := mul_nn hs (show 0 ≤ h1 * p - q * h0 by omega)
  have e : (q * s0 - s1 * p) * h1 + q * (s1 * h0 - h1 * s0) + s1 * (h1 * p - q * h0) = 0 := by grind
  omega
/-- whatever lies strictly between is at least the sum of the sides -/
theorem least {l0 l1 h0 h1 f0 f1 s0 s1 p q : Int} (G : Gap l0 l1 h0 h1) (I : SI l0 l1 h0 h1 f0 f1 s0 s1) (hp : 0 ≤ p) (hq : 0 ≤ q) (ab : l1 * p < q * l0) (be : q * h0 < h1 * p) : f0 + s0 ≤ p ∧ f1 + s1 ≤ q := by
  have c1 := cone_lo G.l0p G.l1p hp I.f0p I.lo ab
  have c2 := cone_hi G.h0p G.h1p hq I.s1p I.hi be
  have x := (strict (⟨hp, hq, G.h0p, G.h1p, be⟩ : Gap p q h0 h1) (⟨I.f0p, I.f1p, I.s0p, I.s1p, I.det, c1, I.hi⟩ : SI p q h0 h1 f0 f1 s0 s1)).1
  have y := (strict (⟨G.l0p, G.l1p, hp, hq, ab⟩ : Gap l0 l1 p q) (⟨I.f0p, I.f1p, I.s0p, I.s1p, I.det, I.lo, c2⟩ : SI l0 l1 p q f0 f1 s0 s1)).2
  have d := I.det
  have e1 : (s1 * p - q * s0) * f0 + (q * f0 - f1 * p) * s0 = p := by
    have : (s1 * p - q * s0) * f0 + (q * f0 - f1 * p) * s0 = p * (f0 * s1 - f1 * s0) := by grind
    rw [this, d, Int.mul_one]
  have e2 : (s1 * p - q * s0) * f1 + (q * f0 - f1 * p) * s1 = q := by
    have : (s1 * p - q * s0) * f1 + (q * f0 - f1 * p) * s1 = q * (f0 * s1 - f1 * s0) := by grind
    rw [this, d, Int.mul_one]
  generalize s1 * p - q * s0 = α at *
  generalize q * f0 - f1 * p = β at *
  have := le_mul_of_one (show 1 ≤ α by omega) I.f0p
  have := le_mul_of_one (show 1 ≤ β by omega) I.s0p
  have := le_mul_of_one (show 1 ≤ α by omega) I.f1p
  have := le_mul_of_one (show 1 ≤ β by omega) I.s1p
  omega
/-- two slants that lie on one line are one -/
theorem cross {a b c d : Int} (ha : 0 ≤ a) (hb : 0 ≤ b) (hc : 0 ≤ c) (hd : 0 ≤ d) (g1 : Int.gcd a b = 1) (g2 : Int.gcd c d = 1) (h : b * c = d * a) : a = c ∧ b = d := by
  obtain ⟨A, rfl⟩ := Int.eq_ofNat_of_zero_le ha
  obtain ⟨B, rfl⟩ := Int.eq_ofNat_of_zero_le hb
  obtain ⟨C, rfl⟩ := Int.eq_ofNat_of_zero_le hc
  obtain ⟨D, rfl⟩ := Int.eq_ofNat_of_zero_le hd
  have n1 : Nat.Coprime A B := g1
  have n2 : Nat.Coprime C D := g2
  have e : B * C = D * A := by exact_mod_cast h
  have d1 : A ∣ C := n1.dvd_of_dvd_mul_left (m := B) (by rw [e]; exact Nat.dvd_mul_left ..)
  have d2 : C ∣ A := n2.dvd_of_dvd_mul_left (m := D) (by rw [← e]; exact Nat.dvd_mul_left ..)
  have d3 : B ∣ D := n1.symm.dvd_of_dvd_mul_right (n := A) (by rw [← e]; exact Nat.dvd_mul_right ..)
  have d4 : D ∣ B := n2.symm.dvd_of_dvd_mul_right (n := C) (by rw [e]; exact Nat.dvd_mul_right ..)
  rw [Nat.dvd_antisymm d1 d2, Nat.dvd_antisymm d3 d4]
  exact ⟨rfl, rfl⟩
end M4

set_option Elab.async false
set_option linter.all false
set_option maxRecDepth 100000
set_option maxHeartbeats 4000000
namespace K4
open PySem PySem.Spec PyProof.Rows L2 Evl M4
abbrev s_between : Stmt := top 39
theorem sc_between : FnScope ["one", "other", "low", "high", "told", "flatter", "steeper"] ["one", "other"] (defScope s_between) := ⟨rfl, rfl, rfl, by decide +kernel, rfl, by decide +kernel, by decide +kernel⟩
theorem Sl.bh {b : Nat} {p q : Int} (h : Sl b p q) (l : b ≤ 300) : Bh p ∧ Bh q := by
  have h2 := h.mono l
  have bb : (2 : Nat) ^ 300 < 2 ^ 900 := Nat.pow_lt_pow_right (by decide) (by decide)
  exact ⟨Nat.lt_trans (show p.natAbs < 2 ^ 300 by have := h2.bp; have := h2.p0; omega) bb, Nat.lt_trans (show q.natAbs < 2 ^ 300 by have := h2.bq; have := h2.q0; omega) bb⟩
theorem Sl.slantB {b : Nat} {p q : Int} (h : Sl b p q) : K4.slantB [.int p, .int q] = true := by
  show (decide (0 ≤ p) && (decide (0 ≤ q) && decide ((Int.gcd p q : Int) = 1))) = true
  rw [decide_eq_true h.p0, decide_eq_true h.q0, h.g]
  rfl
theorem ib2 {p q : Int} : ∀ x ∈ [V.int p, V.int q], IB x := fun x hx => by
  rcases List.mem_cons.mp hx with rfl | hx
  · trivial
  · rcases List.mem_cons.mp hx with rfl | hx
    · trivial
    · cases hx
theorem slantT {b : Nat} {H : Hp} {v : V} {p q : Int} (t : Tt H v p q) (h : Sl b p q) : SlantV H v p q := by
  obtain ⟨a, rfl, ha⟩ := t
  exact ⟨⟨a, rfl, .inr ha, ib2, by show 2 ≤ 100; omega⟩, h.slantB⟩
theorem slantL {b : Nat} {H : Hp} {a : Addr} {p q : Int} (ha : H a = some (.lst [.int p, .int q])) (h : Sl b p q) : SlantV H (.ref a) p q :=
  ⟨⟨a, rfl, .inl ha, ib2, by show 2 ≤ 100; omega⟩, h.slantB⟩
section
variable {K : PySem.W.Frag} {σ : L2.St} {H : Hp} {ta : TE} {t : TA} {CW CM : Addr} {x y : V}
theorem el_listT {p : Addr} {xs : List V} (ha : Ev ta σ H (.ref p)) (h : H p = some (.tup xs)) : EvL (tCB (rListS K) (tCons ta tNil)) σ H xs := fun H1 e Q q =>
  ha H1 e _ fun H2 e2 => ⟨p, xs, rfl, Or.inr (st_of (e2 _ _ (e _ _ h))), fun l hl => q l _ (fresh_back e2 hl) (e2.trans (Ex.new hl)) upd_same⟩
def RSimp (l0 l1 h0 h1 : Int) (v : V) (H : Hp) : Prop := ∃ p q f0 f1 s0 s1 : Int, Tt H v p q ∧ Simple l0 l1 h0 h1 p q f0 f1 s0 s1
theorem evr_simp {l0 l1 h0 h1 : Int} {b : Nat} (hb : b ≤ 300) (h : EvA t σ H [x, y]) (hx : ∀ H1, Ex H H1 → SlantV H1 x l0 l1) (hy : ∀ H1, Ex H H1 → SlantV H1 y h0 h1) (s1 : Sl b l0 l1) (s2 : Sl b h0 h1) (lt : l1 * h0 < h1 * l0) :
    EvR (tCall (spSimplest K CW CM) [] E0 t) σ H (RSimp l0 l1 h0 h1) := fun H1 e Q q => h H1 e _ fun H2 e2 =>
  ⟨x, y, rfl, .inl ⟨l0, l1, h0, h1, hx H2 (e.trans e2), hy H2 (e.trans e2), ⟨(s1.bh hb).1, (s1.bh hb).2, (s2.bh hb).1, (s2.bh hb).2⟩, .inl ⟨lt, fun v H' p q' f0 f1 s0 s1 e3 t s => q v H' (e2.trans e3) ⟨p, q', f0, f1, s0, s1, t, s⟩⟩⟩⟩
/-- simplest(high = list(h), low = list(l)) -/
theorem evr_simpW {l0 l1 h0 h1 : Int} {b : Nat} {th tl : TE} (hb : b ≤ 300) (hh : EvL th σ H [.int h0, .int h1]) (hl : EvL tl σ H [.int l0, .int l1]) (s1 : Sl b l0 l1) (s2 : Sl b h0 h1) (lt : l1 * h0 < h1 * l0) :
    EvR (tCallW (spSimplest K CW CM) E0 (tCons th (tCons tl tNil))) σ H (RSimp l0 l1 h0 h1) := fun H1 e Q q => hh H1 e _ fun ph H2 _ e2 h2 => hl H2 (e.trans e2) _ fun pl H3 _ e3 h3 =>
  ⟨.ref pl, .ref ph, rfl, .ref pl, .ref ph, rfl, .inl ⟨l0, l1, h0, h1, slantL h3 s1, slantL (e3 _ _ h2) s2, ⟨(s1.bh hb).1, (s1.bh hb).2, (s2.bh hb).1, (s2.bh hb).2⟩, .inl ⟨lt, fun v H' p q' f0 f1 s0 s1 e4 t s => q v H' ((e2.trans e3).trans e4) ⟨p, q', f0, f1, s0, s1, t, s⟩⟩⟩⟩
theorem EvR.imp {te : TE} {P P' : V → Hp → Prop} (h : EvR te σ H P) (l : ∀ v H1, P v H1 → P' v H1) : EvR te σ H P' := fun H1 e Q q => h H1 e Q fun v H2 e2 hv => q v H2 e2 (l v H2 hv)
theorem s_unpEN {D : Ends} {te : TE} {i j : Nat} {p q : Int} (h : EvR te σ H fun v H => ∃ e0 e1 n0 n1, EN K H v e0 e1 n0 n1 ∧ Sd p q e0 e1 n0 n1) (k : ∀ ve vn e0 e1 n0 n1 H1, Ex H H1 → Tt H1 ve e0 e1 → Tt H1 vn n0 n1 → Sd p q e0 e1 n0 n1 → D.nx ((σ.set i (some ve)).set j (some vn)) H1) :
    tAsg te (gTup K 2 (gCons (gName i) (gCons (gName j) gNil))) D σ H := h H (Ex.refl H) _ fun v H1 e1 ⟨e0, e1', n0, n1, ⟨a, ve, vn, ev, hs, h1, h2⟩, sd⟩ =>
  ⟨a, _, ev, hs, rfl, ve, _, rfl, vn, _, rfl, rfl, k ve vn e0 e1' n0 n1 H1 e1 h1 h2 sd⟩
theorem Simple.same {l0 l1 h0 h1 p q f0 f1 s0 s1 p' q' g0 g1 t0 t1 : Int} (G : Gap l0 l1 h0 h1) (a : Simple l0 l1 h0 h1 p q f0 f1 s0 s1) (b : Simple l0 l1 h0 h1 p' q' g0 g1 t0 t1) : p = p' ∧ q = q' := by
  obtain ⟨ia, ea, eb, ab, be⟩ := a
  obtain ⟨ib, ea', eb', ab', be'⟩ := b
  have n1 := ia.f0p
  have n2 := ia.f1p
  have n3 := ia.s0p
  have n4 := ia.s1p
  have m1 := ib.f0p
  have m2 := ib.f1p
  have m3 := ib.s0p
  have m4 := ib.s1p
  have k1 := least G ia (p := p') (q := q') (by omega) (by omega) ab' be'
  have k2 := least G ib (p := p) (q := q) (by omega) (by omega) ab be
  omega
end
section
variable {P : Program} {w : World} {K : PySem.W.Frag} {mg : Str → Option Value} {base : Heap} {CW CM : Addr}
def preBetween : Hp → List V → V → Prop := fun H vs z => ∃ (x y : V) (a b c d : Int), vs = [x, y] ∧ Tt H x a b ∧ Tt H y c d ∧ Sl 300 a b ∧ Sl 300 c d ∧ ¬ (a = c ∧ b = d) ∧ z = .bl true
theorem cal_between (D : FD K mg "_law_between_right" s_between) (T : MF mg) (c_up : Cal P w K mg base 1 "_law_up" ["one", "other"] (spP (preUp K))) (c_simplest : CalX P w K mg base 5 "simplest" ["low", "high"] (spSimplest K CW CM)) (w_simplest : CalW P w K mg base (L2.CX P w) 5 "simplest" "low" "high" (spSimplest K CW CM))
    (c_low : Cal P w K mg base 1 "_law_low" ["p", "q"] (spR (preLow K))) (c_sides : Cal P w K mg base 2 "_law_sides" ["slant"] (spR (preSides K))) : Cal P w K mg base 6 "_law_between_right" ["one", "other"] (spP preBetween) := by
  refine cal_of0 D sc_between (fun _ _ _ _ _ _ us hl => match us, hl with | [_, _], _ => rfl) (fun vs H Q E h => ?_) (fun f cdv A outer s H vs Q E hr h => ?_)
  · obtain ⟨z, ⟨x, y, a, b, c, d, rfl, _⟩, _⟩ := h
    rfl
  · obtain ⟨z, ⟨x, y, a, b, c, d, rfl, tx, ty, sx, sy, ne, rfl⟩, kk⟩ := h
    refine ⟨_, (pss_cut (ps_asg (pe_ifExp (pt_val (pe_cal c_up (hr.mono (by decide)) rfl pass0 (pa_cons (pv 1) (pa_cons (pv 0) pa_nil)))) (pe_tup (pa_cons (pv 0) (pa_cons (pv 1) pa_nil))) (pe_tup (pa_cons (pv 1) (pa_cons (pv 0) pa_nil)))) (pg_tup rfl (pgs_cons (pg_name (i := 2) sc_between.nd rfl (.inl rfl)) (pgs_cons (pg_name (i := 3) sc_between.nd rfl (.inl rfl)) pgs_nil))))
      (pss_cons (ps_set (i := 4) sc_between.nd rfl (.inl rfl) (pe_cal c_simplest (E := E0) (hr.mono (by decide)) rfl passL (pa_cons (pv 2) (pa_cons (pv 3) pa_nil))))
      (pss_cons (ps_if (PW.pt (pw_or (pt_not (pt_val (pe_callB call_isi (by rfl) T.isinstance (by decide +kernel) (pa_cons (pv 4) (pa_cons (pe_bltn (v := .ty "tuple") (by rfl) T.tuple (by decide +kernel) rfl) pa_nil)))))
        (pw_or (pt_cmpR (op_neD hr.units) (pe_calW w_simplest (E := E0) (hr.mono (by decide)) rfl passL (pk_cons (pe_callTy call_list_of rfl T.list (by decide +kernel) (pa_cons (pv 3) pa_nil)) (pk_cons (pe_callTy call_list_of rfl T.list (by decide +kernel) (pa_cons (pv 2) pa_nil)) pk_nil))) (pv 4) (nomark _))
        (pw_or1 (pt_cmpR (op_neD hr.units) (pe_cal c_low (hr.mono (by decide)) rfl pass0 (pa_cons (pe_ix ix_tup (pv 4) pe_int (fun _ _ => rfl)) (pa_cons (pe_ix ix_tup (pv 4) pe_int (fun _ _ => rfl)) pa_nil))) (pv 4) (nomark _)))))) (pss_one (ps_ret pe_bl)) pss_nil)
      (pss_cons (ps_if (PW.pt (pw_or (pt_not (pt_val (pe_cal c_up (hr.mono (by decide)) rfl pass0 (pa_cons (pv 4) (pa_cons (pv 2) pa_nil))))) (pw_or1 (pt_not (pt_val (pe_cal c_up (hr.mono (by decide)) rfl pass0 (pa_cons (pv 3) (pa_cons (pv 4) pa_nil)))))))) (pss_one (ps_ret pe_bl)) pss_nil)
      (pss_cons (ps_asg (pe_cal c_sides (hr.mono (by decide)) rfl pass0 (pa_cons (pv 4) pa_nil)) (pg_tup rfl (pgs_cons (pg_name (i := 5) sc_between.nd rfl (.inl rfl)) (pgs_cons (pg_name (i := 6) sc_between.nd rfl (.inl rfl)) pgs_nil))))
      (pss_one (ps_ret (pe_and (pe_not (pe_cal c_up (hr.mono (by decide)) rfl pass0 (pa_cons (pv 5) (pa_cons (pv 2) pa_nil)))) (pe_one (pe_not (pe_cal c_up (hr.mono (by decide)) rfl pass0 (pa_cons (pv 3) (pa_cons (pv 6) pa_nil))))))))))))), ?_⟩
    have pre : ∀ {σ : L2.St} {i j : Nat} {u v : V} {p q r t : Int} {H1 : Hp}, σ[i]? = some (some u) → σ[j]? = some (some v) → Tt H1 u p q → Tt H1 v r t → Bd p → Bd q → Bd r → Bd t → Ev (tCall (spP (preUp K)) [] E0 (tCons (tVar i) (tCons (tVar j) tNil))) σ H1 (.bl (decide (t * p < q * r))) := fun hi hj h1 h2 b1 b2 b3 b4 =>
      ev_calP (ea_cons (ev_var hi) (ea_cons (ev_var hj) ea_nil)) fun H2 e2 => ⟨_, _, _, _, _, _, rfl, (h1.ex e2).tp, (h2.ex e2).tp, ⟨b2, b3, b4, b1⟩, rfl⟩
    have Bx := sx.bh (by decide)
    have By := sy.bh (by decide)
    refine s_cut (fun σ' H' => ∃ (vl vh : V) (l0 l1 h0 h1 : Int), σ' = [some x, some y, some vl, some vh, none, none, none] ∧ Ex H H' ∧ Tt H' vl l0 l1 ∧ Tt H' vh h0 h1 ∧ Sl 300 l0 l1 ∧ Sl 300 h0 h1 ∧ l1 * h0 < h1 * l0) ?_ fun σ' H' hm => ?_
    · by_cases hu : b * c < d * a
      · exact s_unp (eu_if (b := true) (et_is (et_B (pre rfl rfl ty tx (bh_bd By.1) (bh_bd By.2) (bh_bd Bx.1) (bh_bd Bx.2))) (decide_eq_true hu)) (fun _ => eu_tup (ea_cons (ev_var rfl) (ea_cons (ev_var rfl) ea_nil)) (by show 2 ≤ 100000; omega)) (fun z => by cases z)) fun H1 e1 => ⟨x, y, a, b, c, d, rfl, e1, tx.ex e1, ty.ex e1, sx, sy, hu⟩
      · have hu2 : d * a < b * c := by
          rcases Int.lt_or_eq_of_le (Int.not_lt.mp hu) with z | z
          · exact z
          · exact absurd (cross sx.p0 sx.q0 sy.p0 sy.q0 sx.g sy.g z.symm) ne
        exact s_unp (eu_if (b := false) (et_is (et_B (pre rfl rfl ty tx (bh_bd By.1) (bh_bd By.2) (bh_bd Bx.1) (bh_bd Bx.2))) (decide_eq_false hu)) (fun z => by cases z) (fun _ => eu_tup (ea_cons (ev_var rfl) (ea_cons (ev_var rfl) ea_nil)) (by show 2 ≤ 100000; omega))) fun H1 e1 => ⟨y, x, c, d, a, b, rfl, e1, ty.ex e1, tx.ex e1, sy, sx, hu2⟩
    · obtain ⟨vl, vh, l0, l1, h0, h1, rfl, eH, tl, th, sl, sh, lt⟩ := hm
      have G : Gap l0 l1 h0 h1 := ⟨sl.p0, sl.q0, sh.p0, sh.q0, lt⟩
      have Bl := sl.bh (by decide)
      have Bk := sh.bh (by decide)
      refine s_asgR (evr_simp (b := 300) (by decide) (ea_cons (ev_var rfl) (ea_cons (ev_var rfl) ea_nil)) (fun H1 e => slantT (tl.ex e) sl) (fun H1 e => slantT (th.ex e) sh) sl sh lt) fun told H2 e2 ht => ?_
      obtain ⟨p, q, f0, f1, s0, s1, tt, Sm⟩ := ht
      have I := Sm.si
      obtain ⟨b1, b2, b3, b4⟩ := bounds G I
      obtain ⟨u1, u2⟩ := sum_pos I.f0p I.f1p I.s0p I.s1p I.det
      have ep := Sm.ep
      have eq := Sm.eq
      have hp1 : 1 ≤ p := by have := I.s0p; omega
      have hq1 : 1 ≤ q := by have := I.f1p; omega
      have big : (2 : Nat) ^ 301 < 2 ^ 900 := Nat.pow_lt_pow_right (by decide) (by decide)
      have Bp : Bh p := Nat.lt_trans (show p.natAbs < 2 ^ 301 by have := sl.bp; have := sh.bp; have := I.f0p; have := I.s0p; omega) big
      have Bq : Bh q := Nat.lt_trans (show q.natAbs < 2 ^ 301 by have := sl.bq; have := sh.bq; have := I.f1p; have := I.s1p; omega) big
      have gpq : Int.gcd p q = 1 := gcd_one (a := f0) (b := f1) (by rw [ep, eq, ← I.det]; grind)
      have tl2 := tl.ex e2
      have th2 := th.ex e2
      obtain ⟨at', rfl, hat⟩ := id tt
      obtain ⟨al, rfl, hal⟩ := id tl2
      obtain ⟨ah, rfl, hah⟩ := id th2
      refine s_if (b := false) (et_is (et_or (et_not (et_B (b := true) (ev_cb (ea_cons (ev_var rfl) (ea_cons ev_c ea_nil)) (rc_isi (t := .type "tuple") (fun H1 e => .base (.tup (e _ _ hat))) (kit_ty (by decide +kernel)))))) fun _ => et_or (et_test (ev_ne2 (K := K) (p := p) (q := q) ((evr_simpW (b := 300) (by decide) (el_listT (ev_var rfl) hah) (el_listT (ev_var rfl) hal) sl sh lt).imp fun v H3 ⟨p', q', g0, g1, t0, t1, tv, S2⟩ => ?_) (evr_var rfl fun H3 e3 => (tt.ex e3).tp)))
        fun _ => et_test (ev_ne2 (K := K) (p := p) (q := q) ((evr_calR (P := fun v H => Tt H v (p / (Int.gcd p q : Int)) (q / (Int.gcd p q : Int))) (ea_cons (ev_fst (ev_var rfl) tt.tp) (ea_cons (ev_snd (ev_var rfl) tt.tp) ea_nil)) fun H3 e3 => ⟨p, q, rfl, hp1, hq1, bh_bd Bp, rfl⟩).imp fun v H3 hv => by
          rw [gpq, show ((1 : Nat) : Int) = 1 from rfl, Int.ediv_one, Int.ediv_one] at hv
          exact hv.tp) (evr_var rfl fun H3 e3 => (tt.ex e3).tp))) (by simp)) (fun z => by cases z) (fun _ H3 e3 => ?_)
      · obtain ⟨rfl, rfl⟩ := Sm.same G S2
        exact tv.tp
      · have tt3 := tt.ex e3
        have tl3 := tl2.ex e3
        have th3 := th2.ex e3
        refine s_if (b := false) (et_is (et_or (et_not (et_B (pre rfl rfl tt3 tl3 (bh_bd Bp) (bh_bd Bq) (bh_bd Bl.1) (bh_bd Bl.2)))) fun _ => et_not (et_B (pre rfl rfl th3 tt3 (bh_bd Bk.1) (bh_bd Bk.2) (bh_bd Bp) (bh_bd Bq)))) (by rw [decide_eq_true Sm.above, decide_eq_true Sm.below]; rfl)) (fun z => by cases z) (fun _ H4 e4 => ?_)
        refine s_unpEN (p := p) (q := q) (evr_calR (ea_cons (ev_var rfl) ea_nil) fun H5 e5 => ⟨_, p, q, rfl, ((tt3.ex e4).ex e5).tp, hp1, hq1, gpq, ⟨Bp, Bq⟩, rfl⟩) fun ve vn e0 e1' n0 n1 H5 e5 te tn sd => ?_
        obtain ⟨rfl, rfl, rfl, rfl⟩ := sd.uniq hp1 hq1 ⟨I.f0p, I.f1p, I.s0p, I.s1p, ep.symm, eq.symm, I.det⟩
        have tl5 := (tl3.ex e4).ex e5
        have th5 := (th3.ex e4).ex e5
        have Bf0 := bh_bd (bh_le I.f0p b1 Bl.1)
        have Bf1 := bh_bd (bh_le I.f1p b2 Bl.2)
        have Bs0 := bh_bd (bh_le I.s0p b3 Bk.1)
        have Bs1 := bh_bd (bh_le I.s1p b4 Bk.2)
        refine s_ret (ev_is (w := .bl true) (ev_andV (ev_notV (pre rfl rfl te tl5 Bf0 Bf1 (bh_bd Bl.1) (bh_bd Bl.2))) fun _ => ev_notV (pre rfl rfl th5 tn (bh_bd Bk.1) (bh_bd Bk.2) Bs0 Bs1)) ?_) fun H6 e6 => kk H6 (((((eH.trans e2).trans e3).trans e4).trans e5).trans e6)
        have w1 := I.lo
        have w2 := I.hi
        rw [decide_eq_false (by omega), decide_eq_false (by omega)]
        rfl
end
end K4

set_option Elab.async false
set_option linter.all false
set_option maxRecDepth 100000
set_option maxHeartbeats 4000000
namespace K4
open PySem PySem.Spec PyProof.Rows L2 Evl M4 GB GC LamX
abbrev s_heard : Stmt := top 34
theorem sc_heard : FnScope ["ask", "caught", "error", "kinds", "words", "word", "is_so"] ["ask"] (defScope s_heard) := ⟨rfl, rfl, rfl, by decide +kernel, rfl, by decide +kernel, by decide +kernel⟩
/-- the error classes of the module -/
structure ErrG (mg : Str → Option Value) (E TM BT NS W BW M BS BN : Addr) : Prop where
  gE : mg "MirrorError" = some (.ref E)
  gTM : mg "TooMany" = some (.ref TM)
  gBT : mg "BadText" = some (.ref BT)
  gNS : mg "NoSlant" = some (.ref NS)
  gW : mg "BadWay" = some (.ref W)
  gBW : mg "BadWord" = some (.ref BW)
  gM : mg "Misfit" = some (.ref M)
  gBS : mg "BadSpray" = some (.ref BS)
  gBN : mg "BadNumber" = some (.ref BN)
/-- what is known of one of them, BadWay or Misfit -/
structure HeardC (K : PySem.W.Frag) (E TM BT NS W BW M BS BN C : Addr) (b : Bool) : Prop where
  exm : PySem.W.exmOne K (.ref C) (.ref E) = some true
  exc : ExcC K C
  xf : XfC K C
  nof : PySem.W.findIn K (.ref C) "part" = some none
  kTM : PySem.W.kitOne K (.ref C) (.ref TM) = some false
  kBT : PySem.W.kitOne K (.ref C) (.ref BT) = some false
  kNS : PySem.W.kitOne K (.ref C) (.ref NS) = some false
  kW : PySem.W.kitOne K (.ref C) (.ref W) = some b
  kBW : PySem.W.kitOne K (.ref C) (.ref BW) = some false
  kM : PySem.W.kitOne K (.ref C) (.ref M) = some (!b)
  kBS : PySem.W.kitOne K (.ref C) (.ref BS) = some false
  kBN : PySem.W.kitOne K (.ref C) (.ref BN) = some false
def wordOf (b : Bool) : Str := if b then "way" else "misfit"
def Tw (H : Hp) (v : V) (x y : Str) : Prop := ∃ a, v = .ref a ∧ H a = some (.tup [.str x, .str y])
def TTh (K : PySem.W.Frag) (E TM BT NS W BW M BS BN : Addr) : (XK → Hp → VK → Prop) → Hp → VK → Prop := fun tl H Q =>
  tl (fun cls d H' => ∃ C b dd part, cls = .ref C ∧ d = some dd ∧ HeardC K E TM BT NS W BW M BS BN C b ∧ H' dd = some (.xd [("part", .str part)]) ∧ ∀ v H'', Ex H' H'' → Tw H'' v (wordOf b) part → Q v H'') H (fun _ _ => False)
/-! ### rules -/
theorem pe_weak {X : Cx} {e : Expr} {t : TE} (he : PE X e t) : PE X e (fun σ H Q => ∃ Q' : VK, t σ H Q' ∧ ∀ v H', Q' v H' → Q v H') :=
  ⟨fun pins s σ H Q I ⟨Q', h, l⟩ => thn (he.run pins s σ H Q' I h) fun v s1 ⟨x, H1, I1, r, q⟩ => ⟨x, H1, I1, r, l _ _ q⟩⟩
section
variable {K : PySem.W.Frag} {σ : L2.St} {H : Hp} {te tv : TE} {a C D dd : Addr} {fs : List (Str × V)} {b : Bool}
theorem ev_isX (hv : Ev tv σ H (.ref a)) (ha : H a = some (XcO (.ref C) (some dd) a)) (hd : H dd = some (.xd fs)) (T : ExcC K C) (hk : PySem.W.kitOne K (.ref C) (.ref D) = some b) : Ev (tCB (rIsX K) (tCons tv (tCons (tC (.ref D)) tNil))) σ H (.bl b) :=
  ev_cb (ea_cons hv (ea_cons ev_c ea_nil)) fun H1 e Q q => ⟨a, C, some dd, .ref D, .ref D, b, rfl, e _ _ ha, ⟨dd, fs, rfl, e _ _ hd⟩, T, fun u r => r, hk, q H1 (Ex.refl H1)⟩
theorem ev_xcf {n : Str} {v : V} (hv : Ev tv σ H (.ref a)) (ha : H a = some (XcO (.ref C) (some dd) a)) (hd : H dd = some (.xd fs)) (T : XfC K C) (hn : PySem.W.findIn K (.ref C) n = some none) (hl : fs.lookup n = some v) : Ev (tXcf K n tv) σ H v := fun H1 e Q q =>
  hv H1 e _ fun H2 e2 => ⟨a, C, dd, fs, v, rfl, e2 _ _ (e _ _ ha), T, hn, e2 _ _ (e _ _ hd), hl, q H2 e2⟩
end
/-- pairs of a word and a truth -/
inductive PW (H : Hp) : List V → List (Str × Bool) → Prop
  | nil : PW H [] []
  | cons {t : Addr} {w : Str} {b : Bool} {vs : List V} {ps : List (Str × Bool)} : H t = some (.tup [.str w, .bl b]) → PW H vs ps → PW H (.ref t :: vs) ((w, b) :: ps)
theorem PW.ex {H H' : Hp} (e : Ex H H') : ∀ {vs : List V} {ps : List (Str × Bool)}, PW H vs ps → PW H' vs ps
  | _, _, .nil => .nil
  | _, _, .cons h t => .cons (e _ _ h) (t.ex e)
theorem PW.app {H : Hp} : ∀ {vs us : List V} {ps qs : List (Str × Bool)}, PW H vs ps → PW H us qs → PW H (vs ++ us) (ps ++ qs)
  | _, _, _, _, .nil, k => k
  | _, _, _, _, .cons h t, k => .cons h (t.app k)
theorem PW.len {H : Hp} : ∀ {vs : List V} {ps : List (Str × Bool)}, PW H vs ps → vs.length = ps.length
  | _, _, .nil => rfl
  | _, _, .cons _ t => by rw [List.length_cons, List.length_cons, t.len]
theorem PW.at {H : Hp} {x : V} : ∀ {vs : List V} {ps : List (Str × Bool)} (i : Nat), PW H vs ps → vs[i]? = some x → ∃ t w b, x = .ref t ∧ H t = some (.tup [.str w, .bl b]) ∧ ps[i]? = some (w, b)
  | _, _, i, .nil, e => by cases e
  | _, _, 0, .cons h _, e => by
    obtain rfl := Option.some.inj e
    exact ⟨_, _, _, rfl, h, rfl⟩
  | _, _, i + 1, .cons _ t, e => t.at i e
def EvAW (ta : TA) (σ : L2.St) (H : Hp) (ps : List (Str × Bool)) : Prop := ∀ H1, Ex H H1 → ∀ Q : List V → Hp → Prop, (∀ vs H2, Ex H1 H2 → PW H2 vs ps → Q vs H2) → ta σ H1 Q
section
variable {K : PySem.W.Frag} {σ : L2.St} {H : Hp} {t tr : TA} {te : TE} {ps qs : List (Str × Bool)} {w : Str} {b : Bool} {Dn : Ends}
theorem eaw_nil : EvAW tNil σ H [] := fun H1 _ Q q => q [] H1 (Ex.refl H1) .nil
theorem eaw_cons (h : EvA t σ H [.str w, .bl b]) (hr : EvAW tr σ H ps) : EvAW (tCons (tTup t) tr) σ H ((w, b) :: ps) := fun H1 e Q q =>
  eu_tup h (by show 2 ≤ 100000; omega) H1 e _ fun p H2 _ e2 hp => hr H2 (e.trans e2) _ fun vs H3 e3 hv => q (.ref p :: vs) H3 (e2.trans e3) (.cons (e3 _ _ hp) hv)
theorem s_set0 {i : Nat} {v : V} (k : Dn.nx (σ.set i (some v)) H) : tAsg (tC v) (gName i) Dn σ H := k
def EvLW (te : TE) (σ : L2.St) (H : Hp) (ps : List (Str × Bool)) : Prop := ∀ H1, Ex H H1 → ∀ Q : VK, (∀ p vs H2, H1 p = none → Ex H1 H2 → H2 p = some (.lst vs) → PW H2 vs ps → Q (.ref p) H2) → te σ H1 Q
theorem elw_lst (h : EvAW t σ H ps) (hl : ps.length ≤ 100) : EvLW (tLst t) σ H ps := fun H1 e Q q =>
  h H1 e _ fun vs H2 e2 hv => ⟨by rw [hv.len, sizeLine_eq]; omega, fun p hp => q p vs _ (fresh_back e2 hp) (e2.trans (Ex.new hp)) upd_same (hv.ex (Ex.new hp))⟩
theorem elw_cat {ta tb : TE} {l : Addr} {vs : List V} (ha : Ev ta σ H (.ref l)) (hl : H l = some (.lst vs)) (hv : PW H vs ps) (hb : EvLW tb σ H qs) (n : ps.length + qs.length ≤ 100) : EvLW (tOp rCat ta tb) σ H (ps ++ qs) := fun H1 e Q q =>
  ha H1 e _ fun H2 e2 => hb H2 (e.trans e2) _ fun p us H3 hp e3 h3 hu => ⟨l, p, vs, us, rfl, rfl, ((e.trans e2).trans e3) _ _ hl, h3, by rw [hv.len, hu.len, sizeLine_eq]; omega, fun z hz => q z _ _ (fresh_back (e2.trans e3) hz) ((e2.trans e3).trans (Ex.new hz)) upd_same (((hv.ex ((e.trans e2).trans e3)).app hu).ex (Ex.new hz))⟩
theorem s_asgLW {i : Nat} (h : EvLW te σ H ps) (k : ∀ p vs H1, Ex H H1 → H1 p = some (.lst vs) → PW H1 vs ps → Dn.nx (σ.set i (some (.ref p))) H1) : tAsg te (gName i) Dn σ H := h H (Ex.refl H) _ fun p vs H1 _ e h1 hv => k p vs H1 e h1 hv
/-- [word for word, is_so in kinds if is_so] -/
theorem el_words {i j : Nat} {vsl : List Nat} {tl : TE} {a : Addr} {xs : List V} (h : Ev tl σ H (.ref a)) (hx : H a = some (.lst xs)) (hp : PW H xs ps) (hz : ps.length ≤ 100)
    (hw : ∀ x y, wipe (((wipe σ vsl).set i (some x)).set j (some y)) vsl = wipe σ vsl) (hi : ∀ x y, (((wipe σ vsl).set i (some x)).set j (some y))[i]? = some (some x)) (hj : ∀ x y, (((wipe σ vsl).set i (some x)).set j (some y))[j]? = some (some y)) :
    EvL (tLc (iList K tl) (gTup K 2 (gCons (gName i) (gCons (gName j) gNil))) (tB (tVar j)) (tVar i) vsl) σ H (given xs.length (fun n => (ps.getD n ("", false)).2) fun n => .str (ps.getD n ("", false)).1) := fun H0 e Q q => h H0 e _ fun H1 e1 => ⟨a, rfl, ⟨xs, sq_of (e1 _ _ (e _ _ hx))⟩, fun Dl hD =>
  lc_list (xs := xs) (Cw H1 (fun n => (ps.getD n ("", false)).2) (fun n => .str (ps.getD n ("", false)).1) Dl) ⟨hD, Ex.new hD, upd_same⟩ (fun n H' _ p => sq_of (p.2.1 _ _ (e1 _ _ (e _ _ hx)))) (fun n x H' hn p => by
      obtain ⟨t, w, b, rfl, ht, hb⟩ := hp.at n hn
      have hgd : ps.getD n ("", false) = (w, b) := by rw [List.getD_eq_getElem?_getD, hb]; rfl
      have ht' := p.2.1 _ _ (e1 _ _ (e _ _ ht))
      refine ⟨t, _, rfl, st_of ht', rfl, _, _, rfl, _, _, rfl, rfl, hw _ _, ?_⟩
      refine cw_turn p (by have := (List.getElem?_eq_some_iff.mp hn).1; have := hp.len; omega) ?_ (fun _ => ?_)
      · rw [hgd]
        exact et_B (ev_var (hj _ _))
      · rw [hgd]
        exact ev_var (hi _ _)) (fun H' p => q Dl H' (fresh_back e1 p.1) (e1.trans p.2.1) p.2.2)⟩
end
section
variable {X : Cx} {E TM BT NS W BW M BS BN g : Addr} {cdg : Value} {q : Str}
theorem heard_gives (T : MF X.mg) (G : ErrG X.mg E TM BT NS W BW M BS BN) : GivesS X ["ask", "caught", "error", "kinds", "words", "word", "is_so"] "_law_heard" (defScope s_heard) g cdg (defBody s_heard) "ask" q (TTh X.K E TM BT NS W BW M BS BN) := by
  intro f c' s H Q tl act hc h hr
  refine ⟨_, (pss_cons (ps_set (i := 1) sc_heard.nd rfl (.inl rfl) pe_non)
    (pss_cut (ps_try_keep (X := (cxOf C8.CX0 X.prog X.w X.K X.mg X.base ["ask", "caught", "error", "kinds", "words", "word", "is_so"] "_law_heard" (defScope s_heard) g cdg X.A X.stack s H C8.E0).nox) (c := .ref E) (i := 2)
        (tb := fun W D σ H => ∃ Ech : L2.St → XK, (∀ cls d σ' H', Ech σ' cls d H' → W cls d σ' H') ∧ σ[0]? = some (some (.ref f)) ∧ H c' = some (CodeO c' q) ∧ ∃ Q' : VK, tl (Ech σ) H Q' ∧ ∀ v H', Q' v H' → D.nx σ H')
        rfl rfl rfl sc_heard.nd rfl rfl ⟨rfl, by decide, .inl G.gE⟩ L2.takes0 (fun W pn xe tk _ => ?_) (fun a cls d pn => pss_one (ps_set (i := 1) sc_heard.nd rfl (.inl rfl) (pv 2))))
    (pss_cons (ps_if (pt_val (pe_callB call_isX (by rfl) T.isinstance (by decide +kernel) (pa_cons (pv 1) (pa_cons (pe_glob rfl G.gTM (v := .ref TM) rfl) pa_nil)))) (pss_one (ps_ret (pe_tup (pa_cons pe_str (pa_cons (pe_xcf (pv 1)) (pa_cons (pe_xcf (pv 1)) pa_nil)))))) pss_nil)
    (pss_cons (ps_if (pt_val (pe_callB call_isX (by rfl) T.isinstance (by decide +kernel) (pa_cons (pv 1) (pa_cons (pe_glob rfl G.gBT (v := .ref BT) rfl) pa_nil)))) (pss_one (ps_ret (pe_tup (pa_cons pe_str (pa_cons (pe_xcf (pv 1)) (pa_cons (pe_xcf (pv 1)) pa_nil)))))) pss_nil)
    (pss_cons (ps_if (pt_val (pe_callB call_isX (by rfl) T.isinstance (by decide +kernel) (pa_cons (pv 1) (pa_cons (pe_glob rfl G.gNS (v := .ref NS) rfl) pa_nil)))) (pss_one (ps_ret (pe_tup (pa_cons pe_str (pa_cons (pe_xcf (pv 1)) pa_nil))))) pss_nil)
    (pss_cons (ps_set (i := 3) sc_heard.nd rfl (.inl rfl) (pe_lst (pa_cons (pe_tup (pa_cons pe_str (pa_cons (pe_callB call_isX (by rfl) T.isinstance (by decide +kernel) (pa_cons (pv 1) (pa_cons (pe_glob rfl G.gW (v := .ref W) rfl) pa_nil))) pa_nil)))
      (pa_cons (pe_tup (pa_cons pe_str (pa_cons (pe_callB call_isX (by rfl) T.isinstance (by decide +kernel) (pa_cons (pv 1) (pa_cons (pe_glob rfl G.gBW (v := .ref BW) rfl) pa_nil))) pa_nil)))
      (pa_cons (pe_tup (pa_cons pe_str (pa_cons (pe_callB call_isX (by rfl) T.isinstance (by decide +kernel) (pa_cons (pv 1) (pa_cons (pe_glob rfl G.gM (v := .ref M) rfl) pa_nil))) pa_nil))) pa_nil)))))
    (pss_cons (ps_set (i := 3) sc_heard.nd rfl (.inl rfl) (pe_op op_cat (pv 3) (pe_lst (pa_cons (pe_tup (pa_cons pe_str (pa_cons (pe_callB call_isX (by rfl) T.isinstance (by decide +kernel) (pa_cons (pv 1) (pa_cons (pe_glob rfl G.gBS (v := .ref BS) rfl) pa_nil))) pa_nil)))
      (pa_cons (pe_tup (pa_cons pe_str (pa_cons (pe_callB call_isX (by rfl) T.isinstance (by decide +kernel) (pa_cons (pv 1) (pa_cons (pe_glob rfl G.gBN (v := .ref BN) rfl) pa_nil))) pa_nil))) pa_nil)))))
    (pss_cons (ps_setLc (i := 4) (own := [("word", 5), ("is_so", 6)]) (g := gTup X.K 2 (gCons (gName 5) (gCons (gName 6) gNil))) (tt := tB (tVar 6)) rfl sc_heard.nd rfl rfl rfl (pi_list (pv 3)) (blkOk_by (N := ["ask", "caught", "error", "kinds", "words", "word", "is_so"]) (sc := defScope s_heard) (by decide +kernel))
      (fun _ _ _ _ _ => pg_tup rfl (pgs_cons (pg_name (i := 5) sc_heard.nd rfl (Or.inl rfl)) (pgs_cons (pg_name (i := 6) sc_heard.nd rfl (Or.inl rfl)) pgs_nil))) (fun _ _ _ _ _ => pts_one (pt_val (pv 6))) (fun _ _ _ _ _ => pv 5))
    (pss_cons (ps_if (pt_cmpR op_eq (pe_callB call_len_seq (by rfl) T.len (by decide +kernel) (pa_cons (pv 4) pa_nil)) pe_int (nomark _)) (pss_one (ps_ret (pe_tup (pa_cons (pe_ix ix_list (pv 4) pe_int (fun _ _ => rfl)) (pa_cons (pe_xcf (pv 1)) pa_nil))))) pss_nil)
    (pss_one (ps_ret (pe_ifExp (pt_cmpR op_isN (pv 1) pe_non (nomark _)) pe_non (pe_tup (pa_cons pe_str (pa_cons pe_non pa_nil))))))))))))))), ?_⟩
  · refine ⟨fun pins s' σ H' D I h' => ?_⟩
    obtain ⟨Ech, hW, h1, h2, Q', h3, h4⟩ := h'
    exact (pss_one (ps_expr (pe_weak (act W pn xe Ech _ _ tk hW)))).run pins s' σ H' D I ⟨Q', ⟨h1, h2, h3⟩, fun v H' hq => h4 v H' hq⟩
  · refine s_set0 ?_
    dsimp only
    refine s_cut (fun σ' H' => ∃ C b a dd part, σ' = [some (.ref f), some (.ref a), none, none, none, none, none] ∧ HeardC X.K E TM BT NS W BW M BS BN C b ∧ H' a = some (XcO (.ref C) (some dd) a) ∧ H' dd = some (.xd [("part", .str part)]) ∧ ∀ v H'', Ex H' H'' → Tw H'' v (wordOf b) part → Q v H'') ?_ fun σ' H' hm => ?_
    · refine ⟨fun σ' cls d H' => σ' = [some (.ref f), some .non, none, none, none, none, none] ∧ ∃ C b dd part, cls = .ref C ∧ d = some dd ∧ HeardC X.K E TM BT NS W BW M BS BN C b ∧ H' dd = some (.xd [("part", .str part)]) ∧ ∀ v H'', Ex H' H'' → Tw H'' v (wordOf b) part → Q v H'', fun cls d σ' H' he => ?_, rfl, hc, fun _ _ => False, ?_, fun _ _ z => z.elim⟩
      · obtain ⟨hs, C, b, dd, part, rfl, rfl, HC, hdd, hq⟩ := he
        subst hs
        refine ⟨true, HC.exm, fun _ a ha => ⟨.ref a, rfl, C, b, a, dd, part, rfl, HC, upd_same, ?_, fun v H'' e => hq v H'' ((Ex.new ha).trans e)⟩, fun z => by cases z⟩
        show upd H' a _ dd = _
        rw [upd_ne (ne_of_none hdd ha)]
        exact hdd
      · have e : (fun (cls : Value) (d : Option Addr) (H' : Hp) => ((L2.start ["ask", "caught", "error", "kinds", "words", "word", "is_so"] [.ref f]).set 1 (some .non)) = [some (.ref f), some .non, none, none, none, none, none] ∧ ∃ C b dd part, cls = .ref C ∧ d = some dd ∧ HeardC X.K E TM BT NS W BW M BS BN C b ∧ H' dd = some (.xd [("part", .str part)]) ∧ ∀ v H'', Ex H' H'' → Tw H'' v (wordOf b) part → Q v H'') = (fun cls d H' => ∃ C b dd part, cls = .ref C ∧ d = some dd ∧ HeardC X.K E TM BT NS W BW M BS BN C b ∧ H' dd = some (.xd [("part", .str part)]) ∧ ∀ v H'', Ex H' H'' → Tw H'' v (wordOf b) part → Q v H'') := by
          funext cls d H'
          exact propext ⟨fun z => z.2, fun z => ⟨rfl, z⟩⟩
        show tl (fun (cls : Value) (d : Option Addr) (H' : Hp) => ((L2.start ["ask", "caught", "error", "kinds", "words", "word", "is_so"] [.ref f]).set 1 (some .non)) = [some (.ref f), some .non, none, none, none, none, none] ∧ ∃ C b dd part, cls = .ref C ∧ d = some dd ∧ HeardC X.K E TM BT NS W BW M BS BN C b ∧ H' dd = some (.xd [("part", .str part)]) ∧ ∀ v H'', Ex H' H'' → Tw H'' v (wordOf b) part → Q v H'') H (fun _ _ => False)
        rw [e]
        exact h
    · obtain ⟨C, b, a, dd, part, rfl, HC, ha, hdd, hq⟩ := hm
      have no : ∀ {D : Addr} {H1 : Hp} {σ : L2.St}, Ex H' H1 → σ[1]? = some (some (.ref a)) → ∀ {b : Bool}, PySem.W.kitOne X.K (.ref C) (.ref D) = some b → Ev (tCB (rIsX X.K) (tCons (tVar 1) (tCons (tC (.ref D)) tNil))) σ H1 (.bl b) := fun e i1 _ hk => ev_isX (ev_var i1) (e _ _ ha) (e _ _ hdd) HC.exc hk
      refine s_if (b := false) (et_B (no (Ex.refl _) rfl HC.kTM)) (fun z => by cases z) (fun _ H1 e1 => ?_)
      refine s_if (b := false) (et_B (no e1 rfl HC.kBT)) (fun z => by cases z) (fun _ H2 e2 => ?_)
      refine s_if (b := false) (et_B (no (e1.trans e2) rfl HC.kNS)) (fun z => by cases z) (fun _ H3 e3 => ?_)
      have E3 := (e1.trans e2).trans e3
      refine s_asgLW (elw_lst (eaw_cons (ea_cons ev_c (ea_cons (no E3 rfl HC.kW) ea_nil)) (eaw_cons (ea_cons ev_c (ea_cons (no E3 rfl HC.kBW) ea_nil)) (eaw_cons (ea_cons ev_c (ea_cons (no E3 rfl HC.kM) ea_nil)) eaw_nil))) (by show 3 ≤ 100; omega)) fun l1 v1 H4 e4 hl1 hp1 => ?_
      have E4 := E3.trans e4
      refine s_asgLW (elw_cat (ev_var rfl) hl1 hp1 (elw_lst (eaw_cons (ea_cons ev_c (ea_cons (no E4 rfl HC.kBS) ea_nil)) (eaw_cons (ea_cons ev_c (ea_cons (no E4 rfl HC.kBN) ea_nil)) eaw_nil)) (by show 2 ≤ 100; omega)) (by show 3 + 2 ≤ 100; omega)) fun l2 v2 H5 e5 hl2 hp2 => ?_
      have E5 := E4.trans e5
      dsimp only
      refine s_asgL (xs := [.str (wordOf b)]) ?_ fun l3 H6 _ e6 hl3 => ?_
      · have hw := el_words (K := X.K) (i := 5) (j := 6) (vsl := [5, 6]) (ev_var (σ := [some (V.ref f), some (V.ref a), none, some (V.ref l2), none, none, none]) (i := 3) rfl) hl2 hp2 (by show 5 ≤ 100; omega) (fun _ _ => rfl) (fun _ _ => rfl) (fun _ _ => rfl)
        rw [hp2.len] at hw
        have e7 : given 5 (fun n => (([("way", b), ("word", false), ("misfit", !b), ("spray", false), ("number", false)] : List (Str × Bool)).getD n ("", false)).2) (fun n => .str (([("way", b), ("word", false), ("misfit", !b), ("spray", false), ("number", false)] : List (Str × Bool)).getD n ("", false)).1) = [.str (wordOf b)] := by
          cases b <;> rfl
        rw [← e7]
        exact hw
      · have E6 := E5.trans e6
        refine s_if (b := true) (et_is (et_test (ev_op (ev_len (ev_var rfl) (sq_of hl3)) ev_c rv_eqI)) (by rfl)) (fun _ H7 e7 => ?_) (fun z => by cases z)
        refine s_retU (eu_tup (ea_cons (ev_ixL (ev_var rfl) ev_c (e7 _ _ hl3) rfl) (ea_cons (ev_xcf (ev_var rfl) ((E6.trans e7) _ _ ha) ((E6.trans e7) _ _ hdd) HC.xf HC.nof rfl) ea_nil)) (by show 2 ≤ 100000; omega)) fun p H8 _ e8 hp => hq _ H8 ((E6.trans e7).trans e8) ⟨p, rfl, hp⟩
end
end K4

set_option Elab.async false
set_option linter.all false
set_option maxRecDepth 100000
set_option maxHeartbeats 4000000
namespace K4
open PySem PySem.Spec PyProof.Rows L2 Evl M4 GB GC
open LamX (CodeO Tabs TabB TabS ExtN)
abbrev s_refused : Stmt := top 40
abbrev N_ref : List Str := ["deck", "good", "odd", "bad", "heard", "turn"]
theorem sc_refused : FnScope N_ref ["deck", "good"] (defScope s_refused) := ⟨rfl, rfl, rfl, by decide +kernel, rfl, by decide +kernel, by decide +kernel⟩
/-! ### a def whose code object is known -/
structure FDC (K : PySem.W.Frag) (mg : Str → Option Value) (x : Str) (st : Stmt) (c : Addr) : Prop where
  ex : ∃ (f : Addr) (fd : FuncData), FunD K x x (defArgs st) (defBody st) (defScope st) [] [] f fd ∧ mg x = some (.ref f) ∧ fd.code = .ref c
section
variable {P : Program} {w : World} {K : PySem.W.Frag} {mg : Str → Option Value} {base : Heap} {CX : CXT} {k : Nat} {x : Str} {st : Stmt} {N ps : List Str} {sp : Sp} {c : Addr}
theorem cal_ofC (D : FDC K mg x st c) (S : FnScope N ps (defScope st)) (hbn : ∀ (kV doc pm : Value) (an : Option Addr) (cdv ct : Value) (us : List Value), us.length = ps.length → bindArgs (PySem.W.fnOf x x (defArgs st) (defBody st) (defScope st) .none kV doc pm an cdv ct) ⟨us, []⟩ = pure (ps.zip us))
    (len : ∀ vs H Q E, sp vs H Q E → vs.length = ps.length)
    (hbody : ∀ (f : Addr) (A : Around) (outer : List Env) (s : Shared) (H : Hp) (vs : List V) (Q : VK) (E : XK), Room k (A.deeper (envOfC x (defScope st) s.heap.objs.size f (.ref c))) → sp vs H Q E →
      ∃ t, PSs (cxOf CX P w K mg base N x (defScope st) f (.ref c) A outer s H E) (defBody st) t ∧ t { nx := fun _ H' => Q .non H', rt := Q } (L2.start N vs) H) : CalC P w K mg base CX (k + 1) x ps sp := by
  obtain ⟨f, fd, F, hm, hcode⟩ := D.ex
  obtain ⟨oc, od, dV, kV, doc, pm, an, cdv, ct, osl, rfl, lk, hcd, hdv, _⟩ := id F.ex
  have e : dV = .none := by
    rcases hdv with ⟨_, e⟩ | ⟨e, _⟩
    · exact e
    · exact absurd rfl e
  subst e
  obtain rfl : cdv = .ref c := hcode
  refine ⟨f, _, ⟨len, fun A outer s H args us vs Q E hr e0 hb r hsp => ?_⟩, hm, F.kp, .all (hbn kV doc pm an (.ref c) ct), ⟨oc, od, osl, lk⟩⟩
  have kx : K.In s.heap := e0.mod.kin.keeps fun b o e => (e0.bs b o e).1
  have lim : s.heap.NoLimit := e0.mod.nolimit.keeps fun b o e => (e0.bs b o e).1
  refine codeAny_call_function hr.depth (kx _ _ lk) rfl S.co S.gen rfl (PySem.W.codeRec_of kx hcd) (hb _ _ _ _ (wpAny_newFunctionEnv_cells S.kind (fun y hy => ?_) fun env he s1 x => ?_))
  · rcases S.par y.1 (List.of_mem_zip (a := y.1) (b := y.2) hy).1 with q | q
    · exact .inl q
    · exact .inr ⟨q, PySem.W.cellsFrom_some _ _ _ (.inl q)⟩
  · subst he
    refine ⟨lim.keeps x.toInCall.keep, codeAny_func ?_⟩
    obtain ⟨t, ht, hq⟩ := hbody f A outer s H vs Q E (hr.deeper _) hsp
    refine wpAny_mono (ht.run [] s1 _ H _ (inv_start S hr.hd e0 (len _ _ _ _ hsp) r x) hq) (fun fl s' hs => ?_) fun e s' hs => hs
    cases fl with
    | ret u =>
      obtain ⟨v, σ', H', J, rv, q⟩ := hs
      exact ⟨v, H', J.os, J.bare, J.base, J.hok, rv, q⟩
    | next =>
      obtain ⟨σ', H', J, q⟩ := hs
      exact ⟨.non, H', J.os, J.bare, J.base, J.hok, rfl, q⟩
    | brk => exact hs.elim fun _ z => z.elim fun _ z => z.2.elim
    | cont => exact hs.elim fun _ z => z.elim fun _ z => z.2.elim
end
/-! ### all but decks and tables stay -/
def NoDt (o : HO) : Prop := NoDk o ∧ ∀ ps, o ≠ .tbl ps
def Dy (H H' : Hp) : Prop := ∀ b o, NoDt o → H b = some o → H' b = some o
theorem Dy.refl (H : Hp) : Dy H H := fun _ _ _ e => e
theorem Dy.trans {H H1 H2 : Hp} (a : Dy H H1) (b : Dy H1 H2) : Dy H H2 := fun x o n e => b x o n (a x o n e)
theorem Dx.dy {H H' : Hp} (e : Dx H H') : Dy H H' := fun x o n h => e x o n.1 h
theorem Ex.dy {H H' : Hp} (e : Ex H H') : Dy H H' := (Ex.dx e).dy
theorem ExtN.dy {H H' : Hp} (e : ExtN H H') : Dy H H' := fun x o n h => e x o h n.2
theorem Tt.dy {H H' : Hp} {v : V} {p q : Int} (e : Dy H H') (h : Tt H v p q) : Tt H' v p q := h.imp fun _ z => ⟨z.1, e _ _ ⟨trivial, fun _ z => by cases z⟩ z.2⟩
theorem Dk.extN {S : DS} {n : Nat} {H H' : Hp} (e : ExtN H H') (h : Dk S n H) : Dk S n H' := by
  obtain ⟨t, r, h1, h2, h3⟩ := h
  exact ⟨t, r, e _ _ h1 (fun _ z => by cases z), e _ _ h2 (fun _ z => by cases z), h3⟩
theorem Tabs.dx {T : List (Addr × Str)} {H H' : Hp} (e : Dx H H') (h : Tabs T H) : Tabs T H' := fun p hp => by
  obtain ⟨ps, h1, h2, h3⟩ := h p hp
  exact ⟨ps, e _ _ trivial h1, h2, fun pos cv hc => (h3 pos cv hc).imp fun c z => ⟨z.1, e _ _ trivial z.2⟩⟩
/-! ### what the picked ones are -/
/-- no list is told of -/
def StL (R : V → Hp → Prop) : Prop := ∀ v H H', (∀ b o, (∀ ys, o ≠ .lst ys) → (∀ ps, o ≠ .tbl ps) → H b = some o → H' b = some o) → R v H → R v H'
def BadV (v : V) (H : Hp) : Prop := v = .non ∨ v = .int 5 ∨ (∃ x, v = .str x) ∨ (∃ a kvs, v = .ref a ∧ H a = some (.dK kvs)) ∨ ∃ a xs, v = .ref a ∧ H a = some (.tup xs) ∧ (∀ x ∈ xs, IB x) ∧ xs.length ≤ 100 ∧ slantB xs = false
theorem BadV.st : StL BadV := fun v H H' e h => by
  rcases h with h | h | h | ⟨a, kvs, h1, h2⟩ | ⟨a, xs, h1, h2, h3⟩
  · exact .inl h
  · exact .inr (.inl h)
  · exact .inr (.inr (.inl h))
  · exact .inr (.inr (.inr (.inl ⟨a, kvs, h1, e _ _ (fun _ z => by cases z) (fun _ z => by cases z) h2⟩)))
  · exact .inr (.inr (.inr (.inr ⟨a, xs, h1, e _ _ (fun _ z => by cases z) (fun _ z => by cases z) h2, h3⟩)))
theorem StL.dx {R : V → Hp → Prop} (h : StL R) : StR R := fun v H H' x hv => h v H H' (fun b o n1 n2 e => x b o (by
  cases o with
  | lst ys => exact absurd rfl (n1 ys)
  | _ => trivial) e) hv
theorem BadV.no {v : V} {H : Hp} (h : BadV v H) : NoSlant H v := by
  rcases h with rfl | rfl | ⟨x, rfl⟩ | ⟨a, kvs, rfl, h2⟩ | ⟨a, xs, rfl, h2, h3, h4, h5⟩
  · exact .inl .non
  · exact .inl (.int 5)
  · exact .inl (.str x)
  · exact .inl (.dict h2)
  · exact .inr ⟨xs, ⟨a, rfl, .inr h2, h3, h4⟩, h5⟩
/-! ### a list made of draws -/
section
variable {K : PySem.W.Frag} {S : DS} {σ : L2.St} {H : Hp} {t0 te : TE} {n k0 k m j : Nat} {vs : List Nat} {R : V → Hp → Prop} {C : Nat → Prop}
theorem eg_lcR (h0 : EvG S t0 σ H n k0 fun v _ => ∃ c : Nat, v = .int (c : Int) ∧ C c) (hC : ∀ c, C c → c ≤ m) (hm : m ≤ 100) (hw : ∀ x, wipe ((wipe σ vs).set j (some x)) vs = wipe σ vs)
    (he : ∀ x n', n' + k ≤ n + k0 + m * k → EvG S te ((wipe σ vs).set j (some x)) H n' k R) (stl : StL R) (nd : ∀ c acc H, c ≤ m → Al R c acc H → NoDk (.lst acc)) :
    EvG S (tLc (iRng1 (tCons t0 tNil)) (gName j) tYes te vs) σ H n (k0 + m * k) fun v H => ∃ l xs c, v = .ref l ∧ H l = some (.lst xs) ∧ C c ∧ Al R c xs H := fun H1 x1 d1 Q q =>
  h0 H1 x1 d1 _ fun v H2 x2 d2 ⟨c, ev, hc⟩ => by
    subst ev
    have cm := hC c hc
    refine ⟨(c : Int), rfl, by omega, by omega, fun D hD => ?_⟩
    refine lc_range (lo := 0) (n := c) (fun i H' => ∃ acc, H' D = some (.lst acc) ∧ Dx H2 H' ∧ Dk S (n + k0 + i * k) H' ∧ Al R i acc H') ⟨[], upd_same, Ex.dx (Ex.new hD), by rw [Nat.zero_mul, Nat.add_zero]; exact d2.ex (Ex.new hD), rfl, fun _ h => by cases h⟩ (fun i H' hi p => ?_) (fun H' p => ?_)
    · obtain ⟨acc, hacc, xH, dH, al⟩ := p
      have e0 : (0 : Int) + (i : Int) = (i : Int) := Int.zero_add _
      show wipe ((wipe σ vs).set j (some (.int ((0 : Int) + (i : Int))))) vs = wipe σ vs ∧ te ((wipe σ vs).set j (some (.int ((0 : Int) + (i : Int))))) H' _
      refine ⟨hw _, ?_⟩
      have le1 : (i + 1) * k ≤ m * k := Nat.mul_le_mul_right k (by omega)
      have le2 : (i + 1) * k = i * k + k := Nat.succ_mul i k
      refine he _ (n + k0 + i * k) (by omega) H' ((x1.trans x2).trans xH) dH _ fun y H4 x4 d4 r4 => ⟨acc, x4 _ _ (nd i acc H' (by omega) al) hacc, by rw [al.1, sizeLine_eq]; omega, acc ++ [y], upd_same, ?_, ?_, ?_, ?_⟩
      · intro b o hn hb
        have hb4 := (xH.trans x4) b o hn hb
        rw [upd_ne (fun z => by rw [z, hD] at hb; cases hb)]
        exact hb4
      · have d5 : Dk S (n + k0 + (i + 1) * k) H4 := d4.le (by omega)
        obtain ⟨t, r, g1, g2, g3⟩ := d5
        have na : S.a ≠ D := fun z => by
          obtain ⟨t2, r2, k1, _⟩ := dH
          rw [z, hacc] at k1
          have e := HO.lst.inj (Option.some.inj k1)
          have nn := nd i acc H' (by omega) al
          rw [e] at nn
          exact nn
        have nc : S.c ≠ D := fun z => by
          obtain ⟨t2, r2, _, k2, _⟩ := d2
          rw [z, hD] at k2
          cases k2
        exact ⟨t, r, by rw [upd_ne na]; exact g1, by rw [upd_ne nc]; exact g2, g3⟩
      · rw [List.length_append, al.1]
        rfl
      · intro v hv
        have up : ∀ b o, (∀ ys, o ≠ .lst ys) → (∀ ps, o ≠ .tbl ps) → H4 b = some o → upd H4 D (.lst (acc ++ [y])) b = some o := fun b o n1 _ e => by
          rw [upd_ne (fun z => by
            rw [z, x4 _ _ (nd i acc H' (by omega) al) hacc] at e
            exact n1 _ (Option.some.inj e).symm)]
          exact e
        rcases List.mem_append.mp hv with hv | hv
        · exact stl _ _ _ up (stl.dx _ _ _ x4 (al.2 v hv))
        · obtain rfl := List.mem_singleton.mp hv
          exact stl _ _ _ up r4
    · obtain ⟨acc, hacc, xH, dH, al⟩ := p
      have le1 : c * k ≤ m * k := Nat.mul_le_mul_right k cm
      exact q _ H' (x2.trans xH) (dH.le (by omega)) ⟨D, acc, c, rfl, hacc, hc, al⟩
end
end K4

set_option Elab.async false
set_option linter.all false
set_option maxRecDepth 100000
set_option maxHeartbeats 4000000
namespace K4
open PySem PySem.Spec PyProof.Rows L2 Evl M4 GB GC
open LamX (CodeO Tabs TabB TabS ExtN)
theorem lamG_for {X : Cx} {scope : Scope} {N : List Str} {sc : Scope} (hN : X.N = N) (hs : X.env.scope = sc) (h : lamGB N sc scope = true) : LamG X scope := by
  subst hN hs
  exact lamG_by h
abbrev qL : Str := (envOfC "_law_refused_right" (defScope s_refused) 0 0 .none).qual ++ "<lambda>"
/-! ### a text of words about errors -/
inductive PP (H : Hp) : List V → List (Str × Str) → Prop
  | nil : PP H [] []
  | cons {v : V} {w p : Str} {vs : List V} {ps : List (Str × Str)} : Tw H v w p → PP H vs ps → PP H (v :: vs) ((w, p) :: ps)
theorem Tw.extN {H H' : Hp} {v : V} {x y : Str} (e : ExtN H H') (h : Tw H v x y) : Tw H' v x y := h.imp fun _ z => ⟨z.1, e _ _ z.2 fun _ k => by cases k⟩
theorem PP.extN {H H' : Hp} (e : ExtN H H') : ∀ {vs : List V} {ps : List (Str × Str)}, PP H vs ps → PP H' vs ps
  | _, _, .nil => .nil
  | _, _, .cons h t => .cons (h.extN e) (t.extN e)
theorem PP.app {H : Hp} : ∀ {vs us : List V} {ps qs : List (Str × Str)}, PP H vs ps → PP H us qs → PP H (vs ++ us) (ps ++ qs)
  | _, _, _, _, .nil, k => k
  | _, _, _, _, .cons h t, k => .cons h (t.app k)
theorem PP.len {H : Hp} : ∀ {vs : List V} {ps : List (Str × Str)}, PP H vs ps → vs.length = ps.length
  | _, _, .nil => rfl
  | _, _, .cons _ t => by rw [List.length_cons, List.length_cons, t.len]
def dPP (ps : List (Str × Str)) : List PyData := ps.map fun p => .tuple [.str p.1, .str p.2]
theorem PP.dp {K : PySem.W.Frag} {H : Hp} : ∀ {vs : List V} {ps : List (Str × Str)}, PP H vs ps → DpAll K H vs (dPP ps)
  | _, _, .nil => .nil
  | _, _, .cons ⟨a, ea, h⟩ t => by
    subst ea
    exact .cons (.tup (st_of h) (.cons (.str _) (.cons (.str _) .nil))) t.dp
def EvN (T : List (Addr × Str)) (te : TE) (σ : L2.St) (H : Hp) (R : V → Hp → Prop) : Prop := ∀ H1, ExtN H H1 → Tabs T H1 → ∀ Q : VK, (∀ v H2, ExtN H1 H2 → Tabs T H2 → R v H2 → Q v H2) → te σ H1 Q
def EvNA (T : List (Addr × Str)) (ta : TA) (σ : L2.St) (H : Hp) (ps : List (Str × Str)) : Prop := ∀ H1, ExtN H H1 → Tabs T H1 → ∀ Q : List V → Hp → Prop, (∀ vs H2, ExtN H1 H2 → Tabs T H2 → PP H2 vs ps → Q vs H2) → ta σ H1 Q
def LP (ps : List (Str × Str)) (v : V) (H : Hp) : Prop := ∃ l vs, v = .ref l ∧ H l = some (.lst vs) ∧ PP H vs ps
theorem ext_new {H : Hp} {p : Addr} {o : HO} (h : H p = none) : ExtN H (upd H p o) := ExtN.of (Ex.new h)
section
variable {K : PySem.W.Frag} {T : List (Addr × Str)} {σ : L2.St} {H : Hp} {te ta tb : TE} {t : TA} {ps qs : List (Str × Str)} {w p : Str} {D : Ends} {i : Nat} {R : V → Hp → Prop}
theorem ena_nil : EvNA T tNil σ H [] := fun H1 _ ht Q q => q [] H1 (ExtN.refl H1) ht .nil
theorem ena_cons (h : EvN T te σ H fun v H => Tw H v w p) (hr : EvNA T t σ H ps) : EvNA T (tCons te t) σ H ((w, p) :: ps) := fun H1 e ht Q q =>
  h H1 e ht _ fun v H2 e2 t2 hv => hr H2 (e.trans e2) t2 _ fun vs H3 e3 t3 hvs => q (v :: vs) H3 (e2.trans e3) t3 (.cons (hv.extN e3) hvs)
theorem en_lst (h : EvNA T t σ H ps) (hl : ps.length ≤ 100) : EvN T (tLst t) σ H (LP ps) := fun H1 e ht Q q =>
  h H1 e ht _ fun vs H2 e2 t2 hv => ⟨by rw [hv.len, sizeLine_eq]; omega, fun p hp => q (.ref p) _ (e2.trans (ext_new hp)) (K4.Tabs.dx (Ex.dx (Ex.new hp)) t2) ⟨p, vs, rfl, upd_same, hv.extN (ext_new hp)⟩⟩
theorem en_tw : EvN T (tTup (tCons (tC (.str w)) (tCons (tC (.str p)) tNil))) σ H fun v H => Tw H v w p := fun H1 e ht Q q =>
  ⟨by show 2 ≤ sizeLine; rw [sizeLine_eq]; omega, fun l hl => q (.ref l) _ (ext_new hl) (K4.Tabs.dx (Ex.dx (Ex.new hl)) ht) ⟨l, rfl, upd_same⟩⟩
theorem en_cat {v : V} (hi : σ[i]? = some (some v)) (hv : LP ps v H) (hb : EvN T tb σ H (LP qs)) (n : ps.length + qs.length ≤ 100) : EvN T (tOp rCat (tVar i) tb) σ H (LP (ps ++ qs)) := fun H1 e ht Q q => by
  obtain ⟨l, vs, rfl, hl, hp⟩ := hv
  exact ⟨.ref l, hi, hb H1 e ht _ fun u H2 e2 t2 hu => by
    obtain ⟨b, us, rfl, hbl, hq⟩ := hu
    have hl2 := (e.trans e2) _ _ hl fun _ z => by cases z
    exact ⟨l, b, vs, us, rfl, rfl, hl2, hbl, by rw [hp.len, hq.len, sizeLine_eq]; omega, fun z hz => q (.ref z) _ (e2.trans (ext_new hz)) (K4.Tabs.dx (Ex.dx (Ex.new hz)) t2) ⟨z, _, rfl, upd_same, ((hp.extN (e.trans e2)).app hq).extN (ext_new hz)⟩⟩⟩
theorem en_eq {v : V} (hi : σ[i]? = some (some v)) (hv : LP ps v H) (hb : EvN T tb σ H (LP ps)) (hs : SeqAt.shaped (.list (dPP ps)) = true) (he : PyData.eqv (.list (dPP ps)) (.list (dPP ps)) = true) : EvN T (tOp (rEqD K) (tVar i) tb) σ H fun v _ => v = .bl true := fun H1 e ht Q q => by
  obtain ⟨l, vs, rfl, hl, hp⟩ := hv
  exact ⟨.ref l, hi, hb H1 e ht _ fun u H2 e2 t2 hu => by
    obtain ⟨b, us, rfl, hbl, hq⟩ := hu
    have hl2 := (e.trans e2) _ _ hl fun _ z => by cases z
    exact ⟨_, _, .lst (sq_of hl2) (hp.extN (e.trans e2)).dp, .lst (sq_of hbl) hq.dp, hs, hs, by rw [he]; exact q _ H2 e2 t2 rfl⟩⟩
theorem n_asg (h : EvN T te σ H R) (ht : Tabs T H) (q : ∀ v H1, ExtN H H1 → Tabs T H1 → R v H1 → D.nx (σ.set i (some v)) H1) : tAsg te (gName i) D σ H := h H (ExtN.refl H) ht _ q
theorem n_ret (h : EvN T te σ H R) (ht : Tabs T H) (q : ∀ v H1, ExtN H H1 → Tabs T H1 → R v H1 → D.rt v H1) : tRet te D σ H := h H (ExtN.refl H) ht _ q
/-- what _law_heard tells of a lambda that raises -/
theorem en_heard {E TM BT NS W BW M BS BN C : Addr} {b : Bool} {part : Str} {tx : XK → TE} (HC : HeardC K E TM BT NS W BW M BS BN C b)
    (h : ∀ H1, ExtN H H1 → ∀ X : XK, Rz C "part" (.str part) H1 X → tx X σ H1 fun _ _ => False) : EvN T (tLamG T (TTh K E TM BT NS W BW M BS BN) tx) σ H fun v H => Tw H v (wordOf b) part := fun H1 e ht Q q =>
  ⟨ht, fun H2 e2 _ t2 => h H2 (e.trans e2) _ fun d H' ex n hd => ⟨C, b, d, part, rfl, rfl, HC, hd, fun v H'' ex2 tw => q v H'' (e2.trans (ExtN.of (ex.trans ex2))) (K4.Tabs.dx (Ex.dx (ex.trans ex2)) t2) tw⟩⟩
end
section
variable {S : DS} {σ : L2.St} {H : Hp} {n : Nat} {t : TA} {xs : List V}
theorem bad_tup (h : ∀ H1, Dx H H1 → EvA t σ H1 xs) (hib : ∀ x ∈ xs, IB x) (hl : xs.length ≤ 100) (hb : slantB xs = false) : EvG S (tTup t) σ H n 0 BadV := eg_r fun H1 x1 H2 e2 Q q =>
  eu_tup (h H1 x1) (by omega) H2 e2 Q fun p H3 _ e3 hp => q (.ref p) H3 e3 (.inr (.inr (.inr (.inr ⟨p, xs, rfl, hp, hib, hl, hb⟩))))
theorem bad_dict : EvG S tDNewK σ H n 0 BadV := fun H1 x d Q q => fun p hp => q (.ref p) _ (Ex.dx (Ex.new hp)) (d.ex (Ex.new hp)) (.inr (.inr (.inr (.inl ⟨p, [], rfl, upd_same⟩))))
theorem bad_v {v : V} (h : ∀ H1, BadV v H1) : EvG S (tC v) σ H n 0 BadV := eg_v (fun _ _ => ev_c) fun H1 _ => h H1
theorem ib1 {x : V} (h : IB x) : ∀ y ∈ [x], IB y := fun y hy => by
  rw [List.mem_singleton.mp hy]
  exact h
theorem ibb {x y : V} (h : IB x) (h' : IB y) : ∀ z ∈ [x, y], IB z := fun z hz => by
  rcases List.mem_cons.mp hz with rfl | hz
  · exact h
  · rw [List.mem_singleton.mp hz]
    exact h'
end
theorem g_unl {K : PySem.W.Frag} {S : DS} {σ : L2.St} {H : Hp} {te : TE} {n k i j : Nat} {R : V → Hp → Prop} {D : Ends} (h : EvG S te σ H n k fun v H => ∃ l xs c, v = .ref l ∧ H l = some (.lst xs) ∧ c = 2 ∧ Al R c xs H) (d : Dk S n H)
    (q : ∀ u z H1, Dx H H1 → Dk S (n + k) H1 → R u H1 → R z H1 → D.nx ((σ.set i (some u)).set j (some z)) H1) : tAsg te (gUnl K 2 (gCons (gName i) (gCons (gName j) gNil))) D σ H := h H (Dx.refl H) d _ fun v H1 x1 d1 ⟨l, xs, c, ev, hl, hc, al⟩ => by
  subst ev hc
  match xs, al with
  | [u, z], al => exact ⟨l, [u, z], rfl, sq_of hl, rfl, u, _, rfl, z, _, rfl, rfl, q u z H1 x1 d1 (al.2 u (List.mem_cons_self ..)) (al.2 z (List.mem_cons_of_mem _ (List.mem_cons_self ..)))⟩
section
variable {P : Program} {w : World} {K : PySem.W.Frag} {mg : Str → Option Value} {base : Heap} {CW CM c Pt E' TM BT NS BW BS BN : Addr}
def spRef (T : List (Addr × Str)) : Sp := fun vs H Q _ => ∃ S n x p q, vs = [.ref S.a, x] ∧ Tt H x p q ∧ Sl 300 p q ∧ Tabs T H ∧ Dk S n H ∧ n + 2 ≤ Fuel ∧ ∀ H', Dy H H' → Dk S (n + 2) H' → Tabs T H' → Q (.bl true) H'
theorem cal_refused (D : FDC K mg "_law_refused_right" s_refused c) (DH : FD K mg "_law_heard" s_heard) (T : MF mg) (G : ErrG mg E' TM BT NS CW BW CM BS BN) (TB : TabB base mg c Pt) (c_pick : Cal P w K mg base 2 "_law_pick" ["deck", "some"] (spG prePick))
    (c_is_steeper : CalX P w K mg base 5 "is_steeper" ["one", "other"] (spSteeper K CW)) (c_simplest : CalX P w K mg base 5 "simplest" ["low", "high"] (spSimplest K CW CM)) (HW : HeardC K E' TM BT NS CW BW CM BS BN CW true) (HM : HeardC K E' TM BT NS CW BW CM BS BN CM false) :
    Cal P w K mg base 8 "_law_refused_right" ["deck", "good"] (spRef [(Pt, qL)]) := by
  obtain ⟨g, fdg, FH, hmH⟩ := DH.ex
  obtain ⟨ocg, odg, dVg, kVg, docg, pmg, ang, cdvg, ctg, oslg, rfl, lkg, hcdg, hdvg, _⟩ := id FH.ex
  have edv : dVg = .none := by
    rcases hdvg with ⟨_, e⟩ | ⟨e, _⟩
    · exact e
    · exact absurd rfl e
  subst edv
  have hbH : L2.Binds K (PySem.W.fnOf "_law_heard" "_law_heard" (defArgs s_heard) (defBody s_heard) (defScope s_heard) .none kVg docg pmg ang cdvg ctg) ["ask"] [] := .all fun us hl => match us, hl with | [_], _ => rfl
  refine cal_ofC D sc_refused (fun _ _ _ _ _ _ us hl => match us, hl with | [_, _], _ => rfl) (fun vs H Q E h => ?_) (fun f A outer s H vs Q E hr h => ?_)
  · obtain ⟨S, n, x, p, q, rfl, _⟩ := h
    rfl
  · obtain ⟨S, n, x, p, q, rfl, tx, sx, hT, hd, hn, k⟩ := h
    refine ⟨_, PSs.nox (pss_cons (ps_asg (pe_lc (own := [("turn", 5)]) (g := gName 5) (tt := tYes) rfl sc_refused.nd (pi_range1 rfl T.range (pa_cons pe_int pa_nil)) (blkOk_by (N := N_ref) (sc := defScope s_refused) (by decide +kernel)) (fun _ _ _ _ _ => pg_name (i := 5) sc_refused.nd rfl (Or.inl rfl)) (fun _ _ _ _ _ => pts_nil)
        (fun _ _ _ _ _ => pe_cal c_pick (hr.mono (by decide)) rfl pass0 (pa_cons (pv 0) (pa_cons (pe_lst (pa_cons pe_non (pa_cons pe_int (pa_cons (pe_tup (pa_cons pe_int (pa_cons pe_int pa_nil))) (pa_cons (pe_tup (pa_cons pe_int (pa_cons pe_int pa_nil))) (pa_cons (pe_tup (pa_cons (pe_un un_neg pe_int) (pa_cons pe_int pa_nil))) (pa_cons (pe_tup (pa_cons pe_int (pa_cons pe_int pa_nil)))
          (pa_cons (pe_tup (pa_cons pe_int (pa_cons pe_bl pa_nil))) (pa_cons (pe_tup (pa_cons pe_int pa_nil)) (pa_cons pe_str (pa_cons pe_dnewK (pa_cons (pe_tup (pa_cons pe_int (pa_cons pe_int pa_nil))) pa_nil)))))))))))) pa_nil))))
        (pg_unl rfl (pgs_cons (pg_name (i := 2) sc_refused.nd rfl (.inr rfl)) (pgs_cons (pg_name (i := 3) sc_refused.nd rfl (.inr rfl)) pgs_nil))))
      (pss_cons (ps_set (i := 4) sc_refused.nd rfl (.inl rfl) (pe_lst (pa_cons (pe_lamG (n := 0) (k := 5) (T := [(Pt, qL)]) rfl hmH FH.kp lkg hcdg hbH sc_heard rfl (.inl rfl) (heard_gives T G) TB rfl (List.mem_singleton.mpr rfl) (fun z hz _ => by rw [List.mem_singleton.mp hz]; rfl) hr (lamG_for (N := N_ref) (sc := defScope s_refused) rfl rfl (by decide +kernel)) (hev0 rfl) (bind0 fun _ _ _ _ => rfl) (fun A outer s H E f c' hr => pe_cal c_is_steeper (E := E) hr rfl (tk_E (takes_of rfl rfl rfl rfl)) (pa_cons (pv 2) (pa_cons (pv 3) pa_nil))))
        (pa_cons (pe_lamG (n := 1) (k := 5) (T := [(Pt, qL)]) rfl hmH FH.kp lkg hcdg hbH sc_heard rfl (.inl rfl) (heard_gives T G) TB rfl (List.mem_singleton.mpr rfl) (fun z hz _ => by rw [List.mem_singleton.mp hz]; rfl) hr (lamG_for (N := N_ref) (sc := defScope s_refused) rfl rfl (by decide +kernel)) (hev1 rfl) (bind1 (x := "a1") (by decide +kernel) fun _ _ _ _ _ => ⟨_, rfl, fun _ => rfl⟩) (fun A outer s H E f c' hr => pe_cal c_is_steeper (E := E) hr rfl (tk_E (takes_of rfl rfl rfl rfl)) (pa_cons (pv 1) (pa_cons (pv 3) pa_nil))))
        (pa_cons (pe_lamG (n := 1) (k := 5) (T := [(Pt, qL)]) rfl hmH FH.kp lkg hcdg hbH sc_heard rfl (.inl rfl) (heard_gives T G) TB rfl (List.mem_singleton.mpr rfl) (fun z hz _ => by rw [List.mem_singleton.mp hz]; rfl) hr (lamG_for (N := N_ref) (sc := defScope s_refused) rfl rfl (by decide +kernel)) (hev1 rfl) (bind1 (x := "a2") (by decide +kernel) fun _ _ _ _ _ => ⟨_, rfl, fun _ => rfl⟩) (fun A outer s H E f c' hr => pe_cal c_simplest (E := E) hr rfl (tk_E (takes_of rfl rfl rfl rfl)) (pa_cons (pv 2) (pa_cons (pv 3) pa_nil))))
        pa_nil)))))
      (pss_cons (ps_set (i := 4) sc_refused.nd rfl (.inl rfl) (pe_op op_cat (pv 4) (pe_lst (pa_cons (pe_lamG (n := 0) (k := 5) (T := [(Pt, qL)]) rfl hmH FH.kp lkg hcdg hbH sc_heard rfl (.inl rfl) (heard_gives T G) TB rfl (List.mem_singleton.mpr rfl) (fun z hz _ => by rw [List.mem_singleton.mp hz]; rfl) hr (lamG_for (N := N_ref) (sc := defScope s_refused) rfl rfl (by decide +kernel)) (hev0 rfl) (bind0 fun _ _ _ _ => rfl) (fun A outer s H E f c' hr => pe_cal c_simplest (E := E) hr rfl (tk_E (takes_of rfl rfl rfl rfl)) (pa_cons (pv 1) (pa_cons (pv 3) pa_nil))))
        (pa_cons (pe_lamG (n := 1) (k := 5) (T := [(Pt, qL)]) rfl hmH FH.kp lkg hcdg hbH sc_heard rfl (.inl rfl) (heard_gives T G) TB rfl (List.mem_singleton.mpr rfl) (fun z hz _ => by rw [List.mem_singleton.mp hz]; rfl) hr (lamG_for (N := N_ref) (sc := defScope s_refused) rfl rfl (by decide +kernel)) (hev1 rfl) (bind1 (x := "a1") (by decide +kernel) fun _ _ _ _ _ => ⟨_, rfl, fun _ => rfl⟩) (fun A outer s H E f c' hr => pe_cal c_simplest (E := E) hr rfl (tk_E (takes_of rfl rfl rfl rfl)) (pa_cons (pv 1) (pa_cons (pv 1) pa_nil))))
        (pa_cons (pe_lamG (n := 1) (k := 5) (T := [(Pt, qL)]) rfl hmH FH.kp lkg hcdg hbH sc_heard rfl (.inl rfl) (heard_gives T G) TB rfl (List.mem_singleton.mpr rfl) (fun z hz _ => by rw [List.mem_singleton.mp hz]; rfl) hr (lamG_for (N := N_ref) (sc := defScope s_refused) rfl rfl (by decide +kernel)) (hev1 rfl) (bind1 (x := "a2") (by decide +kernel) fun _ _ _ _ _ => ⟨_, rfl, fun _ => rfl⟩) (fun A outer s H E f c' hr => pe_cal c_simplest (E := E) hr rfl (tk_E (takes_of rfl rfl rfl rfl)) (pa_cons (pe_tup (pa_cons pe_int (pa_cons pe_int pa_nil))) (pa_cons (pv 1) pa_nil))))
        pa_nil))))))
      (pss_one (ps_ret (pe_cmpR (op_eqD hr.units) (pv 4) (pe_lst (pa_cons (pe_tup (pa_cons pe_str (pa_cons pe_str pa_nil)))
        (pa_cons (pe_tup (pa_cons pe_str (pa_cons pe_str pa_nil)))
        (pa_cons (pe_tup (pa_cons pe_str (pa_cons pe_str pa_nil)))
        (pa_cons (pe_tup (pa_cons pe_str (pa_cons pe_str pa_nil)))
        (pa_cons (pe_tup (pa_cons pe_str (pa_cons pe_str pa_nil)))
        (pa_cons (pe_tup (pa_cons pe_str (pa_cons pe_str pa_nil)))
        pa_nil))))))) (nomark _))))))), ?_⟩
    have z0 : ∀ {m k : Nat} {R : V → Hp → Prop} {c : Nat} {te : TE} {t : TA} {σ : L2.St} {H : Hp}, StR R → EvG S te σ H m 0 R → EvGA S t σ H m 0 (Al R c) → EvGA S (tCons te t) σ H m 0 (Al R (c + 1)) := fun st h hr => egaU (k1 := 0) (k2 := 0) st h hr
    have sb := BadV.st.dx
    have pick : ∀ (y : V) (n' : Nat), n' + 1 ≤ n + 0 + 2 * 1 → EvG S _ (((wipe (L2.start N_ref [.ref S.a, x]) [5]).set 5 (some y))) H n' 1 BadV := fun y n' hn' => eg_pick (k := 0) (c := 11) (n := n')
      (z0 (k := 0) sb (bad_v fun _ => .inl rfl) (z0 (k := 0) sb (bad_v fun _ => .inr (.inl rfl)) (z0 (k := 0) sb (bad_tup (xs := [.int 0, .int 0]) (fun _ _ => ea_cons ev_c (ea_cons ev_c ea_nil)) (ibb trivial trivial) (by show 2 ≤ 100; omega) (by decide)) (z0 (k := 0) sb (bad_tup (xs := [.int 2, .int 2]) (fun _ _ => ea_cons ev_c (ea_cons ev_c ea_nil)) (ibb trivial trivial) (by show 2 ≤ 100; omega) (by decide))
        (z0 (k := 0) sb (bad_tup (xs := [.int (-1), .int 1]) (fun _ _ => ea_cons (ev_un ev_c ru_neg) (ea_cons ev_c ea_nil)) (ibb trivial trivial) (by show 2 ≤ 100; omega) (by decide)) (z0 (k := 0) sb (bad_tup (xs := [.int 0, .int 2]) (fun _ _ => ea_cons ev_c (ea_cons ev_c ea_nil)) (ibb trivial trivial) (by show 2 ≤ 100; omega) (by decide)) (z0 (k := 0) sb (bad_tup (xs := [.int 1, .bl true]) (fun _ _ => ea_cons ev_c (ea_cons ev_c ea_nil)) (ibb trivial trivial) (by show 2 ≤ 100; omega) (by decide))
        (z0 (k := 0) sb (bad_tup (xs := [.int 1]) (fun _ _ => ea_cons ev_c ea_nil) (ib1 trivial) (by show 1 ≤ 100; omega) (by decide)) (z0 (k := 0) sb (bad_v (v := .str "11") fun _ => .inr (.inr (.inl ⟨"11", rfl⟩))) (z0 (k := 0) sb bad_dict (z0 (k := 0) sb (bad_tup (xs := [.int 4, .int 6]) (fun _ _ => ea_cons ev_c (ea_cons ev_c ea_nil)) (ibb trivial trivial) (by show 2 ≤ 100; omega) (by decide)) ega0)))))))))))
      sb (fun xs _ h => noDk_len (by rw [h.1]; decide)) (by decide) (by decide) rfl (by omega)
    have hn2 : n + 2 ≤ Fuel := hn
    refine g_unl (S := S) (n := n) (k := 0 + 2 * 1) (R := BadV) (eg_lcR (m := 2) (k0 := 0) (k := 1) (C := fun c => c = 2) (eg_v (fun _ _ => ev_c) fun _ _ => ⟨2, rfl, rfl⟩) (fun c h => by omega) (by decide) (fun _ => rfl) pick BadV.st (fun c acc H hc h => noDk_len (by rw [h.1]; omega))) hd fun odd bad H2 x2 d2 hodd hbad => ?_
    have hT2 : Tabs [(Pt, qL)] H2 := K4.Tabs.dx x2 hT
    have tx2 := tx.dx x2
    have Bpq := sx.bh (by decide)
    have no : ∀ {v : V} {H1 : Hp}, BadV v H2 → ExtN H2 H1 → NoSlant H1 v := fun h e => (BadV.st _ _ _ (fun b o _ n2 e' => e b o e' n2) h).no
    have good : ∀ {H1 : Hp}, ExtN H2 H1 → SlantV H1 x p q := fun e => slantT (tx2.dy (K4.ExtN.dy e)) sx
    refine n_asg (T := [(Pt, qL)]) (R := LP [("way", "one"), ("way", "other"), ("way", "low")]) (en_lst (ena_cons (en_heard (b := true) (part := "one") HW fun H1 e X rz => ⟨odd, rfl, bad, rfl, odd, bad, rfl, .inr (.inl ⟨no hodd e, rz⟩)⟩)
      (ena_cons (en_heard (b := true) (part := "other") HW fun H1 e X rz => ⟨x, rfl, bad, rfl, x, bad, rfl, .inr (.inr ⟨⟨p, q, good e⟩, no hbad e, rz⟩)⟩) (ena_cons (en_heard (b := true) (part := "low") HW fun H1 e X rz => ⟨odd, rfl, bad, rfl, odd, bad, rfl, .inr (.inl ⟨no hodd e, rz⟩)⟩) ena_nil))) (by show 3 ≤ 100; omega)) hT2 fun v3 H3 e3 t3 l3 => ?_
    refine n_asg (T := [(Pt, qL)]) (R := LP (([("way", "one"), ("way", "other"), ("way", "low")] : List (Str × Str)) ++ ([("way", "high"), ("misfit", "high"), ("misfit", "high")] : List (Str × Str)))) (en_cat rfl l3 (en_lst (ena_cons (en_heard (b := true) (part := "high") HW fun H1 e X rz => ⟨x, rfl, bad, rfl, x, bad, rfl, .inr (.inr ⟨⟨p, q, good (e3.trans e)⟩, no hbad (e3.trans e), rz⟩)⟩)
      (ena_cons (en_heard (b := false) (part := "high") HM fun H1 e X rz => ⟨x, rfl, x, rfl, x, x, rfl, .inl ⟨p, q, p, q, good (e3.trans e), good (e3.trans e), ⟨Bpq.1, Bpq.2, Bpq.1, Bpq.2⟩, .inr ⟨by omega, rz⟩⟩⟩)
      (ena_cons (en_heard (b := false) (part := "high") HM fun H1 e X rz => ⟨by show 2 ≤ sizeLine; rw [sizeLine_eq]; omega, fun t ht => ⟨x, rfl, .ref t, x, rfl, .inl ⟨0, 1, p, q, slantT (b := 300) ⟨t, rfl, upd_same⟩ ⟨by decide, by decide, by decide, by decide, by decide⟩, (good (e3.trans e)).ex (Ex.new ht), ⟨by show Int.natAbs 0 < 2 ^ 900; exact Nat.pos_of_ne_zero (by simp), by show Int.natAbs 1 < 2 ^ 900; exact Nat.one_lt_two_pow (by decide), Bpq.1, Bpq.2⟩, .inr ⟨by have := sx.p0; omega, rz.mono (Ex.new ht)⟩⟩⟩⟩) ena_nil))) (by show 3 ≤ 100; omega)) (by show 3 + 3 ≤ 100; omega)) t3 fun v4 H4 e4 t4 l4 => ?_
    refine n_ret (T := [(Pt, qL)]) (R := fun v _ => v = .bl true) (en_eq rfl l4 (en_lst (ena_cons en_tw (ena_cons en_tw (ena_cons en_tw (ena_cons en_tw (ena_cons en_tw (ena_cons en_tw ena_nil)))))) (by show 6 ≤ 100; omega)) (by decide +kernel) (by decide +kernel)) t4 fun v5 H5 e5 t5 hv => ?_
    subst hv
    exact k H5 ((Dx.dy x2).trans (K4.ExtN.dy ((e3.trans e4).trans e5))) ((d2.extN ((e3.trans e4).trans e5)).le (by omega)) t5
end
end K4

set_option Elab.async false
set_option linter.all false
namespace M4
/-- the letters of a slant's path, from the root -/
inductive Wd : Int → Int → List Bool → Prop
  | done : Wd 1 1 []
  | a {p q : Int} {w : List Bool} : 1 ≤ p → 1 ≤ q → Wd p q w → Wd (p + q) q (true :: w)
  | b {p q : Int} {w : List Bool} : 1 ≤ p → 1 ≤ q → Wd p q w → Wd p (p + q) (false :: w)
theorem Wd.pos {p q : Int} {w : List Bool} (h : Wd p q w) : 1 ≤ p ∧ 1 ≤ q := by
  cases h <;> omega
def pathOf (rs : List (Bool × Int)) : List Bool := rs.flatMap fun r => List.replicate r.2.toNat r.1
theorem wd_as : ∀ (m : Nat) {p q : Int} {w : List Bool}, 1 ≤ p → 1 ≤ q → Wd p q w → Wd (p + m * q) q (List.replicate m true ++ w)
  | 0, p, q, w, hp, hq, h => by
    simpa using h
  | m + 1, p, q, w, hp, hq, h => by
    have k := wd_as m hp hq h
    have n := Int.mul_nonneg (show (0 : Int) ≤ m by omega) (show 0 ≤ q by omega)
    have e : p + ((m + 1 : Nat) : Int) * q = p + m * q + q := by
      rw [Int.natCast_succ, Int.add_mul]
      omega
    rw [e]
    exact .a (by omega) hq k
theorem wd_bs : ∀ (m : Nat) {p q : Int} {w : List Bool}, 1 ≤ p → 1 ≤ q → Wd p q w → Wd p (q + m * p) (List.replicate m false ++ w)
  | 0, p, q, w, hp, hq, h => by
    simpa using h
  | m + 1, p, q, w, hp, hq, h => by
    have k := wd_bs m hp hq h
    have n := Int.mul_nonneg (show (0 : Int) ≤ m by omega) (show 0 ≤ p by omega)
    have e : q + ((m + 1 : Nat) : Int) * p = p + (q + m * p) := by
      rw [Int.natCast_succ, Int.add_mul]
      omega
    rw [e]
    exact .b hp (by omega) k
theorem Run.wd {p q : Int} {rs : List (Bool × Int)} (h : Run p q rs) : Wd p q (pathOf rs) := by
  induction h with
  | done => exact .done
  | @east p q m rs h1 h2 h3 h4 h5 h6 ih =>
    have k := wd_as m.toNat h4 h1 ih
    have e : p - m * q + (m.toNat : Int) * q = p := by
      rw [Int.toNat_of_nonneg (by omega)]
      omega
    rw [e] at k
    exact k
  | @north p q m rs h1 h2 h3 h4 h5 h6 ih =>
    have k := wd_bs m.toNat h1 h4 ih
    have e : q - m * p + (m.toNat : Int) * p = q := by
      rw [Int.toNat_of_nonneg (by omega)]
      omega
    rw [e] at k
    exact k
/-- the sides of a path's slant -/
structure S4 where
  f0 : Int
  f1 : Int
  s0 : Int
  s1 : Int
def sd : List Bool → S4
  | [] => ⟨1, 0, 0, 1⟩
  | true :: bs => ⟨(sd bs).f0 + (sd bs).f1, (sd bs).f1, (sd bs).s0 + (sd bs).s1, (sd bs).s1⟩
  | false :: bs => ⟨(sd bs).f0, (sd bs).f1 + (sd bs).f0, (sd bs).s0, (sd bs).s1 + (sd bs).s0⟩
theorem sd_nn : ∀ bs : List Bool, 0 ≤ (sd bs).f0 ∧ 0 ≤ (sd bs).f1 ∧ 0 ≤ (sd bs).s0 ∧ 0 ≤ (sd bs).s1 ∧ (sd bs).f0 * (sd bs).s1 - (sd bs).f1 * (sd bs).s0 = 1
  | [] => by decide
  | true :: bs => by
    obtain ⟨h1, h2, h3, h4, h5⟩ := sd_nn bs
    simp only [sd]
    refine ⟨by omega, h2, by omega, h4, ?_⟩
    rw [← h5]
    grind
  | false :: bs => by
    obtain ⟨h1, h2, h3, h4, h5⟩ := sd_nn bs
    simp only [sd]
    refine ⟨h1, by omega, h3, by omega, ?_⟩
    rw [← h5]
    grind
/-- a path begins with bs just where its slant lies strictly between the sides -/
theorem prefix_iff : ∀ (bs : List Bool) {p q : Int} {w : List Bool}, Wd p q w → (bs <+: w ↔ ((sd bs).f1 * p < q * (sd bs).f0 ∧ q * (sd bs).s0 < (sd bs).s1 * p))
  | [], p, q, w, h => by
    have := h.pos
    simp only [sd]
    constructor
    · intro _
      omega
    · intro _
      exact List.nil_prefix
  | true :: bs, p, q, w, h => by
    obtain ⟨h1, h2, h3, h4, h5⟩ := sd_nn bs
    simp only [sd]
    cases h with
    | done =>
      constructor
      · intro k
        cases List.prefix_nil.mp k
      · intro k
        omega
    | @a p q w hp hq hw =>
      rw [List.cons_prefix_cons]
      have ih := prefix_iff bs hw
      have e1 : (sd bs).f1 * (p + q) < q * ((sd bs).f0 + (sd bs).f1) ↔ (sd bs).f1 * p < q * (sd bs).f0 := by
        have : (sd bs).f1 * (p + q) - q * ((sd bs).f0 + (sd bs).f1) = (sd bs).f1 * p - q * (sd bs).f0 := by grind
        omega
      have e2 : q * ((sd bs).s0 + (sd bs).s1) < (sd bs).s1 * (p + q) ↔ q * (sd bs).s0 < (sd bs).s1 * p := by
        have : q * ((sd bs).s0 + (sd bs).s1) - (sd bs).s1 * (p + q) = q * (sd bs).s0 - (sd bs).s1 * p := by grind
        omega
      rw [e1, e2, ← ih]
      simp
    | @b p q w hp hq hw =>
      constructor
      · intro k
        rw [List.cons_prefix_cons] at k
        cases k.1
      · intro ⟨_, k⟩
        have n1 := Int.mul_nonneg (show 0 ≤ q by omega) h4
        have n2 := Int.mul_nonneg (show 0 ≤ p + q by omega) h3
        have : (p + q) * ((sd bs).s0 + (sd bs).s1) - (sd bs).s1 * p = (p + q) * (sd bs).s0 + q * (sd bs).s1 := by grind
        omega
  | false :: bs, p, q, w, h => by
    obtain ⟨h1, h2, h3, h4, h5⟩ := sd_nn bs
    simp only [sd]
    cases h with
    | done =>
      constructor
      · intro k
        cases List.prefix_nil.mp k
      · intro k
        omega
    | @a p q w hp hq hw =>
      constructor
      · intro k
        rw [List.cons_prefix_cons] at k
        cases k.1
      · intro ⟨k, _⟩
        have n1 := Int.mul_nonneg (show 0 ≤ p by omega) h1
        have n2 := Int.mul_nonneg (show 0 ≤ p + q by omega) h2
        have : ((sd bs).f1 + (sd bs).f0) * (p + q) - q * (sd bs).f0 = (p + q) * (sd bs).f1 + p * (sd bs).f0 := by grind
        omega
    | @b p q w hp hq hw =>
      rw [List.cons_prefix_cons]
      have ih := prefix_iff bs hw
      have e1 : ((sd bs).f1 + (sd bs).f0) * p < (p + q) * (sd bs).f0 ↔ (sd bs).f1 * p < q * (sd bs).f0 := by
        have : ((sd bs).f1 + (sd bs).f0) * p - (p + q) * (sd bs).f0 = (sd bs).f1 * p - q * (sd bs).f0 := by grind
        omega
      have e2 : (p + q) * (sd bs).s0 < ((sd bs).s1 + (sd bs).s0) * p ↔ q * (sd bs).s0 < (sd bs).s1 * p := by
        have : (p + q) * (sd bs).s0 - ((sd bs).s1 + (sd bs).s0) * p = q * (sd bs).s0 - (sd bs).s1 * p := by grind
        omega
      rw [e1, e2, ← ih]
      simp
end M4

set_option Elab.async false
set_option linter.all false
set_option maxRecDepth 100000
set_option maxHeartbeats 4000000
namespace K4
open PySem PySem.Spec PyProof.Rows L2 Evl M4 GB GC GD
open LamX (CodeO Tabs TabB TabS ExtN)
/-! ### texts of a's and b's -/
theorem joinL_nil : ∀ ps : List (List Nat), TL.joinL [] ps = ps.flatten
  | [] => rfl
  | [p] => by simp [TL.joinL]
  | p :: q :: r => by
    show p ++ ([] ++ TL.joinL [] (q :: r)) = _
    rw [joinL_nil (q :: r)]
    rfl
theorem join_flat (ys : List Str) : Txt.join "" ys = ⟨(ys.map fun y => y.cps.toList).flatten.toArray⟩ := by
  rw [TL.join_eq]
  have e := TL.tl_join "" ys
  rw [show TL.tl "" = [] from rfl, joinL_nil] at e
  have e2 : (Str.join "" ys).cps.toList = (ys.map fun y => y.cps.toList).flatten := e
  rw [← e2]
theorem join_txt1 (bs : List Bool) : Txt.join "" (bs.map fun b => txt [b]) = txt bs := by
  rw [join_flat]
  unfold txt
  congr 2
  rw [List.map_map]
  induction bs with
  | nil => rfl
  | cons b bs ih =>
    simp only [List.map_cons, List.flatten_cons, Function.comp]
    rw [← ih]
    rfl
theorem repS_letS (b : Bool) (m : Int) : (repS (letS b) m).cps.toList = List.replicate m.toNat (codeS b) := by
  unfold repS
  have e : ∀ (n : Nat) (a : Array Nat), ((List.replicate n (letS b).cps).foldl (· ++ ·) a).toList = a.toList ++ List.replicate n (codeS b) := by
    intro n
    induction n with
    | zero => intro a; simp
    | succ n ih =>
      intro a
      rw [List.replicate_succ, List.foldl_cons, ih, Array.toList_append, List.append_assoc, List.replicate_succ]
      congr 1
      cases b <;> rfl
  rw [e]
  simp
theorem join_txt2 (rs : List (Bool × Int)) : Txt.join "" (rs.map fun r => repS (letS r.1) r.2) = txt (pathOf rs) := by
  rw [join_flat]
  unfold txt pathOf
  congr 2
  rw [List.map_map]
  induction rs with
  | nil => rfl
  | cons r rs ih =>
    simp only [List.map_cons, List.flatten_cons, Function.comp, List.flatMap_cons, List.map_append]
    rw [← ih, repS_letS, List.map_replicate]
theorem txt_inj : ∀ {a b : List Bool}, txt a = txt b → a = b := by
  intro a b h
  have e : (a.map codeS) = (b.map codeS) := by
    have := congrArg (fun x : Str => x.cps.toList) h
    simpa [txt] using this
  clear h
  induction a generalizing b with
  | nil =>
    cases b with
    | nil => rfl
    | cons y b => cases e
  | cons x a ih =>
    cases b with
    | nil => cases e
    | cons y b =>
      rw [List.map_cons, List.map_cons] at e
      have e1 := (List.cons.inj e).1
      have e2 := (List.cons.inj e).2
      rw [ih e2]
      cases x <;> cases y <;> first | rfl | cases e1
theorem txt_len (bs : List Bool) : (txt bs).length = bs.length := by
  unfold txt Str.length
  simp
theorem cut_txt (w : List Bool) (n : Nat) : cutS (txt w) none (some (n : Int)) = txt (w.take n) := by
  have h0 : HT.sIx (txt w).length 0 none = 0 := rfl
  have h1 : HT.sIx (txt w).length (txt w).length (some (n : Int)) = min n w.length := by
    rw [txt_len]
    unfold HT.sIx
    simp
    omega
  unfold cutS
  rw [h0, h1]
  unfold txt
  simp only [List.drop_zero, Nat.sub_zero]
  congr 2
  rw [← List.map_take]
  congr 1
  rw [← List.take_take]
  congr 1
  exact List.take_of_length_le (Nat.le_refl _)
theorem take_prefix (bs w : List Bool) : (txt (w.take bs.length) = txt bs) ↔ bs <+: w := by
  constructor
  · intro h
    rw [← txt_inj h]
    exact List.take_prefix _ _
  · intro h
    rw [← List.prefix_iff_eq_take.mp h]
/-! ### the slant of a text -/
theorem bk_bound : ∀ bs : List Bool, 1 ≤ (bk bs).1 ∧ 1 ≤ (bk bs).2 ∧ (bk bs).1 ≤ 2 ^ bs.length ∧ (bk bs).2 ≤ 2 ^ bs.length
  | [] => by decide
  | b :: bs => by
    obtain ⟨h1, h2, h3, h4⟩ := bk_bound bs
    have e : (2 : Int) ^ (b :: bs).length = 2 ^ bs.length * 2 := by rw [List.length_cons, Int.pow_succ]
    rw [e]
    cases b with
    | true =>
      simp only [bk, if_true]
      omega
    | false =>
      show 1 ≤ (bk bs).1 ∧ 1 ≤ (bk bs).2 + (bk bs).1 ∧ (bk bs).1 ≤ 2 ^ bs.length * 2 ∧ (bk bs).2 + (bk bs).1 ≤ 2 ^ bs.length * 2
      omega
theorem sd_sd : ∀ bs : List Bool, Sd (bk bs).1 (bk bs).2 (sd bs).f0 (sd bs).f1 (sd bs).s0 (sd bs).s1 := fun bs => by
  obtain ⟨h1, h2, h3, h4, h5⟩ := sd_nn bs
  have e : (sd bs).f0 + (sd bs).s0 = (bk bs).1 ∧ (sd bs).f1 + (sd bs).s1 = (bk bs).2 := by
    clear h1 h2 h3 h4 h5
    induction bs with
    | nil => decide
    | cons b bs ih =>
      cases b with
      | true =>
        simp only [sd, bk, if_true]
        omega
      | false =>
        simp only [sd, bk]
        show _ = (bk bs).1 ∧ _ = (bk bs).2 + (bk bs).1
        omega
  exact ⟨h1, h2, h3, h4, e.1, e.2, h5⟩
theorem run_small {p q : Int} {rs : List (Bool × Int)} (h : Run p q rs) : (∀ r ∈ rs, 1 ≤ r.2 ∧ r.2 ≤ p + q) ∧ (rs.length : Int) ≤ p + q := by
  induction h with
  | done => exact ⟨fun _ h => (by cases h), by decide⟩
  | @east p q m rs h1 h2 h3 h4 h5 h6 ih =>
    have k : m ≤ m * q := by
      have := Int.mul_le_mul_of_nonneg_left (show (1 : Int) ≤ q by omega) (show 0 ≤ m by omega)
      omega
    refine ⟨fun r hr => ?_, ?_⟩
    · rcases List.mem_cons.mp hr with rfl | hr
      · show 1 ≤ m ∧ m ≤ p + q
        omega
      · have := ih.1 r hr
        omega
    · have := ih.2
      rw [List.length_cons]
      omega
  | @north p q m rs h1 h2 h3 h4 h5 h6 ih =>
    have k : m ≤ m * p := by
      have := Int.mul_le_mul_of_nonneg_left (show (1 : Int) ≤ p by omega) (show 0 ≤ m by omega)
      omega
    refine ⟨fun r hr => ?_, ?_⟩
    · rcases List.mem_cons.mp hr with rfl | hr
      · show 1 ≤ m ∧ m ≤ p + q
        omega
      · have := ih.1 r hr
        omega
    · have := ih.2
      rw [List.length_cons]
      omega
/-- the answer of the last check -/
theorem last_ok {bs : List Bool} {p q : Int} {rs : List (Bool × Int)} (h : Run p q rs) : decide (V.str (cutS (txt (pathOf rs)) none (some ((txt bs).length : Int))) = V.str (txt bs)) = (decide ((sd bs).f1 * p < q * (sd bs).f0) && decide (q * (sd bs).s0 < (sd bs).s1 * p)) := by
  rw [txt_len, cut_txt]
  have e1 : (V.str (txt ((pathOf rs).take bs.length)) = V.str (txt bs)) ↔ bs <+: pathOf rs := ⟨fun z => (take_prefix _ _).mp (V.str.inj z), fun z => by rw [(take_prefix _ _).mpr z]⟩
  have e2 := prefix_iff bs h.wd
  rw [← Bool.decide_and]
  exact decide_eq_decide.mpr (e1.trans e2)
end K4

set_option Elab.async false
set_option linter.all false
set_option maxRecDepth 100000
set_option maxHeartbeats 4000000
namespace K4
open PySem PySem.Spec PyProof.Rows L2 Evl M4 GB GC GD
open LamX (CodeO Tabs TabB TabS ExtN)
section
variable {K : PySem.W.Frag} {S : DS} {σ : L2.St} {H : Hp} {te ta tb : TE} {t : TA} {D : Ends} {n k : Nat} {CW : Addr} {x y v : V}
theorem shB_len (a b : Bool) : (shB [a, b]).length ≤ sizeLine := by
  rw [sizeLine_eq]
  cases a <;> cases b <;> decide +kernel
theorem ev_reprN {a b : Bool} (h : EvL te σ H [.bl a, .bl b]) : Ev (tCB rReprB (tCons te tNil)) σ H (.str (shB [a, b])) := fun H1 e Q q =>
  h H1 e _ fun p H2 _ e2 hp => ⟨p, [a, b], rfl, hp, shB_len a b, q H2 e2⟩
theorem ev_reprV {a b : Bool} {l : Addr} (h : Ev te σ H (.ref l)) (hl : H l = some (.lst [.bl a, .bl b])) : Ev (tCB rReprB (tCons te tNil)) σ H (.str (shB [a, b])) := fun H1 e Q q =>
  h H1 e _ fun H2 e2 => ⟨l, [a, b], rfl, e2 _ _ (e _ _ hl), shB_len a b, q H2 e2⟩
theorem ev_steep {p q r s : Int} {bd : Nat} (hb : bd ≤ 300) (h : EvA t σ H [x, y]) (hx : ∀ H1, Ex H H1 → SlantV H1 x p q) (hy : ∀ H1, Ex H H1 → SlantV H1 y r s) (sx : Sl bd p q) (sy : Sl bd r s) : Ev (tCall (spSteeper K CW) [] E0 t) σ H (.bl (decide (s * p < q * r))) := fun H1 e Q k =>
  h H1 e _ fun H2 e2 => ⟨x, y, rfl, .inl ⟨p, q, r, s, hx H2 (e.trans e2), hy H2 (e.trans e2), ⟨bh_bd (sx.bh hb).2, bh_bd (sy.bh hb).1, bh_bd (sy.bh hb).2, bh_bd (sx.bh hb).1⟩, fun H' e3 => k H' (e2.trans e3)⟩⟩
/-- is_steeper(other = list(a), one = list(b)) -/
theorem ev_steepW {p q r s : Int} {bd : Nat} (hb : bd ≤ 300) (hy : EvL ta σ H [.int r, .int s]) (hx : EvL tb σ H [.int p, .int q]) (sx : Sl bd p q) (sy : Sl bd r s) : Ev (tCallW (spSteeper K CW) E0 (tCons ta (tCons tb tNil))) σ H (.bl (decide (s * p < q * r))) := fun H1 e Q k =>
  hy H1 e _ fun ly H2 _ e2 h2 => hx H2 (e.trans e2) _ fun lx H3 _ e3 h3 => ⟨.ref lx, .ref ly, rfl, .ref lx, .ref ly, rfl, .inl ⟨p, q, r, s, slantL h3 sx, slantL (e3 _ _ h2) sy, ⟨bh_bd (sx.bh hb).2, bh_bd (sy.bh hb).1, bh_bd (sy.bh hb).2, bh_bd (sx.bh hb).1⟩, fun H' e4 => k H' ((e2.trans e3).trans e4)⟩⟩
theorem rv_notBl {a b : Bool} : RV rNotB (.bl a) (.bl b) H (.bl (!decide (a = b))) := fun H1 _ _ q => ⟨a, b, rfl, rfl, q H1 (Ex.refl H1)⟩
theorem rv_eqBl {a b : Bool} : RV rNe (.bl a) (.bl b) H (.bl (!decide (a = b))) := by
  have e : decide (V.bl a = V.bl b) = decide (a = b) := decide_eq_decide.mpr ⟨V.bl.inj, fun z => by rw [z]⟩
  rw [← e]
  exact rv_ne rfl
theorem s_if_ref {T : List (Addr × Str)} {tu : TS} {i j : Nat} {p q : Int} (i1 : σ[i]? = some (some (.ref S.a))) (i3 : σ[j]? = some (some x)) (tx : Tt H x p q) (sx : Sl 300 p q) (hT : Tabs T H) (hd : Dk S n H) (hn : n + 2 ≤ Fuel) (k : ∀ H', Dk S (n + 2) H' → Tabs T H' → D.nx σ H') :
    tIfS (tNot (tB (tCall (spRef T) [] E0 (tCons (tVar i) (tCons (tVar j) tNil))))) tu tNext D σ H := ⟨_, i1, _, i3, S, n, x, p, q, rfl, tx, sx, hT, hd, hn, fun H' _ dk tb => ⟨true, rfl, by
  show (if (!true) = true then _ else _)
  rw [if_neg (by decide)]
  exact k H' dk tb⟩⟩
/-! ### joins -/
def RTx (v : V) (_ : Hp) : Prop := ∃ b : Bool, v = .str (txt [b])
theorem al_txt : ∀ {c : Nat} {xs : List V} {H : Hp}, Al RTx c xs H → ∃ bs : List Bool, xs = (bs.map fun b => txt [b]).map V.str ∧ bs.length = c
  | c, [], H, h => ⟨[], rfl, h.1⟩
  | c, v :: xs, H, h => by
    obtain ⟨b, rfl⟩ := h.2 v (List.mem_cons_self ..)
    obtain ⟨bs, e, l⟩ := al_txt (c := xs.length) (xs := xs) (H := H) ⟨rfl, fun z hz => h.2 z (List.mem_cons_of_mem _ hz)⟩
    refine ⟨b :: bs, by rw [e]; rfl, ?_⟩
    rw [List.length_cons, l, ← h.1, List.length_cons]
abbrev rJoin (K : PySem.W.Frag) : V → List V → Hp → VK → Prop := fun x xs H Q => ∃ a p, ∃ ys : List Str, x = .str a ∧ xs = [.ref p] ∧ (SqL K H p (ys.map V.str) ∨ SqT K H p (ys.map V.str)) ∧ (ys.map (·.length)).sum + ys.length * a.length ≤ 16777216 ∧ Q (.str (Txt.join a ys)) H
theorem sum_ones (bs : List Bool) : ((bs.map fun b => txt [b]).map (·.length)).sum = bs.length := by
  induction bs with
  | nil => rfl
  | cons b bs ih =>
    rw [List.map_cons, List.map_cons, List.sum_cons, ih, txt_len]
    show 1 + bs.length = bs.length + 1
    omega
theorem eg_join {m : Nat} {C : Nat → Prop} (hC : ∀ c, C c → c ≤ m) (hm : m ≤ 100) (h : EvG S te σ H n k fun v H => ∃ l xs c, v = .ref l ∧ H l = some (.lst xs) ∧ C c ∧ Al RTx c xs H) : EvG S (tM1 (rJoin K) (tC (.str "")) te) σ H n k fun v _ => ∃ bs : List Bool, bs.length ≤ m ∧ v = .str (txt bs) := fun H1 x1 d1 Q q =>
  ⟨⟨"", rfl⟩, h H1 x1 d1 _ fun v H2 x2 d2 ⟨l, xs, c, ev, hl, hc, al⟩ => by
    obtain ⟨bs, exs, lb⟩ := al_txt al
    subst ev exs
    have cm := hC c hc
    refine ⟨"", l, bs.map fun b => txt [b], rfl, rfl, .inl (sq_of hl), ?_, ?_⟩
    · rw [sum_ones]
      show bs.length + (bs.map fun b => txt [b]).length * 0 ≤ 16777216
      omega
    · rw [join_txt1]
      exact q _ H2 x2 d2 ⟨bs, by omega, rfl⟩⟩
theorem evr_callRR {Pre : Hp → List V → (V → Hp → Prop) → Prop} {R P : V → Hp → Prop} (h : EvR ta σ H R) (hp : ∀ v H1, Ex H H1 → R v H1 → Pre H1 [v] P) : EvR (tCall (spR Pre) [] E0 (tCons ta tNil)) σ H P := fun H1 e Q q =>
  h H1 e _ fun v H2 e2 hv => ⟨P, hp v H2 (e.trans e2) hv, fun u H3 e3 hu => q u H3 (e2.trans e3) hu⟩
/-- [e for x in range(a, b) if t] -/
theorem el_lcR2 {tt : TT} {j : Nat} {vs : List Nat} {lo m : Int} (f : Nat → Bool) (g : Nat → V) (h : EvA t σ H [.int lo, .int m]) (hlo : 0 ≤ lo ∧ lo ≤ 1000) (hm : lo ≤ m ∧ m ≤ 1000) (hw : ∀ x, wipe ((wipe σ vs).set j (some x)) vs = wipe σ vs)
    (ht : ∀ (i : Nat) H1, Ex H H1 → lo + (i : Int) < m → EvT tt ((wipe σ vs).set j (some (.int (lo + (i : Int))))) H1 (f i)) (he : ∀ (i : Nat) H1, Ex H H1 → lo + (i : Int) < m → f i = true → Ev te ((wipe σ vs).set j (some (.int (lo + (i : Int))))) H1 (g i)) :
    EvL (tLc (iRng2 t) (gName j) tt te vs) σ H (given (m - lo).toNat f g) := fun H0 e Q q => h H0 e _ fun H1 e1 => ⟨lo, m, rfl, ⟨by omega, by omega, by omega, by omega⟩, fun Dl hD =>
  lc_range (lo := lo) (n := (m - lo).toNat) (Cw H1 f g Dl) ⟨hD, Ex.new hD, upd_same⟩ (fun i H' hi p => ⟨hw _, cw_turn p (by omega) (ht i H1 (e.trans e1) (by omega)) (fun hf => he i H1 (e.trans e1) (by omega) hf)⟩) (fun H' p => q Dl H' (fresh_back e1 p.1) (e1.trans p.2.1) p.2.2)⟩
theorem mem_given {c : Nat} {f : Nat → Bool} {g : Nat → V} {x : V} (h : x ∈ given c f g) : ∃ i, i < c ∧ f i = true ∧ x = g i := by
  unfold given at h
  obtain ⟨i, hi, rfl⟩ := List.mem_map.mp h
  obtain ⟨h1, h2⟩ := List.mem_filter.mp hi
  exact ⟨i, List.mem_range.mp h1, h2, rfl⟩
/-- ''.join([letter * many for letter, many in runs]) -/
theorem evr_path {i j : Nat} {vsl : List Nat} {p q : Int} {tl : TE} (hp : p ≤ 13) (hq : q ≤ 13) (h : EvR tl σ H fun v H => ∃ rs, RunT K H v rs ∧ Run p q rs) (hw : ∀ x y, wipe (((wipe σ vsl).set i (some x)).set j (some y)) vsl = wipe σ vsl) (hi : ∀ x y, (((wipe σ vsl).set i (some x)).set j (some y))[i]? = some (some x)) (hj : ∀ x y, (((wipe σ vsl).set i (some x)).set j (some y))[j]? = some (some y)) :
    EvR (tM1 (rJoin K) (tC (.str "")) (tLc (iTup K tl) (gTup K 2 (gCons (gName i) (gCons (gName j) gNil))) tYes (tOp rMulS (tVar i) (tVar j)) vsl)) σ H fun v _ => ∃ rs, Run p q rs ∧ v = .str (txt (pathOf rs)) := fun H0 e Q k => ⟨⟨"", rfl⟩, h H0 e _ fun v H1 e1 ⟨rs, ⟨a, ws, ev, hs, hI⟩, hrun⟩ => by
  subst ev
  obtain ⟨sm, sl⟩ := run_small hrun
  refine ⟨a, rfl, ⟨ws, hs⟩, fun Dl hD => ?_⟩
  refine lc_tup (xs := ws) (Cw H1 (fun _ => true) (fun n => .str (repS (letS (rs.getD n (true, 0)).1) (rs.getD n (true, 0)).2)) Dl) ⟨hD, Ex.new hD, upd_same⟩ (fun n H' _ pp => ex_t pp.2.1 hs) (fun n x H' hn pp => ?_) (fun H' pp => ?_)
  · obtain ⟨b, m, hd, ⟨t, rfl, ht⟩⟩ := hI.at n hn
    have hgd : rs.getD n (true, 0) = (b, m) := by
      rw [List.getD_eq_getElem?_getD, ← List.head?_drop, hd]
      rfl
    have mem : (b, m) ∈ rs := List.mem_of_mem_drop (i := n) (by rw [hd]; exact List.mem_cons_self ..)
    have hm := sm _ mem
    refine ⟨t, _, rfl, ex_t pp.2.1 ht, rfl, _, _, rfl, _, _, rfl, rfl, hw _ _, ?_⟩
    refine cw_turn pp (by have := (List.getElem?_eq_some_iff.mp hn).1; have := hI.len; omega) et_yes (fun _ => ?_)
    rw [hgd]
    refine ev_op (ev_var (hi _ _)) (ev_var (hj _ _)) fun H3 _ Q3 q3 => ⟨letS b, m, rfl, rfl, ?_, ?_, ?_, q3 H3 (Ex.refl H3)⟩
    · have : 1 ≤ m := hm.1
      omega
    · have : m ≤ p + q := hm.2
      omega
    · cases b <;> rfl
  · obtain ⟨p1, p2, p3⟩ := pp
    have eg : given ws.length (fun _ => true) (fun n => .str (repS (letS (rs.getD n (true, 0)).1) (rs.getD n (true, 0)).2)) = (rs.map fun r => repS (letS r.1) r.2).map V.str := by
      unfold given
      rw [List.filter_eq_self.mpr (fun _ _ => rfl), hI.len, List.map_map]
      refine List.ext_getElem? fun n => ?_
      rw [List.getElem?_map, List.getElem?_map]
      by_cases hn : n < rs.length
      · rw [List.getElem?_range hn, List.getElem?_eq_getElem hn]
        simp [List.getElem?_eq_getElem hn]
      · rw [List.getElem?_eq_none (by rw [List.length_range]; omega), List.getElem?_eq_none (by omega)]
        rfl
    rw [eg] at p3
    refine ⟨"", Dl, _, rfl, rfl, .inl (sq_of p3), ?_, ?_⟩
    · have each : ∀ y ∈ (rs.map fun r => repS (letS r.1) r.2).map (·.length), y ≤ 26 := fun y hy => by
        obtain ⟨z, hz, rfl⟩ := List.mem_map.mp hy
        obtain ⟨r, hr, rfl⟩ := List.mem_map.mp hz
        have e1 : (repS (letS r.1) r.2).length = r.2.toNat := by
          show (repS (letS r.1) r.2).cps.size = _
          rw [← Array.length_toList, repS_letS, List.length_replicate]
        have := sm r hr
        show (repS (letS r.1) r.2).length ≤ 26
        omega
      have tot : ∀ l : List Nat, (∀ y ∈ l, y ≤ 26) → l.sum ≤ 26 * l.length := by
        intro l
        induction l with
        | nil => intro _; exact Nat.le_refl _
        | cons z l ih =>
          intro hl
          have := ih fun y hy => hl y (List.mem_cons_of_mem _ hy)
          have := hl z (List.mem_cons_self ..)
          rw [List.sum_cons, List.length_cons]
          omega
      have := tot _ each
      rw [List.length_map, List.length_map] at this
      show _ + (rs.map fun r => repS (letS r.1) r.2).length * 0 ≤ 16777216
      omega
    · rw [join_txt2]
      exact k _ H' (e1.trans p2) ⟨rs, hrun, rfl⟩⟩
theorem eg_pickJ {c j : Nat} {R : V → Hp → Prop} (h : EvGA S t σ H n k (Al R c)) (st : StR R) (nd : ∀ xs H, Al R c xs H → NoDk (.lst xs)) (c0 : 0 < c) (c1 : c ≤ 100) (i0 : σ[j]? = some (some (.ref S.a))) (hn : n + k + 1 ≤ Fuel) : EvG S (tCall (spG prePick) [] E0 (tCons (tVar j) (tCons (tLst t) tNil))) σ H n (k + 1) R := fun H1 x d Q q =>
  ⟨.ref S.a, i0, h H1 x d _ fun xs H2 x2 d2 r2 => ⟨by rw [r2.1, sizeLine_eq]; omega, fun p hp =>
    ⟨S, n + k, 1, fun v _ => v ∈ xs, ⟨p, xs, rfl, upd_same, nd xs H2 r2, by rw [r2.1]; exact c0, by rw [r2.1]; exact c1, rfl, rfl⟩, d2.ex (Ex.new hp), hn, fun v H3 x3 d3 hv => q v H3 (x2.trans ((Ex.dx (Ex.new hp)).trans x3)) d3 (st _ _ _ ((Ex.dx (Ex.new hp)).trans x3) (r2.2 v hv))⟩⟩⟩
theorem noDk_str {c : Nat} {xs : List V} {H : Hp} (h : Al RTx c xs H) : NoDk (.lst xs) := by
  unfold NoDk
  split
  · next e =>
    cases e
    obtain ⟨b, hb⟩ := h.2 _ (List.mem_cons_self ..)
    cases hb
  · trivial
theorem noDk_sv {b : Nat} {xs : List V} {H : Hp} (h : Al (Sv b) 3 xs H) : NoDk (.lst xs) := by
  unfold NoDk
  split
  · next e =>
    cases e
    obtain ⟨p, q, ⟨a, ha, _⟩, _⟩ := h.2 (.int _) (List.mem_cons_of_mem _ (List.mem_cons_self ..))
    cases ha
  · trivial
theorem ev_steep1 {p q r s : Int} {bd : Nat} (hb : bd ≤ 300) (hx : EvR ta σ H fun v H => Tt H v p q) (h : Ev tb σ H y) (hy : ∀ H1, Ex H H1 → Tt H1 y r s) (sx : Sl bd p q) (sy : Sl bd r s) : Ev (tCall (spSteeper K CW) [] E0 (tCons ta (tCons tb tNil))) σ H (.bl (decide (s * p < q * r))) := fun H1 e Q k =>
  hx H1 e _ fun x H2 e2 tx => h H2 (e.trans e2) _ fun H3 e3 => ⟨x, y, rfl, .inl ⟨p, q, r, s, slantT (tx.ex e3) sx, slantT (hy H3 ((e.trans e2).trans e3)) sy, ⟨bh_bd (sx.bh hb).2, bh_bd (sy.bh hb).1, bh_bd (sy.bh hb).2, bh_bd (sx.bh hb).1⟩, fun H' e4 => k H' ((e2.trans e3).trans e4)⟩⟩
theorem ev_steep2 {p q r s : Int} {bd : Nat} (hb : bd ≤ 300) (h : Ev ta σ H x) (hx : ∀ H1, Ex H H1 → Tt H1 x p q) (hy : EvR tb σ H fun v H => Tt H v r s) (sx : Sl bd p q) (sy : Sl bd r s) : Ev (tCall (spSteeper K CW) [] E0 (tCons ta (tCons tb tNil))) σ H (.bl (decide (s * p < q * r))) := fun H1 e Q k =>
  h H1 e _ fun H2 e2 => hy H2 (e.trans e2) _ fun y H3 e3 ty => ⟨x, y, rfl, .inl ⟨p, q, r, s, slantT (hx H3 ((e.trans e2).trans e3)) sx, slantT ty sy, ⟨bh_bd (sx.bh hb).2, bh_bd (sy.bh hb).1, bh_bd (sy.bh hb).2, bh_bd (sx.bh hb).1⟩, fun H' e4 => k H' ((e2.trans e3).trans e4)⟩⟩
theorem ev_cut {i j : Nat} {z y : Str} (hi : σ[i]? = some (some (.str z))) (hj : σ[j]? = some (some (.str y))) (lz : z.length ≤ sizeLine) (ly : y.length ≤ sizeLine) : Ev (tSl rSlS (tVar i) tNoPart (tPart (tCB (fun xs H Q => ∃ z, xs = [.str z] ∧ z.length ≤ sizeLine ∧ Q (.int z.length) H) (tCons (tVar j) tNil)))) σ H (.str (cutS z none (some (y.length : Int)))) := fun H1 e Q q =>
  ⟨_, hi, _, hj, y, rfl, ly, _, rfl, z, rfl, lz, q H1 (Ex.refl H1)⟩
theorem low_one {p o : Int} (hp : 1 ≤ p) (h : p / (Int.gcd p o : Int) = p) : Int.gcd p o = 1 := by
  have gp : 0 < Int.gcd p o := Int.gcd_pos_of_ne_zero_left _ (by omega)
  refine Nat.le_antisymm (Nat.le_of_not_lt fun z => ?_) gp
  have k := Int.ediv_mul_le p (show ((Int.gcd p o : Nat) : Int) ≠ 0 by omega)
  rw [h] at k
  have := Int.mul_le_mul_of_nonneg_left (show (2 : Int) ≤ ((Int.gcd p o : Nat) : Int) by omega) (show 0 ≤ p by omega)
  omega
theorem path_len {p q : Int} {rs : List (Bool × Int)} (h : Run p q rs) : ((pathOf rs).length : Int) ≤ p + q := by
  induction h with
  | done => decide
  | @east p q m rs h1 h2 h3 h4 h5 h6 ih =>
    have e : pathOf ((true, m) :: rs) = List.replicate m.toNat true ++ pathOf rs := rfl
    rw [e, List.length_append, List.length_replicate]
    have := Int.mul_le_mul_of_nonneg_left (show (1 : Int) ≤ q by omega) (show 0 ≤ m by omega)
    omega
  | @north p q m rs h1 h2 h3 h4 h5 h6 ih =>
    have e : pathOf ((false, m) :: rs) = List.replicate m.toNat false ++ pathOf rs := rfl
    rw [e, List.length_append, List.length_replicate]
    have := Int.mul_le_mul_of_nonneg_left (show (1 : Int) ≤ p by omega) (show 0 ≤ m by omega)
    omega
theorem sd_sl (bs : List Bool) (h : bs.length ≤ 8) : Sl 300 (sd bs).f0 (sd bs).f1 ∧ Sl 300 (sd bs).s0 (sd bs).s1 := by
  obtain ⟨h1, h2, h3, h4, h5⟩ := sd_nn bs
  have s := sd_sd bs
  obtain ⟨b1, b2, b3, b4⟩ := bk_bound bs
  have e0 := s.e0
  have e1 := s.e1
  have l := two_le h
  have l2 : (2 : Int) ^ 8 < 2 ^ 300 := by decide
  refine ⟨⟨h1, h2, gcd_one (a := -(sd bs).s0) (b := -(sd bs).s1) (by rw [← h5]; grind), by omega, by omega⟩, ⟨h3, h4, gcd_one (a := (sd bs).f0) (b := (sd bs).f1) h5, by omega, by omega⟩⟩
end
end K4

set_option Elab.async false
set_option linter.all false
set_option maxRecDepth 100000
set_option maxHeartbeats 4000000
namespace K4
open PySem PySem.Spec PyProof.Rows L2 Evl M4 GB GC GD
open LamX (CodeO Tabs TabB TabS ExtN)
abbrev s_law : Stmt := top 41
abbrev N_law : List Str := ["script", "deck", "turn", "one", "other", "due", "text", "flatter", "steeper", "p", "q", "path", "spot", "letter", "many"]
theorem sc_law : FnScope N_law ["script"] (defScope s_law) := ⟨rfl, rfl, rfl, by decide +kernel, rfl, by decide +kernel, by decide +kernel⟩
section
variable {P : Program} {w : World} {K : PySem.W.Frag} {mg : Str → Option Value} {base : Heap} {CW CM : Addr}
def spLaw (K : PySem.W.Frag) (T : List (Addr × Str)) : Sp := fun vs H Q _ => ∃ (a : Addr) (ns : List Int), vs = [.ref a] ∧ SqL K H a (ns.map V.int) ∧ ns.length ≤ 63 ∧ Tabs T H ∧ ∀ H', Q (.bl true) H'
theorem law_walk {f : Addr} {fd : FuncData} {TB : List (Addr × Str)} (F : FunD K "law" "law" (defArgs s_law) (defBody s_law) (defScope s_law) [] [] f fd) (T : MF mg) (c_deck : Cal P w K mg base 1 "_law_deck" ["script"] (spDeck K)) (c_draw : Cal P w K mg base 1 "_law_draw" ["deck", "many"] (spG preDraw)) (c_pick : Cal P w K mg base 2 "_law_pick" ["deck", "some"] (spG prePick))
    (c_low : Cal P w K mg base 1 "_law_low" ["p", "q"] (spR (preLow K))) (c_runs : Cal P w K mg base 1 "_law_runs" ["slant"] (spR (preRuns K))) (c_back : Cal P w K mg base 1 "_law_back" ["text"] (spR (preBack K))) (c_up : Cal P w K mg base 1 "_law_up" ["one", "other"] (spP (preUp K))) (c_sides : Cal P w K mg base 2 "_law_sides" ["slant"] (spR (preSides K)))
    (c_any : Cal P w K mg base 3 "_law_any" ["deck"] (spG preAny)) (c_near : Cal P w K mg base 3 "_law_near" ["deck", "slant"] (spG preNear)) (c_between : Cal P w K mg base 6 "_law_between_right" ["one", "other"] (spP preBetween)) (c_refused : Cal P w K mg base 8 "_law_refused_right" ["deck", "good"] (spRef TB))
    (c_is_steeper : CalX P w K mg base 5 "is_steeper" ["one", "other"] (spSteeper K CW)) (w_is_steeper : CalW P w K mg base (L2.CX P w) 5 "is_steeper" "one" "other" (spSteeper K CW)) : FnOkG P w K mg base CX0 9 f fd ["script"] (spLaw K TB) := by
  refine fnG_of (N := N_law) F sc_law (fun vs H Q E h => ?_) (fun cdv A outer s H vs Q E hg hr h => ?_)
  · obtain ⟨a, ns, rfl, _⟩ := h
    rfl
  · obtain ⟨a, ns, rfl, hs, hl, hT, k⟩ := h
    refine ⟨_, PSs.nox (pss_cons (ps_set (i := 1) sc_law.nd rfl (.inr rfl) (pe_cal c_deck (hr.mono (by decide)) rfl pass0 (pa_cons (pv 0) pa_nil)))
      (pss_cons (ps_for PassesOwn.never rfl (pi_range1 rfl T.range (pa_cons pe_int pa_nil)) (pg_name (i := 2) sc_law.nd rfl (.inl rfl)) (pss_cons (ps_set (i := 3) sc_law.nd rfl (.inl rfl) (pe_cal c_any (hr.mono (by decide)) rfl pass0 (pa_cons (pv 1) pa_nil)))
      (pss_cons (ps_set (i := 4) sc_law.nd rfl (.inl rfl) (pe_cal c_pick (hr.mono (by decide)) rfl pass0 (pa_cons (pv 1) (pa_cons (pe_lst (pa_cons (pe_cal c_any (hr.mono (by decide)) rfl pass0 (pa_cons (pv 1) pa_nil)) (pa_cons (pe_cal c_near (hr.mono (by decide)) rfl pass0 (pa_cons (pv 1) (pa_cons (pv 3) pa_nil))) (pa_cons (pe_cal c_near (hr.mono (by decide)) rfl pass0 (pa_cons (pv 1) (pa_cons (pv 3) pa_nil))) pa_nil)))) pa_nil))))
      (pss_cons (ps_set (i := 5) sc_law.nd rfl (.inl rfl) (pe_lst (pa_cons (pe_cal c_up (hr.mono (by decide)) rfl pass0 (pa_cons (pv 3) (pa_cons (pv 4) pa_nil))) (pa_cons (pe_cal c_up (hr.mono (by decide)) rfl pass0 (pa_cons (pv 4) (pa_cons (pv 3) pa_nil))) pa_nil))))
      (pss_cons (ps_if (PW.pt (pw_or (pt_cmpR op_ne (pe_callB (call_reprB hg (Nat.lt_of_le_of_lt (Nat.add_le_add_left (by decide : 10 ≤ 64) _) hr.units)) (by rfl) T.repr (by decide +kernel) (pa_cons (pe_lst (pa_cons (pe_cal c_is_steeper (E := E0) (hr.mono (by decide)) rfl passL (pa_cons (pv 3) (pa_cons (pv 4) pa_nil))) (pa_cons (pe_calW w_is_steeper (E := E0) (hr.mono (by decide)) rfl passL (pk_cons (pe_callTy call_list_of rfl T.list (by decide +kernel) (pa_cons (pv 3) pa_nil)) (pk_cons (pe_callTy call_list_of rfl T.list (by decide +kernel) (pa_cons (pv 4) pa_nil)) pk_nil))) pa_nil))) pa_nil)) (pe_callB (call_reprB hg (Nat.lt_of_le_of_lt (Nat.add_le_add_left (by decide : 10 ≤ 64) _) hr.units)) (by rfl) T.repr (by decide +kernel) (pa_cons (pv 5) pa_nil)) (nomark _)) (pw_or1 (pt_cmpR op_notBl (pe_cal c_is_steeper (E := E0) (hr.mono (by decide)) rfl passL (pa_cons (pv 3) (pa_cons (pv 3) pa_nil))) pe_bl (nomark _))))) (pss_one (ps_ret pe_bl)) pss_nil)
      (pss_cons (ps_if (PW.pt (pw_and (pt_cmpR (op_neD hr.units) (pv 3) (pv 4) (nomark _)) (pw_and1 (pt_not (pt_val (pe_cal c_between (hr.mono (by decide)) rfl pass0 (pa_cons (pv 3) (pa_cons (pv 4) pa_nil)))))))) (pss_one (ps_ret pe_bl)) pss_nil)
      (pss_one (ps_if (pt_not (pt_val (pe_cal c_refused (hr.mono (by decide)) rfl pass0 (pa_cons (pv 1) (pa_cons (pv 3) pa_nil))))) (pss_one (ps_ret pe_bl)) pss_nil))))))))
      (pss_cons (ps_set (i := 6) sc_law.nd rfl (.inl rfl) (pe_join pe_str (pe_lc (own := [("spot", 12)]) (g := gName 12) (tt := tYes) rfl sc_law.nd (pi_range1 rfl T.range (pa_cons (pe_cal c_draw (hr.mono (by decide)) rfl pass0 (pa_cons (pv 1) (pa_cons pe_int pa_nil))) pa_nil)) (blkOk_by (N := N_law) (sc := defScope s_law) (by decide +kernel)) (fun _ _ _ _ _ => pg_name (i := 12) sc_law.nd rfl (Or.inl rfl)) (fun _ _ _ _ _ => pts_nil) (fun _ _ _ _ _ => (pe_cal c_pick (hr.mono (by decide)) rfl pass0 (pa_cons (pv 1) (pa_cons (pe_lst (pa_cons pe_str (pa_cons pe_str pa_nil))) pa_nil)))))))
      (pss_cons (ps_asg (pe_cal c_sides (hr.mono (by decide)) rfl pass0 (pa_cons (pe_cal c_back (hr.mono (by decide)) rfl pass0 (pa_cons (pv 6) pa_nil)) pa_nil)) (pg_tup rfl (pgs_cons (pg_name (i := 7) sc_law.nd rfl (.inl rfl)) (pgs_cons (pg_name (i := 8) sc_law.nd rfl (.inl rfl)) pgs_nil))))
      (pss_cons (ps_for PassesOwn.never rfl (pi_range2 rfl T.range (pa_cons pe_int (pa_cons pe_int pa_nil))) (pg_name (i := 9) sc_law.nd rfl (.inr rfl)) (pss_one (ps_for PassesOwn.never rfl (pi_list (pe_lc (own := [("other", 4)]) (g := gName 4) (tt := tTest (tOp (rEqD K) (tCall (spR (preLow K)) [] E0 (tCons (tVar 9) (tCons (tVar 4) tNil))) (tTup (tCons (tVar 9) (tCons (tVar 4) tNil))))) rfl sc_law.nd (pi_range2 rfl T.range (pa_cons pe_int (pa_cons pe_int pa_nil))) (blkOk_by (N := N_law) (sc := defScope s_law) (by decide +kernel)) (fun _ _ _ _ _ => pg_name (i := 4) sc_law.nd rfl (Or.inl rfl)) (fun _ _ _ _ _ => pts_one (pt_cmpR (op_eqD hr.units) (pe_cal c_low (hr.mono (by decide)) rfl pass0 (pa_cons (pv 9) (pa_cons (pv 4) pa_nil))) (pe_tup (pa_cons (pv 9) (pa_cons (pv 4) pa_nil))) (nomark _))) (fun _ _ _ _ _ => pv 4))) (pg_name (i := 10) sc_law.nd rfl (.inl rfl)) (pss_cons (ps_set (i := 11) sc_law.nd rfl (.inl rfl) (pe_join pe_str (pe_lc (own := [("letter", 13), ("many", 14)]) (g := gTup K 2 (gCons (gName 13) (gCons (gName 14) gNil))) (tt := tYes) rfl sc_law.nd (pi_tup (pe_cal c_runs (hr.mono (by decide)) rfl pass0 (pa_cons (pe_tup (pa_cons (pv 9) (pa_cons (pv 10) pa_nil))) pa_nil))) (blkOk_by (N := N_law) (sc := defScope s_law) (by decide +kernel)) (fun _ _ _ _ _ => pg_tup rfl (pgs_cons (pg_name (i := 13) sc_law.nd rfl (Or.inl rfl)) (pgs_cons (pg_name (i := 14) sc_law.nd rfl (Or.inl rfl)) pgs_nil))) (fun _ _ _ _ _ => pts_nil) (fun _ _ _ _ _ => pe_op op_mulS (pv 13) (pv 14)))))
      (pss_one (ps_if (pt_cmpR op_ne (pe_cmpR op_eq (pe_slice sl_str (pv 11) po_none (po_some (pe_callB call_len_str (by rfl) T.len (by decide +kernel) (pa_cons (pv 6) pa_nil)))) (pv 6) (nomark _)) (pe_and (pe_cal c_is_steeper (E := E0) (hr.mono (by decide)) rfl passL (pa_cons (pe_tup (pa_cons (pv 9) (pa_cons (pv 10) pa_nil))) (pa_cons (pv 7) pa_nil))) (pe_one (pe_cal c_is_steeper (E := E0) (hr.mono (by decide)) rfl passL (pa_cons (pv 8) (pa_cons (pe_tup (pa_cons (pv 9) (pa_cons (pv 10) pa_nil))) pa_nil))))) (nomark _)) (pss_one (ps_ret pe_bl)) pss_nil))))))
      (pss_one (ps_ret pe_bl))))))), ?_⟩
    refine ⟨.ref a, rfl, a, ns, rfl, hs, hl, fun S H1 x1 d1 => ?_⟩
    have hT1 : Tabs TB H1 := K4.Tabs.dx x1 hT
    refine s_forR1 (ea_cons ev_c ea_nil) (by decide) (fun i σ' H' => ∃ (o2 o3 o4 o5 : Option V), σ' = [some (.ref a), some (.ref S.a), o2, o3, o4, o5, none, none, none, none, none, none, none, none, none] ∧ Dk S (i * 53) H' ∧ Tabs TB H') (fun H2 e2 => ⟨none, none, none, none, rfl, by rw [Nat.zero_mul]; exact d1.ex e2, K4.Tabs.dx (Ex.dx e2) hT1⟩) (fun i σ' H' hi hp => ?_) (fun σ' H' hp => ?_)
    · obtain ⟨o2, o3, o4, o5, rfl, dk, tb⟩ := hp
      have fu : i * 53 + 53 ≤ Fuel := by show _ ≤ 1000000; omega
      refine g_asg (k := 19) (R := Sv 200) (eg_call (vs := [.ref S.a]) (fun _ _ => ea_cons (ev_var rfl) ea_nil) (by omega) fun _ _ => ⟨rfl, rfl, rfl⟩) dk fun one H2 x2 d2 hone => ?_
      obtain ⟨p, q, tone, sone⟩ := hone
      have near : ∀ {σ : L2.St} {n' : Nat}, σ[1]? = some (some (.ref S.a)) → σ[3]? = some (some one) → n' + 6 ≤ Fuel → EvG S (tCall (spG preNear) [] E0 (tCons (tVar 1) (tCons (tVar 3) tNil))) σ H2 n' 6 (Sv 300) := fun i1 i3 hn => eg_call (fun _ _ => ea_cons (ev_var i1) (ea_cons (ev_var i3) ea_nil)) hn fun H3 x3 => ⟨one, p, q, rfl, tone.dx x3, sone, rfl, rfl⟩
      refine g_asg (k := 32) (R := Sv 300) (eg_pickJ (j := 1) (k := 31) (c := 3) (egaU (k1 := 19) (k2 := 12) (Sv.st _) (eg_imp (R := Sv 200) (eg_call (vs := [.ref S.a]) (fun _ _ => ea_cons (ev_var rfl) ea_nil) (by omega) fun _ _ => ⟨rfl, rfl, rfl⟩) fun v _ _ h => h.mono (by decide)) (egaU (k1 := 6) (k2 := 6) (Sv.st _) (near rfl rfl (by omega)) (egaU (k1 := 6) (k2 := 0) (Sv.st _) (near rfl rfl (by omega)) ega0))) (Sv.st _) (fun xs _ h => noDk_sv h) (by decide) (by decide) rfl (by omega)) d2 fun other H3 x3 d3 hother => ?_
      obtain ⟨r, s', toth, soth⟩ := hother
      have tone3 := tone.dx x3
      have sone3 : Sl 300 p q := sone.mono (by decide)
      have tb3 : Tabs TB H3 := K4.Tabs.dx (x2.trans x3) tb
      have B1 := sone3.bh (by decide)
      have B2 := soth.bh (by decide)
      have pre : ∀ {σ : L2.St} {i j : Nat} {u v : V} {p q r t : Int} {H1 : Hp}, σ[i]? = some (some u) → σ[j]? = some (some v) → Tt H1 u p q → Tt H1 v r t → Bh p ∧ Bh q → Bh r ∧ Bh t → Ev (tCall (spP (preUp K)) [] E0 (tCons (tVar i) (tCons (tVar j) tNil))) σ H1 (.bl (decide (t * p < q * r))) := fun hi hj h1 h2 b1 b2 =>
        ev_calP (ea_cons (ev_var hi) (ea_cons (ev_var hj) ea_nil)) fun H2 e2 => ⟨_, _, _, _, _, _, rfl, (h1.ex e2).tp, (h2.ex e2).tp, ⟨bh_bd b1.2, bh_bd b2.1, bh_bd b2.2, bh_bd b1.1⟩, rfl⟩
      refine s_asgL (xs := [.bl (decide (s' * p < q * r)), .bl (decide (q * r < s' * p))]) (el_lst (ea_cons (pre rfl rfl tone3 toth B1 B2) (ea_cons (pre rfl rfl toth tone3 B2 B1) ea_nil)) (by show 2 ≤ 100000; omega)) fun ld H4 _ e4 hld => ?_
      have tone4 := tone3.ex e4
      have toth4 := toth.ex e4
      obtain ⟨ao, rfl, hao⟩ := id tone4
      obtain ⟨ah, rfl, hah⟩ := id toth4
      refine s_if (b := false) (et_is (et_or (et_test (ev_op (ev_reprN (el_lst (ea_cons (ev_steep (bd := 300) (by decide) (ea_cons (ev_var rfl) (ea_cons (ev_var rfl) ea_nil)) (fun H1 e => slantT (tone4.ex e) sone3) (fun H1 e => slantT (toth4.ex e) soth) sone3 soth) (ea_cons (ev_steepW (bd := 300) (by decide) (el_listT (ev_var rfl) hao) (el_listT (ev_var rfl) hah) soth sone3) ea_nil)) (by show 2 ≤ 100000; omega))) (ev_reprV (ev_var rfl) hld) (rv_ne rfl))) fun _ => et_test (ev_op (ev_steep (bd := 300) (by decide) (ea_cons (ev_var rfl) (ea_cons (ev_var rfl) ea_nil)) (fun H1 e => slantT (tone4.ex e) sone3) (fun H1 e => slantT (tone4.ex e) sone3) sone3 sone3) ev_c rv_notBl)) (by simp)) (fun z => by cases z) (fun _ H5 e5 => ?_)
      have tone5 := tone4.ex e5
      have toth5 := toth4.ex e5
      refine s_if (b := false) (et_is (et_and (b := false) (et_test (ev_op (ev_var rfl) (ev_var rfl) (rv_ne2 (K := K) tone5.tp toth5.tp))) fun hne => et_is (et_not (et_B (b := true) (ev_calP (ea_cons (ev_var rfl) (ea_cons (ev_var rfl) ea_nil)) fun H6 e6 => ⟨_, _, p, q, r, s', rfl, tone5.ex e6, toth5.ex e6, sone3, soth, (fun z => by
        rw [decide_eq_true z.1, decide_eq_true z.2] at hne
        cases hne), rfl⟩))) rfl) (Bool.and_false _)) (fun z => by cases z) (fun _ H6 e6 => ?_)
      have x6 := Ex.dx ((e4.trans e5).trans e6)
      exact s_if_ref (i := 1) (j := 3) rfl rfl (tone5.ex e6) sone3 (K4.Tabs.dx x6 tb3) (d3.ex ((e4.trans e5).trans e6)) (by omega) fun H7 d7 t7 => ⟨_, _, _, _, rfl, d7.le (by omega), t7⟩
    · obtain ⟨o2, o3, o4, o5, rfl, dk, tb⟩ := hp
      have fu : (8 : Int).toNat * 53 + 100 ≤ Fuel := by decide
      have stx : StL RTx := fun _ _ _ _ h => h
      have pick : ∀ (y : V) (n' : Nat), n' + 1 ≤ (8 : Int).toNat * 53 + 1 + 8 * 1 → EvG S (tCall (spG prePick) [] E0 (tCons (tVar 1) (tCons (tLst (tCons (tC (.str "a")) (tCons (tC (.str "b")) tNil))) tNil))) ((wipe [some (.ref a), some (.ref S.a), o2, o3, o4, o5, none, none, none, none, none, none, none, none, none] [12]).set 12 (some y)) H' n' 1 RTx := fun y n' hn' =>
        eg_pickJ (j := 1) (k := 0) (c := 2) (egaU (k1 := 0) (k2 := 0) stx.dx (eg_v (fun _ _ => ev_c) fun _ _ => ⟨true, rfl⟩) (egaU (k1 := 0) (k2 := 0) stx.dx (eg_v (fun _ _ => ev_c) fun _ _ => ⟨false, rfl⟩) ega0)) stx.dx (fun xs _ h => noDk_str h) (by decide) (by decide) rfl (by omega)
      refine g_asg (k := 1 + 8 * 1) (R := fun v _ => ∃ bs : List Bool, bs.length ≤ 8 ∧ v = .str (txt bs)) (eg_join (C := fun c => c ≤ 8) (m := 8) (fun _ h => h) (by decide) (eg_lcR (m := 8) (k0 := 1) (k := 1) (C := fun c => c ≤ 8) (eg_imp (eg_call (R := fun v _ => ∃ i : Int, v = .int i ∧ 0 ≤ i ∧ i < 9) (fun _ _ => ea_cons (ev_var rfl) (ea_cons ev_c ea_nil)) (by omega) fun _ _ => ⟨9, rfl, by decide, by decide, rfl, rfl⟩) fun v _ _ ⟨i, e, i0, i1⟩ => ⟨i.toNat, by rw [e, Int.toNat_of_nonneg i0], by omega⟩) (fun _ h => h) (by decide) (fun _ => rfl) pick stx (fun c acc H _ h => noDk_str h))) dk fun v H3 x3 d3 hv => ?_
      obtain ⟨bs, lb, rfl⟩ := hv
      obtain ⟨bk1, bk2, bk3, bk4⟩ := bk_bound bs
      have l8 := two_le lb
      have l9 : (2 : Nat) ^ 9 < 2 ^ 900 := Nat.pow_lt_pow_right (by decide) (by decide)
      have SD := sd_sd bs
      have gbk : Int.gcd (bk bs).1 (bk bs).2 = 1 := gcd_one (a := (sd bs).f0) (b := (sd bs).f1) (by rw [← SD.e0, ← SD.e1, ← SD.det]; grind)
      refine s_unpEN (p := (bk bs).1) (q := (bk bs).2) (evr_callRR (R := fun v H => Tp K H v (bk bs).1 (bk bs).2) (evr_calR (ea_cons (ev_var rfl) ea_nil) fun H4 _ => ⟨bs, rfl, by omega, rfl⟩) fun v H4 e4 hv => ⟨v, _, _, rfl, hv, bk1, bk2, gbk, ⟨Nat.lt_trans (show (bk bs).1.natAbs < 2 ^ 9 by omega) l9, Nat.lt_trans (show (bk bs).2.natAbs < 2 ^ 9 by omega) l9⟩, rfl⟩) fun ve vn e0 e1 n0 n1 H4 e4 te tn sdd => ?_
      obtain ⟨rfl, rfl, rfl, rfl⟩ := sdd.uniq bk1 bk2 SD
      obtain ⟨sl1, sl2⟩ := sd_sl bs lb
      refine s_forR2 (ea_cons ev_c (ea_cons ev_c ea_nil)) (by decide) (fun i σ' H' => ∃ (o9 o10 o11 : Option V), σ' = [some (.ref a), some (.ref S.a), o2, o3, o4, o5, some (.str (txt bs)), some ve, some vn, o9, o10, o11, none, none, none] ∧ Ex H4 H') (fun H5 e5 => ⟨none, none, none, rfl, e5⟩) (fun i σ' H' hi hp => ?_) (fun σ' H' hp => ?_)
      · obtain ⟨o9, o10, o11, rfl, eH⟩ := hp
        obtain ⟨Pn, hPn, Pn1, Pn2⟩ : ∃ Pn : Int, Pn = 1 + (i : Int) ∧ 1 ≤ Pn ∧ Pn ≤ 13 := ⟨1 + (i : Int), rfl, by omega, by omega⟩
        rw [← hPn]
        have BP : Bd Pn := Nat.lt_trans (show Pn.natAbs < 2 ^ 9 by omega) (Nat.pow_lt_pow_right (by decide) (by decide))
        refine s_forNL (xs := given (14 - (1 : Int)).toNat (fun n => decide (Pn / (Int.gcd Pn (1 + (n : Int)) : Int) = Pn) && decide ((1 + (n : Int)) / (Int.gcd Pn (1 + (n : Int)) : Int) = 1 + (n : Int))) fun n => .int (1 + (n : Int)))
          (el_lcR2 (lo := 1) (m := 14) _ _ (ea_cons ev_c (ea_cons ev_c ea_nil)) (by decide) (by decide) (fun _ => rfl) (fun n H5 e5 hn => et_test (ev_eq2 (K := K) ((evr_calR (P := fun v H => Tt H v (Pn / (Int.gcd Pn (1 + (n : Int)) : Int)) ((1 + (n : Int)) / (Int.gcd Pn (1 + (n : Int)) : Int))) (ea_cons (ev_var rfl) (ea_cons (ev_var rfl) ea_nil)) fun H6 _ => ⟨Pn, 1 + (n : Int), rfl, Pn1, by omega, BP, rfl⟩).imp fun v H6 h => h.tp) (evr_tup (K := K) (ea_cons (ev_var rfl) (ea_cons (ev_var rfl) ea_nil))))) (fun n H5 e5 hn _ => ev_var rfl))
          (fun l j σ' H' => ∃ (o10 o11 : Option V), σ' = [some (.ref a), some (.ref S.a), o2, o3, o4, o5, some (.str (txt bs)), some ve, some vn, some (.int Pn), o10, o11, none, none, none] ∧ Ex H4 H' ∧ H' l = some (.lst (given (14 - (1 : Int)).toNat (fun n => decide (Pn / (Int.gcd Pn (1 + (n : Int)) : Int) = Pn) && decide ((1 + (n : Int)) / (Int.gcd Pn (1 + (n : Int)) : Int) = 1 + (n : Int))) fun n => .int (1 + (n : Int))))) (fun l H5 _ e5 hl5 => ⟨o10, o11, rfl, eH.trans e5, hl5⟩) (fun l j σ' H' _ hp => by obtain ⟨_, _, _, _, hh⟩ := hp; exact sq_of hh) (fun l j x σ' H' hx hp => ?_) (fun l σ' H' hp => ?_)
        · obtain ⟨o10, o11, rfl, eH5, hl5⟩ := hp
          obtain ⟨n, hn, hf, rfl⟩ := mem_given (List.mem_of_getElem? hx)
          obtain ⟨Qn, hQn, Qn1, Qn2⟩ : ∃ Qn : Int, Qn = 1 + (n : Int) ∧ 1 ≤ Qn ∧ Qn ≤ 13 := ⟨1 + (n : Int), rfl, by omega, by omega⟩
          rw [← hQn] at hf ⊢
          have gPQ : Int.gcd Pn Qn = 1 := low_one Pn1 (of_decide_eq_true (Bool.and_eq_true_iff.mp hf).1)
          have b13 : (13 : Int) < 2 ^ 300 := by decide
          have sPQ : Sl 300 Pn Qn := ⟨by omega, by omega, gPQ, by omega, by omega⟩
          have BhPQ := sPQ.bh (by decide)
          refine s_asgR (evr_path (K := K) (p := Pn) (q := Qn) (i := 13) (j := 14) (vsl := [13, 14]) (by omega) (by omega) (evr_callRR (R := fun v H => Tp K H v Pn Qn) (evr_tup (ea_cons (ev_var rfl) (ea_cons (ev_var rfl) ea_nil))) fun v H6 e6 hv => ⟨v, Pn, Qn, rfl, hv, Pn1, Qn1, gPQ, BhPQ, rfl⟩) (fun _ _ => rfl) (fun _ _ => rfl) (fun _ _ => rfl)) fun v H6 e6 hv => ?_
          obtain ⟨rs, hrun, rfl⟩ := hv
          have te6 := te.ex (eH5.trans e6)
          have tn6 := tn.ex (eH5.trans e6)
          have z1 : (txt (pathOf rs)).length ≤ sizeLine := by
            rw [txt_len, sizeLine_eq]
            have := path_len hrun
            omega
          have z2 : (txt bs).length ≤ sizeLine := by
            rw [txt_len, sizeLine_eq]
            omega
          refine s_if (b := false) (et_is (et_test (ev_op (ev_op (ev_cut rfl rfl z1 z2) (ev_var rfl) (rv_eq rfl)) (ev_andV (ev_steep1 (bd := 300) (p := Pn) (q := Qn) (r := (sd bs).f0) (s := (sd bs).f1) (by decide) (evr_tt (ea_cons (ev_var rfl) (ea_cons (ev_var rfl) ea_nil))) (ev_var rfl) (fun H7 e7 => te6.ex e7) sPQ sl1) (fun _ => ev_steep2 (bd := 300) (p := (sd bs).s0) (q := (sd bs).s1) (r := Pn) (s := Qn) (by decide) (ev_var rfl) (fun H7 e7 => tn6.ex e7) (evr_tt (ea_cons (ev_var rfl) (ea_cons (ev_var rfl) ea_nil))) sl2 sPQ)) rv_eqBl)) (by rw [last_ok hrun]; simp)) (fun z => by cases z) (fun _ H7 e7 => ⟨_, _, rfl, (eH5.trans e6).trans e7, (e6.trans e7) _ _ hl5⟩)
        · obtain ⟨o10, o11, rfl, eH5, _⟩ := hp
          exact ⟨_, _, _, rfl, eH5⟩
      · exact k H'
end
end K4

set_option Elab.async false
set_option linter.all false
set_option maxRecDepth 100000
set_option maxHeartbeats 4000000
/-! the law's end, where the law itself asks that no guard runs -/
namespace K4
open PySem PySem.Spec PyProof.Rows L2 LamX GD
section
variable {P : Program} {w : World} {K : PySem.W.Frag} {mg mb : Str → Option Value} {k : Nat} {fa a c T : Addr} {fd : FuncData} {x : Str} {sp : Sp} {s₁ : Shared} {vs : List Value} {ns : List Int}
/-- the part of the heap that is not tracked serves as the base -/
theorem base_of {H : Hp} (hT : s₁.heap.get? T = some { cls := .none, data := .fields #[] }) (ha : s₁.heap.get? a = some { cls := .type "list", data := .seq vs.toArray }) (hA : ∀ b, H b ≠ none → b = a ∨ b = T) {b : Addr} {o : Obj} (e : s₁.heap.get? b = some o)
    (h1 : ∀ vs n, o.data ≠ .seq vs n) (h2 : o.data ≠ .fields #[]) : (hidT s₁.heap H).get? b = some o := by
  refine hidT_get e ?_
  by_cases q : H b = none
  · exact q
  · rcases hA b q with rfl | rfl
    · rw [ha] at e
      cases e
      exact absurd rfl (h1 _ _)
    · rw [hT] at e
      cases e
      exact absurd rfl h2
theorem ns_of {H : Hp} (hT : s₁.heap.get? T = some { cls := .none, data := .fields #[] }) (ha : s₁.heap.get? a = some { cls := .type "list", data := .seq vs.toArray }) (hA : ∀ b, H b ≠ none → b = a ∨ b = T) {b : Addr} {m : Str → Option Value} (h : s₁.heap.Ns b m) : (hidT s₁.heap H).Ns b m := by
  obtain ⟨o, es, ep, e, d, r⟩ := h
  exact ⟨o, es, ep, base_of hT ha hA e (fun _ _ z => by rw [d] at z; cases z) (fun z => by rw [d] at z; cases z), d, r⟩
theorem law_core {H : Hp} (KX : K.In s₁.heap) (hns : s₁.heap.Ns mainGlobals mg) (hb : s₁.heap.Ns builtinsNs mb) (hbb : ∀ x : Str, x ≠ "__name__" → mb x = bootBuiltins x) (hlim : s₁.heap.NoLimit) (hg : s₁.gens = #[])
    (hT : s₁.heap.get? T = some { cls := .none, data := .fields #[] }) (nT : K.lookup T = none) (C : PySem.W.CodeHd s₁.heap c T)
    (hbm : ∃ (bm : Addr) (ob : Obj), mg "__builtins__" = some (.ref bm) ∧ bm ≠ builtinsNs ∧ s₁.heap.get? bm = some ob ∧ ob.cls = .type "module" ∧ ob.dict = some builtinsNs ∧ ob.data = .plain)
    (ha : s₁.heap.get? a = some { cls := .type "list", data := .seq vs.toArray }) (hr : Room k callerA)
    (F : ∀ base : Heap, K.In base → base.Ns mainGlobals mg → TabB base mg c T → FnOkG P w K mg base CX0 k fa fd [x] sp) (hbind : ∀ (s : Shared) (u : Value), BindsTo s fd ⟨[u], []⟩ [(x, u)])
    (hsp : sp [.ref a] H (fun v _ => v = .bl true) fun _ _ _ => False)
    (HT : H T = some (.tbl #[])) (HO : ∀ b, b ≠ T → H b = none ∨ ∃ o xs, H b = some (.frz o (.lst xs))) (hA : ∀ b, H b ≠ none → b = a ∨ b = T) (hK : H a ≠ none → K.lookup a = none) (hok : HOk P w H s₁.heap) :
    codeAny (model P w) callerA (.call (.ref fa) ⟨[.ref a], []⟩) (fun r s' => r = .ok (.ret (.bool true)) ∧ OldK s₁.heap s'.heap ∧ s'.os = s₁.os ∧ AllBare s'.gens) s₁ := by
  have keepK : K.In (hidT s₁.heap H) := fun b o e => by
    refine hidT_get (KX b o e) ?_
    by_cases q : H b = none
    · exact q
    · rcases hA b q with rfl | rfl
      · rw [hK q] at e
        cases e
      · rw [nT] at e
        cases e
  have NG := ns_of hT ha hA hns
  have M : L2.Mod K mg (hidT s₁.heap H) := ⟨keepK, NG, ⟨mb, ns_of hT ha hA hb, hbb⟩, hlim.imp fun _ z => ⟨ns_of hT ha hA z.1, z.2⟩⟩
  have gT : mainGlobals ≠ T := fun z => by
    obtain ⟨o, es, ep, e, d, _⟩ := hns
    rw [z, hT] at e
    cases e
    cases d
  have tab : TabB (hidT s₁.heap H) mg c T := by
    refine ⟨?_, ?_, gT⟩
    · obtain ⟨o, us, file, tf, flags, tg, inF, text, tt, e1, r1, r2, r3, r⟩ := C
      exact ⟨o, us, file, tf, flags, tg, inF, text, tt, base_of hT ha hA e1 (fun _ _ z => by rw [r2] at z; cases z) (fun z => by rw [r2] at z; cases z; simp at r3), r1, r2, r3, r⟩
    · obtain ⟨bm, ob, b1, b2, b3, b4, b5, b6⟩ := hbm
      refine ⟨bm, ob, b1, b2, fun q => ?_, fun q => ?_, base_of hT ha hA b3 (fun _ _ z => by rw [b6] at z; cases z) (fun z => by rw [b6] at z; cases z), b4, b5, b6⟩
      · obtain ⟨o, es, ep, e, hd, _⟩ := hns
        rw [q, e] at b3
        cases b3
        rw [hd] at b6
        cases b6
      · rw [q, hT] at b3
        cases b3
        cases b6
  have e0 : Env0 P w K mg (hidT s₁.heap H) callerA [] s₁ H := ⟨rfl, M, fun b o e => of_hidT e, Nat.le_of_eq (hidT_size _ _), trivial, fun b hb => absurd (show b ∈ ([] : List Addr) from hb) (by simp), hok, .of_eq hg⟩
  refine codeAny_mono ((F _ keepK NG tab).run callerA [] s₁ H ⟨[.ref a], []⟩ [.ref a] [.ref a] _ _ rfl hr e0 (hbind s₁ (.ref a)) (.cons rfl .nil) hsp) fun r s' h => ?_
  cases r with
  | error e => exact (show False from h).elim
  | ok fl =>
    cases fl with
    | next => exact False.elim h
    | brk => exact False.elim h
    | cont => exact False.elim h
    | ret u =>
      obtain ⟨v, H', os, bare, un, hok', rv, rfl⟩ := h
      obtain rfl : u = Value.bool true := rv
      have stay : ∀ b o, b ≠ T → s₁.heap.get? b = some o → s'.heap.get? b = some o := fun b o nb e => by
        rcases HO b nb with q | ⟨ob, xs, q⟩
        · exact un.keep b o e q (by intro z; exact absurd (show b ∈ ([] : List Addr) from z) (by simp)) (by simp)
        · have f1 := (hok b _ q).1
          have f2 := (hok' b _ (un.frzs b ob _ q)).1
          rw [e] at f1
          cases f1
          exact f2
      obtain ⟨more, z⟩ := un.tbls T #[] HT
      have grown : s'.heap.get? T = some { cls := .none, data := .fields (#[] ++ more) } := hok' T _ z
      refine ⟨rfl, ⟨fun b o e => ?_, fun b o e => ?_⟩, os, bare⟩
      · by_cases hb : b = T
        · subst hb
          rw [hT] at e
          cases e
          exact .inr (.inl ⟨(C.tab hT).isCodeTable, rfl, #[], more, rfl, grown⟩)
        · exact .inl (stay b o hb e)
      · by_cases hb : b = T
        · exact ⟨_, by rw [hb]; exact grown⟩
        · exact ⟨o, stay b o hb e⟩
theorem law_end (KX : K.In s₁.heap) (hns : s₁.heap.Ns mainGlobals mg) (hb : s₁.heap.Ns builtinsNs mb) (hbb : ∀ x : Str, x ≠ "__name__" → mb x = bootBuiltins x) (hlim : s₁.heap.NoLimit) (hg : s₁.gens = #[])
    (hT : s₁.heap.get? T = some { cls := .none, data := .fields #[] }) (nT : K.lookup T = none) (C : PySem.W.CodeHd s₁.heap c T)
    (hbm : ∃ (bm : Addr) (ob : Obj), mg "__builtins__" = some (.ref bm) ∧ bm ≠ builtinsNs ∧ s₁.heap.get? bm = some ob ∧ ob.cls = .type "module" ∧ ob.dict = some builtinsNs ∧ ob.data = .plain)
    (ha : s₁.heap.get? a = some { cls := .type "list", data := .seq vs.toArray }) (hi : IntsAre vs ns) (hl : ns.length ≤ sizeLine) (hr : Room k callerA)
    (F : ∀ base : Heap, K.In base → base.Ns mainGlobals mg → TabB base mg c T → FnOkG P w K mg base CX0 k fa fd [x] sp) (hbind : ∀ (s : Shared) (u : Value), BindsTo s fd ⟨[u], []⟩ [(x, u)])
    (hsp : ∀ H : Hp, H T = some (.tbl #[]) → SqL K H a (ns.map V.int) → sp [.ref a] H (fun v _ => v = .bl true) fun _ _ _ => False) :
    codeAny (model P w) callerA (.call (.ref fa) ⟨[.ref a], []⟩) (fun r s' => r = .ok (.ret (.bool true)) ∧ OldK s₁.heap s'.heap ∧ s'.os = s₁.os ∧ AllBare s'.gens) s₁ := by
  have rv := vals_ints hi
  have aT : a ≠ T := fun z => by
    rw [z, hT] at ha
    cases ha
  cases hk : K.lookup a with
  | some o =>
    have e := KX a o hk
    rw [ha] at e
    cases e
    have hS : SqL K (fun b => if b = T then some (.tbl #[]) else none) a (ns.map V.int) := .inr ⟨_, vs.toArray, _, hk, rfl, rfl, rfl, by rw [List.size_toArray, hi.length]; exact hl, by simpa using rv⟩
    refine law_core KX hns hb hbb hlim hg hT nT C hbm ha hr F hbind (hsp _ (if_pos rfl) hS) (if_pos rfl) (fun b nb => .inl (if_neg nb)) (fun b q => ?_) (fun q => absurd (if_neg aT) q) (fun b u z => ?_)
    · by_cases hb : b = T
      · exact .inr hb
      · exact absurd (if_neg hb) q
    · by_cases hb : b = T
      · subst hb
        have z' := (if_pos rfl).symm.trans z
        cases z'
        exact hT
      · have z' := (if_neg hb).symm.trans z
        cases z'
  | none =>
    have hS : SqL K (fun b => if b = T then some (.tbl #[]) else if b = a then some (.frz { cls := .type "list", data := .seq vs.toArray } (.lst (ns.map V.int))) else none) a (ns.map V.int) := .inl (.inr ⟨{ cls := .type "list", data := .seq vs.toArray }, (if_neg aT).trans (if_pos rfl)⟩)
    refine law_core KX hns hb hbb hlim hg hT nT C hbm ha hr F hbind (hsp _ (if_pos rfl) hS) (if_pos rfl) (fun b nb => ?_) (fun b q => ?_) (fun _ => hk) (fun b u z => ?_)
    · by_cases hb : b = a
      · exact .inr ⟨_, _, (if_neg nb).trans (if_pos hb)⟩
      · exact .inl ((if_neg nb).trans (if_neg hb))
    · by_cases hb : b = T
      · exact .inr hb
      · by_cases hb2 : b = a
        · exact .inl hb2
        · exact absurd ((if_neg hb).trans (if_neg hb2)) q
    · by_cases hb : b = T
      · subst hb
        have z' := (if_pos rfl).symm.trans z
        cases z'
        exact hT
      · have z1 := (if_neg hb).symm.trans z
        by_cases hb2 : b = a
        · subst hb2
          have z' := (if_pos rfl).symm.trans z1
          cases z'
          exact ⟨ha, by rw [List.length_map]; exact hl, vs, _, rv, ha⟩
        · have z' := (if_neg hb2).symm.trans z1
          cases z'
end
/-- the walk's end -/
theorem walk_end {l : PySem.W.OpenLaw} {n k : Nat} {q : Program} {loose : List Str} {XP : (Str → Option Value) → Heap → Prop} {YP : World → Heap → Prop} {d : DefRec} {x : Str}
    (hn : l.most = some n) (hn2 : n ≤ sizeLine) (hdf : d.params.defaults = []) (hr : Room k callerA)
    (F : ∀ (w : World) (mg : Str → Option Value) (fa : Addr) (h : Heap), YP w h → h.Ns mainGlobals mg → mg d.name = some (.ref fa) → ∃ (K : PySem.W.Frag) (fd : FuncData) (c T : Addr) (sp : Sp), K.In h ∧ h.get? T = some { cls := .none, data := .fields #[] } ∧ K.lookup T = none ∧ PySem.W.CodeHd h c T ∧ (∀ (s : Shared) (u : Value), BindsTo s fd ⟨[u], []⟩ [(x, u)]) ∧
      (∀ (H : Hp) (a : Addr) (ns : List Int), ns.length ≤ n → H T = some (.tbl #[]) → SqL K H a (ns.map V.int) → sp [.ref a] H (fun v _ => v = .bl true) fun _ _ _ => False) ∧
      ∀ base : Heap, K.In base → base.Ns mainGlobals mg → TabB base mg c T → FnOkG l.prog w K mg base CX0 k fa fd [x] sp) :
    PySem.W.WalkO q loose XP YP l.row.toRowW d [] (fun f vs => PySem.call f vs) := by
  refine Att.attach_callB hn hdf fun w s₀ s₁ mg mb fa o pm cd doc a vs ns G Y ho hd hcd hmg hobj hints hlen hbits hg => ?_
  obtain ⟨K, fd, c, T, sp, KX, hT, nT, C, hb, hsp, hF⟩ := F w mg fa _ Y G.T.g hmg
  exact law_end KX G.T.g G.T.b G.T.builtins G.T.nolimit hg hT nT C G.T.bmain hobj hints (Nat.le_trans hlen hn2) hr hF hb fun H hH hS => hsp H a ns hlen hH hS
end K4

set_option Elab.async false
set_option linter.all false
set_option maxRecDepth 100000
set_option maxHeartbeats 4000000
namespace K4
open PySem PySem.Spec PyProof.Rows L2 GA GB He
/-! ### an own exception class, by Bools -/
def oexB (K : PySem.W.Frag) (C : Addr) : Bool := (match K.lookup C with
    | some ⟨.type t, _, .cls cd, sl⟩ => decide (t = "type") && (cd.hasDict && (!cd.hasDel && ((match cd.mro with
      | .ref C' :: bm => decide (C' = C) && PySem.HandSPX.refsVE bm
      | _ => false) && (match sl.toList with
      | [_, _, _, _, some (.builtin n), _] => decide (n = "ValueError.__new__")
      | _ => false))))
    | _ => false)
theorem oexB_ok {K : PySem.W.Frag} {C : Addr} (h : oexB K C = true) : ∃ nm q N bs bm sn sub ab col dd k0 k1 k2 k3 k5, K.lookup C = some (excClassObj nm q C N bs bm true sn sub ab col dd k0 k1 k2 k3 k5 "ValueError.__new__") ∧ PySem.HandSPX.refsVE bm = true := by
  unfold oexB at h
  split at h
  · next t dd cd sl e =>
    obtain ⟨h1, h⟩ := ba h
    obtain ⟨h2, h⟩ := ba h
    obtain ⟨h3, h⟩ := ba h
    obtain ⟨h4, h5⟩ := ba h
    split at h4
    · rename_i C' bm hm
      obtain ⟨h6, h7⟩ := ba h4
      split at h5
      · rename_i k0 k1 k2 k3 n k5 hs
        have e1 : t = "type" := of_decide_eq_true h1
        have e2 : C' = C := of_decide_eq_true h6
        have e3 : n = "ValueError.__new__" := of_decide_eq_true h5
        obtain ⟨nm, bs, mro, ns, qn, hd, sn, sub, ab, col, del⟩ := cd
        dsimp only at hm h2 h3
        have e4 : del = false := by
          cases del with
          | false => rfl
          | true => cases h3
        have es2 : sl = #[k0, k1, k2, k3, some (.builtin n), k5] := by
          obtain ⟨l⟩ := sl
          simp only at hs
          rw [hs]
        have e5 : hd = true := h2
        rw [hm, es2, e1, e2, e3, e4, e5] at e
        exact ⟨nm, qn, ns, bs, bm, sn, sub, ab, col, dd, k0, k1, k2, k3, k5, e, h7⟩
      · cases h5
    · cases h4
  · cases h
def eqB (a b : Option Bool) : Bool := decide (a = b)
def excB (K : PySem.W.Frag) (D : Addr) : Bool := eqO (PySem.W.findIn K (.ref D) "__getattribute__") (some (some (.builtin "BaseException.__getattribute__"))) && (eqO (PySem.W.findIn K (.ref D) "__getattr__") (some none) && (eqB (PySem.W.subIn K (.ref D) (.type "BaseException")) (some true) && (PySem.W.hasDictIn K D &&
  (eqO (PySem.W.findIn K (.ref D) "__class__") (some (some (.builtin "object.__class__"))) && (eqO (PySem.W.specialIn K (.builtin "object.__class__") "__get__") (some (some (.builtin "getset_descriptor.__get__"))) && (eqB (PySem.W.takesIn K (.builtin "object.__class__")) (some true) && eqB (PySem.W.mroIn K D (.type "object")) (some true)))))))
theorem excB_ok {K : PySem.W.Frag} {D : Addr} (h : excB K D = true) : ExcC K D ∧ XfC K D := by
  obtain ⟨h1, h⟩ := ba h
  obtain ⟨h2, h⟩ := ba h
  obtain ⟨h3, h⟩ := ba h
  obtain ⟨h4, h⟩ := ba h
  obtain ⟨h5, h⟩ := ba h
  obtain ⟨h6, h⟩ := ba h
  obtain ⟨h7, h8⟩ := ba h
  exact ⟨⟨eqO_ok h1, eqO_ok h2, of_decide_eq_true h3, h4, eqO_ok h5, eqO_ok h6, of_decide_eq_true h7, of_decide_eq_true h8⟩, ⟨eqO_ok h1, eqO_ok h2, of_decide_eq_true h3, h4⟩⟩
/-- its __init__ -/
def iniB (K : PySem.W.Frag) (file : Str) (C f : Addr) (qual : Str) : Bool := match K.lookup f with
  | some ⟨_, _, .func fd, _⟩ => (match fd.closure, fd.defaults, fd.kwdefaults, fd.code with
    | [(_, cc)], .none, .none, .ref c => PySem.W.codeIn K (.ref c) qual && ((match K.lookup c with
      | some ⟨_, _, .fields vs, _⟩ => (match (vs[2]? : Option Value) with
        | some (.str fl _) => file == fl
        | _ => false)
      | _ => false) && (match K.lookup cc with
      | some ⟨_, _, .cell (some (.ref x)), _⟩ => decide (x = C)
      | _ => false))
    | _, _, _, _ => false)
  | _ => false
abbrev IniV : Type := Option (Str × Str × Arguments × FuncBody × Scope × Addr × List Str × Addr)
def iniObs (K : PySem.W.Frag) (p : Defn) : IniV := match K.lookup (fAd K p) with
  | some ⟨_, _, .func fd, _⟩ => some (fd.name, fd.qualname, fd.params, fd.body, fd.scope, fd.globals, fd.closure.map (·.1), fd.builtins)
  | _ => none
theorem ini_ok {K : PySem.W.Frag} {p : Defn} {file qual : Str} {C : Addr} {params : Arguments} {body : List Stmt} {scope : Scope} (h : iniB K file C (fAd K p) qual = true) (e : iniObs K p = (some (("__init__" : Str), qual, params, FuncBody.stmts body, scope, mainGlobals, [("__class__" : Str)], builtinsNs) : IniV)) :
    ∃ (cc c : Addr) (fd : FuncData), (∃ (oc : Value) (od an : Option Addr) (doc pm ct : Value) (osl : Array (Option Value)), fd = PySem.W.fnX "__init__" qual params body scope [("__class__", cc)] .none .none doc pm an (.ref c) ct ∧ K.lookup (fAd K p) = some ⟨oc, od, .func fd, osl⟩) ∧ PySem.W.codeIn K (.ref c) qual = true ∧
      (∃ (oc : Value) (od : Option Addr) (vs : Array Value) (osl : Array (Option Value)) (fl : Str) (tf : Tok), K.lookup c = some ⟨oc, od, .fields vs, osl⟩ ∧ vs[2]? = some (.str fl tf) ∧ (file == fl) = true) ∧ (∃ (oc : Value) (od : Option Addr) (osl : Array (Option Value)), K.lookup cc = some ⟨oc, od, .cell (some (.ref C)), osl⟩) := by
  unfold iniB at h
  unfold iniObs at e
  split at h
  · next oc od fd osl lk =>
    rw [lk] at e
    obtain ⟨n1, n2, n3, n4, n5, n6, n7, n8, n9, n10, n11, n12, n13, n14, n15⟩ := fd
    dsimp only at h e
    simp only [Option.some.injEq, Prod.mk.injEq] at e
    obtain ⟨h1, h2, h3, h4, h5, h6, h7, h8⟩ := e
    split at h
    · next a cc c =>
      have ea : a = "__class__" := by
        have z : [a] = [("__class__" : Str)] := h7
        exact (List.cons.inj z).1
      obtain ⟨c1, h⟩ := ba h
      obtain ⟨c2, c3⟩ := ba h
      subst h1 h2 h3 h4 h5 h6 h8 ea
      refine ⟨cc, c, _, ⟨oc, od, n12, n10, n11, n14, osl, rfl, lk⟩, c1, ?_, ?_⟩
      · split at c2
        · next oc2 od2 vs osl2 lc =>
          split at c2
          · next fl tf ev => exact ⟨oc2, od2, vs, osl2, fl, tf, lc, ev, c2⟩
          · cases c2
        · cases c2
      · split at c3
        · next oc3 od3 x osl3 lcc =>
          have ex : x = C := of_decide_eq_true c3
          subst ex
          exact ⟨oc3, od3, osl3, lcc⟩
        · cases c3
    · cases h
  · cases h
/-- the rest of what SupC tells -/
def supB (K : PySem.W.Frag) (C f : Addr) (fld : Str) : Bool := oexB K C && (eqO (PySem.W.findIn K (.ref C) "__setattr__") (some (some (.builtin "object.__setattr__"))) && (eqB (PySem.W.subIn K (.ref C) (.type "BaseException")) (some true) && (decide (PySem.W.typeIn K (.ref C) = some (.type "type")) && (PySem.W.keepIn K (.ref C) && (eqB (PySem.W.mroIn K C (.ref C)) (some true) &&
  (eqO (PySem.W.nsIn K cStatics "thirdparty.any") (some none) && (eqO (PySem.W.ks_superIn K C C "__init__") (some (some (.builtin "ValueError.__init__"))) && (eqB (PySem.W.subIn K (.ref C) (.type "ValueError")) (some true) && (eqO (PySem.W.findIn K (.ref C) fld) (some none) && (eqO (PySem.W.findIn K (.ref C) "__init__") (some (some (.ref f))) && decide (PySem.W.typeIn K (.ref f) = some (.type "function"))))))))))))
def kitB2 (K : PySem.W.Frag) (C D : Addr) (b : Bool) : Bool := eqB (PySem.W.kitOne K (.ref C) (.ref D)) (some b)
/-! ### the Hook -/
def asI (g : Addr → Option Obj) (n : Nat) : List Addr := cStatics :: asD g n
structure SaysI (fa : List Fa) (fn : List DefD) (tf : List Defn) (ex : PySem.W.Frag → Bool) (ins : List (Defn × IniV)) (h : Heap) (K : PySem.W.Frag) : Prop where
  d : SaysD fa fn K
  more : ex K = true
  hd : ∀ p ∈ tf, PySem.W.codeHdIn K (cT K p).1 (cT K p).2 = true
  out : ∀ p ∈ tf, K.lookup (cT K p).2 = none
  empty : ∀ p ∈ tf, h.get? (cT K p).2 = some { cls := .none, data := .fields #[] }
  ini : (ins.map fun q => iniObs K q.1) = ins.map (·.2)
abbrev AlI : Type := (AlD × Bool) × List IniV
def obsI (n : Nat) (fa : List Fa) (fn : List DefD) (tf : List Defn) (ex : PySem.W.Frag → Bool) (ins : List (Defn × IniV)) (g : Addr → Option Obj) : AlI := ((obsD fa fn (frT g (asI g n)), ex (frT g (asI g n)) && tabsB g tf (frT g (asI g n))), ins.map fun q => iniObs (frT g (asI g n)) q.1)
def valI (fn : List DefD) (ins : List (Defn × IniV)) : AlI := ((valD fn, true), ins.map (·.2))
theorem saysI_of {n : Nat} {fa : List Fa} {fn : List DefD} {tf : List Defn} {ex : PySem.W.Frag → Bool} {ins : List (Defn × IniV)} {h : Heap} (e : obsI n fa fn tf ex ins h.get? = valI fn ins) : SaysI fa fn tf ex ins h (frT h.get? (asI h.get? n)) := by
  have e1 := congrArg (fun z : AlI => z.1.1) e
  have e2 := congrArg (fun z : AlI => z.1.2) e
  have e3 := congrArg (fun z : AlI => z.2) e
  obtain ⟨h1, h2⟩ := ba (show (ex (frT h.get? (asI h.get? n)) && tabsB h.get? tf (frT h.get? (asI h.get? n))) = true from e2)
  have at_ : ∀ p ∈ tf, ∃ o, PySem.W.codeHdIn (frT h.get? (asI h.get? n)) (cT (frT h.get? (asI h.get? n)) p).1 (cT (frT h.get? (asI h.get? n)) p).2 = true ∧ h.get? (cT (frT h.get? (asI h.get? n)) p).2 = some o ∧ emptyTab o = true := fun p hp => by
    obtain ⟨h3, h4⟩ := ba (List.all_eq_true.mp h2 p hp)
    split at h4
    · next o q => exact ⟨o, h3, q, h4⟩
    · cases h4
  refine ⟨e1, h1, fun p hp => ?_, fun p hp => ?_, fun p hp => ?_, e3⟩
  · obtain ⟨_, z, _⟩ := at_ p hp
    exact z
  · obtain ⟨o, _, q, z⟩ := at_ p hp
    exact frT_none q z
  · obtain ⟨o, _, q, z⟩ := at_ p hp
    rw [q, emptyTab_eq z]
def hookI (n : Nat) (fa : List Fa) (fn : List DefD) (tf : List Defn) (ex : PySem.W.Frag → Bool) (ins : List (Defn × IniV)) : PySem.W.Hook where
  α := AlI
  obs := fun s => obsI n fa fn tf ex ins s.heap.get?
  val := fun _ => valI fn ins
  says := fun _ h => ∃ K : PySem.W.Frag, K.In h ∧ SaysI fa fn tf ex ins h K
  of := fun _ _ e => ⟨_, frT_in, saysI_of e⟩
  keeps := fun _ _ _ ⟨K, hK, c⟩ k => ⟨K, PySem.W.Frag.In.keeps hK k, ⟨c.d, c.more, c.hd, c.out, fun p hp => k _ _ (c.empty p hp), c.ini⟩⟩
end K4

set_option Elab.async false
set_option linter.all false
set_option maxRecDepth 100000
set_option maxHeartbeats 0
namespace K4
open PySem PySem.Spec PyProof.Rows L2 GA GB He
/-! ### what the head tells -/
def dD (x : Str) (i : Nat) : DefD := ⟨(x, none), x, x, defArgs (top i), defBody (top i), defScope (top i), [], []⟩
def fn1 : List DefD := [dD "is_integer" 11, dD "is_list" 12, dD "is_point" 13, dD "common" 14, dD "is_slant" 18, dD "added" 19, dD "steeper_in" 20, dD "leap" 21, dD "simplest_in" 22, dD "need_slant" 23, dD "is_steeper" 24, dD "simplest" 25]
def fn2 : List DefD := [dD "_law_deck" 27, dD "_law_draw" 28, dD "_law_pick" 29, dD "_law_low" 30, dD "_law_slant" 31, dD "_law_runs" 32, dD "_law_back" 33, dD "_law_heard" 34, dD "_law_up" 35, dD "_law_sides" 36, dD "_law_any" 37, dD "_law_near" 38, dD "_law_between_right" 39, dD "_law_refused_right" 40, dD "law" 41]
def fn : List DefD := fn1 ++ fn2
def glos : List Str := ["MirrorError", "BadNumber", "BadWay", "BadWord", "BadSpray", "Misfit", "NoSlant", "TooMany", "BadText", "EAST_SLANT", "NORTH_SLANT"]
def frees : List Str := ["isinstance", "int", "bool", "list", "tuple", "len", "all", "abs", "range", "repr", "super"]
def fa : List Fa := (fn.map fun d => Fa.glo d.name) ++ (glos.map Fa.glo ++ frees.map Fa.free)
def tf : List Defn := [("_law_refused_right", none)]
def iniSt (i : Nat) : Stmt := match top i with
  | .ClassDef _ _ _ (s :: _) _ _ _ _ _ _ _ => s
  | _ => .Pass ⟨0, 0, 0, 0⟩
def iniV (i : Nat) (q : Str) : IniV := some ("__init__", q, defArgs (iniSt i), .stmts (defBody (iniSt i)), defScope (iniSt i), mainGlobals, ["__class__"], builtinsNs)
def ins : List (Defn × IniV) := [(("BadWay", some "__init__"), iniV 3 "BadWay.__init__"), (("Misfit", some "__init__"), iniV 6 "Misfit.__init__")]
/-- one of the two error classes: x, what isinstance says of it -/
def errB (K : PySem.W.Frag) (x : Str) (b : Bool) : Bool := supB K (ga K x) (ma K (ga K x) "__init__") "part" && (iniB K PySem.Challenge.pw_whichways_k41_slants_in_order_of_steepne.main.file (ga K x) (ma K (ga K x) "__init__") (x ++ ".__init__") && (excB K (ga K x) && (eqB (PySem.W.exmOne K (.ref (ga K x)) (.ref (ga K "MirrorError"))) (some true) &&
  (kitB2 K (ga K x) (ga K "TooMany") false && (kitB2 K (ga K x) (ga K "BadText") false && (kitB2 K (ga K x) (ga K "NoSlant") false && (kitB2 K (ga K x) (ga K "BadWay") b && (kitB2 K (ga K x) (ga K "BadWord") false && (kitB2 K (ga K x) (ga K "Misfit") (!b) && (kitB2 K (ga K x) (ga K "BadSpray") false && kitB2 K (ga K x) (ga K "BadNumber") false))))))))))
def ex (K : PySem.W.Frag) : Bool := errB K "BadWay" true && (errB K "Misfit" false && (tupB K "EAST_SLANT" [.int 1, .int 0] && tupB K "NORTH_SLANT" [.int 0, .int 1]))
abbrev R : PySem.W.OpenRow := PySem.W.OpenLaw.row PySem.Challenge.rw_whichways_k41_slants_in_order_of_steepne
abbrev hk : PySem.W.Hook := hookI 4 fa fn tf ex ins
def ob (s : PySem.W.SharedT) : AlI := obsI 4 fa fn tf ex ins (HandSHeadRun.getT s)
def loose1 : List PySem.Str := [("MirrorError" : PySem.Str), ("BadNumber" : PySem.Str), ("BadWay" : PySem.Str), ("BadWord" : PySem.Str), ("BadSpray" : PySem.Str), ("Misfit" : PySem.Str), ("NoSlant" : PySem.Str), ("TooMany" : PySem.Str), ("BadText" : PySem.Str), ("is_integer" : PySem.Str), ("is_list" : PySem.Str), ("is_point" : PySem.Str), ("common" : PySem.Str), ("EAST_SLANT" : PySem.Str), ("NORTH_SLANT" : PySem.Str), ("is_slant" : PySem.Str), ("added" : PySem.Str), ("steeper_in" : PySem.Str), ("leap" : PySem.Str), ("simplest_in" : PySem.Str)]
def loose2 : List PySem.Str := [("need_slant" : PySem.Str), ("is_steeper" : PySem.Str), ("simplest" : PySem.Str), ("_law_deck" : PySem.Str), ("_law_draw" : PySem.Str), ("_law_pick" : PySem.Str), ("_law_low" : PySem.Str), ("_law_slant" : PySem.Str), ("_law_runs" : PySem.Str), ("_law_back" : PySem.Str), ("_law_heard" : PySem.Str), ("_law_up" : PySem.Str), ("_law_sides" : PySem.Str), ("_law_any" : PySem.Str), ("_law_near" : PySem.Str), ("_law_between_right" : PySem.Str), ("_law_refused_right" : PySem.Str)]
def loose : List PySem.Str := loose1 ++ loose2
theorem run (w : World) : HandSHeadRun.RunEq R (PySem.W.view R.prog [41]) hk ob 6000 loose w := by
  intro os
  kernel_rfl
theorem ob_eq (s : PySem.W.SharedT) : ob s = hk.obs s.abs := by
  have e : HandSHeadRun.getT s = s.abs.heap.get? := funext fun a => HandSHeadRun.getT_eq s a
  show obsI 4 fa fn tf ex ins (HandSHeadRun.getT s) = obsI 4 fa fn tf ex ins s.abs.heap.get?
  rw [e]
end K4

set_option Elab.async false
set_option linter.all false
set_option maxRecDepth 100000
set_option maxHeartbeats 4000000
namespace K4
open PySem PySem.Spec PyProof.Rows L2 GA GB He GD
open LamX (CodeO Tabs TabB TabS ExtN)
section
variable {K : PySem.W.Frag} {mg : Str → Option Value} {w : World} {base : Heap}
theorem supC_of {x : Str} {i : Nat} {b : Bool} (he : errB K x b = true) (hi : iniObs K (x, some "__init__") = iniV i (x ++ ".__init__")) (hs : mg "super" = none) :
    ∃ cc c fd, SupC R.prog K mg (ga K x) cc c (ma K (ga K x) "__init__") (x ++ ".__init__") (defArgs (iniSt i)) (defBody (iniSt i)) (defScope (iniSt i)) fd "part" ∧ PySem.W.findIn K (.ref (ga K x)) "__init__" = some (some (.ref (ma K (ga K x) "__init__"))) ∧ PySem.W.typeIn K (.ref (ma K (ga K x) "__init__")) = some (.type "function") := by
  obtain ⟨hsup, he⟩ := ba he
  obtain ⟨hini, _⟩ := ba he
  obtain ⟨h1, h⟩ := ba hsup
  obtain ⟨h2, h⟩ := ba h
  obtain ⟨h3, h⟩ := ba h
  obtain ⟨h4, h⟩ := ba h
  obtain ⟨h5, h⟩ := ba h
  obtain ⟨h6, h⟩ := ba h
  obtain ⟨h7, h⟩ := ba h
  obtain ⟨h8, h⟩ := ba h
  obtain ⟨h9, h⟩ := ba h
  obtain ⟨h10, h⟩ := ba h
  obtain ⟨h11, h12⟩ := ba h
  obtain ⟨cc, c, fd, f1, f2, f3, f4⟩ := ini_ok (p := (x, some "__init__")) hini hi
  exact ⟨cc, c, fd, ⟨⟨oexB_ok h1, eqO_ok h2, of_decide_eq_true h3, of_decide_eq_true h4, h5⟩, f1, f2, f3, f4, of_decide_eq_true h6, hs, by decide +kernel, eqO_ok h7, eqO_ok h8, of_decide_eq_true h9, eqO_ok h10⟩, eqO_ok h11, of_decide_eq_true h12⟩
theorem heardC_of {x : Str} {b : Bool} (he : errB K x b = true) : HeardC K (ga K "MirrorError") (ga K "TooMany") (ga K "BadText") (ga K "NoSlant") (ga K "BadWay") (ga K "BadWord") (ga K "Misfit") (ga K "BadSpray") (ga K "BadNumber") (ga K x) b := by
  obtain ⟨hsup, h⟩ := ba he
  obtain ⟨_, h⟩ := ba h
  obtain ⟨h2, h⟩ := ba h
  obtain ⟨h3, h⟩ := ba h
  obtain ⟨h4, h⟩ := ba h
  obtain ⟨h5, h⟩ := ba h
  obtain ⟨h6, h⟩ := ba h
  obtain ⟨h7, h⟩ := ba h
  obtain ⟨h8, h⟩ := ba h
  obtain ⟨h9, h⟩ := ba h
  obtain ⟨h10, h11⟩ := ba h
  obtain ⟨_, g⟩ := ba hsup
  obtain ⟨_, g⟩ := ba g
  obtain ⟨_, g⟩ := ba g
  obtain ⟨_, g⟩ := ba g
  obtain ⟨_, g⟩ := ba g
  obtain ⟨_, g⟩ := ba g
  obtain ⟨_, g⟩ := ba g
  obtain ⟨_, g⟩ := ba g
  obtain ⟨_, g⟩ := ba g
  obtain ⟨g, _⟩ := ba g
  exact ⟨of_decide_eq_true h3, (excB_ok h2).1, (excB_ok h2).2, eqO_ok g, of_decide_eq_true h4, of_decide_eq_true h5, of_decide_eq_true h6, of_decide_eq_true h7, of_decide_eq_true h8, of_decide_eq_true h9, of_decide_eq_true h10, of_decide_eq_true h11⟩
theorem errK_way (he : errB K "BadWay" true = true) (hi : iniObs K ("BadWay", some "__init__") = iniV 3 "BadWay.__init__") (hs : mg "super" = none) (hm : mg "BadWay" = some (.ref (ga K "BadWay"))) : ErrK R.prog w K mg base "BadWay" (ga K "BadWay") "part" := by
  obtain ⟨cc, c, fd, S, iC, tI⟩ := supC_of (mg := mg) (x := "BadWay") (i := 3) he hi hs
  refine ⟨_, fd, S.ox, iC, tI, GA.ok_ini (scope := defScope (iniSt 3)) (params := defArgs (iniSt 3)) S (NdefX.nscope_by (by decide +kernel)) (by decide +kernel) ⟨_, rfl, rfl⟩ (by decide) (by decide) (by decide) (fun env => ⟨_, rfl⟩), ?_, hm⟩
  obtain ⟨oc, od, an, doc, pm, ct, osl, e, lk⟩ := S.fn
  rw [e]
  exact .all fun us hl => match us, hl with | [_, _], _ => rfl
theorem errK_fit (he : errB K "Misfit" false = true) (hi : iniObs K ("Misfit", some "__init__") = iniV 6 "Misfit.__init__") (hs : mg "super" = none) (hm : mg "Misfit" = some (.ref (ga K "Misfit"))) : ErrK R.prog w K mg base "Misfit" (ga K "Misfit") "part" := by
  obtain ⟨cc, c, fd, S, iC, tI⟩ := supC_of (mg := mg) (x := "Misfit") (i := 6) he hi hs
  refine ⟨_, fd, S.ox, iC, tI, GA.ok_ini (scope := defScope (iniSt 6)) (params := defArgs (iniSt 6)) S (NdefX.nscope_by (by decide +kernel)) (by decide +kernel) ⟨_, rfl, rfl⟩ (by decide) (by decide) (by decide) (fun env => ⟨_, rfl⟩), ?_, hm⟩
  obtain ⟨oc, od, an, doc, pm, ct, osl, e, lk⟩ := S.fn
  rw [e]
  exact .all fun us hl => match us, hl with | [_, _], _ => rfl
end
theorem fd_of {K : PySem.W.Frag} {h : Heap} {mg : Str → Option Value} (hK : K.In h) (G : h.Ns mainGlobals mg) (c : SaysD fa fn K) {x : Str} {i : Nat} (hd : dD x i ∈ fn) : FD K mg x (top i) := by
  obtain ⟨fd, F⟩ := c.defs hd
  exact ⟨_, fd, F, glo_ok hK G (c.facts (List.mem_append_left _ (List.mem_map.mpr ⟨_, hd, rfl⟩)))⟩
theorem glo_of {K : PySem.W.Frag} {h : Heap} {mg : Str → Option Value} (hK : K.In h) (G : h.Ns mainGlobals mg) (c : SaysD fa fn K) {x : Str} (hx : x ∈ glos) : mg x = some (.ref (ga K x)) :=
  glo_ok hK G (c.facts (List.mem_append_right _ (List.mem_append_left _ (List.mem_map.mpr ⟨_, hx, rfl⟩))))
theorem free_of {K : PySem.W.Frag} {h : Heap} {mg : Str → Option Value} (hK : K.In h) (G : h.Ns mainGlobals mg) (c : SaysD fa fn K) {x : Str} (hx : x ∈ frees) : mg x = none :=
  free_ok hK G (c.facts (List.mem_append_right _ (List.mem_append_right _ (List.mem_map.mpr ⟨_, hx, rfl⟩))))
theorem fdc_of {K : PySem.W.Frag} {h : Heap} {mg : Str → Option Value} (hK : K.In h) (G : h.Ns mainGlobals mg) (c : SaysD fa fn K) {x : Str} {i : Nat} (hd : dD x i ∈ fn) : FDC K mg x (top i) (codeOf K (x, none)) := by
  obtain ⟨fd, F⟩ := c.defs hd
  obtain ⟨oc, od, dV, kV, doc, pm, an, cdv, ct, osl, e, lk, hcd, _⟩ := id F.ex
  obtain ⟨c', rfl⟩ := codeIn_ref hcd
  refine ⟨_, fd, F, glo_ok hK G (c.facts (List.mem_append_left _ (List.mem_map.mpr ⟨_, hd, rfl⟩))), ?_⟩
  have e2 : fd.code = .ref c' := by rw [e]
  rw [codeOf_eq (p := (x, none)) lk e2, e2]
def has (x : Str) (i : Nat) (k : Nat) (h : fn[k]? = some (dD x i) := by rfl) : dD x i ∈ fn := List.mem_of_getElem? h
theorem final : PySem.W.WalkO (PySem.W.view R.prog [41]) loose (PySem.W.XL (PySem.W.view R.prog [41]) []) hk.says R.toRowW (HandSHeadRun.topDef R.prog 41) [] (fun f vs => PySem.call f vs) := by
  refine walk_end (l := PySem.Challenge.rw_whichways_k41_slants_in_order_of_steepne) (n := 63) (k := 9) (x := "script") rfl (by decide) rfl ⟨by decide, by decide, by decide⟩ fun w mg fl h Y G hmg => ?_
  obtain ⟨K, hK, c⟩ := Y
  have D := c.d
  have T : MF mg := ⟨free_of hK G D (by decide), free_of hK G D (by decide), free_of hK G D (by decide), free_of hK G D (by decide), free_of hK G D (by decide), free_of hK G D (by decide), free_of hK G D (by decide), free_of hK G D (by decide), free_of hK G D (by decide), free_of hK G D (by decide)⟩
  have EG : ErrG mg (ga K "MirrorError") (ga K "TooMany") (ga K "BadText") (ga K "NoSlant") (ga K "BadWay") (ga K "BadWord") (ga K "Misfit") (ga K "BadSpray") (ga K "BadNumber") := ⟨glo_of hK G D (by decide), glo_of hK G D (by decide), glo_of hK G D (by decide), glo_of hK G D (by decide), glo_of hK G D (by decide), glo_of hK G D (by decide), glo_of hK G D (by decide), glo_of hK G D (by decide), glo_of hK G D (by decide)⟩
  obtain ⟨x1, xx⟩ := ba c.more
  obtain ⟨x2, xx⟩ := ba xx
  obtain ⟨x3, x4⟩ := ba xx
  have i1 : iniObs K ("BadWay", some "__init__") = iniV 3 "BadWay.__init__" := by
    have e := congrArg (fun z : List IniV => z[0]?) c.ini
    exact Option.some.inj e
  have i2 : iniObs K ("Misfit", some "__init__") = iniV 6 "Misfit.__init__" := by
    have e := congrArg (fun z : List IniV => z[1]?) c.ini
    exact Option.some.inj e
  have hsup := free_of hK G D (x := "super") (by decide)
  have Z : Ends2 K mg (ga K "EAST_SLANT") (ga K "NORTH_SLANT") := ⟨glo_of hK G D (by decide), glo_of hK G D (by decide), fun H => tupB_ok x3 H, fun H => tupB_ok x4 H⟩
  obtain ⟨fdl, FL⟩ := D.defs (has "law" 41 26)
  have hlm : mg "law" = some (.ref (ga K "law")) := glo_ok hK G (D.facts (List.mem_append_left _ (List.mem_map.mpr ⟨_, has "law" 41 26, rfl⟩)))
  have hmg' : mg "law" = some (.ref fl) := hmg
  obtain rfl : fl = ga K "law" := Value.ref.inj (Option.some.inj (hmg'.symm.trans hlm))
  have p0 : (("_law_refused_right", none) : Defn) ∈ tf := List.mem_singleton.mpr rfl
  refine ⟨K, fdl, (cT K ("_law_refused_right", none)).1, (cT K ("_law_refused_right", none)).2, spLaw K [((cT K ("_law_refused_right", none)).2, qL)], hK, c.empty _ p0, c.out _ p0, PySem.W.codeHd_of_K hK (c.hd _ p0), fun s u => ?_, fun H a ns hl hH hS => ?_, fun base kb nb tb => ?_⟩
  · obtain ⟨oc, od, dV, kV, doc, pm, an, cdv, ct, osl, e, lk, hcd, hdv, _⟩ := FL.ex
    have edv : dV = .none := by
      rcases hdv with ⟨_, z⟩ | ⟨z, _⟩
      · exact z
      · exact absurd rfl z
    subst edv
    rw [e]
    exact .of_eq rfl
  · refine ⟨a, ns, rfl, hS, hl, fun p hp => ?_, fun H' => rfl⟩
    rw [List.mem_singleton.mp hp]
    exact ⟨#[], hH, trivial, fun pos cv z => by cases z⟩
  · have RW := errK_way (w := w) (base := base) x1 i1 hsup (glo_of hK G D (by decide))
    have RM := errK_fit (w := w) (base := base) x2 i2 hsup (glo_of hK G D (by decide))
    have D_is_integer := fd_of hK G D (has "is_integer" 11 0)
    have c_is_integer := cal_is_integer (P := R.prog) (w := w) (base := base) D_is_integer T
    have D_is_list := fd_of hK G D (has "is_list" 12 1)
    have c_is_list := cal_is_list (P := R.prog) (w := w) (base := base) D_is_list T
    have D_common := fd_of hK G D (has "common" 14 3)
    have c_common := cal_common (P := R.prog) (w := w) (base := base) D_common T
    have D_is_point := fd_of hK G D (has "is_point" 13 2)
    have c_is_point := cal_is_point (P := R.prog) (w := w) (base := base) D_is_point T c_is_list c_is_integer
    have D_is_slant := fd_of hK G D (has "is_slant" 18 4)
    have c_is_slant := cal_is_slant (P := R.prog) (w := w) (base := base) D_is_slant c_is_point c_common
    have D_added := fd_of hK G D (has "added" 19 5)
    have c_added := cal_added (P := R.prog) (w := w) (base := base) D_added
    have D_steeper_in := fd_of hK G D (has "steeper_in" 20 6)
    have c_steeper_in := cal_steeper_in (P := R.prog) (w := w) (base := base) D_steeper_in
    have D_leap := fd_of hK G D (has "leap" 21 7)
    have c_leap := cal_leap (P := R.prog) (w := w) (base := base) D_leap
    have D_simplest_in := fd_of hK G D (has "simplest_in" 22 8)
    have c_simplest_in := cal_simplest_in (P := R.prog) (w := w) (base := base) D_simplest_in Z c_added c_steeper_in c_leap
    have D_need_slant := fd_of hK G D (has "need_slant" 23 9)
    have c_need_slant := cal_need_slant (P := R.prog) (w := w) (base := base) D_need_slant T RW c_is_slant
    have D_is_steeper := fd_of hK G D (has "is_steeper" 24 10)
    have c_is_steeper := cal_is_steeper (P := R.prog) (w := w) (base := base) D_is_steeper c_need_slant c_steeper_in
    have D_simplest := fd_of hK G D (has "simplest" 25 11)
    have c_simplest := cal_simplest (P := R.prog) (w := w) (base := base) D_simplest RM c_need_slant c_steeper_in c_simplest_in
    have D_deck := fd_of hK G D (has "_law_deck" 27 12)
    have c_deck := cal_deck (P := R.prog) (w := w) (base := base) D_deck T
    have D_draw := fd_of hK G D (has "_law_draw" 28 13)
    have c_draw := cal_draw (P := R.prog) (w := w) (base := base) D_draw T
    have D_pick := fd_of hK G D (has "_law_pick" 29 14)
    have c_pick := cal_pick (P := R.prog) (w := w) (base := base) D_pick T c_draw
    have D_low := fd_of hK G D (has "_law_low" 30 15)
    have c_low := cal_low (P := R.prog) (w := w) (base := base) D_low T
    have D_slant := fd_of hK G D (has "_law_slant" 31 16)
    have c_slant := cal_slant (P := R.prog) (w := w) (base := base) D_slant T c_draw c_low
    have D_runs := fd_of hK G D (has "_law_runs" 32 17)
    have c_runs := cal_runs (P := R.prog) (w := w) (base := base) D_runs T
    have D_back := fd_of hK G D (has "_law_back" 33 18)
    have c_back := cal_back (P := R.prog) (w := w) (base := base) D_back
    have D_up := fd_of hK G D (has "_law_up" 35 20)
    have c_up := cal_up (P := R.prog) (w := w) (base := base) D_up
    have D_sides := fd_of hK G D (has "_law_sides" 36 21)
    have c_sides := cal_sides (P := R.prog) (w := w) (base := base) D_sides c_runs
    have D_any := fd_of hK G D (has "_law_any" 37 22)
    have c_any := cal_any (P := R.prog) (w := w) (base := base) D_any T c_pick c_slant
    have D_near := fd_of hK G D (has "_law_near" 38 23)
    have c_near := cal_near (P := R.prog) (w := w) (base := base) D_near T c_draw c_pick c_slant c_sides
    have D_between := fd_of hK G D (has "_law_between_right" 39 24)
    have c_between := cal_between (P := R.prog) (w := w) (base := base) D_between T c_up c_simplest (simplest_swap c_simplest D_simplest) c_low c_sides
    have c_refused := cal_refused (P := R.prog) (w := w) (fdc_of hK G D (has "_law_refused_right" 40 25)) (fd_of hK G D (has "_law_heard" 34 19)) T EG tb c_pick c_is_steeper c_simplest (heardC_of x1) (heardC_of x2)
    exact law_walk FL T c_deck c_draw c_pick c_low c_runs c_back c_up c_sides c_any c_near c_between c_refused c_is_steeper (is_steeper_swap c_is_steeper D_is_steeper)
end K4
open PySem PySem.W PySem.Calls PyProof.Rows in
theorem PySem.Challenge.cw_whichways_k41_slants_in_order_of_steepne_holds : PySem.Challenge.rw_whichways_k41_slants_in_order_of_steepne.Holds := by
  w_on; o_law
  refine HandSHeadRun.head_any (r := OpenLaw.row PySem.Challenge.rw_whichways_k41_slants_in_order_of_steepne) (q := view K4.R.prog [41]) (H := K4.hk) (ob := K4.ob) (M := 6000) (loose := K4.loose) (kwd := []) K4.ob_eq (by kernel_rfl) (fun s => by kernel_rfl) K4.run (by rfl) (by rfl) (by rfl) (by rfl) (by first | assumption | decide +kernel) (by decide +kernel) ⟨rfl, rfl, rfl, rfl, rfl, by decide +kernel⟩ ?hw ?hc
  case hw => w_witness2
  case hc => exact K4.final

