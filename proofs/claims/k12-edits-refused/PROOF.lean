import PyProof.Rows.All
import Wide.All
import OpenK.AllK
import Wide.FinOn
import HandS.ForMost
import HandS.ForExc
import HandS.Wide
import HandS.Style
import HandS.Flow
import KE.KExcSuper
import HandS.ExcInit
import HandS.ExcSuper
import HandS.ExcField
import HandS.ExcIs
import KE.KExcIs
import HandS.More
import HandS.IsInst
import HandS.Strs
import HandS.SetFor
import HandS.Zip
import KE.KDictPairs
import HandS.Walk
import HandS.Deep
import HandS.OwnEq
import HandS.ExcOwn
import HandS.TupAny
import HandS.SortKw
import HandS.ExcValue
import HandS.Conv
import KE.KSortAsk
import HandS.MapJoin
import HandS.Text
import PyProof.ReprRoads
import HandS.ReplaceLit
import HandS.ReplaceDef
import HandS.DeepEq
import KE.KEqNest
import HandS.NoneIn
import PyProof.Rows.IntBool
import PyProof.NeKinds
import KE.GoesMore
import KE.GoesEnum
import PyProof.Rows.StrRev
import KE.KStateDown
import HandS.Head0
import HandS.Head1
import HandS.Head2
import HandS.HeadHook4
import HandS.HeadWalk
import HandS.Lambda
import HandS.EndBits
import HandS.EndTab
import HandS.ReplaceList
import PyProof.Rows.RegStrFacts
import PySem.Challenge.RW_searchwalks_k12_edits_refused
set_option Elab.async false
set_option linter.all false
set_option maxRecDepth 100000
set_option maxHeartbeats 0
namespace My
open PySem PySem.Spec PyProof.Rows L2

/-! ### where the defs of the top stand -/
def fa (mg : Str → Option Value) (x : Str) : Addr := match mg x with
  | some (.ref f) => f
  | _ => 0
def fdOf (K : PySem.W.Frag) (f : Addr) : FuncData := match K.lookup f with
  | some ⟨_, _, .func fd, _⟩ => fd
  | _ => default
theorem fa_eq {mg : Str → Option Value} {x : Str} {f : Addr} (h : mg x = some (.ref f)) : fa mg x = f := by
  unfold fa
  rw [h]
theorem fdOf_eq {K : PySem.W.Frag} {f : Addr} {oc : Value} {od : Option Addr} {fd : FuncData} {sl : Array (Option Value)} (h : K.lookup f = some ⟨oc, od, .func fd, sl⟩) : fdOf K f = fd := by
  unfold fdOf
  rw [h]
/-- the def x of the top, by its statement -/
structure Df (K : PySem.W.Frag) (mg : Str → Option Value) (x : Str) (st : Stmt) (ps : List Str) : Prop where
  F : Fun K x x st (fa mg x) (fdOf K (fa mg x))
  g : mg x = some (.ref (fa mg x))
  b : Binds K (fdOf K (fa mg x)) ps []
theorem Df.of {K : PySem.W.Frag} {mg : Str → Option Value} {h : Heap} {x : Str} {st : Stmt} {ps : List Str} {f : Addr} {oc : Value} {od an : Option Addr} {sl : Array (Option Value)} {kV dc pm cd ct : Value} (X : K.In h) (G : h.Ns mainGlobals mg)
    (a : PySem.W.nsIn K mainGlobals x = some (some (.ref f))) (l : K.lookup f = some ⟨oc, od, .func (PySem.W.fnOf x x (defArgs st) (defBody st) (defScope st) .none kV dc pm an cd ct), sl⟩) (c : PySem.W.codeIn K cd x = true) (k : PySem.W.keepIn K (.ref f) = true)
    (b : ∀ (kV doc pm : Value) (an : Option Addr) (cdv ct : Value) (us : List Value), us.length = ps.length → bindArgs (PySem.W.fnOf x x (defArgs st) (defBody st) (defScope st) .none kV doc pm an cdv ct) ⟨us, []⟩ = pure (ps.zip us)) : Df K mg x st ps := by
  have hg := PySem.W.mg_of X G a
  have e1 := fa_eq hg
  have e2 := fdOf_eq l
  have F := fun_mk (st := st) l c k
  refine ⟨?_, ?_, ?_⟩
  · rw [e1, e2]; exact F
  · rw [e1]; exact hg
  · rw [e1, e2]; exact F.binds b
abbrev Ok (P : Program) (w : World) (K : PySem.W.Frag) (mg : Str → Option Value) (base : Heap) (CX : CXT) (k : Nat) (x : Str) (ps : List Str) (sp : Sp) : Prop := FnOk P w K mg base CX k (fa mg x) (fdOf K (fa mg x)) ps sp
section
variable {X : Cx} {x : Str} {st : Stmt} {ps : List Str} {k : Nat} {sp : Sp} {e : Expr} {es : List Expr} {t : TA} {p pos : Pos}
/-- x(e, ..), nothing is raised -/
theorem pc (D : Df X.K X.mg x st ps) (G : Ok X.prog X.w X.K X.mg X.base CX0 k x ps sp) (hr : Room k X.A) (ha : PA X (e :: es) t) (hg : Gl X x := by rfl)
    (hdb : (x == ("__debug__" : Str)) = false := by decide) (he : starEach (e :: es) X.env = (false, eval e X.env) :: starEach es X.env := by rfl) (hpl : (backTo pos (starEach es X.env)).any (·.1) = false := by rfl) :
    PE X (.Call (.Name x p) (e :: es) [] pos) (tCall sp [] E0 t) := pe_call G hr hg D.g D.F.kp D.b .nil pass0 ha hdb he hpl
theorem pc0 (D : Df X.K X.mg x st ps) (G : Ok X.prog X.w X.K X.mg X.base CX0 k x ps sp) (hr : Room k X.A) (hg : Gl X x := by rfl)
    (hdb : (x == ("__debug__" : Str)) = false := by decide) :
    PE X (.Call (.Name x p) [] [] pos) (tCall sp [] E0 tNil) := pe_call0 G hr hg D.g D.F.kp D.b .nil pass0 hdb
end
end My
namespace My
open PySem PySem.Calls PyProof.Rows L2
/-- self.f = f, one row a field -/
inductive Asgs : List Stmt → List Str → Prop
  | nil : Asgs [] []
  | cons {f : Str} {fs : List Str} {rest : List Stmt} {a b c d : Pos} (h : Asgs rest fs) : Asgs (.Assign [.Attribute (.Name "self" a) f b] (.Name f c) d :: rest) (f :: fs)
/-- super().__init__(..), then the fields -/
inductive InitBody : List Stmt → List Str → Prop
  | mk {x : Str} {j : Nat} {rest : List Stmt} {fs : List Str} {p0 p1 p2 p3 p4 p5 : Pos} (h : Asgs rest fs) (hp : (p2.endLine == p4.line) = true) :
      InitBody (.Expr (.Call (.Attribute (.Call (.Name "super" p0) [] [] p1) "__init__" p2) [.Constant (.str x) j p3] [] p4) p5 :: rest) fs
section
variable {prog : Program} {w : World} {A : Around} {E : Value → Shared → Prop} {h : Heap} {g : Array GenState} {d : Drawn} {t : Nat} {os : OsState}
/-- the wrapper of ValueError.__init__ is called -/
theorem call_mw {u e t0 C N : Addr} {nm q : Str} {bs bm : List Value} {hdct : Bool} {sn : List Str} {sub : List Value} {ab : Bool} {col : Option Bool} {dd : Option Addr} {k0 k1 k2 k3 k5 : Option Value} {rest : List Value} {Q : Value → Shared → Prop}
    (hC : h.get? C = some (excClassObj nm q C N bs bm hdct sn sub ab col dd k0 k1 k2 k3 k5 "ValueError.__new__")) (he : h.get? e = some (HandSPX.excO C t0)) (hu : h.get? u = some (W.kxs_mw "ValueError.__init__" e))
    (hq : ∀ h' t1, (∀ b o, b ≠ e → h.get? b = some o → h'.get? b = some o) → h'.get? e = some (HandSPX.excO C t1) → Q .none ⟨h', g, d, t, os⟩) (hz : rest.length ≤ sizeLine) :
    wpAny (model prog w) A (call (.ref u) rest) Q E ⟨h, g, d, t, os⟩ := by
  refine wpAny_call (codeAny_of_tree ?_)
  show wpAny _ A.in1 (callAny (.ref u) ⟨rest, []⟩) _ _ _
  unfold callAny
  refine wpAny_bind (wpAny_load hu ?_)
  simp only [W.kxs_mw, show (Value.type "method-wrapper" == Value.type "method" || Value.type "method-wrapper" == Value.type "builtin_function_or_method" || Value.type "method-wrapper" == Value.type "method-wrapper") = true by decide, if_true]
  refine W.KFB.if_so (by decide) ?_
  refine wpAny_bind (W.check_bound_init F.excBase_ValueError.toExcCallFacts hC he rfl ?_)
  refine wpAny_bind (wpAny_pure (wpAny_pure ⟨Code.quiet_builtin _ (by decide +kernel), codeAny_builtin F.excBase_ValueError.initEntry ?_⟩))
  rw [Around.under_plainId F.excBase_ValueError.init.plain _]
  wp_walk
  refine hq _ h.objs.size (fun b o hb ho => ?_) ?_
  · exact (Heap.get?_update_other _ _ (Ne.symm hb)).trans (Heap.get?_push_of_some _ ho)
  · rw [Heap.get?_update_self _ (Heap.get?_push_of_some _ he) rfl]
    rfl
end
/-- how the exception at x stands while its fields are stored -/
def Exs (C x : Addr) (b0 : Nat) (acc : List (Str × V)) (h : Heap) : Prop :=
  (acc = [] ∧ ∃ t1 : Addr, h.get? x = some (HandSPX.excO C t1)) ∨
  ∃ t1 dx : Addr, acc ≠ [] ∧ h.get? x = some ({ cls := .ref C, dict := some dx, data := .fields #[.ref t1, .none, .none, .none, .bool false, .none] } : Obj) ∧ b0 ≤ dx ∧ dx ≠ x ∧ ∃ mA, h.Ns1 dx mA ∧ ∀ f, RelO (acc.lookup f) (mA f)
section
variable {prog : Program} {w : World} {A : Around} {E : Value → Shared → Prop} {K : W.Frag}
theorem set_one {C x : Addr} {b0 : Nat} {acc : List (Str × V)} {f : Str} {y : V} {u : Value} {Q : Unit → Shared → Prop} {s : Shared} (T : OexC K C) (X : K.In s.heap) (hz : b0 ≤ s.heap.objs.size) (hl : acc.length ≤ 900) (e : Exs C x b0 acc s.heap) (ry : RelV y u) (hno : W.findIn K (.ref C) f = some none)
    (hq : ∀ h' t', (∀ b o, b ≠ x → b < b0 → s.heap.get? b = some o → h'.get? b = some o) → b0 ≤ h'.objs.size → Exs C x b0 ((f, y) :: acc) h' → Q () { s with heap := h', toks := t' }) :
    wpAny (model prog w) A (setAttr (.ref x) f u) Q E s := by
  obtain ⟨nm, q, N, bs, bm, sn, sub, ab, col, dd, k0, k1, k2, k3, k5, hC, hbm⟩ := T.cls
  have hcl : W.clsIn K C = some { name := nm, bases := bs, mro := .ref C :: bm, ns := N, qualname := q, hasDict := true, slotNames := sn, subclasses := sub, abstract := ab, collection := col, hasDel := false } := by unfold W.clsIn; rw [hC] <;> rfl
  obtain ⟨hp, g, d, t, os⟩ := s
  rcases e with ⟨rfl, t1, hx⟩ | ⟨t1, dx, _, hx, hb, hne, mA, hns, rel⟩
  · refine W.set_plain X (ox := { cls := .ref C, dict := none, data := .fields #[.ref t1, .none, .none, .none, .bool false, .none] }) (od := none) ⟨hx, rfl, rfl, trivial⟩ T.sa ?_
    refine HandSPX.exc_osa X hx hcl (show HandSPX.refsVE (.ref C :: bm) = true from hbm) rfl hno (fun h' tk' dx k dn dne hx' hn => ?_)
    have hsz : dx < h'.objs.size := by
      obtain ⟨o, _, _, e1, _⟩ := hn
      exact Heap.lt_size e1
    exact hq h' tk' (fun b o hb _ z => k b o hb z) (Nat.le_trans hz (Nat.le_trans dn (Nat.le_of_lt hsz))) (.inr ⟨t1, dx, (fun z => nomatch z), hx', Nat.le_trans hz dn, dne, _, hn, relO_put (fs := []) ry fun g => True.intro⟩)
  · have hw := within_of rel
    obtain ⟨oD, _, _, hoD, _, _⟩ := hns.count hw
    refine W.set_plain X (ox := { cls := .ref C, dict := some dx, data := .fields #[.ref t1, .none, .none, .none, .bool false, .none] }) (od := some oD) ⟨hx, rfl, rfl, hoD⟩ T.sa ?_
    refine OEX.osa_old X hx hns hw (by rw [List.length_map]; omega) hcl (show HandSPX.refsVE (.ref C :: bm) = true from hbm) rfl hno (fun h' tk' k hn => ?_)
    have hx' := k x _ (Ne.symm hne) hx
    have hsz : dx < h'.objs.size := by
      obtain ⟨o, _, _, e1, _⟩ := hn
      exact Heap.lt_size e1
    exact hq h' tk' (fun b o _ hlt z => k b o (fun q => by rw [q] at hlt; exact absurd hb (Nat.not_le_of_lt hlt)) z) (Nat.le_trans hb (Nat.le_of_lt hsz)) (.inr ⟨t1, dx, (fun z => nomatch z), hx', hb, hne, _, hn, relO_put ry rel⟩)
theorem asgs_run {C x L : Addr} {b0 : Nat} {env : Env} {m : Str → Option Value} (T : OexC K C) (hk : env.scope.kind = .function) (hL : env.locals = L) (hLb : L < b0) (hLx : L ≠ x) (hself : m "self" = some (.ref x)) (hks : env.kindOf "self" = some .local) {rest : List Stmt} {fs : List Str} (hr : Asgs rest fs) :
    ∀ {ys : List V} {us : List Value} {acc : List (Str × V)} {s : Shared} {Q : Flow → Shared → Prop}, Vals ys us → (∀ (i : Nat) f u, fs[i]? = some f → us[i]? = some u → m f = some u) → ys.length = fs.length → acc.length + fs.length ≤ 900 →
      (∀ f ∈ fs, env.kindOf f = some .local ∧ (f == ("__debug__" : Str)) = false ∧ W.findIn K (.ref C) f = some none) → K.In s.heap → (∀ b o, K.lookup b = some o → b ≠ x ∧ b < b0) → s.heap.Ns L m → b0 ≤ s.heap.objs.size → Exs C x b0 acc s.heap →
      (∀ h' t', (∀ b o, b ≠ x → b < b0 → s.heap.get? b = some o → h'.get? b = some o) → b0 ≤ h'.objs.size → Exs C x b0 ((fs.zip ys).reverse ++ acc) h' → Q .next { s with heap := h', toks := t' }) →
      wpAny (model prog w) A (execs rest env) Q E s := by
  induction hr with
  | nil =>
    intro ys us acc s Q hv hm hlen hl hf X KX hns hz e hq
    have : ys = [] := List.eq_nil_of_length_eq_zero hlen
    subst this
    exact wpAny_execs_nil (hq s.heap s.toks (fun _ _ _ _ z => z) hz e)
  | @cons f fs rest a b c d hr ih =>
    intro ys us acc s Q hv hm hlen hl hf X KX hns hz e hq
    cases hv with
    | nil => cases hlen
    | @cons y u ys us ry hv =>
      obtain ⟨hfl, hfd, hfn⟩ := hf f List.mem_cons_self
      have hmf : m f = some u := hm 0 f u rfl rfl
      subst hL
      refine wpAny_execs_cons (plainObj_wpAny_Assign_Attribute (wpAny_Name (wpAny_loadName_local hk hfl hns hmf (wpAny_Name (wpAny_loadName_local hk hks hns hself ?_) (by decide))) hfd) ?_)
      · refine set_one (b0 := b0) T X hz (by have := hl; simp only [List.length_cons] at this; omega) e ry hfn fun h' t' k hz' e' => ?_
        have kx : ∀ b o, K.lookup b = some o → h'.get? b = some o := fun b o q => k b o (KX b o q).1 (KX b o q).2 (X b o q)
        have hns' : h'.Ns env.locals m := by
          obtain ⟨o, es, ep, e1, r⟩ := hns
          exact ⟨o, es, ep, k _ _ hLx hLb e1, r⟩
        refine ih hv (fun i f' u' h1 h2 => hm (i + 1) f' u' h1 h2) (Nat.succ.inj hlen) (by simp only [List.length_cons] at hl ⊢; omega) (fun f' hf' => hf f' (List.mem_cons_of_mem _ hf')) kx KX hns' hz' e' fun h2 t2 k2 hz2 e2 => ?_
        refine hq h2 t2 (fun b o hb hlt z => k2 b o hb hlt (k b o hb hlt z)) hz2 ?_
        rw [List.zip_cons_cons, List.reverse_cons, List.append_assoc]
        exact e2
      · rfl
end
/-- what the written part says of the own error x, its class at C, its __init__ at fI by the text st, with the fields fs -/
structure ErrT (P : Program) (K : W.Frag) (mg : Str → Option Value) (x : Str) (C fI : Addr) (fd : FuncData) (st : Stmt) (fs : List Str) : Prop where
  o : OexC K C
  gC : mg x = some (.ref C)
  iC : W.findIn K (.ref C) "__init__" = some (some (.ref fI))
  tI : W.typeIn K (.ref fI) = some (.type "function")
  lk : ∃ (oc : Value) (od : Option Addr) (q : Str) (kV dc pm : Value) (an : Option Addr) (cda : Addr) (ct : Value) (cc : Addr) (osl : Array (Option Value)) (vs : Array Value) (file : Str) (tf : Tok) (ccl : Value) (cdd : Option Addr) (ccs : Array (Option Value)) (cl : Value) (cld : Option Addr) (csl : Array (Option Value)),
    fd = W.ksFn "__init__" q (defArgs st) (defBody st) (defScope st) .none kV dc pm an (.ref cda) ct cc ∧ K.lookup fI = some ⟨oc, od, .func fd, osl⟩ ∧ W.codeIn K (.ref cda) q = true ∧ K.lookup cda = some ⟨ccl, cdd, .fields vs, ccs⟩ ∧ vs[2]? = some (.str file tf) ∧ ((P.main.file : Str) == file) = true ∧ K.lookup cc = some ⟨cl, cld, .cell (some (.ref C)), csl⟩
  su : W.ks_superIn K C C "__init__" = some (some (.builtin "ValueError.__init__"))
  ve : W.subIn K (.ref C) (.type "ValueError") = some true
  sub : W.mroIn K C (.ref C) = some true
  op : W.nsIn K cStatics "thirdparty.any" = some none
  sup : mg "super" = none
  top : (P.main.scope.names.lookup ("super" : Str)).isSome = false
  nf : ∀ f ∈ fs, W.findIn K (.ref C) f = some none
/-- what the text of such an __init__ is -/
structure ErrS (st : Stmt) (fs : List Str) : Prop where
  bd : InitBody (defBody st) fs
  pr : ∃ ar : Arg, ((defArgs st).posonlyargs ++ (defArgs st).args).head? = some ar ∧ ar.arg = "self"
  kind : (defScope st).kind = .function
  co : (defScope st).isCoroutine = false
  gen : (defScope st).isGenerator = false
  cell : ∀ y ∈ (defScope st).names, y.2 ≠ .cell
  loc : ∀ f ∈ ("self" : Str) :: fs, (defScope st).names.lookup f = some .local ∧ (f == ("__debug__" : Str)) = false
  nd : (("self" : Str) :: fs).Nodup
  ks : (defScope st).names.lookup ("super" : Str) = some .globalImplicit
  kc : (defScope st).names.lookup ("__class__" : Str) = some .free
  small : fs.length ≤ 900
def spErr (C : Addr) (fs : List Str) : Sp := fun vs H Q _ => ∃ (a : Addr) (ys : List V), vs = .ref a :: ys ∧ ys.length = fs.length ∧ H a = some (exo a C none) ∧
  (fs = [] → Q .non H) ∧ (fs ≠ [] → ∀ dx, H dx = none → dx ≠ a → Q .non (upd (upd H dx (exd dx (fs.zip ys).reverse)) a (exo a C (some dx))))
theorem zip_look : ∀ {fs : List Str} {us : List Value} {i : Nat} {f : Str} {u : Value}, fs.Nodup → us.length = fs.length → fs[i]? = some f → us[i]? = some u → (fs.zip us).reverse.lookup f = some u
  | [], us, i, f, u, _, _, h, _ => by simp at h
  | g :: fs, [], i, f, u, _, hl, _, _ => by cases hl
  | g :: fs, v :: us, i, f, u, nd, hl, h1, h2 => by
    obtain ⟨n1, n2⟩ := List.nodup_cons.mp nd
    rw [List.zip_cons_cons, List.reverse_cons, List.lookup_append]
    cases i with
    | zero =>
      have e1 : g = f := Option.some.inj h1
      have e2 : v = u := Option.some.inj h2
      subst e1 e2
      have : (fs.zip us).reverse.lookup g = none := by
        rw [List.lookup_eq_none_iff]
        intro p hp
        have hm := (List.of_mem_zip (List.mem_reverse.mp hp)).1
        simp only [bne_iff_ne, ne_eq, beq_eq_false_iff_ne]
        intro z
        rw [z] at n1
        exact n1 hm
      rw [this]
      simp [List.lookup]
    | succ i =>
      have ih := zip_look (fs := fs) (us := us) (i := i) (f := f) (u := u) n2 (Nat.succ.inj hl) h1 h2
      rw [ih]
      rfl
theorem sup_form {env : Env} {tx : Str} {j : Nat} {p0 p1 p2 p3 p4 : Pos} (hp : (p2.endLine == p4.line) = true) :
    eval (.Call (.Attribute (.Call (.Name "super" p0) [] [] p1) "__init__" p2) [.Constant (.str tx) j p3] [] p4) env = (do
      let ov ← attributeBase (.Call (.Name "super" p0) [] [] p1) "__init__" env (eval (.Call (.Name "super" p0) [] [] p1) env)
      standAt p2.atName
      let (f, first) ← holding [ov] (getMethod ov "__init__" (do return (← importBound (.Call (.Name "super" p0) [] [] p1) env).getD true))
      callWith p4 f first (backTo p4 (starEach [.Constant (.str tx) j p3] env)) []) := by
  show (do
    let ov ← attributeBase (.Call (.Name "super" p0) [] [] p1) "__init__" env (eval (.Call (.Name "super" p0) [] [] p1) env)
    standAt p2.atName
    methodCall (.Call (.Name "super" p0) [] [] p1) "__init__" p2 p4 env ov 1 (backTo p4 (starEach [.Constant (.str tx) j p3] env)) (backToKw p4 (keywordEach [] env))) = _
  have hf : methodCallForm 1 (backTo p4 (starEach [.Constant (.str tx) j p3] env)) (backToKw p4 (keywordEach [] env)) = true := rfl
  simp only [methodCall, methodCallPos, hf, hp, Bool.or_true, if_true, pure_bind, calleeOf]
  rfl
section
variable {P : Program} {w : World} {K : W.Frag} {mg : Str → Option Value} {base : Heap} {x : Str} {C fI : Addr} {fd : FuncData} {st : Stmt} {fs : List Str}
theorem ok_err {k : Nat} (T : ErrT P K mg x C fI fd st fs) (S : ErrS st fs) : FnOk P w K mg base CX0 k fI fd (("self" : Str) :: fs) (spErr C fs) := by
  refine ⟨fun vs H Q E hs => ?_, fun A outer s H args us vs Q E hr e0 hb hv hs => ?_⟩
  · obtain ⟨a, ys, rfl, hl, _⟩ := hs
    rw [List.length_cons, List.length_cons, hl]
  obtain ⟨a, ys, rfl, hlen, ha, q0, q1⟩ := hs
  obtain ⟨oc, od, q, kV, dc, pm, an, cda, ct, cc, osl, vs, file, tf, ccl, cdd, ccs, cl, cld, csl, rfl, lkI, hcd, hcode, hvs, hfile, hcell⟩ := T.lk
  obtain ⟨ar, hpr, har⟩ := S.pr
  obtain ⟨nm, qn, N, bs, bm, sn, sub, ab, col, dd, k0, k1, k2, k3, k5, hC, hbm⟩ := T.o.cls
  cases hv with
  | @cons _ ua _ us ra hv =>
  cases ra
  have bk : ∀ b o, base.get? b = some o → s.heap.get? b = some o := fun b o e => (e0.bs b o e).1
  have X : K.In s.heap := e0.mod.kin.keeps bk
  have lim : s.heap.NoLimit := e0.mod.nolimit.keeps bk
  obtain ⟨t1, hx⟩ := exo_at e0.hok ha
  have hul : us.length = fs.length := hv.length.symm.trans hlen
  have KX : ∀ b o, K.lookup b = some o → b ≠ a ∧ b < s.heap.objs.size + 1 := fun b o e => by
    have h1 := e0.bs b o (e0.mod.kin b o e)
    refine ⟨fun z => ?_, Nat.lt_succ_of_lt (Heap.lt_size h1.1)⟩
    rw [z, ha] at h1
    cases h1.2
  have hloc : ∀ y ∈ (("self" : Str) :: fs).zip (Value.ref a :: us), (defScope st).names.lookup y.1 = some .local := fun y hy => (S.loc _ (List.of_mem_zip hy).1).1
  refine ks_codeAny_call_defAt hr.depth (X _ _ lkI) rfl lim (W.codeRec_of X hcd) rfl hb S.cell hloc (fun h1 hns hk1 => ?_) S.co S.gen S.kind
  -- the body
  have X1 : K.In h1 := X.keeps hk1
  have hx1 := hk1 _ _ hx
  have hbd := S.bd
  have hcd1 : W.clsIn K C = some { name := nm, bases := bs, mro := .ref C :: bm, ns := N, qualname := qn, hasDict := true, slotNames := sn, subclasses := sub, abstract := ab, collection := col, hasDel := false } := by unfold W.clsIn; rw [hC] <;> rfl
  have hsz1 : s.heap.objs.size < h1.objs.size := by
    obtain ⟨o, _, _, e1, _⟩ := hns
    exact Heap.lt_size e1
  generalize hBd : defBody st = bd at hbd ⊢
  obtain ⟨mb, hbn, hbb⟩ := e0.mod.blt
  cases hbd with
  | @mk tx j rest fs p0 p1 p2 p3 p4 p5 hrest hpp =>
  have hself : (fun y => ((("self" : Str) :: fs).zip (Value.ref a :: us)).reverse.lookup y) "self" = some (.ref a) := zip_look (i := 0) S.nd (by rw [List.length_cons, List.length_cons, hul]) rfl rfl
  refine ks_wpAt_execs_cons (ks_wpAt_Expr_any (ks_wpAt_MethodCall (ks_wpAt_super_base S.ks S.kc (by decide) rfl (hk1 _ _ (X _ _ lkI)) rfl hpr rfl (X1 _ _ hcode) rfl hvs hfile T.top ?_) (sup_form hpp)) (by simp [interactive, callEnv, newEnv, S.kind]))
  refine W.ks_loadName_global S.kind S.ks (loadGlobal_builtin (mb := mb) ((e0.mod.glob.keeps bk).keeps hk1) T.sup ((hbn.keeps bk).keeps hk1) ((hbb _ (by decide +kernel)).trans PyProof.Rows.Boot.«super») ⟨rfl, ?_⟩)
  refine wpAny_loadName_free S.kind S.kc rfl ⟨_, X1 _ _ hcell, rfl⟩ ?_
  rw [har]
  refine wpAny_loadName_local S.kind (S.loc _ List.mem_cons_self).1 hns hself ?_
  refine ks_wpAny_isType_cls (X1 _ _ hC) rfl ⟨rfl, ?_⟩
  refine ks_wpAny_call_super (X1 _ _ hC) rfl hx1 rfl (fun c e => nomatch e) (W.looks_mroIn X1 T.sub) (fun h2 e2 k2 => ?_)
  have X2 : K.In h2 := X1.keeps k2
  have hx2 := k2 _ _ hx1
  have I2 : W.InstAt h2 a _ C none := ⟨hx2, rfl, rfl, trivial⟩
  refine W.kxs_getMethod W.kxs_ValueError e2 (W.looks_opaque X2 T.op) ((W.looks_clsIn X2 hcd1).andThen .now) rfl X2 (by
    have q := T.su
    unfold W.ks_superIn at q
    rw [hcd1] at q
    exact q) (I2.type.andThen (W.looks_subIn X2 T.ve)) (W.ks_ne X2 I2 hcd1) (by decide) ?_
  refine W.kxs_callWith (i := "ValueError.__init__") (u := h2.objs.size) (x := a) rfl (evalArgs_plain (spliced_cons (Constant_str (k := j) (pos := p3) (spliced_nil ⟨Heap.get?_push_at rfl rfl, ?_⟩))))
  have k3 : ∀ b o, h2.get? b = some o → (h2.push (W.kxs_mw "ValueError.__init__" a)).get? b = some o := fun b o e => Heap.get?_push_of_some _ e
  refine call_mw (k3 _ _ (X2 _ _ hC)) (k3 _ _ hx2) (Heap.get?_push_at rfl rfl) (fun h4 t4 k4 hx4 => ?_) (by show 1 ≤ sizeLine; decide)
  have hLa : s.heap.objs.size ≠ a := fun z => by
    have := Heap.lt_size hx
    rw [← z] at this
    exact Nat.lt_irrefl _ this
  have k04 : ∀ b o, b ≠ a → h1.get? b = some o → h4.get? b = some o := fun b o hb e => k4 b o hb (k3 _ _ (k2 _ _ e))
  have X4 : K.In h4 := fun b o e => k04 b o (KX b o e).1 (X1 b o e)
  have hns4 : h4.Ns s.heap.objs.size (fun y => ((("self" : Str) :: fs).zip (Value.ref a :: us)).reverse.lookup y) := by
    obtain ⟨o, es, ep, e1, r⟩ := hns
    exact ⟨o, es, ep, k04 _ _ hLa e1, r⟩
  have hz4 : s.heap.objs.size + 1 ≤ h4.objs.size := by
    obtain ⟨o, _, _, e1, _⟩ := hns4
    exact Heap.lt_size e1
  refine wpAt_of_wpAny ?_
  refine asgs_run (L := s.heap.objs.size) (b0 := s.heap.objs.size + 1) T.o (by exact S.kind) (by rfl) (Nat.lt_succ_self _) hLa hself (by exact (S.loc _ List.mem_cons_self).1) hrest hv (fun i f u h1 h2 => zip_look (i := i + 1) S.nd (by rw [List.length_cons, List.length_cons, hul]) h1 h2) hlen (by show 0 + fs.length ≤ 900; have := S.small; omega)
    (fun f hf => ⟨by exact (S.loc _ (List.mem_cons_of_mem _ hf)).1, (S.loc _ (List.mem_cons_of_mem _ hf)).2, T.nf f hf⟩) X4 KX hns4 hz4 (.inl ⟨rfl, t4, hx4⟩) fun h5 t5 k5' hz5 e5 => ?_
  rw [List.append_nil] at e5
  have keep : ∀ b o, b ≠ a → s.heap.get? b = some o → h5.get? b = some o := fun b o hb e => k5' b o hb (Nat.lt_succ_of_lt (Heap.lt_size e)) (k04 b o hb (hk1 b o e))
  have na : ∀ b, H b = none → b ≠ a := fun b n z => by
    rw [z, ha] at n
    cases n
  have gens : AllBare s.gens := e0.bare
  rcases e5 with ⟨enil, t6, hx6⟩ | ⟨t6, dx, hnn, hx6, hdb, hda, mA, hmA, rel⟩
  · have hfs : fs = [] := by
      cases fs with
      | nil => rfl
      | cons f fs =>
        cases ys with
        | nil => cases hlen
        | cons y ys => simp at enil
    refine ⟨.non, H, rfl, gens, ⟨fun b o e n _ _ => keep b o (na b n) e, fun b o e n _ _ => ⟨o.slots, keep b o (na b n) e⟩, fun b o _ n _ => n, fun b o e _ => ?_, fun b xs q => q, fun b o u q => q, fun b ps q => ⟨#[], by rw [q]; simp⟩⟩, fun b o e => ?_, rfl, q0 hfs⟩
    · by_cases hb : b = a
      · exact ⟨_, by rw [hb]; exact hx6⟩
      · exact ⟨o, keep b o hb e⟩
    · by_cases hb : b = a
      · subst hb
        rw [ha] at e
        cases e
        exact exo_ok hx6
      · exact (e0.hok b o e).stay (fun c v hc z => keep c v (by
          rcases hc with hc | hc
          · rw [hc]; exact hb
          · exact at_ne ha hc exo_own) z) (fun c hc => hc) (fun c xs hc => hc)
  · have hfs : fs ≠ [] := fun z => by
      subst z
      have := List.eq_nil_of_length_eq_zero hlen
      subst this
      exact hnn rfl
    have hdn : H dx = none := e0.hok.fresh (Nat.le_of_succ_le hdb)
    have nd : ∀ b o, s.heap.get? b = some o → b ≠ dx := fun b o e z => by
      have h1 := Heap.lt_size e
      rw [z] at h1
      exact absurd hdb (Nat.not_le_of_lt (Nat.lt_succ_of_lt h1))
    refine ⟨.non, _, rfl, gens, ⟨fun b o e n _ _ => keep b o (na b n) e, fun b o e n _ _ => ⟨o.slots, keep b o (na b n) e⟩, fun b o e n _ => by rw [upd_ne (na b n), upd_ne (nd b o e)]; exact n, fun b o e _ => ?_,
      fun b xs q => by rw [upd_ne (at_ne ha q exo_tup), upd_ne (ne_of_none q hdn)]; exact q, fun b o u q => by rw [upd_ne (at_ne ha q exo_frz), upd_ne (ne_of_none q hdn)]; exact q, fun b ps q => ⟨#[], by rw [upd_ne (at_ne ha q exo_tbl), upd_ne (ne_of_none q hdn), q]; simp⟩⟩, fun b o e => ?_, rfl, q1 hfs dx hdn hda⟩
    · by_cases hb : b = a
      · exact ⟨_, by rw [hb]; exact hx6⟩
      · exact ⟨o, keep b o hb e⟩
    · by_cases hb : b = a
      · subst hb
        rw [upd_same] at e
        cases e
        exact exo_ok hx6
      · rw [upd_ne hb] at e
        by_cases hd : b = dx
        · subst hd
          rw [upd_same] at e
          cases e
          exact exd_ok hmA rel
        · rw [upd_ne hd] at e
          exact (e0.hok b o e).stay (fun c v hc z => keep c v (by
            rcases hc with hc | hc
            · rw [hc]; exact hb
            · exact at_ne ha hc exo_own) z) (fun c hc => by rw [upd_ne (at_ne ha hc exo_own), upd_ne (ne_of_none hc hdn)]; exact hc) (fun c xs hc => by rw [upd_ne (at_ne ha hc exo_tup), upd_ne (ne_of_none hc hdn)]; exact hc)
end
end My
namespace My
open PySem PySem.Spec PyProof.Rows L2
/-- how the own error x with the fields fs stands in the written part -/
structure Er (P : Program) (K : PySem.W.Frag) (mg : Str → Option Value) (x : Str) (C fI : Addr) (fd : FuncData) (st : Stmt) (fs : List Str) : Prop where
  T : ErrT P K mg x C fI fd st fs
  S : ErrS st fs
  b : Binds K fd (("self" : Str) :: fs) []
  xf : XfC K C
/-- what the raise of x asks behind its arguments -/
theorem mk_ok {C : Addr} {fs : List Str} {vs : List V} {H : Hp} {Q : XK} (hl : vs.length = fs.length) (hz : vs.length ≤ 1000) (hn : fs ≠ []) (q : ∀ d, H d = none → Q (.ref C) (some d) (upd H d (.xd (fs.zip vs).reverse))) :
    vs.length ≤ 1000 ∧ ∀ a, H a = none → spErr C fs (.ref a :: (vs ++ [])) (upd H a (exo a C none))
      (fun v H2 => v = .non ∧ ∃ (d : Addr) (gs : List (Str × V)), H2 a = some (exo a C (some d)) ∧ H2 d = some (exd d gs) ∧ H d = none ∧ Q (.ref C) (some d) (upd (del H2 a) d (.xd gs))) (fun _ _ _ => False) := by
  refine ⟨hz, fun a ha => ⟨a, vs, by rw [List.append_nil], hl, upd_same, fun z => absurd z hn, fun _ d hd hda => ⟨rfl, d, (fs.zip vs).reverse, upd_same, ?_, ?_, ?_⟩⟩⟩
  · rw [upd_ne hda, upd_same]
  · rw [upd_ne hda] at hd
    exact hd
  · rw [upd_ne hda] at hd
    have e : upd (del (upd (upd (upd H a (exo a C none)) d (exd d (fs.zip vs).reverse)) a (exo a C (some d))) a) d (.xd (fs.zip vs).reverse) = upd H d (.xd (fs.zip vs).reverse) := by
      funext b
      by_cases h1 : b = d
      · rw [h1, upd_same, upd_same]
      · rw [upd_ne h1, upd_ne h1]
        by_cases h2 : b = a
        · rw [h2, del_same, ha]
        · rw [del_ne h2, upd_ne h2, upd_ne h1, upd_ne h2]
    rw [e]
    exact q d hd
section
variable {X : Cx} {x : Str} {C fI : Addr} {fd : FuncData} {st : Stmt} {fs : List Str} {e : Expr} {es : List Expr} {ta : TA} {p pos pos2 : Pos} {W : WX}
/-- raise x(e, ..) -/
theorem ps_err (R : Er X.prog X.K X.mg x C fI fd st fs) (hr : Room 1 X.A) (hc : X.calm = true) (tk : Takes X W) (ha : PA X (e :: es) ta) (hg : Gl X x := by rfl)
    (hdb : (x == ("__debug__" : Str)) = false := by decide) (he : starEach (e :: es) X.env = (false, eval e X.env) :: starEach es X.env := by rfl) (hpl : (backTo pos (starEach es X.env)).any (·.1) = false := by rfl) :
    PS X (.Raise (some (.Call (.Name x p) (e :: es) [] pos)) none pos2) (fun _ σ H => tMkO C (spErr C fs) [] ta σ H fun cls d H' => W cls d σ H') :=
  ps_raise hc tk (pmk_oex (k := 0) R.T.o R.T.iC R.T.tI (ok_err R.T R.S) hr R.b .nil (fun _ _ _ _ _ _ _ z => z.elim) hg R.T.gC ha hdb he hpl)
/-- x(), an error without fields, made to be raised -/
theorem pmk_err0 {x : Str} {C fI : Addr} {fd : FuncData} {st : Stmt} (R : Er X.prog X.K X.mg x C fI fd st []) (hr : Room 1 X.A) (hg : Gl X x := by rfl) (hdb : (x == ("__debug__" : Str)) = false := by decide) :
    PMk X (.Call (.Name x p) [] [] pos) (fun _ H Q => Q (.ref C) none H) := by
  intro pins s σ H Q I1 q
  have T := R.T.o
  obtain ⟨nm, qn, N, bs, bm, sn, sub, ab, col, dd, k0, k1, k2, k3, k5, hC, hbm⟩ := T.cls
  refine wpAny_Call_Name_kw (ld_glob I1 hg R.T.gC ?_ hdb)
  refine PySem.W.callWith_K0 I1.kIn T.kC ?_
  show wpAny _ _ (call (.ref C) []) _ _ _
  obtain ⟨hp, g, dr, tk, os⟩ := s
  have hsz : hp.objs.size ≤ hp.objs.size + 1 := Nat.le_succ _
  have hn : H (hp.objs.size + 1) = none := I1.hok.fresh hsz
  have kk : ∀ b o, hp.get? b = some o → ((hp.push (PySem.W.kdv_tup [])).push (PySem.HandSPX.excO C hp.objs.size)).get? b = some o := fun b o e => Heap.get?_push_of_some _ (Heap.get?_push_of_some _ e)
  have hget : ((hp.push (PySem.W.kdv_tup [])).push (PySem.HandSPX.excO C hp.objs.size)).get? (hp.objs.size + 1) = some (PySem.HandSPX.excO C hp.objs.size) := by heap_get
  have I2 : Inv X pins σ (upd H (hp.objs.size + 1) (exo (hp.objs.size + 1) C none)) ⟨(hp.push (PySem.W.kdv_tup [])).push (PySem.HandSPX.excO C hp.objs.size), g, dr, tk, os⟩ :=
    I1.laid (t' := tk) (a := hp.objs.size + 1) (o := exo (hp.objs.size + 1) C none) (h' := (hp.push (PySem.W.kdv_tup [])).push (PySem.HandSPX.excO C hp.objs.size)) kk hsz (exo_ok hget)
  have F1 : FnOk X.prog X.w X.K X.mg X.base CX0 0 fI fd (("self" : Str) :: []) (spErr C []) := ok_err R.T R.S
  generalize ea : hp.objs.size + 1 = a at hn hget I2 hsz
  have hq : spErr C [] [.ref a] (upd H a (exo a C none)) (fun v H2 => v = .non ∧ H2 = upd H a (exo a C none)) (fun _ _ _ => False) := ⟨a, [], rfl, rfl, upd_same, fun _ => ⟨rfl, rfl⟩, fun z => absurd rfl z⟩
  refine wpAny_call (PySem.HandSPX.call_own F.excBase_ValueError (fun Y => PySem.HandSPX.refsVE_contains Y bm hbm) (I1.kIn _ _ hC) (PySem.W.looks_findIn I1.kIn R.T.iC) (fun self => PySem.W.bind_fn I1.kIn self R.T.tI) (Nat.zero_le _) ?_)
  rw [ea]
  refine codeAny_mono (F1.run _ X.stack _ _ ⟨[.ref a], []⟩ [.ref a] [.ref a] _ (fun _ _ _ => False) (hr.make C [] []) (I2.env0.make C [] []) (R.b _ [.ref a] I2.kIn rfl) (.cons rfl .nil) hq) fun r s' hq' => ?_
  cases r with
  | error er => exact hq'.elim
  | ok fl =>
    cases fl with
    | ret u =>
      obtain ⟨v, H2, os2, bare2, un2, hok2, rv, ev, eH⟩ := hq'
      subst ev
      subst eH
      obtain ⟨h2, g2, d2, t2, os'⟩ := s'
      refine ⟨rv, ?_⟩
      obtain ⟨t0, hoe⟩ := exo_at hok2 upd_same
      obtain ⟨G, g1', g2'⟩ := restrict h2 fun b => decide (b ≠ a)
      have gk : ∀ b, b ≠ a → G.get? b = h2.get? b := fun b hb => g1' b (decide_eq_true hb)
      have ge : G.get? a = none := g2' a (by simp)
      have nha : ∀ {b : Addr} {o : Obj}, hp.get? b = some o → b ≠ a := fun {b o} z => Nat.ne_of_lt (Nat.lt_of_lt_of_le (Heap.lt_size z) hsz)
      have up : ∀ {b : Addr}, b ≠ a → H b = none → upd H a (exo a C none) b = none := fun {b} hb n => by rw [upd_ne hb]; exact n
      have U : Un (frs X.stack) [] H H hp G := {
        keep := fun b o z n hf hx => by
          rw [gk b (nha z)]
          exact un2.keep b o (kk b o z) (up (nha z) n) hf hx
        slot := fun b o z n hf hx => by
          rw [gk b (nha z)]
          exact un2.slot b o (kk b o z) (up (nha z) n) hf hx
        free := fun b o z n hx => n
        there := fun b o z hx => by
          rw [gk b (nha z)]
          exact un2.there b o (kk b o z) hx
        tups := fun b xs z => z
        frzs := fun b o v z => z
        tbls := fun b ps z => ⟨#[], by rw [z]; simp⟩ }
      have hok3 : HOk X.prog X.w H G := fun b o z => by
        have hb : b ≠ a := ne_of_none z hn
        have noa : ∀ {c : Addr} {o : HO}, H c = some o → c ≠ a := fun {c o} hc => ne_of_none hc hn
        exact (hok2 b o (by rw [upd_ne hb]; exact z)).stay (fun c v hc y => by
            have hca : c ≠ a := by
              rcases hc with hc | hc
              · rw [hc]; exact hb
              · exact fun q => by
                  rw [q, upd_same] at hc
                  exact exo_own (Option.some.inj hc)
            rw [gk c hca]
            exact y) (fun c hc => by
              by_cases hca : c = a
              · rw [hca, upd_same] at hc
                exact absurd (Option.some.inj hc) exo_own
              · rw [upd_ne hca] at hc
                exact hc) (fun c xs hc => by
              by_cases hca : c = a
              · rw [hca, upd_same] at hc
                exact absurd (Option.some.inj hc) exo_tup
              · rw [upd_ne hca] at hc
                exact hc)
      have J : Inv X pins σ H ⟨G, g2, d2, t2, os'⟩ := I1.call' (ch := []) os2 U hok3 bare2 (fun b z => absurd z (by simp))
      refine ⟨a, _, _, ⟨G, g2, d2, t2, os'⟩, H, .ref C, none, rfl, J, fun b o z => ?_, ge, hoe, ⟨rfl, rfl⟩, rfl, rfl, hn, rfl, bare2, raises_own T.exC T.tyC, q⟩
      by_cases hba : b = a
      · have z' : G.get? b = some o := z
        rw [hba, ge] at z'
        cases z'
      · exact (gk b hba).symm.trans z
    | next => exact False.elim hq'
    | brk => exact False.elim hq'
    | cont => exact False.elim hq'
theorem ps_err0 {x : Str} {C fI : Addr} {fd : FuncData} {st : Stmt} (R : Er X.prog X.K X.mg x C fI fd st []) (hr : Room 1 X.A) (hc : X.calm = true) (tk : Takes X W) (hg : Gl X x := by rfl) (hdb : (x == ("__debug__" : Str)) = false := by decide) :
    PS X (.Raise (some (.Call (.Name x p) [] [] pos)) none pos2) (fun _ σ H => W (.ref C) none σ H) := ps_raise hc tk (pmk_err0 R hr hg hdb)
end
end My
namespace My
open PySem PySem.Spec PyProof.Rows L2
/-- one clause: the class, the slot of its name, the suite's reading -/
abbrev Clause := Value × Nat × (Addr → Value → Option Addr → TS)
/-- behind the suite the name's slot is empty -/
def wiped (i : Nat) (D : Ends) : Ends := { nx := fun τ G => D.nx (τ.set i none) G, rt := D.rt, bk := fun τ G => D.bk (τ.set i none) G, ct := fun τ G => D.ct (τ.set i none) G }
/-- what the clauses wish of an error of the body, one behind the other -/
def wAsMany (K : PySem.W.Frag) (Wo : WX) (D : Ends) : List Clause → WX
  | [] => Wo
  | (c, i, ts) :: more => fun cls d σ H => ∃ b, PySem.W.exmOne K cls c = some b ∧ (b = true → ∀ a, H a = none → ts a cls d (wiped i D) (σ.set i (some (.ref a))) H) ∧ (b = false → wAsMany K Wo D more cls d σ H)
inductive ClausesOk (X : Cx) : List ExceptHandler → List Clause → Prop
  | nil : ClausesOk X [] []
  | cons {x n : Str} {c : Value} {i : Nat} {ts : Addr → Value → Option Addr → TS} {s0 : Stmt} {suite : List Stmt} {p1 p2 : Pos} {hds : List ExceptHandler} {l : List Clause} (hi : X.N[i]? = some n) (hl : X.env.kindOf n = some .local) (hc : Names X x c)
      (hsu : ∀ (a : Addr) (oe : Obj) (cls : Value) (d : Option Addr) (pn : List (Addr × Obj)), Zc cls d oe → (∃ vs, oe.data = .fields vs) → PSs (X.suite a ((a, oe) :: pn)) (s0 :: suite) (ts a cls d)) (r : ClausesOk X hds l) :
      ClausesOk X (.ExceptHandler (some (.Name x p1)) (some n) (s0 :: suite) p2 :: hds) ((c, i, ts) :: l)
section
variable {X : Cx} {pins : List (Addr × Obj)} {D : Ends} {Wo : WX}
/-- an error that has landed in the frame, looked at by the clauses -/
theorem clauses_run (hs : X.stack = X.env :: X.outer) (hf : X.env.frame = some X.env.locals) (hN : X.N.Nodup) (ok : X.Ok) (tk : Takes X Wo) {a : Addr} {B : Heap} {sI s' : Shared} {σ : L2.St} {H : Hp} {cls : Value} {d : Option Addr} {h3 : Heap}
    (J : Inv X pins σ H sI) (nb : ∀ b o, sI.heap.get? b = some o → b ∉ frs X.stack → B.get? b = some o) (up : sI.heap.UpToSlots h3) (fl : HandSPX.FlyingZ B (X.env :: X.outer) a (Zc cls d) h3) (na : H a = none) (os : s'.os = sI.os) (ag : AllBare s'.gens)
    {hds : List ExceptHandler} {l : List Clause} (ck : ClausesOk X hds l) : wAsMany X.K Wo D l cls d σ H →
      wpAny (model X.prog X.w) X.A (handleBy (.ref a) X.env hds) (SP X pins D) X.xe { s' with heap := h3 } := by
  have J3 : Inv X pins σ H { s' with heap := h3 } := J.landed nb fl.1 up os ag
  obtain ⟨oe3, vs3, he3, hz3, hd3⟩ := fl.there
  have away : a ∉ frs (X.env :: X.outer) := fun hm => by
    obtain ⟨_, ob, eb, nof⟩ := (fl.2.2.1).mem hm
    rw [he3] at eb
    cases eb
    exact nof _ hd3
  have nL : a ≠ X.env.locals := fun z => away (by
    rw [z]
    exact List.mem_filterMap.mpr ⟨X.env, List.mem_cons_self, hf⟩)
  have nF : a ∉ X.fs := fun hm => by
    obtain ⟨e, he, q⟩ := List.mem_filterMap.mp hm
    exact away (List.mem_filterMap.mpr ⟨e, .tail _ he, q⟩)
  have S3 := J3.suite he3 hd3 na nL nF
  have LT : PySem.W.Looks (model X.prog X.w) h3 (typeOf (.ref a)) cls := fun _ _ _ _ k q => wpAny_typeOf_ref (k _ _ he3) (by rw [hz3.1]; exact q)
  induction ck with
  | nil =>
    intro w
    refine wpAny_handleBy_nil ?_
    obtain ⟨_, _, _, oe, vs, tr, _, _, he, _, hd, h1, _⟩ := id fl
    have out : wpAny (model X.prog X.w) X.A (setFlight (.ref a) X.env.frame) (fun _ s4 => wpAny (model X.prog X.w) X.A (throw (.ref a) : Sem Flow) (SP X pins D) X.xe s4) X.xe { s' with heap := h3 } := by
      rw [hf]
      refine HandSPX.setFlight_upZ fl fun h4 held up4 => wpAny_throw (tk _ _ ?_)
      exact ⟨a, B, sI, pins, σ, H, cls, d, rfl, J, nb, up.trans up4, .inr (.inr (by rw [hs]; exact held)), na, os, ag, w⟩
    unfold PySem.passOn
    refine wpAny_bind (wpAny_field he hd h1 ?_)
    rw [if_neg (by simp : ¬ ((Value.ref tr == Value.none) = true))]
    first
      | exact wpAny_bind out
      | exact wpAny_bind (wpAny_pure (wpAny_bind out))
  | @cons x n c i ts s0 suite p1 p2 hds l hi hl hc hsu r ih =>
    rintro ⟨b, hb, yes, no⟩
    refine wpAny_handleBy_cons (codeAny_handlers_test ?_) (fun q => by cases q)
    have look := PySem.W.exm_one (M := model X.prog X.w) J3.kIn LT hb
    have name : ∀ {Q : Value → Shared → Prop} {E : Value → Shared → Prop}, Q c { s' with heap := h3 } → wpAny (model X.prog X.w) (X.A.mark (some (.ref a))) (eval (.Name x p1) X.env) Q E { s' with heap := h3 } := fun q => by
      rcases hc with ⟨hg, hdb, hm | ⟨hm, hv, hn⟩⟩
      · exact ld_glob (X := X.suite a ((a, oe3) :: (X.pn ++ pins))) S3 hg hm q hdb
      · exact ld_blt (X := X.suite a ((a, oe3) :: (X.pn ++ pins))) S3 hg hm hv q hn hdb
    refine name (look.here ?_)
    cases b with
    | false => exact ih (no rfl)
    | true =>
      refine codeAny_handlers_suite_as (HandSPX.lands_againZ fl fun h4 fl4 up4 => ?_)
      have J4 : Inv X pins σ H { s' with heap := h4 } := J.landed nb fl4.1 (up.trans up4) os ag
      obtain ⟨oe4, vs4, he4, hz4, hd4⟩ := fl4.there
      refine store_ok (X := X.suite a ((a, oe4) :: (X.pn ++ pins))) (v := .ref a) (J4.suite he4 hd4 na nL nF) hN hi (.inl hl) rfl (fun s5 S5 => ?_) (.inr hl)
      have gone : ∀ {τ : L2.St} {G : Hp} {s6 : Shared} {Q : Shared → Prop}, Inv (X.suite a ((a, oe4) :: (X.pn ++ pins))) [] τ G s6 → (∀ s7, Inv X pins (τ.set i none) G s7 → Q s7) →
          wpAny (model X.prog X.w) X.A (do bindName X.env n .none; unbindBehindTheSuite X.env n p2) (fun _ s7 => Q s7) X.xe s6 := fun S6 hq => gone_ok (S6.unsuite ok) hN hi hl hq
      refine wpAny_mono ((hsu a oe4 cls d (X.pn ++ pins) hz4 ⟨_, hd4⟩).run [] s5 _ H _ S5 (yes rfl a na)) (fun f s6 he => ?_) (fun _ _ z => z.elim)
      cases f with
      | ret u =>
        obtain ⟨v, τ, G, S6, rv, q⟩ := he
        exact gone S6 fun s7 J7 => ⟨v, _, _, J7, rv, q⟩
      | next => obtain ⟨τ, G, S6, q⟩ := he; exact gone S6 fun s7 J7 => ⟨_, _, J7, q⟩
      | brk => obtain ⟨τ, G, S6, q⟩ := he; exact gone S6 fun s7 J7 => ⟨_, _, J7, q⟩
      | cont => obtain ⟨τ, G, S6, q⟩ := he; exact gone S6 fun s7 J7 => ⟨_, _, J7, q⟩
theorem ps_tryAs {body : List Stmt} {h0 : ExceptHandler} {hds : List ExceptHandler} {l : List Clause} {tb : WX → TS} {pos : Pos} (hs : X.stack = X.env :: X.outer) (hf : X.env.frame = some X.env.locals) (hN : X.N.Nodup) (tk : Takes X Wo)
    (hb : ∀ (W : WX) (pn : List (Addr × Obj)) (xe : Value → Shared → Prop), Takes (X.tr pn xe) W → PassesOwn (model X.prog X.w) X.A X.env xe → PSs (X.tr pn xe) body (tb W)) (ck : ClausesOk X (h0 :: hds) l) :
    PS X (.Try body (h0 :: hds) [] [] pos) (fun D σ H => tb (fun cls d τ G => τ.length = X.N.length → wAsMany X.K Wo D l cls d τ G) D σ H) := by
  refine ⟨fun pins s σ H D I h => ?_⟩
  have ok := I.ok
  have hfr : X.A.frames = some (X.env :: X.outer) := ok.frames.trans (by rw [hs])
  refine wpAny_Try_except (wpAny_mono ((hb (fun cls d τ G => τ.length = X.N.length → wAsMany X.K Wo D l cls d τ G) (X.pn ++ pins) (fun e s1 => wpAny (model X.prog X.w) X.A (noteFrame e X.env) (fun _ s2 => wpAny (model X.prog X.w) X.A (setFlight e none) (fun _ s3 =>
    wpAny (model X.prog X.w) X.A (handleBy e X.env (h0 :: hds)) (SP X pins D) X.xe s3) X.xe s2) X.xe s1) (fun u s' xx => ?_) PassesOwn.looking).run [] s σ H D (I.toTry _) h) (fun f s1 he => ?_) (fun _ _ z => z))
  · obtain ⟨a, B, sI, pins', τ, G, cls, d, rfl, J', nb, up, sky, na, os, ag, w⟩ := xx
    rw [hs] at sky
    refine Sky.land Zc.steady hfr hf sky fun h3 fl up3 => ?_
    exact clauses_run hs hf hN ok tk (J'.ofTry ok) nb (up.trans up3) fl na os ag ck (w J'.len)
  · cases f with
    | ret u => obtain ⟨v, τ, G, J', rv, q⟩ := he; exact ⟨v, τ, G, J'.ofTry ok, rv, q⟩
    | next => obtain ⟨τ, G, J', q⟩ := he; exact wpAny_execs_nil ⟨τ, G, J'.ofTry ok, q⟩
    | brk => obtain ⟨τ, G, J', q⟩ := he; exact ⟨τ, G, J'.ofTry ok, q⟩
    | cont => obtain ⟨τ, G, J', q⟩ := he; exact ⟨τ, G, J'.ofTry ok, q⟩
end
end My
namespace My
open PySem PySem.Spec PyProof.Rows L2
/-- isinstance(e, c), e the error that the suite holds: its class D, its dict d -/
def rIsX (K : PySem.W.Frag) (D a : Addr) (cls : Value) (d : Option Addr) : List V → Hp → VK → Prop := fun xs H Q => ∃ (c : V) (cv : Value) (b : Bool), cls = .ref D ∧ xs = [.ref a, c] ∧ (∀ u, RelV c u → u = cv) ∧ PySem.W.kitOne K (.ref D) cv = some b ∧
  (d = none ∨ ∃ (dd : Addr) (fs : List (Str × V)), d = some dd ∧ H dd = some (.xd fs)) ∧ Q (.bl b) H
theorem call_isX {X : Cx} {a D : Addr} {cls : Value} {d : Option Addr} {oe : Obj} {pn : List (Addr × Obj)} (C : ExcC X.K D) (hz : Zc cls d oe) (hf : ∃ vs, oe.data = .fields vs) : CallR (X.suite a ((a, oe) :: pn)) (.builtin "isinstance") (rIsX X.K D a cls d) := by
  intro pins s σ H xs us Q I r h
  obtain ⟨c, cv, b, rfl, rfl, hcv, e, hd, q⟩ := h
  cases r with
  | cons rx rr =>
  cases rr with
  | cons rt rr =>
  cases rr
  cases rx
  have ec := hcv _ rt
  subst ec
  obtain ⟨hget, _⟩ := I.pin (a, oe) (List.mem_append.mpr (.inl List.mem_cons_self))
  obtain ⟨vs, hv⟩ := hf
  have hcl : (PySem.W.clsIn X.K D).isSome = true := by
    obtain ⟨cd, hc, _⟩ := PySem.W.any_some C.hd
    rw [hc]
    rfl
  have J : ∃ od, PySem.W.InstAt s.heap a oe D od := by
    rcases hd with rfl | ⟨dd, fs, rfl, hdd⟩
    · exact ⟨none, hget, hz.1, by unfold PySem.W.notCls; rw [hv] <;> rfl, by rw [hz.2]; trivial⟩
    · obtain ⟨mA, ⟨o, es, ep, ho, _⟩, _⟩ := (show ObjOk X.prog X.w H s.heap dd (.xd fs) from I.hok dd _ hdd)
      exact ⟨some o, hget, hz.1, by unfold PySem.W.notCls; rw [hv] <;> rfl, by rw [hz.2]; exact ho⟩
  obtain ⟨od, J⟩ := J
  exact PySem.W.kia_one (PySem.W.kitx_exc hcl C.hg C.hk C.hs C.ha C.hn C.ht C.hm) I.kIn J e (fun z => nomatch z) fun tk => ⟨.bl b, H, I.kept (t' := tk) fun _ _ z => z, rfl, q⟩
end My
namespace My
open PySem PySem.Spec PyProof.Rows L2
/-- a set that was just made -/
abbrev set0 (w : World) : Obj := { cls := .type "set", dict := none, data := .set #[] 0 (.fresh 0 0 (!w.params.followText "set-order")) }
section
variable {P : Program} {w : World} {A : Around} {E : Value → Shared → Prop} {s : Shared}
/-- set(xs), xs a list of ints -/
theorem call_setL {l : Addr} {items : Array Value} (ns : List Int) {Q : Value → Shared → Prop} (hh : A.handled = none) (hl : s.heap.IsList l items) (hit : IntsAre items.toList ns) (hb : ns.length + 1 < scanBound)
    (h : ∀ (h' : Heap) (tk c : Nat), SetR w h' s.heap.objs.size (fun j => decide (j ∈ ns)) c → c ≤ ns.length → (∀ b o, s.heap.get? b = some o → h'.get? b = some o) → Q (.ref s.heap.objs.size) { s with heap := h', toks := tk }) :
    wpAny (model P w) A (call (.type "set") [.ref l]) Q E s := by
  have hsz : items.size = ns.length := (Array.length_toList (xs := items)).symm.trans (IntsAre.length hit)
  obtain ⟨c, tl, hmro⟩ := F.called_set.mro
  have hmade := F.called_set.made
  have hsub := F.called_set.sub
  refine wpAny_call (codeAny_of_tree ?_)
  show wpAny _ _ (callAny (.type "set") _) _ _ _
  refine wpAny_pure ⟨Code.quiet_builtin _ (by decide +kernel), codeAny_builtin F.entry_type_call ?_⟩
  rw [Around.under_plain (weight_type_call_type "set" [.ref l] []) rfl]
  have h1 := F.called_set.notType
  have h2 := F.called_set.canCreate
  have hct := F.typeCall_set_1 (.ref l)
  repeat (any_goals (first | assumption | wp_step))
  refine codeAny_mono (code_set_led1 (.ref l) (E := E) (Q₁ := fun obj s1 => obj = .ref s.heap.objs.size ∧ s1 = { s with heap := s.heap.push (set0 w) }) ⟨rfl, rfl⟩) fun r s1 hr => ?_
  rcases r with e | fl
  · exact hr
  cases fl with
  | next => exact hr.elim
  | brk => exact hr.elim
  | cont => exact hr.elim
  | ret obj =>
  obtain ⟨rfl, rfl⟩ := hr
  have hS : (s.heap.push (set0 w)).get? s.heap.objs.size = some (set0 w) := Heap.get?_push_size _ rfl
  have hT : Shared.TypeIs { s with heap := s.heap.push (set0 w) } (.ref s.heap.objs.size) "set" := ⟨_, hS, rfl⟩
  have hli := F.called_set.init.lookup
  have hbi := F.called_set.init.bind (.ref s.heap.objs.size)
  repeat (any_goals (first | assumption | wp_step))
  refine codeAny_mono (codeAny_call_builtin (R := wants (fun r s2 => r = .none ∧ ∃ h' tk c, s2 = { s with heap := h', toks := tk } ∧ SetR w h' s.heap.objs.size (fun j => decide (j ∈ ns)) c ∧ c ≤ ns.length ∧
      (∀ b o, s.heap.get? b = some o → h'.get? b = some o)) E) F.called_set.init.plain F.entry_set_init (check_set_init_1 hT ?_)) fun r2 s2 hr2 => ?_
  · obtain ⟨⟨oc, od, dat, osl⟩, hol, hcl, nl, hdl⟩ := hl
    obtain rfl : oc = .type "list" := hcl
    obtain rfl : dat = .seq items nl := hdl
    have hol' : (s.heap.push (set0 w)).get? l = some ⟨.type "list", od, .seq items nl, osl⟩ := Heap.get?_push_of_some _ hol
    have n1 := F.sub_list_set
    have n2 := F.sub_list_frozenset
    have n3 : (Value.type "list" == Value.type "dict") = false := by decide
    have L1 : (s.heap.push (set0 w)).IsList l items := ⟨_, hol', rfl, nl, rfl⟩
    unfold Builtin.«set.__init__» noKeywords Builtin.Frozenset.updateFrom
    generalize hPI : pyIter = PI
    wp_walk
    subst hPI
    refine wpAny_pyIter_list L1 (wpAny_bind (wpAny_runValue ?_))
    have lt : l < s.heap.objs.size := Heap.lt_size hol
    have hq : A.in1.in1.in1.handled = none := by simp [hh]
    have zp : (s.heap.push (set0 w)).objs.size = s.heap.objs.size + 1 := Heap.size_push ..
    have nI : l ≠ (s.heap.push (set0 w)).objs.size := by
      rw [zp]
      exact Nat.ne_of_lt (Nat.lt_succ_of_lt lt)
    have nS : s.heap.objs.size ∉ [(s.heap.push (set0 w)).objs.size, l] := by
      rw [zp]
      intro z
      rcases List.mem_cons.mp z with z | z
      · exact Nat.ne_of_lt (Nat.lt_succ_self _) z
      · exact Nat.ne_of_gt lt (List.mem_singleton.mp z)
    have val : ∀ (i : Nat) (v : Value), items[i]? = some v → ∃ k t, ns[i]? = some k ∧ v = .int k t := fun i v hv => by
      have hi : i < ns.length := by
        rw [← hsz]
        exact (Array.getElem?_eq_some_iff.mp hv).1
      obtain ⟨t, e⟩ := IntsAre.int_at hit i v (by rw [Array.getElem?_toList]; exact hv)
      refine ⟨ns[i], t, List.getElem?_eq_getElem hi, ?_⟩
      rw [e, List.getD_eq_getElem?_getD, List.getElem?_eq_getElem hi] <;> rfl
    refine set_update_ints ((Walks.list hq _ l nI items).toS) s.heap.objs.size nS ns hsz hb val (items.size - 0) 0 _ (by omega) (Nat.zero_le _) ⟨⟨_, Heap.get?_push_size _ rfl, rfl, rfl⟩, (L1.push _)⟩
      ⟨0, Nat.le_refl 0, setR_new_at (Heap.get?_push_of_some _ hS)⟩ fun s' c' hm hc' hS' => ?_
    obtain ⟨h', g', d', tk', os'⟩ := s'
    obtain rfl : g' = s.gens := hm.gens
    obtain rfl : d' = s.drawn := hm.drawn
    obtain rfl : os' = s.os := hm.os
    show wpAny _ _ _ _ _ _
    refine wpAny_pure ?_
    show wpAny _ _ (ret Value.none) _ _ _
    rw [hsz] at hc'
    refine wpAny_pure ⟨rfl, h', tk', c', rfl, hS', hc', fun b o e => ?_⟩
    have lb := Heap.lt_size e
    refine hm.heap b o (fun z => ?_) (Heap.get?_push_of_some _ (Heap.get?_push_of_some _ e))
    rcases List.mem_cons.mp z with z | z
    · exact Nat.ne_of_lt lb z
    · rw [zp] at z
      exact Nat.ne_of_lt (Nat.lt_succ_of_lt lb) (List.mem_singleton.mp z)
  · rcases r2 with e | fl2
    · exact hr2
    cases fl2 with
    | next => exact hr2.elim
    | brk => exact hr2.elim
    | cont => exact hr2.elim
    | ret r =>
      obtain ⟨rfl, h', tk, c', rfl, hS', hc', hk'⟩ := hr2
      repeat (any_goals (first | assumption | wp_step))
      exact h _ _ _ hS' hc' hk'
end
end My
namespace My
open PySem PySem.Spec PyProof.Rows L2
/-! ### over the layer -/
/-- how many different ints -/
def many : List Int → Nat
  | [] => 0
  | n :: r => if n ∈ r then many r else many r + 1
theorem many_of : ∀ (ns L : List Int), L.Nodup → (∀ k, k ∈ L ↔ k ∈ ns) → L.length = many ns
  | [], L, _, h => by
    cases L with
    | nil => rfl
    | cons a r => exact absurd ((h a).mp List.mem_cons_self) (by simp)
  | n :: r, L, nd, h => by
    unfold many
    by_cases hn : n ∈ r
    · rw [if_pos hn]
      refine many_of r L nd fun k => (h k).trans ⟨fun z => ?_, fun z => List.mem_cons_of_mem _ z⟩
      rcases List.mem_cons.mp z with z | z
      · rw [z]; exact hn
      · exact z
    · rw [if_neg hn]
      have hL : n ∈ L := (h n).mpr List.mem_cons_self
      have e := many_of r (L.erase n) (nd.erase n) fun k => by
        rw [List.Nodup.mem_erase_iff nd]
        refine ⟨fun ⟨z1, z2⟩ => ?_, fun z => ⟨fun q => hn (by rw [← q]; exact z), (h k).mpr (List.mem_cons_of_mem _ z)⟩⟩
        rcases List.mem_cons.mp ((h k).mp z2) with q | q
        · exact absurd q z1
        · exact q
      rw [← e, List.length_erase_of_mem hL]
      have := List.length_pos_of_mem hL
      omega
theorem setR_many {w : World} {h : Heap} {a : Addr} {ns : List Int} {c : Nat} (R : SetR w h a (fun j => decide (j ∈ ns)) c) : c = many ns := by
  obtain ⟨o, es, ep, t, _, _, _, _, nd, hm, _, _, hn, _⟩ := R
  rw [← many_of ns (es.toList.map keyOf) nd fun k => by rw [← hm k]; simp]
  rw [List.length_map, Array.length_toList, hn]
def rSetL (K : PySem.W.Frag) (w : World) : List V → Hp → VK → Prop := fun xs H Q => ∃ (l : Addr) (ns : List Int), xs = [V.ref l] ∧ SqL K H l (ns.map V.int) ∧ ns.length ≤ 60 ∧
  ∀ p : Addr, H p = none → Q (.ref p) (upd H p (SetO w p (fun j => decide (j ∈ ns)) (many ns)))
theorem cr_setL {X : Cx} (hc : X.calm = true) : CallR X (.type "set") (rSetL X.K X.w) := by
  intro pins s σ H xs us Q I r h
  obtain ⟨l, ns, rfl, hq, hn, q⟩ := h
  rw [Vals.ref1 r]
  obtain ⟨its, rv, pl, hz⟩ := I.list hq
  refine call_setL ns (I.ok.hd hc) pl.isList (ints_of_vals rv) (by unfold scanBound; omega) fun h' tk c R hcn k => ?_
  have hp : H s.heap.objs.size = none := I.hok.fresh (Nat.le_refl _)
  have e := setR_many R
  subst e
  exact ⟨.ref s.heap.objs.size, _, I.laid (t' := tk) k (Nat.le_refl _) (setO_new R), rfl, q _ hp⟩
/-- len of such a set -/
def rLenSet (w : World) : List V → Hp → VK → Prop := fun xs H Q => ∃ (a : Addr) (S : Int → Bool) (n : Nat), xs = [V.ref a] ∧ H a = some (SetO w a S n) ∧ n ≤ 1000 ∧ Q (.int n) H
theorem call_lenSet {X : Cx} : CallR X (.builtin "len") (rLenSet X.w) := by
  intro pins s σ H xs us Q I r h
  obtain ⟨a, S, n, rfl, ha, hn1, q⟩ := h
  rw [Vals.ref1 r]
  obtain ⟨o, es, ep, t, ho, hex, hd, _, _, _, _, hf, hn, _⟩ := setO_get I ha
  exact call_len_set ho hex hd hf (by rw [hn] <;> omega) ⟨.int n, H, I.tok _, ⟨_, by rw [hn]⟩, q⟩
theorem many_le : ∀ ns : List Int, many ns ≤ ns.length
  | [] => Nat.le_refl _
  | n :: r => by
    have := many_le r
    unfold many
    split <;> simp only [List.length_cons] <;> omega
end My
namespace My
open PySem PySem.Spec PyProof.Rows L2
/-- one pair of a written dict -/
def KdE (p : Key × V) (e : DictEntry) : Prop := ∃ x t, p.1 = Sum.inr x ∧ e.key = .str x t ∧ RelV p.2 e.val
/-- a dict of the written part with text keys, by its pairs -/
def KDo (K : PySem.W.Frag) (w : World) (a : Addr) (kvs : List (Key × V)) : Prop := ∃ (es : List DictEntry) (n : Nat), K.lookup a = some ⟨.type "dict", none, .dict es.toArray n, #[]⟩ ∧ PySem.W.KeysLit w.params es ∧ (a == sysModules) = false ∧ kvs.length ≤ sizeLine ∧ Paired KdE kvs es ∧ (kvs.map (·.1)).Nodup
theorem kdo_pairs {P : Program} {w : World} : ∀ {kvs : List (Key × V)} {es : List DictEntry}, Paired KdE kvs es →
    ∃ vs : List (Key × Value), KV kvs vs ∧ Pairs (mixKind P w) es vs ∧ vs.map (·.1) = kvs.map (·.1) := by
  intro kvs es hp
  induction hp with
  | nil => exact ⟨[], .nil, .nil, rfl⟩
  | @cons p e kvs es h r ih =>
    obtain ⟨vs, h1, h2, h3⟩ := ih
    obtain ⟨x, t, ep, ek, rv⟩ := h
    obtain ⟨k, v⟩ := p
    obtain rfl : k = Sum.inr x := ep
    refine ⟨(Sum.inr x, e.val) :: vs, .cons ⟨rfl, rv⟩ h1, .cons ?_ rfl h2, by rw [List.map_cons, List.map_cons, h3]⟩
    rw [ek]
    exact mixKind_str P w x t
theorem kdo_at {P : Program} {w : World} {K : PySem.W.Frag} {a : Addr} {kvs : List (Key × V)} {h : Heap} (D : KDo K w a kvs) (X : K.In h) : kvs.length ≤ sizeLine ∧ (a == sysModules) = false ∧ ∃ vs, KV kvs vs ∧ h.DictOf (mixKind P w) a vs := by
  obtain ⟨es, n, hl, hk, low, hz, hp, nd⟩ := D
  obtain ⟨vs, h1, h2, h3⟩ := kdo_pairs (P := P) (w := w) hp
  refine ⟨hz, low, vs, h1, _, es.toArray, n, X _ _ hl, ⟨rfl, rfl, rfl⟩, rfl, fun e he => ?_, h2, by rw [h3]; exact nd⟩
  obtain ⟨x, t, e1, e2⟩ := hk.all e (by simpa using he)
  exact ⟨Sum.inr x, by rw [e1]; exact mixKind_str P w x t, e2⟩
section
variable {X : Cx} {a : Addr} {kvs : List (Key × V)}
/-- D[k], D written, k there -/
def rKIx (K : PySem.W.Frag) (w : World) : R2 := fun x y H Q => ∃ a kvs k v, x = .ref a ∧ KDo K w a kvs ∧ y = kV k ∧ valV kvs k = some v ∧ Q v H
theorem ix_kd : IxR X (rKIx X.K X.w) := by
  intro value slice pins s σ H x y v u Q I rx ry h hs
  obtain ⟨a, kvs, k, r, rfl, D, rfl, hv, q⟩ := h
  obtain rfl : v = Value.ref a := rx
  obtain ⟨_, _, vs, rel, dd⟩ := kdo_at (P := X.prog) D I.kIn
  obtain ⟨w', hw, rw'⟩ := RelO.some_of (v := r) (o := valueAt vs k) (by rw [← hv]; exact rel.val k)
  exact tail_any dd.typeIs slot_dict_getitem.lookup (wpAny_getItem_of (kV_is ry) dd.mapOf hw ⟨r, H, I.tok _, rw', q⟩) hs
/-- list(D), D written -/
def rKList (K : PySem.W.Frag) (w : World) : List V → Hp → VK → Prop := fun xs H Q => ∃ a kvs, xs = [.ref a] ∧ KDo K w a kvs ∧ ∀ p, H p = none → Q (.ref p) (upd H p (.lst (kvs.map fun kv => kV kv.1)))
theorem call_listKD (hcalm : X.calm = true) : CallR X (.type "list") (rKList X.K X.w) := by
  intro pins s σ H xs us Q I r q
  obtain ⟨a, kvs, rfl, D, q⟩ := q
  rw [Vals.ref1 r]
  obtain ⟨z, lo, vs, rel, dd⟩ := kdo_at (P := X.prog) D I.kIn
  obtain ⟨ep, hat⟩ := dd.dictAt
  have ek : (kvs.map fun kv => kV kv.1) = vs.map fun p => kV p.1 := by
    have e := congrArg (List.map kV) rel.keys
    simpa only [List.map_map, Function.comp_def] using e
  refine PySem.W.kdl_call (PySem.W.kdl_dict (knd := mixKind X.prog X.w) (kvs := vs) (ep := ep) lo) (I.ok.hd hcalm) hat (Nat.le_trans (Nat.le_of_eq rel.length.symm) z) fun h' tk acc c' hk hD hacc => ?_
  have hv : Vals (vs.map fun p => kV p.1) acc.toList := keys_at (Array.length_toList.trans hacc.1) fun j v e => hacc.2 j v (Array.getElem?_toList.symm.trans e)
  have hn := I.hok.fresh (Nat.le_refl s.heap.objs.size)
  refine ⟨.ref s.heap.objs.size, _, I.laid (t' := tk) (o := .lst (kvs.map fun kv => kV kv.1)) hk (Nat.le_refl _) ?_, rfl, q _ hn⟩
  exact ⟨by rw [List.length_map]; exact z, acc.toList, c', by rw [ek]; exact hv, by rw [Array.toArray_toList]; exact hD⟩
/-- D.get(k, x), D written -/
def tKGet2 (K : PySem.W.Frag) (w : World) (td ty tx : TE) : TE := fun σ H Q => td σ H fun x H1 => ∃ a kvs, x = .ref a ∧ KDo K w a kvs ∧ ty σ H1 fun y H2 => tx σ H2 fun z H3 => ∃ k, y = kV k ∧ Q ((valV kvs k).getD z) H3
theorem pe_kget2 {o e f : Expr} {td ty tx : TE} {apos cpos : Pos} (ho : PE X o td) (he : PE X e ty) (hf : PE X f tx) (m : M2 X o "get" apos e f cpos) : PE X (.Call (.Attribute o "get" apos) [e, f] [] cpos) (tKGet2 X.K X.w td ty tx) := by
  refine ⟨fun pins s σ H Q I h => ?_⟩
  refine wpAny_Call_method m.base m.few m.line PySem.F.plainAttrs_dict PySem.F.slot_dict_get PySem.F.type_dict_get (thn (ho.run pins s σ H _ I h) fun u s1 ⟨x, H1, I1, rx, a, kvs, ex, D, q1⟩ => ?_)
  subst ex
  obtain rfl : u = Value.ref a := rx
  obtain ⟨_, _, vs1, _, dd1⟩ := kdo_at (P := X.prog) D I1.kIn
  refine ⟨dd1.typeIs, fun b q => ?_, ?_⟩
  · cases q
    obtain ⟨ob, _, _, h1, h2, _⟩ := dd1
    exact ⟨ob, h1, h2.2.1⟩
  rw [m.trees]
  refine Calls.callWith_builtin rfl (Calls.evalArgs_plain (Calls.spliced_cons (thn (he.run pins s1 σ H1 _ I1 q1) fun iv s2 ⟨y, H2, I2, ry, q2⟩ =>
    Calls.spliced_cons (thn (hf.run pins s2 σ H2 _ I2 q2) fun fv s3 ⟨z, H3, I3, rz, k, ey, q3⟩ => Calls.spliced_nil ?_))))
  subst ey
  obtain ⟨_, lo, vs, rel, dd⟩ := kdo_at (P := X.prog) D I3.kIn
  exact call_meetsIn PySem.F.slot_dict_get dd.typeIs PySem.F.entry_dict_get (PySem.F.args_dict_get_3 _ _ _) (meets_dict_get_default (mixKind X.prog X.w) a (kV_is ry) lo fv) ⟨_, dd.mapOf, ⟨_, H3, I3.tok _, (rel.val k).getD rz, q3⟩⟩
/-- dict(t), t a written tuple of pairs -/
def rDictKT (K : PySem.W.Frag) : List V → Hp → VK → Prop := fun xs H Q => ∃ (a : Addr) (o : Obj) (ps : List Addr) (kvs : List (Key × V)), xs = [.ref a] ∧ K.lookup a = some o ∧ o.dict = none ∧ SqT K (fun _ => none) a (ps.map V.ref) ∧ Paired (fun p kv => SqT K (fun _ => none) p [kV kv.1, kv.2]) ps kvs ∧ kvs.length ≤ 100 ∧
  ∀ p, H p = none → Q (.ref p) (upd H p (.dK (mergeK [] kvs)))
theorem sqT_K {K : PySem.W.Frag} {H : Hp} {a : Addr} {xs : List V} (h : SqT K (fun _ => none) a xs) : SqT K H a xs := by
  rcases h with (h | ⟨o, h⟩) | h
  · cases h
  · cases h
  · exact .inr h
theorem pairs_K {K : PySem.W.Frag} {H : Hp} {ps : List Addr} {kvs : List (Key × V)} (h : Paired (fun p (kv : Key × V) => SqT K (fun _ => none) p [kV kv.1, kv.2]) ps kvs) : Paired (fun p (kv : Key × V) => SqT K H p [kV kv.1, kv.2]) ps kvs := by
  induction h with
  | nil => exact .nil
  | cons h t ih => exact .cons (sqT_K h) ih
theorem list_pick {α β : Type} : ∀ (l : List α) (R : Nat → α → β → Prop), (∀ (j : Nat) q, l[j]? = some q → ∃ u, R j q u) → ∃ us : List β, us.length = l.length ∧ ∀ (j : Nat) q u, l[j]? = some q → us[j]? = some u → R j q u
  | [], R, h => ⟨[], rfl, fun j q u e => by simp at e⟩
  | q0 :: l, R, h => by
    obtain ⟨u0, h0⟩ := h 0 q0 rfl
    obtain ⟨us, h1, h2⟩ := list_pick l (fun j => R (j + 1)) fun j q e => h (j + 1) q e
    refine ⟨u0 :: us, by rw [List.length_cons, List.length_cons, h1], fun j q u e1 e2 => ?_⟩
    cases j with
    | zero =>
      obtain rfl : q0 = q := Option.some.inj e1
      obtain rfl : u0 = u := Option.some.inj e2
      exact h0
    | succ j => exact h2 j q u e1 e2
theorem call_dictKT (hcalm : X.calm = true) : CallR X (.type "dict") (rDictKT X.K) := by
  intro pins s σ H xs us Q I r q
  obtain ⟨a, o, ps, kvs, rfl, hl, hd, hq, hp, hz, q⟩ := q
  rw [Vals.ref1 r]
  obtain ⟨its, rv, ⟨o', ho', hc', n', hdat⟩, _⟩ := I.tuple (sqT_K hq)
  have eo : o' = o := Option.some.inj (ho'.symm.trans (I.kIn _ _ hl))
  subst eo
  have ei := refs_at rv
  subst ei
  obtain ⟨prs, rel, hlen, hpr⟩ := pairs_of I (pairs_K (H := H) hp)
  have hlk : prs.length = kvs.length := rel.length.symm
  obtain ⟨us, hul, hus⟩ := list_pick prs (fun j q u => ∃ b, ps[j]? = some b ∧ IsTup s.heap b #[u, q.2] ∧ keyIs q.1 u = true) fun j q e => by
    obtain ⟨b, u, e1, e2, e3⟩ := hpr j q e
    exact ⟨u, b, e1, e2, e3⟩
  have hat : ∀ (j : Nat) k v, (us.zip (prs.map (·.2)))[j]? = some (k, v) → ∃ c b, prs[j]? = some (c, v) ∧ ps[j]? = some b ∧ IsTup s.heap b #[k, v] ∧ keyIs c k = true := fun j k v e => by
    rw [List.getElem?_zip_eq_some] at e
    obtain ⟨e1, e2⟩ := e
    rw [List.getElem?_map] at e2
    obtain ⟨⟨c, v'⟩, e3, e4⟩ := Option.map_eq_some_iff.mp e2
    obtain rfl : v' = v := e4
    obtain ⟨b, f1, f2, f3⟩ := hus j _ k e3 e1
    exact ⟨c, b, e3, f1, f2, f3⟩
  have hzl : (us.zip (prs.map (·.2))).length = prs.length := by rw [List.length_zip, List.length_map, hul, Nat.min_self]
  refine PySem.call_dict_pairs (knd := mixKind X.prog X.w) (kvs := prs) (PairArg.tuple a _ (fun j => ps.getD j 0) (us.zip (prs.map (·.2)))) (I.ok.hd hcalm) ⟨⟨o', n', ho', hc', hd, hdat⟩, ?_, fun j k v e => ?_⟩ ⟨hzl.symm, fun j k v e => ?_⟩ (by rw [hzl, hlk, sizeLine_eq]; omega) fun h' tk hd' k => ?_
  · rw [hzl, List.size_toArray, List.length_map, hlen]
  · obtain ⟨c, b, e1, e2, e3, e4⟩ := hat j k v e
    have eb : ps.getD j 0 = b := by rw [List.getD_eq_getElem?_getD, e2]; rfl
    show (List.map Value.ref ps).toArray[j]? = some (Value.ref (ps.getD j 0)) ∧ PairAt s.heap (ps.getD j 0) k v
    rw [eb]
    exact ⟨by simp [e2], .inl e3⟩
  · obtain ⟨c, b, e1, e2, e3, e4⟩ := hat j k v e
    exact ⟨c, e1, e4⟩
  · have kk : ∀ b o, s.heap.get? b = some o → h'.get? b = some o := fun b o e => k b o (fun z => nomatch z) e
    have low : (s.heap.objs.size == sysModules) = false := beq_eq_false_iff_ne.mpr (Nat.ne_of_gt I.big)
    have hlm : (mergeK [] kvs).length ≤ sizeLine := Nat.le_trans (length_mergeK kvs []) (by rw [List.length_nil, sizeLine_eq]; omega)
    exact ⟨.ref s.heap.objs.size, _, I.laid (t' := tk) (o := .dK (mergeK [] kvs)) kk (Nat.le_refl _) ⟨hlm, low, merged [] prs, KV.merge rel .nil, hd'⟩, rfl, q _ (I.hok.fresh (Nat.le_refl _))⟩
end
end My
namespace Pu
open PySem PySem.Spec PyProof.Rows L2 My

/-- data: what a value stands for -/
inductive D where
  | non | bl (b : Bool) | int (i : Int) | str (s : Str)
  | tup (xs : List D) | lst (xs : List D)
  | dK (kvs : List (Key × D)) | dT (kvs : List (List Key × D)) | kd (kvs : List (Key × D))
  | ins (c : Str) (fs : List (Str × D))
  | scr (xs : List Int)
  | ty (n : String) | cl (c : Str)
  deriving Inhabited

structure Bs where
  K : PySem.W.Frag
  w : World
  mg : Str → Option Value
def bs (X : Cx) : Bs := ⟨X.K, X.w, X.mg⟩
abbrev Bs.cls (B : Bs) (c : Str) : Addr := fa B.mg c

mutual
inductive Rep (B : Bs) (G : Hp) : V → D → Prop
  | non : Rep B G .non .non
  | bl (b : Bool) : Rep B G (.bl b) (.bl b)
  | int (i : Int) : Rep B G (.int i) (.int i)
  | str (s : Str) : Rep B G (.str s) (.str s)
  | tup {a : Addr} {xs : List V} {ds : List D} : SqT B.K G a xs → RepL B G xs ds → Rep B G (.ref a) (.tup ds)
  | lst {a : Addr} {xs : List V} {ds : List D} : G a = some (.lst xs) → RepL B G xs ds → Rep B G (.ref a) (.lst ds)
  | dK {a : Addr} {kvs : List (Key × V)} {ds : List (Key × D)} : Rd G a (.dK kvs) → kvs.map (·.1) = ds.map (·.1) → RepL B G (kvs.map (·.2)) (ds.map (·.2)) → Rep B G (.ref a) (.dK ds)
  | kd {a : Addr} {kvs : List (Key × V)} {ds : List (Key × D)} : KDo B.K B.w a kvs → kvs.map (·.1) = ds.map (·.1) → RepL B G (kvs.map (·.2)) (ds.map (·.2)) → Rep B G (.ref a) (.kd ds)
  | dT {a : Addr} {kvs : List (List Key × V)} {ds : List (List Key × D)} : Rd G a (.dT kvs) → kvs.map (·.1) = ds.map (·.1) → RepL B G (kvs.map (·.2)) (ds.map (·.2)) → Rep B G (.ref a) (.dT ds)
  | ins {a dx : Addr} {c : Str} {fs : List (Str × V)} {ds : List (Str × D)} : G a = some (.ins (B.cls c) dx fs) → fs.map (·.1) = ds.map (·.1) → RepL B G (fs.map (·.2)) (ds.map (·.2)) → Rep B G (.ref a) (.ins c ds)
  | scr {a : Addr} {xs : List Int} : SqL B.K G a (xs.map V.int) → Rep B G (.ref a) (.scr xs)
  | ty (n : String) : Rep B G (.ty n) (.ty n)
  | cl (c : Str) : Rep B G (.ref (B.cls c)) (.cl c)
inductive RepL (B : Bs) (G : Hp) : List V → List D → Prop
  | nil : RepL B G [] []
  | cons {v : V} {vs : List V} {d : D} {ds : List D} : Rep B G v d → RepL B G vs ds → RepL B G (v :: vs) (d :: ds)
end

/-- an object by its content -/
inductive RepO (B : Bs) (G : Hp) : HO → D → Prop
  | lst {xs : List V} {ds : List D} : RepL B G xs ds → RepO B G (.lst xs) (.lst ds)
  | dK {kvs : List (Key × V)} {ds : List (Key × D)} : kvs.map (·.1) = ds.map (·.1) → RepL B G (kvs.map (·.2)) (ds.map (·.2)) → RepO B G (.dK kvs) (.dK ds)
  | dT {kvs : List (List Key × V)} {ds : List (List Key × D)} : kvs.map (·.1) = ds.map (·.1) → RepL B G (kvs.map (·.2)) (ds.map (·.2)) → RepO B G (.dT kvs) (.dT ds)
  | ins {dx : Addr} {c : Str} {fs : List (Str × V)} {ds : List (Str × D)} : fs.map (·.1) = ds.map (·.1) → RepL B G (fs.map (·.2)) (ds.map (·.2)) → RepO B G (.ins (B.cls c) dx fs) (.ins c ds)

section
variable {B : Bs} {G G' : Hp}
/-- what stands stays, but dicts may be locked -/
def isDct : HO → Bool
  | .dK _ => true
  | .dT _ => true
  | _ => false
def Ext (G G' : Hp) : Prop := ∀ a o, G a = some o → G' a = some o ∨ (isDct o = true ∧ ∃ ob, G' a = some (.frz ob o))
theorem Ext.refl (G : Hp) : Ext G G := fun _ _ h => .inl h
theorem Ext.trans {G1 G2 G3 : Hp} (a : Ext G1 G2) (b : Ext G2 G3) : Ext G1 G3 := fun p o h => by
  rcases a p o h with h1 | ⟨hd, ob, h1⟩
  · exact b p o h1
  · rcases b p _ h1 with h2 | ⟨z, _⟩
    · exact .inr ⟨hd, ob, h2⟩
    · cases z
theorem _root_.L2.Same.ext {G G' : Hp} (e : Same G G') : Ext G G' := fun a o h => .inl (e a o h)
theorem Ext.get {G G' : Hp} {a : Addr} {o : HO} (e : Ext G G') (h : G a = some o) (hd : isDct o = false := by rfl) : G' a = some o := by
  rcases e a o h with h | ⟨z, _⟩
  · exact h
  · rw [hd] at z; cases z
theorem rd_mono {a : Addr} {u : HO} (e : Ext G G') (h : Rd G a u) : Rd G' a u := h.elim (fun h => (e _ _ h).elim .inl fun ⟨_, ob, q⟩ => .inr ⟨ob, q⟩) fun ⟨o, h⟩ => .inr ⟨o, e.get h⟩
theorem sqT_mono {K : PySem.W.Frag} {a : Addr} {xs : List V} (e : Ext G G') (h : SqT K G a xs) : SqT K G' a xs := h.imp (rd_mono e) id
theorem sqL_mono {K : PySem.W.Frag} {a : Addr} {xs : List V} (e : Ext G G') (h : SqL K G a xs) : SqL K G' a xs := h.imp (rd_mono e) id
mutual
theorem Rep.mono (e : Ext G G') {v : V} {d : D} : Rep B G v d → Rep B G' v d
  | .non => .non
  | .bl b => .bl b
  | .int i => .int i
  | .str s => .str s
  | .tup h r => .tup (sqT_mono e h) (RepL.mono e r)
  | .lst h r => .lst (e.get h) (RepL.mono e r)
  | .dK h k r => .dK (rd_mono e h) k (RepL.mono e r)
  | .kd h k r => .kd h k (RepL.mono e r)
  | .dT h k r => .dT (rd_mono e h) k (RepL.mono e r)
  | .ins h k r => .ins (e.get h) k (RepL.mono e r)
  | .scr h => .scr (sqL_mono e h)
  | .ty n => .ty n
  | .cl c => .cl c
theorem RepL.mono (e : Ext G G') {vs : List V} {ds : List D} : RepL B G vs ds → RepL B G' vs ds
  | .nil => .nil
  | .cons h r => .cons (Rep.mono e h) (RepL.mono e r)
end
theorem RepO.mono (e : Ext G G') {o : HO} {d : D} : RepO B G o d → RepO B G' o d
  | .lst r => .lst (r.mono e)
  | .dK k r => .dK k (r.mono e)
  | .dT k r => .dT k (r.mono e)
  | .ins k r => .ins k (r.mono e)
/-- the object stands: the value stands for it -/
theorem RepO.rep {o : HO} {d : D} {p : Addr} (h : G p = some o) : RepO B G o d → Rep B G (.ref p) d
  | .lst r => .lst h r
  | .dK k r => .dK (.inl h) k r
  | .dT k r => .dT (.inl h) k r
  | .ins k r => .ins h k r
theorem RepL.length {vs : List V} {ds : List D} : RepL B G vs ds → vs.length = ds.length
  | .nil => rfl
  | .cons _ r => by simp [RepL.length r]
theorem RepL.get : ∀ {vs : List V} {ds : List D} {i : Nat} {d : D}, RepL B G vs ds → ds[i]? = some d → ∃ v, vs[i]? = some v ∧ Rep B G v d
  | _, _, _, _, .nil, e => by simp at e
  | _, _, 0, _, .cons r _, e => by simp at e; subst e; exact ⟨_, rfl, r⟩
  | _, _, i + 1, d, .cons _ t, e => by
    obtain ⟨u, h1, h2⟩ := RepL.get (i := i) (d := d) t (by simpa using e)
    exact ⟨u, by simpa using h1, h2⟩
theorem RepL.get' : ∀ {vs : List V} {ds : List D} {i : Nat} {v : V}, RepL B G vs ds → vs[i]? = some v → ∃ d, ds[i]? = some d ∧ Rep B G v d
  | _, _, _, _, .nil, e => by simp at e
  | _, _, 0, _, .cons r _, e => by simp at e; subst e; exact ⟨_, rfl, r⟩
  | _, _, i + 1, d, .cons _ t, e => by
    obtain ⟨u, h1, h2⟩ := RepL.get' (i := i) (v := d) t (by simpa using e)
    exact ⟨u, by simpa using h1, h2⟩
theorem RepL.append : ∀ {xs ys : List V} {ds es : List D}, RepL B G xs ds → RepL B G ys es → RepL B G (xs ++ ys) (ds ++ es)
  | _, _, _, _, .nil, s => s
  | _, _, _, _, .cons r t, s => .cons r (RepL.append t s)
theorem RepL.set {v : V} {d : D} (r : Rep B G v d) : ∀ {xs : List V} {ds : List D} (i : Nat), RepL B G xs ds → RepL B G (xs.set i v) (ds.set i d)
  | _, _, _, .nil => .nil
  | _, _, 0, .cons _ t => .cons r t
  | _, _, i + 1, .cons q t => .cons q (RepL.set r i t)
theorem RepL.take : ∀ {xs : List V} {ds : List D} (n : Nat), RepL B G xs ds → RepL B G (xs.take n) (ds.take n)
  | _, _, 0, _ => .nil
  | _, _, _ + 1, .nil => .nil
  | _, _, n + 1, .cons r t => .cons r (RepL.take n t)
theorem RepL.drop : ∀ {xs : List V} {ds : List D} (n : Nat), RepL B G xs ds → RepL B G (xs.drop n) (ds.drop n)
  | _, _, 0, r => r
  | _, _, _ + 1, .nil => .nil
  | _, _, n + 1, .cons _ t => RepL.drop n t
theorem RepL.reverse : ∀ {xs : List V} {ds : List D}, RepL B G xs ds → RepL B G xs.reverse ds.reverse
  | _, _, .nil => .nil
  | _, _, .cons r t => by
    rw [List.reverse_cons, List.reverse_cons]
    exact (RepL.reverse t).append (.cons r .nil)
end

/-! ### what is owned is hidden -/
def hide (H : Hp) (O : List Addr) : Hp := fun a => if a ∈ O then none else H a
theorem hide_in {H : Hp} {O : List Addr} {a : Addr} (h : a ∈ O) : hide H O a = none := by unfold hide; rw [if_pos h]
theorem hide_out {H : Hp} {O : List Addr} {a : Addr} (h : a ∉ O) : hide H O a = H a := by unfold hide; rw [if_neg h]
theorem hide_le (H : Hp) (O : List Addr) : Same (hide H O) H := fun a o h => by
  by_cases m : a ∈ O
  · rw [hide_in m] at h; cases h
  · rwa [hide_out m] at h
theorem hide_some {H : Hp} {O : List Addr} {a : Addr} {o : HO} (h : hide H O a = some o) : a ∉ O ∧ H a = some o := by
  by_cases m : a ∈ O
  · rw [hide_in m] at h; cases h
  · exact ⟨m, by rwa [hide_out m] at h⟩
theorem hide_sub {H : Hp} {O O' : List Addr} (h : ∀ a ∈ O', a ∈ O) : Ext (hide H O) (hide H O') := fun a o e => .inl (by
  obtain ⟨m, q⟩ := hide_some e
  rw [hide_out fun z => m (h a z)]
  exact q)
/-- a hidden object may change -/
theorem hide_upd {H : Hp} {O : List Addr} {a : Addr} {o : HO} (h : a ∈ O) : hide (upd H a o) O = hide H O := by
  funext b
  by_cases m : b ∈ O
  · rw [hide_in m, hide_in m]
  · rw [hide_out m, hide_out m, upd_ne fun z => m (by rw [z]; exact h)]
theorem hide_nil (H : Hp) : hide H [] = H := by funext a; exact hide_out (by simp)

/-! ### names and their data -/
inductive Kd where
  | val | own | pin
  deriving DecidableEq
abbrev En := List (Option (Kd × D))
structure Cst where
  pa : Nat → Addr
  F : List Addr
  H0 : Hp
structure Stt (B : Bs) (c : Cst) (ρ : En) (σ : L2.St) (H : Hp) (O : List Addr) : Prop where
  len : ρ.length = σ.length
  val : ∀ (i : Nat) (d : D), ρ[i]? = some (some (.val, d)) → ∃ v, σ[i]? = some (some v) ∧ Rep B (hide H O) v d
  own : ∀ (i : Nat) (k : Kd) (d : D), ρ[i]? = some (some (k, d)) → k ≠ .val → ∃ p o, σ[i]? = some (some (.ref p)) ∧ p ∈ O ∧ p ∉ c.F ∧ H p = some o ∧ RepO B (hide H O) o d
  sep : ∀ (i j : Nat) (p : Addr) (k l : Kd) (d e : D), ρ[i]? = some (some (k, d)) → ρ[j]? = some (some (l, e)) → k ≠ .val → l ≠ .val → σ[i]? = some (some (.ref p)) → σ[j]? = some (some (.ref p)) → i = j
  pin : ∀ (i : Nat) (d : D), ρ[i]? = some (some (.pin, d)) → σ[i]? = some (some (.ref (c.pa i)))
  liv : ∀ p ∈ O, ∃ o, H p = some o
  frm : ∀ q ∈ c.F, q ∈ O ∧ H q = c.H0 q
/-- a value at hand: data, or the object of an owned name -/
inductive Rv where
  | val (d : D) | slot (i : Nat)
def RvOk (B : Bs) (σ : L2.St) (H : Hp) (O : List Addr) (v : V) : Rv → Prop
  | .val d => Rep B (hide H O) v d
  | .slot i => σ[i]? = some (some v)
inductive Out (α : Type) where
  | ok (a : α) (ρ : En) | ex (c : Str) (fs : List (Str × D)) (ρ : En) | bad
def M (α : Type) := En → Out α
def Out.bind {α β : Type} : Out α → (α → En → Out β) → Out β
  | .ok a ρ, f => f a ρ
  | .ex c fs ρ, _ => .ex c fs ρ
  | .bad, _ => .bad
@[simp] theorem bind_ok {α β : Type} (a : α) (ρ : En) (f : α → En → Out β) : (Out.ok a ρ).bind f = f a ρ := rfl
@[simp] theorem bind_ex {α β : Type} (c : Str) (fs : List (Str × D)) (ρ : En) (f : α → En → Out β) : (Out.ex c fs ρ).bind f = .ex c fs ρ := rfl
@[simp] theorem bind_bad {α β : Type} (f : α → En → Out β) : (Out.bad : Out α).bind f = .bad := rfl
/-- an error in the air: its class, its dict with the fields -/
def ExAt (B : Bs) (G : Hp) (fs : List (Str × D)) : Option Addr → Prop
  | none => fs = []
  | some a => ∃ gs : List (Str × V), G a = some (.xd gs) ∧ gs.map (·.1) = fs.map (·.1) ∧ RepL B G (gs.map (·.2)) (fs.map (·.2))
def XPo (B : Bs) (c : Cst) (W : WX) (σ : L2.St) (H : Hp) (O : List Addr) (x : Str) (fs : List (Str × D)) (ρ' : En) : Prop :=
  ∀ dd H' O', Stt B c ρ' σ H' O' → Ext (hide H O) (hide H' O') → ExAt B (hide H' O') fs dd → W (.ref (B.cls x)) dd σ H'
/-- what is wanted of an expression's outcome -/
def Po {α : Type} (B : Bs) (c : Cst) (W : WX) (σ : L2.St) (H : Hp) (O : List Addr) (R : α → En → Hp → List Addr → Prop) : Out α → Prop
  | .ok a ρ' => ∀ H' O', Stt B c ρ' σ H' O' → Ext (hide H O) (hide H' O') → R a ρ' H' O'
  | .ex x fs ρ' => XPo B c W σ H O x fs ρ'
  | .bad => False
theorem Po.mono {α : Type} {B : Bs} {c : Cst} {W : WX} {σ : L2.St} {H H1 : Hp} {O O1 : List Addr} {R R' : α → En → Hp → List Addr → Prop} {o : Out α} (h : Po B c W σ H O R o) (e : Ext (hide H O) (hide H1 O1)) (hR : ∀ a ρ' H' O', R a ρ' H' O' → R' a ρ' H' O') : Po B c W σ H1 O1 R' o := by
  cases o with
  | ok a ρ' => exact fun H' O' st e' => hR _ _ _ _ (h H' O' st (e.trans e'))
  | ex x fs ρ' => exact fun dd H' O' st e' xa => h dd H' O' st (e.trans e') xa
  | bad => exact h
theorem Po.bind {α β : Type} {B : Bs} {c : Cst} {W : WX} {σ : L2.St} {H : Hp} {O : List Addr} {R : β → En → Hp → List Addr → Prop} {o : Out α} {f : α → En → Out β} (h : Po B c W σ H O R (o.bind f)) :
    Po B c W σ H O (fun a ρ' H' O' => Po B c W σ H' O' R (f a ρ')) o := by
  cases o with
  | ok a ρ' => exact fun H' O' st e' => Po.mono h e' fun _ _ _ _ x => x
  | ex x fs ρ' => exact h
  | bad => exact h

/-! ### readings -/
def tP (B : Bs) (W : WX) (f : M Rv) : TE := fun σ H Q => ∃ c ρ O, Stt B c ρ σ H O ∧ Po B c W σ H O (fun r ρ' H' O' => ∀ v, RvOk B σ H' O' v r → Q v H') (f ρ)
def tQ (B : Bs) (W : WX) (f : M Bool) : TT := fun σ H Q => ∃ c ρ O, Stt B c ρ σ H O ∧ Po B c W σ H O (fun b ρ' H' O' => Q b H') (f ρ)
def RvsOk (B : Bs) (σ : L2.St) (H : Hp) (O : List Addr) (vs : List V) (rs : List Rv) : Prop := Paired (RvOk B σ H O) vs rs
def tAs (B : Bs) (W : WX) (f : M (List Rv)) : TA := fun σ H Q => ∃ c ρ O, Stt B c ρ σ H O ∧ Po B c W σ H O (fun rs ρ' H' O' => ∀ vs, RvsOk B σ H' O' vs rs → Q vs H') (f ρ)
abbrev DE (X : Cx) (W : WX) (e : Expr) (f : M Rv) : Prop := PE X e (tP (bs X) W f)
abbrev DT (X : Cx) (W : WX) (e : Expr) (f : M Bool) : Prop := PT X e (tQ (bs X) W f)
abbrev DW (X : Cx) (W : WX) (e : Expr) (f : M Bool) : Prop := PW X e (tQ (bs X) W f)
abbrev DA (X : Cx) (W : WX) (es : List Expr) (f : M (List Rv)) : Prop := PA X es (tAs (bs X) W f)
theorem PE.le {X : Cx} {e : Expr} {t t' : TE} (h : PE X e t) (i : ∀ σ H Q, t' σ H Q → t σ H Q) : PE X e t' := ⟨fun pins s σ H Q I q => h.run pins s σ H Q I (i σ H Q q)⟩
theorem PT.le {X : Cx} {e : Expr} {t t' : TT} (h : PT X e t) (i : ∀ σ H Q, t' σ H Q → t σ H Q) : PT X e t' := ⟨fun pins s σ H Q I q => h.run pins s σ H Q I (i σ H Q q)⟩
theorem PW.le {X : Cx} {e : Expr} {t t' : TT} (h : PW X e t) (i : ∀ σ H Q, t' σ H Q → t σ H Q) : PW X e t' := ⟨fun wh pins s σ H Q I q => h.run wh pins s σ H Q I (i σ H Q q)⟩
theorem PA.le {X : Cx} {e : List Expr} {t t' : TA} (h : PA X e t) (i : ∀ σ H Q, t' σ H Q → t σ H Q) : PA X e t' := ⟨fun pos pins s σ H Q I q => h.run pos pins s σ H Q I (i σ H Q q)⟩
theorem PS.le {X : Cx} {e : Stmt} {t t' : TS} (h : PS X e t) (i : ∀ D σ H, t' D σ H → t D σ H) : PS X e t' := ⟨fun pins s σ H D I q => h.run pins s σ H D I (i D σ H q)⟩
theorem PSs.le {X : Cx} {e : List Stmt} {t t' : TS} (h : PSs X e t) (i : ∀ D σ H, t' D σ H → t D σ H) : PSs X e t' := ⟨fun pins s σ H D I q => h.run pins s σ H D I (i D σ H q)⟩
end Pu
namespace Pu
open PySem PySem.Spec PyProof.Rows L2 My

section
variable {B : Bs} {c : Cst} {ρ ρ' : En} {σ : L2.St} {H H' : Hp} {O O' : List Addr} {v : V} {d : D} {r : Rv}

def Liv (H : Hp) (O : List Addr) : Prop := ∀ p ∈ O, ∃ o, H p = some o
/-- to be read: data, or an owned object over data -/
def Vw (B : Bs) (H : Hp) (O : List Addr) (v : V) (d : D) : Prop := Rep B (hide H O) v d ∨ ∃ p o, v = .ref p ∧ H p = some o ∧ RepO B (hide H O) o d
theorem same_hide (e : Same H H') : Ext (hide H O) (hide H' O) := fun a o h => .inl (by
  obtain ⟨m, q⟩ := hide_some h
  rw [hide_out m]
  exact e a o q)
theorem Vw.full (h : Vw B H O v d) : Rep B H v d := by
  rcases h with h | ⟨p, o, rfl, e, q⟩
  · exact h.mono (hide_le H O).ext
  · exact (q.mono (hide_le H O).ext).rep e
theorem Stt.ext (st : Stt B c ρ σ H O) (e : Same H H') : Stt B c ρ σ H' O where
  len := st.len
  val i d h := by
    obtain ⟨v, h1, h2⟩ := st.val i d h
    exact ⟨v, h1, h2.mono (same_hide e)⟩
  own i k d h hk := by
    obtain ⟨p, o, h1, h2, h3, h4, h5⟩ := st.own i k d h hk
    exact ⟨p, o, h1, h2, h3, e p o h4, h5.mono (same_hide e)⟩
  sep := st.sep
  pin := st.pin
  liv p hp := let ⟨o, ho⟩ := st.liv p hp; ⟨o, e p o ho⟩
  frm q hq := by
    obtain ⟨h1, h2⟩ := st.frm q hq
    obtain ⟨o, ho⟩ := st.liv q h1
    exact ⟨h1, by rw [← h2, ho]; exact e q o ho⟩
theorem RvOk.ext (h : RvOk B σ H O v r) (e : Ext (hide H O) (hide H' O')) : RvOk B σ H' O' v r := by
  cases r with
  | val d => exact Rep.mono e h
  | slot i => exact h
theorem RvsOk.ext {vs : List V} {rs : List Rv} (h : RvsOk B σ H O vs rs) (e : Ext (hide H O) (hide H' O')) : RvsOk B σ H' O' vs rs := by
  induction h with
  | nil => exact .nil
  | cons h _ ih => exact .cons (h.ext e) ih

/-- the data of a value at hand -/
def rd (ρ : En) : Rv → Option D
  | .val d => some d
  | .slot i => match ρ[i]? with
    | some (some (_, d)) => some d
    | _ => none
def rds (ρ : En) : List Rv → Option (List D)
  | [] => some []
  | r :: rs => match rd ρ r, rds ρ rs with
    | some d, some ds => some (d :: ds)
    | _, _ => none
theorem Stt.vw (st : Stt B c ρ σ H O) (h : RvOk B σ H O v r) (e : rd ρ r = some d) : Vw B H O v d := by
  cases r with
  | val x =>
    simp only [rd, Option.some.injEq] at e
    subst e
    exact .inl h
  | slot i =>
    simp only [rd] at e
    split at e
    · rename_i k y hq
      simp only [Option.some.injEq] at e
      subst e
      by_cases hk : k = .val
      · subst hk
        obtain ⟨u, h1, h2⟩ := st.val i _ hq
        simp only [RvOk] at h
        rw [h] at h1
        cases h1
        exact .inl h2
      · obtain ⟨p, o, h1, h2, h3, h4, h5⟩ := st.own i k _ hq hk
        simp only [RvOk] at h
        rw [h] at h1
        cases h1
        exact .inr ⟨p, o, rfl, h4, h5⟩
    · cases e
theorem Stt.vws (st : Stt B c ρ σ H O) : ∀ {vs : List V} {rs : List Rv} {ds : List D}, RvsOk B σ H O vs rs → rds ρ rs = some ds → Paired (Vw B H O) vs ds := by
  intro vs rs ds h
  induction h generalizing ds with
  | nil =>
    intro e
    simp only [rds, Option.some.injEq] at e
    subst e
    exact .nil
  | cons h1 _ ih =>
    intro e
    simp only [rds] at e
    split at e
    · rename_i d ds' e1 e2
      simp only [Option.some.injEq] at e
      subst e
      exact .cons (st.vw h1 e1) (ih e2)
    · cases e

/-- the data that goes elsewhere: an owned name is owned no more -/
def esc (ρ : En) : Rv → Option (D × En)
  | .val d => some (d, ρ)
  | .slot i => match ρ[i]? with
    | some (some (.val, d)) => some (d, ρ)
    | some (some (.own, d)) => some (d, ρ.set i (some (.val, d)))
    | _ => none
def escs (ρ : En) : List Rv → Option (List D × En)
  | [] => some ([], ρ)
  | r :: rs => match esc ρ r with
    | some (d, ρ1) => match escs ρ1 rs with
      | some (ds, ρ2) => some (d :: ds, ρ2)
      | none => none
    | none => none
theorem Stt.frz {i : Nat} (st : Stt B c ρ σ H O) (h : ρ[i]? = some (some (.own, d))) : ∃ p O', σ[i]? = some (some (.ref p)) ∧ Stt B c (ρ.set i (some (.val, d))) σ H O' ∧ Ext (hide H O) (hide H O') ∧ Rep B (hide H O') (.ref p) d := by
  obtain ⟨p, o, h1, h2, h3, h4, h5⟩ := st.own i .own d h (by decide)
  have hs : Ext (hide H O) (hide H (O.filter (· ≠ p))) := hide_sub fun a ha => (List.mem_filter.mp ha).1
  have hp : hide H (O.filter (· ≠ p)) p = some o := by rw [hide_out (by simp)]; exact h4
  have hi : i < ρ.length := by
    rcases Nat.lt_or_ge i ρ.length with q | q
    · exact q
    · rw [List.getElem?_eq_none q] at h; cases h
  have hr := (h5.mono hs).rep hp
  have get : ∀ j x, (ρ.set i (some (.val, d)))[j]? = some x → (j = i ∧ x = some (.val, d)) ∨ (j ≠ i ∧ ρ[j]? = some x) := fun j x q => by
    by_cases hj : j = i
    · subst hj
      rw [List.getElem?_set_self hi] at q
      cases q
      exact .inl ⟨rfl, rfl⟩
    · rw [List.getElem?_set_ne (Ne.symm hj)] at q
      exact .inr ⟨hj, q⟩
  refine ⟨p, O.filter (· ≠ p), h1, ⟨by simp [st.len], ?_, ?_, ?_, ?_, ?_, ?_⟩, hs, hr⟩
  · intro j e q
    rcases get j _ q with ⟨rfl, z⟩ | ⟨hj, q⟩
    · cases z
      exact ⟨_, h1, hr⟩
    · obtain ⟨u, u1, u2⟩ := st.val j e q
      exact ⟨u, u1, u2.mono hs⟩
  · intro j k e q hk
    rcases get j _ q with ⟨rfl, z⟩ | ⟨hj, q⟩
    · cases z; exact absurd rfl hk
    · obtain ⟨p', o', u1, u2, u3, u4, u5⟩ := st.own j k e q hk
      refine ⟨p', o', u1, ?_, u3, u4, u5.mono hs⟩
      refine List.mem_filter.mpr ⟨u2, ?_⟩
      simp only [ne_eq, decide_not, Bool.not_eq_eq_eq_not, Bool.not_true, decide_eq_false_iff_not]
      rintro rfl
      exact hj (st.sep j i p' k .own e d q h hk (by decide) u1 h1)
  · intro a b q k l x y qa qb hk hl sa sb
    rcases get a _ qa with ⟨rfl, z⟩ | ⟨ha, qa⟩
    · cases z; exact absurd rfl hk
    rcases get b _ qb with ⟨rfl, z⟩ | ⟨hb, qb⟩
    · cases z; exact absurd rfl hl
    exact st.sep a b q k l x y qa qb hk hl sa sb
  · intro j e q
    rcases get j _ q with ⟨rfl, z⟩ | ⟨hj, q⟩
    · cases z
    · exact st.pin j e q
  · intro q hq
    exact st.liv q (List.mem_filter.mp hq).1
  · intro q hq
    obtain ⟨u1, u2⟩ := st.frm q hq
    refine ⟨List.mem_filter.mpr ⟨u1, ?_⟩, u2⟩
    simp only [ne_eq, decide_not, Bool.not_eq_eq_eq_not, Bool.not_true, decide_eq_false_iff_not]
    rintro rfl
    exact h3 hq
theorem Stt.esc (st : Stt B c ρ σ H O) (h : RvOk B σ H O v r) (e : Pu.esc ρ r = some (d, ρ')) : ∃ O', Stt B c ρ' σ H O' ∧ Ext (hide H O) (hide H O') ∧ Rep B (hide H O') v d := by
  cases r with
  | val x =>
    simp only [Pu.esc, Option.some.injEq, Prod.mk.injEq] at e
    obtain ⟨rfl, rfl⟩ := e
    exact ⟨O, st, .refl _, h⟩
  | slot i =>
    simp only [Pu.esc] at e
    simp only [RvOk] at h
    split at e
    · rename_i y hq
      simp only [Option.some.injEq, Prod.mk.injEq] at e
      obtain ⟨rfl, rfl⟩ := e
      obtain ⟨u, h1, h2⟩ := st.val i _ hq
      rw [h] at h1
      cases h1
      exact ⟨O, st, .refl _, h2⟩
    · rename_i y hq
      simp only [Option.some.injEq, Prod.mk.injEq] at e
      obtain ⟨rfl, rfl⟩ := e
      obtain ⟨p, O', h1, h2, h3, h4⟩ := st.frz hq
      rw [h] at h1
      cases h1
      exact ⟨O', h2, h3, h4⟩
    · cases e
theorem escs_ok {rs : List Rv} {vs : List V} {ds : List D} {ρ : En} {O : List Addr} (st : Stt B c ρ σ H O) (h : RvsOk B σ H O vs rs) (e : Pu.escs ρ rs = some (ds, ρ')) : ∃ O', Stt B c ρ' σ H O' ∧ Ext (hide H O) (hide H O') ∧ RepL B (hide H O') vs ds := by
  induction rs generalizing vs ds ρ O with
  | nil =>
    cases h
    simp only [Pu.escs, Option.some.injEq, Prod.mk.injEq] at e
    obtain ⟨rfl, rfl⟩ := e
    exact ⟨O, st, .refl _, .nil⟩
  | cons r rs ih =>
    cases h with
    | cons h t =>
    simp only [Pu.escs] at e
    split at e
    · rename_i d ρ1 e1
      split at e
      · rename_i ds' ρ2 e2
        simp only [Option.some.injEq, Prod.mk.injEq] at e
        obtain ⟨rfl, rfl⟩ := e
        obtain ⟨O1, s1, x1, r1⟩ := st.esc h e1
        obtain ⟨O2, s2, x2, r2⟩ := ih s1 (RvsOk.ext t x1) e2
        exact ⟨O2, s2, x1.trans x2, .cons (r1.mono x2) r2⟩
      · cases e
    · cases e
end

/-! ### expressions -/
def dC (d : D) : M Rv := fun ρ => .ok (.val d) ρ
def rvOf (i : Nat) (k : Kd) (d : D) : Rv := match k with
  | .val => .val d
  | _ => .slot i
def dVar (i : Nat) : M Rv := fun ρ => match ρ[i]? with
  | some (some (k, d)) => .ok (rvOf i k d) ρ
  | _ => .bad
def out (ρ : En) : Option D → Out Rv
  | some d => .ok (.val d) ρ
  | none => .bad
@[simp] theorem out_some {ρ : En} {d : D} : out ρ (some d) = .ok (.val d) ρ := rfl
@[simp] theorem out_none {ρ : En} : out ρ none = .bad := rfl
def d1 (g : D → Option D) (fa : M Rv) : M Rv := fun ρ => (fa ρ).bind fun a ρ1 => match rd ρ1 a with
  | some x => out ρ1 (g x)
  | none => .bad
def d2 (g : D → D → Option D) (fa fb : M Rv) : M Rv := fun ρ => (fa ρ).bind fun a ρ1 => (fb ρ1).bind fun b ρ2 => match rd ρ2 a, rd ρ2 b with
  | some x, some y => out ρ2 (g x y)
  | _, _ => .bad
def dN (g : List D → Option D) (fa : M (List Rv)) : M Rv := fun ρ => (fa ρ).bind fun rs ρ1 => match rds ρ1 rs with
  | some ds => out ρ1 (g ds)
  | none => .bad
def dNil : M (List Rv) := fun ρ => .ok [] ρ
def dCons (fa : M Rv) (fs : M (List Rv)) : M (List Rv) := fun ρ => (fa ρ).bind fun a ρ1 => (fs ρ1).bind fun as ρ2 => .ok (a :: as) ρ2
def dTup (fa : M (List Rv)) : M Rv := fun ρ => (fa ρ).bind fun rs ρ1 => match escs ρ1 rs with
  | some (ds, ρ2) => if ds.length ≤ sizeLine then .ok (.val (.tup ds)) ρ2 else .bad
  | none => .bad
def dLst (fa : M (List Rv)) : M Rv := fun ρ => (fa ρ).bind fun rs ρ1 => match escs ρ1 rs with
  | some (ds, ρ2) => if ds.length ≤ sizeLine then .ok (.val (.lst ds)) ρ2 else .bad
  | none => .bad
/-- what an operation asks, by data -/
def OpD (B : Bs) (r : R2) (g : D → D → Option D) : Prop := ∀ v u H O x y d Q, Liv H O → Vw B H O v x → Vw B H O u y → g x y = some d → (∀ w H', Same H H' → Rep B (hide H' O) w d → Q w H') → r v u H Q
def UnD (B : Bs) (r : V → Hp → VK → Prop) (g : D → Option D) : Prop := ∀ v H O x d Q, Liv H O → Vw B H O v x → g x = some d → (∀ w H', Same H H' → Rep B (hide H' O) w d → Q w H') → r v H Q
def CallD (B : Bs) (r : List V → Hp → VK → Prop) (g : List D → Option D) : Prop := ∀ vs H O ds d Q, Liv H O → Paired (Vw B H O) vs ds → g ds = some d → (∀ w H', Same H H' → Rep B (hide H' O) w d → Q w H') → r vs H Q

section
variable {X : Cx} {W : WX} {a b e : Expr} {es : List Expr} {fa fb : M Rv} {fs : M (List Rv)} {pos : Pos}
theorem tP.step {B : Bs} {σ : L2.St} {H : Hp} {f : M Rv} {Q1 : VK} {c : Cst} {ρ : En} {O : List Addr} {R : Rv → En → Hp → List Addr → Prop} (st : Stt B c ρ σ H O) (h : Po B c W σ H O R (f ρ)) (hq : ∀ r ρ1 v H1 O1, Stt B c ρ1 σ H1 O1 → Ext (hide H O) (hide H1 O1) → RvOk B σ H1 O1 v r → R r ρ1 H1 O1 → Q1 v H1) : tP B W f σ H Q1 := by
  refine ⟨c, ρ, O, st, ?_⟩
  cases hf : f ρ with
  | ok r ρ1 =>
    rw [hf] at h
    exact fun H' O' st' e' v hv => hq r ρ1 v H' O' st' e' hv (h H' O' st' e')
  | ex x fs ρ1 =>
    rw [hf] at h
    exact h
  | bad =>
    rw [hf] at h
    exact h.elim
theorem tAs.step {B : Bs} {σ : L2.St} {H : Hp} {f : M (List Rv)} {Q1 : List V → Hp → Prop} {c : Cst} {ρ : En} {O : List Addr} {R : List Rv → En → Hp → List Addr → Prop} (st : Stt B c ρ σ H O) (h : Po B c W σ H O R (f ρ)) (hq : ∀ r ρ1 v H1 O1, Stt B c ρ1 σ H1 O1 → Ext (hide H O) (hide H1 O1) → RvsOk B σ H1 O1 v r → R r ρ1 H1 O1 → Q1 v H1) : tAs B W f σ H Q1 := by
  refine ⟨c, ρ, O, st, ?_⟩
  cases hf : f ρ with
  | ok r ρ1 =>
    rw [hf] at h
    exact fun H' O' st' e' v hv => hq r ρ1 v H' O' st' e' hv (h H' O' st' e')
  | ex x fs ρ1 =>
    rw [hf] at h
    exact h
  | bad =>
    rw [hf] at h
    exact h.elim
theorem tQ.step {B : Bs} {σ : L2.St} {H : Hp} {f : M Bool} {Q1 : Bool → Hp → Prop} {c : Cst} {ρ : En} {O : List Addr} {R : Bool → En → Hp → List Addr → Prop} (st : Stt B c ρ σ H O) (h : Po B c W σ H O R (f ρ)) (hq : ∀ b ρ1 H1 O1, Stt B c ρ1 σ H1 O1 → Ext (hide H O) (hide H1 O1) → R b ρ1 H1 O1 → Q1 b H1) : tQ B W f σ H Q1 := by
  refine ⟨c, ρ, O, st, ?_⟩
  cases hf : f ρ with
  | ok r ρ1 =>
    rw [hf] at h
    exact fun H' O' st' e' => hq r ρ1 H' O' st' e' (h H' O' st' e')
  | ex x fs ρ1 =>
    rw [hf] at h
    exact h
  | bad =>
    rw [hf] at h
    exact h.elim
theorem de_c {v : V} {d : D} (h : PE X e (tC v)) (hr : ∀ G, Rep (bs X) G v d) : DE X W e (dC d) := PE.le h fun σ H Q ⟨c, ρ, O, st, q⟩ => q H O st (.refl _) v (hr _)
theorem de_var (i : Nat) {x : Str} (h : PE X (.Name x pos) (tVar i)) : DE X W (.Name x pos) (dVar i) := PE.le h fun σ H Q ⟨c, ρ, O, st, q⟩ => by
  unfold dVar at q
  split at q
  · rename_i k d hq
    cases k with
    | val =>
      obtain ⟨u, h1, h2⟩ := st.val i d hq
      exact ⟨u, h1, q H O st (.refl _) u h2⟩
    | own =>
      obtain ⟨p, o, h1, _⟩ := st.own i .own d hq (by decide)
      exact ⟨_, h1, q H O st (.refl _) _ h1⟩
    | pin =>
      obtain ⟨p, o, h1, _⟩ := st.own i .pin d hq (by decide)
      exact ⟨_, h1, q H O st (.refl _) _ h1⟩
  · exact q.elim
theorem da_nil : DA X W [] dNil := PA.le pa_nil fun σ H Q ⟨c, ρ, O, st, q⟩ => q H O st (.refl _) [] .nil
theorem da_cons (ha : DE X W e fa) (hr : DA X W es fs) (hs : starEach (e :: es) X.env = (false, eval e X.env) :: starEach es X.env := by rfl) : DA X W (e :: es) (dCons fa fs) := PA.le (pa_cons ha hr hs) fun σ H Q ⟨c, ρ, O, st, q⟩ => by
  unfold dCons at q
  refine tP.step st (Po.bind q) fun r ρ1 v H1 O1 st1 e1 hv q1 => ?_
  refine tAs.step st1 (Po.bind q1) fun rs ρ2 vs H2 O2 st2 e2 hvs q2 => ?_
  exact q2 H2 O2 st2 (.refl _) (v :: vs) (.cons (hv.ext e2) hvs)
theorem de_2 {g : D → D → Option D} {r : R2} (h : PE X e (tOp r (tP (bs X) W fa) (tP (bs X) W fb))) (hg : OpD (bs X) r g) : DE X W e (d2 g fa fb) := PE.le h fun σ H Q ⟨c, ρ, O, st, q⟩ => by
  unfold d2 at q
  refine tP.step st (Po.bind q) fun r1 ρ1 v H1 O1 st1 e1 hv q1 => ?_
  refine tP.step st1 (Po.bind q1) fun r2 ρ2 u H2 O2 st2 e2 hu q2 => ?_
  split at q2
  · rename_i x y hx hy
    cases hgg : g x y with
    | none => rw [hgg] at q2; exact q2.elim
    | some d =>
      rw [hgg] at q2
      exact hg v u H2 O2 x y d Q st2.liv (st2.vw (hv.ext e2) hx) (st2.vw hu hy) hgg fun w H' e' hw => q2 H' O2 (st2.ext e') (same_hide e') w hw
  · exact q2.elim
theorem de_1 {g : D → Option D} {r : V → Hp → VK → Prop} (h : PE X e (tUn r (tP (bs X) W fa))) (hg : UnD (bs X) r g) : DE X W e (d1 g fa) := PE.le h fun σ H Q ⟨c, ρ, O, st, q⟩ => by
  unfold d1 at q
  refine tP.step st (Po.bind q) fun r1 ρ1 v H1 O1 st1 e1 hv q1 => ?_
  split at q1
  · rename_i x hx
    cases hgg : g x with
    | none => rw [hgg] at q1; exact q1.elim
    | some d =>
      rw [hgg] at q1
      exact hg v H1 O1 x d Q st1.liv (st1.vw hv hx) hgg fun w H' e' hw => q1 H' O1 (st1.ext e') (same_hide e') w hw
  · exact q1.elim
theorem de_N {g : List D → Option D} {r : List V → Hp → VK → Prop} (h : PE X e (tCB r (tAs (bs X) W fs))) (hg : CallD (bs X) r g) : DE X W e (dN g fs) := PE.le h fun σ H Q ⟨c, ρ, O, st, q⟩ => by
  unfold dN at q
  refine tAs.step st (Po.bind q) fun r1 ρ1 v H1 O1 st1 e1 hv q1 => ?_
  split at q1
  · rename_i x hx
    cases hgg : g x with
    | none => rw [hgg] at q1; exact q1.elim
    | some d =>
      rw [hgg] at q1
      exact hg v H1 O1 x d Q st1.liv (st1.vws hv hx) hgg fun w H' e' hw => q1 H' O1 (st1.ext e') (same_hide e') w hw
  · exact q1.elim
theorem Liv.out {H : Hp} {O : List Addr} {p : Addr} (h : Liv H O) (hp : H p = none) : p ∉ O := fun m => by
  obtain ⟨o, ho⟩ := h p m
  rw [hp] at ho
  cases ho
theorem Same.new {H : Hp} {p : Addr} {o : HO} (h : H p = none) : Same H (upd H p o) := fun a u e => by
  rw [upd_ne (ne_of_none e h)]
  exact e
theorem hide_new {H : Hp} {O : List Addr} {p : Addr} {o : HO} (h : Liv H O) (hp : H p = none) : hide (upd H p o) O p = some o := by rw [hide_out (h.out hp), upd_same]
theorem de_tup {x1} (h : DA X W es fs) : DE X W (.Tuple es x1 pos) (dTup fs) := PE.le (pe_tup h) fun σ H Q ⟨c, ρ, O, st, q⟩ => by
  unfold dTup at q
  refine tAs.step st (Po.bind q) fun rs ρ1 vs H1 O1 st1 e1 hvs q1 => ?_
  split at q1
  · rename_i ds ρ2 hes
    obtain ⟨O2, st2, e2, hr⟩ := escs_ok st1 hvs hes
    by_cases hl : ds.length ≤ sizeLine
    · rw [if_pos hl] at q1
      refine ⟨by rw [hr.length]; exact hl, fun p hp => ?_⟩
      have en : Same H1 (upd H1 p (.tup vs)) := Same.new hp
      refine q1 _ O2 (st2.ext en) (e2.trans (same_hide en)) _ ?_
      exact .tup (.inl (.inl (hide_new st2.liv hp))) (hr.mono (same_hide en))
    · rw [if_neg hl] at q1
      exact q1.elim
  · exact q1.elim
theorem de_lst (h : DA X W es fs) : DE X W (.List es pos) (dLst fs) := PE.le (pe_lst h) fun σ H Q ⟨c, ρ, O, st, q⟩ => by
  unfold dLst at q
  refine tAs.step st (Po.bind q) fun rs ρ1 vs H1 O1 st1 e1 hvs q1 => ?_
  split at q1
  · rename_i ds ρ2 hes
    obtain ⟨O2, st2, e2, hr⟩ := escs_ok st1 hvs hes
    by_cases hl : ds.length ≤ sizeLine
    · rw [if_pos hl] at q1
      refine ⟨by rw [hr.length]; exact hl, fun p hp => ?_⟩
      have en : Same H1 (upd H1 p (.lst vs)) := Same.new hp
      refine q1 _ O2 (st2.ext en) (e2.trans (same_hide en)) _ ?_
      exact .lst (hide_new st2.liv hp) (hr.mono (same_hide en))
    · rw [if_neg hl] at q1
      exact q1.elim
  · exact q1.elim
end
end Pu
namespace Pu
open PySem PySem.Spec PyProof.Rows L2 My

/-! ### the state changes -/
section
variable {B : Bs} {c : Cst} {ρ ρ' : En} {σ : L2.St} {H H' : Hp} {O O' : List Addr} {v : V} {d : D}
theorem get_set {α : Type} {l : List α} {i j : Nat} {x y : α} (h : (l.set i x)[j]? = some y) : (j = i ∧ i < l.length ∧ y = x) ∨ (j ≠ i ∧ l[j]? = some y) := by
  by_cases hj : j = i
  · subst hj
    rcases Nat.lt_or_ge j l.length with q | q
    · rw [List.getElem?_set_self q] at h
      cases h
      exact .inl ⟨rfl, q, rfl⟩
    · rw [List.getElem?_eq_none (by simpa using q)] at h
      cases h
  · rw [List.getElem?_set_ne (Ne.symm hj)] at h
    exact .inr ⟨hj, h⟩
theorem set_get {α : Type} {l : List α} {i j : Nat} {x y : α} (hj : j ≠ i) (h : l[j]? = some y) : (l.set i x)[j]? = some y := by rw [List.getElem?_set_ne (Ne.symm hj)]; exact h
theorem Stt.set (st : Stt B c ρ σ H O) (i : Nat) (hr : Rep B (hide H O) v d) : Stt B c (ρ.set i (some (.val, d))) (σ.set i (some v)) H O := by
  refine ⟨by simp [st.len], ?_, ?_, ?_, ?_, st.liv, st.frm⟩
  · intro j e q
    rcases get_set q with ⟨rfl, hl, z⟩ | ⟨hj, q⟩
    · cases z
      exact ⟨v, by rw [List.getElem?_set_self (by rw [← st.len]; exact hl)], hr⟩
    · obtain ⟨u, u1, u2⟩ := st.val j e q
      exact ⟨u, set_get hj u1, u2⟩
  · intro j k e q hk
    rcases get_set q with ⟨rfl, hl, z⟩ | ⟨hj, q⟩
    · cases z; exact absurd rfl hk
    · obtain ⟨p', o', u1, u2, u3, u4, u5⟩ := st.own j k e q hk
      exact ⟨p', o', set_get hj u1, u2, u3, u4, u5⟩
  · intro a b q k l x y qa qb hk hl sa sb
    rcases get_set qa with ⟨rfl, _, z⟩ | ⟨ha, qa⟩
    · cases z; exact absurd rfl hk
    rcases get_set qb with ⟨rfl, _, z⟩ | ⟨hb, qb⟩
    · cases z; exact absurd rfl hl
    rw [List.getElem?_set_ne (Ne.symm ha)] at sa
    rw [List.getElem?_set_ne (Ne.symm hb)] at sb
    exact st.sep a b q k l x y qa qb hk hl sa sb
  · intro j e q
    rcases get_set q with ⟨rfl, _, z⟩ | ⟨hj, q⟩
    · cases z
    · exact set_get hj (st.pin j e q)
/-- a slot of which nothing is said -/
theorem Stt.drop (st : Stt B c ρ σ H O) (i : Nat) (x : Option V) : Stt B c (ρ.set i none) (σ.set i x) H O := by
  refine ⟨by simp [st.len], ?_, ?_, ?_, ?_, st.liv, st.frm⟩
  · intro j e q
    rcases get_set q with ⟨rfl, hl, z⟩ | ⟨hj, q⟩
    · cases z
    · obtain ⟨u, u1, u2⟩ := st.val j e q
      exact ⟨u, set_get hj u1, u2⟩
  · intro j k e q hk
    rcases get_set q with ⟨rfl, hl, z⟩ | ⟨hj, q⟩
    · cases z
    · obtain ⟨p', o', u1, u2, u3, u4, u5⟩ := st.own j k e q hk
      exact ⟨p', o', set_get hj u1, u2, u3, u4, u5⟩
  · intro a b q k l x y qa qb hk hl sa sb
    rcases get_set qa with ⟨rfl, _, z⟩ | ⟨ha, qa⟩
    · cases z
    rcases get_set qb with ⟨rfl, _, z⟩ | ⟨hb, qb⟩
    · cases z
    rw [List.getElem?_set_ne (Ne.symm ha)] at sa
    rw [List.getElem?_set_ne (Ne.symm hb)] at sb
    exact st.sep a b q k l x y qa qb hk hl sa sb
  · intro j e q
    rcases get_set q with ⟨rfl, _, z⟩ | ⟨hj, q⟩
    · cases z
    · exact set_get hj (st.pin j e q)
/-- p is owned by no name -/
def Free (ρ : En) (σ : L2.St) (p : Addr) : Prop := ∀ (i : Nat) (k : Kd) (d : D), ρ[i]? = some (some (k, d)) → k ≠ .val → σ[i]? ≠ some (some (.ref p))
theorem Stt.setO {p : Addr} {o : HO} (st : Stt B c ρ σ H O) (i : Nat) (ho : H p = some o) (hp : p ∈ O) (hF : p ∉ c.F) (hf : Free ρ σ p) (hr : RepO B (hide H O) o d) : Stt B c (ρ.set i (some (.own, d))) (σ.set i (some (.ref p))) H O := by
  refine ⟨by simp [st.len], ?_, ?_, ?_, ?_, st.liv, st.frm⟩
  · intro j e q
    rcases get_set q with ⟨rfl, hl, z⟩ | ⟨hj, q⟩
    · cases z
    · obtain ⟨u, u1, u2⟩ := st.val j e q
      exact ⟨u, set_get hj u1, u2⟩
  · intro j k e q hk
    rcases get_set q with ⟨rfl, hl, z⟩ | ⟨hj, q⟩
    · cases z
      exact ⟨p, o, by rw [List.getElem?_set_self (by rw [← st.len]; exact hl)], hp, hF, ho, hr⟩
    · obtain ⟨p', o', u1, u2, u3, u4, u5⟩ := st.own j k e q hk
      exact ⟨p', o', set_get hj u1, u2, u3, u4, u5⟩
  · intro a b q k l x y qa qb hk hl sa sb
    rcases get_set qa with ⟨rfl, ha, z⟩ | ⟨ha, qa'⟩
    · rcases get_set qb with ⟨rfl, _, z'⟩ | ⟨hb, qb⟩
      · rfl
      · rw [List.getElem?_set_self (by rw [← st.len]; exact ha)] at sa
        cases sa
        rw [List.getElem?_set_ne (Ne.symm hb)] at sb
        exact absurd sb (hf b l y qb hl)
    · rcases get_set qb with ⟨rfl, hb, z'⟩ | ⟨hb, qb⟩
      · rw [List.getElem?_set_self (by rw [← st.len]; exact hb)] at sb
        cases sb
        rw [List.getElem?_set_ne (Ne.symm ha)] at sa
        exact absurd sa (hf a k x qa' hk)
      · rw [List.getElem?_set_ne (Ne.symm ha)] at sa
        rw [List.getElem?_set_ne (Ne.symm hb)] at sb
        exact st.sep a b q k l x y qa' qb hk hl sa sb
  · intro j e q
    rcases get_set q with ⟨rfl, _, z⟩ | ⟨hj, q⟩
    · cases z
    · exact set_get hj (st.pin j e q)
/-- an owned object changes -/
theorem Stt.mut {i : Nat} {k : Kd} {d0 : D} {p : Addr} {o : HO} (st : Stt B c ρ σ H O) (hi : ρ[i]? = some (some (k, d0))) (hk : k ≠ .val) (hs : σ[i]? = some (some (.ref p))) (hr : RepO B (hide H O) o d) : Stt B c (ρ.set i (some (k, d))) σ (upd H p o) O := by
  obtain ⟨p0, o0, h1, h2, h3, h4, h5⟩ := st.own i k d0 hi hk
  rw [hs] at h1
  cases h1
  have eh : hide (upd H p o) O = hide H O := hide_upd h2
  refine ⟨by simp [st.len], ?_, ?_, ?_, ?_, ?_, ?_⟩
  · intro j e q
    rcases get_set q with ⟨rfl, hl, z⟩ | ⟨hj, q⟩
    · cases z; exact absurd rfl hk
    · obtain ⟨u, u1, u2⟩ := st.val j e q
      exact ⟨u, u1, by rw [eh]; exact u2⟩
  · intro j l e q hl
    rcases get_set q with ⟨rfl, _, z⟩ | ⟨hj, q⟩
    · cases z
      exact ⟨p, o, hs, h2, h3, upd_same, by rw [eh]; exact hr⟩
    · obtain ⟨p', o', u1, u2, u3, u4, u5⟩ := st.own j l e q hl
      refine ⟨p', o', u1, u2, u3, ?_, by rw [eh]; exact u5⟩
      rw [upd_ne]
      · exact u4
      · rintro rfl
        exact hj (st.sep j i p' l k e d0 q hi hl hk u1 hs)
  · intro a b q k' l' x y qa qb hk' hl' sa sb
    have ea : ∃ x', ρ[a]? = some (some (k', x')) := by
      rcases get_set qa with ⟨rfl, _, z⟩ | ⟨ha, qa⟩
      · cases z; exact ⟨_, hi⟩
      · exact ⟨_, qa⟩
    have eb : ∃ x', ρ[b]? = some (some (l', x')) := by
      rcases get_set qb with ⟨rfl, _, z⟩ | ⟨ha, qb⟩
      · cases z; exact ⟨_, hi⟩
      · exact ⟨_, qb⟩
    obtain ⟨x', ea⟩ := ea
    obtain ⟨y', eb⟩ := eb
    exact st.sep a b q k' l' x' y' ea eb hk' hl' sa sb
  · intro j e q
    rcases get_set q with ⟨rfl, _, z⟩ | ⟨hj, q⟩
    · cases z
      exact st.pin _ d0 hi
    · exact st.pin j e q
  · intro q hq
    by_cases e : q = p
    · subst e; exact ⟨o, upd_same⟩
    · rw [upd_ne e]; exact st.liv q hq
  · intro q hq
    obtain ⟨u1, u2⟩ := st.frm q hq
    refine ⟨u1, ?_⟩
    rw [upd_ne]
    · exact u2
    · rintro rfl; exact h3 hq
/-- a new object, owned by no name yet -/
theorem Stt.newO {p : Addr} {o : HO} (st : Stt B c ρ σ H O) (hp : H p = none) : Stt B c ρ σ (upd H p o) (p :: O) ∧ Ext (hide H O) (hide (upd H p o) (p :: O)) ∧ Free ρ σ p ∧ p ∉ c.F := by
  have es : Ext (hide H O) (hide (upd H p o) (p :: O)) := fun a u h => .inl (by
    obtain ⟨m, q⟩ := hide_some h
    have ne : a ≠ p := ne_of_none q hp
    rw [hide_out (by simp [ne, m]), upd_ne ne]
    exact q)
  refine ⟨⟨st.len, ?_, ?_, st.sep, st.pin, ?_, ?_⟩, es, ?_, ?_⟩
  · intro i e q
    obtain ⟨u, u1, u2⟩ := st.val i e q
    exact ⟨u, u1, u2.mono es⟩
  · intro i k e q hk
    obtain ⟨p', o', u1, u2, u3, u4, u5⟩ := st.own i k e q hk
    exact ⟨p', o', u1, .tail _ u2, u3, by rw [upd_ne (ne_of_none u4 hp)]; exact u4, u5.mono es⟩
  · intro q hq
    by_cases e : q = p
    · subst e; exact ⟨o, upd_same⟩
    · rw [upd_ne e]
      exact st.liv q (by simpa [e] using hq)
  · intro q hq
    obtain ⟨u1, u2⟩ := st.frm q hq
    obtain ⟨o', ho'⟩ := st.liv q u1
    exact ⟨.tail _ u1, by rw [upd_ne (ne_of_none ho' hp)]; exact u2⟩
  · intro i k e q hk z
    obtain ⟨p', o', u1, u2, u3, u4, u5⟩ := st.own i k e q hk
    rw [z] at u1
    cases u1
    rw [hp] at u4
    cases u4
  · intro hF
    obtain ⟨u1, u2⟩ := st.frm p hF
    obtain ⟨o', ho'⟩ := st.liv p u1
    rw [hp] at ho'
    cases ho'
/-- owned no more -/
theorem Stt.thaw {p : Addr} {o : HO} (st : Stt B c ρ σ H O) (ho : H p = some o) (hf : Free ρ σ p) (hF : p ∉ c.F) (hr : RepO B (hide H O) o d) : ∃ O', Stt B c ρ σ H O' ∧ Ext (hide H O) (hide H O') ∧ Rep B (hide H O') (.ref p) d := by
  have hs : Ext (hide H O) (hide H (O.filter (· ≠ p))) := hide_sub fun a ha => (List.mem_filter.mp ha).1
  have hp : hide H (O.filter (· ≠ p)) p = some o := by rw [hide_out (by simp)]; exact ho
  refine ⟨O.filter (· ≠ p), ⟨st.len, ?_, ?_, st.sep, st.pin, ?_, ?_⟩, hs, (hr.mono hs).rep hp⟩
  · intro i e q
    obtain ⟨u, u1, u2⟩ := st.val i e q
    exact ⟨u, u1, u2.mono hs⟩
  · intro i k e q hk
    obtain ⟨p', o', u1, u2, u3, u4, u5⟩ := st.own i k e q hk
    refine ⟨p', o', u1, List.mem_filter.mpr ⟨u2, ?_⟩, u3, u4, u5.mono hs⟩
    simp only [ne_eq, decide_not, Bool.not_eq_eq_eq_not, Bool.not_true, decide_eq_false_iff_not]
    rintro rfl
    exact hf i k e q hk u1
  · intro q hq
    exact st.liv q (List.mem_filter.mp hq).1
  · intro q hq
    obtain ⟨u1, u2⟩ := st.frm q hq
    refine ⟨List.mem_filter.mpr ⟨u1, ?_⟩, u2⟩
    simp only [ne_eq, decide_not, Bool.not_eq_eq_eq_not, Bool.not_true, decide_eq_false_iff_not]
    rintro rfl
    exact hF hq
end

/-! ### new objects as values -/
def tF (B : Bs) (W : WX) (f : M D) : TE := fun σ H Q => ∃ c ρ O, Stt B c ρ σ H O ∧ Po B c W σ H O (fun d ρ' H' O' => ∀ p o, H' p = some o → p ∈ O' → Free ρ' σ p → p ∉ c.F → RepO B (hide H' O') o d → Q (.ref p) H') (f ρ)
abbrev DF (X : Cx) (W : WX) (e : Expr) (f : M D) : Prop := PE X e (tF (bs X) W f)
def dFr (f : M D) : M Rv := fun ρ => (f ρ).bind fun d ρ1 => .ok (.val d) ρ1
section
variable {X : Cx} {W : WX} {a b e : Expr} {es : List Expr} {fa fb : M Rv} {fs : M (List Rv)} {pos : Pos}
theorem DF.de {f : M D} (h : DF X W e f) : DE X W e (dFr f) := PE.le h fun σ H Q ⟨c, ρ, O, st, q⟩ => by
  refine ⟨c, ρ, O, st, ?_⟩
  unfold dFr at q
  have q' := Po.bind q
  cases hf : f ρ with
  | ok d ρ1 =>
    rw [hf] at q'
    intro H' O' st' e' p o ho hp hfr hF hr
    obtain ⟨O2, s2, x2, r2⟩ := st'.thaw ho hfr hF hr
    have := q' H' O' st' e'
    exact this H' O2 s2 x2 _ r2
  | ex x fs ρ1 => rw [hf] at q'; exact q'
  | bad => rw [hf] at q'; exact q'
def dLstF (fa : M (List Rv)) : M D := fun ρ => (fa ρ).bind fun rs ρ1 => match escs ρ1 rs with
  | some (ds, ρ2) => if ds.length ≤ sizeLine then .ok (.lst ds) ρ2 else .bad
  | none => .bad
theorem df_lst (h : DA X W es fs) : DF X W (.List es pos) (dLstF fs) := PE.le (pe_lst h) fun σ H Q ⟨c, ρ, O, st, q⟩ => by
  unfold dLstF at q
  refine tAs.step st (Po.bind q) fun rs ρ1 vs H1 O1 st1 e1 hvs q1 => ?_
  split at q1
  · rename_i ds ρ2 hes
    obtain ⟨O2, st2, e2, hr⟩ := escs_ok st1 hvs hes
    by_cases hl : ds.length ≤ sizeLine
    · rw [if_pos hl] at q1
      refine ⟨by rw [hr.length]; exact hl, fun p hp => ?_⟩
      obtain ⟨s3, e3, f3, n3⟩ := st2.newO (o := .lst vs) hp
      exact q1 _ _ s3 (e2.trans e3) p _ upd_same List.mem_cons_self f3 n3 (.lst (hr.mono e3))
    · rw [if_neg hl] at q1
      exact q1.elim
  · exact q1.elim
def dDnew : M D := fun ρ => .ok (.dK []) ρ
end

/-! ### tests -/
def truD : D → Option Bool
  | .non => some false
  | .bl b => some b
  | .int i => some (i != 0)
  | .str s => if s.length ≤ sizeLine then some (s.length != 0) else none
  | .tup xs => some (!xs.isEmpty)
  | .lst xs => some (!xs.isEmpty)
  | .dK xs => some (!xs.isEmpty)
  | _ => none
def outB (ρ : En) : Option Bool → Out Bool
  | some b => .ok b ρ
  | none => .bad
@[simp] theorem outB_some {ρ : En} {b : Bool} : outB ρ (some b) = .ok b ρ := rfl
@[simp] theorem outB_none {ρ : En} : outB ρ none = .bad := rfl
def dTru (fa : M Rv) : M Bool := fun ρ => (fa ρ).bind fun a ρ1 => match rd ρ1 a with
  | some d => outB ρ1 (truD d)
  | none => .bad
def bD : D → Option Bool
  | .bl b => some b
  | _ => none
def dB (fa : M Rv) : M Bool := fun ρ => (fa ρ).bind fun a ρ1 => match rd ρ1 a with
  | some d => outB ρ1 (bD d)
  | none => .bad
def dAnd (c1 c2 : M Bool) : M Bool := fun ρ => (c1 ρ).bind fun b ρ1 => if b = true then c2 ρ1 else .ok false ρ1
def dOr (c1 c2 : M Bool) : M Bool := fun ρ => (c1 ρ).bind fun b ρ1 => if b = true then .ok true ρ1 else c2 ρ1
def dNot (c1 : M Bool) : M Bool := fun ρ => (c1 ρ).bind fun b ρ1 => .ok (!b) ρ1
def dAndV (fa fb : M Rv) : M Rv := fun ρ => (fa ρ).bind fun a ρ1 => match rd ρ1 a with
  | some (.bl true) => fb ρ1
  | some (.bl false) => .ok (.val (.bl false)) ρ1
  | _ => .bad
def dOrV (fa fb : M Rv) : M Rv := fun ρ => (fa ρ).bind fun a ρ1 => match rd ρ1 a with
  | some (.bl true) => .ok (.val (.bl true)) ρ1
  | some (.bl false) => fb ρ1
  | _ => .bad
def notD : D → Option D
  | .bl b => some (.bl !b)
  | _ => none
def dIfE (c : M Bool) (fa fb : M Rv) : M Rv := fun ρ => (c ρ).bind fun b ρ1 => if b = true then fa ρ1 else fb ρ1
theorem Rep.bl_inv {B : Bs} {G : Hp} {v : V} {b : Bool} (h : Rep B G v (.bl b)) : v = .bl b := by cases h; rfl
theorem Rep.int_inv {B : Bs} {G : Hp} {v : V} {b : Int} (h : Rep B G v (.int b)) : v = .int b := by cases h; rfl
theorem Rep.str_inv {B : Bs} {G : Hp} {v : V} {b : Str} (h : Rep B G v (.str b)) : v = .str b := by cases h; rfl
theorem Rep.non_inv {B : Bs} {G : Hp} {v : V} (h : Rep B G v .non) : v = .non := by cases h; rfl
section
variable {B : Bs} {H : Hp} {O : List Addr} {v : V}
theorem Vw.lst {ds : List D} (h : Vw B H O v (.lst ds)) : ∃ a xs, v = .ref a ∧ H a = some (.lst xs) ∧ RepL B (hide H O) xs ds := by
  rcases h with h | ⟨p, o, rfl, e, q⟩
  · cases h with
    | lst s r => exact ⟨_, _, rfl, hide_le H O _ _ s, r⟩
  · cases q with
    | lst r => exact ⟨_, _, rfl, e, r⟩
theorem Vw.tup {ds : List D} (h : Vw B H O v (.tup ds)) : ∃ a xs, v = .ref a ∧ SqT B.K H a xs ∧ RepL B (hide H O) xs ds := by
  rcases h with h | ⟨p, o, rfl, e, q⟩
  · cases h with
    | tup s r => exact ⟨_, _, rfl, sqT_mono (hide_le H O).ext s, r⟩
  · cases q
theorem Vw.dK {ds : List (Key × D)} (h : Vw B H O v (.dK ds)) : ∃ a kvs, v = .ref a ∧ Rd H a (.dK kvs) ∧ kvs.map (·.1) = ds.map (·.1) ∧ RepL B (hide H O) (kvs.map (·.2)) (ds.map (·.2)) := by
  rcases h with h | ⟨p, o, rfl, e, q⟩
  · cases h with
    | dK s k r => exact ⟨_, _, rfl, rd_mono (hide_le H O).ext s, k, r⟩
  · cases q with
    | dK k r => exact ⟨_, _, rfl, .inl e, k, r⟩
theorem Vw.dT {ds : List (List Key × D)} (h : Vw B H O v (.dT ds)) : ∃ a kvs, v = .ref a ∧ Rd H a (.dT kvs) ∧ kvs.map (·.1) = ds.map (·.1) ∧ RepL B (hide H O) (kvs.map (·.2)) (ds.map (·.2)) := by
  rcases h with h | ⟨p, o, rfl, e, q⟩
  · cases h with
    | dT s k r => exact ⟨_, _, rfl, rd_mono (hide_le H O).ext s, k, r⟩
  · cases q with
    | dT k r => exact ⟨_, _, rfl, .inl e, k, r⟩
theorem Vw.kd {ds : List (Key × D)} (h : Vw B H O v (.kd ds)) : ∃ a kvs, v = .ref a ∧ KDo B.K B.w a kvs ∧ kvs.map (·.1) = ds.map (·.1) ∧ RepL B (hide H O) (kvs.map (·.2)) (ds.map (·.2)) := by
  rcases h with h | ⟨p, o, rfl, e, q⟩
  · cases h with
    | kd s k r => exact ⟨_, _, rfl, s, k, r⟩
  · cases q
theorem Vw.scr {xs : List Int} (h : Vw B H O v (.scr xs)) : ∃ a, v = .ref a ∧ SqL B.K H a (xs.map V.int) := by
  rcases h with h | ⟨p, o, rfl, e, q⟩
  · cases h with
    | scr s => exact ⟨_, rfl, sqL_mono (hide_le H O).ext s⟩
  · cases q
theorem Vw.ins {c : Str} {ds : List (Str × D)} (h : Vw B H O v (.ins c ds)) : ∃ a dx fs, v = .ref a ∧ H a = some (.ins (B.cls c) dx fs) ∧ fs.map (·.1) = ds.map (·.1) ∧ RepL B (hide H O) (fs.map (·.2)) (ds.map (·.2)) := by
  rcases h with h | ⟨p, o, rfl, e, q⟩
  · cases h with
    | ins s k r => exact ⟨_, _, _, rfl, hide_le H O _ _ s, k, r⟩
  · cases q with
    | ins k r => exact ⟨_, _, _, rfl, e, k, r⟩
theorem Vw.flat {d : D} (h : Vw B H O v d) : Rep B H v d := h.full
theorem Vw.bl {b : Bool} (h : Vw B H O v (.bl b)) : v = .bl b := h.full.bl_inv
theorem Vw.int {b : Int} (h : Vw B H O v (.int b)) : v = .int b := h.full.int_inv
theorem Vw.str {b : Str} (h : Vw B H O v (.str b)) : v = .str b := h.full.str_inv
theorem Vw.non (h : Vw B H O v .non) : v = .non := h.full.non_inv
end
section
variable {X : Cx} {W : WX} {a b e : Expr} {es : List Expr} {fa fb : M Rv} {ca cb : M Bool} {pos : Pos}
theorem dt_tru (ha : DE X W e fa) (hd : ∀ d b v H O, truD d = some b → Vw (bs X) H O v d → TruV X.K v H b) (he : ∀ whole, isTrue e X.env whole = (do let v ← whole; standAt e.pos; holding [v] (truthy v)) := by intro _; rfl) : DT X W e (dTru fa) := PT.le (pt_truth ha he) fun σ H Q ⟨c, ρ, O, st, q⟩ => by
  unfold dTru at q
  refine tP.step st (Po.bind q) fun r1 ρ1 v H1 O1 st1 e1 hv q1 => ?_
  split at q1
  · rename_i x hx
    cases hgg : truD x with
    | none => rw [hgg] at q1; exact q1.elim
    | some d =>
      rw [hgg] at q1
      exact ⟨d, hd x d v H1 O1 hgg (st1.vw hv hx), q1 H1 O1 st1 (.refl _)⟩
  · exact q1.elim
theorem dt_b (ha : DE X W e fa) (he : ∀ whole, isTrue e X.env whole = (do let v ← whole; standAt e.pos; holding [v] (truthy v)) := by intro _; rfl) : DT X W e (dB fa) := PT.le (pt_val ha he) fun σ H Q ⟨c, ρ, O, st, q⟩ => by
  unfold dB at q
  refine tP.step st (Po.bind q) fun r1 ρ1 v H1 O1 st1 e1 hv q1 => ?_
  split at q1
  · rename_i x hx
    cases x <;> simp only [bD, outB] at q1 <;> first | exact q1.elim | skip
    exact ⟨_, (st1.vw hv hx).bl, q1 H1 O1 st1 (.refl _)⟩
  · exact q1.elim
def dT2 (g : D → D → Option D) (fa fb : M Rv) : M Bool := dB (d2 g fa fb)
theorem dt_2 {g : D → D → Option D} {r : R2} (h : PT X e (tTest (tOp r (tP (bs X) W fa) (tP (bs X) W fb)))) (hg : OpD (bs X) r g) : DT X W e (dT2 g fa fb) := PT.le h fun σ H Q ⟨c, ρ, O, st, q⟩ => by
  unfold dT2 dB d2 at q
  have q := Po.bind q
  refine tP.step st (Po.bind q) fun r1 ρ1 v H1 O1 st1 e1 hv q1 => ?_
  refine tP.step st1 (Po.bind q1) fun r2 ρ2 u H2 O2 st2 e2 hu q2 => ?_
  split at q2
  · rename_i x y hx hy
    cases hgg : g x y with
    | none => rw [hgg] at q2; exact q2.elim
    | some d =>
      rw [hgg] at q2
      refine hg v u H2 O2 x y d _ st2.liv (st2.vw (hv.ext e2) hx) (st2.vw hu hy) hgg fun w H' e' hw => ?_
      have q3 := q2 H' O2 (st2.ext e') (same_hide e')
      simp only [rd] at q3
      cases d <;> simp only [bD, outB] at q3 <;> first | exact q3.elim | skip
      exact ⟨_, hw.bl_inv, q3 H' O2 (st2.ext e') (.refl _)⟩
  · exact q2.elim
theorem dw_and (ha : DT X W a ca) {rest : List Expr} (hb : DW X W (.BoolOp .And (b :: rest) pos) cb) : DW X W (.BoolOp .And (a :: b :: rest) pos) (dAnd ca cb) := PW.le (pw_and ha hb) fun σ H Q ⟨c, ρ, O, st, q⟩ => by
  unfold dAnd at q
  refine tQ.step st (Po.bind q) fun b ρ1 H1 O1 st1 e1 q1 => ?_
  cases b
  · rw [if_neg (by decide)] at q1
    rw [if_neg (by decide)]
    exact q1 H1 O1 st1 (.refl _)
  · rw [if_pos rfl] at q1
    rw [if_pos rfl]
    exact ⟨c, ρ1, O1, st1, q1⟩
theorem dw_or (ha : DT X W a ca) {rest : List Expr} (hb : DW X W (.BoolOp .Or (b :: rest) pos) cb) : DW X W (.BoolOp .Or (a :: b :: rest) pos) (dOr ca cb) := PW.le (pw_or ha hb) fun σ H Q ⟨c, ρ, O, st, q⟩ => by
  unfold dOr at q
  refine tQ.step st (Po.bind q) fun b ρ1 H1 O1 st1 e1 q1 => ?_
  cases b
  · rw [if_neg (by decide)] at q1
    rw [if_neg (by decide)]
    exact ⟨c, ρ1, O1, st1, q1⟩
  · rw [if_pos rfl] at q1
    rw [if_pos rfl]
    exact q1 H1 O1 st1 (.refl _)
theorem dw_and1 (ha : DT X W a ca) : DW X W (.BoolOp .And [a] pos) ca := pw_and1 ha
theorem dw_or1 (ha : DT X W a ca) : DW X W (.BoolOp .Or [a] pos) ca := pw_or1 ha
theorem dt_not (ha : DT X W a ca) : DT X W (.UnaryOp .Not a pos) (dNot ca) := PT.le (pt_not ha) fun σ H Q ⟨c, ρ, O, st, q⟩ => by
  unfold dNot at q
  refine tQ.step st (Po.bind q) fun b ρ1 H1 O1 st1 e1 q1 => ?_
  exact q1 H1 O1 st1 (.refl _)
theorem de_and (ha : DE X W a fa) {rest : List Expr} (hb : DE X W (.BoolOp .And (b :: rest) pos) fb) : DE X W (.BoolOp .And (a :: b :: rest) pos) (dAndV fa fb) := PE.le (pe_and ha hb) fun σ H Q ⟨c, ρ, O, st, q⟩ => by
  unfold dAndV at q
  refine tP.step st (Po.bind q) fun r1 ρ1 v H1 O1 st1 e1 hv q1 => ?_
  split at q1
  · rename_i hx
    exact ⟨true, (st1.vw hv hx).bl, by rw [if_pos rfl]; exact ⟨c, ρ1, O1, st1, q1⟩⟩
  · rename_i hx
    exact ⟨false, (st1.vw hv hx).bl, by rw [if_neg (by decide)]; exact q1 H1 O1 st1 (.refl _) _ (.bl false)⟩
  · exact q1.elim
theorem de_or (ha : DE X W a fa) {rest : List Expr} (hb : DE X W (.BoolOp .Or (b :: rest) pos) fb) : DE X W (.BoolOp .Or (a :: b :: rest) pos) (dOrV fa fb) := PE.le (pe_or ha hb) fun σ H Q ⟨c, ρ, O, st, q⟩ => by
  unfold dOrV at q
  refine tP.step st (Po.bind q) fun r1 ρ1 v H1 O1 st1 e1 hv q1 => ?_
  split at q1
  · rename_i hx
    exact ⟨true, (st1.vw hv hx).bl, by rw [if_pos rfl]; exact q1 H1 O1 st1 (.refl _) _ (.bl true)⟩
  · rename_i hx
    exact ⟨false, (st1.vw hv hx).bl, by rw [if_neg (by decide)]; exact ⟨c, ρ1, O1, st1, q1⟩⟩
  · exact q1.elim
theorem de_one {op} (h : DE X W a fa) : DE X W (.BoolOp op [a] pos) fa := pe_one h
theorem de_not (h : DE X W a fa) : DE X W (.UnaryOp .Not a pos) (d1 notD fa) := PE.le (pe_not h) fun σ H Q ⟨c, ρ, O, st, q⟩ => by
  unfold d1 at q
  refine tP.step st (Po.bind q) fun r1 ρ1 v H1 O1 st1 e1 hv q1 => ?_
  split at q1
  · rename_i x hx
    cases x <;> simp only [notD, out] at q1 <;> first | exact q1.elim | skip
    exact ⟨_, (st1.vw hv hx).bl, q1 H1 O1 st1 (.refl _) _ (.bl _)⟩
  · exact q1.elim
theorem de_if (hc : DT X W e ca) (ha : DE X W a fa) (hb : DE X W b fb) : DE X W (.IfExp e a b pos) (dIfE ca fa fb) := PE.le (pe_ifExp hc ha hb) fun σ H Q ⟨c, ρ, O, st, q⟩ => by
  unfold dIfE at q
  refine tQ.step st (Po.bind q) fun b ρ1 H1 O1 st1 e1 q1 => ?_
  cases b
  · rw [if_neg (by decide)] at q1
    rw [if_neg (by decide)]
    exact ⟨c, ρ1, O1, st1, q1⟩
  · rw [if_pos rfl] at q1
    rw [if_pos rfl]
    exact ⟨c, ρ1, O1, st1, q1⟩
end
end Pu
namespace Pu
open PySem PySem.Spec PyProof.Rows L2 My

inductive SOut where
  | nx (ρ : En) | rt (d : D) (ρ : En) | bk (ρ : En) | ct (ρ : En) | ex (x : Str) (fs : List (Str × D)) (ρ : En) | rf (d : D) (ρ : En) | bad
def SM := En → SOut
def SPo (B : Bs) (c : Cst) (W : WX) (E : Ends) (H : Hp) (O : List Addr) : SOut → Prop
  | .nx ρ' => ∀ σ' H' O', Stt B c ρ' σ' H' O' → Ext (hide H O) (hide H' O') → E.nx σ' H'
  | .rt d ρ' => ∀ v σ' H' O', Stt B c ρ' σ' H' O' → Ext (hide H O) (hide H' O') → Rep B (hide H' O') v d → E.rt v H'
  | .bk ρ' => ∀ σ' H' O', Stt B c ρ' σ' H' O' → Ext (hide H O) (hide H' O') → E.bk σ' H'
  | .ct ρ' => ∀ σ' H' O', Stt B c ρ' σ' H' O' → Ext (hide H O) (hide H' O') → E.ct σ' H'
  | .ex x fs ρ' => ∀ dd σ' H' O', Stt B c ρ' σ' H' O' → Ext (hide H O) (hide H' O') → ExAt B (hide H' O') fs dd → W (.ref (B.cls x)) dd σ' H'
  | .rf d ρ' => ∀ p o σ' H' O', Stt B c ρ' σ' H' O' → Ext (hide H O) (hide H' O') → H' p = some o → p ∈ O' → Free ρ' σ' p → p ∉ c.F → RepO B (hide H' O') o d → E.rt (.ref p) H'
  | .bad => False
theorem SPo.mono {B : Bs} {c : Cst} {W : WX} {E : Ends} {H H1 : Hp} {O O1 : List Addr} {o : SOut} (h : SPo B c W E H O o) (e : Ext (hide H O) (hide H1 O1)) : SPo B c W E H1 O1 o := by
  cases o with
  | nx ρ' => exact fun σ' H' O' st e' => h σ' H' O' st (e.trans e')
  | rt d ρ' => exact fun v σ' H' O' st e' => h v σ' H' O' st (e.trans e')
  | bk ρ' => exact fun σ' H' O' st e' => h σ' H' O' st (e.trans e')
  | ct ρ' => exact fun σ' H' O' st e' => h σ' H' O' st (e.trans e')
  | ex x fs ρ' => exact fun dd σ' H' O' st e' => h dd σ' H' O' st (e.trans e')
  | rf d ρ' => exact fun p o σ' H' O' st e' => h p o σ' H' O' st (e.trans e')
  | bad => exact h
def tS (B : Bs) (W : WX) (f : SM) : TS := fun E σ H => ∃ c ρ O, Stt B c ρ σ H O ∧ SPo B c W E H O (f ρ)
abbrev DS (X : Cx) (W : WX) (s : Stmt) (f : SM) : Prop := PS X s (tS (bs X) W f)
abbrev DSs (X : Cx) (W : WX) (s : List Stmt) (f : SM) : Prop := PSs X s (tS (bs X) W f)
/-- an expression's outcome, then a statement's -/
def Out.then {α : Type} (o : Out α) (k : α → En → SOut) : SOut := match o with
  | .ok a ρ => k a ρ
  | .ex x fs ρ => .ex x fs ρ
  | .bad => .bad
@[simp] theorem then_ok {α : Type} (a : α) (ρ : En) (k : α → En → SOut) : (Out.ok a ρ).then k = k a ρ := rfl
@[simp] theorem then_ex {α : Type} (c : Str) (fs : List (Str × D)) (ρ : En) (k : α → En → SOut) : (Out.ex c fs ρ).then k = .ex c fs ρ := rfl
@[simp] theorem then_bad {α : Type} (k : α → En → SOut) : (Out.bad : Out α).then k = .bad := rfl
theorem SPo.then {α : Type} {B : Bs} {c : Cst} {W : WX} {σ : L2.St} {E : Ends} {H : Hp} {O : List Addr} {o : Out α} {k : α → En → SOut} (h : SPo B c W E H O (o.then k)) :
    Po B c W σ H O (fun a ρ' H' O' => SPo B c W E H' O' (k a ρ')) o := by
  cases o with
  | ok a ρ' => exact fun H' O' st' e' => SPo.mono h e'
  | ex x fs ρ' => exact fun dd H' O' st' e' xa => h dd σ H' O' st' e' xa
  | bad => exact h

def dNx : SM := fun ρ => .nx ρ
def dSeq (f g : SM) : SM := fun ρ => match f ρ with
  | .nx ρ1 => g ρ1
  | o => o
def dIf (c : M Bool) (f g : SM) : SM := fun ρ => (c ρ).then fun b ρ1 => if b = true then f ρ1 else g ρ1
def dDrop (fa : M Rv) : SM := fun ρ => (fa ρ).then fun _ ρ1 => .nx ρ1
def dRet (fa : M Rv) : SM := fun ρ => (fa ρ).then fun r ρ1 => match esc ρ1 r with
  | some (d, ρ2) => .rt d ρ2
  | none => .bad
def dRetN : SM := fun ρ => .rt .non ρ
def dBk : SM := fun ρ => .bk ρ
def dCt : SM := fun ρ => .ct ρ
/-- targets -/
def TM := D → En → Option En
def gN (i : Nat) : TM := fun d ρ => some (ρ.set i (some (.val, d)))
def TMs := List D → En → Option En
def gsNil : TMs := fun ds ρ => match ds with
  | [] => some ρ
  | _ => none
def gsCons (g : TM) (gs : TMs) : TMs := fun ds ρ => match ds with
  | d :: r => match g d ρ with
    | some ρ1 => gs r ρ1
    | none => none
  | [] => none
def gT (n : Nat) (gs : TMs) : TM := fun d ρ => match d with
  | .tup ds => if ds.length = n then gs ds ρ else none
  | _ => none
def Agr (ws : List Nat) (σ σ' : L2.St) : Prop := σ'.length = σ.length ∧ ∀ j, j ∉ ws → σ'[j]? = σ[j]?
theorem Agr.refl (ws : List Nat) (σ : L2.St) : Agr ws σ σ := ⟨rfl, fun _ _ => rfl⟩
theorem Agr.trans {ws us : List Nat} {σ σ1 σ2 : L2.St} (a : Agr ws σ σ1) (b : Agr us σ1 σ2) : Agr (ws ++ us) σ σ2 := ⟨b.1.trans a.1, fun j hj => by
  rw [List.mem_append, not_or] at hj
  rw [b.2 j hj.2, a.2 j hj.1]⟩
def tG (B : Bs) (g : TM) (ws : List Nat) : TG := fun v σ H Q => ∃ c ρ O d ρ', Stt B c ρ σ H O ∧ Rep B (hide H O) v d ∧ g d ρ = some ρ' ∧ ∀ σ', Agr ws σ σ' → Stt B c ρ' σ' H O → Q σ' H
def tGs (B : Bs) (g : TMs) (ws : List Nat) : TGs := fun vs σ H Q => ∃ c ρ O ds ρ', Stt B c ρ σ H O ∧ RepL B (hide H O) vs ds ∧ g ds ρ = some ρ' ∧ ∀ σ', Agr ws σ σ' → Stt B c ρ' σ' H O → Q σ' H
abbrev DG (X : Cx) (tg : Expr) (g : TM) (ws : List Nat) : Prop := PG X tg (tG (bs X) g ws)
abbrev DGs (X : Cx) (tg : List Expr) (g : TMs) (ws : List Nat) : Prop := PGs X tg (tGs (bs X) g ws)
theorem PG.le {X : Cx} {e : Expr} {t t' : TG} (h : PG X e t) (i : ∀ v σ H Q, t' v σ H Q → t v σ H Q) : PG X e t' := ⟨fun pins s σ H v u Q I r q => h.run pins s σ H v u Q I r (i v σ H Q q)⟩
theorem PGs.le {X : Cx} {e : List Expr} {t t' : TGs} (h : PGs X e t) (i : ∀ v σ H Q, t' v σ H Q → t v σ H Q) : PGs X e t' := ⟨fun pins s σ H v u Q I r q => h.run pins s σ H v u Q I r (i v σ H Q q)⟩
section
variable {X : Cx} {W : WX} {st : Stmt} {rest b1 b2 : List Stmt} {f g : SM} {e tg : Expr} {es : List Expr} {fa : M Rv} {ca : M Bool} {pos : Pos}
theorem ds_nil : DSs X W [] dNx := PSs.le pss_nil fun E σ H ⟨c, ρ, O, st, q⟩ => q σ H O st (.refl _)
theorem ds_cons (h1 : DS X W st f) (h2 : DSs X W rest g) : DSs X W (st :: rest) (dSeq f g) := PSs.le (pss_cons h1 h2) fun E σ H ⟨c, ρ, O, st, q⟩ => by
  refine ⟨c, ρ, O, st, ?_⟩
  unfold dSeq at q
  cases hf : f ρ with
  | nx ρ1 => rw [hf] at q; exact fun σ' H' O' st' e' => ⟨c, ρ1, O', st', SPo.mono q e'⟩
  | rt d ρ1 => rw [hf] at q; exact q
  | bk ρ1 => rw [hf] at q; exact q
  | ct ρ1 => rw [hf] at q; exact q
  | ex x fs ρ1 => rw [hf] at q; exact q
  | rf d ρ1 => rw [hf] at q; exact q
  | bad => rw [hf] at q; exact q
theorem ds_one (h1 : DS X W st f) : DSs X W [st] f := pss_one h1
theorem ds_if (hc : DT X W e ca) (ha : DSs X W b1 f) (hb : DSs X W b2 g) : DS X W (.If e b1 b2 pos) (dIf ca f g) := PS.le (ps_if hc ha hb) fun E σ H ⟨c, ρ, O, st, q⟩ => by
  unfold dIf at q
  refine tQ.step st (SPo.then q) fun b ρ1 H1 O1 st1 e1 q1 => ?_
  cases b
  · rw [if_neg (by decide)] at q1
    rw [if_neg (by decide)]
    exact ⟨c, ρ1, O1, st1, q1⟩
  · rw [if_pos rfl] at q1
    rw [if_pos rfl]
    exact ⟨c, ρ1, O1, st1, q1⟩
theorem ds_expr (he : DE X W e fa) (hs : swapsWith e none pos.line X.env = pure false := by rfl) : DS X W (.Expr e pos) (dDrop fa) := PS.le (ps_expr he hs) fun E σ H ⟨c, ρ, O, st, q⟩ => by
  unfold dDrop at q
  refine tP.step st (SPo.then q) fun r ρ1 v H1 O1 st1 e1 hv q1 => ?_
  exact q1 σ H1 O1 st1 (.refl _)
theorem ds_ret (he : DE X W e fa) : DS X W (.Return (some e) pos) (dRet fa) := PS.le (ps_ret he) fun E σ H ⟨c, ρ, O, st, q⟩ => by
  unfold dRet at q
  refine tP.step st (SPo.then q) fun r ρ1 v H1 O1 st1 e1 hv q1 => ?_
  split at q1
  · rename_i d ρ2 he
    obtain ⟨O2, st2, e2, hr⟩ := st1.esc hv he
    exact q1 v σ H1 O2 st2 e2 hr
  · exact q1.elim
/-- return x, the object of an owned name -/
def dRetO (i : Nat) : SM := fun ρ => match ρ[i]? with
  | some (some (.own, d)) => .rf d (ρ.set i none)
  | _ => .bad
theorem ds_retO {i : Nat} {x : Str} {ps : Pos} (h : PE X (.Name x ps) (tVar i)) : DS X W (.Return (some (.Name x ps)) pos) (dRetO i) := PS.le (ps_ret h) fun E σ H ⟨c, ρ, O, st, q⟩ => by
  unfold dRetO at q
  split at q
  · rename_i d hd
    obtain ⟨p, o, h1, h2, h3, h4, h5⟩ := st.own i .own d hd (by decide)
    have s2 : Stt (bs X) c (ρ.set i none) σ H O := by
      refine ⟨by simp [st.len], ?_, ?_, ?_, ?_, st.liv, st.frm⟩
      · intro j e q
        rcases get_set q with ⟨_, _, z⟩ | ⟨_, q⟩
        · cases z
        · exact st.val j e q
      · intro j k e q hk
        rcases get_set q with ⟨_, _, z⟩ | ⟨_, q⟩
        · cases z
        · exact st.own j k e q hk
      · intro a b q k l y z qa qb hk hl sa sb
        rcases get_set qa with ⟨_, _, z⟩ | ⟨_, qa⟩
        · cases z
        rcases get_set qb with ⟨_, _, z⟩ | ⟨_, qb⟩
        · cases z
        exact st.sep a b q k l y z qa qb hk hl sa sb
      · intro j e q
        rcases get_set q with ⟨_, _, z⟩ | ⟨_, q⟩
        · cases z
        · exact st.pin j e q
    refine ⟨.ref p, h1, q p o σ H O s2 (.refl _) h4 h2 ?_ h3 h5⟩
    intro j k e q hk z
    rcases get_set q with ⟨_, _, y⟩ | ⟨hj, q⟩
    · cases y
    · exact hj (st.sep j i p k .own e d q hd hk (by decide) z h1)
  · exact q.elim
/-- return a new object -/
def dRetF (f : M D) : SM := fun ρ => (f ρ).then fun d ρ1 => .rf d ρ1
theorem ds_retF {ff : M D} (he : DF X W e ff) : DS X W (.Return (some e) pos) (dRetF ff) := PS.le (ps_ret he) fun E σ H ⟨c, ρ, O, s, q⟩ => by
  unfold dRetF at q
  refine ⟨c, ρ, O, s, ?_⟩
  have q' := SPo.then (σ := σ) q
  cases hf : ff ρ with
  | ok d ρ1 =>
    rw [hf] at q'
    intro H' O' st' e' p o ho hp hfr hF hr
    exact q' H' O' st' e' p o σ H' O' st' (.refl _) ho hp hfr hF hr
  | ex x fs ρ1 => rw [hf] at q'; exact q'
  | bad => rw [hf] at q'; exact q'
theorem ds_retN : DS X W (.Return none pos) dRetN := PS.le ps_retN fun E σ H ⟨c, ρ, O, st, q⟩ => q .non σ H O st (.refl _) .non
theorem ds_bk : DS X W (.Break pos) dBk := PS.le ps_break fun E σ H ⟨c, ρ, O, st, q⟩ => q σ H O st (.refl _)
theorem ds_ct : DS X W (.Continue pos) dCt := PS.le ps_continue fun E σ H ⟨c, ρ, O, st, q⟩ => q σ H O st (.refl _)
theorem ds_pass : DS X W (.Pass pos) dNx := PS.le ps_pass fun E σ H ⟨c, ρ, O, st, q⟩ => q σ H O st (.refl _)
/-- targets -/
theorem dg_name {i : Nat} (h : PG X tg (gName i)) : DG X tg (gN i) [i] := PG.le h fun v σ H Q ⟨c, ρ, O, d, ρ', st, hr, hg, q⟩ => by
  unfold gN at hg
  cases hg
  exact q _ ⟨by simp, fun j hj => by rw [List.getElem?_set_ne (by simpa [eq_comm] using hj)]⟩ (st.set i hr)
theorem dgs_nil : DGs X [] gsNil [] := PGs.le pgs_nil fun v σ H Q ⟨c, ρ, O, d, ρ', st, hr, hg, q⟩ => by
  cases hr with
  | nil =>
    unfold gsNil at hg
    cases hg
    exact ⟨rfl, q σ (Agr.refl _ _) st⟩
  | cons h t =>
    unfold gsNil at hg
    cases hg
theorem dgs_cons {g : TM} {gs : TMs} {ws us : List Nat} (h1 : DG X e g ws) (h2 : DGs X es gs us) (hs : (assignEach (e :: es) X.env).map (·.2) = assign e X.env :: (assignEach es X.env).map (·.2) := by rfl) : DGs X (e :: es) (gsCons g gs) (ws ++ us) := PGs.le (pgs_cons h1 h2 hs) fun vs σ H Q ⟨c, ρ, O, ds, ρ', st, hr, hg, q⟩ => by
  cases hr with
  | nil =>
    unfold gsCons at hg
    cases hg
  | cons h t =>
    unfold gsCons at hg
    simp only at hg
    split at hg
    · rename_i ρ1 h1
      exact ⟨_, _, rfl, c, ρ, O, _, ρ1, st, h, h1, fun σ' a st' => ⟨c, ρ1, O, _, ρ', st', t, hg, fun σ2 a2 st2 => q σ2 (a.trans a2) st2⟩⟩
    · cases hg
theorem dg_tup {k n : Nat} {gs : TMs} {ws : List Nat} (hc : X.calm = true) (h : DGs X es gs ws) (hn : (assignEach es X.env).length = n := by rfl) (hst : (assignEach es X.env).findIdx? (·.1) = none := by rfl) : DG X (.Tuple es k pos) (gT n gs) ws := PG.le (pg_tup hc h hn hst) fun v σ H Q ⟨c, ρ, O, d, ρ', st, hr, hg, q⟩ => by
  unfold gT at hg
  split at hg
  · rename_i ds
    by_cases hl : ds.length = n
    · rw [if_pos hl] at hg
      cases hr with
      | tup s r => exact ⟨_, _, rfl, sqT_mono (hide_le H O).ext s, by rw [r.length, hl], c, ρ, O, ds, ρ', st, r, hg, q⟩
    · rw [if_neg hl] at hg
      cases hg
  · cases hg
def dAsg (fa : M Rv) (g : TM) : SM := fun ρ => (fa ρ).then fun r ρ1 => match esc ρ1 r with
  | some (d, ρ2) => match g d ρ2 with
    | some ρ3 => .nx ρ3
    | none => .bad
  | none => .bad
theorem tAsg_le {B : Bs} {g : TM} {ws : List Nat} {E : Ends} {σ : L2.St} {H : Hp} (h : tS B W (dAsg fa g) E σ H) : tAsg (tP B W fa) (tG B g ws) E σ H := by
  obtain ⟨c, ρ, O, st, q⟩ := h
  unfold dAsg at q
  refine tP.step st (SPo.then q) fun r ρ1 v H1 O1 st1 e1 hv q1 => ?_
  split at q1
  · rename_i d ρ2 he
    obtain ⟨O2, st2, e2, hr⟩ := st1.esc hv he
    split at q1
    · rename_i ρ3 hg
      exact ⟨c, ρ2, O2, d, ρ3, st2, hr, hg, fun σ' _ st' => q1 σ' H1 O2 st' e2⟩
    · exact q1.elim
  · exact q1.elim
theorem ds_asg {g : TM} {ws : List Nat} (he : DE X W e fa) (hg : DG X tg g ws) (hs : swapsWithSole [tg] e pos.line X.env = pure false := by rfl) (hw : swappedStores [tg] e X.env = pure none := by rfl) (h1 : (assignEach [tg] X.env).map (·.2) = [assign tg X.env] := by rfl) :
    DS X W (.Assign [tg] e pos) (dAsg fa g) := PS.le (ps_asg he hg hs hw h1) fun E σ H h => tAsg_le h
def dSet (i : Nat) (fa : M Rv) : SM := dAsg fa (gN i)
theorem ds_set {i : Nat} (h : ∀ te, PE X e te → PS X st (tAsg te (gName i))) (he : DE X W e fa) : DS X W st (dSet i fa) := PS.le (h _ he) fun E σ H q => by
  obtain ⟨c, ρ, O, s, q⟩ := (show tS (bs X) W (dAsg fa (gN i)) E σ H from q)
  unfold dAsg at q
  refine tP.step s (SPo.then q) fun r ρ1 v H1 O1 st1 e1 hv q1 => ?_
  split at q1
  · rename_i d ρ2 he
    obtain ⟨O2, st2, e2, hr⟩ := st1.esc hv he
    simp only [gN] at q1
    exact q1 _ H1 O2 (st2.set i hr) e2
  · exact q1.elim
/-- x = a new object, owned by x -/
def dSetO (i : Nat) (f : M D) : SM := fun ρ => (f ρ).then fun d ρ1 => .nx (ρ1.set i (some (.own, d)))
theorem ds_setO {i : Nat} {ff : M D} (h : ∀ te, PE X e te → PS X st (tAsg te (gName i))) (he : DF X W e ff) : DS X W st (dSetO i ff) := PS.le (h _ he) fun E σ H ⟨c, ρ, O, s, q⟩ => by
  unfold dSetO at q
  refine ⟨c, ρ, O, s, ?_⟩
  have q' := SPo.then (σ := σ) q
  cases hf : ff ρ with
  | ok d ρ1 =>
    rw [hf] at q'
    intro H' O' st' e' p o ho hp hfr hF hr
    exact q' H' O' st' e' _ H' O' (st'.setO i ho hp hF hfr hr) (.refl _)
  | ex x fs ρ1 => rw [hf] at q'; exact q'
  | bad => rw [hf] at q'; exact q'
end

/-! ### while -/
def dWh (c : M Bool) (body : SM) : Nat → SM
  | 0 => fun _ => .bad
  | n + 1 => fun ρ => (c ρ).then fun b ρ1 => if b = true then (match body ρ1 with
      | .nx ρ2 => dWh c body n ρ2
      | .ct ρ2 => dWh c body n ρ2
      | .bk ρ2 => .nx ρ2
      | o => o) else .nx ρ1
def dWhile (n : En → Nat) (c : M Bool) (body : SM) : SM := fun ρ => dWh c body (n ρ) ρ
section
variable {X : Cx} {W : WX} {e : Expr} {b1 : List Stmt} {ca : M Bool} {fb : SM} {pos : Pos}
theorem ds_while (n : En → Nat) (hp : PassesOwn (model X.prog X.w) X.A X.env X.xe) (hc : DT X W e ca) (hb : DSs X W b1 fb) : DS X W (.While e b1 [] pos) (dWhile n ca fb) := PS.le (ps_while hp hc hb) fun E σ H ⟨c, ρ, O, st, q⟩ => by
  refine ⟨fun m σ' H' => ∃ ρ' O', Stt (bs X) c ρ' σ' H' O' ∧ SPo (bs X) c W E H' O' (dWh ca fb m ρ'), ⟨n ρ, ρ, O, st, q⟩, ?_⟩
  rintro m σ' H' ⟨ρ', O', st', q'⟩
  cases m with
  | zero => exact q'.elim
  | succ m =>
    unfold dWh at q'
    refine tQ.step st' (SPo.then q') fun b ρ1 H1 O1 st1 e1 q1 => ?_
    cases b
    · rw [if_neg (by decide)] at q1
      rw [if_neg (by decide)]
      exact q1 σ' H1 O1 st1 (.refl _)
    · rw [if_pos rfl] at q1
      rw [if_pos rfl]
      refine ⟨fun σ2 H2 => ∃ ρ2 O2, Stt (bs X) c ρ2 σ2 H2 O2 ∧ SPo (bs X) c W E H2 O2 (dWh ca fb m ρ2), fun σ2 H2 h2 => ⟨m, Nat.lt_succ_self m, h2⟩, ?_⟩
      refine ⟨c, ρ1, O1, st1, ?_⟩
      cases hf : fb ρ1 with
      | nx ρ2 => rw [hf] at q1; exact fun σ2 H2 O2 st2 e2 => ⟨ρ2, O2, st2, SPo.mono q1 e2⟩
      | ct ρ2 => rw [hf] at q1; exact fun σ2 H2 O2 st2 e2 => ⟨ρ2, O2, st2, SPo.mono q1 e2⟩
      | bk ρ2 => rw [hf] at q1; exact q1
      | rt d ρ2 => rw [hf] at q1; exact q1
      | ex x fs ρ2 => rw [hf] at q1; exact q1
      | rf d ρ2 => rw [hf] at q1; exact q1
      | bad => rw [hf] at q1; exact q1
end

/-! ### what is walked -/
/-- while the data stands: the walk gives it, one by one -/
structure WalkD (B : Bs) (J : It) (ds : List D) (H O) : Prop where
  ex : ∃ (G : Hp → Prop) (Y : Nat → Hp → V → Hp → Prop), Walk J ds.length G Y ∧ (∀ H' O', Ext (hide H O) (hide H' O') → Liv H' O' → G H') ∧
    ∀ i H' O' x H'', Ext (hide H O) (hide H' O') → Liv H' O' → i < ds.length → Y i H' x H'' → Same H' H'' ∧ ∃ d, ds[i]? = some d ∧ Rep B (hide H'' O') x d
def tI (B : Bs) (W : WX) (f : M (List D)) : TI := fun σ H R => ∃ c ρ O, Stt B c ρ σ H O ∧ Po B c W σ H O (fun ds ρ' H' O' => ∀ J, WalkD B J ds H' O' → R J H') (f ρ)
abbrev DI (X : Cx) (W : WX) (tg it : Expr) (f : M (List D)) : Prop := PI X tg it (tI (bs X) W f)
theorem PI.le {X : Cx} {tg e : Expr} {t t' : TI} (h : PI X tg e t) (i : ∀ σ H R, t' σ H R → t σ H R) : PI X tg e t' := ⟨fun pins s σ H R I q => h.run pins s σ H R I (i σ H R q)⟩
theorem tI.step {B : Bs} {W : WX} {σ : L2.St} {H : Hp} {f : M (List D)} {R1 : It → Hp → Prop} {c : Cst} {ρ : En} {O : List Addr} {R : List D → En → Hp → List Addr → Prop} (st : Stt B c ρ σ H O) (h : Po B c W σ H O R (f ρ)) (hq : ∀ ds ρ1 J H1 O1, Stt B c ρ1 σ H1 O1 → Ext (hide H O) (hide H1 O1) → WalkD B J ds H1 O1 → R ds ρ1 H1 O1 → R1 J H1) : tI B W f σ H R1 := by
  refine ⟨c, ρ, O, st, ?_⟩
  cases hf : f ρ with
  | ok r ρ1 =>
    rw [hf] at h
    exact fun H' O' st' e' J hJ => hq r ρ1 J H' O' st' e' hJ (h H' O' st' e')
  | ex x fs ρ1 => rw [hf] at h; exact h
  | bad => rw [hf] at h; exact h.elim
def dForL (g : TM) (body : SM) : List D → SM
  | [] => fun ρ => .nx ρ
  | d :: ds => fun ρ => match g d ρ with
    | none => .bad
    | some ρ1 => match body ρ1 with
      | .nx ρ2 => dForL g body ds ρ2
      | .ct ρ2 => dForL g body ds ρ2
      | .bk ρ2 => .nx ρ2
      | o => o
def dFor (fi : M (List D)) (g : TM) (body : SM) : SM := fun ρ => (fi ρ).then fun ds ρ1 => dForL g body ds ρ1
section
variable {X : Cx} {W : WX} {e tg : Expr} {b1 : List Stmt} {fi : M (List D)} {g : TM} {ws : List Nat} {fb : SM} {pos : Pos}
theorem ds_for (hp : PassesOwn (model X.prog X.w) X.A X.env X.xe) (hc : X.calm = true) (hi : DI X W tg e fi) (hg : DG X tg g ws) (hb : DSs X W b1 fb) (hs : ∀ x, foldedSetIterable e X.env x = pure x := by intro _; rfl) : DS X W (.For tg e b1 [] pos) (dFor fi g fb) := PS.le (ps_for hp hc hi hg hb hs) fun E σ H ⟨c, ρ, O, st, q⟩ => by
  unfold dFor at q
  refine tI.step st (SPo.then q) fun ds ρ1 J H1 O1 st1 e1 hJ q1 => ?_
  obtain ⟨G, Y, hw, hG, hY⟩ := hJ.ex
  refine for_it hw (fun i σ' H' => ∃ ρ' O', Stt (bs X) c ρ' σ' H' O' ∧ Ext (hide H1 O1) (hide H' O') ∧ SPo (bs X) c W E H' O' (dForL g fb (ds.drop i) ρ')) ⟨ρ1, O1, st1, .refl _, by simpa using q1⟩ ?_ ?_ ?_
  · rintro i σ' H' hi ⟨ρ', O', st', e', _⟩
    exact hG H' O' e' st'.liv
  · rintro i x σ' H' H'' hi ⟨ρ', O', st', e', q'⟩ y
    obtain ⟨es, d, hd, hr⟩ := hY i H' O' x H'' e' st'.liv hi y
    have hdrop : ds.drop i = d :: ds.drop (i + 1) := by
      rw [List.drop_eq_getElem_cons hi]
      rw [List.getElem?_eq_getElem hi] at hd
      cases hd
      rfl
    rw [hdrop] at q'
    unfold dForL at q'
    split at q'
    · exact q'.elim
    · rename_i ρ2 hg2
      refine ⟨c, ρ', O', d, ρ2, st'.ext es, hr, hg2, fun σ2 _ st2 => ⟨c, ρ2, O', st2, ?_⟩⟩
      have q'' := SPo.mono q' (same_hide es)
      cases hf : fb ρ2 with
      | nx ρ3 => rw [hf] at q''; exact fun σ3 H3 O3 st3 e3 => ⟨ρ3, O3, st3, (e'.trans (same_hide es)).trans e3, SPo.mono q'' e3⟩
      | ct ρ3 => rw [hf] at q''; exact fun σ3 H3 O3 st3 e3 => ⟨ρ3, O3, st3, (e'.trans (same_hide es)).trans e3, SPo.mono q'' e3⟩
      | bk ρ3 => rw [hf] at q''; exact q''
      | rt d ρ3 => rw [hf] at q''; exact q''
      | ex x fs ρ3 => rw [hf] at q''; exact q''
      | rf d ρ3 => rw [hf] at q''; exact q''
      | bad => rw [hf] at q''; exact q''
  · rintro σ' H' ⟨ρ', O', st', e', q'⟩
    rw [List.drop_length] at q'
    exact q' σ' H' O' st' (.refl _)
end
end Pu
namespace Pu
open PySem PySem.Spec PyProof.Rows L2 My

/-! ### comprehensions -/
def wipeE (ρ : En) : List Nat → En
  | [] => ρ
  | v :: vs => (wipeE ρ vs).set v none
def dLcL (g : TM) (ct : M Bool) (fe : M Rv) (vs : List Nat) : List D → List D → En → Out (List D)
  | [], acc, ρ => .ok acc ρ
  | d :: ds, acc, ρ => match g d (wipeE ρ vs) with
    | none => .bad
    | some ρ1 => match ct ρ1 with
      | .ok true ρ2 => match fe ρ2 with
        | .ok r ρ3 => match esc ρ3 r with
          | some (y, ρ4) => if acc.length < sizeLine then dLcL g ct fe vs ds (acc ++ [y]) ρ4 else .bad
          | none => .bad
        | _ => .bad
      | .ok false ρ2 => dLcL g ct fe vs ds acc ρ2
      | _ => .bad
def dLc (fi : M (List D)) (g : TM) (ct : M Bool) (fe : M Rv) (vs : List Nat) : M D := fun ρ => (fi ρ).bind fun ds ρ1 => match dLcL g ct fe vs ds [] ρ1 with
  | .ok acc ρ2 => .ok (.lst acc) (wipeE ρ2 vs)
  | _ => .bad
section
variable {B : Bs} {c : Cst} {ρ ρ' : En} {σ σ' : L2.St} {H H' : Hp} {O O' : List Addr} {v : V} {d : D} {W : WX}
theorem Stt.wipe (st : Stt B c ρ σ H O) : ∀ vs : List Nat, Stt B c (wipeE ρ vs) (L2.wipe σ vs) H O
  | [] => st
  | v :: vs => (Stt.wipe st vs).drop v none
theorem wipeE_none : ∀ (vs : List Nat) (ρ : En) (i : Nat) (x : Kd × D), (wipeE ρ vs)[i]? = some (some x) → i ∉ vs ∧ ρ[i]? = some (some x)
  | [], ρ, i, x, h => ⟨by simp, h⟩
  | v :: vs, ρ, i, x, h => by
    rcases get_set h with ⟨_, _, z⟩ | ⟨hj, q⟩
    · cases z
    · obtain ⟨a, b⟩ := wipeE_none vs ρ i x q
      exact ⟨by simp [hj, a], b⟩
theorem wipeE_len : ∀ (vs : List Nat) (ρ : En), (wipeE ρ vs).length = ρ.length
  | [], ρ => rfl
  | v :: vs, ρ => by simp [wipeE, wipeE_len vs ρ]
theorem wipe_get : ∀ (vs : List Nat) (σ : L2.St) (i : Nat), i ∉ vs → (L2.wipe σ vs)[i]? = σ[i]?
  | [], σ, i, h => rfl
  | v :: vs, σ, i, h => by
    rw [List.mem_cons, not_or] at h
    show ((L2.wipe σ vs).set v none)[i]? = _
    rw [List.getElem?_set_ne (Ne.symm h.1), wipe_get vs σ i h.2]
theorem wipe_in : ∀ (vs : List Nat) (σ : L2.St) (i : Nat), i ∈ vs → i < σ.length → (L2.wipe σ vs)[i]? = some none
  | [], σ, i, h, _ => by cases h
  | v :: vs, σ, i, h, hl => by
    show ((L2.wipe σ vs).set v none)[i]? = _
    by_cases e : i = v
    · subst e
      rw [List.getElem?_set_self (by rw [wipe_length]; exact hl)]
    · rw [List.getElem?_set_ne (Ne.symm e)]
      exact wipe_in vs σ i (by simpa [e] using h) hl
/-- the names of the state agree elsewhere -/
theorem wipe_agr {ws vs : List Nat} {σ σ2 : L2.St} (a : Agr ws (L2.wipe σ vs) σ2) (h : ∀ w ∈ ws, w ∈ vs) : L2.wipe σ2 vs = L2.wipe σ vs := by
  apply List.ext_getElem?
  intro i
  by_cases hi : i ∈ vs
  · by_cases hl : i < σ.length
    · rw [wipe_in vs σ i hi hl, wipe_in vs σ2 i hi (by rw [a.1, wipe_length]; exact hl)]
    · rw [List.getElem?_eq_none (by rw [wipe_length, a.1, wipe_length]; omega), List.getElem?_eq_none (by rw [wipe_length]; omega)]
  · rw [wipe_get vs σ2 i hi, a.2 i fun z => hi (h i z)]
/-- of the wiped slots nothing is said -/
theorem Stt.unwipe {vs : List Nat} (st : Stt B c (wipeE ρ vs) (L2.wipe σ vs) H O) : Stt B c (wipeE ρ vs) σ H O := by
  refine ⟨by rw [st.len, wipe_length], ?_, ?_, ?_, ?_, st.liv, st.frm⟩
  · intro i d h
    obtain ⟨v, h1, h2⟩ := st.val i d h
    rw [wipe_get vs σ i (wipeE_none vs ρ i _ h).1] at h1
    exact ⟨v, h1, h2⟩
  · intro i k d h hk
    obtain ⟨p, o, h1, h2⟩ := st.own i k d h hk
    rw [wipe_get vs σ i (wipeE_none vs ρ i _ h).1] at h1
    exact ⟨p, o, h1, h2⟩
  · intro i j p k l d e qi qj hk hl si sj
    refine st.sep i j p k l d e qi qj hk hl ?_ ?_
    · rw [wipe_get vs σ i (wipeE_none vs ρ i _ qi).1]; exact si
    · rw [wipe_get vs σ j (wipeE_none vs ρ j _ qj).1]; exact sj
  · intro i d h
    have := st.pin i d h
    rwa [wipe_get vs σ i (wipeE_none vs ρ i _ h).1] at this
theorem Stt.to_wiped {vs : List Nat} {σ2 : L2.St} (st : Stt B c ρ σ2 H O) (e : L2.wipe σ2 vs = L2.wipe σ vs) : Stt B c (wipeE ρ vs) (L2.wipe σ vs) H O := by rw [← e]; exact st.wipe vs
/-- one object more stands still -/
theorem Stt.still {p : Addr} {o : HO} (st : Stt B c ρ σ H O) (ho : H p = some o) (hp : p ∈ O) (hf : Free ρ σ p) : Stt B ⟨c.pa, p :: c.F, H⟩ ρ σ H O := by
  refine ⟨st.len, st.val, ?_, st.sep, st.pin, st.liv, ?_⟩
  · intro i k d h hk
    obtain ⟨p', o', h1, h2, h3, h4, h5⟩ := st.own i k d h hk
    refine ⟨p', o', h1, h2, ?_, h4, h5⟩
    rw [List.mem_cons, not_or]
    exact ⟨fun e => hf i k d h hk (by rw [h1, e]), h3⟩
  · intro q hq
    rcases List.mem_cons.mp hq with rfl | hq
    · exact ⟨hp, rfl⟩
    · exact ⟨(st.frm q hq).1, rfl⟩
/-- and may change again -/
theorem Stt.unstill {p : Addr} {o : HO} {H1 : Hp} (st : Stt B ⟨c.pa, p :: c.F, H1⟩ ρ σ H O) (hc : ∀ q ∈ c.F, H1 q = c.H0 q) (hF : p ∉ c.F) : Stt B c ρ σ (upd H p o) O ∧ Free ρ σ p ∧ p ∈ O ∧ hide (upd H p o) O = hide H O := by
  obtain ⟨hp, hh⟩ := st.frm p List.mem_cons_self
  have eh : hide (upd H p o) O = hide H O := hide_upd hp
  have hf : Free ρ σ p := fun i k d h hk e => by
    obtain ⟨p', o', h1, h2, h3, h4, h5⟩ := st.own i k d h hk
    rw [e] at h1
    cases h1
    exact h3 List.mem_cons_self
  refine ⟨⟨st.len, ?_, ?_, st.sep, st.pin, ?_, ?_⟩, hf, hp, eh⟩
  · intro i d h
    rw [eh]
    exact st.val i d h
  · intro i k d h hk
    obtain ⟨p', o', h1, h2, h3, h4, h5⟩ := st.own i k d h hk
    rw [List.mem_cons, not_or] at h3
    exact ⟨p', o', h1, h2, h3.2, by rw [upd_ne h3.1]; exact h4, by rw [eh]; exact h5⟩
  · intro q hq
    by_cases e : q = p
    · subst e; exact ⟨o, upd_same⟩
    · rw [upd_ne e]; exact st.liv q hq
  · intro q hq
    obtain ⟨u1, u2⟩ := st.frm q (.tail _ hq)
    refine ⟨u1, ?_⟩
    rw [upd_ne (fun e => hF (by rw [← e]; exact hq)), u2]
    exact hc q hq
theorem upd_id {H : Hp} {p : Addr} {o : HO} (h : H p = some o) : upd H p o = H := by
  funext a
  by_cases e : a = p
  · subst e; rw [upd_same, h]
  · rw [upd_ne e]
end
section
variable {X : Cx} {W : WX} {elt tg iter e : Expr} {ifs : List Expr} {scope : Scope} {own : List (Str × Nat)} {pos : Pos} {fi : M (List D)} {g : TM} {ws vs : List Nat} {ct : M Bool} {fe : M Rv}
def dYes : M Bool := fun ρ => .ok true ρ
theorem tYes_le {B : Bs} {σ : L2.St} {H : Hp} {Q : Bool → Hp → Prop} (h : tQ B W dYes σ H Q) : tYes σ H Q := by
  obtain ⟨c, ρ, O, st, q⟩ := h
  exact q H O st (.refl _)
theorem PTs.le {X : Cx} {e : List Expr} {t t' : TT} (h : PTs X e t) (i : ∀ σ H Q, t' σ H Q → t σ H Q) : PTs X e t' := ⟨fun pins s σ H Q I q => h.run pins s σ H Q I (i σ H Q q)⟩
theorem dts_nil {W : WX} {X : Cx} : PTs X [] (tQ (bs X) W dYes) := PTs.le pts_nil fun _ _ _ h => tYes_le h
theorem dts_one {W : WX} {X : Cx} {e : Expr} {ct : M Bool} (h : DT X W e ct) : PTs X [e] (tQ (bs X) W ct) := pts_one h
theorem lc_le {B : Bs} (hw : ∀ w ∈ ws, w ∈ vs) {σ : L2.St} {H : Hp} {Q : VK} (h : tF B W (dLc fi g ct fe vs) σ H Q) : tLc (tI B W fi) (tG B g ws) (tQ B W ct) (tP B W fe) vs σ H Q := by
  obtain ⟨c, ρ, O, st, q⟩ := h
  unfold dLc at q
  refine tI.step st (Po.bind q) fun ds ρ1 J H1 O1 st1 e1 hJ q1 => ?_
  intro Dd hD
  obtain ⟨G, Y, hwk, hG, hY⟩ := hJ.ex
  obtain ⟨s2, e2, f2, n2⟩ := st1.newO (o := .lst []) hD
  cases hrun : dLcL g ct fe vs ds [] ρ1 with
  | bad => rw [hrun] at q1; exact q1.elim
  | ex x fs ρ' => rw [hrun] at q1; exact q1.elim
  | ok res ρr =>
    rw [hrun] at q1
    refine lc_it hwk (fun i H' => ∃ ρ' O' acc av, Stt B c (wipeE ρ' vs) (L2.wipe σ vs) H' O' ∧ H' Dd = some (.lst av) ∧ Dd ∈ O' ∧ Free (wipeE ρ' vs) (L2.wipe σ vs) Dd ∧ RepL B (hide H' O') av acc ∧ Ext (hide H1 O1) (hide H' O') ∧ dLcL g ct fe vs (ds.drop i) acc ρ' = .ok res ρr) ?_ ?_ ?_ ?_
    · refine ⟨ρ1, Dd :: O1, [], [], s2.wipe vs, upd_same, List.mem_cons_self, ?_, .nil, e2, by simpa using hrun⟩
      intro i k d h hk e
      obtain ⟨hi, h'⟩ := wipeE_none vs ρ1 i _ h
      rw [wipe_get vs σ i hi] at e
      exact f2 i k d h' hk e
    · rintro i H' hi ⟨ρ', O', acc, av, st', _, _, _, _, e', _⟩
      exact hG H' O' e' st'.liv
    · rintro i x H' H'' hi ⟨ρ', O', acc, av, st', hd, hm, hf, hr, e', hq⟩ y
      obtain ⟨es, d, hdd, hrx⟩ := hY i H' O' x H'' e' st'.liv hi y
      have hdrop : ds.drop i = d :: ds.drop (i + 1) := by
        rw [List.drop_eq_getElem_cons hi]
        rw [List.getElem?_eq_getElem hi] at hdd
        cases hdd
        rfl
      rw [hdrop] at hq
      unfold dLcL at hq
      split at hq
      · cases hq
      rename_i ρ2 hg2
      have st2 := (st'.ext es).still (es _ _ hd) hm hf
      refine ⟨_, wipeE ρ' vs, O', d, ρ2, st2, hrx, hg2, fun σ2 ag st3 => ⟨wipe_agr ag hw, _, ρ2, O', st3, ?_⟩⟩
      have ew := wipe_agr ag hw
      have hcc : ∀ q ∈ c.F, H'' q = c.H0 q := fun q hq => (st'.ext es).frm q hq |>.2
      have hpF : ∀ q, q ∈ c.F → q ≠ Dd := fun q hq e => n2 (e ▸ hq)
      have base : Ext (hide H1 O1) (hide H'' O') := e'.trans (same_hide es)
      cases hct : ct ρ2 with
      | bad => rw [hct] at hq; cases hq
      | ex x fs ρ3 => rw [hct] at hq; cases hq
      | ok b ρ3 =>
        rw [hct] at hq
        intro H3 O3 st4 e3
        cases b with
        | false =>
          rw [if_neg (by decide)]
          obtain ⟨i1, i2⟩ := st4.frm Dd List.mem_cons_self
          have hD3 : H3 Dd = some (.lst av) := by rw [i2]; exact es _ _ hd
          obtain ⟨s5, f5, m5, h5⟩ := st4.unstill (o := .lst av) hcc n2
          rw [upd_id hD3] at s5 h5
          refine ⟨ρ3, O3, acc, av, s5.to_wiped ew, hD3, m5, ?_, (hr.mono (same_hide es)).mono e3, base.trans e3, hq⟩
          intro i k d h hk e
          obtain ⟨hi, h'⟩ := wipeE_none vs ρ3 i _ h
          rw [← ew, wipe_get vs σ2 i hi] at e
          exact f5 i k d h' hk e
        | true =>
          rw [if_pos rfl]
          refine ⟨_, ρ3, O3, st4, ?_⟩
          cases hfe : fe ρ3 with
          | bad => simp only [hfe] at hq; cases hq
          | ex x fs ρ4 => simp only [hfe] at hq; cases hq
          | ok r ρ4 =>
            simp only [hfe] at hq
            intro H4 O4 st5 e4 yv hyv
            cases hes : esc ρ4 r with
            | none => simp only [hes] at hq; cases hq
            | some z =>
              obtain ⟨y, ρ5⟩ := z
              simp only [hes] at hq
              by_cases hl : acc.length < sizeLine
              · rw [if_pos hl] at hq
                obtain ⟨O5, st6, e5, hry⟩ := st5.esc hyv hes
                obtain ⟨i1, i2⟩ := st6.frm Dd List.mem_cons_self
                have hD4 : H4 Dd = some (.lst av) := by rw [i2]; exact es _ _ hd
                have all := ((same_hide es).trans e3).trans (e4.trans e5)
                have hr5 := hr.mono all
                refine ⟨av, hD4, by rw [hr.length]; exact hl, ?_⟩
                obtain ⟨s7, f7, m7, h7⟩ := st6.unstill (o := .lst (av ++ [yv])) hcc n2
                refine ⟨ρ5, O5, acc ++ [y], av ++ [yv], s7.to_wiped ew, upd_same, m7, ?_, ?_, ?_, hq⟩
                · intro i k d h hk e
                  obtain ⟨hi, h'⟩ := wipeE_none vs ρ5 i _ h
                  rw [← ew, wipe_get vs σ2 i hi] at e
                  exact f7 i k d h' hk e
                · rw [h7]
                  exact hr5.append (.cons hry .nil)
                · rw [h7]
                  exact e'.trans all
              · rw [if_neg hl] at hq
                cases hq
    · rintro H' ⟨ρ', O', acc, av, st', hd, hm, hf, hr, e', hq⟩
      rw [List.drop_length] at hq
      unfold dLcL at hq
      cases hq
      refine q1 H' O' st'.unwipe e' Dd _ hd hm ?_ n2 (.lst hr)
      intro i k d h hk e
      obtain ⟨hi, h'⟩ := wipeE_none vs ρr i _ h
      refine hf i k d h hk ?_
      rw [wipe_get vs σ i hi]
      exact e
theorem df_lc (h : PE X e (tLc (tI (bs X) W fi) (tG (bs X) g ws) (tQ (bs X) W ct) (tP (bs X) W fe) vs)) (hw : ∀ w ∈ ws, w ∈ vs := by decide) : DF X W e (dLc fi g ct fe vs) := PE.le h fun σ H Q q => lc_le hw q
/-- y = [.. for .. in ..], by the statement's own rule -/
theorem ds_setLc {st : Stmt} {i : Nat} (h : PS X st (tAsg (tLc (tI (bs X) W fi) (tG (bs X) g ws) (tQ (bs X) W ct) (tP (bs X) W fe) vs) (gName i))) (hw : ∀ w ∈ ws, w ∈ vs := by decide) : DS X W st (dSetO i (dLc fi g ct fe vs)) := PS.le h fun E σ H ⟨c, ρ, O, s, q⟩ => by
  unfold dSetO at q
  refine lc_le hw ⟨c, ρ, O, s, ?_⟩
  have q' := SPo.then (σ := σ) q
  cases hf : dLc fi g ct fe vs ρ with
  | ok d ρ1 =>
    rw [hf] at q'
    intro H' O' st' e' p o ho hp hfr hF hr
    exact q' H' O' st' e' _ H' O' (st'.setO i ho hp hF hfr hr) (.refl _)
  | ex x fs ρ1 => rw [hf] at q'; exact q'
  | bad => rw [hf] at q'; exact q'
end
end Pu
namespace Pu
open PySem PySem.Spec PyProof.Rows L2 My

/-! ### promises where no text of an object is being made around (repr needs that) -/
structure RmG (k : Nat) (A : Around) : Prop where
  rm : Room k A
  gd : A.guards = some []
theorem RmG.mono {j k : Nat} {A : Around} (r : RmG k A) (h : j ≤ k) : RmG j A := ⟨r.rm.mono h, r.gd⟩
structure FnG (P : Program) (w : World) (K : PySem.W.Frag) (mg : Str → Option Value) (base : Heap) (k : Nat) (f : Addr) (fd : FuncData) (ps : List Str) (sp : Sp) : Prop where
  len : ∀ vs H Q E, sp vs H Q E → vs.length = ps.length
  run : ∀ (A : Around) (outer : List PySem.Env) (s : Shared) (H : Hp) (args : Args) (us : List Value) (vs : List V) (Q : VK) (E : XK), RmG k A →
    Env0 P w K mg base A outer s H → BindsTo s fd args (ps.zip us) → Vals vs us → sp vs H Q E → codeAny (model P w) A (.call (.ref f) args) (CR (L2.CX P w) outer P w H s Q E) s
section
variable {P : Program} {w : World} {K : PySem.W.Frag} {mg : Str → Option Value} {base : Heap} {k : Nat} {f : Addr} {fd : FuncData} {ps : List Str} {sp sp' : Sp}
theorem FnG.mono {j : Nat} (F : FnG P w K mg base j f fd ps sp) (h : j ≤ k) : FnG P w K mg base k f fd ps sp := ⟨F.len, fun A outer s H args us vs Q E hr => F.run A outer s H args us vs Q E (hr.mono h)⟩
theorem FnG.imp (F : FnG P w K mg base k f fd ps sp) (h : ∀ vs H Q E, sp' vs H Q E → sp vs H Q E) : FnG P w K mg base k f fd ps sp' :=
  ⟨fun vs H Q E q => F.len vs H Q E (h _ _ _ _ q), fun A outer s H args us vs Q E hr h0 h1 h2 h3 => F.run A outer s H args us vs Q E hr h0 h1 h2 (h _ _ _ _ h3)⟩
theorem FnG.of_ok (F : FnOk P w K mg base (L2.CX P w) k f fd ps sp) : FnG P w K mg base k f fd ps sp := ⟨F.len, fun A outer s H args us vs Q E hr => F.run A outer s H args us vs Q E hr.rm⟩
/-- a def of the text, by its body -/
theorem fnG_of {name qual : Str} {prm : Arguments} {body : List Stmt} {sc : Scope} {dV kV doc pm cdv ct oc : Value} {an od : Option Addr} {osl : Array (Option Value)} {N : List Str}
    (lk : K.lookup f = some ⟨oc, od, .func (PySem.W.fnOf name qual prm body sc dV kV doc pm an cdv ct), osl⟩) (hcd : PySem.W.codeIn K cdv qual = true) (S : FnScope N ps sc) (len : ∀ vs H Q E, sp vs H Q E → vs.length = ps.length)
    (hbody : ∀ (A : Around) (outer : List PySem.Env) (s : Shared) (H : Hp) (vs : List V) (Q : VK) (E : XK), RmG k (A.deeper (envOfC qual sc s.heap.objs.size f cdv)) → sp vs H Q E →
      ∃ t, PSs (cxOf (L2.CX P w) P w K mg base N qual sc f cdv A outer s H E) body t ∧ t { nx := fun _ G => Q .non G, rt := Q } (start N vs) H) :
    FnG P w K mg base (k + 1) f (PySem.W.fnOf name qual prm body sc dV kV doc pm an cdv ct) ps sp := by
  refine ⟨len, fun A outer s H args us vs Q E hr env0 hbd hvals hspec => ?_⟩
  have hlen := len _ _ _ _ hspec
  have inK : K.In s.heap := env0.mod.kin.keeps fun b o e => (env0.bs b o e).1
  have nolim : s.heap.NoLimit := env0.mod.nolimit.keeps fun b o e => (env0.bs b o e).1
  have kinds : ∀ y ∈ ps.zip us, sc.names.lookup y.1 = some .local ∨ (sc.names.lookup y.1 = some .cell ∧ ((cellsFrom (s.heap.objs.size + 1) sc.names []).lookup y.1).isSome = true) := by
    rintro ⟨n, v⟩ hy
    exact (S.par n (List.of_mem_zip hy).1).imp id fun q => ⟨q, PySem.W.cellsFrom_some _ _ _ (.inl q)⟩
  refine codeAny_call_function hr.rm.depth (inK _ _ lk) rfl S.co S.gen rfl (PySem.W.codeRec_of inK hcd) (hbd _ _ _ _ ?_)
  refine wpAny_newFunctionEnv_cells S.kind kinds fun env henv s1 ic => ?_
  subst henv
  refine ⟨nolim.keeps ic.toInCall.keep, codeAny_func ?_⟩
  obtain ⟨t, ht, hq⟩ := hbody A outer s H vs Q E ⟨hr.rm.deeper _, hr.gd⟩ hspec
  have inv0 : Inv (cxOf (L2.CX P w) P w K mg base N qual sc f cdv A outer s H E) [] (start N vs) H s1 := inv_start S hr.rm.hd env0 hlen hvals ic
  refine wpAny_mono (ht.run [] s1 (start N vs) H _ inv0 hq) (fun fl s2 hs => ?_) fun e s2 hs => hs
  cases fl with
  | ret u =>
    obtain ⟨v, σ', H', J, rv, q⟩ := hs
    exact ⟨v, H', J.os, J.bare, J.base, J.hok, rv, q⟩
  | next =>
    obtain ⟨σ', H', J, q⟩ := hs
    exact ⟨V.non, H', J.os, J.bare, J.base, J.hok, rfl, q⟩
  | brk =>
    obtain ⟨_, _, _, q⟩ := hs
    exact q.elim
  | cont =>
    obtain ⟨_, _, _, q⟩ := hs
    exact q.elim
/-- a def of the text, whatever its defaults -/
structure Fg (K : PySem.W.Frag) (x qual : Str) (st : Stmt) (f : Addr) (fd : FuncData) : Prop where
  ex : ∃ (oc : Value) (od : Option Addr) (dV kV doc pm : Value) (an : Option Addr) (cdv ct : Value) (osl : Array (Option Value)),
    fd = PySem.W.fnOf x qual (defArgs st) (defBody st) (defScope st) dV kV doc pm an cdv ct ∧ K.lookup f = some ⟨oc, od, .func fd, osl⟩ ∧ PySem.W.codeIn K cdv qual = true
  kp : PySem.W.keepIn K (.ref f) = true
/-- a def of the module, by its name -/
structure Dg (K : PySem.W.Frag) (mg : Str → Option Value) (x : Str) (st : Stmt) : Prop where
  F : Fg K x x st (fa mg x) (fdOf K (fa mg x))
  g : mg x = some (.ref (fa mg x))
def mf (K : PySem.W.Frag) (C : Addr) (m : Str) : Addr := match PySem.W.findIn K (.ref C) m with
  | some (some (.ref a)) => a
  | _ => 0
/-- a method of a class of the module -/
structure Mg (K : PySem.W.Frag) (mg : Str → Option Value) (cn m qual : Str) (st : Stmt) : Prop where
  cl : Cls K (fa mg cn)
  me : Meth K (fa mg cn) m (mf K (fa mg cn) m)
  F : Fg K m qual st (mf K (fa mg cn) m) (fdOf K (mf K (fa mg cn) m))
theorem fun_okG {x qual : Str} {st : Stmt} {N : List Str} (F : Fg K x qual st f fd) (S : FnScope N ps (defScope st)) (len : ∀ vs H Q E, sp vs H Q E → vs.length = ps.length)
    (hbody : ∀ (cdv : Value) (A : Around) (outer : List PySem.Env) (s : Shared) (H : Hp) (vs : List V) (Q : VK) (E : XK), RmG k (A.deeper (envOfC qual (defScope st) s.heap.objs.size f cdv)) → sp vs H Q E →
      ∃ t, PSs (cxOf (L2.CX P w) P w K mg base N qual (defScope st) f cdv A outer s H E) (defBody st) t ∧ t { nx := fun _ G => Q .non G, rt := Q } (start N vs) H) : FnG P w K mg base (k + 1) f fd ps sp := by
  obtain ⟨oc, od, dV, kV, doc, pm, an, cdv, ct, osl, rfl, lk, hcd⟩ := F.ex
  exact fnG_of lk hcd S len fun A outer s H vs Q E => hbody cdv A outer s H vs Q E
end

section
variable {X : Cx} {k : Nat} {f C : Addr} {fd : FuncData} {ps : List Str} {sp : Sp} {dvs : List V} {ds : List Value} {E : L2.St → XK} {x m : Str} {p pos apos : Pos} {e o : Expr} {es : List Expr} {ta : TE} {t : TA}
def PassE (X : Cx) (E : L2.St → XK) : Prop := ∀ σ, PassesAt (L2.CX X.prog X.w) X σ (E σ)
theorem pass_tk {W : WX} (tk : Takes X W) : PassE X (fun σ cls d H => W cls d σ H) := fun σ => passAt tk σ
theorem pass_no : PassE X (fun _ => E0) := fun σ pins H s e s' I h => by
  obtain ⟨_, _, _, _, _, _, _, _, _, _, _, _, z⟩ := h
  exact z.elim
def tCallG (sp : Sp) (dvs : List V) (E : L2.St → XK) (t : TA) : TE := fun σ H Q => t σ H fun vs H1 => sp (vs ++ dvs) H1 Q (E σ)
def tMethG (C : Addr) (m : Str) (sp : Sp) (dvs : List V) (E : L2.St → XK) (ta : TE) (t : TA) : TE := fun σ H Q => ta σ H fun x H1 => ∃ a dx fs, x = .ref a ∧ H1 a = some (.ins C dx fs) ∧ fs.lookup m = none ∧ t σ H1 fun vs H2 => sp (x :: (vs ++ dvs)) H2 Q (E σ)
def tMakeG (C : Addr) (sp : Sp) (dvs : List V) (E : L2.St → XK) (t : TA) : TE := fun σ H Q => t σ H fun vs H1 => ∀ x dx, H1 x = none → H1 dx = none → dx ≠ x → sp (.ref x :: (vs ++ dvs)) (upd (upd H1 dx (.own x)) x (.ins C dx [])) (fun v G => v = .non ∧ Q (.ref x) G) (E σ)
theorem run_fnG {pins : List (Addr × Obj)} {σ : L2.St} {H : Hp} {s : Shared} {Q : VK} {us : List Value} {vs : List V} (F : FnG X.prog X.w X.K X.mg X.base k f fd ps sp) (hr : RmG k X.A) (hb : Binds X.K fd ps ds) (hd : Vals dvs ds) (hx : PassE X E)
    (I : Inv X pins σ H s) (r : Vals vs us) (h : sp (vs ++ dvs) H Q (E σ)) : wpAny (model X.prog X.w) X.A (call (.ref f) us) (EP X pins σ Q) X.xe s := by
  have r2 := r.append hd
  have hl : (us ++ ds).length = ps.length := r2.length.symm.trans (F.len _ _ _ _ h)
  refine wpAny_call (codeAny_mono (F.run X.A X.stack s H ⟨us, []⟩ (us ++ ds) (vs ++ dvs) Q (E σ) hr I.env0 (hb s us I.kIn hl) r2 h) fun res s' hq => ?_)
  cases res with
  | error e => exact hx σ pins H s e s' I hq
  | ok fl => cases fl <;> first | exact I.after hq | exact False.elim hq
theorem pe_callG (F : FnG X.prog X.w X.K X.mg X.base k f fd ps sp) (hr : RmG k X.A) (hg : Gl X x) (hm : X.mg x = some (.ref f)) (hk : PySem.W.keepIn X.K (.ref f) = true) (hb : Binds X.K fd ps ds) (hd : Vals dvs ds) (hx : PassE X E)
    (ha : PA X (e :: es) t) (hdb : (x == ("__debug__" : Str)) = false := by decide) (he : starEach (e :: es) X.env = (false, eval e X.env) :: starEach es X.env := by rfl) (hpl : (backTo pos (starEach es X.env)).any (·.1) = false := by rfl) :
    PE X (.Call (.Name x p) (e :: es) [] pos) (tCallG sp dvs E t) := by
  constructor
  intro pins s σ H Q I h
  refine wpAny_Call_Name_kw (ld_glob I hg hm ?_ hdb)
  exact PySem.W.callWith_K (h₀ := X.base) I.ok.mod.kin hk (thn (ha.run pos pins s σ H _ I h) fun us s1 ⟨vs, H1, I1, r, q⟩ => ⟨I1.kIn, run_fnG F hr hb hd hx I1 r q⟩) he hpl
theorem pe_call0G (F : FnG X.prog X.w X.K X.mg X.base k f fd ps sp) (hr : RmG k X.A) (hg : Gl X x) (hm : X.mg x = some (.ref f)) (hk : PySem.W.keepIn X.K (.ref f) = true) (hb : Binds X.K fd ps ds) (hd : Vals dvs ds) (hx : PassE X E)
    (hdb : (x == ("__debug__" : Str)) = false := by decide) : PE X (.Call (.Name x p) [] [] pos) (tCallG sp dvs E tNil) := by
  constructor
  intro pins s σ H Q I h
  refine wpAny_Call_Name_kw (ld_glob I hg hm ?_ hdb)
  exact PySem.W.callWith_K0 I.kIn hk (run_fnG (us := []) F hr hb hd hx I .nil h)
theorem pe_methG {pl : Sem Bool} (ho : PE X o ta) (c : Cls X.K C) (hm : Meth X.K C m f) (F : FnG X.prog X.w X.K X.mg X.base k f fd ps sp) (hr : RmG k X.A) (hb : Binds X.K fd ps ds) (hd : Vals dvs ds) (hx : PassE X E) (ha : PA X (e :: es) t)
    (hst : starEach (e :: es) X.env = (false, eval e X.env) :: starEach es X.env := by rfl) (hpl : (backTo pos (starEach es X.env)).any (·.1) = false := by rfl)
    (ht : eval (.Call (.Attribute o m apos) (e :: es) [] pos) X.env = (do
      let w ← eval o X.env
      standAt apos.atName
      let (g, hd) ← holding [w] (getMethod w m pl)
      callWith pos g hd (backTo pos (starEach (e :: es) X.env)) (backToKw pos (keywordEach [] X.env))) := by rfl) :
    PE X (.Call (.Attribute o m apos) (e :: es) [] pos) (tMethG C m sp dvs E ta t) := by
  constructor
  intro pins s σ H Q I h
  refine PySem.W.methodCall_KW (pl := pl) (thn (ho.run pins s σ H _ I h) fun u s1 ⟨x, H1, I1, rx, a, dx, fs, ex, ea, hl, q⟩ => ?_) ht
  subst ex
  obtain rfl : u = Value.ref a := rx
  exact getmeth_ok I1 ea c hm hl (PySem.W.callWith_K (first := [.ref a]) (h₀ := X.base) I.ok.mod.kin hm.kp (thn (ha.run pos pins s1 σ H1 _ I1 q) fun us s2 ⟨vs, H2, I2, r, q2⟩ => ⟨I2.kIn, run_fnG (us := .ref a :: us) (vs := .ref a :: vs) F hr hb hd hx I2 (.cons rfl r) q2⟩) hst hpl)
theorem pe_meth0G {pl : Sem Bool} (ho : PE X o ta) (c : Cls X.K C) (hm : Meth X.K C m f) (F : FnG X.prog X.w X.K X.mg X.base k f fd ps sp) (hr : RmG k X.A) (hb : Binds X.K fd ps ds) (hd : Vals dvs ds) (hx : PassE X E)
    (ht : eval (.Call (.Attribute o m apos) [] [] pos) X.env = (do
      let w ← eval o X.env
      standAt apos.atName
      let (g, hd) ← holding [w] (getMethod w m pl)
      callWith pos g hd (backTo pos (starEach [] X.env)) (backToKw pos (keywordEach [] X.env))) := by rfl) :
    PE X (.Call (.Attribute o m apos) [] [] pos) (tMethG C m sp dvs E ta tNil) := by
  constructor
  intro pins s σ H Q I h
  refine PySem.W.methodCall_KW (pl := pl) (thn (ho.run pins s σ H _ I h) fun u s1 ⟨x, H1, I1, rx, a, dx, fs, ex, ea, hl, q⟩ => ?_) ht
  subst ex
  obtain rfl : u = Value.ref a := rx
  exact getmeth_ok I1 ea c hm hl (PySem.W.callWith_K0 (first := [.ref a]) I1.kIn hm.kp (run_fnG (us := [.ref a]) (vs := [.ref a]) F hr hb hd hx I1 (.cons rfl .nil) q))
theorem RmG.make {A : Around} (r : RmG (k + 1) A) (C : Addr) (us : List Value) : RmG k (A.under (.builtin "type.__call__" ⟨.ref C :: us, []⟩)) := ⟨r.rm.make C us [], by
  have h : (A.under (.builtin "type.__call__" ⟨.ref C :: us, []⟩)).guards = pushGuards (Code.guards (.builtin "type.__call__" ⟨.ref C :: us, []⟩)) A.guards := by simp [Around.under]
  have z : Code.guards (.builtin "type.__call__" ⟨.ref C :: us, []⟩) = [] := by
    unfold Code.guards
    rw [if_neg]
    simp only [Code.isGuard]
    decide
  rw [h, r.gd, z]
  rfl⟩
theorem run_makeG {pins : List (Addr × Obj)} {σ : L2.St} {H : Hp} {s : Shared} {Q : VK} {us : List Value} {vs : List V} (M : Mk X.K C f) (F : FnG X.prog X.w X.K X.mg X.base k f fd ps sp) (hr : RmG (k + 1) X.A) (hb : Binds X.K fd ps ds) (hd : Vals dvs ds) (hx : PassE X E)
    (I : Inv X pins σ H s) (r : Vals vs us) (h : ∀ x dx, H x = none → H dx = none → dx ≠ x → sp (.ref x :: (vs ++ dvs)) (upd (upd H dx (.own x)) x (.ins C dx [])) (fun v G => v = .non ∧ Q (.ref x) G) (E σ)) :
    wpAny (model X.prog X.w) X.A (call (.ref C) us) (EP X pins σ Q) X.xe s := by
  let n := s.heap.objs.size
  have hq := h (n + 1) n (I.hok.fresh (Nat.le_succ _)) (I.hok.fresh (Nat.le_refl _)) (Nat.ne_of_lt (Nat.lt_succ_self _))
  have J := Inv.made (C := C) I
  have rr : Vals (V.ref (n + 1) :: (vs ++ dvs)) (Value.ref (n + 1) :: (us ++ ds)) := .cons rfl (r.append hd)
  have hl : ((Value.ref (n + 1) :: us) ++ ds).length = ps.length := (rr.length.symm.trans (F.len _ _ _ _ hq))
  refine wpAny_call (make_map (f := f) I.kIn M.makes M.init (beq_iff_eq.mp M.fn) (codeAny_mono (F.run _ X.stack _ _ ⟨Value.ref (n + 1) :: us, []⟩ (Value.ref (n + 1) :: (us ++ ds)) _ _ (E σ) (hr.make C us) (J.env0.make C us []) (hb _ (Value.ref (n + 1) :: us) J.kIn hl) rr hq) fun res s' hz => ?_))
  cases res with
  | error e => exact hx σ pins _ _ e s' J hz
  | ok fl =>
    cases fl with
    | ret u =>
      obtain ⟨v, H', I3, rv, ev, q3⟩ := J.after hz
      subst ev
      exact ⟨rv, ⟨V.ref (n + 1), H', I3, rfl, q3⟩⟩
    | next => exact hz.elim
    | brk => exact hz.elim
    | cont => exact hz.elim
theorem pe_makeG (M : Mk X.K C f) (F : FnG X.prog X.w X.K X.mg X.base k f fd ps sp) (hr : RmG (k + 1) X.A) (hg : Gl X x) (hm : X.mg x = some (.ref C)) (hb : Binds X.K fd ps ds) (hd : Vals dvs ds) (hx : PassE X E)
    (ha : PA X (e :: es) t) (hdb : (x == ("__debug__" : Str)) = false := by decide) (he : starEach (e :: es) X.env = (false, eval e X.env) :: starEach es X.env := by rfl) (hpl : (backTo pos (starEach es X.env)).any (·.1) = false := by rfl) :
    PE X (.Call (.Name x p) (e :: es) [] pos) (tMakeG C sp dvs E t) := by
  constructor
  intro pins s σ H Q I h
  refine wpAny_Call_Name_kw (ld_glob I hg hm ?_ hdb)
  exact PySem.W.callWith_K (h₀ := X.base) I.ok.mod.kin M.kp (thn (ha.run pos pins s σ H _ I h) fun us s1 ⟨vs, H1, I1, r, q⟩ => ⟨I1.kIn, run_makeG M F hr hb hd hx I1 r q⟩) he hpl
end
end Pu
namespace Pu
open PySem PySem.Spec PyProof.Rows L2 My

/-! ### defs: what they do to data -/
inductive FOut where
  | ok (d io : D) | ex (x : Str) (fs : List (Str × D)) (io : D) | bad
def kdAt (pin : Option Nat) (i : Nat) : Kd := if pin = some i then .pin else .val
def initAt (pin : Option Nat) : Nat → List D → En
  | _, [] => []
  | i, d :: ds => some (kdAt pin i, d) :: initAt pin (i + 1) ds
def initE (pin : Option Nat) (n : Nat) (ds : List D) : En := initAt pin 0 ds ++ List.replicate (n - ds.length) none
def ioE (pin : Option Nat) (ρ : En) : Option D := match pin with
  | none => some .non
  | some j => match ρ[j]? with
    | some (some (.pin, d)) => some d
    | _ => none
def runF (pin : Option Nat) (n m : Nat) (body : SM) (ds : List D) : FOut := if ds.length = m then (match body (initE pin n ds) with
  | .nx ρ' => (match ioE pin ρ' with | some io => .ok .non io | none => .bad)
  | .rt d ρ' => (match ioE pin ρ' with | some io => .ok d io | none => .bad)
  | .ex x fs ρ' => (match ioE pin ρ' with | some io => .ex x fs io | none => .bad)
  | .rf d ρ' => (match ioE pin ρ' with | some io => .ok d io | none => .bad)
  | _ => .bad) else .bad
/-- the outcome where the answer must be a new object -/
def runFF (pin : Option Nat) (n m : Nat) (body : SM) (ds : List D) : FOut := if ds.length = m then (match body (initE pin n ds) with
  | .ex x fs ρ' => (match ioE pin ρ' with | some io => .ex x fs io | none => .bad)
  | .rf d ρ' => (match ioE pin ρ' with | some io => .ok d io | none => .bad)
  | _ => .bad) else .bad
/-- the arguments: data, and one owned object -/
structure ArgsD (B : Bs) (pin : Option Nat) (vs : List V) (ds : List D) (H : Hp) (O : List Addr) : Prop where
  len : vs.length = ds.length
  val : ∀ (i : Nat) (d : D), pin ≠ some i → ds[i]? = some d → ∃ v, vs[i]? = some v ∧ Rep B (hide H O) v d
  own : ∀ j : Nat, pin = some j → ∃ p o d, vs[j]? = some (.ref p) ∧ p ∈ O ∧ H p = some o ∧ ds[j]? = some d ∧ RepO B (hide H O) o d
structure Fin (B : Bs) (pin : Option Nat) (vs : List V) (H : Hp) (O : List Addr) (io : D) (H' : Hp) (O' : List Addr) : Prop where
  liv : Liv H' O'
  same : Ext (hide H O) (hide H' O')
  frm : ∀ q ∈ O, (∀ j, pin = some j → vs[j]? ≠ some (.ref q)) → q ∈ O' ∧ H' q = H q
  own : ∀ j : Nat, pin = some j → ∃ p o, vs[j]? = some (.ref p) ∧ p ∈ O' ∧ H' p = some o ∧ RepO B (hide H' O') o io
def FPo (B : Bs) (pin : Option Nat) (vs : List V) (H : Hp) (O : List Addr) (Q : VK) (E : XK) : FOut → Prop
  | .ok d io => ∀ v H' O', Fin B pin vs H O io H' O' → Rep B (hide H' O') v d → Q v H'
  | .ex x fs io => ∀ dd H' O', Fin B pin vs H O io H' O' → ExAt B (hide H' O') fs dd → E (.ref (B.cls x)) dd H'
  | .bad => False
def spD (B : Bs) (pin : Option Nat) (m : Nat) (fn : List D → FOut) : Sp := fun vs H Q E => vs.length = m ∧ ∃ O ds, Liv H O ∧ ArgsD B pin vs ds H O ∧ FPo B pin vs H O Q E (fn ds)

section
variable {B : Bs} {c : Cst} {ρ ρ' : En} {σ σ' : L2.St} {H H' : Hp} {O O' : List Addr} {pin : Option Nat} {vs : List V} {ds : List D}
theorem initAt_len (pin : Option Nat) : ∀ (ds : List D) (i : Nat), (initAt pin i ds).length = ds.length
  | [], _ => rfl
  | d :: ds, i => by simp [initAt, initAt_len pin ds (i + 1)]
theorem initAt_get (pin : Option Nat) : ∀ (ds : List D) (i j : Nat), (initAt pin i ds)[j]? = (ds[j]?).map fun d => some (kdAt pin (i + j), d)
  | [], _, j => by simp [initAt]
  | d :: ds, i, 0 => by simp [initAt]
  | d :: ds, i, j + 1 => by
    simp only [initAt, List.getElem?_cons_succ]
    rw [initAt_get pin ds (i + 1) j, show i + 1 + j = i + (j + 1) by omega]
theorem initE_get {n : Nat} {i : Nat} {k : Kd} {d : D} (h : (initE pin n ds)[i]? = some (some (k, d))) : ds[i]? = some d ∧ k = kdAt pin i := by
  unfold initE at h
  rw [List.getElem?_append] at h
  split at h
  · rw [initAt_get] at h
    cases hd : ds[i]? with
    | none => rw [hd] at h; cases h
    | some x =>
      rw [hd] at h
      simp only [Option.map_some, Nat.zero_add, Option.some.injEq, Prod.mk.injEq] at h
      exact ⟨by rw [h.2], h.1.symm⟩
  · rw [List.getElem?_replicate] at h
    split at h <;> simp at h
theorem start_get {N : List Str} {i : Nat} {v : V} (h : vs[i]? = some v) : (L2.start N vs)[i]? = some (some v) := by
  unfold L2.start
  have hl : i < vs.length := by
    rcases Nat.lt_or_ge i vs.length with q | q
    · exact q
    · rw [List.getElem?_eq_none q] at h; cases h
  rw [List.getElem?_append_left (by simpa using hl), List.getElem?_map, h]
  rfl
def pinsOf (pin : Option Nat) (vs : List V) : List Addr := match pin with
  | none => []
  | some j => match vs[j]? with
    | some (.ref p) => [p]
    | _ => []
theorem args_stt {N : List Str} (a : ArgsD B pin vs ds H O) (hl : Liv H O) (hn : ds.length ≤ N.length) : Stt B ⟨fun i => match vs[i]? with | some (.ref p) => p | _ => 0, O.filter (fun q => decide (q ∉ pinsOf pin vs)), H⟩ (initE pin N.length ds) (L2.start N vs) H O := by
  have hk : ∀ {i : Nat} {k : Kd}, k = kdAt pin i → k ≠ .val → pin = some i ∧ k = .pin := fun {i k} h hk => by
    unfold kdAt at h
    split at h
    · exact ⟨by assumption, h⟩
    · exact absurd h hk
  refine ⟨?_, ?_, ?_, ?_, ?_, hl, ?_⟩
  · unfold initE L2.start
    rw [List.length_append, List.length_append, initAt_len, List.length_replicate, List.length_map, List.length_replicate, a.len]
  · intro i d h
    obtain ⟨h1, h2⟩ := initE_get h
    have hp : pin ≠ some i := fun e => by
      unfold kdAt at h2
      rw [if_pos e] at h2
      cases h2
    obtain ⟨v, hv, hr⟩ := a.val i d hp h1
    exact ⟨v, start_get hv, hr⟩
  · intro i k d h hkv
    obtain ⟨h1, h2⟩ := initE_get h
    obtain ⟨e, _⟩ := hk h2 hkv
    obtain ⟨p, o, d', q1, q2, q3, q4, q5⟩ := a.own i e
    rw [h1] at q4
    cases q4
    refine ⟨p, o, start_get q1, q2, ?_, q3, q5⟩
    intro hm
    have := (List.mem_filter.mp hm).2
    simp [pinsOf, e, q1] at this
  · intro i j p k l d e qi qj hki hlj _ _
    obtain ⟨_, h2⟩ := initE_get qi
    obtain ⟨_, h4⟩ := initE_get qj
    obtain ⟨e1, _⟩ := hk h2 hki
    obtain ⟨e2, _⟩ := hk h4 hlj
    rw [e1] at e2
    exact Option.some.inj e2
  · intro i d h
    obtain ⟨h1, h2⟩ := initE_get h
    obtain ⟨e, _⟩ := hk h2 (by decide)
    obtain ⟨p, o, d', q1, _⟩ := a.own i e
    simp only [q1]
    exact start_get q1
  · intro q hq
    exact ⟨(List.mem_filter.mp hq).1, rfl⟩
theorem fin_of {N : List Str} {io : D} (a : ArgsD B pin vs ds H O) (st : Stt B ⟨fun i => match vs[i]? with | some (.ref p) => p | _ => 0, O.filter (fun q => decide (q ∉ pinsOf pin vs)), H⟩ ρ' σ' H' O') (e : Ext (hide H O) (hide H' O')) (hio : ioE pin ρ' = some io) : Fin B pin vs H O io H' O' := by
  refine ⟨st.liv, e, ?_, ?_⟩
  · intro q hq hn
    refine st.frm q (List.mem_filter.mpr ⟨hq, ?_⟩)
    simp only [decide_eq_true_eq]
    intro hm
    unfold pinsOf at hm
    cases pin with
    | none => simp at hm
    | some j =>
      simp only at hm
      split at hm
      · rename_i p hp
        simp only [List.mem_cons, List.not_mem_nil, or_false] at hm
        subst hm
        exact hn j rfl hp
      · cases hm
  · intro j hj
    subst hj
    unfold ioE at hio
    simp only at hio
    split at hio
    · rename_i d hd
      cases hio
      obtain ⟨p, o, d', q1, _⟩ := a.own j rfl
      have hs := st.pin j io hd
      obtain ⟨p', o', u1, u2, u3, u4, u5⟩ := st.own j .pin io hd (by decide)
      rw [hs] at u1
      cases u1
      simp only [q1] at u2 u4
      exact ⟨p, o', q1, u2, u4, u5⟩
    · cases hio
end

def FPoF (B : Bs) (pin : Option Nat) (vs : List V) (H : Hp) (O : List Addr) (Q : VK) (E : XK) : FOut → Prop
  | .ok d io => ∀ p o H' O', Fin B pin vs H O io H' O' → H' p = some o → p ∈ O' → p ∉ O → RepO B (hide H' O') o d → Q (.ref p) H'
  | .ex x fs io => ∀ dd H' O', Fin B pin vs H O io H' O' → ExAt B (hide H' O') fs dd → E (.ref (B.cls x)) dd H'
  | .bad => False
/-- the answer is a new object, the caller's own -/
def spF (B : Bs) (pin : Option Nat) (m : Nat) (fn : List D → FOut) : Sp := fun vs H Q E => vs.length = m ∧ ∃ O ds, Liv H O ∧ ArgsD B pin vs ds H O ∧ FPoF B pin vs H O Q E (fn ds)
section
variable {P : Program} {w : World} {K : PySem.W.Frag} {mg : Str → Option Value} {base : Heap} {x qual : Str} {st : Stmt} {f : Addr} {fd : FuncData} {N ps : List Str} {k : Nat} {fb : SM}
/-- a body's walk -/
def Bdy (P : Program) (w : World) (K : PySem.W.Frag) (mg : Str → Option Value) (base : Heap) (N : List Str) (qual : Str) (st : Stmt) (f : Addr) (k : Nat) (fb : SM) : Prop :=
  ∀ (cdv : Value) (A : Around) (outer : List PySem.Env) (s : Shared) (H : Hp) (E : XK), RmG k (A.deeper (envOfC qual (defScope st) s.heap.objs.size f cdv)) →
    Takes (cxOf (L2.CX P w) P w K mg base N qual (defScope st) f cdv A outer s H E) (fun cls d _ H => E cls d H) →
    PassesOwn (model P w) (cxOf (L2.CX P w) P w K mg base N qual (defScope st) f cdv A outer s H E).A (cxOf (L2.CX P w) P w K mg base N qual (defScope st) f cdv A outer s H E).env (cxOf (L2.CX P w) P w K mg base N qual (defScope st) f cdv A outer s H E).xe →
    DSs (cxOf (L2.CX P w) P w K mg base N qual (defScope st) f cdv A outer s H E) (fun cls d _ H => E cls d H) (defBody st) fb
/-- a def's promise, by its body -/
theorem fn_body (pin : Option Nat) (F : Fg K x qual st f fd) (S : FnScope N ps (defScope st)) (hn : ps.length ≤ N.length) (hb : Bdy P w K mg base N qual st f k fb) :
    FnG P w K mg base (k + 1) f fd ps (spD ⟨K, w, mg⟩ pin ps.length (runF pin N.length ps.length fb)) := by
  refine fun_okG F S (fun vs H Q E h => h.1) fun cdv A outer s H vs Q E hr hsp => ?_
  refine ⟨_, hb cdv A outer s H E hr (takes_of rfl rfl rfl rfl) (passes_of rfl), ?_⟩
  obtain ⟨hlen, O, ds, hl, ha, hp⟩ := hsp
  unfold runF at hp
  have hld : ds.length = ps.length := by rw [← ha.len]; exact hlen
  rw [if_pos hld] at hp
  have st0 := args_stt (N := N) ha hl (by omega)
  refine ⟨_, _, O, st0, ?_⟩
  cases hf : fb (initE pin N.length ds) with
  | nx ρ' =>
    rw [hf] at hp
    simp only at hp
    split at hp
    · rename_i io hio
      exact fun σ' H' O' st' e' => hp .non H' O' (fin_of (N := N) ha st' e' hio) .non
    · exact hp.elim
  | rt d ρ' =>
    rw [hf] at hp
    simp only at hp
    split at hp
    · rename_i io hio
      exact fun v σ' H' O' st' e' hr => hp v H' O' (fin_of (N := N) ha st' e' hio) hr
    · exact hp.elim
  | bk ρ' => rw [hf] at hp; exact hp.elim
  | ct ρ' => rw [hf] at hp; exact hp.elim
  | ex x fs ρ' =>
    rw [hf] at hp
    simp only at hp
    split at hp
    · rename_i io hio
      exact fun dd σ' H' O' st' e' hr => hp dd H' O' (fin_of (N := N) ha st' e' hio) hr
    · exact hp.elim
  | rf d ρ' =>
    rw [hf] at hp
    simp only at hp
    split at hp
    · rename_i io hio
      intro p o σ' H' O' st' e' ho hm hfr hF hr
      obtain ⟨O2, s2, e2, r2⟩ := st'.thaw ho hfr hF hr
      exact hp _ H' O2 (fin_of (N := N) ha s2 (e'.trans e2) hio) r2
    · exact hp.elim
  | bad => rw [hf] at hp; exact hp.elim
theorem fn_bodyF (pin : Option Nat) (F : Fg K x qual st f fd) (S : FnScope N ps (defScope st)) (hn : ps.length ≤ N.length) (hb : Bdy P w K mg base N qual st f k fb) :
    FnG P w K mg base (k + 1) f fd ps (spF ⟨K, w, mg⟩ pin ps.length (runFF pin N.length ps.length fb)) := by
  refine fun_okG F S (fun vs H Q E h => h.1) fun cdv A outer s H vs Q E hr hsp => ?_
  refine ⟨_, hb cdv A outer s H E hr (takes_of rfl rfl rfl rfl) (passes_of rfl), ?_⟩
  obtain ⟨hlen, O, ds, hl, ha, hp⟩ := hsp
  unfold runFF at hp
  have hld : ds.length = ps.length := by rw [← ha.len]; exact hlen
  rw [if_pos hld] at hp
  have st0 := args_stt (N := N) ha hl (by omega)
  refine ⟨_, _, O, st0, ?_⟩
  cases hf : fb (initE pin N.length ds) with
  | nx ρ' => rw [hf] at hp; exact hp.elim
  | rt d ρ' => rw [hf] at hp; exact hp.elim
  | bk ρ' => rw [hf] at hp; exact hp.elim
  | ct ρ' => rw [hf] at hp; exact hp.elim
  | ex x fs ρ' =>
    rw [hf] at hp
    simp only at hp
    split at hp
    · rename_i io hio
      exact fun dd σ' H' O' st' e' hr => hp dd H' O' (fin_of (N := N) ha st' e' hio) hr
    · exact hp.elim
  | rf d ρ' =>
    rw [hf] at hp
    simp only at hp
    split at hp
    · rename_i io hio
      intro p o σ' H' O' st' e' ho hm hfr hF hr
      refine hp p o H' O' (fin_of (N := N) ha st' e' hio) ho hm ?_ hr
      intro hpO
      refine hF (List.mem_filter.mpr ⟨hpO, ?_⟩)
      simp only [decide_eq_true_eq]
      intro hpp
      unfold pinsOf at hpp
      unfold ioE at hio
      cases pin with
      | none => simp at hpp
      | some j =>
        simp only at hpp hio
        split at hpp
        · rename_i p' hv
          simp only [List.mem_cons, List.not_mem_nil, or_false] at hpp
          subst hpp
          split at hio
          · rename_i d' hd'
            have := st'.pin j d' hd'
            simp only [hv] at this
            exact hfr j .pin d' hd' (by decide) this
          · cases hio
        · cases hpp
    · exact hp.elim
  | bad => rw [hf] at hp; exact hp.elim
theorem FnG.fnEq {m : Nat} {pin : Option Nat} {fn gn : List D → FOut} {B : Bs} (h : FnG P w K mg base k f fd ps (spD B pin m fn)) (e : ∀ ds, ds.length = m → gn ds ≠ .bad → fn ds = gn ds) : FnG P w K mg base k f fd ps (spD B pin m gn) :=
  h.imp fun vs H Q E ⟨hl, O, ds, h1, h2, h3⟩ => ⟨hl, O, ds, h1, h2, by
    rw [e ds (h2.len.symm.trans hl) fun z => by rw [z] at h3; exact h3]
    exact h3⟩
theorem FnG.fnEqF {m : Nat} {pin : Option Nat} {fn gn : List D → FOut} {B : Bs} (h : FnG P w K mg base k f fd ps (spF B pin m fn)) (e : ∀ ds, ds.length = m → gn ds ≠ .bad → fn ds = gn ds) : FnG P w K mg base k f fd ps (spF B pin m gn) :=
  h.imp fun vs H Q E ⟨hl, O, ds, h1, h2, h3⟩ => ⟨hl, O, ds, h1, h2, by
    rw [e ds (h2.len.symm.trans hl) fun z => by rw [z] at h3; exact h3]
    exact h3⟩
end

/-! ### calls -/
def escJ (pin : Option Nat) : Nat → List Rv → En → Option (List D × En)
  | _, [], ρ => some ([], ρ)
  | i, r :: rs, ρ => match (if pin = some i then some (.non, ρ) else esc ρ r) with
    | some (d, ρ1) => match escJ pin (i + 1) rs ρ1 with
      | some (ds, ρ2) => some (d :: ds, ρ2)
      | none => none
    | none => none
/-- the pinned argument's slot, kind and data -/
def pinR (pin : Option Nat) (rs : List Rv) (ρ : En) : Option (Option (Nat × Nat × Kd × D)) := match pin with
  | none => some none
  | some j => match rs[j]? with
    | some (.slot s) => match ρ[s]? with
      | some (some (.own, d)) => some (some (j, s, .own, d))
      | some (some (.pin, d)) => some (some (j, s, .pin, d))
      | _ => none
    | _ => none
def putR (o : Option (Nat × Nat × Kd × D)) (ds : List D) : List D := match o with
  | none => ds
  | some (j, _, _, d) => ds.set j d
def backR (o : Option (Nat × Nat × Kd × D)) (io : D) (ρ : En) : En := match o with
  | none => ρ
  | some (_, s, k, _) => ρ.set s (some (k, io))
def fcall (pin : Option Nat) (fn : List D → FOut) (rs : List Rv) (ρ : En) : Out Rv := match escJ pin 0 rs ρ with
  | some (ds, ρ1) => match pinR pin rs ρ1 with
    | some o => match fn (putR o ds) with
      | .ok d io => .ok (.val d) (backR o io ρ1)
      | .ex x fs io => .ex x fs (backR o io ρ1)
      | .bad => .bad
    | none => .bad
  | none => .bad
section
variable {B : Bs} {c : Cst} {ρ ρ' : En} {σ σ' : L2.St} {H H' : Hp} {O O' : List Addr} {pin : Option Nat} {vs : List V} {ds : List D}
theorem escJ_ok {rs : List Rv} : ∀ {i : Nat} {vs : List V} {ds : List D} {ρ : En} {O : List Addr}, Stt B c ρ σ H O → RvsOk B σ H O vs rs → escJ pin i rs ρ = some (ds, ρ') →
    ∃ O', Stt B c ρ' σ H O' ∧ Ext (hide H O) (hide H O') ∧ vs.length = ds.length ∧ ∀ (j : Nat) (d : D), pin ≠ some (i + j) → ds[j]? = some d → ∃ v, vs[j]? = some v ∧ Rep B (hide H O') v d := by
  induction rs with
  | nil =>
    intro i vs ds ρ O st h e
    cases h
    simp only [escJ, Option.some.injEq, Prod.mk.injEq] at e
    obtain ⟨rfl, rfl⟩ := e
    exact ⟨O, st, .refl _, rfl, fun j d _ hd => by simp at hd⟩
  | cons r rs ih =>
    intro i vs ds ρ O st h e
    cases h with
    | cons h t =>
    simp only [escJ] at e
    split at e
    · rename_i d ρ1 e1
      split at e
      · rename_i ds' ρ2 e2
        simp only [Option.some.injEq, Prod.mk.injEq] at e
        obtain ⟨rfl, rfl⟩ := e
        by_cases hp : pin = some i
        · rw [if_pos hp] at e1
          simp only [Option.some.injEq, Prod.mk.injEq] at e1
          obtain ⟨rfl, rfl⟩ := e1
          obtain ⟨O2, s2, x2, l2, r2⟩ := ih st t e2
          refine ⟨O2, s2, x2, by simp [l2], fun j d hj hd => ?_⟩
          cases j with
          | zero => exact absurd hp (by simpa using hj)
          | succ j => exact r2 j d (by rw [show i + 1 + j = i + (j + 1) by omega]; exact hj) (by simpa using hd)
        · rw [if_neg hp] at e1
          obtain ⟨O1, s1, x1, r1⟩ := st.esc h e1
          obtain ⟨O2, s2, x2, l2, r2⟩ := ih s1 (RvsOk.ext t x1) e2
          refine ⟨O2, s2, x1.trans x2, by simp [l2], fun j d hj hd => ?_⟩
          cases j with
          | zero =>
            simp only [List.getElem?_cons_zero, Option.some.injEq] at hd
            subst hd
            exact ⟨_, rfl, r1.mono x2⟩
          | succ j => exact r2 j d (by rw [show i + 1 + j = i + (j + 1) by omega]; exact hj) (by simpa using hd)
      · cases e
    · cases e
theorem pinR_ok {rs : List Rv} {o : Option (Nat × Nat × Kd × D)} (h : pinR pin rs ρ = some o) : (pin = none ∧ o = none) ∨ ∃ j s k d, pin = some j ∧ o = some (j, s, k, d) ∧ rs[j]? = some (.slot s) ∧ ρ[s]? = some (some (k, d)) ∧ k ≠ .val := by
  unfold pinR at h
  cases pin with
  | none =>
    simp only [Option.some.injEq] at h
    exact .inl ⟨rfl, h.symm⟩
  | some j =>
    simp only at h
    split at h
    · rename_i s hs
      split at h
      · rename_i d hd
        cases h
        exact .inr ⟨j, s, .own, d, rfl, rfl, hs, hd, by decide⟩
      · rename_i d hd
        cases h
        exact .inr ⟨j, s, .pin, d, rfl, rfl, hs, hd, by decide⟩
      · cases h
    · cases h
theorem Paired.get' {α β : Type} {F : α → β → Prop} : ∀ {xs : List α} {ys : List β} {i : Nat} {y : β}, Paired F xs ys → ys[i]? = some y → ∃ x, xs[i]? = some x ∧ F x y
  | _, _, _, _, .nil, e => by simp at e
  | _, _, 0, _, .cons r _, e => by simp at e; subst e; exact ⟨_, rfl, r⟩
  | _, _, i + 1, y, .cons _ t, e => by
    obtain ⟨u, h1, h2⟩ := Paired.get' (i := i) (y := y) t (by simpa using e)
    exact ⟨u, by simpa using h1, h2⟩
/-- the state behind a call -/
theorem Stt.behind {rs : List Rv} {o : Option (Nat × Nat × Kd × D)} {io : D} (st : Stt B c ρ σ H O) (hv : RvsOk B σ H O vs rs) (ho : pinR pin rs ρ = some o) (f : Fin B pin vs H O io H' O') : Stt B c (backR o io ρ) σ H' O' := by
  rcases pinR_ok ho with ⟨rfl, rfl⟩ | ⟨j, s, k, d, rfl, rfl, hr, hd, hk⟩
  · refine ⟨st.len, ?_, ?_, st.sep, st.pin, f.liv, ?_⟩
    · intro i d h
      obtain ⟨v, h1, h2⟩ := st.val i d h
      exact ⟨v, h1, h2.mono f.same⟩
    · intro i k d h hk
      obtain ⟨p, o, h1, h2, h3, h4, h5⟩ := st.own i k d h hk
      obtain ⟨u1, u2⟩ := f.frm p h2 fun j hj => by cases hj
      exact ⟨p, o, h1, u1, h3, by rw [u2]; exact h4, h5.mono f.same⟩
    · intro q hq
      obtain ⟨u1, u2⟩ := st.frm q hq
      obtain ⟨w1, w2⟩ := f.frm q u1 fun j hj => by cases hj
      exact ⟨w1, by rw [w2]; exact u2⟩
  · obtain ⟨p0, o0, z1, z2, z3, z4, z5⟩ := st.own s k d hd hk
    obtain ⟨v, hv1, hv2⟩ := Paired.get' hv hr
    simp only [RvOk] at hv2
    rw [z1] at hv2
    cases hv2
    obtain ⟨p, o, q1, q2, q3, q4⟩ := f.own j rfl
    rw [hv1] at q1
    cases q1
    have apart : ∀ q, q ≠ p0 → ∀ j', some j = some j' → vs[j']? ≠ some (.ref q) := fun q hq j' hj' e => by
      cases hj'
      rw [hv1] at e
      cases e
      exact hq rfl
    refine ⟨by simp [backR, st.len], ?_, ?_, ?_, ?_, f.liv, ?_⟩
    · intro i e h
      rcases get_set h with ⟨rfl, _, z⟩ | ⟨hi, h⟩
      · cases z; exact absurd rfl hk
      · obtain ⟨v, h1, h2⟩ := st.val i e h
        exact ⟨v, h1, h2.mono f.same⟩
    · intro i l e h hl
      rcases get_set h with ⟨rfl, _, z⟩ | ⟨hi, h⟩
      · cases z
        exact ⟨p0, o, z1, q2, z3, q3, q4⟩
      · obtain ⟨p', o', u1, u2, u3, u4, u5⟩ := st.own i l e h hl
        have ne : p' ≠ p0 := fun z => hi (st.sep i s p0 l k e d h hd hl hk (by rw [u1, z]) z1)
        obtain ⟨w1, w2⟩ := f.frm p' u2 (apart p' ne)
        exact ⟨p', o', u1, w1, u3, by rw [w2]; exact u4, u5.mono f.same⟩
    · intro a b q k' l' x y qa qb hk' hl' sa sb
      have ea : ∃ x', ρ[a]? = some (some (k', x')) := by
        rcases get_set qa with ⟨rfl, _, z⟩ | ⟨ha, qa⟩
        · cases z; exact ⟨_, hd⟩
        · exact ⟨_, qa⟩
      have eb : ∃ x', ρ[b]? = some (some (l', x')) := by
        rcases get_set qb with ⟨rfl, _, z⟩ | ⟨ha, qb⟩
        · cases z; exact ⟨_, hd⟩
        · exact ⟨_, qb⟩
      obtain ⟨x', ea⟩ := ea
      obtain ⟨y', eb⟩ := eb
      exact st.sep a b q k' l' x' y' ea eb hk' hl' sa sb
    · intro i e h
      rcases get_set h with ⟨rfl, _, z⟩ | ⟨hi, h⟩
      · cases z
        exact st.pin _ d hd
      · exact st.pin i e h
    · intro q hq
      obtain ⟨u1, u2⟩ := st.frm q hq
      obtain ⟨w1, w2⟩ := f.frm q u1 (apart q fun z => z3 (by rw [← z]; exact hq))
      exact ⟨w1, by rw [w2]; exact u2⟩
/-- the call itself: from the values at hand to the promise -/
theorem fcall_sp {W : WX} {fn : List D → FOut} {rs : List Rv} {m : Nat} {Q : VK} {R : Rv → En → Hp → List Addr → Prop} (hm : rs.length = m) (st : Stt B c ρ σ H O) (hv : RvsOk B σ H O vs rs) (h : Po B c W σ H O R (fcall pin fn rs ρ)) (hQ : ∀ r ρ' H' O' v, Stt B c ρ' σ H' O' → Ext (hide H O) (hide H' O') → RvOk B σ H' O' v r → R r ρ' H' O' → Q v H') :
    spD B pin m fn vs H Q (fun cls d H' => W cls d σ H') := by
  have hlen : vs.length = rs.length := Paired.length hv
  unfold fcall at h
  split at h
  · rename_i ds ρ1 he
    obtain ⟨O1, st1, e1, l1, r1⟩ := escJ_ok st hv he
    have hv1 := RvsOk.ext hv e1
    split at h
    · rename_i o hpo
      refine ⟨hlen.trans hm, O1, putR o ds, st1.liv, ?_, ?_⟩
      · rcases pinR_ok hpo with ⟨rfl, rfl⟩ | ⟨j, s, k, d, rfl, rfl, hr, hd, hk⟩
        · refine ⟨l1, fun i d _ hd => r1 i d (by simp) hd, fun j hj => by cases hj⟩
        · refine ⟨by simp [putR, l1], fun i e hi he' => ?_, fun j' hj' => ?_⟩
          · rcases get_set he' with ⟨rfl, _, _⟩ | ⟨_, he'⟩
            · exact absurd rfl hi
            · exact r1 i e (by simpa using hi) he'
          · cases hj'
            obtain ⟨p0, o0, z1, z2, z3, z4, z5⟩ := st1.own s k d hd hk
            obtain ⟨v, hv3, hv2⟩ := Paired.get' hv1 hr
            simp only [RvOk] at hv2
            rw [z1] at hv2
            cases hv2
            refine ⟨p0, o0, d, hv3, z2, z4, ?_, z5⟩
            have hl : j < ds.length := by
              rw [← l1]
              rcases Nat.lt_or_ge j vs.length with q | q
              · exact q
              · rw [List.getElem?_eq_none q] at hv3; cases hv3
            simp only [putR]
            rw [List.getElem?_set_self hl]
      · cases hfn : fn (putR o ds) with
        | ok d io =>
          simp only [hfn] at h
          intro v H' O' f hr
          have s' := st1.behind hv1 hpo f
          exact hQ (.val d) _ H' O' v s' (e1.trans f.same) hr (h H' O' s' (e1.trans f.same))
        | ex x fs io =>
          simp only [hfn] at h
          intro dd H' O' f hx
          exact h dd H' O' (st1.behind hv1 hpo f) (e1.trans f.same) hx
        | bad => simp only [hfn] at h; exact h.elim
    · exact h.elim
  · exact h.elim
end
section
variable {B : Bs} {c : Cst} {ρ ρ' : En} {σ σ' : L2.St} {H H' : Hp} {O O' : List Addr} {pin : Option Nat} {vs : List V} {ds : List D}
theorem call_args {rs : List Rv} {ρ1 : En} {o : Option (Nat × Nat × Kd × D)} (st : Stt B c ρ σ H O) (hv : RvsOk B σ H O vs rs) (he : escJ pin 0 rs ρ = some (ds, ρ1)) (hpo : pinR pin rs ρ1 = some o) :
    ∃ O1, Stt B c ρ1 σ H O1 ∧ Ext (hide H O) (hide H O1) ∧ RvsOk B σ H O1 vs rs ∧ ArgsD B pin vs (putR o ds) H O1 := by
  obtain ⟨O1, st1, e1, l1, r1⟩ := escJ_ok st hv he
  have hv1 := RvsOk.ext hv e1
  refine ⟨O1, st1, e1, hv1, ?_⟩
  rcases pinR_ok hpo with ⟨rfl, rfl⟩ | ⟨j, s, k, d, rfl, rfl, hr, hd, hk⟩
  · exact ⟨l1, fun i d _ hd => r1 i d (by simp) hd, fun j hj => by cases hj⟩
  · refine ⟨by simp [putR, l1], fun i e hi he' => ?_, fun j' hj' => ?_⟩
    · rcases get_set he' with ⟨rfl, _, _⟩ | ⟨_, he'⟩
      · exact absurd rfl hi
      · exact r1 i e (by simpa using hi) he'
    · cases hj'
      obtain ⟨p0, o0, z1, z2, z3, z4, z5⟩ := st1.own s k d hd hk
      obtain ⟨v, hv3, hv2⟩ := Paired.get' hv1 hr
      simp only [RvOk] at hv2
      rw [z1] at hv2
      cases hv2
      refine ⟨p0, o0, d, hv3, z2, z4, ?_, z5⟩
      have hl : j < ds.length := by
        rw [← l1]
        rcases Nat.lt_or_ge j vs.length with q | q
        · exact q
        · rw [List.getElem?_eq_none q] at hv3; cases hv3
      simp only [putR]
      rw [List.getElem?_set_self hl]
def fcallF (pin : Option Nat) (fn : List D → FOut) (rs : List Rv) (ρ : En) : Out D := match escJ pin 0 rs ρ with
  | some (ds, ρ1) => match pinR pin rs ρ1 with
    | some o => match fn (putR o ds) with
      | .ok d io => .ok d (backR o io ρ1)
      | .ex x fs io => .ex x fs (backR o io ρ1)
      | .bad => .bad
    | none => .bad
  | none => .bad
theorem fcall_spF {W : WX} {fn : List D → FOut} {rs : List Rv} {m : Nat} {Q : VK} {R : D → En → Hp → List Addr → Prop} (hm : rs.length = m) (st : Stt B c ρ σ H O) (hv : RvsOk B σ H O vs rs) (h : Po B c W σ H O R (fcallF pin fn rs ρ))
    (hQ : ∀ d ρ' H' O' p o, Stt B c ρ' σ H' O' → Ext (hide H O) (hide H' O') → H' p = some o → p ∈ O' → Free ρ' σ p → p ∉ c.F → RepO B (hide H' O') o d → R d ρ' H' O' → Q (.ref p) H') :
    spF B pin m fn vs H Q (fun cls d H' => W cls d σ H') := by
  have hlen : vs.length = rs.length := Paired.length hv
  unfold fcallF at h
  split at h
  · rename_i ds ρ1 he
    split at h
    · rename_i o hpo
      obtain ⟨O1, st1, e1, hv1, ha⟩ := call_args st hv he hpo
      refine ⟨hlen.trans hm, O1, putR o ds, st1.liv, ha, ?_⟩
      cases hfn : fn (putR o ds) with
      | ok d io =>
        simp only [hfn] at h
        intro p o' H' O' f ho' hm' hn' hr
        have s' := st1.behind hv1 hpo f
        refine hQ d _ H' O' p o' s' (e1.trans f.same) ho' hm' ?_ ?_ hr (h H' O' s' (e1.trans f.same))
        · intro i k x q hk z
          have : ∃ x', ρ1[i]? = some (some (k, x')) := by
            rcases pinR_ok hpo with ⟨rfl, rfl⟩ | ⟨j, s, k', d', rfl, rfl, hr', hd', hk'⟩
            · exact ⟨x, q⟩
            · rcases get_set q with ⟨rfl, _, y⟩ | ⟨_, q⟩
              · cases y; exact ⟨_, hd'⟩
              · exact ⟨x, q⟩
          obtain ⟨x', q'⟩ := this
          obtain ⟨p', o2, u1, u2, _⟩ := st1.own i k x' q' hk
          rw [z] at u1
          cases u1
          exact hn' u2
        · intro hF
          exact hn' (st1.frm p hF).1
      | ex x fs io =>
        simp only [hfn] at h
        intro dd H' O' f hx
        exact h dd H' O' (st1.behind hv1 hpo f) (e1.trans f.same) hx
      | bad => simp only [hfn] at h; exact h.elim
    · exact h.elim
  · exact h.elim
end
/-- an outcome without errors -/
def noX {α : Type} (o : Out α) : Out α := match o with
  | .ok r ρ' => .ok r ρ'
  | _ => .bad
theorem noX_po {α : Type} {B : Bs} {c : Cst} {W W' : WX} {σ : L2.St} {H : Hp} {O : List Addr} {o : Out α} {R : α → En → Hp → List Addr → Prop} (h : Po B c W σ H O R (noX o)) : Po B c W' σ H O R o := by
  unfold noX at h
  cases o with
  | ok r ρ' => exact h
  | ex x fs ρ' => exact h.elim
  | bad => exact h.elim
/-- the arguments that are written, then the defaults -/
def dArgs (m : Nat) (dds : List D) (fa : M (List Rv)) : M (List Rv) := fun ρ => (fa ρ).bind fun rs ρ' => if rs.length + dds.length = m then .ok (rs ++ dds.map .val) ρ' else .bad
/-- a call; t: what is raised is taken (or else there is nothing raised) -/
def dCall (t : Bool) (pin : Option Nat) (m : Nat) (dds : List D) (fn : List D → FOut) (fa : M (List Rv)) : M Rv := fun ρ => (dArgs m dds fa ρ).bind fun rs ρ1 => if t = true then fcall pin fn rs ρ1 else noX (fcall pin fn rs ρ1)
def dCallF (t : Bool) (pin : Option Nat) (m : Nat) (dds : List D) (fn : List D → FOut) (fa : M (List Rv)) : M D := fun ρ => (dArgs m dds fa ρ).bind fun rs ρ1 => if t = true then fcallF pin fn rs ρ1 else noX (fcallF pin fn rs ρ1)
/-- what becomes of errors: they are taken, or there are none -/
def ErrOk (X : Cx) (W : WX) (t : Bool) : Prop := t = true → Takes X W
theorem errNo {X : Cx} {W : WX} : ErrOk X W false := fun z => by cases z
theorem errTk {X : Cx} {W : WX} (tk : Takes X W) : ErrOk X W true := fun _ => tk
section
variable {X : Cx} {W : WX} {x m : Str} {st : Stmt} {ps : List Str} {k : Nat} {e o : Expr} {es : List Expr} {fo : M Rv} {fs : M (List Rv)} {p pos apos : Pos} {pin : Option Nat} {fn : List D → FOut} {t : Bool} {dds : List D} {dvs : List V} {dsv : List Value} {f C : Addr} {fd : FuncData}
theorem rvs_dflt {B : Bs} {σ : L2.St} {H : Hp} {O : List Addr} : ∀ {dvs : List V} {dds : List D}, (∀ G, RepL B G dvs dds) → RvsOk B σ H O dvs (dds.map .val)
  | [], [], _ => .nil
  | v :: dvs, d :: dds, h => .cons (by have := h (hide H O); cases this; assumption) (rvs_dflt fun G => by have := h G; cases this; assumption)
  | [], d :: dds, h => by have := h (hide H O); cases this
  | v :: dvs, [], h => by have := h (hide H O); cases this
theorem Paired.app {α β : Type} {F : α → β → Prop} : ∀ {xs ys : List α} {us ws : List β}, Paired F xs us → Paired F ys ws → Paired F (xs ++ ys) (us ++ ws)
  | _, _, _, _, .nil, s => s
  | _, _, _, _, .cons r t, s => .cons r (Paired.app t s)
theorem args_step {B : Bs} {c : Cst} {σ : L2.St} {H1 : Hp} {O1 : List Addr} {m : Nat} {ρ1 : En} {α : Type} {kk : List Rv → En → Out α} {rs : List Rv} {vs : List V} {R : α → En → Hp → List Addr → Prop} (st1 : Stt B c ρ1 σ H1 O1) (hv : RvsOk B σ H1 O1 vs rs) (hdd : ∀ G, RepL B G dvs dds)
    (q : Po B c W σ H1 O1 (fun a ρ' H' O' => Po B c W σ H' O' R (kk a ρ')) (if rs.length + dds.length = m then .ok (rs ++ dds.map Rv.val) ρ1 else .bad)) :
    (rs ++ dds.map Rv.val).length = m ∧ RvsOk B σ H1 O1 (vs ++ dvs) (rs ++ dds.map .val) ∧ Po B c W σ H1 O1 R (kk (rs ++ dds.map .val) ρ1) := by
  split at q
  · rename_i hl
    exact ⟨by simpa using hl, Paired.app hv (rvs_dflt hdd), q H1 O1 st1 (.refl _)⟩
  · exact q.elim
/-- what is wanted of errors -/
def wE (W : WX) (t : Bool) : L2.St → XK := if t = true then fun σ cls d H => W cls d σ H else fun _ => E0
theorem pass_t (h : ErrOk X W t) : PassE X (wE W t) := by
  unfold wE
  cases t with
  | true => rw [if_pos rfl]; exact pass_tk (h rfl)
  | false => rw [if_neg (by decide)]; exact pass_no
theorem call_sp {B : Bs} {c : Cst} {σ : L2.St} {H1 : Hp} {O1 : List Addr} {ρ1 : En} {rs : List Rv} {vs : List V} {mm : Nat} {Q : VK} (hm : rs.length = mm) (st1 : Stt B c ρ1 σ H1 O1) (hv : RvsOk B σ H1 O1 vs rs)
    (q : Po B c W σ H1 O1 (fun r ρ' H' O' => ∀ v, RvOk B σ H' O' v r → Q v H') (if t = true then fcall pin fn rs ρ1 else noX (fcall pin fn rs ρ1))) : spD B pin mm fn vs H1 Q (wE W t σ) := by
  unfold wE
  cases t with
  | true =>
    rw [if_pos rfl] at q
    rw [if_pos rfl]
    exact fcall_sp hm st1 hv q fun r ρ' H' O' v st' e' hv q => q v hv
  | false =>
    rw [if_neg (by decide)] at q
    rw [if_neg (by decide)]
    exact fcall_sp (W := fun _ _ _ _ => False) hm st1 hv (noX_po q) fun r ρ' H' O' v st' e' hv q => q v hv
/-- x(e, ..), a def of the module -/
theorem de_call (Dx : Dg X.K X.mg x st) (hb : Binds X.K (fdOf X.K (My.fa X.mg x)) ps dsv) (G : FnG X.prog X.w X.K X.mg X.base k (My.fa X.mg x) (fdOf X.K (My.fa X.mg x)) ps (spD (bs X) pin ps.length fn)) (hr : RmG k X.A) (hx : ErrOk X W t) (hd : Vals dvs dsv) (hdd : ∀ G, RepL (bs X) G dvs dds) (ha : DA X W (e :: es) fs) (hg : Gl X x := by rfl)
    (hdb : (x == ("__debug__" : Str)) = false := by decide) (he : starEach (e :: es) X.env = (false, eval e X.env) :: starEach es X.env := by rfl) (hpl : (backTo pos (starEach es X.env)).any (·.1) = false := by rfl) :
    DE X W (.Call (.Name x p) (e :: es) [] pos) (dCall t pin ps.length dds fn fs) := PE.le (pe_callG G hr hg Dx.g Dx.F.kp hb hd (pass_t hx) ha hdb he hpl) fun σ H Q ⟨c, ρ, O, st, q⟩ => by
  unfold dCall at q
  have q := Po.bind q
  unfold dArgs at q
  refine tAs.step st (Po.bind q) fun rs ρ1 vs H1 O1 st1 e1 hvs q1 => ?_
  obtain ⟨hm, hv2, q2⟩ := args_step st1 hvs hdd q1
  exact call_sp hm st1 hv2 q2
theorem de_call0 (Dx : Dg X.K X.mg x st) (hb : Binds X.K (fdOf X.K (My.fa X.mg x)) ps dsv) (G : FnG X.prog X.w X.K X.mg X.base k (My.fa X.mg x) (fdOf X.K (My.fa X.mg x)) ps (spD (bs X) pin ps.length fn)) (hr : RmG k X.A) (hx : ErrOk X W t) (hd : Vals dvs dsv) (hdd : ∀ G, RepL (bs X) G dvs dds) (hg : Gl X x := by rfl)
    (hdb : (x == ("__debug__" : Str)) = false := by decide) :
    DE X W (.Call (.Name x p) [] [] pos) (dCall t pin ps.length dds fn dNil) := PE.le (pe_call0G G hr hg Dx.g Dx.F.kp hb hd (pass_t hx) hdb) fun σ H Q ⟨c, ρ, O, st, q⟩ => by
  unfold dCall dArgs dNil at q
  simp only [bind_ok, List.nil_append] at q
  have q := Po.bind q
  obtain ⟨hm, hv2, q2⟩ := args_step (rs := []) (vs := []) st .nil hdd q
  exact call_sp hm st hv2 q2
/-- the same, its answer a new object of the caller's -/
theorem df_call (Dx : Dg X.K X.mg x st) (hb : Binds X.K (fdOf X.K (My.fa X.mg x)) ps dsv) (G : FnG X.prog X.w X.K X.mg X.base k (My.fa X.mg x) (fdOf X.K (My.fa X.mg x)) ps (spF (bs X) pin ps.length fn)) (hr : RmG k X.A) (hx : ErrOk X W t) (hd : Vals dvs dsv) (hdd : ∀ G, RepL (bs X) G dvs dds) (ha : DA X W (e :: es) fs) (hg : Gl X x := by rfl)
    (hdb : (x == ("__debug__" : Str)) = false := by decide) (he : starEach (e :: es) X.env = (false, eval e X.env) :: starEach es X.env := by rfl) (hpl : (backTo pos (starEach es X.env)).any (·.1) = false := by rfl) :
    DF X W (.Call (.Name x p) (e :: es) [] pos) (dCallF t pin ps.length dds fn fs) := PE.le (pe_callG G hr hg Dx.g Dx.F.kp hb hd (pass_t hx) ha hdb he hpl) fun σ H Q ⟨c, ρ, O, st, q⟩ => by
  unfold dCallF at q
  have q := Po.bind q
  unfold dArgs at q
  refine tAs.step st (Po.bind q) fun rs ρ1 vs H1 O1 st1 e1 hvs q1 => ?_
  obtain ⟨hm, hv2, q2⟩ := args_step st1 hvs hdd q1
  have fin : ∀ {W' : WX}, Po (bs X) c W' σ H1 O1 (fun d ρ' H' O' => ∀ p o, H' p = some o → p ∈ O' → Free ρ' σ p → p ∉ c.F → RepO (bs X) (hide H' O') o d → Q (.ref p) H') (fcallF pin fn (rs ++ dds.map .val) ρ1) → spF (bs X) pin ps.length fn (vs ++ dvs) H1 Q (fun cls d H' => W' cls d σ H') := fun {W'} z =>
    fcall_spF hm st1 hv2 z fun d ρ' H' O' p o st' e' h1 h2 h3 h4 h5 q => q p o h1 h2 h3 h4 h5
  unfold wE
  cases t with
  | true =>
    rw [if_pos rfl] at q2
    rw [if_pos rfl]
    exact fin q2
  | false =>
    rw [if_neg (by decide)] at q2
    rw [if_neg (by decide)]
    exact fin (W' := fun _ _ _ _ => False) (noX_po q2)
/-- o.m(e, ..), o an instance of the class c -/
def selfR (cn m : Str) (d : Option D) : Bool := match d with
  | some (.ins c fs) => decide (c = cn) && (fs.lookup m).isNone
  | _ => false
def dMeth (cn m : Str) (t : Bool) (pin : Option Nat) (n : Nat) (dds : List D) (fn : List D → FOut) (fo : M Rv) (fa : M (List Rv)) : M Rv := fun ρ => (fo ρ).bind fun r ρ1 => if selfR cn m (rd ρ1 r) = true then
  (fa ρ1).bind fun rs ρ2 => if rs.length + dds.length = n then (if t = true then fcall pin fn (r :: (rs ++ dds.map .val)) ρ2 else noX (fcall pin fn (r :: (rs ++ dds.map .val)) ρ2)) else .bad else .bad
theorem self_ins {B : Bs} {H : Hp} {O : List Addr} {v : V} {d : D} {cn m : Str} (h : Vw B H O v d) (hs : selfR cn m (some d) = true) : ∃ a dx fs, v = .ref a ∧ H a = some (.ins (B.cls cn) dx fs) ∧ fs.lookup m = none := by
  cases d <;> simp only [selfR] at hs <;> try (exact absurd hs (by decide))
  rename_i c fs
  simp only [Bool.and_eq_true, decide_eq_true_eq] at hs
  obtain ⟨rfl, hn⟩ := hs
  obtain ⟨a, dx, gs, rfl, hH, hk, _⟩ := h.ins
  refine ⟨a, dx, gs, rfl, hH, ?_⟩
  rw [List.lookup_eq_none_iff]
  intro q hq
  rw [Option.isNone_iff_eq_none, List.lookup_eq_none_iff] at hn
  have : q.1 ∈ fs.map (·.1) := by rw [← hk]; exact List.mem_map.mpr ⟨q, hq, rfl⟩
  obtain ⟨q', hq', e'⟩ := List.mem_map.mp this
  have := hn q' hq'
  rw [e'] at this
  exact this
theorem meth_le {σ : L2.St} {H : Hp} {Q : VK} {cn : Str} {n : Nat} (hdd : ∀ G, RepL (bs X) G dvs dds) (h : tP (bs X) W (dMeth cn m t pin (n - 1) dds fn fo fs) σ H Q) (hn : 1 ≤ n) : tMethG ((bs X).cls cn) m (spD (bs X) pin n fn) dvs (wE W t) (tP (bs X) W fo) (tAs (bs X) W fs) σ H Q := by
  obtain ⟨c, ρ, O, st, q⟩ := h
  unfold dMeth at q
  refine tP.step st (Po.bind q) fun r ρ1 v H1 O1 st1 e1 hv q1 => ?_
  split at q1
  · rename_i hs
    cases hrd : rd ρ1 r with
    | none => rw [hrd] at hs; cases hs
    | some d =>
      rw [hrd] at hs
      obtain ⟨a, dx, gs, rfl, hH, hl⟩ := self_ins (st1.vw hv hrd) hs
      refine ⟨a, dx, gs, rfl, hH, hl, ?_⟩
      refine tAs.step st1 (Po.bind q1) fun rs ρ2 vs H2 O2 st2 e2 hvs q2 => ?_
      split at q2
      · rename_i hlen
        refine call_sp (rs := r :: (rs ++ dds.map Rv.val)) (by simp; omega) st2 (.cons (hv.ext e2) (Paired.app hvs (rvs_dflt hdd))) q2
      · exact q2.elim
  · exact q1.elim
theorem de_meth {cn : Str} {pl : Sem Bool} (ho : DE X W o fo) (cl : Cls X.K ((bs X).cls cn)) (hm : Meth X.K ((bs X).cls cn) m f) (hb : Binds X.K fd ps dsv) (G : FnG X.prog X.w X.K X.mg X.base k f fd ps (spD (bs X) pin ps.length fn)) (hr : RmG k X.A) (hx : ErrOk X W t) (hd : Vals dvs dsv) (hdd : ∀ G, RepL (bs X) G dvs dds) (ha : DA X W (e :: es) fs) (hn : 1 ≤ ps.length := by decide)
    (hst : starEach (e :: es) X.env = (false, eval e X.env) :: starEach es X.env := by rfl) (hpl : (backTo pos (starEach es X.env)).any (·.1) = false := by rfl)
    (ht : eval (.Call (.Attribute o m apos) (e :: es) [] pos) X.env = (do
      let w ← eval o X.env
      standAt apos.atName
      let (g, hd) ← holding [w] (getMethod w m pl)
      callWith pos g hd (backTo pos (starEach (e :: es) X.env)) (backToKw pos (keywordEach [] X.env))) := by rfl) :
    DE X W (.Call (.Attribute o m apos) (e :: es) [] pos) (dMeth cn m t pin (ps.length - 1) dds fn fo fs) := PE.le (pe_methG ho cl hm G hr hb hd (pass_t hx) ha hst hpl ht) fun σ H Q h => meth_le hdd h hn
theorem tNil_le {σ : L2.St} {H : Hp} {Q : List V → Hp → Prop} (h : tAs (bs X) W dNil σ H Q) : tNil σ H Q := by
  obtain ⟨c, ρ, O, st, q⟩ := h
  exact q H O st (.refl _) [] .nil
theorem de_meth0 {cn : Str} {pl : Sem Bool} (ho : DE X W o fo) (cl : Cls X.K ((bs X).cls cn)) (hm : Meth X.K ((bs X).cls cn) m f) (hb : Binds X.K fd ps dsv) (G : FnG X.prog X.w X.K X.mg X.base k f fd ps (spD (bs X) pin ps.length fn)) (hr : RmG k X.A) (hx : ErrOk X W t) (hd : Vals dvs dsv) (hdd : ∀ G, RepL (bs X) G dvs dds) (hn : 1 ≤ ps.length := by decide)
    (ht : eval (.Call (.Attribute o m apos) [] [] pos) X.env = (do
      let w ← eval o X.env
      standAt apos.atName
      let (g, hd) ← holding [w] (getMethod w m pl)
      callWith pos g hd (backTo pos (starEach [] X.env)) (backToKw pos (keywordEach [] X.env))) := by rfl) :
    DE X W (.Call (.Attribute o m apos) [] [] pos) (dMeth cn m t pin (ps.length - 1) dds fn fo dNil) := PE.le (pe_meth0G ho cl hm G hr hb hd (pass_t hx) ht) fun σ H Q h => by
  obtain ⟨c, ρ, O, st, q⟩ := meth_le hdd h hn
  refine ⟨c, ρ, O, st, Po.mono q (.refl _) fun r ρ' H' O' z v hv => ?_⟩
  obtain ⟨a, dx, gs, e1, e2, e3, e4⟩ := z v hv
  exact ⟨a, dx, gs, e1, e2, e3, tNil_le e4⟩
/-- C(e, ..): an instance, made by __init__ -/
def fmake (cn : Str) (fn : List D → FOut) (rs : List Rv) (ρ : En) : Out Rv := match escs ρ rs with
  | some (ds, ρ1) => match fn (.ins cn [] :: ds) with
    | .ok .non io => .ok (.val io) ρ1
    | .ok _ _ => .bad
    | .ex x fs _ => .ex x fs ρ1
    | .bad => .bad
  | none => .bad
def dMake (cn : Str) (t : Bool) (m : Nat) (dds : List D) (fn : List D → FOut) (fa : M (List Rv)) : M Rv := fun ρ => (dArgs m dds fa ρ).bind fun rs ρ1 => if t = true then fmake cn fn rs ρ1 else noX (fmake cn fn rs ρ1)
theorem Fin.stt {B : Bs} {c : Cst} {ρ : En} {σ : L2.St} {H2 H' : Hp} {O O' : List Addr} {x : Addr} {vs : List V} {io : D} (st : Stt B c ρ σ H2 (x :: O)) (hf : Free ρ σ x) (hF : x ∉ c.F) (f : Fin B (some 0) (.ref x :: vs) H2 (x :: O) io H' O') : Stt B c ρ σ H' O' := by
  have ap : ∀ q, q ≠ x → ∀ j, some 0 = some j → (V.ref x :: vs)[j]? ≠ some (.ref q) := fun q hq j hj e => by
    cases hj
    simp only [List.getElem?_cons_zero, Option.some.injEq, V.ref.injEq] at e
    exact hq e.symm
  refine ⟨st.len, ?_, ?_, st.sep, st.pin, f.liv, ?_⟩
  · intro i d h
    obtain ⟨v, h1, h2⟩ := st.val i d h
    exact ⟨v, h1, h2.mono f.same⟩
  · intro i k d h hk
    obtain ⟨p, o, h1, h2, h3, h4, h5⟩ := st.own i k d h hk
    obtain ⟨u1, u2⟩ := f.frm p h2 (ap p fun z => hf i k d h hk (by rw [h1, z]))
    exact ⟨p, o, h1, u1, h3, by rw [u2]; exact h4, h5.mono f.same⟩
  · intro q hq
    obtain ⟨u1, u2⟩ := st.frm q hq
    obtain ⟨w1, w2⟩ := f.frm q u1 (ap q fun z => hF (by rw [← z]; exact hq))
    exact ⟨w1, by rw [w2]; exact u2⟩
theorem make_sp {B : Bs} {c : Cst} {σ : L2.St} {H1 : Hp} {O1 : List Addr} {ρ1 : En} {rs : List Rv} {vs : List V} {mm : Nat} {cn : Str} {Q : VK} {xx dx : Addr} (hm : rs.length + 1 = mm) (st1 : Stt B c ρ1 σ H1 O1) (hv : RvsOk B σ H1 O1 vs rs) (n1 : H1 xx = none) (n2 : H1 dx = none) (n3 : dx ≠ xx)
    (q : Po B c W σ H1 O1 (fun r ρ' H' O' => ∀ v, RvOk B σ H' O' v r → Q v H') (fmake cn fn rs ρ1)) : spD B (some 0) mm fn (.ref xx :: vs) (upd (upd H1 dx (.own xx)) xx (.ins (B.cls cn) dx [])) (fun v G => v = .non ∧ Q (.ref xx) G) (fun cls d H => W cls d σ H) := by
  have hlen : vs.length = rs.length := Paired.length hv
  unfold fmake at q
  split at q
  · rename_i ds ρ2 he
    obtain ⟨O2, st2, e2, hr⟩ := escs_ok st1 hv he
    have eA : Same H1 (upd H1 dx (.own xx)) := Same.new n2
    have st3 := st2.ext eA
    have n4 : upd H1 dx (.own xx) xx = none := by rw [upd_ne (Ne.symm n3)]; exact n1
    obtain ⟨st4, e4, f4, F4⟩ := st3.newO (o := .ins (B.cls cn) dx []) n4
    have eall : Ext (hide H1 O1) (hide (upd (upd H1 dx (.own xx)) xx (.ins (B.cls cn) dx [])) (xx :: O2)) := (e2.trans (same_hide eA)).trans e4
    have hr4 := (hr.mono (same_hide eA)).mono e4
    refine ⟨by simp [hlen, hm], xx :: O2, .ins cn [] :: ds, st4.liv, ?_, ?_⟩
    · refine ⟨by simp [hr.length], fun i d hi hd => ?_, fun j hj => ?_⟩
      · cases i with
        | zero => exact absurd rfl hi
        | succ i =>
          obtain ⟨v, h1, h2⟩ := hr4.get (i := i) (d := d) (by simpa using hd)
          exact ⟨v, by simpa using h1, h2⟩
      · cases hj
        exact ⟨xx, _, .ins cn [], rfl, List.mem_cons_self, upd_same, rfl, .ins rfl .nil⟩
    · split at q
      · rename_i io hfn
        rw [hfn]
        intro v H' O' f hrv
        refine ⟨hrv.non_inv, ?_⟩
        have s5 := f.stt st4 f4 F4
        obtain ⟨p, o, h1, h2, h3, h4⟩ := f.own 0 rfl
        simp only [List.getElem?_cons_zero, Option.some.injEq, V.ref.injEq] at h1
        subst h1
        obtain ⟨O6, s6, e6, r6⟩ := s5.thaw h3 f4 F4 h4
        exact q H' O6 s6 ((eall.trans f.same).trans e6) _ r6
      · exact q.elim
      · rename_i x fs io hfn
        rw [hfn]
        intro dd H' O' f hx
        exact q dd H' O' (f.stt st4 f4 F4) (eall.trans f.same) hx
      · exact q.elim
  · exact q.elim
theorem de_make {cn : Str} {f : Addr} {fd : FuncData} (hC : X.mg cn = some (.ref ((bs X).cls cn))) (Mk' : Mk X.K ((bs X).cls cn) f) (hb : Binds X.K fd ps dsv) (G : FnG X.prog X.w X.K X.mg X.base k f fd ps (spD (bs X) (some 0) ps.length fn)) (hr : RmG (k + 1) X.A) (hx : ErrOk X W t) (hd : Vals dvs dsv) (hdd : ∀ G, RepL (bs X) G dvs dds) (ha : DA X W (e :: es) fs) (hn : 1 ≤ ps.length := by decide) (hg : Gl X cn := by rfl)
    (hdb : (cn == ("__debug__" : Str)) = false := by decide) (he : starEach (e :: es) X.env = (false, eval e X.env) :: starEach es X.env := by rfl) (hpl : (backTo pos (starEach es X.env)).any (·.1) = false := by rfl) :
    DE X W (.Call (.Name cn p) (e :: es) [] pos) (dMake cn t (ps.length - 1) dds fn fs) := PE.le (pe_makeG Mk' G hr hg hC hb hd (pass_t hx) ha hdb he hpl) fun σ H Q ⟨c, ρ, O, st, q⟩ => by
  unfold dMake at q
  have q := Po.bind q
  unfold dArgs at q
  refine tAs.step st (Po.bind q) fun rs ρ1 vs H1 O1 st1 e1 hvs q1 => ?_
  obtain ⟨hm, hv2, q2⟩ := args_step st1 hvs hdd q1
  intro xx dx n1 n2 n3
  unfold wE
  cases t with
  | true =>
    rw [if_pos rfl] at q2
    rw [if_pos rfl]
    exact make_sp (by omega) st1 hv2 n1 n2 n3 q2
  | false =>
    rw [if_neg (by decide)] at q2
    rw [if_neg (by decide)]
    exact make_sp (W := fun _ _ _ _ => False) (by omega) st1 hv2 n1 n2 n3 (noX_po q2)
end
end Pu
namespace Pu
open PySem PySem.Spec PyProof.Rows L2 My

/-! ### one rule of several -/
section
variable {X : Cx}
theorem OpR.or {f : Value → Value → Sem Value} {r r' : R2} (h : OpR X f r) (h' : OpR X f r') : OpR X f (fun x y H Q => r x y H Q ∨ r' x y H Q) := fun pins s σ H x y v u Q I rx ry q => q.elim (h pins s σ H x y v u Q I rx ry) (h' pins s σ H x y v u Q I rx ry)
theorem CallR.or {f : Value} {r r' : List V → Hp → VK → Prop} (h : CallR X f r) (h' : CallR X f r') : CallR X f (fun xs H Q => r xs H Q ∨ r' xs H Q) := fun pins s σ H xs us Q I rx q => q.elim (h pins s σ H xs us Q I rx) (h' pins s σ H xs us Q I rx)
theorem IxR.or {r r' : R2} (h : IxR X r) (h' : IxR X r') : IxR X (fun x y H Q => r x y H Q ∨ r' x y H Q) := fun va sl pins s σ H x y v u Q I rx ry q hs => q.elim (fun q => h va sl pins s σ H x y v u Q I rx ry q hs) (fun q => h' va sl pins s σ H x y v u Q I rx ry q hs)
end
/-- two readings of one expression -/
def orF {α : Type} (f g : M α) : M α := fun ρ => match f ρ with
  | .bad => g ρ
  | o => o
theorem DE.or {X : Cx} {W : WX} {e : Expr} {f g : M Rv} (h : DE X W e f) (h' : DE X W e g) : DE X W e (orF f g) := ⟨fun pins s σ H Q I ⟨c, ρ, O, st, q⟩ => by
  unfold orF at q
  cases hf : f ρ with
  | bad => rw [hf] at q; exact h'.run pins s σ H Q I ⟨c, ρ, O, st, q⟩
  | ok a ρ' => rw [hf] at q; exact h.run pins s σ H Q I ⟨c, ρ, O, st, by rw [hf]; exact q⟩
  | ex x fs ρ' => rw [hf] at q; exact h.run pins s σ H Q I ⟨c, ρ, O, st, by rw [hf]; exact q⟩⟩

/-! ### arithmetic -/
def addD : D → D → Option D
  | .int i, .int j => some (.int (i + j))
  | .str a, .str b => if a.length + b.length ≤ sizeLine then some (.str (a ++ b)) else none
  | .lst a, .lst b => if a.length + b.length ≤ sizeLine then some (.lst (a ++ b)) else none
  | .tup a, .tup b => if a.length + b.length ≤ sizeLine then some (.tup (a ++ b)) else none
  | .int i, .bl k => some (.int (i + b2i k))
  | _, _ => none
def subD : D → D → Option D
  | .int i, .int j => some (.int (i - j))
  | _, _ => none
def mulD : D → D → Option D
  | .int i, .int j => if (-(2 ^ 64) < i ∧ i < 2 ^ 64) ∨ (-(2 ^ 64) < j ∧ j < 2 ^ 64) then some (.int (i * j)) else none
  | .lst xs, .int k => if -(2 ^ 63) ≤ k ∧ k < 2 ^ 63 ∧ xs.length * k.toNat ≤ sizeLine then some (.lst (List.replicate k.toNat xs).flatten) else none
  | _, _ => none
def fdivD : D → D → Option D
  | .int i, .int j => if 0 < j ∧ j.natAbs.log2 < 9000 then some (.int (i / j)) else none
  | _, _ => none
def modD : D → D → Option D
  | .int i, .int j => if 0 < j then some (.int (i % j)) else none
  | _, _ => none
def powD : D → D → Option D
  | .int i, .int j => if 0 ≤ j ∧ j ≤ 1000000 ∧ i.natAbs < 2 ^ 64 then some (.int (i ^ j.toNat)) else none
  | _, _ => none
def negD : D → Option D
  | .int i => some (.int (-i))
  | _ => none
section
variable {X : Cx} {W : WX} {a b e : Expr} {fa fb : M Rv} {pos : Pos}
theorem some_if {α : Type} {c : Prop} [Decidable c] {x y : α} (h : (if c then some x else none) = some y) : c ∧ x = y := by
  by_cases hc : c
  · rw [if_pos hc] at h; exact ⟨hc, Option.some.inj h⟩
  · rw [if_neg hc] at h; cases h
theorem new_rep {B : Bs} {H : Hp} {O : List Addr} {Q : VK} {d : D} {o : HO} (hl : Liv H O) (hq : ∀ w H', Same H H' → Rep B (hide H' O) w d → Q w H') (hr : RepO B (hide H O) o d) : ∀ p, H p = none → Q (.ref p) (upd H p o) := fun p hp =>
  hq _ _ (Same.new hp) ((hr.mono (same_hide (Same.new hp))).rep (hide_new hl hp))
theorem new_tup {B : Bs} {H : Hp} {O : List Addr} {Q : VK} {ds : List D} {vs : List V} (hl : Liv H O) (hq : ∀ w H', Same H H' → Rep B (hide H' O) w (.tup ds) → Q w H') (hr : RepL B (hide H O) vs ds) : ∀ p, H p = none → Q (.ref p) (upd H p (.tup vs)) := fun p hp =>
  hq _ _ (Same.new hp) (.tup (.inl (.inl (hide_new hl hp))) (hr.mono (same_hide (Same.new hp))))
theorem opR_add : OpR X (binaryOp .Add) (fun x y H Q => (((rI0 (fun i j => .int (i + j)) x y H Q ∨ (∃ i j, x = .str i ∧ y = .str j ∧ i.length + j.length ≤ sizeLine ∧ Q (.str (i ++ j)) H)) ∨ rCat x y H Q) ∨ rCatA X.K x y H Q) ∨ (∃ i k, x = .int i ∧ y = .bl k ∧ Q (.int (i + b2i k)) H)) := ((((op_add.or op_add_str).or op_cat).or op_catA).or op_add_ib)
theorem opD_add {K : PySem.W.Frag} {w : World} {mg : Str → Option Value} : OpD ⟨K, w, mg⟩ (fun x y H Q => (((rI0 (fun i j => .int (i + j)) x y H Q ∨ (∃ i j, x = .str i ∧ y = .str j ∧ i.length + j.length ≤ sizeLine ∧ Q (.str (i ++ j)) H)) ∨ rCat x y H Q) ∨ rCatA K x y H Q) ∨ (∃ i k, x = .int i ∧ y = .bl k ∧ Q (.int (i + b2i k)) H)) addD := by
  intro v u H O x y d Q hl hx hy hg hq
  unfold addD at hg
  split at hg
  · cases hg
    exact .inl (.inl (.inl (.inl ⟨_, _, hx.int, hy.int, hq _ H (.refl _) (.int _)⟩)))
  · obtain ⟨h1, rfl⟩ := some_if hg
    exact .inl (.inl (.inl (.inr ⟨_, _, hx.str, hy.str, h1, hq _ H (.refl _) (.str _)⟩)))
  · obtain ⟨h1, rfl⟩ := some_if hg
    obtain ⟨a1, xs, rfl, e1, r1⟩ := hx.lst
    obtain ⟨a2, ys, rfl, e2, r2⟩ := hy.lst
    exact .inl (.inl (.inr ⟨_, _, _, _, rfl, rfl, e1, e2, by rw [r1.length, r2.length]; exact h1, new_rep hl hq (.lst (r1.append r2))⟩))
  · obtain ⟨h1, rfl⟩ := some_if hg
    have hx' := hx
    obtain ⟨a1, xs, rfl, e1, r1⟩ := hx.tup
    obtain ⟨a2, ys, rfl, e2, r2⟩ := hy.tup
    refine .inl (.inr ⟨_, _, _, _, rfl, rfl, e1, e2, by rw [r1.length, r2.length]; exact h1, fun z => ?_, fun _ z => ?_, fun _ _ => new_tup hl hq (r1.append r2)⟩)
    · subst z
      cases r1
      rcases hy with hy | ⟨p, o, z, _, q⟩
      · exact hq _ H (.refl _) (by rw [List.nil_append]; exact hy)
      · cases q
    · subst z
      cases r2
      rcases hx' with hx | ⟨p, o, z, _, q⟩
      · exact hq _ H (.refl _) (by rw [List.append_nil]; exact hx)
      · cases q
  · cases hg
    exact .inr ⟨_, _, hx.int, hy.bl, hq _ H (.refl _) (.int _)⟩
  · cases hg
theorem de_add (ha : DE X W a fa) (hb : DE X W b fb) : DE X W (.BinOp a .Add b pos) (d2 addD fa fb) := de_2 (pe_op opR_add ha hb) opD_add
theorem de_sub (ha : DE X W a fa) (hb : DE X W b fb) : DE X W (.BinOp a .Sub b pos) (d2 subD fa fb) := de_2 (pe_op op_sub ha hb) (by
  intro v u H O x y d Q hl hx hy hg hq
  unfold subD at hg
  split at hg
  · cases hg
    exact ⟨_, _, hx.int, hy.int, hq _ H (.refl _) (.int _)⟩
  · cases hg)
theorem de_mul (ha : DE X W a fa) (hb : DE X W b fb) : DE X W (.BinOp a .Mult b pos) (d2 mulD fa fb) := de_2 (pe_op (op_mul.or op_rep) ha hb) (by
  intro v u H O x y d Q hl hx hy hg hq
  unfold mulD at hg
  split at hg
  · obtain ⟨h1, rfl⟩ := some_if hg
    exact .inl ⟨_, _, hx.int, hy.int, h1, hq _ H (.refl _) (.int _)⟩
  · obtain ⟨⟨h1, h2, h3⟩, rfl⟩ := some_if hg
    obtain ⟨a1, xs, rfl, e1, r1⟩ := hx.lst
    refine .inr ⟨_, _, _, rfl, hy.int, e1, h1, h2, by rw [r1.length]; exact h3, new_rep hl hq (.lst ?_)⟩
    rename_i k
    generalize k.toNat = n
    induction n with
    | zero => exact .nil
    | succ n ih =>
      rw [List.replicate_succ, List.replicate_succ, List.flatten_cons, List.flatten_cons]
      exact r1.append ih
  · cases hg)
theorem de_fdiv (ha : DE X W a fa) (hb : DE X W b fb) : DE X W (.BinOp a .FloorDiv b pos) (d2 fdivD fa fb) := de_2 (pe_op op_fdivW ha hb) (by
  intro v u H O x y d Q hl hx hy hg hq
  unfold fdivD at hg
  split at hg
  · obtain ⟨h1, rfl⟩ := some_if hg
    exact ⟨_, _, hx.int, hy.int, h1, hq _ H (.refl _) (.int _)⟩
  · cases hg)
theorem de_mod (ha : DE X W a fa) (hb : DE X W b fb) : DE X W (.BinOp a .Mod b pos) (d2 modD fa fb) := de_2 (pe_op op_mod ha hb) (by
  intro v u H O x y d Q hl hx hy hg hq
  unfold modD at hg
  split at hg
  · obtain ⟨h1, rfl⟩ := some_if hg
    exact ⟨_, _, hx.int, hy.int, h1, hq _ H (.refl _) (.int _)⟩
  · cases hg)
theorem de_pow (ha : DE X W a fa) (hb : DE X W b fb) : DE X W (.BinOp a .Pow b pos) (d2 powD fa fb) := de_2 (pe_op op_pow ha hb) (by
  intro v u H O x y d Q hl hx hy hg hq
  unfold powD at hg
  split at hg
  · obtain ⟨h1, rfl⟩ := some_if hg
    exact ⟨_, _, hx.int, hy.int, h1, hq _ H (.refl _) (.int _)⟩
  · cases hg)
theorem de_neg (ha : DE X W a fa) : DE X W (.UnaryOp .USub a pos) (d1 negD fa) := de_1 (pe_un un_neg ha) (by
  intro v H O x d Q hl hx hg hq
  unfold negD at hg
  split at hg
  · cases hg
    exact ⟨_, hx.int, hq _ H (.refl _) (.int _)⟩
  · cases hg)

/-! ### comparisons -/
def ltI (p : Int → Int → Bool) : D → D → Option D
  | .int i, .int j => some (.bl (p i j))
  | _, _ => none
abbrev ltD := ltI fun i j => decide (i < j)
abbrev leD := ltI fun i j => decide (i ≤ j)
abbrev gtD := ltI fun i j => decide (j < i)
abbrev geD := ltI fun i j => decide (j ≤ i)
theorem opD_I {B : Bs} {p : Int → Int → Bool} : OpD B (rI0 fun i j => .bl (p i j)) (ltI p) := by
  intro v u H O x y d Q hl hx hy hg hq
  unfold ltI at hg
  split at hg
  · cases hg
    exact ⟨_, _, hx.int, hy.int, hq _ H (.refl _) (.bl _)⟩
  · cases hg
theorem de_lt (ha : DE X W a fa) (hb : DE X W b fb) : DE X W (.Compare a [.Lt] [b] pos) (d2 ltD fa fb) := de_2 (pe_cmpR op_lt ha hb (nomark _)) opD_I
theorem de_le (ha : DE X W a fa) (hb : DE X W b fb) : DE X W (.Compare a [.LtE] [b] pos) (d2 leD fa fb) := de_2 (pe_cmpR op_le ha hb (nomark _)) opD_I
theorem de_gt (ha : DE X W a fa) (hb : DE X W b fb) : DE X W (.Compare a [.Gt] [b] pos) (d2 gtD fa fb) := de_2 (pe_cmpR op_gt ha hb (nomark _)) opD_I
theorem de_ge (ha : DE X W a fa) (hb : DE X W b fb) : DE X W (.Compare a [.GtE] [b] pos) (d2 geD fa fb) := de_2 (pe_cmpR op_ge ha hb (nomark _)) opD_I
theorem dt_lt (ha : DE X W a fa) (hb : DE X W b fb) : DT X W (.Compare a [.Lt] [b] pos) (dT2 ltD fa fb) := dt_2 (pt_cmpR op_lt ha hb (nomark _)) opD_I
theorem dt_le (ha : DE X W a fa) (hb : DE X W b fb) : DT X W (.Compare a [.LtE] [b] pos) (dT2 leD fa fb) := dt_2 (pt_cmpR op_le ha hb (nomark _)) opD_I
theorem dt_gt (ha : DE X W a fa) (hb : DE X W b fb) : DT X W (.Compare a [.Gt] [b] pos) (dT2 gtD fa fb) := dt_2 (pt_cmpR op_gt ha hb (nomark _)) opD_I
theorem dt_ge (ha : DE X W a fa) (hb : DE X W b fb) : DT X W (.Compare a [.GtE] [b] pos) (dT2 geD fa fb) := dt_2 (pt_cmpR op_ge ha hb (nomark _)) opD_I
def isN (neg : Bool) : D → D → Option D
  | .non, .non => some (.bl !neg)
  | .ty _, .non => none
  | _, .non => some (.bl neg)
  | _, _ => none
theorem Vw.none_iff {B : Bs} {H : Hp} {O : List Addr} {v : V} {d : D} (h : Vw B H O v d) (hn : d ≠ .non) : v ≠ .non := by
  intro e
  subst e
  have := h.full
  cases this
  exact hn rfl
theorem opD_is {B : Bs} : OpD B (fun x y H Q => y = .non ∧ Q (.bl (decide (x = .non))) H) (isN false) := by
  intro v u H O x y d Q hl hx hy hg hq
  unfold isN at hg
  split at hg
  · cases hg
    refine ⟨hy.non, ?_⟩
    rw [hx.non]
    exact hq _ H (.refl _) (.bl true)
  · cases hg
  · cases hg
    refine ⟨hy.non, ?_⟩
    rw [decide_eq_false (hx.none_iff (by assumption))]
    exact hq _ H (.refl _) (.bl false)
  · cases hg
theorem opD_isnt {B : Bs} : OpD B (fun x y H Q => y = .non ∧ Q (.bl (!decide (x = .non))) H) (isN true) := by
  intro v u H O x y d Q hl hx hy hg hq
  unfold isN at hg
  split at hg
  · cases hg
    refine ⟨hy.non, ?_⟩
    rw [hx.non]
    exact hq _ H (.refl _) (.bl false)
  · cases hg
  · cases hg
    refine ⟨hy.non, ?_⟩
    rw [decide_eq_false (hx.none_iff (by assumption))]
    exact hq _ H (.refl _) (.bl true)
  · cases hg
theorem de_is (ha : DE X W a fa) (hb : DE X W b fb) : DE X W (.Compare a [.Is] [b] pos) (d2 (isN false) fa fb) := de_2 (pe_cmpR op_isN ha hb (nomark _)) opD_is
theorem de_isnt (ha : DE X W a fa) (hb : DE X W b fb) : DE X W (.Compare a [.IsNot] [b] pos) (d2 (isN true) fa fb) := de_2 (pe_cmpR op_notN ha hb (nomark _)) opD_isnt
theorem dt_is (ha : DE X W a fa) (hb : DE X W b fb) : DT X W (.Compare a [.Is] [b] pos) (dT2 (isN false) fa fb) := dt_2 (pt_cmpR op_isN ha hb (nomark _)) opD_is
theorem dt_isnt (ha : DE X W a fa) (hb : DE X W b fb) : DT X W (.Compare a [.IsNot] [b] pos) (dT2 (isN true) fa fb) := dt_2 (pt_cmpR op_notN ha hb (nomark _)) opD_isnt
/-! data without instances and dicts -/
mutual
def toP : D → Option PyData
  | .non => some .none
  | .bl b => some (.bool b)
  | .int i => some (.int i)
  | .str s => some (.str s)
  | .tup xs => (toPs xs).map .tuple
  | .lst xs => (toPs xs).map .list
  | _ => none
def toPs : List D → Option (List PyData)
  | [] => some []
  | x :: xs => match toP x, toPs xs with
    | some p, some ps => some (p :: ps)
    | _, _ => none
end
mutual
theorem rep_dp {B : Bs} {H : Hp} : ∀ (d : D) (v : V) (p : PyData), Rep B H v d → toP d = some p → Dp B.K H v p
  | .non, v, p, h, e => by cases h; simp only [toP] at e; cases e; exact .non
  | .bl b, v, p, h, e => by cases h; simp only [toP] at e; cases e; exact .bl b
  | .int b, v, p, h, e => by cases h; simp only [toP] at e; cases e; exact .int b
  | .str b, v, p, h, e => by cases h; simp only [toP] at e; cases e; exact .str b
  | .tup xs, v, p, h, e => by
    cases h with
    | tup s r =>
    simp only [toP] at e
    cases hp : toPs xs with
    | none => rw [hp] at e; cases e
    | some ps =>
      rw [hp] at e
      cases e
      exact .tup s (repl_dp xs _ ps r hp)
  | .lst xs, v, p, h, e => by
    cases h with
    | lst s r =>
    simp only [toP] at e
    cases hp : toPs xs with
    | none => rw [hp] at e; cases e
    | some ps =>
      rw [hp] at e
      cases e
      exact .lst (.inl (.inl s)) (repl_dp xs _ ps r hp)
  | .dK _, v, p, h, e => by simp only [toP] at e; cases e
  | .dT _, v, p, h, e => by simp only [toP] at e; cases e
  | .kd _, v, p, h, e => by simp only [toP] at e; cases e
  | .ins _ _, v, p, h, e => by simp only [toP] at e; cases e
  | .scr _, v, p, h, e => by simp only [toP] at e; cases e
  | .ty _, v, p, h, e => by simp only [toP] at e; cases e
  | .cl _, v, p, h, e => by simp only [toP] at e; cases e
theorem repl_dp {B : Bs} {H : Hp} : ∀ (ds : List D) (vs : List V) (ps : List PyData), RepL B H vs ds → toPs ds = some ps → DpAll B.K H vs ps
  | [], vs, ps, h, e => by cases h; simp only [toPs] at e; cases e; exact .nil
  | d :: ds, vs, ps, h, e => by
    cases h with
    | cons h t =>
    simp only [toPs] at e
    cases h1 : toP d with
    | none => rw [h1] at e; cases e
    | some p =>
      cases h2 : toPs ds with
      | none => rw [h1, h2] at e; cases e
      | some qs =>
        rw [h1, h2] at e
        cases e
        exact .cons (rep_dp d _ p h h1) (repl_dp ds _ qs t h2)
end
def scalD : D → D → Bool
  | .non, .non => true | .non, .int _ => true | .int _, .non => true | .non, .bl _ => true | .bl _, .non => true | .non, .str _ => true | .str _, .non => true
  | .int _, .int _ => true | .bl _, .bl _ => true | .str _, .str _ => true | .int _, .str _ => true | .str _, .int _ => true | .bl _, .str _ => true | .str _, .bl _ => true
  | _, _ => false
def sameS : D → D → Bool
  | .non, .non => true
  | .int i, .int j => decide (i = j)
  | .bl i, .bl j => decide (i = j)
  | .str i, .str j => decide (i = j)
  | _, _ => false
def eqB (x y : D) : Option Bool := if scalD x y = true then some (sameS x y) else match toP x, toP y with
  | some p, some q => if SeqAt.shaped p = true ∧ SeqAt.shaped q = true then some (PyData.eqv p q) else none
  | _, _ => none
def eqD (x y : D) : Option D := (eqB x y).map .bl
def neD (x y : D) : Option D := (eqB x y).map fun b => .bl !b
theorem eqB_cases {x y : D} {b : Bool} (h : eqB x y = some b) : (scalD x y = true ∧ b = sameS x y) ∨ ∃ p q, toP x = some p ∧ toP y = some q ∧ SeqAt.shaped p = true ∧ SeqAt.shaped q = true ∧ b = PyData.eqv p q := by
  unfold eqB at h
  split at h
  · cases h
    exact .inl ⟨by assumption, rfl⟩
  · split at h
    · rename_i p q h1 h2
      obtain ⟨⟨h3, h4⟩, rfl⟩ := some_if h
      exact .inr ⟨p, q, h1, h2, h3, h4, rfl⟩
    · cases h
theorem scal_ok {B : Bs} {H : Hp} {O : List Addr} {v u : V} {x y : D} (hx : Vw B H O v x) (hy : Vw B H O u y) (h : scalD x y = true) : scal v u = true ∧ decide (v = u) = sameS x y := by
  have h1 := hx.full
  have h2 := hy.full
  cases x <;> cases y <;> simp only [scalD] at h <;> first | (cases h; done) | (cases h1; cases h2; refine ⟨rfl, ?_⟩; first | rfl | (simp [sameS]; done) | (exact decide_eq_false (by intro z; cases z)))
theorem opD_eq {B : Bs} : OpD B (fun x y H Q => rEq x y H Q ∨ rEqD B.K x y H Q) eqD := by
  intro v u H O x y d Q hl hx hy hg hq
  unfold eqD at hg
  cases he : eqB x y with
  | none => rw [he] at hg; cases hg
  | some b =>
    rw [he] at hg
    cases hg
    rcases eqB_cases he with ⟨h1, rfl⟩ | ⟨p, q, h1, h2, h3, h4, rfl⟩
    · obtain ⟨h2, h3⟩ := scal_ok hx hy h1
      refine .inl ⟨h2, ?_⟩
      rw [h3]
      exact hq _ H (.refl _) (.bl _)
    · exact .inr ⟨p, q, rep_dp x _ p hx.full h1, rep_dp y _ q hy.full h2, h3, h4, hq _ H (.refl _) (.bl _)⟩
theorem opD_ne {B : Bs} : OpD B (fun x y H Q => rNe x y H Q ∨ rNeD B.K x y H Q) neD := by
  intro v u H O x y d Q hl hx hy hg hq
  unfold neD at hg
  cases he : eqB x y with
  | none => rw [he] at hg; cases hg
  | some b =>
    rw [he] at hg
    cases hg
    rcases eqB_cases he with ⟨h1, rfl⟩ | ⟨p, q, h1, h2, h3, h4, rfl⟩
    · obtain ⟨h2, h3⟩ := scal_ok hx hy h1
      refine .inl ⟨h2, ?_⟩
      rw [h3]
      exact hq _ H (.refl _) (.bl _)
    · exact .inr ⟨p, q, rep_dp x _ p hx.full h1, rep_dp y _ q hy.full h2, h3, h4, hq _ H (.refl _) (.bl _)⟩
theorem RmG.u64 {k : Nat} {A : Around} (r : RmG k A) : A.units + 64 < cLine := by have := r.rm.un; omega
theorem RmG.u65 {k : Nat} {A : Around} (r : RmG k A) : A.units + 65 < cLine := by have := r.rm.un; omega
theorem RmG.u1 {k : Nat} {A : Around} (r : RmG k A) : A.units + 1 < cLine := by have := r.rm.un; omega
theorem de_eq {k : Nat} (hr : RmG k X.A) (ha : DE X W a fa) (hb : DE X W b fb) : DE X W (.Compare a [.Eq] [b] pos) (d2 eqD fa fb) := de_2 (pe_cmpR (op_eq.or (op_eqD hr.u64)) ha hb (nomark _)) opD_eq
theorem de_ne {k : Nat} (hr : RmG k X.A) (ha : DE X W a fa) (hb : DE X W b fb) : DE X W (.Compare a [.NotEq] [b] pos) (d2 neD fa fb) := de_2 (pe_cmpR (op_ne.or (op_neD hr.u64)) ha hb (nomark _)) opD_ne
theorem dt_eq {k : Nat} (hr : RmG k X.A) (ha : DE X W a fa) (hb : DE X W b fb) : DT X W (.Compare a [.Eq] [b] pos) (dT2 eqD fa fb) := dt_2 (pt_cmpR (op_eq.or (op_eqD hr.u64)) ha hb (nomark _)) opD_eq
theorem dt_ne {k : Nat} (hr : RmG k X.A) (ha : DE X W a fa) (hb : DE X W b fb) : DT X W (.Compare a [.NotEq] [b] pos) (dT2 neD fa fb) := dt_2 (pt_cmpR (op_ne.or (op_neD hr.u64)) ha hb (nomark _)) opD_ne
end
end Pu
namespace Pu
open PySem PySem.Spec PyProof.Rows L2 My

/-! ### keys -/
def keyD : D → Option Key
  | .int i => some (.inl i)
  | .str s => some (.inr s)
  | _ => none
def keysD : List D → Option (List Key)
  | [] => some []
  | d :: ds => match keyD d, keysD ds with
    | some k, some ks => some (k :: ks)
    | _, _ => none
def valD {κ : Type} [DecidableEq κ] (kvs : List (κ × D)) (k : κ) : Option D := match kvs with
  | [] => none
  | (k', d) :: r => if k' = k then some d else valD r k
/-- in its place, or at the end -/
def putD {κ : Type} [DecidableEq κ] (kvs : List (κ × D)) (k : κ) (d : D) : List (κ × D) :=
  if (kvs.any fun kv => decide (kv.1 = k)) = true then kvs.map (fun kv => if kv.1 = k then (kv.1, d) else kv) else kvs ++ [(k, d)]
section
variable {B : Bs} {G H : Hp} {O : List Addr}
theorem keyD_ok {v : V} {d : D} {k : Key} (h : Rep B G v d) (e : keyD d = some k) : v = kV k := by
  cases d <;> simp only [keyD] at e <;> first | (cases e; done) | (cases e; cases h; rfl)
theorem keysD_ok : ∀ {vs : List V} {ds : List D} {ks : List Key}, RepL B G vs ds → keysD ds = some ks → vs = ks.map kV
  | _, _, ks, .nil, e => by simp only [keysD] at e; cases e; rfl
  | _, _, ks, .cons (d := d) (ds := ds) h t, e => by
    simp only [keysD] at e
    cases h1 : keyD d with
    | none => rw [h1] at e; cases e
    | some k =>
      cases h2 : keysD ds with
      | none => rw [h1, h2] at e; cases e
      | some ks' =>
        rw [h1, h2] at e
        cases e
        rw [keyD_ok h h1, keysD_ok t h2]
        rfl
theorem valD_ok {κ : Type} [DecidableEq κ] : ∀ {kvs : List (κ × V)} {ds : List (κ × D)} {k : κ} {d : D}, kvs.map (·.1) = ds.map (·.1) → RepL B G (kvs.map (·.2)) (ds.map (·.2)) → valD ds k = some d → ∃ v, valV kvs k = some v ∧ Rep B G v d
  | [], [], k, d, _, _, e => by simp [valD] at e
  | [], _ :: _, k, d, h, _, _ => by simp at h
  | _ :: _, [], k, d, h, _, _ => by simp at h
  | (k1, v1) :: kvs, (k2, d2) :: ds, k, d, h, r, e => by
    simp only [List.map_cons, List.cons.injEq] at h
    obtain ⟨rfl, h⟩ := h
    cases r with
    | cons r1 r2 =>
    simp only [valD] at e
    by_cases hk : k1 = k
    · rw [if_pos hk] at e
      cases e
      exact ⟨v1, valV_pos hk, r1⟩
    · rw [if_neg hk] at e
      obtain ⟨v, h1, h2⟩ := valD_ok h r2 e
      exact ⟨v, by simpa [valV, List.find?_cons, hk] using h1, h2⟩
theorem valD_none {κ : Type} [DecidableEq κ] : ∀ {kvs : List (κ × V)} {ds : List (κ × D)} {k : κ}, kvs.map (·.1) = ds.map (·.1) → valD ds k = none → valV kvs k = none
  | [], [], k, _, _ => rfl
  | [], _ :: _, k, h, _ => by simp at h
  | _ :: _, [], k, h, _ => by simp at h
  | (k1, v1) :: kvs, (k2, d2) :: ds, k, h, e => by
    simp only [List.map_cons, List.cons.injEq] at h
    obtain ⟨rfl, h⟩ := h
    simp only [valD] at e
    by_cases hk : k1 = k
    · rw [if_pos hk] at e; cases e
    · rw [if_neg hk] at e
      have := valD_none h e
      simpa [valV, List.find?_cons, hk] using this
theorem repl_mid {κ : Type} [DecidableEq κ] (k : κ) (v : V) (d : D) (r : Rep B G v d) : ∀ {kvs : List (κ × V)} {ds : List (κ × D)}, kvs.map (·.1) = ds.map (·.1) → RepL B G (kvs.map (·.2)) (ds.map (·.2)) →
    (kvs.map (fun kv => if kv.1 = k then (kv.1, v) else kv)).map (·.1) = (ds.map (fun kv => if kv.1 = k then (kv.1, d) else kv)).map (·.1) ∧ RepL B G ((kvs.map (fun kv => if kv.1 = k then (kv.1, v) else kv)).map (·.2)) ((ds.map (fun kv => if kv.1 = k then (kv.1, d) else kv)).map (·.2))
  | [], [], _, _ => ⟨rfl, .nil⟩
  | [], _ :: _, h, _ => by simp at h
  | _ :: _, [], h, _ => by simp at h
  | (k1, v1) :: kvs, (k2, d2) :: ds, h, hr => by
    simp only [List.map_cons, List.cons.injEq] at h
    obtain ⟨rfl, h⟩ := h
    cases hr with
    | cons r1 r2 =>
    obtain ⟨i1, i2⟩ := repl_mid k v d r h r2
    by_cases hk : k1 = k
    · simp only [List.map_cons, if_pos hk]
      exact ⟨by rw [i1], .cons r i2⟩
    · simp only [List.map_cons, if_neg hk]
      exact ⟨by rw [i1], .cons r1 i2⟩
theorem any_keys {κ : Type} [DecidableEq κ] {kvs : List (κ × V)} {ds : List (κ × D)} (k : κ) (h : kvs.map (·.1) = ds.map (·.1)) : (kvs.any fun kv => decide (kv.1 = k)) = (ds.any fun kv => decide (kv.1 = k)) := by
  have e1 : (kvs.any fun kv => decide (kv.1 = k)) = (kvs.map (·.1)).any fun z => decide (z = k) := by rw [List.any_map]; rfl
  have e2 : (ds.any fun kv => decide (kv.1 = k)) = (ds.map (·.1)).any fun z => decide (z = k) := by rw [List.any_map]; rfl
  rw [e1, e2, h]
theorem putK_map {κ : Type} [DecidableEq κ] (k : κ) (v : V) (d : D) (r : Rep B G v d) {kvs : List (κ × V)} {ds : List (κ × D)} (h : kvs.map (·.1) = ds.map (·.1)) (hr : RepL B G (kvs.map (·.2)) (ds.map (·.2))) :
    (putK kvs k v).map (·.1) = (putD ds k d).map (·.1) ∧ RepL B G ((putK kvs k v).map (·.2)) ((putD ds k d).map (·.2)) := by
  unfold putK putD
  rw [any_keys k h]
  split
  · exact repl_mid k v d r h hr
  · refine ⟨by simp [h], ?_⟩
    rw [List.map_append, List.map_append]
    exact hr.append (.cons r .nil)
theorem atI_ok {vs : List V} {ds : List D} {i : Int} {d : D} (r : RepL B G vs ds) (e : atI ds i = some d) : ∃ v, atI vs i = some v ∧ Rep B G v d := by
  unfold atI at e ⊢
  rw [r.length]
  cases h : ixN ds.length i with
  | none => rw [h] at e; cases e
  | some j =>
    rw [h] at e
    exact r.get e
end

/-! ### a[i] -/
def ixD : D → D → Option D
  | .lst xs, .int i => atI xs i
  | .tup xs, .int i => atI xs i
  | .str z, .int i => if z.length ≤ sizeLine then (atI z.cps.toList i).map fun c => .str ⟨#[c]⟩ else none
  | .dK kvs, k => match keyD k with
    | some k => valD kvs k
    | none => none
  | .kd kvs, k => match keyD k with
    | some k => valD kvs k
    | none => none
  | _, _ => none
section
variable {X : Cx} {W : WX} {a b e : Expr} {es : List Expr} {fa fb : M Rv} {fs : M (List Rv)} {pos p : Pos} {k : Nat}
theorem ix_dk (hu : X.A.units + 1 < cLine) : IxR X (fun x y H Q => ∃ a v, x = .ref a ∧ DGet H a y (some v) ∧ Q v H) := by
  intro value slice pins s σ H x y v u Q I rx ry h hs
  obtain ⟨a, r, rfl, g, q⟩ := h
  obtain rfl : v = Value.ref a := rx
  exact tail_any (dict_typeIs I g) PySem.F.slot_dict_getitem.lookup (d_getItem hu I g ry fun w' s3 I3 rw' => ⟨r, H, I3, rw', q⟩) hs
theorem de_ix (hr : RmG k X.A) (ha : DE X W a fa) (hb : DE X W b fb) (hs : PlainIx b := by exact fun _ _ => rfl) : DE X W (.Subscript a b pos) (d2 ixD fa fb) := de_2 (pe_ix ((((ix_list.or ix_tup).or ix_str).or ix_kd).or (ix_dk hr.u1)) ha hb hs) (by
  intro v u H O x y d Q hl hx hy hg hq
  unfold ixD at hg
  split at hg
  · obtain ⟨a1, xs, rfl, e1, r1⟩ := hx.lst
    obtain ⟨v, h1, h2⟩ := atI_ok r1 hg
    exact .inl (.inl (.inl (.inl ⟨_, _, _, _, rfl, hy.int, .inl (.inl e1), h1, hq _ H (.refl _) h2⟩)))
  · obtain ⟨a1, xs, rfl, e1, r1⟩ := hx.tup
    obtain ⟨v, h1, h2⟩ := atI_ok r1 hg
    exact .inl (.inl (.inl (.inr ⟨_, _, _, _, rfl, hy.int, e1, h1, hq _ H (.refl _) h2⟩)))
  · rename_i z i
    by_cases hz : z.length ≤ sizeLine
    · rw [if_pos hz] at hg
      cases hc : atI z.cps.toList i with
      | none => rw [hc] at hg; cases hg
      | some c =>
        rw [hc] at hg
        cases hg
        exact .inl (.inl (.inr ⟨_, _, _, hx.str, hy.int, hz, hc, hq _ H (.refl _) (.str _)⟩))
    · rw [if_neg hz] at hg; cases hg
  · obtain ⟨a1, kvs, rfl, e1, k1, r1⟩ := hx.dK
    split at hg
    · rename_i k hk
      obtain ⟨v, h1, h2⟩ := valD_ok k1 r1 hg
      refine .inr ⟨_, _, rfl, .inl ⟨kvs, k, e1, keyD_ok hy.full hk, h1.symm⟩, hq _ H (.refl _) h2⟩
    · cases hg
  · obtain ⟨a1, kvs, rfl, e1, k1, r1⟩ := hx.kd
    split at hg
    · rename_i k hk
      obtain ⟨v, h1, h2⟩ := valD_ok k1 r1 hg
      exact .inl (.inr ⟨_, _, k, _, rfl, e1, keyD_ok hy.full hk, h1, hq _ H (.refl _) h2⟩)
    · cases hg
  · cases hg)

/-! ### fields -/
def fldD (f : Str) : D → Option D
  | .ins _ fs => fs.lookup f
  | _ => none
theorem lookup_ok {B : Bs} {G : Hp} : ∀ {fs : List (Str × V)} {ds : List (Str × D)} {f : Str} {d : D}, fs.map (·.1) = ds.map (·.1) → RepL B G (fs.map (·.2)) (ds.map (·.2)) → ds.lookup f = some d → ∃ v, fs.lookup f = some v ∧ Rep B G v d
  | [], [], f, d, _, _, e => by simp at e
  | [], _ :: _, f, d, h, _, _ => by simp at h
  | _ :: _, [], f, d, h, _, _ => by simp at h
  | (k1, v1) :: kvs, (k2, d2) :: ds, f, d, h, r, e => by
    simp only [List.map_cons, List.cons.injEq] at h
    obtain ⟨rfl, h⟩ := h
    cases r with
    | cons r1 r2 =>
    rw [List.lookup_cons] at e ⊢
    cases hf : f == k1 with
    | true => rw [hf] at e; simp only at e ⊢; cases e; exact ⟨v1, rfl, r1⟩
    | false => rw [hf] at e; simp only at e ⊢; exact lookup_ok h r2 e
/-- the fields that an own class lets be read and stored -/
def FldOk (K : PySem.W.Frag) (mg : Str → Option Value) (cs : List Str) (f : Str) : Prop := ∀ c ∈ cs, Cls K (My.fa mg c) ∧ NoAttr K (My.fa mg c) f
def fldC (cs : List Str) (f : Str) : D → Option D
  | .ins c fs => if c ∈ cs then fs.lookup f else none
  | _ => none
theorem de_fld {f : Str} {cs : List Str} (hf : FldOk X.K X.mg cs f) (ha : DE X W a fa) (hb : attributeBase a f X.env (eval a X.env) = eval a X.env := by rfl) : DE X W (.Attribute a f pos) (d1 (fldC cs f) fa) := PE.le (pe_fld ha hb) fun σ H Q ⟨c, ρ, O, st, q⟩ => by
  unfold d1 at q
  refine tP.step st (Po.bind q) fun r1 ρ1 v H1 O1 st1 e1 hv q1 => ?_
  split at q1
  · rename_i x hx
    have hw := st1.vw hv hx
    cases x <;> simp only [fldC, out] at q1 <;> try (exact q1.elim)
    rename_i cn fs
    by_cases hc : cn ∈ cs
    · rw [if_pos hc] at q1
      obtain ⟨a1, dx, gs, rfl, hH, hk, hr⟩ := hw.ins
      cases hl : fs.lookup f with
      | none => rw [hl] at q1; exact q1.elim
      | some d =>
        rw [hl] at q1
        obtain ⟨v, h1, h2⟩ := lookup_ok hk hr hl
        exact ⟨a1, _, dx, gs, v, rfl, hH, (hf cn hc).1, (hf cn hc).2, h1, q1 H1 O1 st1 (.refl _) v h2⟩
    · rw [if_neg hc] at q1
      exact q1.elim
  · exact q1.elim
/-- x.f = e, x an owned instance -/
def putFD (f : Str) (d : D) : List (Str × D) → List (Str × D)
  | [] => [(f, d)]
  | (g, x) :: r => if g = f then (g, d) :: r else (g, x) :: putFD f d r
theorem putF_ok {B : Bs} {G : Hp} {f : Str} {v : V} {d : D} (r : Rep B G v d) : ∀ {fs : List (Str × V)} {ds : List (Str × D)}, fs.map (·.1) = ds.map (·.1) → RepL B G (fs.map (·.2)) (ds.map (·.2)) → (putF f v fs).map (·.1) = (putFD f d ds).map (·.1) ∧ RepL B G ((putF f v fs).map (·.2)) ((putFD f d ds).map (·.2))
  | [], [], _, _ => ⟨rfl, .cons r .nil⟩
  | [], _ :: _, h, _ => by simp at h
  | _ :: _, [], h, _ => by simp at h
  | (k1, v1) :: kvs, (k2, d2) :: ds, h, hr => by
    simp only [List.map_cons, List.cons.injEq] at h
    obtain ⟨rfl, h⟩ := h
    cases hr with
    | cons r1 r2 =>
    simp only [putF, putFD]
    by_cases hk : k1 = f
    · rw [if_pos hk, if_pos hk]
      exact ⟨by simp [h], .cons r r2⟩
    · rw [if_neg hk, if_neg hk]
      obtain ⟨h1, h2⟩ := putF_ok r h r2
      exact ⟨by simp [h1], .cons r1 h2⟩
def dFld (cn f : Str) (i : Nat) (fv : M Rv) : SM := fun ρ => (fv ρ).then fun r ρ1 => match esc ρ1 r with
  | some (d, ρ2) => match ρ2[i]? with
    | some (some (k, .ins c fs)) => if k ≠ .val ∧ c = cn ∧ fs.length < 1000 then .nx (ρ2.set i (some (k, .ins c (putFD f d fs)))) else .bad
    | _ => .bad
  | none => .bad
theorem ds_fld {cn f : Str} {i : Nat} {x : Str} {fv : M Rv} {pos' : Pos} {ps : Pos} {value : Expr} (hf : FldOk X.K X.mg [cn] f) (hx : PE X (.Name x ps) (tVar i)) (hv : DE X W value fv) (hs : swapsWith value (some (.Attribute (.Name x ps) f pos')) pos.line X.env = pure false := by rfl) : DS X W (.Assign [.Attribute (.Name x ps) f pos'] value pos) (dFld cn f i fv) := PS.le (ps_fld hx hv hs) fun E σ H ⟨c, ρ, O, st, q⟩ => by
  unfold dFld at q
  refine tP.step st (SPo.then q) fun r ρ1 v H1 O1 st1 e1 hvv q1 => ?_
  split at q1
  · rename_i d ρ2 he
    obtain ⟨O2, st2, e2, hr⟩ := st1.esc hvv he
    split at q1
    · rename_i k c' fs' hi
      split at q1
      · rename_i hc
        obtain ⟨hk, rfl, hlen⟩ := hc
        obtain ⟨p0, o0, z1, z2, z3, z4, z5⟩ := st2.own i k _ hi hk
        cases z5 with
        | ins kk rr =>
          rename_i dx gs
          refine ⟨_, z1, p0, _, dx, gs, rfl, z4, (hf c' (by simp)).1, (hf c' (by simp)).2, ?_, ?_⟩
          · have := congrArg List.length kk
            simp only [List.length_map] at this
            omega
          · obtain ⟨h1, h2⟩ := putF_ok (f := f) hr kk rr
            have s3 := st2.mut (o := .ins ((bs X).cls c') dx (putF f v gs)) hi hk z1 (.ins h1 h2)
            refine q1 σ _ O2 s3 ?_
            rw [hide_upd z2]
            exact e2
      · exact q1.elim
    · exact q1.elim
  · exact q1.elim
end

/-! ### len, int, abs .. -/
def one1 (g : D → Option D) : List D → Option D
  | [d] => g d
  | _ => none
def lenD : D → Option D
  | .lst xs => some (.int xs.length)
  | .tup xs => some (.int xs.length)
  | .str z => if z.length ≤ sizeLine then some (.int z.length) else none
  | .scr xs => some (.int xs.length)
  | .dK xs => some (.int xs.length)
  | _ => none
def intD : D → Option D
  | .int i => some (.int i)
  | .bl k => some (.int (if k then 1 else 0))
  | _ => none
def absD : D → Option D
  | .int i => some (.int (if i < 0 then -i else i))
  | _ => none
def listD : D → Option D
  | .lst xs => some (.lst xs)
  | .tup xs => some (.lst xs)
  | _ => none
def tupleD : D → Option D
  | .lst xs => some (.tup xs)
  | .tup xs => some (.tup xs)
  | _ => none
def two2 (g : D → D → Option D) : List D → Option D
  | [x, y] => g x y
  | _ => none
def maxI : D → D → Option D
  | .int i, .int j => some (.int (if j > i then j else i))
  | _, _ => none
def minI : D → D → Option D
  | .int i, .int j => some (.int (if j < i then j else i))
  | _, _ => none
section
variable {X : Cx} {W : WX} {e : Expr} {es : List Expr} {fs : M (List Rv)} {pos p : Pos} {k : Nat}
theorem callD_1 {B : Bs} {r : List V → Hp → VK → Prop} {g : D → Option D} (h : ∀ v H O x d Q, Liv H O → Vw B H O v x → g x = some d → (∀ w H', Same H H' → Rep B (hide H' O) w d → Q w H') → r [v] H Q) : CallD B r (one1 g) := fun vs H O ds d Q hl hp hg hq => by
  cases hp with
  | nil => simp only [one1] at hg; cases hg
  | cons h1 t =>
    cases t with
    | nil => exact h _ H O _ d Q hl h1 hg hq
    | cons _ _ => simp only [one1] at hg; cases hg
theorem callD_2 {B : Bs} {r : List V → Hp → VK → Prop} {g : D → D → Option D} (h : ∀ v u H O x y d Q, Liv H O → Vw B H O v x → Vw B H O u y → g x y = some d → (∀ w H', Same H H' → Rep B (hide H' O) w d → Q w H') → r [v, u] H Q) : CallD B r (two2 g) := fun vs H O ds d Q hl hp hg hq => by
  cases hp with
  | nil => simp only [two2] at hg; cases hg
  | cons h1 t =>
    cases t with
    | nil => simp only [two2] at hg; cases hg
    | cons h2 t =>
      cases t with
      | nil => exact h _ _ H O _ _ d Q hl h1 h2 hg hq
      | cons _ _ => simp only [two2] at hg; cases hg
theorem call_lenR : CallR X (.builtin "len") (fun xs H Q => ∃ a kvs, xs = [V.ref a] ∧ Rd H a (.dK kvs) ∧ Q (.int kvs.length) H) := by
  intro pins s σ H xs us Q I r h
  obtain ⟨a, kvs, rfl, hz, q⟩ := h
  obtain ⟨u, rfl, ru⟩ := vals1 r
  cases ru
  exact d_len I hz fun t s' I' => ⟨.int kvs.length, H, I', ⟨t, rfl⟩, q⟩
theorem de_len (hm : X.mg "len" = none) (ha : DA X W (e :: es) fs) (hg : Gl X "len" := by rfl) (he : starEach (e :: es) X.env = (false, eval e X.env) :: starEach es X.env := by rfl) (hpl : (backTo pos (starEach es X.env)).any (·.1) = false := by rfl) : DE X W (.Call (.Name "len" p) (e :: es) [] pos) (dN (one1 lenD) fs) :=
  de_N (pe_callB ((call_len_seq.or call_len_str).or call_lenR) hg hm PySem.boot_len ha (by decide) (by decide) he hpl) (callD_1 (by
    intro v H O x d Q hl hx hg hq
    unfold lenD at hg
    split at hg
    · cases hg
      obtain ⟨a1, xs, rfl, e1, r1⟩ := hx.lst
      refine .inl (.inl ⟨_, _, rfl, .inl (.inl (.inl e1)), ?_⟩)
      rw [r1.length]
      exact hq _ H (.refl _) (.int _)
    · cases hg
      obtain ⟨a1, xs, rfl, e1, r1⟩ := hx.tup
      refine .inl (.inl ⟨_, _, rfl, .inr e1, ?_⟩)
      rw [r1.length]
      exact hq _ H (.refl _) (.int _)
    · obtain ⟨h1, rfl⟩ := some_if hg
      exact .inl (.inr ⟨_, by rw [hx.str], h1, hq _ H (.refl _) (.int _)⟩)
    · cases hg
      obtain ⟨a1, rfl, e1⟩ := hx.scr
      refine .inl (.inl ⟨_, _, rfl, .inl e1, ?_⟩)
      rw [List.length_map]
      exact hq _ H (.refl _) (.int _)
    · rename_i kvs
      cases hg
      obtain ⟨a1, kvs', rfl, e1, k1, r1⟩ := hx.dK
      refine .inr ⟨_, _, rfl, e1, ?_⟩
      have : kvs'.length = kvs.length := by
        have := congrArg List.length k1
        simpa using this
      rw [this]
      exact hq _ H (.refl _) (.int _)
    · cases hg))
theorem de_int (hm : X.mg "int" = none) (ha : DA X W (e :: es) fs) (hg : Gl X "int" := by rfl) (he : starEach (e :: es) X.env = (false, eval e X.env) :: starEach es X.env := by rfl) (hpl : (backTo pos (starEach es X.env)).any (·.1) = false := by rfl) : DE X W (.Call (.Name "int" p) (e :: es) [] pos) (dN (one1 intD) fs) :=
  de_N (pe_callTy call_int1 hg hm (by decide +kernel) ha (by decide) (by decide) he hpl) (callD_1 (by
    intro v H O x d Q hl hx hg hq
    unfold intD at hg
    split at hg
    · cases hg
      exact .inl ⟨_, by rw [hx.int], hq _ H (.refl _) (.int _)⟩
    · cases hg
      exact .inr ⟨_, by rw [hx.bl], hq _ H (.refl _) (.int _)⟩
    · cases hg))
theorem de_abs (hm : X.mg "abs" = none) (ha : DA X W (e :: es) fs) (hg : Gl X "abs" := by rfl) (he : starEach (e :: es) X.env = (false, eval e X.env) :: starEach es X.env := by rfl) (hpl : (backTo pos (starEach es X.env)).any (·.1) = false := by rfl) : DE X W (.Call (.Name "abs" p) (e :: es) [] pos) (dN (one1 absD) fs) :=
  de_N (pe_callB call_abs hg hm (by decide +kernel) ha (by decide) (by decide) he hpl) (callD_1 (by
    intro v H O x d Q hl hx hg hq
    unfold absD at hg
    split at hg
    · cases hg
      exact ⟨_, by rw [hx.int], hq _ H (.refl _) (.int _)⟩
    · cases hg))
theorem de_tuple (hm : X.mg "tuple" = none) (ha : DA X W (e :: es) fs) (hg : Gl X "tuple" := by rfl) (he : starEach (e :: es) X.env = (false, eval e X.env) :: starEach es X.env := by rfl) (hpl : (backTo pos (starEach es X.env)).any (·.1) = false := by rfl) : DE X W (.Call (.Name "tuple" p) (e :: es) [] pos) (dN (one1 tupleD) fs) :=
  de_N (pe_callTy call_tuple_of hg hm (by decide +kernel) ha (by decide) (by decide) he hpl) (callD_1 (by
    intro v H O x d Q hl hx hg hq
    unfold tupleD at hg
    split at hg
    · cases hg
      obtain ⟨a1, xs, rfl, e1, r1⟩ := hx.lst
      exact ⟨_, _, rfl, .inl ⟨.inl (.inl e1), new_tup hl hq r1⟩⟩
    · cases hg
      have hx' := hx
      obtain ⟨a1, xs, rfl, e1, r1⟩ := hx.tup
      refine ⟨_, _, rfl, .inr ⟨e1, ?_⟩⟩
      rcases hx' with hx | ⟨p, o, z, _, q⟩
      · exact hq _ H (.refl _) hx
      · cases q
    · cases hg))
theorem de_max2 (hm : X.mg "max" = none) (hc : X.calm = true) (ha : DA X W (e :: es) fs) (hg : Gl X "max" := by rfl) (he : starEach (e :: es) X.env = (false, eval e X.env) :: starEach es X.env := by rfl) (hpl : (backTo pos (starEach es X.env)).any (·.1) = false := by rfl) : DE X W (.Call (.Name "max" p) (e :: es) [] pos) (dN (two2 maxI) fs) :=
  de_N (pe_callB (call_max2 hc) hg hm (by decide +kernel) ha (by decide) (by decide) he hpl) (callD_2 (by
    intro v u H O x y d Q hl hx hy hg hq
    unfold maxI at hg
    split at hg
    · cases hg
      exact ⟨_, _, by rw [hx.int, hy.int], hq _ H (.refl _) (.int _)⟩
    · cases hg))
theorem de_min2 (hm : X.mg "min" = none) (hc : X.calm = true) (ha : DA X W (e :: es) fs) (hg : Gl X "min" := by rfl) (he : starEach (e :: es) X.env = (false, eval e X.env) :: starEach es X.env := by rfl) (hpl : (backTo pos (starEach es X.env)).any (·.1) = false := by rfl) : DE X W (.Call (.Name "min" p) (e :: es) [] pos) (dN (two2 minI) fs) :=
  de_N (pe_callB (call_min2 hc) hg hm (by decide +kernel) ha (by decide) (by decide) he hpl) (callD_2 (by
    intro v u H O x y d Q hl hx hy hg hq
    unfold minI at hg
    split at hg
    · cases hg
      exact ⟨_, _, by rw [hx.int, hy.int], hq _ H (.refl _) (.int _)⟩
    · cases hg))
end
end Pu
namespace Pu
open PySem PySem.Spec PyProof.Rows L2 My

/-! ### isinstance -/
inductive Tag where
  | non | bl | int | str | tup | lst | dic
def Tag.name : Tag → String
  | .non => "NoneType" | .bl => "bool" | .int => "int" | .str => "str" | .tup => "tuple" | .lst => "list" | .dic => "dict"
def tagD : D → Option Tag
  | .non => some .non | .bl _ => some .bl | .int _ => some .int | .str _ => some .str | .tup _ => some .tup | .lst _ => some .lst | .dK _ => some .dic | .kd _ => some .dic | .scr _ => some .lst
  | _ => none
theorem tyX_of {B : Bs} {H : Hp} {v : V} {d : D} {t : Tag} (h : Rep B H v d) (e : tagD d = some t) : TyX B.K H v (.type t.name) := by
  cases h with
  | non => cases e; exact .base .non
  | bl b => cases e; exact .base (.bl b)
  | int b => cases e; exact .base (.int b)
  | str b => cases e; exact .base (.str b)
  | tup s r =>
    cases e
    rcases s with (s | ⟨o, s⟩) | ⟨o, its, n, hk, hc, _⟩
    · exact .base (.tup s)
    · exact .fTuple s
    · exact .kTuple hk hc
  | lst s r => cases e; exact .base (.lst s)
  | dK s k r =>
    cases e
    rcases s with s | ⟨o, s⟩
    · exact .base (.dK s)
    · exact .fDict s
  | kd s k r =>
    cases e
    obtain ⟨es, n, hk, _⟩ := s
    exact .kDict hk rfl
  | dT s k r => cases e
  | ins s k r => cases e
  | scr s =>
    cases e
    rcases s with (s | ⟨o, s⟩) | ⟨o, its, n, hk, hc, _⟩
    · exact .base (.lst s)
    · exact .base (.frz s)
    · exact .kList hk hc
  | ty n => cases e
  | cl c => cases e
/-- what isinstance asks of an own class -/
structure InsF (K : PySem.W.Frag) (C : Addr) : Prop where
  cl : Cls K C
  ha : PySem.W.findIn K (.ref C) "__class__" = some (some (.builtin "object.__class__"))
  hn : PySem.W.specialIn K (.builtin "object.__class__") "__get__" = some (some (.builtin "getset_descriptor.__get__"))
  ht : PySem.W.takesIn K (.builtin "object.__class__") = some true
  hm : PySem.W.mroIn K C (.type "object") = some true
def isG (g : Tag → Bool) (cs : List (Str × Bool)) : D → Option D
  | .ins c _ => (cs.lookup c).map .bl
  | d => (tagD d).map fun t => .bl (g t)
section
variable {X : Cx} {W : WX} {a b c e : Expr} {es : List Expr} {fa fb : M Rv} {fs : M (List Rv)} {pos p tpos : Pos} {k : Nat}
theorem isG_ok {B : Bs} {H : Hp} {O : List Addr} {v : V} {x d : D} {g : Tag → Bool} {cs : List (Str × Bool)} {kit : Value → Option Bool} (hk : ∀ t : Tag, kit (.type t.name) = some (g t)) (hI : ∀ q ∈ cs, InsF B.K (B.cls q.1) ∧ kit (.ref (B.cls q.1)) = some q.2) (hx : Vw B H O v x) (hg : isG g cs x = some d) : ∃ t bb, TyX B.K H v t ∧ kit t = some bb ∧ d = .bl bb := by
  have tagged : ∀ y : D, Vw B H O v y → (tagD y).map (fun t => D.bl (g t)) = some d → ∃ t bb, TyX B.K H v t ∧ kit t = some bb ∧ d = .bl bb := fun y hy e => by
    cases ht : tagD y with
    | none => rw [ht] at e; cases e
    | some t =>
      rw [ht] at e
      cases e
      exact ⟨_, _, tyX_of hy.full ht, hk t, rfl⟩
  unfold isG at hg
  split at hg
  · rename_i cn fs
    cases hl : cs.lookup cn with
    | none => rw [hl] at hg; cases hg
    | some bb =>
      rw [hl] at hg
      cases hg
      obtain ⟨a1, dx, gs, rfl, hH, _, _⟩ := hx.ins
      have hm : (cn, bb) ∈ cs := by
        clear hI hx tagged
        induction cs with
        | nil => simp at hl
        | cons q cs ih =>
          obtain ⟨q1, q2⟩ := q
          rw [List.lookup_cons] at hl
          cases hq : cn == q1 with
          | true =>
            rw [hq] at hl
            cases hl
            rw [beq_iff_eq] at hq
            subst hq
            exact List.mem_cons_self
          | false => rw [hq] at hl; exact .tail _ (ih hl)
      obtain ⟨F, e⟩ := hI _ hm
      exact ⟨_, bb, .base (.ins hH F.cl F.ha F.hn F.ht F.hm), e, rfl⟩
  · exact tagged x hx hg
theorem tCB1 {B : Bs} {r : List V → Hp → VK → Prop} {g : D → Option D} {tb : TE} {σ : L2.St} {H : Hp} {Q : VK} (hg : ∀ v H O x d Q, Liv H O → Vw B H O v x → g x = some d → (∀ w H', Same H H' → Rep B (hide H' O) w d → Q w H') → tb σ H fun u H1 => r [v, u] H1 Q)
    (h : tP B W (d1 g fa) σ H Q) : tCB r (tCons (tP B W fa) (tCons tb tNil)) σ H Q := by
  obtain ⟨c, ρ, O, st, q⟩ := h
  unfold d1 at q
  refine tP.step st (Po.bind q) fun r1 ρ1 v H1 O1 st1 e1 hv q1 => ?_
  split at q1
  · rename_i x hx
    cases hgg : g x with
    | none => rw [hgg] at q1; exact q1.elim
    | some d =>
      rw [hgg] at q1
      exact hg v H1 O1 x d Q st1.liv (st1.vw hv hx) hgg fun w H' e' hw => q1 H' O1 (st1.ext e') (same_hide e') w hw
  · exact q1.elim
theorem de_isi {cv : V} {u : Value} {g : Tag → Bool} {cs : List (Str × Bool)} (hm : X.mg "isinstance" = none) (ha : DE X W a fa) (hT : PE X b (tC cv)) (hc : ClsV cv u) (hk : ∀ t : Tag, PySem.W.kitOne X.K (.type t.name) u = some (g t)) (hI : ∀ q ∈ cs, InsF X.K ((bs X).cls q.1) ∧ PySem.W.kitOne X.K (.ref ((bs X).cls q.1)) u = some q.2) (hg : Gl X "isinstance" := by rfl)
    (h0 : starEach [b] X.env = (false, eval b X.env) :: starEach [] X.env := by rfl) (he : starEach [a, b] X.env = (false, eval a X.env) :: starEach [b] X.env := by rfl) (hpl : (backTo pos (starEach [b] X.env)).any (·.1) = false := by rfl) : DE X W (.Call (.Name "isinstance" p) [a, b] [] pos) (d1 (isG g cs) fa) :=
  PE.le (pe_callB call_isi hg hm (by decide +kernel) (pa_cons ha (pa_cons hT pa_nil h0) he) (by decide) (by decide) he hpl) fun σ H Q h => tCB1 (fun v H O x d Q hl hx hg hq => by
    obtain ⟨t, bb, h1, h2, rfl⟩ := isG_ok (kit := fun t => PySem.W.kitOne X.K t u) hk hI hx hg
    exact ⟨v, cv, t, u, bb, rfl, hc, h1, h2, hq _ H (.refl _) (.bl _)⟩) h
/-- isinstance(x, (T, U)) -/
theorem de_isi2 {T U : String} {g : Tag → Bool} {cs : List (Str × Bool)} {x1} (hm : X.mg "isinstance" = none) (ha : DE X W a fa) (hT : PE X b (tC (.ty T))) (hU : PE X c (tC (.ty U))) (hk : ∀ t : Tag, PySem.W.kitAny X.K (.type t.name) [.type T, .type U] = some (g t)) (hI : ∀ q ∈ cs, InsF X.K ((bs X).cls q.1) ∧ PySem.W.kitAny X.K (.ref ((bs X).cls q.1)) [.type T, .type U] = some q.2) (hg : Gl X "isinstance" := by rfl)
    (hb1 : starEach [b, c] X.env = (false, eval b X.env) :: starEach [c] X.env := by rfl) (hb2 : starEach [c] X.env = (false, eval c X.env) :: starEach [] X.env := by rfl)
    (h0 : starEach [.Tuple [b, c] x1 tpos] X.env = (false, eval (.Tuple [b, c] x1 tpos) X.env) :: starEach [] X.env := by rfl) (he : starEach [a, .Tuple [b, c] x1 tpos] X.env = (false, eval a X.env) :: starEach [.Tuple [b, c] x1 tpos] X.env := by rfl) (hpl : (backTo pos (starEach [.Tuple [b, c] x1 tpos] X.env)).any (·.1) = false := by rfl) : DE X W (.Call (.Name "isinstance" p) [a, .Tuple [b, c] x1 tpos] [] pos) (d1 (isG g cs) fa) :=
  PE.le (pe_callB call_isiT hg hm (by decide +kernel) (pa_cons ha (pa_cons (pe_tup (pa_cons hT (pa_cons hU pa_nil hb2) hb1)) pa_nil h0) he) (by decide) (by decide) he hpl) fun σ H Q h => tCB1 (fun v H O x d Q hl hx hg hq => by
    refine ⟨by show 2 ≤ sizeLine; decide, fun p hp => ?_⟩
    have e := Same.new (o := .tup [.ty T, .ty U]) hp
    have hx' : Vw (bs X) (upd H p (.tup [.ty T, .ty U])) O v x := by
      rcases hx with hx | ⟨q, o, rfl, h1, h2⟩
      · exact .inl (hx.mono (same_hide e))
      · exact .inr ⟨q, o, rfl, e _ _ h1, h2.mono (same_hide e)⟩
    obtain ⟨t, bb, h1, h2, rfl⟩ := isG_ok (kit := fun t => PySem.W.kitAny X.K t [.type T, .type U]) hk hI hx' hg
    exact ⟨v, p, _, t, _, bb, rfl, upd_same, .cons (.ty T) (.cons (.ty U) .nil), h1, h2, hq _ _ e (.bl _)⟩) h

/-! ### in -/
def inB (x : D) (s : D) : Option Bool := match s with
  | .lst ds => match toP x, toPs ds with
    | some p, some ps => if SeqAt.shaped p = true ∧ SeqAt.shaped (.list ps) = true then some (ps.any fun z => PyData.eqv z p) else none
    | _, _ => none
  | .tup ds => match toP x, toPs ds with
    | some p, some ps => if SeqAt.shaped p = true ∧ SeqAt.shaped (.tuple ps) = true then some (ps.any fun z => PyData.eqv z p) else none
    | _, _ => none
  | .str t => match x with
    | .str z => some (!(Builtin.Str.occurrences t z 0 t.length 1).isEmpty)
    | _ => none
  | .dK kvs => match keyD x with
    | some k => some (valD kvs k).isSome
    | none => none
  | .kd kvs => match keyD x with
    | some k => some (valD kvs k).isSome
    | none => none
  | _ => none
def inD (x s : D) : Option D := (inB x s).map .bl
def ninD (x s : D) : Option D := (inB x s).map fun b => .bl !b
/-- what `in` asks, by data; n: not in -/
def rInA (K : PySem.W.Frag) (w : World) (n : Bool) : R2 := fun x y H Q => ∃ b : Bool, Q (.bl (if n then !b else b)) H ∧
  ((∃ d ds, Dp K H x d ∧ Dp K H y (.list ds) ∧ SeqAt.shaped d = true ∧ SeqAt.shaped (.list ds) = true ∧ b = ds.any fun z => PyData.eqv z d) ∨
  (∃ d ds, Dp K H x d ∧ Dp K H y (.tuple ds) ∧ SeqAt.shaped d = true ∧ SeqAt.shaped (.tuple ds) = true ∧ b = ds.any fun z => PyData.eqv z d) ∨
  (∃ i j, x = .str i ∧ y = .str j ∧ b = !(Builtin.Str.occurrences j i 0 j.length 1).isEmpty) ∨
  (∃ a o, y = .ref a ∧ DGet H a x o ∧ b = o.isSome) ∨
  (∃ a kvs kk, y = .ref a ∧ KDo K w a kvs ∧ x = kV kk ∧ b = (valV kvs kk).isSome))
theorem op_inA (hu : X.A.units + 65 < cLine) : OpR X (compareOp .In) (rInA X.K X.w false) := by
  intro pins s σ H x y v u Q I rx ry h
  obtain ⟨b, q, h⟩ := h
  simp only [Bool.false_eq_true, if_false] at q
  rcases h with ⟨d, ds, h1, h2, h3, h4, rfl⟩ | ⟨d, ds, h1, h2, h3, h4, rfl⟩ | ⟨i, j, rfl, rfl, rfl⟩ | ⟨a, o, rfl, g, rfl⟩ | ⟨a, kvs, kk, rfl, g, rfl, rfl⟩
  · exact op_inD hu pins s σ H x y v u Q I rx ry ⟨d, ds, h1, h2, h3, h4, q⟩
  · obtain ⟨as, r1⟩ := Dp.reads I d x v h1 rx
    obtain ⟨bs, r2⟩ := Dp.reads I (.tuple ds) y u h2 ry
    refine SeqAt.in_tuple_reads r2 r1 (SeqAt.canLay_of_shaped h4) (SeqAt.canLay_of_shaped h3) ?_ ⟨.bl _, H, I, rfl, q⟩
    have := SeqAt.depth_of_shaped h3
    have : min (PyData.depthAll ds) d.depth ≤ d.depth := Nat.min_le_right _ _
    omega
  · exact op_in_str pins s σ H _ _ v u Q I rx ry ⟨i, j, rfl, rfl, q⟩
  · obtain rfl : u = Value.ref a := ry
    exact d_in (by omega) I g rx fun s3 I3 => ⟨.bl o.isSome, H, I3, rfl, q⟩
  · obtain rfl : u = Value.ref a := ry
    obtain ⟨_, hd, vs, rel, dd⟩ := kdo_at (P := X.prog) g I.kIn
    refine wpAny_in_of (kV_is rx) hd dd.mapOf ?_
    rw [← (rel.val kk).isSome_eq]
    exact ⟨.bl _, H, I.tok _, rfl, q⟩
theorem op_ninA (hu : X.A.units + 65 < cLine) : OpR X (compareOp .NotIn) (rInA X.K X.w true) := by
  intro pins s σ H x y v u Q I rx ry h
  obtain ⟨b, q, h⟩ := h
  simp only [if_true] at q
  rcases h with ⟨d, ds, h1, h2, h3, h4, rfl⟩ | ⟨d, ds, h1, h2, h3, h4, rfl⟩ | ⟨i, j, rfl, rfl, rfl⟩ | ⟨a, o, rfl, g, rfl⟩ | ⟨a, kvs, kk, rfl, g, rfl, rfl⟩
  · exact op_notInD hu pins s σ H x y v u Q I rx ry ⟨d, ds, h1, h2, h3, h4, q⟩
  · obtain ⟨as, r1⟩ := Dp.reads I d x v h1 rx
    obtain ⟨bs, r2⟩ := Dp.reads I (.tuple ds) y u h2 ry
    refine SeqAt.notIn_tuple_reads r2 r1 (SeqAt.canLay_of_shaped h4) (SeqAt.canLay_of_shaped h3) ?_ ⟨.bl _, H, I, rfl, q⟩
    have := SeqAt.depth_of_shaped h3
    have : min (PyData.depthAll ds) d.depth ≤ d.depth := Nat.min_le_right _ _
    omega
  · exact op_notin_str pins s σ H _ _ v u Q I rx ry ⟨i, j, rfl, rfl, q⟩
  · obtain rfl : u = Value.ref a := ry
    exact d_notIn (by omega) I g rx fun s3 I3 => ⟨.bl _, H, I3, rfl, q⟩
  · obtain rfl : u = Value.ref a := ry
    obtain ⟨_, hd, vs, rel, dd⟩ := kdo_at (P := X.prog) g I.kIn
    refine wpAny_notIn_of (kV_is rx) hd dd.mapOf ?_
    rw [← (rel.val kk).isSome_eq]
    exact ⟨.bl _, H, I.tok _, rfl, q⟩
theorem val_some {B : Bs} {G : Hp} {kvs : List (Key × V)} {ds : List (Key × D)} {kk : Key} (h : kvs.map (·.1) = ds.map (·.1)) (r : RepL B G (kvs.map (·.2)) (ds.map (·.2))) : (valD ds kk).isSome = (valV kvs kk).isSome := by
  cases hv : valD ds kk with
  | none => rw [valD_none h hv]; rfl
  | some d =>
    obtain ⟨v', h1, _⟩ := valD_ok h r hv
    rw [h1]
    rfl
theorem inB_ok {B : Bs} {H : Hp} {O : List Addr} {v u : V} {x y : D} {b : Bool} {n : Bool} {Q : VK} (hx : Vw B H O v x) (hy : Vw B H O u y) (h : inB x y = some b) (hq : Q (.bl (if n then !b else b)) H) : rInA B.K B.w n v u H Q := by
  refine ⟨b, hq, ?_⟩
  unfold inB at h
  split at h
  · rename_i ds
    split at h
    · rename_i p ps h1 h2
      obtain ⟨⟨h3, h4⟩, rfl⟩ := some_if h
      exact .inl ⟨p, ps, rep_dp x _ p hx.full h1, rep_dp (.lst ds) _ (.list ps) hy.full (by simp [toP, h2]), h3, h4, rfl⟩
    · cases h
  · rename_i ds
    split at h
    · rename_i p ps h1 h2
      obtain ⟨⟨h3, h4⟩, rfl⟩ := some_if h
      exact .inr (.inl ⟨p, ps, rep_dp x _ p hx.full h1, rep_dp (.tup ds) _ (.tuple ps) hy.full (by simp [toP, h2]), h3, h4, rfl⟩)
    · cases h
  · split at h
    · cases h
      exact .inr (.inr (.inl ⟨_, _, hx.str, hy.str, rfl⟩))
    · cases h
  · rename_i kvs
    split at h
    · rename_i kk hk
      cases h
      obtain ⟨a1, kvs', rfl, e1, k1, r1⟩ := hy.dK
      refine .inr (.inr (.inr (.inl ⟨a1, valV kvs' kk, rfl, .inl ⟨kvs', kk, e1, keyD_ok hx.full hk, rfl⟩, ?_⟩)))
      exact val_some k1 r1
    · cases h
  · rename_i kvs
    split at h
    · rename_i kk hk
      cases h
      obtain ⟨a1, kvs', rfl, e1, k1, r1⟩ := hy.kd
      refine .inr (.inr (.inr (.inr ⟨a1, kvs', kk, rfl, e1, keyD_ok hx.full hk, ?_⟩)))
      exact val_some k1 r1
    · cases h
  · cases h
theorem opD_in {B : Bs} : OpD B (rInA B.K B.w false) inD := by
  intro v u H O x y d Q hl hx hy hg hq
  unfold inD at hg
  cases he : inB x y with
  | none => rw [he] at hg; cases hg
  | some b => rw [he] at hg; cases hg; exact inB_ok hx hy he (hq _ H (.refl _) (.bl _))
theorem opD_nin {B : Bs} : OpD B (rInA B.K B.w true) ninD := by
  intro v u H O x y d Q hl hx hy hg hq
  unfold ninD at hg
  cases he : inB x y with
  | none => rw [he] at hg; cases hg
  | some b => rw [he] at hg; cases hg; exact inB_ok hx hy he (hq _ H (.refl _) (.bl _))
theorem de_in (hr : RmG k X.A) (ha : DE X W a fa) (hb : DE X W b fb) (hm : behindInMarks .In b = false := by rfl) : DE X W (.Compare a [.In] [b] pos) (d2 inD fa fb) := de_2 (pe_cmpR (op_inA hr.u65) ha hb hm) opD_in
theorem de_nin (hr : RmG k X.A) (ha : DE X W a fa) (hb : DE X W b fb) (hm : behindInMarks .NotIn b = false := by rfl) : DE X W (.Compare a [.NotIn] [b] pos) (d2 ninD fa fb) := de_2 (pe_cmpR (op_ninA hr.u65) ha hb hm) opD_nin
theorem dt_in (hr : RmG k X.A) (ha : DE X W a fa) (hb : DE X W b fb) (hm : behindInMarks .In b = false := by rfl) : DT X W (.Compare a [.In] [b] pos) (dT2 inD fa fb) := dt_2 (pt_cmpR (op_inA hr.u65) ha hb hm) opD_in
theorem dt_nin (hr : RmG k X.A) (ha : DE X W a fa) (hb : DE X W b fb) (hm : behindInMarks .NotIn b = false := by rfl) : DT X W (.Compare a [.NotIn] [b] pos) (dT2 ninD fa fb) := dt_2 (pt_cmpR (op_ninA hr.u65) ha hb hm) opD_nin
end
end Pu
namespace Pu
open PySem PySem.Spec PyProof.Rows L2 My

/-! ### methods that change an owned object -/
def MutD (B : Bs) (r : V → List V → Hp → VK → Prop) (g : D → List D → Option (D × D)) : Prop :=
  ∀ p o vs H O d ds res d' Q, Liv H O → p ∈ O → H p = some o → RepO B (hide H O) o d → RepL B (hide H O) vs ds → g d ds = some (res, d') →
    (∀ v o', RepO B (hide H O) o' d' → Rep B (hide H O) v res → Q v (upd H p o')) → r (.ref p) vs H Q
def isLst : D → Bool
  | .lst _ => true
  | _ => false
/-- x.m(e, ..), x an owned name -/
def dMut (i : Nat) (g : D → List D → Option (D × D)) (fs : M (List Rv)) : M Rv := fun ρ => match ρ[i]? with
  | some (some (k0, d0)) => if k0 ≠ .val ∧ isLst d0 = true then (fs ρ).bind fun rs ρ1 => match escs ρ1 rs with
    | some (ds, ρ2) => match ρ2[i]? with
      | some (some (k, d)) => if k ≠ .val then (match g d ds with
        | some (res, d') => .ok (.val res) (ρ2.set i (some (k, d')))
        | none => .bad) else .bad
      | _ => .bad
    | none => .bad else .bad
  | _ => .bad
section
variable {X : Cx} {W : WX} {o e : Expr} {es : List Expr} {fs : M (List Rv)} {x name : Str} {ps apos cpos : Pos} {id : String} {i : Nat} {r : V → List V → Hp → VK → Prop} {g : D → List D → Option (D × D)}
theorem mut_end {c : Cst} {σ : L2.St} {H1 : Hp} {O1 : List Addr} {ρ1 : En} {rs : List Rv} {vs : List V} {p : Addr} {Q : VK} (hg : MutD (bs X) r g) (st1 : Stt (bs X) c ρ1 σ H1 O1) (hv : RvsOk (bs X) σ H1 O1 vs rs) (hs : σ[i]? = some (some (.ref p)))
    (q : Po (bs X) c W σ H1 O1 (fun r ρ' H' O' => ∀ v, RvOk (bs X) σ H' O' v r → Q v H') (match escs ρ1 rs with
    | some (ds, ρ2) => match ρ2[i]? with
      | some (some (k, d)) => if k ≠ .val then (match g d ds with
        | some (res, d') => .ok (.val res) (ρ2.set i (some (k, d')))
        | none => .bad) else .bad
      | _ => .bad
    | none => .bad)) : r (.ref p) vs H1 Q := by
  split at q
  · rename_i ds ρ2 hes
    obtain ⟨O2, st2, e2, hr⟩ := escs_ok st1 hv hes
    split at q
    · rename_i k d hi
      split at q
      · rename_i hk
        split at q
        · rename_i res d' hgg
          obtain ⟨p0, o0, z1, z2, z3, z4, z5⟩ := st2.own i k d hi hk
          rw [hs] at z1
          cases z1
          refine hg p o0 vs H1 O2 d ds res d' Q st2.liv z2 z4 z5 hr hgg fun v o' ho' hv' => ?_
          have s3 := st2.mut (o := o') hi hk hs ho'
          have eh : hide (upd H1 p o') O2 = hide H1 O2 := hide_upd z2
          refine q _ O2 s3 ?_ v ?_
          · rw [eh]; exact e2
          · show Rep (bs X) (hide (upd H1 p o') O2) v res
            rw [eh]; exact hv'
        · exact q.elim
      · exact q.elim
    · exact q.elim
  · exact q.elim
theorem lst_ty {B : Bs} {H : Hp} {G : Hp} {p : Addr} {o : HO} {d : D} (ho : H p = some o) (hr : RepO B G o d) (hl : isLst d = true) : tyV B.K "list" (.ref p) H := by
  cases hr with
  | lst _ => exact .inl ⟨rfl, _, .inl (.inl ho)⟩
  | dK _ _ => cases hl
  | dT _ _ => cases hl
  | ins _ _ => cases hl
theorem de_mut (slot : Slot "list" name id) (hty : typeOf (.builtin id) = pure (.type "method_descriptor")) (hm : MtR X id r) (hg : MutD (bs X) r g) (hx : PE X (.Name x ps) (tVar i)) (ha : DA X W (e :: es) fs)
    (hbase : attributeBase (.Name x ps) name X.env (eval (.Name x ps) X.env) = eval (.Name x ps) X.env := by rfl)
    (hfew : ((backTo cpos (starEach (e :: es) X.env)).all (fun x => !x.1) && (backToKw cpos (keywordEach [] X.env)).all (fun x => x.1.isSome)
      && decide ((e :: es).length + ([] : List Keyword).length + (if ([] : List Keyword).isEmpty then 0 else 1) < 30)) = true := by rfl)
    (hline : (apos.endLine == cpos.line) = true := by rfl) (hs : starEach (e :: es) X.env = (false, eval e X.env) :: starEach es X.env := by rfl) (hplain : (backTo cpos (starEach es X.env)).any (·.1) = false := by rfl) :
    DE X W (.Call (.Attribute (.Name x ps) name apos) (e :: es) [] cpos) (dMut i g fs) := PE.le (pe_bm PySem.F.plainAttrs_list slot hty hm hx ha hbase hfew hline hs hplain) fun σ H Q ⟨c, ρ, O, st, q⟩ => by
  unfold dMut at q
  split at q
  · rename_i k0 d0 h0
    split at q
    · rename_i hk
      obtain ⟨p, o0, z1, z2, z3, z4, z5⟩ := st.own i k0 d0 h0 hk.1
      refine ⟨_, z1, lst_ty z4 z5 hk.2, ?_⟩
      refine tAs.step st (Po.bind q) fun rs ρ1 vs H1 O1 st1 e1 hvs q1 => ?_
      exact mut_end hg st1 hvs z1 q1
    · exact q.elim
  · exact q.elim
theorem de_mut0 (slot : Slot "list" name id) (hty : typeOf (.builtin id) = pure (.type "method_descriptor")) (hm : MtR X id r) (hg : MutD (bs X) r g) (hx : PE X (.Name x ps) (tVar i))
    (hbase : attributeBase (.Name x ps) name X.env (eval (.Name x ps) X.env) = eval (.Name x ps) X.env := by rfl) (hline : (apos.endLine == cpos.line) = true := by rfl) :
    DE X W (.Call (.Attribute (.Name x ps) name apos) [] [] cpos) (dMut i g dNil) := PE.le (pe_bm0 PySem.F.plainAttrs_list slot hty hm hx hbase hline) fun σ H Q ⟨c, ρ, O, st, q⟩ => by
  unfold dMut at q
  split at q
  · rename_i k0 d0 h0
    split at q
    · rename_i hk
      obtain ⟨p, o0, z1, z2, z3, z4, z5⟩ := st.own i k0 d0 h0 hk.1
      refine ⟨_, z1, lst_ty z4 z5 hk.2, ?_⟩
      simp only [dNil, bind_ok] at q
      exact mut_end hg st .nil z1 q
    · exact q.elim
  · exact q.elim
end
def appD : D → List D → Option (D × D)
  | .lst xs, [y] => if xs.length < sizeLine then some (.non, .lst (xs ++ [y])) else none
  | _, _ => none
def popD : D → List D → Option (D × D)
  | .lst xs, [] => match xs[xs.length - 1]? with
    | some y => some (y, .lst xs.dropLast)
    | none => none
  | _, _ => none
def popAtD : D → List D → Option (D × D)
  | .lst xs, [.int i] => if -(2 ^ 63) ≤ i ∧ i < 2 ^ 63 then (match seqIndex? i xs.length with
    | some k => match xs[k]? with
      | some y => some (y, .lst (xs.eraseIdx k))
      | none => none
    | none => none) else none
  | _, _ => none
def clearD : D → List D → Option (D × D)
  | .lst _, [] => some (.non, .lst [])
  | _, _ => none
def revD : D → List D → Option (D × D)
  | .lst xs, [] => some (.non, .lst xs.reverse)
  | _, _ => none
def extD : D → List D → Option (D × D)
  | .lst xs, [.lst ys] => if xs.length + ys.length ≤ sizeLine then some (.non, .lst (xs ++ ys)) else none
  | _, _ => none
theorem RepO.lst_inv {B : Bs} {G : Hp} {o : HO} {ds : List D} (h : RepO B G o (.lst ds)) : ∃ xs, o = .lst xs ∧ RepL B G xs ds := by
  cases h with
  | lst r => exact ⟨_, rfl, r⟩
theorem RepL.dropLast {B : Bs} {G : Hp} {xs : List V} {ds : List D} (h : RepL B G xs ds) : RepL B G xs.dropLast ds.dropLast := by
  rw [List.dropLast_eq_take, List.dropLast_eq_take, h.length]
  exact h.take _
theorem RepL.eraseIdx {B : Bs} {G : Hp} {xs : List V} {ds : List D} (h : RepL B G xs ds) (k : Nat) : RepL B G (xs.eraseIdx k) (ds.eraseIdx k) := by
  rw [List.eraseIdx_eq_take_drop_succ, List.eraseIdx_eq_take_drop_succ]
  exact (h.take k).append (h.drop (k + 1))
section
variable {X : Cx} {W : WX} {o e : Expr} {es : List Expr} {fs : M (List Rv)} {x name : Str} {ps apos cpos : Pos} {id : String} {i : Nat} {B : Bs}
theorem mutD_app : MutD B rAppend appD := by
  intro p o vs H O d ds res d' Q hl hp ho hr hv hg hq
  unfold appD at hg
  split at hg
  · obtain ⟨h1, h2⟩ := some_if hg
    cases h2
    obtain ⟨us, rfl, r⟩ := hr.lst_inv
    cases hv with
    | cons hy ht =>
      cases ht
      exact ⟨p, us, _, rfl, rfl, ho, by rw [r.length]; exact h1, hq _ _ (.lst (r.append (.cons hy .nil))) .non⟩
  · cases hg
theorem mutD_pop : MutD B rPop popD := by
  intro p o vs H O d ds res d' Q hl hp ho hr hv hg hq
  unfold popD at hg
  split at hg
  · split at hg
    · rename_i y hy
      cases hg
      obtain ⟨us, rfl, r⟩ := hr.lst_inv
      cases hv
      obtain ⟨v, h1, h2⟩ := r.get hy
      exact ⟨p, us, v, rfl, rfl, ho, by rw [r.length]; exact h1, hq _ _ (.lst r.dropLast) h2⟩
    · cases hg
  · cases hg
theorem mutD_popAt : MutD B rPopAt popAtD := by
  intro p o vs H O d ds res d' Q hl hp ho hr hv hg hq
  unfold popAtD at hg
  split at hg
  · split at hg
    · rename_i hb
      split at hg
      · rename_i k hk
        split at hg
        · rename_i y hy
          cases hg
          obtain ⟨us, rfl, r⟩ := hr.lst_inv
          cases hv with
          | cons hi ht =>
            cases ht
            cases hi
            obtain ⟨v, h1, h2⟩ := r.get hy
            exact ⟨p, us, _, k, v, rfl, rfl, ho, hb.1, hb.2, by rw [r.length]; exact hk, h1, hq _ _ (.lst (r.eraseIdx k)) h2⟩
        · cases hg
      · cases hg
    · cases hg
  · cases hg
theorem mutD_clear : MutD B rClear clearD := by
  intro p o vs H O d ds res d' Q hl hp ho hr hv hg hq
  unfold clearD at hg
  split at hg
  · cases hg
    obtain ⟨us, rfl, r⟩ := hr.lst_inv
    cases hv
    exact ⟨p, us, rfl, rfl, ho, hq _ _ (.lst .nil) .non⟩
  · cases hg
theorem mutD_rev : MutD B rReverse revD := by
  intro p o vs H O d ds res d' Q hl hp ho hr hv hg hq
  unfold revD at hg
  split at hg
  · cases hg
    obtain ⟨us, rfl, r⟩ := hr.lst_inv
    cases hv
    exact ⟨p, us, rfl, rfl, ho, hq _ _ (.lst r.reverse) .non⟩
  · cases hg
theorem mutD_ext : MutD B rExtend extD := by
  intro p o vs H O d ds res d' Q hl hp ho hr hv hg hq
  unfold extD at hg
  split at hg
  · obtain ⟨h1, h2⟩ := some_if hg
    cases h2
    obtain ⟨us, rfl, r⟩ := hr.lst_inv
    cases hv with
    | cons hy ht =>
      cases ht
      cases hy with
      | lst s r2 => exact ⟨p, _, us, _, rfl, rfl, ho, hide_le H O _ _ s, by rw [r.length, r2.length]; exact h1, hq _ _ (.lst (r.append r2)) .non⟩
  · cases hg

/-! ### methods of values -/
def BmD (B : Bs) (r : V → List V → Hp → VK → Prop) (g : D → List D → Option D) : Prop :=
  ∀ x vs H O d ds res Q, Liv H O → Vw B H O x d → Paired (Vw B H O) vs ds → g d ds = some res → (∀ w H', Same H H' → Rep B (hide H' O) w res → Q w H') → r x vs H Q
def tyD (T : String) : D → Bool
  | .str _ => T = "str"
  | .lst _ => T = "list"
  | _ => false
theorem tyD_ok {H : Hp} {O : List Addr} {T : String} {v : V} {d : D} (h : Vw B H O v d) (e : tyD T d = true) : tyV B.K T v H := by
  cases d <;> simp only [tyD] at e <;> try (cases e; done)
  · rw [h.str]; exact (show T = "str" from of_decide_eq_true e)
  · obtain ⟨a, xs, rfl, ho, _⟩ := h.lst
    exact .inl ⟨of_decide_eq_true e, _, .inl (.inl ho)⟩
def dBm (T : String) (g : D → List D → Option D) (fo : M Rv) (fs : M (List Rv)) : M Rv := fun ρ => (fo ρ).bind fun r ρ1 => match rd ρ1 r with
  | some d0 => if tyD T d0 = true then (fs ρ1).bind fun rs ρ2 => match rd ρ2 r, rds ρ2 rs with
    | some d, some ds => out ρ2 (g d ds)
    | _, _ => .bad else .bad
  | none => .bad
theorem de_bm {T : String} {r : V → List V → Hp → VK → Prop} {g : D → List D → Option D} {fo : M Rv} (pa : PlainAttrs T) (slot : Slot T name id) (hty : typeOf (.builtin id) = pure (.type "method_descriptor")) (hm : MtR X id r) (hg : BmD (bs X) r g) (ho : DE X W o fo) (ha : DA X W (e :: es) fs)
    (hbase : attributeBase o name X.env (eval o X.env) = eval o X.env := by rfl)
    (hfew : ((backTo cpos (starEach (e :: es) X.env)).all (fun x => !x.1) && (backToKw cpos (keywordEach [] X.env)).all (fun x => x.1.isSome)
      && decide ((e :: es).length + ([] : List Keyword).length + (if ([] : List Keyword).isEmpty then 0 else 1) < 30)) = true := by rfl)
    (hline : (apos.endLine == cpos.line) = true := by rfl) (hs : starEach (e :: es) X.env = (false, eval e X.env) :: starEach es X.env := by rfl) (hplain : (backTo cpos (starEach es X.env)).any (·.1) = false := by rfl) :
    DE X W (.Call (.Attribute o name apos) (e :: es) [] cpos) (dBm T g fo fs) := PE.le (pe_bm pa slot hty hm ho ha hbase hfew hline hs hplain) fun σ H Q ⟨c, ρ, O, st, q⟩ => by
  unfold dBm at q
  refine tP.step st (Po.bind q) fun r1 ρ1 v H1 O1 st1 e1 hv q1 => ?_
  split at q1
  · rename_i d0 hd0
    split at q1
    · rename_i ht
      refine ⟨tyD_ok (st1.vw hv hd0) ht, ?_⟩
      refine tAs.step st1 (Po.bind q1) fun rs ρ2 vs H2 O2 st2 e2 hvs q2 => ?_
      split at q2
      · rename_i d ds h1 h2
        cases hgg : g d ds with
        | none => rw [hgg] at q2; exact q2.elim
        | some res =>
          rw [hgg] at q2
          exact hg v vs H2 O2 d ds res Q st2.liv (st2.vw (hv.ext e2) h1) (st2.vws hvs h2) hgg fun w H' e' hw => q2 H' O2 (st2.ext e') (same_hide e') w hw
      · exact q2.elim
    · exact q1.elim
  · exact q1.elim

/-! ### x[k] = v, x an owned dict -/
def dPut (i : Nat) (fk fv : M Rv) : SM := fun ρ => (fv ρ).then fun rv ρ1 => match ρ1[i]? with
  | some (some (k1, _)) => if k1 ≠ .val then (fk ρ1).then fun rk ρ2 => match esc ρ2 rv with
    | some (dv, ρ3) => match rd ρ3 rk with
      | some dk => match keyD dk, ρ3[i]? with
        | some k, some (some (kd, .dK kvs)) => if kd ≠ .val ∧ kvs.length < sizeLine then .nx (ρ3.set i (some (kd, .dK (putD kvs k dv)))) else .bad
        | _, _ => .bad
      | none => .bad
    | none => .bad else .bad
  | _ => .bad
theorem ds_put {value ki : Expr} {fk fv : M Rv} {pos pos' : Pos} {k : Nat} (hr : RmG k X.A) (hx : PE X (.Name x ps) (tVar i)) (hk : DE X W ki fk) (hv : DE X W value fv) (hs : swapsWith value (some (.Subscript (.Name x ps) ki pos')) pos.line X.env = pure false := by rfl) :
    DS X W (.Assign [.Subscript (.Name x ps) ki pos'] value pos) (dPut i fk fv) := PS.le (ps_dput hr.u1 hx hk hv hs) fun E σ H ⟨c, ρ, O, st, q⟩ => by
  unfold dPut at q
  refine tP.step st (SPo.then q) fun rv ρ1 v H1 O1 st1 e1 hvv q1 => ?_
  split at q1
  · rename_i k1 d1 h1
    split at q1
    · rename_i hk1
      obtain ⟨p, o0, z1, z2, z3, z4, z5⟩ := st1.own i k1 d1 h1 hk1
      refine ⟨_, z1, ?_⟩
      refine tP.step st1 (SPo.then q1) fun rk ρ2 y H2 O2 st2 e2 hy q2 => ?_
      split at q2
      · rename_i dv ρ3 hes
        obtain ⟨O3, st3, e3, hr3⟩ := st2.esc (hvv.ext e2) hes
        split at q2
        · rename_i dk hdk
          split at q2
          · rename_i kk kd kvs hkk hi
            split at q2
            · rename_i hc
              obtain ⟨p0, o0', y1, y2, y3, y4, y5⟩ := st3.own i kd _ hi hc.1
              rw [z1] at y1
              cases y1
              cases y5 with
              | dK kk2 rr =>
                rename_i kvs'
                have hyk : y = kV kk := keyD_ok (st3.vw (hy.ext e3) hdk).full hkk
                obtain ⟨m1, m2⟩ := putK_map kk v dv hr3 kk2 rr
                refine ⟨p, _, rfl, .inl ⟨kvs', kk, y4, hyk, ?_, rfl⟩, ?_⟩
                · have := congrArg List.length kk2
                  simp only [List.length_map] at this
                  omega
                · have s4 := st3.mut (o := .dK (putK kvs' kk v)) hi hc.1 z1 (.dK m1 m2)
                  refine q2 σ _ O3 s4 ?_
                  rw [hide_upd y2]
                  exact e3
            · exact q2.elim
          · exact q2.elim
        · exact q2.elim
      · exact q2.elim
    · exact q1.elim
  · exact q1.elim
/-- x[(k, ..)] = v, x an owned dict whose keys are tuples -/
def dPutT (i : Nat) (fk : M (List Rv)) (fv : M Rv) : SM := fun ρ => (fv ρ).then fun rv ρ1 => match ρ1[i]? with
  | some (some (k1, _)) => if k1 ≠ .val then (fk ρ1).then fun rk ρ2 => match esc ρ2 rv with
    | some (dv, ρ3) => match rds ρ3 rk with
      | some dks => match keysD dks, ρ3[i]? with
        | some k, some (some (kd, .dT kvs)) => if kd ≠ .val ∧ kvs.length < sizeLine ∧ rk.length ≤ sizeLine then .nx (ρ3.set i (some (kd, .dT (putD kvs k dv)))) else .bad
        | _, _ => .bad
      | none => .bad
    | none => .bad else .bad
  | _ => .bad
theorem keysV_ok {H : Hp} {O : List Addr} : ∀ {vs : List V} {ds : List D} {ks : List Key}, Paired (Vw B H O) vs ds → keysD ds = some ks → vs = ks.map kV
  | _, _, ks, .nil, e => by simp only [keysD] at e; cases e; rfl
  | _, d :: ds, ks, .cons h t, e => by
    simp only [keysD] at e
    cases h1 : keyD d with
    | none => rw [h1] at e; cases e
    | some k =>
      cases h2 : keysD ds with
      | none => rw [h1, h2] at e; cases e
      | some ks' =>
        rw [h1, h2] at e
        cases e
        rw [keyD_ok h.full h1, keysV_ok t h2]
        rfl
theorem ds_putT {value : Expr} {kes : List Expr} {x1} {fk : M (List Rv)} {fv : M Rv} {pos pos' tpos : Pos} {k : Nat} (hr : RmG k X.A) (hx : PE X (.Name x ps) (tVar i)) (hk : DA X W kes fk) (hv : DE X W value fv) (hs : swapsWith value (some (.Subscript (.Name x ps) (.Tuple kes x1 tpos) pos')) pos.line X.env = pure false := by rfl) :
    DS X W (.Assign [.Subscript (.Name x ps) (.Tuple kes x1 tpos) pos'] value pos) (dPutT i fk fv) := PS.le (ps_dput hr.u1 hx (pe_tup hk) hv hs) fun E σ H ⟨c, ρ, O, st, q⟩ => by
  unfold dPutT at q
  refine tP.step st (SPo.then q) fun rv ρ1 v H1 O1 st1 e1 hvv q1 => ?_
  split at q1
  · rename_i k1 d1 h1
    split at q1
    · rename_i hk1
      obtain ⟨p, o0, z1, z2, z3, z4, z5⟩ := st1.own i k1 d1 h1 hk1
      refine ⟨_, z1, ?_⟩
      refine tAs.step st1 (SPo.then q1) fun rk ρ2 ys H2 O2 st2 e2 hy q2 => ?_
      split at q2
      · rename_i dv ρ3 hes
        obtain ⟨O3, st3, e3, hr3⟩ := st2.esc (hvv.ext e2) hes
        split at q2
        · rename_i dks hdk
          split at q2
          · rename_i kk kd kvs hkk hi
            split at q2
            · rename_i hc
              obtain ⟨p0, o0', y1, y2, y3, y4, y5⟩ := st3.own i kd _ hi hc.1
              rw [z1] at y1
              cases y1
              cases y5 with
              | dT kk2 rr =>
                rename_i kvs'
                have hyk : ys = kk.map kV := keysV_ok (st3.vws (RvsOk.ext hy e3) hdk) hkk
                refine ⟨by rw [Paired.length hy]; exact hc.2.2, fun t ht => ?_⟩
                have en : Same H2 (upd H2 t (.tup ys)) := Same.new ht
                have ne : p ≠ t := ne_of_none y4 ht
                have st4 := st3.ext en
                have e4 : Ext (hide H2 O3) (hide (upd H2 t (.tup ys)) O3) := same_hide en
                have hr4 := hr3.mono e4
                obtain ⟨m1, m2⟩ := putK_map kk v dv hr4 kk2 (rr.mono e4)
                refine ⟨p, _, rfl, .inr ⟨kvs', kk, t, by rw [upd_ne ne]; exact y4, rfl, by rw [upd_same, hyk], ?_, rfl⟩, ?_⟩
                · have := congrArg List.length kk2
                  simp only [List.length_map] at this
                  omega
                · have s4 := st4.mut (o := .dT (putK kvs' kk v)) hi hc.1 z1 (.dT m1 m2)
                  refine q2 σ _ O3 s4 ?_
                  rw [hide_upd y2]
                  exact e3.trans e4
            · exact q2.elim
          · exact q2.elim
        · exact q2.elim
      · exact q2.elim
    · exact q1.elim
  · exact q1.elim
/-- d[(k, ..)], (k, ..) in d, d.get((k, ..)): the tuple is written there -/
def ixT (ks : List D) : D → Option D
  | .dT kvs => match keysD ks with
    | some k => valD kvs k
    | none => none
  | _ => none
def inT (neg : Bool) (ks : List D) : D → Option D
  | .dT kvs => match keysD ks with
    | some k => some (.bl (if neg then !(valD kvs k).isSome else (valD kvs k).isSome))
    | none => none
  | _ => none
def getT (ks : List D) : D → Option D
  | .dT kvs => match keysD ks with
    | some k => some ((valD kvs k).getD .non)
    | none => none
  | _ => none
/-- f of a tuple's items that are written, and of a value -/
def dTk (g : List D → D → Option D) (fd : M Rv) (fk : M (List Rv)) : M Rv := fun ρ => (fd ρ).bind fun r ρ1 => (fk ρ1).bind fun rs ρ2 => match rd ρ2 r, rds ρ2 rs with
  | some d, some ks => if rs.length ≤ sizeLine then out ρ2 (g ks d) else .bad
  | _, _ => .bad
def dTkR (g : List D → D → Option D) (fk : M (List Rv)) (fd : M Rv) : M Rv := fun ρ => (fk ρ).bind fun rs ρ1 => if rs.length ≤ sizeLine then (fd ρ1).bind fun r ρ2 => match rd ρ2 r, rds ρ2 rs with
  | some d, some ks => out ρ2 (g ks d)
  | _, _ => .bad else .bad
theorem Vw.ext {H H' : Hp} {O : List Addr} {v : V} {d : D} (h : Vw B H O v d) (e : Same H H') : Vw B H' O v d := by
  rcases h with h | ⟨q, o, rfl, h1, h2⟩
  · exact .inl (h.mono (same_hide e))
  · exact .inr ⟨q, o, rfl, e _ _ h1, h2.mono (same_hide e)⟩
theorem dget_t {H : Hp} {O : List Addr} {v : V} {kvs : List (List Key × D)} {ks : List Key} {t : Addr} (h : Vw B H O v (.dT kvs)) (ht : H t = some (.tup (ks.map kV))) : ∃ a o, v = .ref a ∧ DGet H a (.ref t) o ∧ (∀ d, valD kvs ks = some d → ∃ u, o = some u ∧ Rep B (hide H O) u d) ∧ (valD kvs ks = none → o = none) := by
  obtain ⟨a, kvs', rfl, hr, hk, rr⟩ := h.dT
  refine ⟨a, valV kvs' ks, rfl, .inr ⟨kvs', ks, t, hr, rfl, ht, rfl⟩, fun d hd => ?_, fun hn => valD_none hk hn⟩
  exact valD_ok hk rr hd
end
section
variable {X : Cx} {W : WX} {o e : Expr} {es kes : List Expr} {fs fk : M (List Rv)} {fd : M Rv} {pos tpos apos cpos : Pos} {k : Nat} {x1 : Nat}
theorem de_ixT (hr : RmG k X.A) (hd : DE X W o fd) (hk : DA X W kes fk) (hs : PlainIx (.Tuple kes x1 tpos) := by exact fun _ _ => rfl) : DE X W (.Subscript o (.Tuple kes x1 tpos) pos) (dTk ixT fd fk) := PE.le (pe_ix (ix_dk hr.u1) hd (pe_tup hk) hs) fun σ H Q ⟨c, ρ, O, st, q⟩ => by
  unfold dTk at q
  refine tP.step st (Po.bind q) fun r ρ1 v H1 O1 st1 e1 hv q1 => ?_
  refine tAs.step st1 (Po.bind q1) fun rs ρ2 ys H2 O2 st2 e2 hy q2 => ?_
  split at q2
  · rename_i d ks h1 h2
    split at q2
    · rename_i hl
      refine ⟨by rw [Paired.length hy]; exact hl, fun t ht => ?_⟩
      have en : Same H2 (upd H2 t (.tup ys)) := Same.new ht
      unfold ixT at q2
      split at q2
      · split at q2
        · rename_i kk hkk
          rename_i kvs _
          have hyk : ys = kk.map kV := keysV_ok (st2.vws hy h2) hkk
          obtain ⟨a, o, rfl, g, g1, g2⟩ := dget_t (ks := kk) (t := t) ((st2.vw (hv.ext e2) h1).ext en) (by rw [upd_same, hyk])
          cases hval : valD kvs kk with
          | none => rw [hval] at q2; exact q2.elim
          | some d =>
            rw [hval] at q2
            obtain ⟨u, rfl, hu⟩ := g1 d hval
            exact ⟨a, u, rfl, g, q2 _ O2 (st2.ext en) (same_hide en) u hu⟩
        · exact q2.elim
      · exact q2.elim
    · exact q2.elim
  · exact q2.elim
theorem inT_le {neg : Bool} {σ : L2.St} {H : Hp} {Q : VK} (h : tP (bs X) W (dTkR (inT neg) fk fd) σ H Q) : tTup (tAs (bs X) W fk) σ H fun y H1 => tP (bs X) W fd σ H1 fun x H2 => ∃ a o, x = .ref a ∧ DGet H2 a y o ∧ Q (.bl (if neg then !o.isSome else o.isSome)) H2 := by
  obtain ⟨c, ρ, O, st, q⟩ := h
  unfold dTkR at q
  refine tAs.step st (Po.bind q) fun rs ρ1 ys H1 O1 st1 e1 hy q1 => ?_
  split at q1
  · rename_i hlen
    refine ⟨by rw [Paired.length hy]; exact hlen, fun t ht => ?_⟩
    have en : Same H1 (upd H1 t (.tup ys)) := Same.new ht
    have s2 := st1.ext en
    have q1' := Po.mono q1 (same_hide (O := O1) en) (fun _ _ _ _ z => z)
    refine tP.step s2 (Po.bind q1') fun r ρ2 v H2 O2 st2 e2 hv q2 => ?_
    have ht2 : H2 t = some (.tup ys) := hide_le H2 O2 _ _ (e2.get (hide_new st1.liv ht))
    split at q2
    · rename_i d ks h1 h2
      unfold inT at q2
      split at q2
      · split at q2
        · rename_i kk hkk
          rename_i kvs _
          have hyk : ys = kk.map kV := keysV_ok (st2.vws (RvsOk.ext hy ((same_hide en).trans e2)) h2) hkk
          obtain ⟨a, o, rfl, g, g1, g2⟩ := dget_t (ks := kk) (t := t) (st2.vw hv h1) (by rw [ht2, hyk])
          have es : o.isSome = (valD kvs kk).isSome := by
            cases hval : valD kvs kk with
            | none => rw [g2 hval]; rfl
            | some d => obtain ⟨u, rfl, _⟩ := g1 d hval; rfl
          refine ⟨a, o, rfl, g, ?_⟩
          rw [es]
          exact q2 H2 O2 st2 (.refl _) _ (.bl _)
        · exact q2.elim
      · exact q2.elim
    · exact q2.elim
  · exact q1.elim
theorem de_inT (hr : RmG k X.A) (hk : DA X W kes fk) (hd : DE X W o fd) (hm : behindInMarks .In o = false := by rfl) : DE X W (.Compare (.Tuple kes x1 tpos) [.In] [o] pos) (dTkR (inT false) fk fd) := PE.le (pe_cmp (pc_din hr.u1 (pe_tup hk) hd) hm) fun σ H Q q => inT_le q
theorem de_ninT (hr : RmG k X.A) (hk : DA X W kes fk) (hd : DE X W o fd) (hm : behindInMarks .NotIn o = false := by rfl) : DE X W (.Compare (.Tuple kes x1 tpos) [.NotIn] [o] pos) (dTkR (inT true) fk fd) := PE.le (pe_cmp (pc_dnotin hr.u1 (pe_tup hk) hd) hm) fun σ H Q q => inT_le q
end
end Pu
namespace Pu
open PySem PySem.Spec PyProof.Rows L2 My

/-! ### what is walked: values -/
section
variable {B : Bs} {c : Cst} {ρ ρ' : En} {σ : L2.St} {H H' : Hp} {O O' : List Addr} {v : V} {d : D} {a : Addr}
theorem walkD_list {xs : List V} {ds : List D} (h : SqL B.K (hide H O) a xs) (r : RepL B (hide H O) xs ds) : WalkD B (Itl B.K a) ds H O := by
  refine ⟨fun H => SqL B.K H a xs, YAt xs, ?_, ?_, ?_⟩
  · rw [← r.length]; exact walk_list
  · intro H' O' e _
    exact sqL_mono (hide_le H' O').ext (sqL_mono e h)
  · rintro i H' O' x H'' e _ hi ⟨rfl, hx⟩
    obtain ⟨d, h1, h2⟩ := (r.mono e).get' hx
    exact ⟨.refl _, d, h1, h2⟩
theorem walkD_tup {xs : List V} {ds : List D} (h : SqT B.K (hide H O) a xs) (r : RepL B (hide H O) xs ds) : WalkD B (Itt B.K a) ds H O := by
  refine ⟨fun H => SqT B.K H a xs, YAt xs, ?_, ?_, ?_⟩
  · rw [← r.length]; exact walk_tup
  · intro H' O' e _
    exact sqT_mono (hide_le H' O').ext (sqT_mono e h)
  · rintro i H' O' x H'' e _ hi ⟨rfl, hx⟩
    obtain ⟨d, h1, h2⟩ := (r.mono e).get' hx
    exact ⟨.refl _, d, h1, h2⟩
def rngD (lo : Int) : Nat → List D
  | 0 => []
  | n + 1 => .int lo :: rngD (lo + 1) n
theorem rngD_length : ∀ (n : Nat) (lo : Int), (rngD lo n).length = n
  | 0, _ => rfl
  | n + 1, lo => by simp [rngD, rngD_length n]
theorem rngD_get : ∀ (n : Nat) (lo : Int) (i : Nat), i < n → (rngD lo n)[i]? = some (.int (lo + i))
  | 0, _, _, h => by omega
  | n + 1, lo, 0, _ => by simp [rngD]
  | n + 1, lo, i + 1, h => by
    simp only [rngD, List.getElem?_cons_succ]
    rw [rngD_get n (lo + 1) i (by omega), show lo + 1 + (i : Int) = lo + ((i + 1 : Nat) : Int) by omega]
theorem walkD_range {lo : Int} {n : Nat} : WalkD B (Itr lo n) (rngD lo n) H O := by
  refine ⟨fun _ => True, YFn fun i => .int (lo + i), ?_, fun _ _ _ _ => trivial, ?_⟩
  · rw [rngD_length]; exact walk_range
  · rintro i H' O' x H'' e _ hi ⟨rfl, rfl⟩
    rw [rngD_length] at hi
    exact ⟨.refl _, _, rngD_get n lo i hi, .int _⟩
def chrs (z : Str) : List D := z.cps.toList.map fun c => .str ⟨#[c]⟩
theorem walkD_str {z : Str} : WalkD B (Its z) (chrs z) H O := by
  refine ⟨fun _ => True, fun i H v H' => H' = H ∧ ∃ c, z.cps[i]? = some c ∧ v = .str ⟨#[c]⟩, ?_, fun _ _ _ _ => trivial, ?_⟩
  · rw [show (chrs z).length = z.cps.size by simp [chrs]]
    exact walk_str
  · rintro i H' O' x H'' e _ hi ⟨rfl, c, hc, rfl⟩
    refine ⟨.refl _, .str ⟨#[c]⟩, ?_, .str _⟩
    simp only [chrs, List.getElem?_map, Array.getElem?_toList, hc, Option.map_some]
def keyV : Key → D
  | .inl i => .int i
  | .inr s => .str s
theorem rep_ints {G : Hp} : ∀ xs : List Int, RepL B G (xs.map V.int) (xs.map D.int)
  | [] => .nil
  | x :: xs => .cons (.int x) (rep_ints xs)
theorem rep_key {G : Hp} (k : Key) : Rep B G (kV k) (keyV k) := by
  cases k with
  | inl i => exact .int i
  | inr s => exact .str s
theorem walkD_keys {ob : Obj} {kvs : List (Key × V)} {ds : List (Key × D)} (h : hide H O a = some (.frz ob (.dK kvs))) (hk : kvs.map (·.1) = ds.map (·.1)) : WalkD B (Itk a ob kvs) (ds.map fun p => keyV p.1) H O := by
  have hl : kvs.length = ds.length := by simpa using congrArg List.length hk
  refine ⟨fun H => H a = some (.frz ob (.dK kvs)), fun i H x H' => H' = H ∧ ∃ k v, kvs[i]? = some (k, v) ∧ x = kV k, ?_, ?_, ?_⟩
  · rw [List.length_map, ← hl]; exact walk_keys
  · intro H' O' e _
    exact hide_le H' O' _ _ (e.get h)
  · rintro i H' O' x H'' e _ hi ⟨rfl, k, v, hx, rfl⟩
    refine ⟨.refl _, keyV k, ?_, rep_key k⟩
    have : (kvs.map (·.1))[i]? = some k := by rw [List.getElem?_map, hx]; rfl
    rw [hk, List.getElem?_map] at this
    rw [List.getElem?_map]
    cases hd : ds[i]? with
    | none => rw [hd] at this; cases this
    | some q => rw [hd] at this; cases this; rfl
theorem Stt.lock {u : HO} (st : Stt B c ρ σ H O) (h : H a = some u) (ha : a ∉ O) (hu : isDct u = true) (ob : Obj) : Stt B c ρ σ (upd H a (.frz ob u)) O ∧ Ext (hide H O) (hide (upd H a (.frz ob u)) O) := by
  have ex : Ext (hide H O) (hide (upd H a (.frz ob u)) O) := fun b o e => by
    obtain ⟨m, q⟩ := hide_some e
    by_cases hb : b = a
    · subst hb
      rw [h] at q
      cases q
      exact .inr ⟨hu, ob, by rw [hide_out m, upd_same]⟩
    · exact .inl (by rw [hide_out m, upd_ne hb]; exact q)
  have ne : ∀ q ∈ O, q ≠ a := fun q hq e => ha (e ▸ hq)
  refine ⟨⟨st.len, ?_, ?_, st.sep, st.pin, ?_, ?_⟩, ex⟩
  · intro i d q
    obtain ⟨v, h1, h2⟩ := st.val i d q
    exact ⟨v, h1, h2.mono ex⟩
  · intro i k d q hk
    obtain ⟨p, o, h1, h2, h3, h4, h5⟩ := st.own i k d q hk
    exact ⟨p, o, h1, h2, h3, by rw [upd_ne (ne p h2)]; exact h4, h5.mono ex⟩
  · intro q hq
    rw [upd_ne (ne q hq)]
    exact st.liv q hq
  · intro q hq
    obtain ⟨u1, u2⟩ := st.frm q hq
    exact ⟨u1, by rw [upd_ne (ne q u1)]; exact u2⟩
end

/-! ### the rules of walks -/
/-- for k in d: a dict that is not locked is locked for good -/
def iKeysL (td : TE) : TI := fun σ H R => td σ H fun x H1 => ∃ d kvs, x = .ref d ∧ ((∃ o, H1 d = some (.frz o (.dK kvs)) ∧ R (Itk d o kvs) H1) ∨ (H1 d = some (.dK kvs) ∧ ∀ o, R (Itk d o kvs) (upd H1 d (.frz o (.dK kvs)))))
theorem pi_keysL {X : Cx} {tg e : Expr} {td : TE} (he : PE X e td) : PI X tg e (iKeysL td) := by
  refine ⟨fun pins s σ H R I h => ?_⟩
  refine thn (he.run pins s σ H _ I h) fun u s1 ⟨x, H1, I1, rx, d, kvs, ex, hd⟩ => ?_
  subst ex
  obtain rfl : u = Value.ref d := rx
  have fin : ∀ (o : Obj) (H2 : Hp), Inv X pins σ H2 s1 → H2 d = some (.frz o (.dK kvs)) → R (Itk d o kvs) H2 → wpAny (model X.prog X.w) X.A (pyIter (.ref d)) (PIE X pins σ tg R) X.xe s1 := fun o H2 I2 hd2 q => by
    obtain ⟨hs, hgd, hx, es, ep, vs, hdt, hsz, kv, hm⟩ := I2.frzK hd2
    refine iter_keys hs hgd hx hdt (pi_one (tk := s1.toks) I2 _ (turn_keys _ hdt) ⟨_, Heap.get?_push_size _ rfl, rfl, ?_⟩ q)
    rw [hsz] <;> rfl
  rcases hd with ⟨o, hd, q⟩ | ⟨hd, q⟩
  · exact fin o H1 I1 hd q
  · obtain ⟨o, I2⟩ := I1.lock hd trivial
    exact fin o _ I2 upd_same (q o)
def itD : D → Option (List D)
  | .lst ds => some ds
  | .tup ds => some ds
  | .str z => some (chrs z)
  | .dK kvs => some (kvs.map fun p => keyV p.1)
  | .scr xs => some (xs.map .int)
  | _ => none
/-- what of it is walked: 0 a list, 1 a tuple, 2 a text, 3 a dict -/
def itK (n : Nat) (d : D) : Option (List D) := match n, d with
  | 0, .lst ds => some ds
  | 0, .scr xs => some (xs.map .int)
  | 1, .tup ds => some ds
  | 2, .str z => some (chrs z)
  | 3, .dK kvs => some (kvs.map fun p => keyV p.1)
  | _, _ => none
def dIt (n : Nat) (fa : M Rv) : M (List D) := fun ρ => (fa ρ).bind fun r ρ1 => match esc ρ1 r with
  | some (d, ρ2) => match itK n d with
    | some ds => .ok ds ρ2
    | none => .bad
  | none => .bad
def dItA (fa : M Rv) : M (List D) := fun ρ => (fa ρ).bind fun r ρ1 => match esc ρ1 r with
  | some (d, ρ2) => match itD d with
    | some ds => .ok ds ρ2
    | none => .bad
  | none => .bad
theorem DI.or {X : Cx} {W : WX} {tg e : Expr} {f g : M (List D)} (h : DI X W tg e f) (h' : DI X W tg e g) : DI X W tg e (orF f g) := ⟨fun pins s σ H R I ⟨c, ρ, O, st, q⟩ => by
  unfold orF at q
  cases hf : f ρ with
  | bad => rw [hf] at q; exact h'.run pins s σ H R I ⟨c, ρ, O, st, q⟩
  | ok a ρ' => rw [hf] at q; exact h.run pins s σ H R I ⟨c, ρ, O, st, by rw [hf]; exact q⟩
  | ex x fs ρ' => rw [hf] at q; exact h.run pins s σ H R I ⟨c, ρ, O, st, by rw [hf]; exact q⟩⟩
theorem DI.eq {X : Cx} {W : WX} {tg e : Expr} {f g : M (List D)} (h : DI X W tg e f) (hg : ∀ ρ, g ρ ≠ .bad → f ρ = g ρ) : DI X W tg e g := ⟨fun pins s σ H R I ⟨c, ρ, O, st, q⟩ => h.run pins s σ H R I ⟨c, ρ, O, st, by
  rw [hg ρ fun z => by rw [z] at q; exact q]
  exact q⟩⟩
section
variable {X : Cx} {W : WX} {tg e : Expr} {es : List Expr} {fa : M Rv} {fs : M (List Rv)} {p pos : Pos}
theorem di_list (h : DE X W e fa) : DI X W tg e (dIt 0 fa) := PI.le (pi_list h) fun σ H R ⟨c, ρ, O, st, q⟩ => by
  unfold dIt at q
  refine tP.step st (Po.bind q) fun r ρ1 v H1 O1 st1 e1 hv q1 => ?_
  split at q1
  · rename_i d ρ2 hes
    obtain ⟨O2, st2, e2, hr⟩ := st1.esc hv hes
    cases d <;> simp only [itK] at q1 <;> try (exact q1.elim)
    · cases hr with
      | lst s r => exact ⟨_, rfl, ⟨_, .inl (.inl (hide_le _ _ _ _ s))⟩, q1 H1 O2 st2 e2 _ (walkD_list (B := bs X) (.inl (.inl s)) r)⟩
    · rename_i xs
      cases hr with
      | scr s =>
        refine ⟨_, rfl, ⟨_, sqL_mono (K := X.K) (hide_le _ _).ext s⟩, q1 H1 O2 st2 e2 _ (walkD_list (B := bs X) s (rep_ints xs))⟩
  · exact q1.elim
theorem di_tup (h : DE X W e fa) : DI X W tg e (dIt 1 fa) := PI.le (pi_tup h) fun σ H R ⟨c, ρ, O, st, q⟩ => by
  unfold dIt at q
  refine tP.step st (Po.bind q) fun r ρ1 v H1 O1 st1 e1 hv q1 => ?_
  split at q1
  · rename_i d ρ2 hes
    obtain ⟨O2, st2, e2, hr⟩ := st1.esc hv hes
    cases d <;> simp only [itK] at q1 <;> try (exact q1.elim)
    · cases hr with
      | tup s r => exact ⟨_, rfl, ⟨_, sqT_mono (hide_le _ _).ext s⟩, q1 H1 O2 st2 e2 _ (walkD_tup (B := bs X) s r)⟩
  · exact q1.elim
theorem di_str (h : DE X W e fa) : DI X W tg e (dIt 2 fa) := PI.le (pi_str h) fun σ H R ⟨c, ρ, O, st, q⟩ => by
  unfold dIt at q
  refine tP.step st (Po.bind q) fun r ρ1 v H1 O1 st1 e1 hv q1 => ?_
  split at q1
  · rename_i d ρ2 hes
    obtain ⟨O2, st2, e2, hr⟩ := st1.esc hv hes
    cases d <;> simp only [itK] at q1 <;> try (exact q1.elim)
    · cases hr with
      | str z => exact ⟨_, rfl, q1 H1 O2 st2 e2 _ walkD_str⟩
  · exact q1.elim
theorem di_keys (h : DE X W e fa) : DI X W tg e (dIt 3 fa) := PI.le (pi_keysL h) fun σ H R ⟨c, ρ, O, st, q⟩ => by
  unfold dIt at q
  refine tP.step st (Po.bind q) fun r ρ1 v H1 O1 st1 e1 hv q1 => ?_
  split at q1
  · rename_i d ρ2 hes
    obtain ⟨O2, st2, e2, hr⟩ := st1.esc hv hes
    cases d <;> simp only [itK] at q1 <;> try (exact q1.elim)
    · cases hr with
      | dK s k r =>
        rename_i a kvs
        rcases s with s | ⟨ob, s⟩
        · obtain ⟨hO, hH⟩ := hide_some s
          refine ⟨a, kvs, rfl, .inr ⟨hH, fun ob => ?_⟩⟩
          obtain ⟨st3, e3⟩ := st2.lock hH hO rfl ob
          exact q1 _ O2 st3 (e2.trans e3) _ (walkD_keys (by rw [hide_out hO, upd_same]) k)
        · exact ⟨a, kvs, rfl, .inl ⟨ob, hide_le _ _ _ _ s, q1 H1 O2 st2 e2 _ (walkD_keys s k)⟩⟩
  · exact q1.elim
/-- a list, a tuple, a text or a dict -/
theorem di_any (h : DE X W e fa) : DI X W tg e (dItA fa) := DI.eq (DI.or (DI.or (DI.or (di_list h) (di_tup h)) (di_str h)) (di_keys h)) fun ρ hn => by
  unfold orF dItA dIt at *
  cases hf : fa ρ with
  | bad => rfl
  | ex x fs ρ' => rfl
  | ok r ρ1 =>
    rw [hf] at hn
    simp only [bind_ok] at hn ⊢
    cases hes : esc ρ1 r with
    | none => rfl
    | some q =>
      obtain ⟨d, ρ2⟩ := q
      cases d <;> rfl
def dRg1 (fs : M (List Rv)) : M (List D) := fun ρ => (fs ρ).bind fun rs ρ1 => match rds ρ1 rs with
  | some [.int j] => if -(2 ^ 62) ≤ j ∧ j < 2 ^ 62 then .ok (rngD 0 j.toNat) ρ1 else .bad
  | _ => .bad
def dRg2 (fs : M (List Rv)) : M (List D) := fun ρ => (fs ρ).bind fun rs ρ1 => match rds ρ1 rs with
  | some [.int i, .int j] => if -(2 ^ 62) ≤ i ∧ i < 2 ^ 62 ∧ -(2 ^ 62) ≤ j ∧ j < 2 ^ 62 then .ok (rngD i (j - i).toNat) ρ1 else .bad
  | _ => .bad
theorem di_rg1 {a : Expr} (hm : X.mg "range" = none) (h : DA X W [a] fs) (hg : Gl X "range" := by rfl) (hs : starEach [a] X.env = [(false, eval a X.env)] := by rfl) : DI X W tg (.Call (.Name "range" p) [a] [] pos) (dRg1 fs) := PI.le (pi_range1 hg hm h hs) fun σ H R ⟨c, ρ, O, st, q⟩ => by
  unfold dRg1 at q
  refine tAs.step st (Po.bind q) fun rs ρ1 vs H1 O1 st1 e1 hvs q1 => ?_
  split at q1
  · rename_i j hj
    split at q1
    · rename_i hb
      have := st1.vws hvs hj
      cases this with
      | cons h1 t =>
        cases t
        exact ⟨j, by rw [h1.int], hb.1, hb.2, q1 H1 O1 st1 (.refl _) _ walkD_range⟩
    · exact q1.elim
  · exact q1.elim
theorem di_rg2 {a b : Expr} (hm : X.mg "range" = none) (h : DA X W [a, b] fs) (hg : Gl X "range" := by rfl) (hs : starEach [a, b] X.env = [(false, eval a X.env), (false, eval b X.env)] := by rfl) (hs2 : starEach [b] X.env = [(false, eval b X.env)] := by rfl) : DI X W tg (.Call (.Name "range" p) [a, b] [] pos) (dRg2 fs) := PI.le (pi_range2 hg hm h hs hs2) fun σ H R ⟨c, ρ, O, st, q⟩ => by
  unfold dRg2 at q
  refine tAs.step st (Po.bind q) fun rs ρ1 vs H1 O1 st1 e1 hvs q1 => ?_
  split at q1
  · rename_i i j hj
    split at q1
    · rename_i hb
      have := st1.vws hvs hj
      cases this with
      | cons h1 t =>
        cases t with
        | cons h2 t =>
        cases t
        exact ⟨i, j, by rw [h1.int, h2.int], hb, q1 H1 O1 st1 (.refl _) _ walkD_range⟩
    · exact q1.elim
  · exact q1.elim
end
end Pu
namespace Pu
open PySem PySem.Spec PyProof.Rows L2 My

/-! ### a for over an owned list: it is pinned meanwhile -/
def chk {α : Type} (i n : Nat) (ρ : En) (bad : α) (k : List D → α) : α := match ρ[i]? with
  | some (some (.pin, .lst ds)) => if ds.length = n then k ds else bad
  | _ => bad
def dForP (g : TM) (body : SM) (i n : Nat) : Nat → SM
  | 0 => fun ρ => chk i n ρ .bad fun _ => .nx ρ
  | m + 1 => fun ρ => chk i n ρ .bad fun ds => match ds[n - (m + 1)]? with
    | none => .bad
    | some d => match g d ρ with
      | none => .bad
      | some ρ1 => match body ρ1 with
        | .nx ρ2 => dForP g body i n m ρ2
        | .ct ρ2 => dForP g body i n m ρ2
        | .bk ρ2 => .nx ρ2
        | o => o
def unpin (i : Nat) (ρ : En) : En := match ρ[i]? with
  | some (some (.pin, d)) => ρ.set i (some (.own, d))
  | _ => ρ
def SOut.mapE (f : En → En) : SOut → SOut
  | .nx ρ => .nx (f ρ)
  | .rt d ρ => .rt d (f ρ)
  | .bk ρ => .bk (f ρ)
  | .ct ρ => .ct (f ρ)
  | .ex x fs ρ => .ex x fs (f ρ)
  | .rf d ρ => .rf d (f ρ)
  | .bad => .bad
def Out.mapE {α : Type} (f : En → En) : Out α → Out α
  | .ok a ρ => .ok a (f ρ)
  | .ex x fs ρ => .ex x fs (f ρ)
  | .bad => .bad
/-- for t in x, x an owned list -/
def dForO (i : Nat) (g : TM) (body : SM) : SM := fun ρ => match ρ[i]? with
  | some (some (.own, .lst ds)) => (dForP g body i ds.length ds.length (ρ.set i (some (.pin, .lst ds)))).mapE (unpin i)
  | some (some (.pin, .lst ds)) => dForP g body i ds.length ds.length ρ
  | _ => .bad
section
variable {B : Bs} {c : Cst} {ρ ρ' : En} {σ : L2.St} {H H' : Hp} {O O' : List Addr} {v : V} {d : D} {i : Nat} {p : Addr}
def pinC (c : Cst) (i : Nat) (p : Addr) : Cst := ⟨fun j => if j = i then p else c.pa j, c.F, c.H0⟩
theorem Stt.topin (st : Stt B c ρ σ H O) (hi : ρ[i]? = some (some (.own, d))) (hs : σ[i]? = some (some (.ref p))) : Stt B (pinC c i p) (ρ.set i (some (.pin, d))) σ H O := by
  refine ⟨by simp [st.len], ?_, ?_, ?_, ?_, st.liv, st.frm⟩
  · intro j e q
    rcases get_set q with ⟨rfl, _, z⟩ | ⟨_, q⟩
    · cases z
    · exact st.val j e q
  · intro j k e q hk
    rcases get_set q with ⟨rfl, _, z⟩ | ⟨_, q⟩
    · cases z
      exact st.own j .own d hi (by decide)
    · exact st.own j k e q hk
  · intro a b r k l x y qa qb hk hl sa sb
    have ea : ∃ k' x', ρ[a]? = some (some (k', x')) ∧ k' ≠ .val := by
      rcases get_set qa with ⟨rfl, _, z⟩ | ⟨_, qa⟩
      · exact ⟨.own, d, hi, by decide⟩
      · exact ⟨k, x, qa, hk⟩
    have eb : ∃ k' x', ρ[b]? = some (some (k', x')) ∧ k' ≠ .val := by
      rcases get_set qb with ⟨rfl, _, z⟩ | ⟨_, qb⟩
      · exact ⟨.own, d, hi, by decide⟩
      · exact ⟨l, y, qb, hl⟩
    obtain ⟨k1, x1, e1, n1⟩ := ea
    obtain ⟨k2, x2, e2, n2⟩ := eb
    exact st.sep a b r k1 k2 x1 x2 e1 e2 n1 n2 sa sb
  · intro j e q
    rcases get_set q with ⟨rfl, _, z⟩ | ⟨hj, q⟩
    · simp [pinC, hs]
    · simp only [pinC, if_neg hj]
      exact st.pin j e q
theorem unpin_get {j : Nat} {x : Option (Kd × D)} (h : (unpin i ρ)[j]? = some x) : ρ[j]? = some x ∨ (j = i ∧ ∃ d, x = some (.own, d) ∧ ρ[i]? = some (some (.pin, d))) := by
  unfold unpin at h
  split at h
  · rename_i d hd
    rcases get_set h with ⟨rfl, _, z⟩ | ⟨_, q⟩
    · exact .inr ⟨rfl, d, z, hd⟩
    · exact .inl q
  · exact .inl h
theorem unpin_len : (unpin i ρ).length = ρ.length := by
  unfold unpin
  split <;> simp
theorem unpin_nopin {e : D} (h : (unpin i ρ)[i]? = some (some (.pin, e))) : False := by
  unfold unpin at h
  split at h
  · rename_i d hd
    rcases get_set h with ⟨_, _, z⟩ | ⟨z, _⟩
    · cases z
    · exact z rfl
  · rename_i hn
    exact hn e h
theorem Stt.unpin (st : Stt B (pinC c i p) ρ σ H O) : Stt B c (Pu.unpin i ρ) σ H O := by
  refine ⟨by rw [unpin_len]; exact st.len, ?_, ?_, ?_, ?_, st.liv, st.frm⟩
  · intro j e q
    rcases unpin_get q with q | ⟨rfl, d, z, hd⟩
    · exact st.val j e q
    · cases z
  · intro j k e q hk
    rcases unpin_get q with q | ⟨rfl, d, z, hd⟩
    · exact st.own j k e q hk
    · cases z
      exact st.own j .pin _ hd (by decide)
  · intro a b r k l x y qa qb hk hl sa sb
    have ea : ∃ k' x', ρ[a]? = some (some (k', x')) ∧ k' ≠ .val := by
      rcases unpin_get qa with qa | ⟨rfl, d, z, hd⟩
      · exact ⟨k, x, qa, hk⟩
      · exact ⟨.pin, _, hd, by decide⟩
    have eb : ∃ k' x', ρ[b]? = some (some (k', x')) ∧ k' ≠ .val := by
      rcases unpin_get qb with qb | ⟨rfl, d, z, hd⟩
      · exact ⟨l, y, qb, hl⟩
      · exact ⟨.pin, _, hd, by decide⟩
    obtain ⟨k1, x1, e1, n1⟩ := ea
    obtain ⟨k2, x2, e2, n2⟩ := eb
    exact st.sep a b r k1 k2 x1 x2 e1 e2 n1 n2 sa sb
  · intro j e q
    by_cases hj : j = i
    · subst hj
      exact (unpin_nopin q).elim
    · rcases unpin_get q with q | ⟨z, _⟩
      · have := st.pin j e q
        simpa [pinC, hj] using this
      · exact absurd z hj
theorem Free.unpin {q : Addr} (h : Free ρ σ q) : Free (Pu.unpin i ρ) σ q := fun j k e hj hk z => by
  rcases unpin_get hj with hj | ⟨rfl, d, zz, hd⟩
  · exact h j k e hj hk z
  · exact h j .pin d hd (by decide) z
theorem SPo.unpin {W : WX} {E : Ends} {o : SOut} (h : SPo B c W E H O (o.mapE (Pu.unpin i))) : SPo B (pinC c i p) W E H O o := by
  cases o with
  | nx ρ' => exact fun σ' H' O' st e => h σ' H' O' st.unpin e
  | rt d ρ' => exact fun v σ' H' O' st e => h v σ' H' O' st.unpin e
  | bk ρ' => exact fun σ' H' O' st e => h σ' H' O' st.unpin e
  | ct ρ' => exact fun σ' H' O' st e => h σ' H' O' st.unpin e
  | ex x fs ρ' => exact fun dd σ' H' O' st e => h dd σ' H' O' st.unpin e
  | rf d ρ' => exact fun q o σ' H' O' st e h1 h2 h3 h4 => h q o σ' H' O' st.unpin e h1 h2 h3.unpin h4
  | bad => exact h
theorem Po.unpin {α : Type} {W : WX} {R : α → En → Hp → List Addr → Prop} {o : Out α} (h : Po B c W σ H O (fun a ρ' H' O' => R a ρ' H' O') (o.mapE (Pu.unpin i))) : Po B (pinC c i p) W σ H O (fun a ρ' H' O' => R a (Pu.unpin i ρ') H' O') o := by
  cases o with
  | ok a ρ' => exact fun H' O' st e => h H' O' st.unpin e
  | ex x fs ρ' => exact fun dd H' O' st e => h dd H' O' st.unpin e
  | bad => exact h
theorem chk_some {α : Type} {i n : Nat} {ρ : En} {bad : α} {k : List D → α} (P : α → Prop) (hb : ¬ P bad) (h : P (chk i n ρ bad k)) : ∃ ds, ρ[i]? = some (some (.pin, .lst ds)) ∧ ds.length = n ∧ P (k ds) := by
  unfold chk at h
  split at h
  · rename_i ds hd
    split at h
    · rename_i hl
      exact ⟨ds, hd, hl, h⟩
    · exact absurd h hb
  · exact absurd h hb
theorem walk_pin {K : PySem.W.Frag} {n : Nat} : Walk (Itl K p) n (fun H => ∃ ys : List V, H p = some (.lst ys) ∧ ys.length = n) (fun k H x H' => H' = H ∧ ∀ ys : List V, H p = some (.lst ys) → ys[k]? = some x) := by
  refine ⟨?_, ?_, ?_⟩
  · rintro k H hk ⟨ys, h, hl⟩
    exact ⟨ys, ys[k]'(by omega), .inl (.inl h), List.getElem?_eq_getElem _⟩
  · rintro H ⟨ys, h, hl⟩
    exact ⟨ys, .inl (.inl h), by omega⟩
  · rintro k H x H' hk ⟨ys, h, hl⟩ ⟨e, y⟩
    exact ⟨e, fun zs hz => y zs (.inl (.inl hz))⟩
/-- the pinned list as it stands -/
theorem Stt.atpin {ds : List D} (st : Stt B c ρ σ H O) (hi : ρ[i]? = some (some (.pin, .lst ds))) : ∃ ys, H (c.pa i) = some (.lst ys) ∧ RepL B (hide H O) ys ds := by
  obtain ⟨p, o, z1, z2, z3, z4, z5⟩ := st.own i .pin _ hi (by decide)
  have := st.pin i _ hi
  rw [z1] at this
  cases this
  obtain ⟨ys, rfl, r⟩ := z5.lst_inv
  exact ⟨ys, z4, r⟩
end
section
variable {X : Cx} {W : WX} {tg : Expr} {b1 : List Stmt} {g : TM} {ws : List Nat} {fb : SM} {pos ps : Pos} {x : Str} {i : Nat}
theorem forP_core {c : Cst} {ρ : En} {O : List Addr} {σ : L2.St} {H : Hp} {E : Ends} {ds : List D} (st : Stt (bs X) c ρ σ H O) (hi : ρ[i]? = some (some (.pin, .lst ds))) (q : SPo (bs X) c W E H O (dForP g fb i ds.length ds.length ρ)) : tFor (iList X.K (tVar i)) (tG (bs X) g ws) (tS (bs X) W fb) E σ H := by
  obtain ⟨ys, hy, ry⟩ := st.atpin hi
  refine ⟨_, st.pin i _ hi, _, rfl, ⟨ys, .inl (.inl hy)⟩, ?_⟩
  refine for_it (walk_pin (n := ds.length)) (fun k σ' H' => ∃ ρ' O', Stt (bs X) c ρ' σ' H' O' ∧ SPo (bs X) c W E H' O' (dForP g fb i ds.length (ds.length - k) ρ')) ⟨ρ, O, st, by simpa using q⟩ ?_ ?_ ?_
  · rintro k σ' H' hk ⟨ρ', O', st', q'⟩
    have : ∃ ds', ρ'[i]? = some (some (.pin, .lst ds')) ∧ ds'.length = ds.length := by
      cases hm : ds.length - k with
      | zero =>
        rw [hm] at q'
        unfold dForP at q'
        obtain ⟨ds', h1, h2, _⟩ := chk_some (fun o => SPo (bs X) c W E H' O' o) (bad := SOut.bad) (fun z => z) q'
        exact ⟨ds', h1, h2⟩
      | succ m =>
        rw [hm] at q'
        unfold dForP at q'
        obtain ⟨ds', h1, h2, _⟩ := chk_some (fun o => SPo (bs X) c W E H' O' o) (bad := SOut.bad) (fun z => z) q'
        exact ⟨ds', h1, h2⟩
    obtain ⟨ds', h1, h2⟩ := this
    obtain ⟨ys', hy', ry'⟩ := st'.atpin h1
    exact ⟨ys', hy', by rw [ry'.length]; exact h2⟩
  · rintro k v σ' H' H'' hk ⟨ρ', O', st', q'⟩ ⟨rfl, y⟩
    obtain ⟨m, hm⟩ : ∃ m, ds.length - k = m + 1 := ⟨ds.length - k - 1, by omega⟩
    rw [hm] at q'
    unfold dForP at q'
    obtain ⟨ds', h1, h2, q'⟩ := chk_some (fun o => SPo (bs X) c W E H'' O' o) (bad := SOut.bad) (fun z => z) q'
    obtain ⟨ys', hy', ry'⟩ := st'.atpin h1
    have hyk := y ys' hy'
    rw [show ds.length - (m + 1) = k by omega] at q'
    obtain ⟨d, hd, hr⟩ := ry'.get' hyk
    simp only [hd] at q'
    split at q'
    · exact q'.elim
    · rename_i ρ2 hg2
      refine ⟨c, ρ', O', d, ρ2, st', hr, hg2, fun σ2 _ st2 => ⟨c, ρ2, O', st2, ?_⟩⟩
      have hk1 : ds.length - (k + 1) = m := by omega
      cases hf : fb ρ2 with
      | nx ρ3 => rw [hf] at q'; exact fun σ3 H3 O3 st3 e3 => ⟨ρ3, O3, st3, by rw [hk1]; exact SPo.mono q' e3⟩
      | ct ρ3 => rw [hf] at q'; exact fun σ3 H3 O3 st3 e3 => ⟨ρ3, O3, st3, by rw [hk1]; exact SPo.mono q' e3⟩
      | bk ρ3 => rw [hf] at q'; exact q'
      | rt d ρ3 => rw [hf] at q'; exact q'
      | ex x fs ρ3 => rw [hf] at q'; exact q'
      | rf d ρ3 => rw [hf] at q'; exact q'
      | bad => rw [hf] at q'; exact q'
  · rintro σ' H' ⟨ρ', O', st', q'⟩
    rw [Nat.sub_self] at q'
    unfold dForP at q'
    obtain ⟨ds', h1, h2, q'⟩ := chk_some (fun o => SPo (bs X) c W E H' O' o) (bad := SOut.bad) (fun z => z) q'
    exact q' σ' H' O' st' (.refl _)
theorem ds_forO (hp : PassesOwn (model X.prog X.w) X.A X.env X.xe) (hc : X.calm = true) (hx : PE X (.Name x ps) (tVar i)) (hg : DG X tg g ws) (hb : DSs X W b1 fb) (hs : ∀ y, foldedSetIterable (.Name x ps) X.env y = pure y := by intro _; rfl) : DS X W (.For tg (.Name x ps) b1 [] pos) (dForO i g fb) := PS.le (ps_for hp hc (pi_list hx) hg hb hs) fun E σ H ⟨c, ρ, O, st, q⟩ => by
  unfold dForO at q
  split at q
  · rename_i ds hi
    obtain ⟨p, o, z1, z2, z3, z4, z5⟩ := st.own i .own _ hi (by decide)
    have hl : i < ρ.length := by
      rcases Nat.lt_or_ge i ρ.length with h | h
      · exact h
      · rw [List.getElem?_eq_none h] at hi; cases hi
    exact forP_core (st.topin hi z1) (by rw [List.getElem?_set_self hl]) (SPo.unpin q)
  · rename_i ds hi
    exact forP_core st hi q
  · exact q.elim
end

/-! ### a comprehension over an owned list -/
def dLcPL (g : TM) (ct : M Bool) (fe : M Rv) (vs : List Nat) (i n : Nat) : Nat → List D → En → Out (List D)
  | 0, acc, ρ => chk i n (wipeE ρ vs) .bad fun _ => .ok acc ρ
  | m + 1, acc, ρ => chk i n (wipeE ρ vs) .bad fun ds => match ds[n - (m + 1)]? with
    | none => .bad
    | some d => match g d (wipeE ρ vs) with
      | none => .bad
      | some ρ1 => match ct ρ1 with
        | .ok true ρ2 => match fe ρ2 with
          | .ok r ρ3 => match esc ρ3 r with
            | some (y, ρ4) => if acc.length < sizeLine then dLcPL g ct fe vs i n m (acc ++ [y]) ρ4 else .bad
            | none => .bad
          | _ => .bad
        | .ok false ρ2 => dLcPL g ct fe vs i n m acc ρ2
        | _ => .bad
def dLcP (i n : Nat) (g : TM) (ct : M Bool) (fe : M Rv) (vs : List Nat) : M D := fun ρ => match dLcPL g ct fe vs i n n [] ρ with
  | .ok acc ρ2 => .ok (.lst acc) (wipeE ρ2 vs)
  | _ => .bad
def dLcO (i : Nat) (g : TM) (ct : M Bool) (fe : M Rv) (vs : List Nat) : M D := fun ρ => match ρ[i]? with
  | some (some (.own, .lst ds)) => (dLcP i ds.length g ct fe vs (ρ.set i (some (.pin, .lst ds)))).mapE (unpin i)
  | some (some (.pin, .lst ds)) => dLcP i ds.length g ct fe vs ρ
  | _ => .bad
section
variable {X : Cx} {W : WX} {elt tg iter e : Expr} {ifs : List Expr} {scope : Scope} {own : List (Str × Nat)} {pos : Pos} {g : TM} {ws vs : List Nat} {ct : M Bool} {fe : M Rv} {i : Nat}
theorem dLcPL_chk {n m : Nat} {acc : List D} {ρ : En} {res : List D} {ρr : En} (h : dLcPL g ct fe vs i n m acc ρ = .ok res ρr) : ∃ ds, (wipeE ρ vs)[i]? = some (some (.pin, .lst ds)) ∧ ds.length = n := by
  cases m with
  | zero =>
    unfold dLcPL at h
    obtain ⟨ds, h1, h2, _⟩ := chk_some (fun o => o = Out.ok res ρr) (bad := Out.bad) (fun z => by cases z) h
    exact ⟨ds, h1, h2⟩
  | succ m =>
    unfold dLcPL at h
    obtain ⟨ds, h1, h2, _⟩ := chk_some (fun o => o = Out.ok res ρr) (bad := Out.bad) (fun z => by cases z) h
    exact ⟨ds, h1, h2⟩
theorem lcP_le {B : Bs} (hw : ∀ w ∈ ws, w ∈ vs) {c : Cst} {ρ : En} {O : List Addr} {ds : List D} {σ : L2.St} {H : Hp} {Q : VK} (st1 : Stt B c ρ σ H O) (hi : ρ[i]? = some (some (.pin, .lst ds)))
    (q1 : Po B c W σ H O (fun d ρ' H' O' => ∀ p o, H' p = some o → p ∈ O' → Free ρ' σ p → p ∉ c.F → RepO B (hide H' O') o d → Q (.ref p) H') (dLcP i ds.length g ct fe vs ρ)) : tLc (iList B.K (tVar i)) (tG B g ws) (tQ B W ct) (tP B W fe) vs σ H Q := by
  obtain ⟨ys, hy, ry⟩ := st1.atpin hi
  refine ⟨_, st1.pin i _ hi, _, rfl, ⟨ys, .inl (.inl hy)⟩, ?_⟩
  intro Dd hD
  obtain ⟨s2, e2, f2, n2⟩ := st1.newO (o := .lst []) hD
  unfold dLcP at q1
  cases hrun : dLcPL g ct fe vs i ds.length ds.length [] ρ with
  | bad => rw [hrun] at q1; exact q1.elim
  | ex x fs ρ' => rw [hrun] at q1; exact q1.elim
  | ok res ρr =>
    rw [hrun] at q1
    refine lc_it (walk_pin (n := ds.length)) (fun k H' => ∃ ρ' O' acc av, Stt B c (wipeE ρ' vs) (L2.wipe σ vs) H' O' ∧ H' Dd = some (.lst av) ∧ Dd ∈ O' ∧ Free (wipeE ρ' vs) (L2.wipe σ vs) Dd ∧ RepL B (hide H' O') av acc ∧ Ext (hide H O) (hide H' O') ∧ dLcPL g ct fe vs i ds.length (ds.length - k) acc ρ' = .ok res ρr) ?_ ?_ ?_ ?_
    · refine ⟨ρ, Dd :: O, [], [], s2.wipe vs, upd_same, List.mem_cons_self, ?_, .nil, e2, by simpa using hrun⟩
      intro i k d h hk e
      obtain ⟨hi, h'⟩ := wipeE_none vs ρ i _ h
      rw [wipe_get vs σ i hi] at e
      exact f2 i k d h' hk e
    · rintro k H' hk ⟨ρ', O', acc, av, st', _, _, _, _, e', hq⟩
      obtain ⟨ds', h1, h2⟩ := dLcPL_chk hq
      obtain ⟨ys', hy', ry'⟩ := st'.atpin h1
      exact ⟨ys', hy', by rw [ry'.length]; exact h2⟩
    · rintro k x H' H'' hk ⟨ρ', O', acc, av, st', hd, hm, hf, hr, e', hq⟩ ⟨rfl, y⟩
      obtain ⟨m, hmm⟩ : ∃ m, ds.length - k = m + 1 := ⟨ds.length - k - 1, by omega⟩
      rw [hmm] at hq
      unfold dLcPL at hq
      obtain ⟨ds', h1, h2, hq⟩ := chk_some (fun o => o = Out.ok res ρr) (bad := Out.bad) (fun z => by cases z) hq
      obtain ⟨ys', hy', ry'⟩ := st'.atpin h1
      rw [show ds.length - (m + 1) = k by omega] at hq
      obtain ⟨d, hdd, hrx⟩ := ry'.get' (y ys' hy')
      simp only [hdd] at hq
      have hk1 : ds.length - (k + 1) = m := by omega
      split at hq
      · cases hq
      rename_i ρ2 hg2
      have st2 := st'.still hd hm hf
      refine ⟨_, wipeE ρ' vs, O', d, ρ2, st2, hrx, hg2, fun σ2 ag st3 => ⟨wipe_agr ag hw, _, ρ2, O', st3, ?_⟩⟩
      have ew := wipe_agr ag hw
      have hcc : ∀ q ∈ c.F, H'' q = c.H0 q := fun q hq => st'.frm q hq |>.2
      cases hct : ct ρ2 with
      | bad => rw [hct] at hq; cases hq
      | ex x fs ρ3 => rw [hct] at hq; cases hq
      | ok b ρ3 =>
        rw [hct] at hq
        intro H3 O3 st4 e3
        cases b with
        | false =>
          rw [if_neg (by decide)]
          obtain ⟨i1, i2⟩ := st4.frm Dd List.mem_cons_self
          have hD3 : H3 Dd = some (.lst av) := by rw [i2]; exact hd
          obtain ⟨s5, f5, m5, h5⟩ := st4.unstill (o := .lst av) hcc n2
          rw [upd_id hD3] at s5 h5
          refine ⟨ρ3, O3, acc, av, s5.to_wiped ew, hD3, m5, ?_, hr.mono e3, e'.trans e3, by rw [hk1]; exact hq⟩
          intro i k d h hk e
          obtain ⟨hi, h'⟩ := wipeE_none vs ρ3 i _ h
          rw [← ew, wipe_get vs σ2 i hi] at e
          exact f5 i k d h' hk e
        | true =>
          rw [if_pos rfl]
          refine ⟨_, ρ3, O3, st4, ?_⟩
          cases hfe : fe ρ3 with
          | bad => simp only [hfe] at hq; cases hq
          | ex x fs ρ4 => simp only [hfe] at hq; cases hq
          | ok r ρ4 =>
            simp only [hfe] at hq
            intro H4 O4 st5 e4 yv hyv
            cases hes : esc ρ4 r with
            | none => simp only [hes] at hq; cases hq
            | some z =>
              obtain ⟨y, ρ5⟩ := z
              simp only [hes] at hq
              by_cases hl : acc.length < sizeLine
              · rw [if_pos hl] at hq
                obtain ⟨O5, st6, e5, hry⟩ := st5.esc hyv hes
                obtain ⟨i1, i2⟩ := st6.frm Dd List.mem_cons_self
                have hD4 : H4 Dd = some (.lst av) := by rw [i2]; exact hd
                have all := e3.trans (e4.trans e5)
                have hr5 := hr.mono all
                refine ⟨av, hD4, by rw [hr.length]; exact hl, ?_⟩
                obtain ⟨s7, f7, m7, h7⟩ := st6.unstill (o := .lst (av ++ [yv])) hcc n2
                refine ⟨ρ5, O5, acc ++ [y], av ++ [yv], s7.to_wiped ew, upd_same, m7, ?_, ?_, ?_, by rw [hk1]; exact hq⟩
                · intro i k d h hk e
                  obtain ⟨hi, h'⟩ := wipeE_none vs ρ5 i _ h
                  rw [← ew, wipe_get vs σ2 i hi] at e
                  exact f7 i k d h' hk e
                · rw [h7]
                  exact hr5.append (.cons hry .nil)
                · rw [h7]
                  exact e'.trans all
              · rw [if_neg hl] at hq
                cases hq
    · rintro H' ⟨ρ', O', acc, av, st', hd, hm, hf, hr, e', hq⟩
      rw [Nat.sub_self] at hq
      unfold dLcPL at hq
      obtain ⟨ds', h1, h2, hq⟩ := chk_some (fun o => o = Out.ok res ρr) (bad := Out.bad) (fun z => by cases z) hq
      cases hq
      refine q1 H' O' st'.unwipe e' Dd _ hd hm ?_ n2 (.lst hr)
      intro i k d h hk e
      obtain ⟨hi, h'⟩ := wipeE_none vs ρr i _ h
      refine hf i k d h hk ?_
      rw [wipe_get vs σ i hi]
      exact e
theorem lcO_le {B : Bs} (hw : ∀ w ∈ ws, w ∈ vs) {σ : L2.St} {H : Hp} {Q : VK} (h : tF B W (dLcO i g ct fe vs) σ H Q) : tLc (iList B.K (tVar i)) (tG B g ws) (tQ B W ct) (tP B W fe) vs σ H Q := by
  obtain ⟨c, ρ, O, st, q⟩ := h
  unfold dLcO at q
  split at q
  · rename_i ds hi
    obtain ⟨p, o, z1, z2, z3, z4, z5⟩ := st.own i .own _ hi (by decide)
    have hl : i < ρ.length := by
      rcases Nat.lt_or_ge i ρ.length with h | h
      · exact h
      · rw [List.getElem?_eq_none h] at hi; cases hi
    refine lcP_le hw (st.topin hi z1) (by rw [List.getElem?_set_self hl]) ?_
    have := Po.unpin (p := p) q
    refine Po.mono this (.refl _) fun a ρ' H' O' z p o h1 h2 h3 h4 h5 => z p o h1 h2 h3.unpin h4 h5
  · rename_i ds hi
    exact lcP_le hw st hi q
  · exact q.elim
theorem df_lcO (h : PE X e (tLc (iList X.K (tVar i)) (tG (bs X) g ws) (tQ (bs X) W ct) (tP (bs X) W fe) vs)) (hw : ∀ w ∈ ws, w ∈ vs := by decide) : DF X W e (dLcO i g ct fe vs) := PE.le h fun σ H Q q => lcO_le hw q
theorem ds_setLcO {st : Stmt} {j : Nat} (h : PS X st (tAsg (tLc (iList X.K (tVar i)) (tG (bs X) g ws) (tQ (bs X) W ct) (tP (bs X) W fe) vs) (gName j))) (hw : ∀ w ∈ ws, w ∈ vs := by decide) : DS X W st (dSetO j (dLcO i g ct fe vs)) := PS.le h fun E σ H ⟨c, ρ, O, s, q⟩ => by
  unfold dSetO at q
  refine lcO_le hw ⟨c, ρ, O, s, ?_⟩
  have q' := SPo.then (σ := σ) q
  cases hf : dLcO i g ct fe vs ρ with
  | ok d ρ1 =>
    rw [hf] at q'
    intro H' O' st' e' p o ho hp hfr hF hr
    exact q' H' O' st' e' _ H' O' (st'.setO j ho hp hF hfr hr) (.refl _)
  | ex x fs ρ1 => rw [hf] at q'; exact q'
  | bad => rw [hf] at q'; exact q'
end
end Pu
namespace My
open PySem PySem.Spec PyProof.Rows L2
/-- where the __init__ of the class at C stands -/
def fi (K : PySem.W.Frag) (C : Addr) : Addr := match PySem.W.findIn K (.ref C) "__init__" with
  | some (some (.ref f)) => f
  | _ => 0
abbrev Ex (P : Program) (K : PySem.W.Frag) (mg : Str → Option Value) (x : Str) (st : Stmt) (fs : List Str) : Prop := Er P K mg x (fa mg x) (fi K (fa mg x)) (fdOf K (fi K (fa mg x))) st fs
end My
namespace Pu
open PySem PySem.Spec PyProof.Rows L2 My

/-! ### several values at once: data, or new objects -/
inductive Src where
  | v (d : D) | o (d : D)
inductive SrcsOk (B : Bs) (c : Cst) (ρ : En) (σ : L2.St) (H : Hp) (O : List Addr) : List V → List Src → List Addr → Prop
  | nil : SrcsOk B c ρ σ H O [] [] []
  | v {u : V} {d : D} {vs : List V} {ss : List Src} {ps : List Addr} : Rep B (hide H O) u d → SrcsOk B c ρ σ H O vs ss ps → SrcsOk B c ρ σ H O (u :: vs) (.v d :: ss) ps
  | o {p : Addr} {ob : HO} {d : D} {vs : List V} {ss : List Src} {ps : List Addr} : H p = some ob → p ∈ O → Free ρ σ p → p ∉ c.F → RepO B (hide H O) ob d → p ∉ ps → SrcsOk B c ρ σ H O vs ss ps → SrcsOk B c ρ σ H O (.ref p :: vs) (.o d :: ss) (p :: ps)
def tXs (B : Bs) (W : WX) (f : M (List Src)) : TA := fun σ H Q => ∃ c ρ O, Stt B c ρ σ H O ∧ Po B c W σ H O (fun ss ρ' H' O' => ∀ vs ps, SrcsOk B c ρ' σ H' O' vs ss ps → Q vs H') (f ρ)
abbrev DX (X : Cx) (W : WX) (es : List Expr) (f : M (List Src)) : Prop := PA X es (tXs (bs X) W f)
def xNil : M (List Src) := fun ρ => .ok [] ρ
def xV (fa : M Rv) (fs : M (List Src)) : M (List Src) := fun ρ => (fa ρ).bind fun r ρ1 => match esc ρ1 r with
  | some (d, ρ2) => (fs ρ2).bind fun ss ρ3 => .ok (.v d :: ss) ρ3
  | none => .bad
def xO (ff : M D) (fs : M (List Src)) : M (List Src) := fun ρ => (ff ρ).bind fun d ρ1 => (fs ρ1).bind fun ss ρ2 => .ok (.o d :: ss) ρ2
section
variable {B : Bs} {c : Cst} {ρ ρ' : En} {σ : L2.St} {H H' H1 : Hp} {O O' : List Addr} {p : Addr} {o0 : HO} {W : WX}
/-- what stood still, seen again -/
theorem Stt.unstill' (st : Stt B ⟨c.pa, p :: c.F, H1⟩ ρ σ H O) (hc : ∀ q ∈ c.F, H1 q = c.H0 q) (hF : p ∉ c.F) (hp : H1 p = some o0) : Stt B c ρ σ H O ∧ Free ρ σ p ∧ p ∈ O ∧ H p = some o0 := by
  have h0 : H p = some o0 := by rw [(st.frm p List.mem_cons_self).2]; exact hp
  obtain ⟨a, b, d, _⟩ := st.unstill (o := o0) hc hF
  rw [upd_id h0] at a
  exact ⟨a, b, d, h0⟩
theorem Po.still {α : Type} {R : α → En → Hp → List Addr → Prop} {out : Out α} (h : Po B c W σ H O R out) (hc : ∀ q ∈ c.F, H1 q = c.H0 q) (hF : p ∉ c.F) (hp : H1 p = some o0) :
    Po B ⟨c.pa, p :: c.F, H1⟩ W σ H O (fun a ρ' H' O' => Stt B c ρ' σ H' O' ∧ Free ρ' σ p ∧ p ∈ O' ∧ H' p = some o0 ∧ R a ρ' H' O') out := by
  cases out with
  | ok a ρ' =>
    intro H' O' st e
    obtain ⟨s, f, m, z⟩ := st.unstill' hc hF hp
    exact ⟨s, f, m, z, h H' O' s e⟩
  | ex x fs ρ' => exact fun dd H' O' st e xa => h dd H' O' (st.unstill' hc hF hp).1 e xa
  | bad => exact h
end
section
variable {X : Cx} {W : WX} {e : Expr} {es : List Expr} {fa : M Rv} {ff : M D} {fs : M (List Src)}
theorem dx_nil : DX X W [] xNil := PA.le pa_nil fun σ H Q ⟨c, ρ, O, st, q⟩ => q H O st (.refl _) [] [] .nil
theorem dx_v (ha : DE X W e fa) (hr : DX X W es fs) (hs : starEach (e :: es) X.env = (false, eval e X.env) :: starEach es X.env := by rfl) : DX X W (e :: es) (xV fa fs) := PA.le (pa_cons ha hr hs) fun σ H Q ⟨c, ρ, O, st, q⟩ => by
  unfold xV at q
  refine tP.step st (Po.bind q) fun r ρ1 v H1 O1 st1 e1 hv q1 => ?_
  split at q1
  · rename_i d ρ2 hes
    obtain ⟨O2, st2, e2, hr2⟩ := st1.esc hv hes
    have q2 := Po.bind q1
    cases hf : fs ρ2 with
    | bad => rw [hf] at q2; exact q2.elim
    | ex x gs ρ3 => exact ⟨c, ρ2, O2, st2, by rw [hf] at q2 ⊢; exact fun dd H' O' s e => q2 dd H' O' s (e2.trans e)⟩
    | ok ss ρ3 =>
      refine ⟨c, ρ2, O2, st2, ?_⟩
      rw [hf] at q2 ⊢
      intro H3 O3 st3 e3 vs ps hvs
      exact q2 H3 O3 st3 (e2.trans e3) H3 O3 st3 (.refl _) (v :: vs) ps (.v (hr2.mono e3) hvs)
  · exact q1.elim
theorem dx_o (ha : DF X W e ff) (hr : DX X W es fs) (hs : starEach (e :: es) X.env = (false, eval e X.env) :: starEach es X.env := by rfl) : DX X W (e :: es) (xO ff fs) := PA.le (pa_cons ha hr hs) fun σ H Q ⟨c, ρ, O, st, q⟩ => by
  unfold xO at q
  have q0 := Po.bind q
  refine ⟨c, ρ, O, st, ?_⟩
  cases hff : ff ρ with
  | bad => rw [hff] at q0; exact q0
  | ex x gs ρ1 => rw [hff] at q0; exact q0
  | ok d ρ1 =>
    rw [hff] at q0
    intro H1 O1 st1 e1 p o ho hp hfr hF hro
    have q1 := Po.bind (q0 H1 O1 st1 e1)
    have q2 := Po.still q1 (fun q hq => (st1.frm q hq).2) hF ho
    refine ⟨_, ρ1, O1, st1.still ho hp hfr, ?_⟩
    cases hf : fs ρ1 with
    | bad => rw [hf] at q2; exact q2
    | ex x gs ρ2 => rw [hf] at q2; exact q2
    | ok ss ρ2 =>
      rw [hf] at q2
      intro H2 O2 st2 e2 vs ps hvs
      obtain ⟨s, f, m, z, q3⟩ := q2 H2 O2 st2 e2
      have hro2 := hro.mono e2
      have key : ∀ {vs : List V} {ss : List Src} {ps : List Addr}, SrcsOk (bs X) ⟨c.pa, p :: c.F, H1⟩ ρ2 σ H2 O2 vs ss ps → SrcsOk (bs X) c ρ2 σ H2 O2 vs ss ps ∧ p ∉ ps := by
        intro vs ss ps h
        induction h with
        | nil => exact ⟨.nil, by simp⟩
        | v r _ ih => exact ⟨.v r ih.1, ih.2⟩
        | o h1 h2 h3 h4 h5 h6 _ ih =>
          rw [List.mem_cons, not_or] at h4
          refine ⟨.o h1 h2 h3 h4.2 h5 h6 ih.1, ?_⟩
          rw [List.mem_cons, not_or]
          exact ⟨fun z => h4.1 z.symm, ih.2⟩
      obtain ⟨k1, k2⟩ := key hvs
      exact q3 H2 O2 s (.refl _) (.ref p :: vs) (p :: ps) (.o z m f hF hro2 k2 k1)
/-- the stores -/
def putS (ρ : En) : List Nat → List Src → Option En
  | [], [] => some ρ
  | i :: is, .v d :: ss => putS (ρ.set i (some (.val, d))) is ss
  | i :: is, .o d :: ss => putS (ρ.set i (some (.own, d))) is ss
  | _, _ => none
def putV (σ : L2.St) : List Nat → List V → L2.St
  | i :: is, v :: vs => putV (σ.set i (some v)) is vs
  | _, _ => σ
theorem putS_ok {B : Bs} {c : Cst} {H : Hp} {O : List Addr} : ∀ {vs : List V} {ss : List Src} {ps : List Addr} {ρ ρ' : En} {σ : L2.St} (is : List Nat), Stt B c ρ σ H O → SrcsOk B c ρ σ H O vs ss ps → putS ρ is ss = some ρ' → Stt B c ρ' (putV σ is vs) H O := by
  have upd' : ∀ {vs : List V} {ss : List Src} {ps : List Addr} {ρ : En} {σ : L2.St} (i : Nat) (x : Option (Kd × D)) (u : V) (q : Option Addr), SrcsOk B c ρ σ H O vs ss ps → (∀ k d, x = some (k, d) → k ≠ .val → ∃ p, q = some p ∧ u = .ref p ∧ p ∉ ps) → ρ.length = σ.length → SrcsOk B c (ρ.set i x) (σ.set i (some u)) H O vs ss ps := by
    intro vs ss ps ρ σ i x u q h
    induction h with
    | nil => intro _ _; exact .nil
    | v r _ ih => intro a b; exact .v r (ih a b)
    | @o p ob d vs ss ps h1 h2 h3 h4 h5 h6 _ ih =>
      intro a b
      refine .o h1 h2 ?_ h4 h5 h6 (ih (fun k d e hk => ?_) b)
      · intro j k e hj hk z
        rcases get_set hj with ⟨rfl, hl, y⟩ | ⟨hji, hj⟩
        · obtain ⟨p', e1, e2, e3⟩ := a k e y.symm hk
          rw [List.getElem?_set_self (by omega)] at z
          rw [e2] at z
          cases z
          exact e3 List.mem_cons_self
        · rw [List.getElem?_set_ne (Ne.symm hji)] at z
          exact h3 j k e hj hk z
      · obtain ⟨p', e1, e2, e3⟩ := a k d e hk
        exact ⟨p', e1, e2, fun z => e3 (.tail _ z)⟩
  intro vs ss ps
  intro ρ ρ' σ is st h
  induction is generalizing vs ss ps ρ σ with
  | nil =>
    intro e
    cases h with
    | nil => simp only [putS] at e; cases e; exact st
    | v _ _ => simp only [putS] at e; cases e
    | o _ _ _ _ _ _ _ => simp only [putS] at e; cases e
  | cons i is ih =>
    intro e
    cases h with
    | nil => simp only [putS] at e; cases e
    | v r t =>
      simp only [putS] at e
      exact ih (st.set i r) (upd' i _ _ none t (fun k d z hk => by cases z; exact absurd rfl hk) st.len) e
    | o h1 h2 h3 h4 h5 h6 t =>
      simp only [putS] at e
      exact ih (st.setO i h1 h2 h4 h3 h5) (upd' i _ _ (some _) t (fun k d z hk => ⟨_, rfl, rfl, h6⟩) st.len) e
theorem SrcsOk.len {B : Bs} {c : Cst} {ρ : En} {σ : L2.St} {H : Hp} {O : List Addr} {vs : List V} {ss : List Src} {ps : List Addr} (h : SrcsOk B c ρ σ H O vs ss ps) : vs.length = ss.length := by
  induction h with
  | nil => rfl
  | v _ _ ih => simp [ih]
  | o _ _ _ _ _ _ _ ih => simp [ih]
theorem putS_len : ∀ {ss : List Src} {is : List Nat} {ρ ρ' : En}, putS ρ is ss = some ρ' → ss.length = is.length
  | [], [], _, _, _ => rfl
  | [], _ :: _, _, _, h => by simp only [putS] at h; cases h
  | .v _ :: _, [], _, _, h => by simp only [putS] at h; cases h
  | .o _ :: _, [], _, _, h => by simp only [putS] at h; cases h
  | .v _ :: ss, i :: is, _, _, h => by simp only [putS] at h; simp [putS_len h]
  | .o _ :: ss, i :: is, _, _, h => by simp only [putS] at h; simp [putS_len h]
def dPar (is : List Nat) (fs : M (List Src)) : SM := fun ρ => (fs ρ).then fun ss ρ1 => match putS ρ1 is ss with
  | some ρ2 => .nx ρ2
  | none => .bad
theorem par_le {E : Ends} {σ : L2.St} {H : Hp} {is : List Nat} (h : tS (bs X) W (dPar is fs) E σ H) : tXs (bs X) W fs σ H fun vs H1 => vs.length = is.length ∧ E.nx (putV σ is vs) H1 := by
  obtain ⟨c, ρ, O, st, q⟩ := h
  unfold dPar at q
  refine ⟨c, ρ, O, st, ?_⟩
  have q' := SPo.then (σ := σ) q
  cases hf : fs ρ with
  | bad => rw [hf] at q'; exact q'
  | ex x gs ρ1 => rw [hf] at q'; exact q'
  | ok ss ρ1 =>
    rw [hf] at q'
    intro H1 O1 st1 e1 vs ps hvs
    have q2 := q' H1 O1 st1 e1
    simp only at q2
    split at q2
    · rename_i ρ2 hp
      exact ⟨by rw [hvs.len, putS_len hp], q2 _ H1 O1 (putS_ok is st1 hvs hp) (.refl _)⟩
    · exact q2.elim
theorem ds_par2 {st : Stmt} {i j : Nat} (h : ∀ ta, PA X es ta → PS X st (tPar i j ta)) (hx : DX X W es fs) : DS X W st (dPar [i, j] fs) := PS.le (h _ hx) fun E σ H q => by
  obtain ⟨c, ρ, O, st, q⟩ := par_le q
  refine ⟨c, ρ, O, st, Po.mono q (.refl _) fun ss ρ' H' O' z vs ps hv => ?_⟩
  obtain ⟨h1, h2⟩ := z vs ps hv
  match vs, h1 with
  | [u, w], _ => exact ⟨u, w, rfl, h2⟩
theorem ds_par3 {st : Stmt} {i j l : Nat} (h : ∀ ta, PA X es ta → PS X st (tPar3 i j l ta)) (hx : DX X W es fs) : DS X W st (dPar [i, j, l] fs) := PS.le (h _ hx) fun E σ H q => by
  obtain ⟨c, ρ, O, st, q⟩ := par_le q
  refine ⟨c, ρ, O, st, Po.mono q (.refl _) fun ss ρ' H' O' z vs ps hv => ?_⟩
  obtain ⟨h1, h2⟩ := z vs ps hv
  match vs, h1 with
  | [u, w, y], _ => exact ⟨u, w, y, rfl, h2⟩
end

/-! ### x += e -/
def dAug (i : Nat) (g : D → D → Option D) (fe : M Rv) : SM := fun ρ => match ρ[i]? with
  | some (some (.val, d)) => (fe ρ).then fun r ρ1 => match rd ρ1 r with
    | some y => match g d y with
      | some z => .nx (ρ1.set i (some (.val, z)))
      | none => .bad
    | none => .bad
  | _ => .bad
def addI : D → D → Option D
  | .int i, .int j => some (.int (i + j))
  | _, _ => none
def subI : D → D → Option D
  | .int i, .int j => some (.int (i - j))
  | _, _ => none
section
variable {X : Cx} {W : WX} {e a b c : Expr} {es : List Expr} {fa fb fc fe : M Rv} {fs : M (List Rv)} {st : Stmt} {i : Nat} {pos p pos2 : Pos} {k : Nat}
theorem aug_le {op : Int → Int → Int} {g : D → D → Option D} {E : Ends} {σ : L2.St} {H : Hp} (hg : ∀ x y z, g x y = some z → ∃ i j, x = .int i ∧ y = .int j ∧ z = .int (op i j)) (h : tS (bs X) W (dAug i g fe) E σ H) : tAug i (tP (bs X) W fe) (ipI op) E σ H := by
  obtain ⟨c, ρ, O, st, q⟩ := h
  unfold dAug at q
  split at q
  · rename_i d hd
    obtain ⟨v, h1, h2⟩ := st.val i d hd
    refine ⟨v, h1, ?_⟩
    refine tP.step st (SPo.then q) fun r ρ1 y H1 O1 st1 e1 hy q1 => ?_
    split at q1
    · rename_i dy hdy
      split at q1
      · rename_i z hz
        obtain ⟨x', y', rfl, rfl, rfl⟩ := hg _ _ _ hz
        refine ⟨x', y', h2.int_inv, (st1.vw hy hdy).int, ?_⟩
        exact q1 _ H1 O1 (st1.set i (.int _)) (.refl _)
      · exact q1.elim
    · exact q1.elim
  · exact q.elim
theorem ds_augAdd (h : ∀ te, PE X e te → PS X st (tAug i te (ipI fun i j => i + j))) (he : DE X W e fe) : DS X W st (dAug i addI fe) := PS.le (h _ he) fun E σ H q => aug_le (fun x y z h => by
  unfold addI at h
  split at h
  · cases h; exact ⟨_, _, rfl, rfl, rfl⟩
  · cases h) q
theorem ds_augSub (h : ∀ te, PE X e te → PS X st (tAug i te (ipI fun i j => i - j))) (he : DE X W e fe) : DS X W st (dAug i subI fe) := PS.le (h _ he) fun E σ H q => aug_le (fun x y z h => by
  unfold subI at h
  split at h
  · cases h; exact ⟨_, _, rfl, rfl, rfl⟩
  · cases h) q

/-! ### raise x(e, ..) -/
def dRaise (x : Str) (fn : List Str) (fs : M (List Rv)) : SM := fun ρ => (fs ρ).then fun rs ρ1 => match escs ρ1 rs with
  | some (ds, ρ2) => if ds.length = fn.length ∧ ds.length ≤ 1000 ∧ fn ≠ [] then .ex x (fn.zip ds).reverse ρ2 else .bad
  | none => .bad
def dRaise0 (x : Str) : SM := fun ρ => .ex x [] ρ
theorem zip_rep {B : Bs} {G : Hp} {vs : List V} {ds : List D} (fn : List Str) (r : RepL B G vs ds) (hl : ds.length = fn.length) : ((fn.zip vs).reverse.map (·.1)) = ((fn.zip ds).reverse.map (·.1)) ∧ RepL B G ((fn.zip vs).reverse.map (·.2)) ((fn.zip ds).reverse.map (·.2)) := by
  have l1 : vs.length = fn.length := r.length.trans hl
  rw [List.map_reverse, List.map_reverse, List.map_reverse, List.map_reverse]
  have e1 : (fn.zip vs).map (·.1) = fn := List.map_fst_zip (by omega)
  have e2 : (fn.zip ds).map (·.1) = fn := List.map_fst_zip (by omega)
  have e3 : (fn.zip vs).map (·.2) = vs := List.map_snd_zip (by omega)
  have e4 : (fn.zip ds).map (·.2) = ds := List.map_snd_zip (by omega)
  rw [e1, e2, e3, e4]
  exact ⟨rfl, r.reverse⟩
theorem ds_raise {x : Str} {sI : Stmt} {fn : List Str} (R : Ex X.prog X.K X.mg x sI fn) (hr : RmG k X.A) (hk : 1 ≤ k) (hc : X.calm = true) (tk : Takes X W) (ha : DA X W (e :: es) fs) (hg : Gl X x := by rfl)
    (hdb : (x == ("__debug__" : Str)) = false := by decide) (he : starEach (e :: es) X.env = (false, eval e X.env) :: starEach es X.env := by rfl) (hpl : (backTo pos (starEach es X.env)).any (·.1) = false := by rfl) :
    DS X W (.Raise (some (.Call (.Name x p) (e :: es) [] pos)) none pos2) (dRaise x fn fs) := PS.le (ps_err R (hr.rm.mono hk) hc tk ha hg hdb he hpl) fun E σ H ⟨c, ρ, O, st, q⟩ => by
  unfold dRaise at q
  refine tAs.step st (SPo.then q) fun rs ρ1 vs H1 O1 st1 e1 hvs q1 => ?_
  split at q1
  · rename_i ds ρ2 hes
    obtain ⟨O2, st2, e2, hr2⟩ := escs_ok st1 hvs hes
    split at q1
    · rename_i hc
      obtain ⟨h1, h2, h3⟩ := hc
      refine mk_ok (C := My.fa X.mg x) (H := H1) (Q := fun cls d H' => W cls d σ H') (by rw [hr2.length]; exact h1) (by rw [hr2.length]; exact h2) h3 fun d hd => ?_
      have en : Same H1 (upd H1 d (.xd (fn.zip vs).reverse)) := Same.new hd
      obtain ⟨z1, z2⟩ := zip_rep fn (hr2.mono (same_hide en)) h1
      exact q1 (some d) σ _ O2 (st2.ext en) (e2.trans (same_hide en)) ⟨_, hide_new st2.liv hd, z1, z2⟩
    · exact q1.elim
  · exact q1.elim
theorem ds_raise0 {x : Str} {sI : Stmt} (R : Ex X.prog X.K X.mg x sI []) (hr : RmG k X.A) (hk : 1 ≤ k) (hc : X.calm = true) (tk : Takes X W) (hg : Gl X x := by rfl) (hdb : (x == ("__debug__" : Str)) = false := by decide) :
    DS X W (.Raise (some (.Call (.Name x p) [] [] pos)) none pos2) (dRaise0 x) := PS.le (ps_err0 R (hr.rm.mono hk) hc tk hg hdb) fun E σ H ⟨c, ρ, O, st, q⟩ => q none σ H O st (.refl _) rfl
/-- a statement that is never reached -/
def dNever : SM := fun _ => .bad
theorem ds_never : DS X W st dNever := ⟨fun pins s σ H D I ⟨c, ρ, O, _, q⟩ => q.elim⟩

/-! ### a < b < c -/
def dChain (g1 g2 : Int → Int → Bool) (fa fb fc : M Rv) : M Rv := fun ρ => (fa ρ).bind fun a ρ1 => (fb ρ1).bind fun b ρ2 => match rd ρ2 a, rd ρ2 b with
  | some (.int x), some (.int y) => if g1 x y = true then (fc ρ2).bind fun cc ρ3 => (match rd ρ3 cc with
      | some (.int z) => .ok (.val (.bl (g2 y z))) ρ3
      | _ => .bad) else .ok (.val (.bl false)) ρ2
  | _, _ => .bad
theorem chain_le {g1 g2 : Int → Int → Bool} {σ : L2.St} {H : Hp} {Q : VK} (h : tP (bs X) W (dChain g1 g2 fa fb fc) σ H Q) : tChain (rI0 fun i j => .bl (g1 i j)) (rI0 fun i j => .bl (g2 i j)) (tP (bs X) W fa) (tP (bs X) W fb) (tP (bs X) W fc) σ H Q := by
  obtain ⟨c, ρ, O, st, q⟩ := h
  unfold dChain at q
  refine tP.step st (Po.bind q) fun r1 ρ1 v H1 O1 st1 e1 hv q1 => ?_
  refine tP.step st1 (Po.bind q1) fun r2 ρ2 u H2 O2 st2 e2 hu q2 => ?_
  split at q2
  · rename_i x y hx hy
    have hvx := (st2.vw (hv.ext e2) hx).int
    have huy := (st2.vw hu hy).int
    subst hvx huy
    refine ⟨x, y, rfl, rfl, g1 x y, rfl, ?_⟩
    split at q2
    · rename_i hg
      rw [if_pos hg]
      refine tP.step st2 (Po.bind q2) fun r3 ρ3 w H3 O3 st3 e3 hw q3 => ?_
      split at q3
      · rename_i z hz
        have := (st3.vw hw hz).int
        subst this
        exact ⟨y, z, rfl, rfl, q3 H3 O3 st3 (.refl _) _ (.bl _)⟩
      · exact q3.elim
    · rename_i hg
      rw [if_neg hg]
      exact q2 H2 O2 st2 (.refl _) _ (.bl false)
  · exact q2.elim
theorem dB_le {B : Bs} {f : M Rv} {σ : L2.St} {H : Hp} {Q : Bool → Hp → Prop} (h : tQ B W (dB f) σ H Q) : tP B W f σ H fun v H' => ∃ k, v = .bl k ∧ Q k H' := by
  obtain ⟨c, ρ, O, st, q⟩ := h
  unfold dB at q
  refine tP.step st (Po.bind q) fun r1 ρ1 v H1 O1 st1 e1 hv q1 => ?_
  split at q1
  · rename_i x hx
    cases x <;> simp only [bD, outB] at q1 <;> first | exact q1.elim | skip
    exact ⟨_, (st1.vw hv hx).bl, q1 H1 O1 st1 (.refl _)⟩
  · exact q1.elim
theorem de_chain {op op' : CmpOp} {g1 g2 : Int → Int → Bool} (h1 : OpR X (compareOp op) (rI0 fun i j => .bl (g1 i j))) (h2 : OpR X (compareOp op') (rI0 fun i j => .bl (g2 i j))) (ha : DE X W a fa) (hb : DE X W b fb) (hc : DE X W c fc) (hm : lastMarks [op, op'] [b, c] = false := by with_unfolding_all rfl) :
    DE X W (.Compare a [op, op'] [b, c] pos) (dChain g1 g2 fa fb fc) := PE.le (pe_chain h1 h2 ha hb hc hm) fun σ H Q q => chain_le q
theorem dt_chain {op op' : CmpOp} {g1 g2 : Int → Int → Bool} (h1 : OpR X (compareOp op) (rI0 fun i j => .bl (g1 i j))) (h2 : OpR X (compareOp op') (rI0 fun i j => .bl (g2 i j))) (ha : DE X W a fa) (hb : DE X W b fb) (hc : DE X W c fc) (hm : lastMarks [op, op'] [b, c] = false := by with_unfolding_all rfl) :
    DT X W (.Compare a [op, op'] [b, c] pos) (dB (dChain g1 g2 fa fb fc)) := PT.le (pt_chain h1 h2 ha hb hc hm) fun σ H Q ⟨c, ρ, O, st, q⟩ => by
  exact chain_le (dB_le ⟨c, ρ, O, st, q⟩)
end
end Pu
namespace SrtK
open PySem PyProof.Rows SrtO

/-! ### one stable sort -/
section
variable {α : Type} {lt : α → α → Bool}
def ins (lt : α → α → Bool) (x : α) : List α → List α
  | [] => [x]
  | y :: l => if lt y x = true then y :: ins lt x l else x :: y :: l
def isort (lt : α → α → Bool) : List α → List α
  | [] => []
  | x :: l => ins lt x (isort lt l)
theorem ins_perm (x : α) : ∀ l : List α, (ins lt x l).Perm (x :: l)
  | [] => .refl _
  | y :: l => by
    unfold ins
    split
    · exact ((ins_perm x l).cons y).trans (.swap x y l)
    · exact .refl _
theorem isort_perm : ∀ l : List α, (isort lt l).Perm l
  | [] => .refl _
  | x :: l => (ins_perm x _).trans ((isort_perm l).cons x)
theorem ins_srtd (O : Swo lt) (x : α) : ∀ l : List α, Srtd lt l → Srtd lt (ins lt x l)
  | [], _ => srtd_one x
  | y :: l, h => by
    unfold ins
    split
    · rename_i hl
      refine List.pairwise_cons.mpr ⟨fun z hz => ?_, ins_srtd O x l (List.pairwise_cons.mp h).2⟩
      rcases List.mem_cons.mp ((ins_perm x l).mem_iff.mp hz) with rfl | hz
      · exact O.asym _ _ hl
      · exact srtd_head h z hz
    · rename_i hl
      refine List.pairwise_cons.mpr ⟨fun z hz => ?_, h⟩
      exact O.le_all h (by cases e : lt y x with | true => exact absurd e hl | false => rfl) z hz
theorem isort_srtd (O : Swo lt) : ∀ l : List α, Srtd lt (isort lt l)
  | [] => .nil
  | x :: l => ins_srtd O x _ (isort_srtd O l)
theorem ins_cls (O : Swo lt) (x z : α) : ∀ l : List α, (ins lt x l).filter (eqv lt z) = (x :: l).filter (eqv lt z)
  | [] => rfl
  | y :: l => by
    unfold ins
    split
    · rename_i hl
      have ih := ins_cls O x z l
      rw [List.filter_cons, ih, List.filter_cons, List.filter_cons, List.filter_cons]
      cases hx : eqv lt z x with
      | false => simp
      | true =>
        cases hy : eqv lt z y with
        | false => simp
        | true =>
          obtain ⟨a, b⟩ := eqv_iff.mp hx
          obtain ⟨c, d⟩ := eqv_iff.mp hy
          have := O.tr x z y a d
          rw [hl] at this
          cases this
    · rfl
theorem isort_stb (O : Swo lt) : ∀ l : List α, Stb lt (isort lt l) l
  | [] => .refl _
  | x :: l => ⟨isort_perm _, fun z => by
    rw [show isort lt (x :: l) = ins lt x (isort lt l) from rfl, ins_cls O, List.filter_cons, List.filter_cons, (isort_stb O l).cls z]⟩
theorem uniq (O : Swo lt) : ∀ l m : List α, Srtd lt l → Srtd lt m → Stb lt l m → l = m
  | [], m, _, _, h => (List.nil_perm.mp h.perm).symm
  | x :: l, [], _, _, h => by have := h.perm.length_eq; simp at this
  | x :: l, y :: m, hl, hm, h => by
    have hy : y ∈ x :: l := h.perm.mem_iff.mpr List.mem_cons_self
    have hx : x ∈ y :: m := h.perm.mem_iff.mp List.mem_cons_self
    have h1 : lt y x = false := by
      rcases List.mem_cons.mp hy with e | q
      · rw [e]; exact O.refl x
      · exact srtd_head hl y q
    have h2 : lt x y = false := by
      rcases List.mem_cons.mp hx with e | q
      · rw [e]; exact O.refl y
      · exact srtd_head hm x q
    have c := h.cls x
    rw [List.filter_cons, List.filter_cons, if_pos (eqv_iff.mpr ⟨O.refl x, O.refl x⟩), if_pos (eqv_iff.mpr ⟨h2, h1⟩)] at c
    obtain ⟨rfl, _⟩ := List.cons.inj c
    rw [uniq O l m (List.pairwise_cons.mp hl).2 (List.pairwise_cons.mp hm).2 ⟨h.perm.cons_inv, fun z => ?_⟩]
    have c2 := h.cls z
    rw [List.filter_cons, List.filter_cons] at c2
    split at c2
    · exact (List.cons.inj c2).2
    · exact c2
theorem is_isort (O : Swo lt) {l m : List α} (h1 : Srtd lt l) (h2 : Stb lt l m) : l = isort lt m := by
  refine uniq O _ _ h1 (isort_srtd O m) (h2.trans ?_)
  have := isort_stb O m
  exact ⟨this.perm.symm, fun x => (this.cls x).symm⟩
end
theorem ins_rel {α β : Type} {R : α → β → Prop} {lt : α → α → Bool} {lt' : β → β → Bool} (hlt : ∀ x y u v, R x u → R y v → lt x y = lt' u v) {x : α} {u : β} (hx : R x u) : ∀ {l : List α} {m : List β}, Paired R l m → Paired R (ins lt x l) (ins lt' u m)
  | _, _, .nil => .cons hx .nil
  | _, _, .cons (a := y) (b := v) h t => by
    unfold ins
    rw [hlt _ _ _ _ h hx]
    split
    · exact .cons h (ins_rel hlt hx t)
    · exact .cons hx (.cons h t)
theorem isort_rel {α β : Type} {R : α → β → Prop} {lt : α → α → Bool} {lt' : β → β → Bool} (hlt : ∀ x y u v, R x u → R y v → lt x y = lt' u v) : ∀ {l : List α} {m : List β}, Paired R l m → Paired R (isort lt l) (isort lt' m)
  | _, _, .nil => .nil
  | _, _, .cons h t => ins_rel hlt h (isort_rel hlt t)

/-! ### sorting by keys, any length -/
open PySem.Spec L2
section
variable {X : Cx} {pins : List (Addr × Obj)} {σ : L2.St} {H : Hp} {s : Shared} {A : Around} {E : Value → Shared → Prop} {a kS : Addr} {b : Bool} {vs : List Value} {keys : Array Value} {e e1 : Nat} {P : PySem.Fin → Shared → Prop} {ltv : Value → Value → Bool}
/-- an object of ours that is not tracked is tracked from now on -/
theorem _root_.L2.Inv.track {o : HO} (I : Inv X pins σ H s) (f : FpOk X pins H a) (new : ObjOk X.prog X.w (upd H a o) s.heap a o) : Inv X pins σ (upd H a o) s := by
  obtain ⟨f0, f1, f2, f3, f4, f5⟩ := f
  have ne : ∀ c u, H c = some u → c ≠ a := fun c u q z => by rw [z, f0] at q; cases q
  have := I.step (g' := s.gens) (d' := s.drawn) (t' := s.toks) (h' := s.heap) (H' := upd H a o) (ch := [a]) (fun c hc => by
      have : c = a := by simpa using hc
      subst this
      exact ⟨f3, f1, f4, f5⟩) (fun c u _ _ _ q _ => q) (fun c u _ _ _ q _ => ⟨u.slots, q⟩) (fun c u hc q n => by rw [upd_ne (by simpa using hc)]; exact n) (fun c u _ q => ⟨u, q⟩)
    (fun c xs q => by rw [upd_ne (ne _ _ q)]; exact q) (fun c u xs q => by rw [upd_ne (ne _ _ q)]; exact q) (fun c ps q => ⟨#[], by rw [upd_ne (ne _ _ q), q]; simp⟩) (fun m hm => hm) (I.hok.laidN (fun _ _ q => q) f0 new) I.bare
  exact this
/-- how the keys are compared -/
def KeysOk (prog : Program) (w : World) (A : Around) (keys : List Value) (ltv : Value → Value → Bool) : Prop :=
  ∀ s : Shared, ∃ κ, (∀ (Q : SortKind → Shared → Prop) (E : Value → Shared → Prop), Q κ s → wpAny (model prog w) A (keyKind' keys.toArray) Q E s) ∧ Cmp prog w A s κ (fun p => p.1 ∈ keys) (lt2 ltv)
def outK (b : Bool) (ltv : Value → Value → Bool) (keys vs : List Value) : List Value := if b = true then ((isort (lt2 ltv) (keys.zip vs).reverse).map (·.2)).reverse else (isort (lt2 ltv) (keys.zip vs)).map (·.2)
theorem outK_len : (outK b ltv keys.toList vs).length = min keys.size vs.length := by
  unfold outK
  split
  · rw [List.length_reverse, List.length_map, (isort_perm _).length_eq, List.length_reverse, List.length_zip, Array.length_toList]
  · rw [List.length_map, (isort_perm _).length_eq, List.length_zip, Array.length_toList]
theorem key_end (O : Swo ltv) (nk : s.heap.get? kS = some (seqObj "list" keys e)) (na : s.heap.get? a = some (seqObj "list" #[] e1)) (hka : kS ≠ a) (hsz : keys.size = vs.length) (hz : vs.length ≤ sizeLine) (hK : 2 ≤ keys.size → KeysOk X.prog X.w A keys.toList ltv)
    (h : ∀ h' tk c c', h'.get? a = some (seqObj "list" (outK b ltv keys.toList vs).toArray c) → h'.get? kS = some (seqObj "list" #[] c') → (∀ x o, x ≠ a → x ≠ kS → s.heap.get? x = some o → h'.get? x = some o) → P (.done (.ret .none)) { s with heap := h', toks := tk }) :
    wpAny (model X.prog X.w) A (ksk_end a b vs.toArray e1 (.ref kS) keys) P E s := by
  have fin : ∀ st : SortSt, (arrOf st).toList = isort (lt2 ltv) (if b = true then (keys.zip vs.toArray).reverse else keys.zip vs.toArray).toList → failedOf st = none → wpAny (model X.prog X.w) A (ksk_tail a b e1 (.ref kS) st) P E s := by
    intro st hst hfl
    have hout : (if b then ((arrOf st).map (·.2)).reverse else (arrOf st).map (·.2)) = (outK b ltv keys.toList vs).toArray := by
      apply Array.toList_inj.mp
      unfold outK
      cases b with
      | false =>
        simp only [Bool.false_eq_true, if_false, Array.toList_map]
        rw [hst]
        simp only [Bool.false_eq_true, if_false]
        rw [ksk_zip]
      | true =>
        simp only [if_true, Array.toList_reverse, Array.toList_map]
        rw [hst]
        simp only [if_true, Array.toList_reverse]
        rw [ksk_zip]
    have s1 := Heap.SameBut.update s.heap kS (Obj.mapSeq fun _ => (#[] : Array Value))
    have na1 : (s.heap.update kS (Obj.mapSeq fun _ => (#[] : Array Value))).get? a = some (seqObj "list" #[] e1) := (s1.2 a hka.symm).trans na
    have hc1' := get?_update_seq nk (fun _ => (#[] : Array Value))
    obtain ⟨c1, hc1⟩ : ∃ c1, (s.heap.update kS (Obj.mapSeq fun _ => (#[] : Array Value))).get? kS = some (seqObj "list" #[] c1) := ⟨_, hc1'⟩
    have s2 := Heap.SameBut.update (s.heap.update kS (Obj.mapSeq fun _ => (#[] : Array Value))) a (Obj.mapSeq fun _ => if b then ((arrOf st).map (·.2)).reverse else (arrOf st).map (·.2))
    have hc2' := get?_update_seq na1 (fun _ => if b then ((arrOf st).map (·.2)).reverse else (arrOf st).map (·.2))
    obtain ⟨c2, hc2⟩ : ∃ c2, ((s.heap.update kS (Obj.mapSeq fun _ => (#[] : Array Value))).update a (Obj.mapSeq fun _ => if b then ((arrOf st).map (·.2)).reverse else (arrOf st).map (·.2))).get? a = some (seqObj "list" (if b then ((arrOf st).map (·.2)).reverse else (arrOf st).map (·.2)) c2) := ⟨_, hc2'⟩
    unfold ksk_tail
    try dsimp only
    refine wpAny_bind (listUpdate_at nk rfl ?_ (by rw [hsz]; exact hz) (Nat.zero_le _))
    refine wpAny_bind (wpAny_letGo ?_)
    refine wpAny_bind (seqEpoch_at na1 rfl ?_)
    refine wpAny_bind (listUpdate_at na1 rfl ?_ (Nat.zero_le _) ?_)
    · rw [hfl]
      simp only [bne_self_eq_false, Bool.false_eq_true, if_false]
      refine wpAny_pure (h _ _ c2 c1 ?_ ?_ ?_)
      · rw [hc2, hout]
      · exact (s2.2 kS hka).trans hc1
      · intro x o hxa hxk hx
        exact (s2.2 x hxa).trans ((s1.2 x hxk).trans hx)
    · rw [hout, List.size_toArray, outK_len, hsz, Nat.min_self]
      omega
  have step : ∀ t : Sem PySem.Fin, wpAny (model X.prog X.w) A t P E s → wpAny (model X.prog X.w) A (if b = true then (do let _ ← rule "list.sort.reverse"; t) else t) P E s := by
    intro t ht
    split
    · exact wpAny_bind (wpAny_rule ht)
    · exact ht
  unfold ksk_end
  try dsimp only
  refine step _ ?_
  have hzl : (if b = true then (keys.zip vs.toArray).reverse else keys.zip vs.toArray).toList.length = vs.length := by
    cases b with
    | false => simp [hsz]
    | true => simp [hsz]
  by_cases h2 : vs.toArray.size < 2
  · rw [if_pos h2, if_pos h2]
    refine wpAny_bind (wpAny_pure ?_)
    rw [StateT.run_pure]
    refine wpAny_bind (wpAny_pure ?_)
    try dsimp only
    refine fin (SortSt.mk' general' (if b = true then (keys.zip vs.toArray).reverse else keys.zip vs.toArray) #[] 7 none) ?_ rfl
    show (if b = true then (keys.zip vs.toArray).reverse else keys.zip vs.toArray).toList = _
    rw [List.size_toArray] at h2
    generalize (if b = true then (keys.zip vs.toArray).reverse else keys.zip vs.toArray).toList = l at hzl
    match l, hzl with
    | [], _ => rfl
    | [x], _ => rfl
    | _ :: _ :: _, q => simp at q; omega
  · rw [if_neg h2, if_neg h2]
    rw [List.size_toArray] at h2
    obtain ⟨κ, hkind, hT⟩ := hK (by omega) s
    rw [Array.toArray_toList] at hkind
    refine wpAny_bind (hkind _ _ ?_)
    have hall : AllL (fun p : Keyed => p.1 ∈ keys.toList) (if b = true then (keys.zip vs.toArray).reverse else keys.zip vs.toArray).toList := fun p hm => by
      have : p ∈ keys.toList.zip vs := by
        cases b with
        | false => simp only [Bool.false_eq_true, if_false] at hm; rw [ksk_zip] at hm; exact hm
        | true => simp only [if_true, Array.toList_reverse, List.mem_reverse] at hm; rw [ksk_zip] at hm; exact hm
      obtain ⟨p1, p2⟩ := p
      exact (List.of_mem_zip this).1
    refine wpAny_bind (wpAny_mono (wpS_sortO (st0 := SortSt.mk' κ (if b = true then (keys.zip vs.toArray).reverse else keys.zip vs.toArray) #[] 7 none)
      (Q := fun _ st' => Srtd (lt2 ltv) (arrOf st').toList ∧ Stb (lt2 ltv) (arrOf st').toList (if b = true then (keys.zip vs.toArray).reverse else keys.zip vs.toArray).toList ∧ failedOf st' = none) (swo2 O) hT rfl hall rfl rfl fun st' a1 a2 a3 => ⟨a1, a2, a3⟩) ?_ fun _ _ e => e)
    rintro ⟨⟨⟩, st'⟩ s' ⟨rfl, hp1, hp2, hf⟩
    try dsimp only
    exact fin st' (is_isort (swo2 O) hp1 hp2) hf
end
end SrtK
namespace SrtK
open PySem PyProof.Rows SrtO PySem.Spec L2
section
variable {X : Cx} {pins : List (Addr × Obj)} {σ : L2.St} {H : Hp} {s : Shared} {A : Around} {E : Value → Shared → Prop} {a kS : Addr} {b : Bool} {vs : List Value} {e e1 : Nat} {ltv : Value → Value → Bool} {f : Value}
/-- the key of each item, one by one -/
def Turn (X : Cx) (σ : L2.St) (A : Around) (f : Value) (vs : List Value) (kvs : List V) (P : Nat → Hp → Prop) : Prop :=
  ∀ (i : Nat) (v : Value), vs[i]? = some v → ∀ (pins : List (Addr × Obj)) (s : Shared) (H : Hp), Inv X pins σ H s → P i H → wpAny (model X.prog X.w) A (call f [v]) (EP X pins σ fun k H' => kvs[i]? = some k ∧ P (i + 1) H') (fun _ _ => False) s
theorem key_rest {R : PySem.Fin → Shared → Prop} {kvs : List V} {P : Nat → Hp → Prop} (O : Swo ltv) (I : Inv X pins σ H s) (h0 : P 0 H) (nk : s.heap.get? kS = some (seqObj "list" #[] 0)) (na : s.heap.get? a = some (seqObj "list" #[] e1)) (hka : kS ≠ a) (fk : FpOk X pins H kS) (fa : FpOk X pins H a)
    (hlen : kvs.length = vs.length) (hz : vs.length ≤ sizeLine) (turn : Turn X σ A f vs kvs P) (hK : ∀ keys : List Value, Vals kvs keys → 2 ≤ keys.length → KeysOk X.prog X.w A keys ltv)
    (h : ∀ s' H' keys c, Inv X pins σ H' s' → P vs.length H' → Vals kvs keys → s'.heap.get? a = some (seqObj "list" (outK b ltv keys vs).toArray c) → FpOk X pins H' a → R (.done (.ret .none)) s') :
    wpAny (model X.prog X.w) A (ksk_rest a f b vs.toArray e1 (.ref kS)) R E s := by
  unfold ksk_rest
  refine wpAny_bind (wpAny_rule ?_)
  rw [List.forIn_toArray]
  refine wpAny_bind (ksk_fold (fun i s' => ∃ H' kA e, Inv X pins σ H' s' ∧ P i H' ∧ s'.heap.get? kS = some (seqObj "list" kA e) ∧ s'.heap.get? a = some (seqObj "list" #[] e1) ∧ Vals (kvs.take i) kA.toList ∧ FpOk X pins H' kS ∧ FpOk X pins H' a) vs 0 s
    ⟨H, #[], 0, I, h0, nk, na, (by rw [List.take_zero]; exact .nil), fk, fa⟩ ?step ?done)
  case step =>
    rintro j x s' hx ⟨H', kA, e, I', p', nk', na', hk, fk', fa'⟩
    simp only [Nat.zero_add] at hk p' ⊢
    have hj : j < vs.length := (List.getElem?_eq_some_iff.mp hx).1
    have hzA : kA.size ≤ j := by
      have h1 : (kvs.take j).length = kA.toList.length := hk.length
      have h2 : kA.toList.length = kA.size := Array.length_toList
      rw [List.length_take] at h1
      omega
    have ip : Inv X (pins ++ [(kS, seqObj "list" kA e), (a, seqObj "list" #[] e1)]) σ H' s' := I'.pins_of fun p hp => by
      rcases List.mem_append.mp hp with hp | hp
      · exact I'.pin p (List.mem_append_right _ hp)
      · rcases List.mem_cons.mp hp with rfl | hp
        · exact ⟨nk', fk'.1, fk'.2.1, fk'.2.2.1, fun v q => nomatch q⟩
        · rw [List.mem_singleton.mp hp]
          exact ⟨na', fa'.1, fa'.2.1, fa'.2.2.1, fun v q => nomatch q⟩
    refine wpAny_bind (wpAny_attempt (wpAny_mono (turn j x hx _ s' H' ip p') (fun v s'' he => ?_) fun _ _ hF => hF.elim))
    obtain ⟨k, H2, I2, rk, hkj, p2⟩ := he
    try dsimp only
    have pk := I2.pin (kS, seqObj "list" kA e) (List.mem_append_right _ (List.mem_append_right _ (.head _)))
    have pa := I2.pin (a, seqObj "list" #[] e1) (List.mem_append_right _ (List.mem_append_right _ (.tail _ (.head _))))
    have I3 : Inv X pins σ H2 s'' := I2.unpinned
    have s1 := Heap.SameBut.update s''.heap kS (Obj.mapSeq (·.push v))
    obtain ⟨c2, hc2⟩ : ∃ c2, (s''.heap.update kS (Obj.mapSeq (·.push v))).get? kS = some (seqObj "list" (kA.push v) c2) := ⟨_, get?_update_seq pk.1 (·.push v)⟩
    have fk2 : FpOk X pins H2 kS := ⟨pk.2.1, fk'.2⟩
    have fa2 : FpOk X pins H2 a := ⟨pa.2.1, fa'.2⟩
    have ea : (kA.push v).toList = kA.toList ++ [v] := by simp
    have ek : kvs.take (j + 1) = kvs.take j ++ [k] := by rw [List.take_add_one, hkj]; simp
    refine wpAny_bind (listUpdate_at pk.1 rfl ?_ (by omega) (Nat.le_trans (Nat.le_of_eq (Array.size_push ..)) (by omega)))
    refine wpAny_pure ⟨rfl, H2, kA.push v, c2, ?_, p2, hc2, (s1.2 a hka.symm).trans pa.1, ?_, fk2, fa2⟩
    · exact I3.turnedL (t' := s''.toks) (ch := [kS]) (fun b o hb q => (s1.2 b (by simpa using hb)).trans q) (fun b hb => by
        have : b = kS := by simpa using hb
        rw [this]; exact fk2)
    · rw [ea, ek]
      exact hk.append (.cons rk .nil)
  case done =>
    rintro s' ⟨H', kA, e, I', p', nk', na', hk, fk', fa'⟩
    have hk' : Vals kvs kA.toList := by
      have e3 : kvs.take (0 + vs.length) = kvs := List.take_of_length_le (by omega)
      rw [e3] at hk
      exact hk
    have hsz : kA.size = vs.length := by
      have h1 : kvs.length = kA.toList.length := hk'.length
      have h2 : kA.toList.length = kA.size := Array.length_toList
      omega
    simp only [Nat.zero_add] at p'
    try dsimp only
    refine wpAny_bind (listItems_at nk' rfl ?_)
    refine key_end O nk' na' hka hsz hz (fun h2 => hK _ hk' (by rw [Array.length_toList]; exact h2)) fun h' tk c c' ha hkk hkeep => ?_
    have I2 : Inv X pins σ H' { s' with heap := h', toks := tk } := I'.turnedL (t' := tk) (ch := [a, kS]) (fun b o hb q => hkeep b o (fun z => hb (by simp [z])) (fun z => hb (by simp [z])) q) (fun b hb => by
      have : b = a ∨ b = kS := by simpa using hb
      rcases this with z | z
      · rw [z]; exact fa'
      · rw [z]; exact fk')
    exact h _ H' kA.toList c I2 p' hk' ha fa'
/-- list.sort by keys -/
theorem key_sort {R : PySem.Fin → Shared → Prop} {kvs : List V} {P : Nat → Hp → Prop} {n : Nat} (O : Swo ltv) (I : Inv X pins σ H s) (h0 : P 0 H) (ho : s.heap.get? a = some (seqObj "list" vs.toArray n)) (fa : FpOk X pins H a)
    (hlen : kvs.length = vs.length) (hz : vs.length ≤ sizeLine) (turn : Turn X σ A f vs kvs P) (hK : ∀ keys : List Value, Vals kvs keys → 2 ≤ keys.length → KeysOk X.prog X.w A keys ltv)
    (h : ∀ s' H' keys c, Inv X pins σ H' s' → P vs.length H' → Vals kvs keys → s'.heap.get? a = some (seqObj "list" (outK b ltv keys vs).toArray c) → FpOk X pins H' a → R (.done (.ret .none)) s') :
    wpAny (model X.prog X.w) A (ksk_tree a f b) R E s := by
  have ha : a < s.heap.objs.size := Heap.lt_size ho
  have s1 := Heap.SameBut.update s.heap a (Obj.mapSeq fun _ => (#[] : Array Value))
  obtain ⟨e1, ho1⟩ : ∃ e1, (s.heap.update a (Obj.mapSeq fun _ => (#[] : Array Value))).get? a = some (seqObj "list" #[] e1) := ⟨_, get?_update_seq ho fun _ => #[]⟩
  have hkS : ((s.heap.update a (Obj.mapSeq fun _ => (#[] : Array Value))).push (seqObj "tuple" vs.toArray 0)).objs.size = s.heap.objs.size + 1 := by rw [size_push', Heap.size_update]
  unfold ksk_tree
  refine wpAny_bind (listItems_at ho rfl ?_)
  refine wpAny_bind (listUpdate_at ho rfl ?_ (by rw [List.size_toArray]; exact hz) (Nat.zero_le _))
  refine wpAny_bind (seqEpoch_at ho1 rfl ?_)
  refine wpAny_bind (wpAny_newTuple ?_ (by show vs.length ≤ _; exact hz))
  refine wpAny_bind (wpAny_newList ?_ (Nat.zero_le _))
  refine wpAny_holding ?_
  have keep : ∀ c o, c ∉ [a] → s.heap.get? c = some o → (((s.heap.update a (Obj.mapSeq fun _ => (#[] : Array Value))).push (seqObj "tuple" vs.toArray 0)).push (seqObj "list" #[] 0)).get? c = some o := fun c o hc q =>
    Heap.get?_push_of_some _ (Heap.get?_push_of_some _ ((s1.2 c (by simpa using hc)).trans q))
  have I1 : Inv X pins σ H { s with heap := ((s.heap.update a (Obj.mapSeq fun _ => (#[] : Array Value))).push (seqObj "tuple" vs.toArray 0)).push (seqObj "list" #[] 0) } := I.turnedL (t' := s.toks) (ch := [a]) keep (fun c hc => by
    have : c = a := by simpa using hc
    rw [this]; exact fa)
  have hfk : FpOk X pins H ((s.heap.update a (Obj.mapSeq fun _ => (#[] : Array Value))).push (seqObj "tuple" vs.toArray 0)).objs.size := by
    rw [hkS]
    exact I.fpOk (Nat.le_succ _) (I.hok.fresh (Nat.le_succ _))
  exact key_rest (s := { s with heap := ((s.heap.update a (Obj.mapSeq fun _ => (#[] : Array Value))).push (seqObj "tuple" vs.toArray 0)).push (seqObj "list" #[] 0) }) (kS := ((s.heap.update a (Obj.mapSeq fun _ => (#[] : Array Value))).push (seqObj "tuple" vs.toArray 0)).objs.size)
    O I1 h0 (Heap.get?_push_size _ rfl) (Heap.get?_push_of_some _ (Heap.get?_push_of_some _ ho1)) (by rw [hkS]; exact Nat.ne_of_gt (Nat.lt_succ_of_lt ha)) hfk fa hlen hz turn hK h
end
end SrtK
namespace SrtK
open PySem PyProof.Rows SrtO PySem.Spec L2
section
variable {X : Cx} {pins : List (Addr × Obj)} {σ : L2.St} {H : Hp} {s : Shared} {A : Around} {b : Bool} {vs : List Value} {ltv : Value → Value → Bool} {f : Value} {kw : List (Str × Value)} {Q : VK} {l : Addr}
/-- what is asked: how a new list of the sorted items is used -/
theorem sorted_tail {kvs : List V} {P : Nat → Hp → Prop} {h' : Heap} {tk : Nat} {acc : List Value} (O : Swo ltv) (I : Inv X pins σ H { s with heap := h', toks := tk }) (h0 : P 0 H) (hlen : kvs.length = acc.length) (hz : acc.length ≤ sizeLine)
    (ha2 : ∀ x, argsOk "list.sort" ⟨[.ref x], kw⟩) (ht : ∀ x, Builtin.«list.sort» ⟨[.ref x], kw⟩ = ksk_tree x f b) (turn : Turn X σ X.A.in1.in1 f acc kvs P) (hK : ∀ keys : List Value, Vals kvs keys → 2 ≤ keys.length → KeysOk X.prog X.w X.A.in1.in1 keys ltv)
    {outv : List V} (hout : ∀ keys, Vals kvs keys → Vals outv (outK b ltv keys acc))
    (q : ∀ H' p, P acc.length H' → H' p = none → Q (.ref p) (upd H' p (.lst outv))) {ρ : Value → Shared → Prop}
    (hρ : ∀ v s', EP X pins σ Q v s' → ρ v s') {E : Value → Shared → Prop} :
    wpAny (model X.prog X.w) X.A.in1 (holding [.ref h'.objs.size] (call (.builtin "list.sort") [.ref h'.objs.size] kw)) (fun _ s' => ρ (.ref h'.objs.size) s') E { s with heap := h'.push (seqObj "list" acc.toArray 0), toks := tk } := by
  have hoL : (h'.push (seqObj "list" acc.toArray 0)).get? h'.objs.size = some (seqObj "list" acc.toArray 0) := Heap.get?_push_size _ rfl
  refine wpAny_holding (wpAny_call_entry_kw slot_list_sort ⟨_, hoL, rfl⟩ entry_list_sort ?body (ha2 _))
  case body =>
    have ht' := ht h'.objs.size
    show wpAny (model X.prog X.w) X.A.in1.in1 (Builtin.«list.sort» ⟨[.ref h'.objs.size], kw⟩) _ _ _
    rw [ht']
    have I1 : Inv X pins σ H { s with heap := h'.push (seqObj "list" acc.toArray 0), toks := tk } := I.kept (t' := tk) fun c o e => Heap.get?_push_of_some _ e
    have fa : FpOk X pins H h'.objs.size := I.fpOk (s := { s with heap := h', toks := tk }) (Nat.le_refl _) (I.hok.fresh (Nat.le_refl _))
    refine key_sort (s := { s with heap := h'.push (seqObj "list" acc.toArray 0), toks := tk }) O I1 h0 hoL fa hlen hz turn hK fun s' H' keys c I' p' hk ha fa' => ⟨_, rfl, ?_⟩
    refine hρ _ _ ?_
    have hkl : keys.length = acc.length := by
      have h1 : kvs.length = keys.length := hk.length
      omega
    have hout' := hout keys hk
    have hol : outv.length ≤ sizeLine := by
      have h1 : outv.length = (outK b ltv keys acc).length := hout'.length
      have h2 : (outK b ltv keys acc).length = min keys.length acc.length := by
        have := outK_len (b := b) (ltv := ltv) (keys := keys.toArray) (vs := acc)
        simpa using this
      omega
    exact ⟨.ref h'.objs.size, _, I'.track fa' (show ObjOk X.prog X.w (upd H' h'.objs.size (.lst outv)) s'.heap h'.objs.size (.lst outv) from ⟨hol, _, c, hout', ha⟩), rfl, q H' _ p' fa'.1⟩
/-- sorted(l, ..) of a list -/
theorem sorted_list {kvs outv : List V} {P : Nat → Hp → Prop} {vs : List Value} (O : Swo ltv) (I : Inv X pins σ H s) (h0 : P 0 H) (hl : s.heap.IsList l vs.toArray) (hout : ∀ keys, Vals kvs keys → Vals outv (outK b ltv keys vs)) (hlen : kvs.length = vs.length) (hz : vs.length ≤ sizeLine) (ha1 : argsOk "sorted" ⟨[.ref l], kw⟩)
    (ha2 : ∀ x, argsOk "list.sort" ⟨[.ref x], kw⟩) (ht : ∀ x, Builtin.«list.sort» ⟨[.ref x], kw⟩ = ksk_tree x f b) (turn : Turn X σ X.A.in1.in1 f vs kvs P) (hK : ∀ keys : List Value, Vals kvs keys → 2 ≤ keys.length → KeysOk X.prog X.w X.A.in1.in1 keys ltv)
    (q : ∀ H' p, P vs.length H' → H' p = none → Q (.ref p) (upd H' p (.lst outv))) {E : Value → Shared → Prop} :
    wpAny (model X.prog X.w) X.A (call (.builtin "sorted") [.ref l] kw) (EP X pins σ Q) E s := by
  refine call_function_entry_kw kind_sorted plain_sorted entry_sorted ha1 ?_
  unfold Builtin.«sorted»
  refine wpAny_bind (m := checkCount "sorted" 1 1 _) (wpAny_pure ?_)
  refine wpAny_bind (collect_list hl ?_ hz)
  refine wpAny_bind (wpAny_newList ?_ hz)
  have I1 : Inv X pins σ H { s with heap := (s.heap.push (seqObj "list" #[] 0)).update s.heap.objs.size (Obj.mapSeq (· ++ vs.toArray)) } := I.kept (t' := s.toks) fun c o e => by
    rw [Heap.get?_update_ne _ _ _ _ (Nat.ne_of_lt (Heap.lt_size e))]
    exact Heap.get?_push_of_some _ e
  have := sorted_tail (s := s) (E := E) (tk := s.toks) (h' := (s.heap.push (seqObj "list" #[] 0)).update s.heap.objs.size (Obj.mapSeq (· ++ vs.toArray))) (Q := Q) O I1 h0 hlen hz ha2 ht turn hK hout q (ρ := fun v s' => EP X pins σ Q v s') (fun _ _ z => z)
  refine wpAny_bind (wpAny_mono this (fun _ s' h => ?_) fun _ _ z => z)
  exact wpAny_pure ⟨_, rfl, h⟩
/-- sorted(d, ..) of a dict: its keys -/
theorem sorted_dict {kvs outv : List V} {P : Nat → Hp → Prop} {dvs : List (Key × V)} (hc : X.calm = true) (O : Swo ltv) (I : Inv X pins σ H s) (h0 : P 0 H) (hd : Rd H l (.dK dvs)) (hout : ∀ keys vs, Vals (dvs.map fun p => kV p.1) vs → Vals kvs keys → Vals outv (outK b ltv keys vs)) (hlen : kvs.length = dvs.length) (ha1 : argsOk "sorted" ⟨[.ref l], kw⟩)
    (ha2 : ∀ x, argsOk "list.sort" ⟨[.ref x], kw⟩) (ht : ∀ x, Builtin.«list.sort» ⟨[.ref x], kw⟩ = ksk_tree x f b) (turn : ∀ vs, Vals (dvs.map fun p => kV p.1) vs → Turn X σ X.A.in1.in1 f vs kvs P) (hK : ∀ keys : List Value, Vals kvs keys → 2 ≤ keys.length → KeysOk X.prog X.w X.A.in1.in1 keys ltv)
    (q : ∀ H' p, P dvs.length H' → H' p = none → Q (.ref p) (upd H' p (.lst outv))) {E : Value → Shared → Prop} :
    wpAny (model X.prog X.w) X.A (call (.builtin "sorted") [.ref l] kw) (EP X pins σ Q) E s := by
  obtain ⟨z, lo, vs, rel, dd⟩ := dk_rd I.hok hd
  obtain ⟨ep, hat⟩ := dd.dictAt
  have hl : dvs.length = vs.length := by
    have e := congrArg List.length rel.keys
    simpa using e
  refine call_function_entry_kw kind_sorted plain_sorted entry_sorted ha1 ?_
  unfold Builtin.«sorted»
  refine wpAny_bind (m := checkCount "sorted" 1 1 _) (wpAny_pure ?_)
  refine wpAny_bind (PySem.W.kdu_collect (A := X.A.in1) (PySem.W.kdl_dict (knd := mixKind X.prog X.w) (kvs := vs) (ep := ep) lo) (I.ok.hd hc) hat (by omega) fun h' tk acc hk hacc => ?_)
  have hal : acc.toList.length = vs.length := by rw [Array.length_toList, hacc.1]
  have hV : Vals (vs.map fun p => kV p.1) acc.toList := keys_at hal fun j v e => hacc.2 j v (by rw [← Array.getElem?_toList]; exact e)
  have hV' : Vals (dvs.map fun p => kV p.1) acc.toList := by
    have e : dvs.map (fun p => kV p.1) = vs.map fun p => kV p.1 := by
      have := congrArg (List.map kV) rel.keys
      simpa [List.map_map, Function.comp_def] using this
    rw [e]
    exact hV
  have I1 : Inv X pins σ H { s with heap := h', toks := tk } := I.kept hk
  refine wpAny_bind (wpAny_newList ?_ (by omega))
  have := sorted_tail (s := s) (E := E) (tk := tk) (h' := h') (acc := acc.toList) (Q := Q) O I1 h0 (by omega) (by omega) ha2 ht (turn _ hV') hK (fun keys hk => hout keys _ hV' hk) (fun H' p p' hn => q H' p (by rw [hal, ← hl] at p'; exact p') hn) (ρ := fun v s' => EP X pins σ Q v s') (fun _ _ z => z)
  refine wpAny_bind (wpAny_mono this (fun _ s' h => ?_) fun _ _ z => z)
  exact wpAny_pure ⟨_, rfl, h⟩
end

/-! ### keys: ints, texts -/
def sv : Value → List Nat
  | .str a _ => a.cps.toList
  | _ => []
def ltSv (x y : Value) : Bool := decide (sv x < sv y)
def ltLex (x y : List Nat) : Bool := decide (x < y)
theorem swo_lex : Swo ltLex := ⟨fun x y h => decide_eq_false (List.lt_asymm (of_decide_eq_true h)), fun x y z h1 h2 => decide_eq_false fun h => by
  have a : ¬ y < x := of_decide_eq_false h1
  have b : ¬ z < y := of_decide_eq_false h2
  exact List.not_lt.mpr (List.le_trans (List.not_lt.mp a) (List.not_lt.mp b)) h⟩
theorem swo_str : Swo ltSv := ⟨fun x y h => swo_lex.asym (sv x) (sv y) h, fun x y z h1 h2 => swo_lex.tr (sv x) (sv y) (sv z) h1 h2⟩
section
variable {prog : Program} {w : World} {A : Around}
theorem keys_ints {ks : List Int} {keys : List Value} (h : Vals (ks.map V.int) keys) (h2 : 2 ≤ keys.length) : KeysOk prog w A keys ltIv := fun s => by
  have hI := h.ints
  refine ⟨oneType', fun Q E hq => ?_, int_cmp hI⟩
  match keys, hI, h2 with
  | v1 :: v2 :: rest, hI, _ =>
    rw [keyKind_ints hI]
    exact wpAny_pure hq
  | [], _, h => exact absurd h (by decide)
  | [v], _, h => exact absurd h (by simp)
theorem strs_mem : ∀ {vs : List Value} {ns : List Str}, StrsAre vs ns → ∀ v ∈ vs, ∃ i t, v = Value.str i t
  | _, _, .nil, v, h => absurd h (by simp)
  | _, _, .cons n t r, v, h => by
    rcases List.mem_cons.mp h with e | h
    · exact ⟨n, t, e⟩
    · exact strs_mem r v h
theorem keys_strs {ks : List Str} {keys : List Value} (h : Vals (ks.map V.str) keys) (h2 : 2 ≤ keys.length) : KeysOk prog w A keys ltSv := fun s => by
  have hS := h.strs
  refine ⟨oneType', fun Q E hq => ?_, fun p q hp hq => ?_⟩
  · match keys, hS, h2 with
    | v1 :: v2 :: rest, hS, _ =>
      rw [keyKind_strs hS]
      exact wpAny_pure hq
    | [], _, h => exact absurd h (by decide)
    | [v], _, h => exact absurd h (by simp)
  · obtain ⟨a, t, e⟩ := strs_mem hS _ hp
    obtain ⟨b, u, e'⟩ := strs_mem hS _ hq
    show wpAny (model prog w) A (keyLt' oneType' p.1 q.1) (fun r s' => s' = s ∧ r = ltSv p.1 q.1) (fun _ _ => False) s
    rw [e, e']
    exact PySem.W.kas_lt_str ⟨rfl, rfl⟩
end
/-! ### the order of the values -/
def ltV : V → V → Bool
  | .int i, .int j => decide (i < j)
  | .str x, .str y => decide (x.cps.toList < y.cps.toList)
  | _, _ => false
def outV (b : Bool) (kvs us : List V) : List V := if b = true then ((isort (fun p q : V × V => ltV p.1 q.1) (kvs.zip us).reverse).map (·.2)).reverse else (isort (fun p q : V × V => ltV p.1 q.1) (kvs.zip us)).map (·.2)
def PR (C : V → Prop) (p : V × V) (q : Value × Value) : Prop := C p.1 ∧ RelV p.1 q.1 ∧ RelV p.2 q.2
theorem zip_rel {C : V → Prop} : ∀ {kvs us : List V} {keys vs : List Value}, (∀ k ∈ kvs, C k) → Vals kvs keys → Vals us vs → Paired (PR C) (kvs.zip us) (keys.zip vs)
  | [], _, [], _, _, _, _ => .nil
  | _ :: _, [], _ :: _, [], _, _, _ => .nil
  | k :: kvs, u :: us, x :: keys, v :: vs, h, .cons r1 t1, .cons r2 t2 => .cons ⟨h _ List.mem_cons_self, r1, r2⟩ (zip_rel (fun k hk => h k (.tail _ hk)) t1 t2)
theorem paired_snd {C : V → Prop} : ∀ {l : List (V × V)} {m : List (Value × Value)}, Paired (PR C) l m → Vals (l.map (·.2)) (m.map (·.2))
  | _, _, .nil => .nil
  | _, _, .cons h t => .cons h.2.2 (paired_snd t)
theorem paired_rev {α β : Type} {R : α → β → Prop} : ∀ {l : List α} {m : List β}, Paired R l m → Paired R l.reverse m.reverse
  | _, _, .nil => .nil
  | _ :: _, _ :: _, .cons h t => by
    rw [List.reverse_cons, List.reverse_cons]
    have := paired_rev t
    have app : ∀ {a : List α} {b : List β} {c : List α} {d : List β}, Paired R a b → Paired R c d → Paired R (a ++ c) (b ++ d) := by
      intro a b c d h1 h2
      induction h1 with
      | nil => exact h2
      | cons r _ ih => exact .cons r ih
    exact app this (.cons h .nil)
theorem outV_ok {C : V → Prop} {ltv : Value → Value → Bool} {b : Bool} {kvs us : List V} {keys vs : List Value} (hC : ∀ k ∈ kvs, C k) (hlt : ∀ x y u v, C x → C y → RelV x u → RelV y v → ltV x y = ltv u v) (h1 : Vals kvs keys) (h2 : Vals us vs) : Vals (outV b kvs us) (outK b ltv keys vs) := by
  have z := zip_rel hC h1 h2
  have hl : ∀ (x y : V × V) (u v : Value × Value), PR C x u → PR C y v → ltV x.1 y.1 = lt2 ltv u v := fun x y u v a b => hlt _ _ _ _ a.1 b.1 a.2.1 b.2.1
  unfold outV outK
  cases b with
  | true =>
    rw [if_pos rfl, if_pos rfl]
    exact paired_rev (paired_snd (isort_rel hl (paired_rev z)))
  | false =>
    rw [if_neg (by decide), if_neg (by decide)]
    exact paired_snd (isort_rel hl z)
theorem lt_int (x y : V) (u v : Value) (hx : ∃ i, x = .int i) (hy : ∃ i, y = .int i) (r1 : RelV x u) (r2 : RelV y v) : ltV x y = ltIv u v := by
  obtain ⟨i, rfl⟩ := hx
  obtain ⟨j, rfl⟩ := hy
  obtain ⟨t, rfl⟩ := r1
  obtain ⟨t', rfl⟩ := r2
  rfl
theorem lt_str (x y : V) (u v : Value) (hx : ∃ i, x = .str i) (hy : ∃ i, y = .str i) (r1 : RelV x u) (r2 : RelV y v) : ltV x y = ltSv u v := by
  obtain ⟨i, rfl⟩ := hx
  obtain ⟨j, rfl⟩ := hy
  obtain ⟨t, rfl⟩ := r1
  obtain ⟨t', rfl⟩ := r2
  rfl
/-- all ints, or all texts -/
def KV1 (kvs : List V) : Prop := (∃ ns : List Int, kvs = ns.map V.int) ∨ ∃ ss : List Str, kvs = ss.map V.str
theorem KV1.use {kvs : List V} (h : KV1 kvs) (prog : Program) (w : World) (A : Around) : ∃ ltv, Swo ltv ∧ (∀ keys : List Value, Vals kvs keys → 2 ≤ keys.length → KeysOk prog w A keys ltv) ∧ ∀ (b : Bool) (us : List V) (keys vs : List Value), Vals kvs keys → Vals us vs → Vals (outV b kvs us) (outK b ltv keys vs) := by
  rcases h with ⟨ns, rfl⟩ | ⟨ss, rfl⟩
  · exact ⟨ltIv, swo_int, fun keys h h2 => keys_ints h h2, fun b us keys vs h1 h2 => outV_ok (C := fun k => ∃ i, k = .int i) (fun k hk => by
      obtain ⟨i, _, rfl⟩ := List.mem_map.mp hk
      exact ⟨i, rfl⟩) lt_int h1 h2⟩
  · exact ⟨ltSv, swo_str, fun keys h h2 => keys_strs h h2, fun b us keys vs h1 h2 => outV_ok (C := fun k => ∃ i, k = .str i) (fun k hk => by
      obtain ⟨i, _, rfl⟩ := List.mem_map.mp hk
      exact ⟨i, rfl⟩) lt_str h1 h2⟩
end SrtK
namespace Pu
open PySem PySem.Spec PyProof.Rows L2 My

/-! ### sorted(e, key=f, reverse=b) -/
/-- keywords whose values are known -/
structure PKF (X : Cx) (kws : List Keyword) (ws : List Value) : Prop where
  run : ∀ (pos : Pos) (pins : List (Addr × Obj)) (s : Shared) (σ : L2.St) (H : Hp) (Q : List Value → Shared → Prop), Inv X pins σ H s → (∀ s', Inv X pins σ H s' → Q ws s') → wpAny (model X.prog X.w) X.A (evalAll ((backToKw pos (keywordEach kws X.env)).map (·.2))) Q X.xe s
theorem pkf_nil {X : Cx} : PKF X [] [] := ⟨fun _ _ s _ H Q I h => wpAny_evalAll_nil (h s I)⟩
theorem pkf_cons {X : Cx} {e : Expr} {f : Value} {kws : List Keyword} {ws : List Value} {nm : Option Str} {kpos : Pos} (ha : PF X e f) (hr : PKF X kws ws) : PKF X (⟨nm, e, kpos⟩ :: kws) (f :: ws) := by
  refine ⟨fun pos pins s σ H Q I h => ?_⟩
  show wpAny _ _ (evalAll ((do let v ← eval e X.env; standAt pos; pure v) :: (backToKw pos (keywordEach kws X.env)).map (·.2))) _ _ s
  refine wpAny_evalAll_cons (wpAny_bind (ha.run pins s σ H _ I fun s1 I1 => wpAny_bind (wpAny_standAt (wpAny_pure ?_))))
  exact hr.run pos pins s1 σ H _ I1 fun s2 I2 => h s2 I2
theorem pf_bl {X : Cx} {b : Bool} {k : Nat} {p : Pos} : PF X (.Constant (.bool b) k p) (.bool b) := ⟨fun pins s σ H Q I h => thn (pe_bl.run pins s σ H (fun v H' => v = .bl b ∧ H' = H) I ⟨rfl, rfl⟩) fun u s1 ⟨x, H1, I1, r1, q1⟩ => by
  obtain ⟨rfl, rfl⟩ := q1
  obtain rfl : u = Value.bool b := r1
  exact h s1 I1⟩
/-- the key's function, by what it asks -/
def KeyF (X : Cx) (f : Value) (k : Hp → V → VK → Prop) : Prop := ∀ (pins : List (Addr × Obj)) (s : Shared) (σ : L2.St) (H : Hp) (u : V) (v : Value) (Q : VK), Inv X pins σ H s → RelV u v → k H u Q → wpAny (model X.prog X.w) X.A.in1.in1 (call f [v]) (EP X pins σ Q) (fun _ _ => False) s
def rSrtK (K : PySem.W.Frag) (k : Hp → V → VK → Prop) (b : Bool) (x : V) (H1 : Hp) (Q : VK) : Prop := ∃ l us kvs, ∃ P : Nat → Hp → Prop, x = .ref l ∧ (SqL K H1 l us ∨ ∃ dvs, Rd H1 l (.dK dvs) ∧ us = dvs.map fun p => kV p.1) ∧ kvs.length = us.length ∧ SrtK.KV1 kvs ∧ P 0 H1 ∧
  (∀ i u H, us[i]? = some u → P i H → k H u fun v H' => kvs[i]? = some v ∧ P (i + 1) H') ∧ ∀ H' p, P us.length H' → H' p = none → Q (.ref p) (upd H' p (.lst (SrtK.outV b kvs us)))
def tSrtK (K : PySem.W.Frag) (k : Hp → V → VK → Prop) (b : Bool) (te : TE) : TE := fun σ H Q => te σ H fun x H1 => rSrtK K k b x H1 Q
section
variable {X : Cx} {W : WX} {e fe : Expr} {te : TE} {k : Hp → V → VK → Prop} {f : Value} {b : Bool} {p pos kp : Pos} {kws : List Keyword} {ws : List Value} {ks : List Str}
theorem pe_srtK (hc : X.calm = true) (hk : KeyF X f k) (hkw : PKF X kws ws) (ht : ∀ x : Addr, Builtin.«list.sort» ⟨[.ref x], ks.zip ws⟩ = ksk_tree x f b) (ha1 : ∀ x, argsOk "sorted" ⟨[x], ks.zip ws⟩) (ha2 : ∀ x, argsOk "list.sort" ⟨[x], ks.zip ws⟩) (hm : X.mg "sorted" = none) (he : PE X e te) (hg : Gl X "sorted" := by rfl)
    (hs : backTo pos (starEach [e] X.env) = (false, eval e X.env) :: backTo pos (starEach [] X.env) := by rfl) (hs1 : starEach [e] X.env = (false, eval e X.env) :: starEach [] X.env := by rfl) (hpl : (backTo pos (starEach [e] X.env)).any (·.1) = false := by rfl)
    (hall : (backToKw pos (keywordEach kws X.env)).all (·.1.isSome) = true := by rfl) (hnone : (backToKw pos (keywordEach kws X.env)).any (·.1.isNone) = false := by rfl) (hks : (backToKw pos (keywordEach kws X.env)).filterMap (·.1) = ks := by rfl) :
    PE X (.Call (.Name "sorted" p) [e] kws pos) (tSrtK X.K k b te) := by
  refine ⟨fun pins s σ H Q I h => ?_⟩
  refine wpAny_Call_Name_kw (ld_blt I hg hm boot_sorted ?_)
  refine PyProof.Rows.callWith_kw (thn ((pa_cons he pa_nil hs1).run pos pins s σ H (fun vs H1 => match vs with | [x] => rSrtK X.K k b x H1 Q | _ => False) I ?_) fun us s1 ⟨vs, H1, I1, r1, q1⟩ => hkw.run pos pins s1 σ H1 _ I1 fun s2 I2 => ?_) hs hpl hall hnone
  · exact h
  · match vs, q1, r1 with
    | [x], ⟨l, uv, kvs, P, ex, hl, hlen, hK1, h0, hstep, hq⟩, r1 =>
    subst ex
    obtain rfl := Vals.ref1 r1
    simp only [hks]
    obtain ⟨ltv, O, hKO, hout⟩ := hK1.use X.prog X.w X.A.in1.in1
    have turn : ∀ vs, Vals uv vs → SrtK.Turn X σ X.A.in1.in1 f vs kvs P := fun vs hvs i v hv pins s H I hP => by
      have hi : i < uv.length := by
        have := hvs.length
        rw [this]
        exact (List.getElem?_eq_some_iff.mp hv).1
      obtain ⟨u, hu⟩ : ∃ u, uv[i]? = some u := ⟨_, List.getElem?_eq_getElem hi⟩
      obtain ⟨w, hw, r⟩ := hvs.get hu
      rw [hv] at hw
      cases hw
      exact hk pins s σ H u v _ I r (hstep i u H hu hP)
    rcases hl with hl | ⟨dvs, hd, rfl⟩
    · obtain ⟨its, rv, hls, hz⟩ := I2.list hl
      have hlv : uv.length = its.length := rv.length
      exact SrtK.sorted_list O I2 h0 hls.isList (fun keys hk => hout b uv keys its hk rv) (by omega) (by omega) (ha1 _) (fun x => ha2 _) ht (turn its rv) hKO (fun H' p hP hn => hq H' p (by rw [hlv]; exact hP) hn)
    · exact SrtK.sorted_dict hc O I2 h0 hd (fun keys vs hv hk => hout b _ keys vs hk hv) (by simpa using hlen) (ha1 _) (fun x => ha2 _) ht (fun vs hv => turn vs hv) hKO (fun H' p hP hn => hq H' p (by simpa using hP) hn)
end

/-! ### by data -/
def ltkD : D → D → Bool
  | .int i, .int j => decide (i < j)
  | .str x, .str y => decide (x.cps.toList < y.cps.toList)
  | _, _ => false
def isIntD : D → Bool
  | .int _ => true
  | _ => false
def isStrD : D → Bool
  | .str _ => true
  | _ => false
def oneKd (ks : List D) : Bool := ks.all isIntD || ks.all isStrD
def srtD (b : Bool) (ks ds : List D) : List D := if b = true then ((SrtK.isort (fun p q : D × D => ltkD p.1 q.1) (ks.zip ds).reverse).map (·.2)).reverse else (SrtK.isort (fun p q : D × D => ltkD p.1 q.1) (ks.zip ds)).map (·.2)
def itS : D → Option (List D)
  | .lst ds => some ds
  | .dK kvs => some (kvs.map fun p => keyV p.1)
  | _ => none
def mapO (f : D → Option D) : List D → Option (List D)
  | [] => some []
  | d :: ds => match f d, mapO f ds with
    | some k, some ks => some (k :: ks)
    | _, _ => none
def dSrt (b : Bool) (fk : D → Option D) (fa : M Rv) : M D := fun ρ => (fa ρ).bind fun r ρ1 => match esc ρ1 r with
  | some (d, ρ2) => match itS d with
    | some ds => match mapO fk ds with
      | some ks => if oneKd ks = true then .ok (.lst (srtD b ks ds)) ρ2 else .bad
      | none => .bad
    | none => .bad
  | none => .bad
def KeyD (B : Bs) (k : Hp → V → VK → Prop) (fk : D → Option D) : Prop := ∀ c ρ σ H O u d kd Q, Stt B c ρ σ H O → Rep B (hide H O) u d → fk d = some kd → (∀ v H' O', Stt B c ρ σ H' O' → Ext (hide H O) (hide H' O') → Rep B (hide H' O') v kd → Q v H') → k H u Q
section
variable {B : Bs} {G : Hp}
theorem mapO_get {f : D → Option D} : ∀ {ds ks : List D}, mapO f ds = some ks → ks.length = ds.length ∧ ∀ (i : Nat) (d : D), ds[i]? = some d → ∃ k, ks[i]? = some k ∧ f d = some k
  | [], ks, h => by simp only [mapO] at h; cases h; exact ⟨rfl, fun i d hd => by simp at hd⟩
  | d :: ds, ks, h => by
    simp only [mapO] at h
    cases h1 : f d with
    | none => rw [h1] at h; cases h
    | some k =>
      cases h2 : mapO f ds with
      | none => rw [h1, h2] at h; cases h
      | some ks' =>
        rw [h1, h2] at h
        cases h
        obtain ⟨i1, i2⟩ := mapO_get h2
        refine ⟨by simp [i1], fun i e he => ?_⟩
        cases i with
        | zero => simp at he; subst he; exact ⟨k, rfl, h1⟩
        | succ i => simpa using i2 i e (by simpa using he)
/-- the values of keys, without a heap -/
def vK : D → V
  | .int i => .int i
  | .str s => .str s
  | _ => .non
theorem vK_rep {v : V} {d : D} (h : Rep B G v d) (hk : isIntD d = true ∨ isStrD d = true) : v = vK d := by
  cases d <;> simp [isIntD, isStrD] at hk
  · exact h.int_inv
  · exact h.str_inv
theorem kv1_of : ∀ {ks : List D}, oneKd ks = true → SrtK.KV1 (ks.map vK) := fun {ks} h => by
  unfold oneKd at h
  rw [Bool.or_eq_true] at h
  rcases h with h | h
  · refine .inl ⟨ks.map fun d => match d with | .int i => i | _ => 0, ?_⟩
    rw [List.map_map]
    refine List.map_congr_left fun d hd => ?_
    have := List.all_eq_true.mp h d hd
    cases d <;> simp [isIntD] at this
    rfl
  · refine .inr ⟨ks.map fun d => match d with | .str i => i | _ => Str.empty, ?_⟩
    rw [List.map_map]
    refine List.map_congr_left fun d hd => ?_
    have := List.all_eq_true.mp h d hd
    cases d <;> simp [isStrD] at this
    rfl
theorem ltk_eq (x y : D) : SrtK.ltV (vK x) (vK y) = ltkD x y := by
  cases x <;> cases y <;> rfl
theorem zipK : ∀ {us : List V} {ks ds : List D}, RepL B G us ds → Paired (fun (p : V × V) (q : D × D) => p.1 = vK q.1 ∧ Rep B G p.2 q.2) ((ks.map vK).zip us) (ks.zip ds)
  | _, [], _, _ => by cases ‹RepL B G _ _› <;> exact .nil
  | _, _ :: _, _, .nil => .nil
  | _, k :: ks, _, .cons h t => .cons ⟨rfl, h⟩ (zipK t)
theorem pairedR : ∀ {l : List (V × V)} {m : List (D × D)}, Paired (fun (p : V × V) (q : D × D) => p.1 = vK q.1 ∧ Rep B G p.2 q.2) l m → RepL B G (l.map (·.2)) (m.map (·.2))
  | _, _, .nil => .nil
  | _, _, .cons h t => .cons h.2 (pairedR t)
theorem srt_rep {b : Bool} {us : List V} {ks ds : List D} (r : RepL B G us ds) : RepL B G (SrtK.outV b (ks.map vK) us) (srtD b ks ds) := by
  have z := zipK (ks := ks) r
  have hl : ∀ (x y : V × V) (u v : D × D), (x.1 = vK u.1 ∧ Rep B G x.2 u.2) → (y.1 = vK v.1 ∧ Rep B G y.2 v.2) → SrtK.ltV x.1 y.1 = ltkD u.1 v.1 := fun x y u v a b => by rw [a.1, b.1, ltk_eq]
  unfold SrtK.outV srtD
  cases b with
  | true =>
    rw [if_pos rfl, if_pos rfl]
    exact (pairedR (SrtK.isort_rel hl (SrtK.paired_rev z))).reverse
  | false =>
    rw [if_neg (by decide), if_neg (by decide)]
    exact pairedR (SrtK.isort_rel hl z)
theorem keys_rep : ∀ kvs : List (Key × D), RepL B G (kvs.map fun p => kV p.1) (kvs.map fun p => keyV p.1)
  | [] => .nil
  | p :: r => .cons (rep_key p.1) (keys_rep r)
end
section
variable {X : Cx} {W : WX} {e : Expr} {fa : M Rv} {k : Hp → V → VK → Prop} {fk : D → Option D} {b : Bool} {pos p : Pos}
theorem srt_le {σ : L2.St} {H : Hp} {Q : VK} (hk : KeyD (bs X) k fk) (h : tF (bs X) W (dSrt b fk fa) σ H Q) : tSrtK X.K k b (tP (bs X) W fa) σ H Q := by
  obtain ⟨c, ρ, O, st, q⟩ := h
  unfold dSrt at q
  refine tP.step st (Po.bind q) fun r ρ1 v H1 O1 st1 e1 hv q1 => ?_
  split at q1
  · rename_i d ρ2 hes
    obtain ⟨O2, st2, e2, hr⟩ := st1.esc hv hes
    split at q1
    · rename_i ds hds
      split at q1
      · rename_i ks hks
        split at q1
        · rename_i h1k
          obtain ⟨l1, l2⟩ := mapO_get hks
          have main : ∀ us : List V, RepL (bs X) (hide H1 O2) us ds → ∃ kvs, ∃ P : Nat → Hp → Prop, kvs.length = us.length ∧ SrtK.KV1 kvs ∧ P 0 H1 ∧ (∀ i u H, us[i]? = some u → P i H → k H u fun v H' => kvs[i]? = some v ∧ P (i + 1) H') ∧ ∀ H' p, P us.length H' → H' p = none → Q (.ref p) (upd H' p (.lst (SrtK.outV b kvs us))) := by
            intro us ru
            refine ⟨ks.map vK, fun _ H' => ∃ O', Stt (bs X) c ρ2 σ H' O' ∧ Ext (hide H1 O2) (hide H' O'), ?_, kv1_of h1k, ⟨O2, st2, .refl _⟩, ?_, ?_⟩
            · rw [List.length_map, l1, ru.length]
            · rintro i u H' hu ⟨O', st', e'⟩
              obtain ⟨d', hd', hrd⟩ := (ru.mono e').get' hu
              obtain ⟨kd, hkd, hf⟩ := l2 i d' hd'
              refine hk c ρ2 σ H' O' u d' kd _ st' hrd hf fun w H'' O'' st'' e'' hw => ⟨?_, O'', st'', e'.trans e''⟩
              rw [List.getElem?_map, hkd]
              have hm : kd ∈ ks := List.mem_of_getElem? hkd
              have : isIntD kd = true ∨ isStrD kd = true := by
                unfold oneKd at h1k
                rw [Bool.or_eq_true] at h1k
                exact h1k.imp (fun z => List.all_eq_true.mp z kd hm) (fun z => List.all_eq_true.mp z kd hm)
              rw [vK_rep hw this]
              rfl
            · rintro H' p ⟨O', st', e'⟩ hp
              obtain ⟨s3, e3, f3, n3⟩ := st'.newO (o := .lst (SrtK.outV b (ks.map vK) us)) hp
              exact q1 _ _ s3 (e2.trans (e'.trans e3)) p _ upd_same List.mem_cons_self f3 n3 (.lst (srt_rep ((ru.mono e').mono e3)))
          cases d <;> simp only [itS] at hds <;> cases hds
          · cases hr with
            | lst s r =>
              obtain ⟨kvs, P, a1, a2, a3, a4, a5⟩ := main _ r
              exact ⟨_, _, kvs, P, rfl, .inl (.inl (.inl (hide_le _ _ _ _ s))), a1, a2, a3, a4, a5⟩
          · cases hr with
            | dK s kk r =>
              rename_i ds' a kvs'
              have ek : kvs'.map (fun p => kV p.1) = ds'.map fun p => kV p.1 := by
                have := congrArg (List.map kV) kk
                simpa [List.map_map, Function.comp_def] using this
              obtain ⟨kvs, P, a1, a2, a3, a4, a5⟩ := main (kvs'.map fun p => kV p.1) (by rw [ek]; exact keys_rep ds')
              exact ⟨_, _, kvs, P, rfl, .inr ⟨kvs', rd_mono (hide_le _ _).ext s, rfl⟩, a1, a2, a3, a4, a5⟩
        · exact q1.elim
      · exact q1.elim
    · exact q1.elim
  · exact q1.elim
/-- key=len -/
def kLen : Hp → V → VK → Prop := fun H u Q => ∃ z, u = .str z ∧ z.length ≤ sizeLine ∧ Q (.int z.length) H
def fLen : D → Option D
  | .str z => if z.length ≤ sizeLine then some (.int z.length) else none
  | _ => none
theorem keyF_len : KeyF X (.builtin "len") kLen := fun pins s σ H u v Q I r h => by
  obtain ⟨z, rfl, hz, q⟩ := h
  obtain ⟨t, rfl⟩ := r
  have hn := line63
  exact len_str (by omega) ⟨.int z.length, H, I.tok _, ⟨_, rfl⟩, q⟩
theorem keyD_len {B : Bs} : KeyD B kLen fLen := fun c ρ σ H O u d kd Q st hr hf q => by
  cases d <;> simp only [fLen] at hf <;> try (cases hf; done)
  obtain ⟨h1, rfl⟩ := some_if hf
  exact ⟨_, hr.str_inv, h1, q _ H O st (.refl _) (.int _)⟩
/-- key=f, f a def -/
def kFn (sp : Sp) : Hp → V → VK → Prop := fun H u Q => sp [u] H Q fun _ _ _ => False
def fFn (fn : List D → FOut) : D → Option D := fun d => match fn [d] with
  | .ok k _ => some k
  | _ => none
theorem keyF_fn {x : Str} {ps : List Str} {sp : Sp} {k : Nat} (hb : Binds X.K (fdOf X.K (My.fa X.mg x)) ps []) (G : FnG X.prog X.w X.K X.mg X.base k (My.fa X.mg x) (fdOf X.K (My.fa X.mg x)) ps sp) (hr : RmG (k + 2) X.A) (hp : ps.length = 1) : KeyF X (.ref (My.fa X.mg x)) (kFn sp) := fun pins s σ H u v Q I r h => by
  have rr : RmG k X.A.in1.in1 := ⟨hr.rm.in1.in1, hr.gd⟩
  refine wpAny_call (codeAny_mono (G.run X.A.in1.in1 X.stack s H ⟨[v], []⟩ [v] [u] Q (fun _ _ _ => False) rr I.env0.in1.in1 (by simpa using hb s [v] I.kIn (by simpa using hp.symm)) (.cons r .nil) h) fun res s' hq => ?_)
  cases res with
  | error e =>
    obtain ⟨_, _, _, _, _, _, _, _, _, _, _, _, z⟩ := hq
    exact z.elim
  | ok fl => cases fl <;> first | exact I.after hq | exact False.elim hq
theorem keyD_fn {B : Bs} {fn : List D → FOut} : KeyD B (kFn (spD B none 1 fn)) (fFn fn) := fun c ρ σ H O u d kd Q st hr hf q => by
  unfold fFn at hf
  refine ⟨rfl, O, [d], st.liv, ⟨rfl, fun i e _ he => ?_, fun j hj => by cases hj⟩, ?_⟩
  · cases i with
    | zero => simp at he; subst he; exact ⟨u, rfl, hr⟩
    | succ i => simp at he
  · split at hf
    · rename_i k io hfn
      cases hf
      rw [hfn]
      intro v H' O' f hv
      exact q v H' O' (st.behind (rs := [.val d]) (o := none) (.cons hr .nil) rfl f) f.same hv
    · cases hf
theorem df_srt {kws : List Keyword} (h : PE X (.Call (.Name "sorted" p) [e] kws pos) (tSrtK X.K k b (tP (bs X) W fa))) (hk : KeyD (bs X) k fk) : DF X W (.Call (.Name "sorted" p) [e] kws pos) (dSrt b fk fa) := PE.le h fun σ H Q q => srt_le hk q
end
end Pu
namespace MaxD
open PySem PySem.Spec PyProof.Rows L2
theorem args_maxD (a d : Value) : argsOk "max" ⟨[a], [(Str.ofString "default", d)]⟩ := by unfold argsOk; kernel_rfl
section
variable {prog : Program} {w : World} {A : Around} {R : Result → Shared → Prop} {I : Addr} {fp wr : List Addr} {n : Nat} {P : Nat → Value → Prop} {St : Nat → Heap → Prop} {kw : List (Str × Value)}
theorem loop_max (W : Walks prog w A.in1 I fp wr n P St) (bt : Nat → Nat → Bool) (hcmp : CmpOf prog w A.in1 .Gt P bt) (S : Addr) (hSf : S ∉ fp) :
    ∀ (k j : Nat) (s : Shared) (vb : Value) (c : Nat), n - (j + 1) = k → j + 1 ≤ n → St (j + 1) s.heap → P (argBest bt j) vb →
    s.heap.get? S = some { cls := .type "list", dict := none, data := .seq #[vb, vb] c, slots := #[] } →
    (∀ v h' tk, P (argBest bt (n - 1)) v → (∀ b o, b ∉ wr → b ≠ S → s.heap.get? b = some o → h'.get? b = some o) → R (.ok (.ret v)) { s with heap := h', toks := tk }) →
    codeAny (model prog w) A (.builtin "max.loop" ⟨[.ref I, .none, .ref S], kw⟩) R s := by
  have hSw : S ∉ wr := fun h => hSf (W.sub _ h)
  have hname : (toString "max" ++ toString ".loop" : String) = "max.loop" := by decide
  intro k
  induction k with
  | zero =>
    intro j s vb c hk hj hst hPb hS hR
    have hin : j + 1 = n := by omega
    refine codeAny_builtin F.entry_max_loop ?_
    rw [Around.under_plainId F.plain_max_loop _]
    show wpAny _ A.in1 (seqItems? (.ref S) >>= _) _ _ s
    refine wpAny_bind (wpAny_seqItems hS rfl ?_)
    show wpAny _ A.in1 (tryCatch (pyNext (.ref I)) _ >>= _) _ _ s
    refine wpAny_bind (wpAny_tryCatch (W.done s _ _ (hin ▸ hst) fun h' tk hk' => ?_))
    have hS' := hk' S _ hSw hS
    show wpAny _ A.in1 (updateSeq S (fun _ => #[]) >>= _) _ _ _
    refine wpAny_bind ?_
    refine wpAny_updateSeq hS' rfl (wpAny_bind (wpAny_letGo (wpAny_pure ?_)))
    refine hR vb _ tk (by rw [← hin]; exact hPb) fun b o hbw hbS e => (Heap.get?_update_other _ _ (Ne.symm hbS)).trans (hk' b o hbw e)
  | succ k ih =>
    intro j s vb c hk hj hst hPb hS hR
    have hlt : j + 1 < n := by omega
    refine codeAny_builtin F.entry_max_loop ?_
    rw [Around.under_plainId F.plain_max_loop _]
    show wpAny _ A.in1 (seqItems? (.ref S) >>= _) _ _ s
    refine wpAny_bind (wpAny_seqItems hS rfl ?_)
    show wpAny _ A.in1 (tryCatch (pyNext (.ref I)) _ >>= _) _ _ s
    refine wpAny_bind (wpAny_tryCatch (W.item (j + 1) s _ _ hlt hst fun v h' tk hP hst' hk' => ?_))
    have hS' := hk' S _ hSw hS
    show wpAny _ A.in1 (tryCatch (holding [v, v] (richCompare .Gt v vb >>= _)) _ >>= _) _ _ _
    refine wpAny_bind (wpAny_tryCatch (wpAny_holding (wpAny_bind (hcmp (j + 1) (argBest bt j) v vb _ _ _ hP hPb ?_))))
    refine wpAny_bind (wpAny_holding (wpAny_truthy_bool ?_))
    refine wpAny_bind (wpAny_letGo (wpAny_pure ?_))
    cases hb : bt (j + 1) (argBest bt j) with
    | true =>
      simp only [if_true]
      refine wpAny_bind ?_
      refine wpAny_updateSeq hS' rfl (wpAny_bind (wpAny_letGo ?_))
      rw [hname]
      refine wpAny_pure ⟨plainId_quiet F.plain_max_loop _, ih (j + 1) _ v _ (by omega) hlt (W.frame _ _ _ hst' fun b hbf o e => ?_) (by simp only [argBest, hb, if_true]; exact hP) (Heap.get?_update_self _ hS' rfl)
        fun v' h'' tk'' hP' hk'' => ?_⟩
      · exact (Heap.get?_update_other _ _ (fun h : S = b => hSf (by rw [h]; exact hbf))).trans e
      · exact hR v' h'' tk'' hP' fun b o hbw hbS e => hk'' b o hbw hbS ((Heap.get?_update_other _ _ (Ne.symm hbS)).trans (hk' b o hbw e))
    | false =>
      simp only [Bool.false_eq_true, if_false]
      refine wpAny_bind (wpAny_letGo ?_)
      rw [hname]
      refine wpAny_pure ⟨plainId_quiet F.plain_max_loop _, ih (j + 1) _ vb c (by omega) hlt hst' (by simp only [argBest, hb, Bool.false_eq_true, if_false]; exact hPb) hS' fun v' h'' tk'' hP' hk'' => ?_⟩
      exact hR v' h'' tk'' hP' fun b o hbw hbS e => hk'' b o hbw hbS (hk' b o hbw e)
theorem first_max (W : Walks prog w A.in1 I fp wr n P St) (bt : Nat → Nat → Bool) (hcmp : CmpOf prog w A.in1 .Gt P bt) (S : Addr) (hSf : S ∉ fp) (hn : 0 < n) {s : Shared} {c : Nat} (hst : St 0 s.heap)
    (hS : s.heap.get? S = some { cls := .type "list", dict := none, data := .seq #[] c, slots := #[] })
    (hR : ∀ v h' tk, P (argBest bt (n - 1)) v → (∀ b o, b ∉ wr → b ≠ S → s.heap.get? b = some o → h'.get? b = some o) → R (.ok (.ret v)) { s with heap := h', toks := tk }) :
    codeAny (model prog w) A (.builtin "max.loop" ⟨[.ref I, .none, .ref S], kw⟩) R s := by
  have hSw : S ∉ wr := fun h => hSf (W.sub _ h)
  have hname : (toString "max" ++ toString ".loop" : String) = "max.loop" := by decide
  refine codeAny_builtin F.entry_max_loop ?_
  rw [Around.under_plainId F.plain_max_loop _]
  show wpAny _ A.in1 (seqItems? (.ref S) >>= _) _ _ s
  refine wpAny_bind (wpAny_seqItems hS rfl ?_)
  show wpAny _ A.in1 (tryCatch (pyNext (.ref I)) _ >>= _) _ _ s
  refine wpAny_bind (wpAny_tryCatch (W.item 0 s _ _ hn hst fun v h' tk hP hst' hk' => ?_))
  have hS' := hk' S _ hSw hS
  show wpAny _ A.in1 (updateSeq S (fun _ => #[v, v]) >>= _) _ _ _
  refine wpAny_bind ?_
  refine wpAny_updateSeq hS' rfl ?_
  rw [hname]
  refine wpAny_pure ⟨plainId_quiet F.plain_max_loop _, loop_max W bt hcmp S hSf _ 0 _ v _ rfl hn (W.frame _ _ _ hst' fun b hbf o e => ?_) hP (Heap.get?_update_self _ hS' rfl) fun v' h'' tk'' hP' hk'' => ?_⟩
  · exact (Heap.get?_update_other _ _ (fun h : S = b => hSf (by rw [h]; exact hbf))).trans e
  · exact hR v' h'' tk'' hP' fun b o hbw hbS e => hk'' b o hbw hbS ((Heap.get?_update_other _ _ (Ne.symm hbS)).trans (hk' b o hbw e))
theorem none_max {d : Value} {nm : Str} (W : Walks prog w A.in1 I fp wr 0 P St) (S : Addr) {s : Shared} {c : Nat} (hst : St 0 s.heap)
    (hS : s.heap.get? S = some { cls := .type "list", dict := none, data := .seq #[] c, slots := #[] })
    (hR : ∀ h' tk, (∀ b o, b ∉ wr → s.heap.get? b = some o → h'.get? b = some o) → R (.ok (.ret d)) { s with heap := h', toks := tk }) :
    codeAny (model prog w) A (.builtin "max.loop" ⟨[.ref I, .none, .ref S], [(nm, d)]⟩) R s := by
  refine codeAny_builtin F.entry_max_loop ?_
  rw [Around.under_plainId F.plain_max_loop _]
  show wpAny _ A.in1 (seqItems? (.ref S) >>= _) _ _ s
  refine wpAny_bind (wpAny_seqItems hS rfl ?_)
  show wpAny _ A.in1 (tryCatch (pyNext (.ref I)) _ >>= _) _ _ s
  refine wpAny_bind (wpAny_tryCatch (W.done s _ _ hst fun h' tk hk' => ?_))
  show wpAny _ A.in1 (rule _ >>= _) _ _ _
  exact wpAny_bind (wpAny_rule (wpAny_pure (hR h' tk hk')))
end
section
variable {prog : Program} {w : World} {A : Around} {E : Value → Shared → Prop} {s : Shared} {l : Addr} {xs : Array (Int × Tok)} {d : Value}
theorem call_treeK {id : String} {b : Builtin} {args : List Value} {kw : List (Str × Value)} {Q : Value → Shared → Prop} (hk : builtinKind id = none) (hp : plainId id = true)
    (hb : entryFor table id = some b) (ha : argsOk id ⟨args, kw⟩)
    (hc : wpAny (model prog w) A.in1 (b ⟨args, kw⟩) (fun fin s' => match fin with
      | .done f => (match (Except.ok f : Result) with | .ok (.ret v) => Q v s' | .ok _ => False | .error e => E e s')
      | .again c' => c'.quiet = true ∧ codeAny (model prog w) A c' (fun r s' => match r with | .ok (.ret v) => Q v s' | .ok _ => False | .error e => E e s') s') E s) :
    wpAny (model prog w) A (call (.builtin id) args kw) Q E s := by
  refine wpAny_call (codeAny_call_builtin hp hb ?_)
  simp only [checkBuiltinCall, hk]
  cases hsig : Manifest.signature? id with
  | none => exact wpAny_pure hc
  | some sig =>
    have ha' : Bind.checkArgs id sig ⟨args, kw⟩ = pure () := by simpa only [argsOk, hsig] using ha
    simp only
    rw [ha']
    exact wpAny_pure hc
theorem call_maxD {x : Value} {Q : Value → Shared → Prop}
    (h : wpAny (model prog w) A.in1 (pyIter x) (fun it s₂ => ∃ I fp wr n P St bt, it = .ref I ∧ Walks prog w A.in1 I fp wr n P St ∧ St 0 s₂.heap ∧ (∀ b ∈ fp, b < s₂.heap.objs.size) ∧ CmpOf prog w A.in1 .Gt P bt ∧
      (0 < n → ∀ v h' tk, P (argBest bt (n - 1)) v → (∀ b o, b ∉ wr → s₂.heap.get? b = some o → h'.get? b = some o) → Q v { s₂ with heap := h', toks := tk }) ∧
      (n = 0 → ∀ h' tk, (∀ b o, b ∉ wr → s₂.heap.get? b = some o → h'.get? b = some o) → Q d { s₂ with heap := h', toks := tk })) E s) :
    wpAny (model prog w) A (call (.builtin "max") [x] [(Str.ofString "default", d)]) Q E s := by
  have hname : (toString "max" ++ toString ".loop" : String) = "max.loop" := by decide
  refine call_treeK F.kind_max F.plain_max F.entry_max (args_maxD _ _) ?_
  show wpAny _ A.in1 (Builtin.Builtins.bindParams "max" ["key", "default"] 0 ⟨[], [(Str.ofString "default", d)]⟩ >>= _) _ _ s
  refine wpAny_bind (wpAny_of_eq (show Builtin.Builtins.bindParams "max" ["key", "default"] 0 ⟨[], [(Str.ofString "default", d)]⟩ = pure [none, some d] from rfl) ?_)
  refine wpAny_bind (wpAny_pure ?_)
  refine wpAny_bind (wpAny_mono h (fun it s₂ h₂ => ?_) fun _ _ e => e)
  obtain ⟨I, fp, wr, n, P, St, bt, rfl, W, hst, hfp, hcmp, hQ, hQ0⟩ := h₂
  refine wpAny_bind (wpAny_newObj_type ?_)
  have hSf : s₂.heap.objs.size ∉ fp := fun hm => Nat.lt_irrefl _ (hfp _ hm)
  rw [hname]
  by_cases hn : 0 < n
  · refine wpAny_pure ⟨plainId_quiet F.plain_max_loop _, first_max W bt hcmp s₂.heap.objs.size hSf hn (W.frame _ _ _ hst fun b _ o e => Heap.get?_push_of_some _ e) (Heap.get?_push_size _ rfl) fun v h' tk hP hk => ?_⟩
    exact hQ hn v h' tk hP fun b o hbw e => hk b o hbw (Nat.ne_of_lt (Heap.lt_size e)) (Heap.get?_push_of_some _ e)
  · obtain rfl : n = 0 := by omega
    refine wpAny_pure ⟨plainId_quiet F.plain_max_loop _, none_max W s₂.heap.objs.size (W.frame _ _ _ hst fun b _ o e => Heap.get?_push_of_some _ e) (Heap.get?_push_size _ rfl) fun h' tk hk => ?_⟩
    exact hQ0 rfl h' tk fun b o hbw e => hk b o hbw (Heap.get?_push_of_some _ e)
theorem max_dflt {Q : Value → Shared → Prop} (hh : A.handled = none) (hl : s.heap.IsList l (intItems xs))
    (h : ∀ v h' tk, 0 < xs.size → (intItems xs)[argBest (fun i j => decide (numAt xs i > numAt xs j)) (xs.size - 1)]? = some v → (∀ b o, s.heap.get? b = some o → h'.get? b = some o) → Q v { s with heap := h', toks := tk })
    (h0 : xs.size = 0 → ∀ h' tk, (∀ b o, s.heap.get? b = some o → h'.get? b = some o) → Q d { s with heap := h', toks := tk }) :
    wpAny (model prog w) A (call (.builtin "max") [.ref l] [(Str.ofString "default", d)]) Q E s := by
  refine call_maxD (iter_intList hl fun s₂ e st hfp hlI => ?_)
  subst e
  refine ⟨_, _, _, _, _, _, _, rfl, Walks.list (A := A.in1) hh _ l hlI (intItems xs), st, hfp, CmpOf.ints_gt (numAt xs) (fun _ _ => intItems_at), fun hn v h' tk hP hk => ?_, fun hn h' tk hk => ?_⟩
  · exact h v h' tk (by simpa [intItems] using hn) (by simpa [intItems] using hP) (old_kept hk)
  · exact h0 (by simpa [intItems] using hn) h' tk (old_kept hk)
end
theorem max_rawD {prog : Program} {w : World} {A : Around} {E : Value → Shared → Prop} {s : Shared} {l : Addr} {its : List Value} {ns : List Int} {d : Value} {Q : Value → Shared → Prop} (hh : A.handled = none) (hl : s.heap.IsList l its.toArray) (hi : IntsAre its ns)
    (h : ∀ h' tk M t', (∀ b o, s.heap.get? b = some o → h'.get? b = some o) → M ∈ ns → (∀ a, a ∈ ns → a ≤ M) → Q (.int M t') { s with heap := h', toks := tk }) (h0 : ns = [] → ∀ h' tk, (∀ b o, s.heap.get? b = some o → h'.get? b = some o) → Q d { s with heap := h', toks := tk }) :
    wpAny (model prog w) A (call (.builtin "max") [.ref l] [(Str.ofString "default", d)]) Q E s := by
  obtain ⟨xs, e⟩ := hi.allInts.items
  have hn : numsOf (intItems xs).toList = ns := by rw [← e]; exact hi.numsOf
  rw [nums_intItems] at hn
  subst hn
  rw [e] at hl
  refine max_dflt hh hl (fun v h' tk hsz hv hk => ?_) fun hz h' tk hk => h0 (by simpa using hz) h' tk hk
  obtain ⟨t, rfl⟩ := intItems_at hv
  obtain ⟨h1, h2⟩ := argBest_gt (numAt xs) (xs.size - 1)
  refine h h' tk _ t hk ?_ fun a ha => ?_
  · rw [numAt_eq]; exact PySem.getD_mem (by rw [List.length_map, Array.length_toList]; omega)
  · obtain ⟨j, hj, rfl⟩ := mem_getD ha
    rw [List.length_map, Array.length_toList] at hj
    rw [← numAt_eq]; exact h2 j (by omega)
/-- max(xs, default=d) of a list of ints -/
def rMaxD (K : PySem.W.Frag) : List V → List V → Hp → VK → Prop := fun vs zs H Q => ∃ (a : Addr) (ns : List Int) (d : V), vs = [V.ref a] ∧ zs = [d] ∧ SqL K H a (ns.map V.int) ∧ (∀ m, m ∈ ns → (∀ y, y ∈ ns → y ≤ m) → Q (.int m) H) ∧ (ns = [] → Q d H)
theorem cr_maxD {X : Cx} (hc : X.calm = true) : CallRK X (.builtin "max") [Str.ofString "default"] (rMaxD X.K) := by
  intro pins s σ H vs zs us ws Q I r rz h
  obtain ⟨a, ns, d, rfl, rfl, hs, q, q0⟩ := h
  obtain rfl := Vals.ref1 r
  obtain ⟨w1, rfl, e1⟩ := vals1 rz
  obtain ⟨its, rv, hl, _⟩ := I.list hs
  exact max_rawD (I.ok.hd hc) hl.isList rv.ints (fun h' tk m t' hk h1 h2 => ⟨.int _, H, I.kept hk, ⟨_, rfl⟩, q m h1 h2⟩) fun hn h' tk hk => ⟨d, H, I.kept hk, e1, q0 hn⟩
end MaxD
namespace Pu
open PySem PySem.Spec PyProof.Rows L2 My

/-! ### slices -/
def cutL {α : Type} (xs : List α) (lo hi : Option Int) : List α := (xs.drop (HT.sIx xs.length 0 lo)).take (HT.sIx xs.length xs.length hi - HT.sIx xs.length 0 lo)
def sliceD (lo hi : Option Int) : D → Option D
  | .lst xs => some (.lst (cutL xs lo hi))
  | .tup xs => some (.tup (cutL xs lo hi))
  | .str z => if z.length ≤ sizeLine then some (.str (cutS z lo hi)) else none
  | .scr xs => some (.lst (cutL (xs.map .int) lo hi))
  | _ => none
def sliceF (lo hi : Option Int) : D → Option D
  | .lst xs => some (.lst (cutL xs lo hi))
  | .scr xs => some (.lst (cutL (xs.map .int) lo hi))
  | _ => none
def pNone : M (Option Int) := fun ρ => .ok none ρ
def pSome (fa : M Rv) : M (Option Int) := fun ρ => (fa ρ).bind fun r ρ1 => match rd ρ1 r with
  | some (.int i) => .ok (some i) ρ1
  | _ => .bad
def dSl (fa : M Rv) (fl fh : M (Option Int)) : M Rv := fun ρ => (fa ρ).bind fun r ρ1 => (fl ρ1).bind fun lo ρ2 => (fh ρ2).bind fun hi ρ3 => match rd ρ3 r with
  | some d => out ρ3 (sliceD lo hi d)
  | none => .bad
def dSlF (fa : M Rv) (fl fh : M (Option Int)) : M D := fun ρ => (fa ρ).bind fun r ρ1 => (fl ρ1).bind fun lo ρ2 => (fh ρ2).bind fun hi ρ3 => match rd ρ3 r with
  | some d => match sliceF lo hi d with
    | some e => .ok e ρ3
    | none => .bad
  | none => .bad
def tO (B : Bs) (W : WX) (f : M (Option Int)) : TO := fun σ H Q => ∃ c ρ O, Stt B c ρ σ H O ∧ Po B c W σ H O (fun o ρ' H' O' => Q o H') (f ρ)
abbrev DO (X : Cx) (W : WX) (e : Option Expr) (f : M (Option Int)) : Prop := PO X e (tO (bs X) W f)
theorem PO.le {X : Cx} {e : Option Expr} {t t' : TO} (h : PO X e t) (i : ∀ σ H Q, t' σ H Q → t σ H Q) : PO X e t' := ⟨fun pins s σ H Q I q => h.run pins s σ H Q I (i σ H Q q)⟩
section
variable {X : Cx} {W : WX} {e : Expr} {lo hi : Option Expr} {fa : M Rv} {fl fh : M (Option Int)} {pos p2 p : Pos} {k : Nat}
theorem tO.step {B : Bs} {σ : L2.St} {H : Hp} {f : M (Option Int)} {Q1 : Option Int → Hp → Prop} {c : Cst} {ρ : En} {O : List Addr} {R : Option Int → En → Hp → List Addr → Prop} (st : Stt B c ρ σ H O) (h : Po B c W σ H O R (f ρ)) (hq : ∀ b ρ1 H1 O1, Stt B c ρ1 σ H1 O1 → Ext (hide H O) (hide H1 O1) → R b ρ1 H1 O1 → Q1 b H1) : tO B W f σ H Q1 := by
  refine ⟨c, ρ, O, st, ?_⟩
  cases hf : f ρ with
  | ok r ρ1 => rw [hf] at h; exact fun H' O' st' e' => hq r ρ1 H' O' st' e' (h H' O' st' e')
  | ex x fs ρ1 => rw [hf] at h; exact h
  | bad => rw [hf] at h; exact h.elim
theorem do_none : DO X W none pNone := PO.le po_none fun σ H Q ⟨c, ρ, O, st, q⟩ => q H O st (.refl _)
theorem do_some (h : DE X W e fa) : DO X W (some e) (pSome fa) := PO.le (po_some h) fun σ H Q ⟨c, ρ, O, st, q⟩ => by
  unfold pSome at q
  refine tP.step st (Po.bind q) fun r ρ1 v H1 O1 st1 e1 hv q1 => ?_
  split at q1
  · rename_i i hi
    exact ⟨i, (st1.vw hv hi).int, q1 H1 O1 st1 (.refl _)⟩
  · exact q1.elim
theorem cut_rep {B : Bs} {G : Hp} {xs : List V} {ds : List D} (r : RepL B G xs ds) (lo hi : Option Int) : RepL B G (cutV xs lo hi) (cutL ds lo hi) := by
  unfold cutV cutL
  rw [r.length]
  exact (r.drop _).take _
theorem cutL_all {α : Type} {xs : List α} {lo hi : Option Int} (h : HT.sIx xs.length 0 lo = 0 ∧ HT.sIx xs.length xs.length hi = xs.length) : cutL xs lo hi = xs := by
  unfold cutL
  rw [h.1, h.2]
  simp
theorem de_slice (ha : DE X W e fa) (hl : DO X W lo fl) (hh : DO X W hi fh) : DE X W (.Subscript e (.Slice lo hi none p2) pos) (dSl fa fl fh) := PE.le (pe_slice ((sl_list.or sl_tupA).or sl_str) ha hl hh) fun σ H Q ⟨c, ρ, O, st, q⟩ => by
  unfold dSl at q
  refine tP.step st (Po.bind q) fun r ρ1 v H1 O1 st1 e1 hv q1 => ?_
  refine tO.step st1 (Po.bind q1) fun l ρ2 H2 O2 st2 e2 q2 => ?_
  refine tO.step st2 (Po.bind q2) fun h ρ3 H3 O3 st3 e3 q3 => ?_
  have hv3 := (hv.ext e2).ext e3
  split at q3
  · rename_i d hd
    have hw := st3.vw hv3 hd
    have hq : ∀ dd, sliceD l h d = some dd → ∀ w H', Same H3 H' → Rep (bs X) (hide H' O3) w dd → Q w H' := fun dd hdd w H' e' hw => by
      rw [hdd] at q3
      exact q3 H' O3 (st3.ext e') (same_hide e') w hw
    cases d <;> simp only [sliceD, out] at q3 <;> try (exact q3.elim)
    · rename_i z
      split at q3
      · rename_i hz
        refine .inr ⟨z, hw.str, ?_, hq (.str (cutS z l h)) (by simp only [sliceD]; split <;> simp_all) _ H3 (.refl _) (.str _)⟩
        split at hz <;> simp_all
      · exact q3.elim
    · obtain ⟨a, xs, rfl, hs, rr⟩ := hw.tup
      have hw' := hw
      refine .inl (.inr ⟨a, xs, rfl, hs, fun hwh => ?_, fun _ => ?_⟩)
      · rw [rr.length] at hwh
        refine hq _ rfl _ H3 (.refl _) ?_
        rw [cutL_all hwh]
        rcases hw' with z | ⟨p, o, z, _, y⟩
        · exact z
        · cases y
      · exact new_tup st3.liv (hq _ rfl) (cut_rep rr l h)
    · obtain ⟨a, xs, rfl, hs, rr⟩ := hw.lst
      exact .inl (.inl ⟨a, xs, rfl, .inl (.inl hs), new_rep st3.liv (hq _ rfl) (.lst (cut_rep rr l h))⟩)
    · obtain ⟨a, rfl, hs⟩ := hw.scr
      exact .inl (.inl ⟨a, _, rfl, hs, new_rep st3.liv (hq _ rfl) (.lst (cut_rep (rep_ints _) l h))⟩)
  · exact q3.elim
/-- a new object of the caller's own, made by a rule -/
theorem new_own {B : Bs} {c : Cst} {ρ : En} {σ : L2.St} {H : Hp} {O : List Addr} {Q : VK} {d : D} {o : HO} (st : Stt B c ρ σ H O) (hq : ∀ H' O', Stt B c ρ σ H' O' → Ext (hide H O) (hide H' O') → ∀ p o, H' p = some o → p ∈ O' → Free ρ σ p → p ∉ c.F → RepO B (hide H' O') o d → Q (.ref p) H') (hr : RepO B (hide H O) o d) : ∀ p, H p = none → Q (.ref p) (upd H p o) := fun p hp => by
  obtain ⟨s3, e3, f3, n3⟩ := st.newO (o := o) hp
  exact hq _ _ s3 e3 p o upd_same List.mem_cons_self f3 n3 (hr.mono e3)
theorem df_slice (ha : DE X W e fa) (hl : DO X W lo fl) (hh : DO X W hi fh) : DF X W (.Subscript e (.Slice lo hi none p2) pos) (dSlF fa fl fh) := PE.le (pe_slice sl_list ha hl hh) fun σ H Q ⟨c, ρ, O, st, q⟩ => by
  unfold dSlF at q
  refine tP.step st (Po.bind q) fun r ρ1 v H1 O1 st1 e1 hv q1 => ?_
  refine tO.step st1 (Po.bind q1) fun l ρ2 H2 O2 st2 e2 q2 => ?_
  refine tO.step st2 (Po.bind q2) fun h ρ3 H3 O3 st3 e3 q3 => ?_
  have hv3 := (hv.ext e2).ext e3
  split at q3
  · rename_i d hd
    have hw := st3.vw hv3 hd
    cases d <;> simp only [sliceF] at q3 <;> try (exact q3.elim)
    · obtain ⟨a, xs, rfl, hs, rr⟩ := hw.lst
      exact ⟨a, xs, rfl, .inl (.inl hs), new_own st3 q3 (.lst (cut_rep rr l h))⟩
    · obtain ⟨a, rfl, hs⟩ := hw.scr
      exact ⟨a, _, rfl, hs, new_own st3 q3 (.lst (cut_rep (rep_ints _) l h))⟩
  · exact q3.elim

/-! ### a new list of a value: list(x) -/
def listFD : D → Option (List D)
  | .lst xs => some xs
  | .tup xs => some xs
  | .scr xs => some (xs.map .int)
  | _ => none
def dListF (fa : M Rv) : M D := fun ρ => (fa ρ).bind fun r ρ1 => match rd ρ1 r with
  | some d => match listFD d with
    | some xs => .ok (.lst xs) ρ1
    | none => .bad
  | none => .bad
theorem tCB_1 {B : Bs} {r : List V → Hp → VK → Prop} {σ : L2.St} {H : Hp} {Q : VK} {te : TE} (h : te σ H fun v H1 => r [v] H1 Q) : tCB r (tCons te tNil) σ H Q := h
theorem df_list (hm : X.mg "list" = none) (ha : DE X W e fa) (hg : Gl X "list" := by rfl) (he : starEach [e] X.env = (false, eval e X.env) :: starEach [] X.env := by rfl) (hpl : (backTo pos (starEach [] X.env)).any (·.1) = false := by rfl) : DF X W (.Call (.Name "list" p) [e] [] pos) (dListF fa) :=
  PE.le (pe_callTy call_list_of hg hm (by decide +kernel) (pa_cons ha pa_nil he) (by decide) (by decide) he hpl) fun σ H Q ⟨c, ρ, O, st, q⟩ => by
    unfold dListF at q
    refine tCB_1 (B := bs X) (tP.step st (Po.bind q) fun r ρ1 v H1 O1 st1 e1 hv q1 => ?_)
    split at q1
    · rename_i d hd
      have hw := st1.vw hv hd
      cases d <;> simp only [listFD] at q1 <;> try (exact q1.elim)
      · obtain ⟨a, xs, rfl, hs, rr⟩ := hw.tup
        exact ⟨a, xs, rfl, .inr hs, new_own st1 q1 (.lst rr)⟩
      · obtain ⟨a, xs, rfl, hs, rr⟩ := hw.lst
        exact ⟨a, xs, rfl, .inl (.inl (.inl hs)), new_own st1 q1 (.lst rr)⟩
      · obtain ⟨a, rfl, hs⟩ := hw.scr
        exact ⟨a, _, rfl, .inl hs, new_own st1 q1 (.lst (rep_ints _))⟩
    · exact q1.elim
/-- xs + ys, xs * k: a new list -/
def catF : D → D → Option D
  | .lst a, .lst b => if a.length + b.length ≤ sizeLine then some (.lst (a ++ b)) else none
  | _, _ => none
def mulF : D → D → Option D
  | .lst xs, .int k => if -(2 ^ 63) ≤ k ∧ k < 2 ^ 63 ∧ xs.length * k.toNat ≤ sizeLine then some (.lst (List.replicate k.toNat xs).flatten) else none
  | _, _ => none
def d2F (g : D → D → Option D) (fa fb : M Rv) : M D := fun ρ => (fa ρ).bind fun a ρ1 => (fb ρ1).bind fun b ρ2 => match rd ρ2 a, rd ρ2 b with
  | some x, some y => match g x y with
    | some d => .ok d ρ2
    | none => .bad
  | _, _ => .bad
theorem df_2 {a b : Expr} {fb : M Rv} {g : D → D → Option D} {r : R2} (h : PE X e (tOp r (tP (bs X) W fa) (tP (bs X) W fb))) (hg : ∀ v u H O x y d Q, Liv H O → Vw (bs X) H O v x → Vw (bs X) H O u y → g x y = some d → (∀ o, RepO (bs X) (hide H O) o d → ∀ p, H p = none → Q (.ref p) (upd H p o)) → r v u H Q) : DF X W e (d2F g fa fb) := PE.le h fun σ H Q ⟨c, ρ, O, st, q⟩ => by
  unfold d2F at q
  refine tP.step st (Po.bind q) fun r1 ρ1 v H1 O1 st1 e1 hv q1 => ?_
  refine tP.step st1 (Po.bind q1) fun r2 ρ2 u H2 O2 st2 e2 hu q2 => ?_
  split at q2
  · rename_i x y hx hy
    cases hgg : g x y with
    | none => simp only [hgg] at q2; exact q2.elim
    | some d =>
      simp only [hgg] at q2
      exact hg v u H2 O2 x y d Q st2.liv (st2.vw (hv.ext e2) hx) (st2.vw hu hy) hgg fun o ho => new_own st2 q2 ho
  · exact q2.elim
theorem df_cat {a b : Expr} {fb : M Rv} (ha : DE X W a fa) (hb : DE X W b fb) : DF X W (.BinOp a .Add b pos) (d2F catF fa fb) := df_2 (a := a) (b := b) (pe_op op_cat ha hb) (by
  intro v u H O x y d Q hl hx hy hg hq
  unfold catF at hg
  split at hg
  · obtain ⟨h1, rfl⟩ := some_if hg
    obtain ⟨a1, xs, rfl, e1, r1⟩ := hx.lst
    obtain ⟨a2, ys, rfl, e2, r2⟩ := hy.lst
    exact ⟨_, _, _, _, rfl, rfl, e1, e2, by rw [r1.length, r2.length]; exact h1, hq _ (.lst (r1.append r2))⟩
  · cases hg)
theorem df_rep {a b : Expr} {fb : M Rv} (ha : DE X W a fa) (hb : DE X W b fb) : DF X W (.BinOp a .Mult b pos) (d2F mulF fa fb) := df_2 (a := a) (b := b) (pe_op op_rep ha hb) (by
  intro v u H O x y d Q hl hx hy hg hq
  unfold mulF at hg
  split at hg
  · obtain ⟨⟨h1, h2, h3⟩, rfl⟩ := some_if hg
    obtain ⟨a1, xs, rfl, e1, r1⟩ := hx.lst
    refine ⟨_, _, _, rfl, hy.int, e1, h1, h2, by rw [r1.length]; exact h3, hq _ (.lst ?_)⟩
    rename_i k
    generalize k.toNat = n
    induction n with
    | zero => exact .nil
    | succ n ih =>
      rw [List.replicate_succ, List.replicate_succ, List.flatten_cons, List.flatten_cons]
      exact r1.append ih
  · cases hg)
/-- {} -/
def dNewK : M D := fun ρ => .ok (.dK []) ρ
def dNewT : M D := fun ρ => .ok (.dT []) ρ
theorem df_newK : DF X W (.Dict [] [] pos) dNewK := PE.le pe_dnewK fun σ H Q ⟨c, ρ, O, st, q⟩ => new_own st q (.dK rfl .nil)
theorem df_newT : DF X W (.Dict [] [] pos) dNewT := PE.le pe_dnewT fun σ H Q ⟨c, ρ, O, st, q⟩ => new_own st q (.dT rfl .nil)
end
end Pu
namespace Pu
open PySem PySem.Spec PyProof.Rows L2 My

/-! ### d.get(k), d.get(k, x) -/
def isD1 : D → Bool
  | .dK _ => true
  | .dT _ => true
  | _ => false
def getD1 : D → D → Option D
  | .dK kvs, k => match keyD k with
    | some k => some ((valD kvs k).getD .non)
    | none => none
  | _, _ => none
def dGet1 (fo fk : M Rv) : M Rv := fun ρ => (fo ρ).bind fun r ρ1 => match rd ρ1 r with
  | some d0 => if isD1 d0 = true then (fk ρ1).bind fun k ρ2 => (match rd ρ2 r, rd ρ2 k with
    | some d, some y => out ρ2 (getD1 d y)
    | _, _ => .bad) else .bad
  | none => .bad
def dGet2 (fo fk fx : M Rv) : M Rv := fun ρ => (fo ρ).bind fun r ρ1 => match rd ρ1 r with
  | some d0 => if isD1 d0 = true then (fk ρ1).bind fun k ρ2 => (fx ρ2).bind fun x ρ3 => (match esc ρ3 x with
    | some (dx, ρ4) => match rd ρ4 r, rd ρ4 k with
      | some (.dK kvs), some y => match keyD y with
        | some kk => .ok (.val ((valD kvs kk).getD dx)) ρ4
        | none => .bad
      | _, _ => .bad
    | none => .bad) else .bad
  | none => .bad
section
variable {X : Cx} {W : WX} {o e f a : Expr} {es : List Expr} {fo fk fx fa : M Rv} {fs : M (List Rv)} {pos p apos cpos tpos : Pos} {k : Nat} {x1 : Nat}
theorem isD_ok {B : Bs} {H : Hp} {O : List Addr} {v : V} {d : D} (h : Vw B H O v d) (e : isD1 d = true) : ∃ a, v = .ref a ∧ IsD H a := by
  cases d <;> simp only [isD1] at e <;> try (cases e; done)
  · obtain ⟨a, kvs, rfl, hr, _⟩ := h.dK
    exact ⟨a, rfl, .inl ⟨kvs, hr⟩⟩
  · obtain ⟨a, kvs, rfl, hr, _⟩ := h.dT
    exact ⟨a, rfl, .inr ⟨kvs, hr⟩⟩
theorem dget_k {B : Bs} {H : Hp} {O : List Addr} {v y : V} {kvs : List (Key × D)} {dy : D} {kk : Key} {a : Addr} (h : Vw B H O (.ref a) (.dK kvs)) (hy : Vw B H O y dy) (hk : keyD dy = some kk) : ∃ o, DGet H a y o ∧ (∀ d, valD kvs kk = some d → ∃ u, o = some u ∧ Rep B (hide H O) u d) ∧ (valD kvs kk = none → o = none) := by
  obtain ⟨a', kvs', e, hr, hkk, rr⟩ := h.dK
  cases e
  have := keyD_ok hy.full hk
  exact ⟨valV kvs' kk, .inl ⟨kvs', kk, hr, this, rfl⟩, fun d hd => valD_ok hkk rr hd, fun hn => valD_none hkk hn⟩
theorem de_get1 (hr : RmG k X.A) (ho : DE X W o fo) (he : DE X W e fk) (m : M1 X o "get" apos e cpos := by exact ⟨rfl, rfl, rfl, rfl⟩) : DE X W (.Call (.Attribute o "get" apos) [e] [] cpos) (dGet1 fo fk) := PE.le (pe_dget1 hr.u1 ho he m) fun σ H Q ⟨c, ρ, O, st, q⟩ => by
  unfold dGet1 at q
  refine tP.step st (Po.bind q) fun r ρ1 v H1 O1 st1 e1 hv q1 => ?_
  split at q1
  · rename_i d0 hd0
    split at q1
    · rename_i h0
      obtain ⟨a, rfl, hI⟩ := isD_ok (st1.vw hv hd0) h0
      refine ⟨a, rfl, hI, ?_⟩
      refine tP.step st1 (Po.bind q1) fun r2 ρ2 y H2 O2 st2 e2 hy q2 => ?_
      split at q2
      · rename_i d dy hd hdy
        have hw := st2.vw (hv.ext e2) hd
        cases d <;> simp only [getD1, out] at q2 <;> try (exact q2.elim)
        rename_i kvs
        cases hk : keyD dy with
        | none => simp only [hk] at q2; exact q2.elim
        | some kk =>
          simp only [hk] at q2
          obtain ⟨ov, g, g1, g2⟩ := dget_k (v := .non) hw (st2.vw hy hdy) hk
          refine ⟨ov, g, ?_⟩
          cases hval : valD kvs kk with
          | none =>
            rw [hval] at q2
            rw [g2 hval]
            exact q2 H2 O2 st2 (.refl _) _ .non
          | some d' =>
            rw [hval] at q2
            obtain ⟨u, rfl, hu⟩ := g1 d' hval
            exact q2 H2 O2 st2 (.refl _) u hu
      · exact q2.elim
    · exact q1.elim
  · exact q1.elim
theorem de_get2 (hr : RmG k X.A) (ho : DE X W o fo) (he : DE X W e fk) (hf : DE X W f fx) (m : M2 X o "get" apos e f cpos := by exact ⟨rfl, rfl, rfl, rfl⟩) : DE X W (.Call (.Attribute o "get" apos) [e, f] [] cpos) (dGet2 fo fk fx) := PE.le (pe_dget2 hr.u1 ho he hf m) fun σ H Q ⟨c, ρ, O, st, q⟩ => by
  unfold dGet2 at q
  refine tP.step st (Po.bind q) fun r ρ1 v H1 O1 st1 e1 hv q1 => ?_
  split at q1
  · rename_i d0 hd0
    split at q1
    · rename_i h0
      obtain ⟨a, rfl, hI⟩ := isD_ok (st1.vw hv hd0) h0
      refine ⟨a, rfl, hI, ?_⟩
      refine tP.step st1 (Po.bind q1) fun r2 ρ2 y H2 O2 st2 e2 hy q2 => ?_
      refine tP.step st2 (Po.bind q2) fun r3 ρ3 z H3 O3 st3 e3 hz q3 => ?_
      split at q3
      · rename_i dx ρ4 hes
        obtain ⟨O4, st4, e4, hr4⟩ := st3.esc hz hes
        split at q3
        · rename_i kvs dy hd hdy
          have hw := st4.vw (((hv.ext e2).ext e3).ext e4) hd
          split at q3
          · rename_i kk hk
            obtain ⟨ov, g, g1, g2⟩ := dget_k (v := .non) hw (st4.vw ((hy.ext e3).ext e4) hdy) hk
            refine ⟨ov, g, ?_⟩
            cases hval : valD kvs kk with
            | none =>
              rw [hval] at q3
              rw [g2 hval]
              exact q3 H3 O4 st4 e4 _ hr4
            | some d' =>
              rw [hval] at q3
              obtain ⟨u, rfl, hu⟩ := g1 d' hval
              exact q3 H3 O4 st4 e4 u hu
          · exact q3.elim
        · exact q3.elim
      · exact q3.elim
    · exact q1.elim
  · exact q1.elim

/-! ### {k: v, ..} -/
def pairsD : List D → Option (List (Key × D))
  | [] => some []
  | k :: v :: r => match keyD k, pairsD r with
    | some kk, some ps => some ((kk, v) :: ps)
    | _, _ => none
  | [_] => none
def mergeD (kvs more : List (Key × D)) : List (Key × D) := more.foldl (fun acc kv => putD acc kv.1 kv.2) kvs
/-- the keys and values in turn, each of them data -/
def dDisp (fs : M (List Rv)) : M D := fun ρ => (fs ρ).bind fun rs ρ1 => match escs ρ1 rs with
  | some (ds, ρ2) => match pairsD ds with
    | some ps => if ps.length ≤ 15 then .ok (.dK (mergeD [] ps)) ρ2 else .bad
    | none => .bad
  | none => .bad
def trsOf (B : Bs) (W : WX) : List (M Rv × M Rv) → List (TE × TE)
  | [] => []
  | (fk, fv) :: r => (tP B W fk, tP B W fv) :: trsOf B W r
def dPairs : List (M Rv × M Rv) → M (List Rv)
  | [] => dNil
  | (fk, fv) :: r => dCons fk (dCons fv (dPairs r))
abbrev DPs (X : Cx) (W : WX) (pos : Pos) (ks : List (Option Expr)) (vs : List Expr) (fs : List (M Rv × M Rv)) : Prop := PPs X pos ks vs (trsOf (bs X) W fs)
theorem dps_nil : DPs X W pos [] [] [] := pps_nil
theorem dps_cons {ks : List (Option Expr)} {vs : List Expr} {fr : List (M Rv × M Rv)} {e1 e2 : Expr} (hk : DE X W e1 fk) (hv : DE X W e2 fx) (hr : DPs X W pos ks vs fr) : DPs X W pos (some e1 :: ks) (e2 :: vs) ((fk, fx) :: fr) := pps_cons hk hv hr
theorem pairs_le {B : Bs} {σ : L2.St} : ∀ {fr : List (M Rv × M Rv)} {c : Cst} {ρ : En} {O : List Addr} {H : Hp} {R : List Rv → En → Hp → List Addr → Prop} {Q : List (V × V) → Hp → Prop}, Stt B c ρ σ H O → Po B c W σ H O R (dPairs fr ρ) →
    (∀ rs ρ1 vs H1 O1, Stt B c ρ1 σ H1 O1 → Ext (hide H O) (hide H1 O1) → RvsOk B σ H1 O1 (vs.flatMap fun p => [p.1, p.2]) rs → R rs ρ1 H1 O1 → Q vs H1) → tPairs (trsOf B W fr) σ H Q
  | [], c, ρ, O, H, R, Q, st, h, hq => hq [] ρ [] H O st (.refl _) .nil (h H O st (.refl _))
  | (fk, fv) :: fr, c, ρ, O, H, R, Q, st, h, hq => by
    show tP B W fk σ H fun x H1 => tP B W fv σ H1 fun y H2 => tPairs (trsOf B W fr) σ H2 fun ps H3 => Q ((x, y) :: ps) H3
    have h' : Po B c W σ H O R ((fk ρ).bind fun a ρ1 => ((fv ρ1).bind fun b ρ2 => (dPairs fr ρ2).bind fun as ρ3 => .ok (b :: as) ρ3).bind fun as ρ2 => .ok (a :: as) ρ2) := h
    refine tP.step st (Po.bind h') fun r1 ρ1 x H1 O1 st1 e1 hx q1 => ?_
    have q1' := Po.bind (Po.bind q1)
    refine tP.step st1 q1' fun r2 ρ2 y H2 O2 st2 e2 hy q2 => ?_
    have q2' := Po.bind q2
    refine pairs_le st2 q2' fun rs ρ3 vs H3 O3 st3 e3 hvs q3 => ?_
    have q4 := q3 H3 O3 st3 (.refl _)
    have q5 := q4 H3 O3 st3 (.refl _)
    exact hq _ ρ3 ((x, y) :: vs) H3 O3 st3 (e1.trans (e2.trans e3)) (.cons ((hx.ext e2).ext e3) (.cons (hy.ext e3) hvs)) q5
theorem pairsD_ok {B : Bs} {G : Hp} : ∀ {vs : List (V × V)} {ds : List D} {ps : List (Key × D)}, RepL B G (vs.flatMap fun p => [p.1, p.2]) ds → pairsD ds = some ps → ∃ kvs : List (Key × V), vs = kvs.map (fun kv => (kV kv.1, kv.2)) ∧ kvs.map (·.1) = ps.map (·.1) ∧ RepL B G (kvs.map (·.2)) (ps.map (·.2))
  | [], ds, ps, r, h => by
    cases r
    simp only [pairsD] at h
    cases h
    exact ⟨[], rfl, rfl, .nil⟩
  | (x, y) :: vs, ds, ps, r, h => by
    simp only [List.flatMap_cons, List.cons_append, List.nil_append] at r
    cases r with
    | @cons _ _ dk _ r1 r2 =>
    cases r2 with
    | @cons _ _ dv ds r2 r3 =>
    simp only [pairsD] at h
    cases hk : keyD dk with
    | none => simp only [hk] at h; cases h
    | some kk =>
      cases hp : pairsD ds with
      | none => simp only [hk, hp] at h; cases h
      | some ps' =>
        simp only [hk, hp] at h
        cases h
        obtain ⟨kvs, a1, a2, a3⟩ := pairsD_ok r3 hp
        exact ⟨(kk, y) :: kvs, by rw [List.map_cons, ← a1, keyD_ok r1 hk], by simp [a2], .cons r2 a3⟩
theorem mergeD_ok {B : Bs} {G : Hp} : ∀ {more : List (Key × V)} {md : List (Key × D)} {kvs : List (Key × V)} {kd : List (Key × D)}, more.map (·.1) = md.map (·.1) → RepL B G (more.map (·.2)) (md.map (·.2)) → kvs.map (·.1) = kd.map (·.1) → RepL B G (kvs.map (·.2)) (kd.map (·.2)) →
    (mergeK kvs more).map (·.1) = (mergeD kd md).map (·.1) ∧ RepL B G ((mergeK kvs more).map (·.2)) ((mergeD kd md).map (·.2))
  | [], [], _, _, _, _, h1, h2 => ⟨h1, h2⟩
  | [], _ :: _, _, _, h, _, _, _ => by simp at h
  | _ :: _, [], _, _, h, _, _, _ => by simp at h
  | (k1, v1) :: more, (k2, d2) :: md, kvs, kd, h, r, h1, h2 => by
    simp only [List.map_cons, List.cons.injEq] at h
    obtain ⟨rfl, h⟩ := h
    cases r with
    | cons r1 r2 =>
    obtain ⟨m1, m2⟩ := putK_map k1 v1 d2 r1 h1 h2
    have ih := mergeD_ok (kvs := putK kvs k1 v1) (kd := putD kd k1 d2) h r2 m1 m2
    exact ih
theorem df_disp {ks : List (Option Expr)} {vs : List Expr} {fr : List (M Rv × M Rv)} (h : DPs X W pos ks vs fr) (hall : ks.all (·.isSome) = true := by rfl) (hl : ks.length = vs.length := by rfl) (h0 : ks ≠ [] := by exact fun z => by cases z) (h15 : ks.length ≤ 15 := by decide) : DF X W (.Dict ks vs pos) (dDisp (dPairs fr)) := PE.le (pe_disp h hall hl h0 h15) fun σ H Q ⟨c, ρ, O, st, q⟩ => by
  intro p hp
  unfold dDisp at q
  obtain ⟨s1, e1, f1, n1⟩ := st.newO (o := .dK []) hp
  have q0 := Po.mono (Po.bind q) e1 (fun _ _ _ _ z => z)
  have q1 := Po.still q0 (fun q hq => (s1.frm q hq).2) n1 upd_same
  refine pairs_le (s1.still upd_same List.mem_cons_self f1) q1 fun rs ρ1 vs H1 O1 st1 e2 hvs q2 => ?_
  obtain ⟨_, _, _, hp1, q3⟩ := q2
  refine ⟨hp1, ?_⟩
  split at q3
  · rename_i ds ρ2 hes
    obtain ⟨O2, st2, e3, hr⟩ := escs_ok st1 hvs hes
    split at q3
    · rename_i ps hps
      split at q3
      · rename_i hl15
        obtain ⟨kvs, a1, a2, a3⟩ := pairsD_ok hr hps
        have hlen : kvs.length = ps.length := by simpa using congrArg List.length a2
        refine ⟨kvs, a1, by omega, ?_⟩
        obtain ⟨m1, m2⟩ := mergeD_ok (kvs := []) (kd := []) a2 a3 rfl .nil
        obtain ⟨s5, f5, m5, h5⟩ := st2.unstill (o := .dK (mergeK [] kvs)) (fun q hq => (s1.frm q hq).2) n1
        refine q3 _ _ s5 ?_ p _ upd_same m5 f5 n1 ?_
        · rw [h5]; exact e3
        · rw [h5]; exact .dK m1 m2
      · exact q3.elim
    · exact q3.elim
  · exact q3.elim

/-! ### names of the module -/
theorem de_glob {x : Str} {v : V} {u : Value} {d : D} (hm : X.mg x = some u) (hr : RelV v u) (hd : ∀ G, Rep (bs X) G v d) (hg : Gl X x := by rfl) (hdb : (x == ("__debug__" : Str)) = false := by decide) : DE X W (.Name x pos) (dC d) := de_c (pe_glob hg hm hr hdb) hd
theorem de_bltn {x : Str} {v : V} {u : Value} {d : D} (hm : X.mg x = none) (hv : bootBuiltins x = some u) (hr : RelV v u) (hd : ∀ G, Rep (bs X) G v d) (hg : Gl X x := by rfl) (hn : x ≠ "__name__" := by decide) (hdb : (x == ("__debug__" : Str)) = false := by decide) : DE X W (.Name x pos) (dC d) := de_c (pe_bltn hg hm hv hr hn hdb) hd

/-! ### any, all, sum, max, min of a list -/
def blsD : List D → Option (List Bool)
  | [] => some []
  | .bl b :: r => (blsD r).map (b :: ·)
  | _ :: _ => none
def intsD : List D → Option (List Int)
  | [] => some []
  | .int i :: r => (intsD r).map (i :: ·)
  | _ :: _ => none
theorem bls_ok {B : Bs} {G : Hp} : ∀ {vs : List V} {ds : List D} {bs : List Bool}, RepL B G vs ds → blsD ds = some bs → vs = bs.map V.bl
  | _, _, _, .nil, h => by simp only [blsD] at h; cases h; rfl
  | _, d :: ds, bs, .cons h t, e => by
    cases d <;> simp only [blsD] at e <;> try (cases e; done)
    cases hb : blsD ds with
    | none => rw [hb] at e; cases e
    | some bs' => rw [hb] at e; cases e; rw [bls_ok t hb, h.bl_inv]; rfl
theorem ints_ok {B : Bs} {G : Hp} : ∀ {vs : List V} {ds : List D} {bs : List Int}, RepL B G vs ds → intsD ds = some bs → vs = bs.map V.int
  | _, _, _, .nil, h => by simp only [intsD] at h; cases h; rfl
  | _, d :: ds, bs, .cons h t, e => by
    cases d <;> simp only [intsD] at e <;> try (cases e; done)
    cases hb : intsD ds with
    | none => rw [hb] at e; cases e
    | some bs' => rw [hb] at e; cases e; rw [ints_ok t hb, h.int_inv]; rfl
def anyD : D → Option D
  | .lst ds => (blsD ds).map fun bs => .bl (bs.any id)
  | _ => none
def allD : D → Option D
  | .lst ds => (blsD ds).map fun bs => .bl (bs.all id)
  | _ => none
def sumD : D → Option D
  | .lst ds => (intsD ds).map fun bs => .int bs.sum
  | _ => none
def maxL : List Int → Option Int
  | [] => none
  | x :: r => match maxL r with
    | none => some x
    | some m => some (if x < m then m else x)
def minL : List Int → Option Int
  | [] => none
  | x :: r => match minL r with
    | none => some x
    | some m => some (if m < x then m else x)
theorem maxL_mem : ∀ {l : List Int} {m : Int}, maxL l = some m → m ∈ l ∧ ∀ y ∈ l, y ≤ m
  | [], m, h => by simp only [maxL] at h; cases h
  | x :: r, m, h => by
    simp only [maxL] at h
    cases hr : maxL r with
    | none =>
      rw [hr] at h
      cases h
      have : r = [] := by
        cases r with
        | nil => rfl
        | cons a b => simp only [maxL] at hr; split at hr <;> cases hr
      subst this
      simp
    | some m' =>
      rw [hr] at h
      cases h
      obtain ⟨h1, h2⟩ := maxL_mem hr
      split
      · rename_i hl
        refine ⟨.tail _ h1, fun y hy => ?_⟩
        rcases List.mem_cons.mp hy with rfl | hy
        · omega
        · exact h2 y hy
      · rename_i hl
        refine ⟨List.mem_cons_self, fun y hy => ?_⟩
        rcases List.mem_cons.mp hy with rfl | hy
        · exact Int.le_refl _
        · have := h2 y hy; omega
theorem minL_mem : ∀ {l : List Int} {m : Int}, minL l = some m → m ∈ l ∧ ∀ y ∈ l, m ≤ y
  | [], m, h => by simp only [minL] at h; cases h
  | x :: r, m, h => by
    simp only [minL] at h
    cases hr : minL r with
    | none =>
      rw [hr] at h
      cases h
      have : r = [] := by
        cases r with
        | nil => rfl
        | cons a b => simp only [minL] at hr; split at hr <;> cases hr
      subst this
      simp
    | some m' =>
      rw [hr] at h
      cases h
      obtain ⟨h1, h2⟩ := minL_mem hr
      split
      · rename_i hl
        refine ⟨.tail _ h1, fun y hy => ?_⟩
        rcases List.mem_cons.mp hy with rfl | hy
        · omega
        · exact h2 y hy
      · rename_i hl
        refine ⟨List.mem_cons_self, fun y hy => ?_⟩
        rcases List.mem_cons.mp hy with rfl | hy
        · exact Int.le_refl _
        · have := h2 y hy; omega
theorem maxL_none {l : List Int} (h : maxL l = none) : l = [] := by
  cases l with
  | nil => rfl
  | cons a b => simp only [maxL] at h; split at h <;> cases h
def maxD1 : D → Option D
  | .lst ds => match intsD ds with
    | some ns => (maxL ns).map .int
    | none => none
  | _ => none
def minD1 : D → Option D
  | .lst ds => match intsD ds with
    | some ns => (minL ns).map .int
    | none => none
  | _ => none
theorem de_any (hm : X.mg "any" = none) (hc : X.calm = true) (ha : DA X W (e :: es) fs) (hg : Gl X "any" := by rfl) (he : starEach (e :: es) X.env = (false, eval e X.env) :: starEach es X.env := by rfl) (hpl : (backTo pos (starEach es X.env)).any (·.1) = false := by rfl) : DE X W (.Call (.Name "any" p) (e :: es) [] pos) (dN (one1 anyD) fs) :=
  de_N (pe_callB (cr_any hc) hg hm (by decide +kernel) ha (by decide) (by decide) he hpl) (callD_1 (by
    intro v H O x d Q hl hx hg hq
    cases x <;> simp only [anyD] at hg <;> try (cases hg; done)
    rename_i ds
    cases hb : blsD ds with
    | none => rw [hb] at hg; cases hg
    | some bs =>
      rw [hb] at hg
      cases hg
      obtain ⟨a, xs, rfl, hs, rr⟩ := hx.lst
      exact ⟨a, bs, rfl, by rw [← bls_ok rr hb]; exact .inl (.inl hs), hq _ H (.refl _) (.bl _)⟩))
theorem de_all (hm : X.mg "all" = none) (hc : X.calm = true) (ha : DA X W (e :: es) fs) (hg : Gl X "all" := by rfl) (he : starEach (e :: es) X.env = (false, eval e X.env) :: starEach es X.env := by rfl) (hpl : (backTo pos (starEach es X.env)).any (·.1) = false := by rfl) : DE X W (.Call (.Name "all" p) (e :: es) [] pos) (dN (one1 allD) fs) :=
  de_N (pe_callB (cr_all hc) hg hm (by decide +kernel) ha (by decide) (by decide) he hpl) (callD_1 (by
    intro v H O x d Q hl hx hg hq
    cases x <;> simp only [allD] at hg <;> try (cases hg; done)
    rename_i ds
    cases hb : blsD ds with
    | none => rw [hb] at hg; cases hg
    | some bs =>
      rw [hb] at hg
      cases hg
      obtain ⟨a, xs, rfl, hs, rr⟩ := hx.lst
      exact ⟨a, bs, rfl, by rw [← bls_ok rr hb]; exact .inl (.inl hs), hq _ H (.refl _) (.bl _)⟩))
theorem de_sum (hm : X.mg "sum" = none) (hc : X.calm = true) (ha : DA X W (e :: es) fs) (hg : Gl X "sum" := by rfl) (he : starEach (e :: es) X.env = (false, eval e X.env) :: starEach es X.env := by rfl) (hpl : (backTo pos (starEach es X.env)).any (·.1) = false := by rfl) : DE X W (.Call (.Name "sum" p) (e :: es) [] pos) (dN (one1 sumD) fs) :=
  de_N (pe_callB (cr_sum hc) hg hm (by decide +kernel) ha (by decide) (by decide) he hpl) (callD_1 (by
    intro v H O x d Q hl hx hg hq
    cases x <;> simp only [sumD] at hg <;> try (cases hg; done)
    rename_i ds
    cases hb : intsD ds with
    | none => rw [hb] at hg; cases hg
    | some bs =>
      rw [hb] at hg
      cases hg
      obtain ⟨a, xs, rfl, hs, rr⟩ := hx.lst
      exact ⟨a, bs, rfl, by rw [← ints_ok rr hb]; exact .inl (.inl hs), hq _ H (.refl _) (.int _)⟩))
theorem max_eq {ns : List Int} {m m' : Int} (h : maxL ns = some m) (h1 : m' ∈ ns) (h2 : ∀ y ∈ ns, y ≤ m') : m' = m := by
  obtain ⟨a, b⟩ := maxL_mem h
  have := b _ h1
  have := h2 _ a
  omega
theorem min_eq {ns : List Int} {m m' : Int} (h : minL ns = some m) (h1 : m' ∈ ns) (h2 : ∀ y ∈ ns, m' ≤ y) : m' = m := by
  obtain ⟨a, b⟩ := minL_mem h
  have := b _ h1
  have := h2 _ a
  omega
theorem de_max1 (hm : X.mg "max" = none) (hc : X.calm = true) (ha : DA X W (e :: es) fs) (hg : Gl X "max" := by rfl) (he : starEach (e :: es) X.env = (false, eval e X.env) :: starEach es X.env := by rfl) (hpl : (backTo pos (starEach es X.env)).any (·.1) = false := by rfl) : DE X W (.Call (.Name "max" p) (e :: es) [] pos) (dN (one1 maxD1) fs) :=
  de_N (pe_callB (cr_max hc) hg hm (by decide +kernel) ha (by decide) (by decide) he hpl) (callD_1 (by
    intro v H O x d Q hl hx hg hq
    cases x <;> simp only [maxD1] at hg <;> try (cases hg; done)
    rename_i ds
    cases hb : intsD ds with
    | none => rw [hb] at hg; cases hg
    | some ns =>
      rw [hb] at hg
      cases hM : maxL ns with
      | none => simp only [hM] at hg; cases hg
      | some m =>
        simp only [hM] at hg
        cases hg
        obtain ⟨a, xs, rfl, hs, rr⟩ := hx.lst
        refine ⟨a, ns, rfl, by rw [← ints_ok rr hb]; exact .inl (.inl hs), List.length_pos_of_mem (maxL_mem hM).1, fun m' h1 h2 => ?_⟩
        rw [max_eq hM h1 h2]
        exact hq _ H (.refl _) (.int _)))
theorem de_min1 (hm : X.mg "min" = none) (hc : X.calm = true) (ha : DA X W (e :: es) fs) (hg : Gl X "min" := by rfl) (he : starEach (e :: es) X.env = (false, eval e X.env) :: starEach es X.env := by rfl) (hpl : (backTo pos (starEach es X.env)).any (·.1) = false := by rfl) : DE X W (.Call (.Name "min" p) (e :: es) [] pos) (dN (one1 minD1) fs) :=
  de_N (pe_callB (cr_min hc) hg hm (by decide +kernel) ha (by decide) (by decide) he hpl) (callD_1 (by
    intro v H O x d Q hl hx hg hq
    cases x <;> simp only [minD1] at hg <;> try (cases hg; done)
    rename_i ds
    cases hb : intsD ds with
    | none => rw [hb] at hg; cases hg
    | some ns =>
      rw [hb] at hg
      cases hM : minL ns with
      | none => simp only [hM] at hg; cases hg
      | some m =>
        simp only [hM] at hg
        cases hg
        obtain ⟨a, xs, rfl, hs, rr⟩ := hx.lst
        refine ⟨a, ns, rfl, by rw [← ints_ok rr hb]; exact .inl (.inl hs), List.length_pos_of_mem (minL_mem hM).1, fun m' h1 h2 => ?_⟩
        rw [min_eq hM h1 h2]
        exact hq _ H (.refl _) (.int _)))
/-- max(xs, default=n) -/
def maxDf (n : Int) : D → Option D
  | .lst ds => match intsD ds with
    | some ns => some (.int ((maxL ns).getD n))
    | none => none
  | _ => none
theorem de_maxD {n : Int} {ku : Nat} {kp cp : Pos} (hm : X.mg "max" = none) (hc : X.calm = true) (ha : DE X W e fa) (hg : Gl X "max" := by rfl) (hs : starEach [e] X.env = (false, eval e X.env) :: starEach [] X.env := by rfl)
    (he : backTo pos (starEach [e] X.env) = (false, eval e X.env) :: backTo pos (starEach [] X.env) := by rfl) (hpl : (backTo pos (starEach [e] X.env)).any (·.1) = false := by rfl)
    (hall : (backToKw pos (keywordEach [⟨some "default", .Constant (.int n) ku cp, kp⟩] X.env)).all (·.1.isSome) = true := by rfl) (hnone : (backToKw pos (keywordEach [⟨some "default", .Constant (.int n) ku cp, kp⟩] X.env)).any (·.1.isNone) = false := by rfl) (hks : (backToKw pos (keywordEach [⟨some "default", .Constant (.int n) ku cp, kp⟩] X.env)).filterMap (·.1) = [Str.ofString "default"] := by rfl) :
    DE X W (.Call (.Name "max" p) [e] [⟨some "default", .Constant (.int n) ku cp, kp⟩] pos) (d1 (maxDf n) fa) := PE.le (pe_callBK (MaxD.cr_maxD hc) hg hm (by decide +kernel) (pa_cons ha pa_nil hs) (pk_cons pe_int pk_nil) (by decide) (by decide) he hpl hall hnone hks) fun σ H Q ⟨c, ρ, O, st, q⟩ => by
  unfold d1 at q
  refine tP.step st (Po.bind q) fun r ρ1 v H1 O1 st1 e1 hv q1 => ?_
  split at q1
  · rename_i d hd
    have hw := st1.vw hv hd
    cases d <;> simp only [maxDf, out] at q1 <;> try (exact q1.elim)
    rename_i ds
    cases hb : intsD ds with
    | none => simp only [hb] at q1; exact q1.elim
    | some ns =>
      simp only [hb] at q1
      obtain ⟨a, xs, rfl, hs, rr⟩ := hw.lst
      refine ⟨a, ns, .int n, rfl, rfl, by rw [← ints_ok rr hb]; exact .inl (.inl hs), fun m h1 h2 => ?_, fun hn => ?_⟩
      · have : maxL ns = some m := by
          cases hM : maxL ns with
          | none => rw [maxL_none hM] at h1; cases h1
          | some m' => rw [max_eq hM h1 h2]
        rw [this] at q1
        exact q1 H1 O1 st1 (.refl _) _ (.int m)
      · subst hn
        exact q1 H1 O1 st1 (.refl _) _ (.int n)
  · exact q1.elim
end
end Pu
namespace Pu
open PySem PySem.Spec PyProof.Rows L2 My

/-! ### sep.join(texts) -/
def strsD : List D → Option (List Str)
  | [] => some []
  | .str s :: r => (strsD r).map (s :: ·)
  | _ :: _ => none
theorem strs_ok {B : Bs} {G : Hp} : ∀ {vs : List V} {ds : List D} {ss : List Str}, RepL B G vs ds → strsD ds = some ss → vs = ss.map V.str
  | _, _, _, .nil, h => by simp only [strsD] at h; cases h; rfl
  | _, d :: ds, bs, .cons h t, e => by
    cases d <;> simp only [strsD] at e <;> try (cases e; done)
    cases hb : strsD ds with
    | none => rw [hb] at e; cases e
    | some bs' => rw [hb] at e; cases e; rw [strs_ok t hb, h.str_inv]; rfl
def seqD : D → Option (List D)
  | .lst xs => some xs
  | .tup xs => some xs
  | _ => none
def joinD (a : Str) (d : D) : Option D := match seqD d with
  | some ds => match strsD ds with
    | some ss => if (ss.map (·.length)).sum + ss.length * a.length ≤ 16777216 then some (.str (Txt.join a ss)) else none
    | none => none
  | none => none
def dJoin (fo fa : M Rv) : M Rv := fun ρ => (fo ρ).bind fun r ρ1 => match rd ρ1 r with
  | some (.str a) => (fa ρ1).bind fun r2 ρ2 => match rd ρ2 r2 with
    | some d => out ρ2 (joinD a d)
    | none => .bad
  | _ => .bad
section
variable {X : Cx} {W : WX} {o e f a : Expr} {es : List Expr} {fo fk fx fa : M Rv} {fs : M (List Rv)} {pos p apos cpos tpos : Pos} {k : Nat} {x1 : Nat}
theorem de_join (ho : DE X W o fo) (he : DE X W e fa) (hs : starEach [e] X.env = [(false, eval e X.env)] := by rfl) (hbase : attributeBase o "join" X.env (eval o X.env) = eval o X.env := by rfl) (hline : (apos.endLine == pos.line) = true := by rfl) :
    DE X W (.Call (.Attribute o "join" apos) [e] [] pos) (dJoin fo fa) := PE.le (pe_join ho he hs hbase hline) fun σ H Q ⟨c, ρ, O, st, q⟩ => by
  unfold dJoin at q
  refine tP.step st (Po.bind q) fun r ρ1 v H1 O1 st1 e1 hv q1 => ?_
  split at q1
  · rename_i a ha
    have hva := (st1.vw hv ha).str
    refine ⟨⟨a, hva⟩, ?_⟩
    refine tP.step st1 (Po.bind q1) fun r2 ρ2 y H2 O2 st2 e2 hy q2 => ?_
    split at q2
    · rename_i d hd
      have hw := st2.vw hy hd
      cases hj : joinD a d with
      | none => rw [hj] at q2; exact q2.elim
      | some z =>
        rw [hj] at q2
        unfold joinD at hj
        split at hj
        · rename_i ds hds
          split at hj
          · rename_i ss hss
            obtain ⟨hb, rfl⟩ := some_if hj
            cases d <;> simp only [seqD] at hds <;> cases hds
            · obtain ⟨a1, xs, rfl, hs, rr⟩ := hw.tup
              exact ⟨a, a1, ss, hva, rfl, .inr (by rw [← strs_ok rr hss]; exact hs), hb, q2 H2 O2 st2 (.refl _) _ (.str _)⟩
            · obtain ⟨a1, xs, rfl, hs, rr⟩ := hw.lst
              exact ⟨a, a1, ss, hva, rfl, .inl (by rw [← strs_ok rr hss]; exact .inl (.inl hs)), hb, q2 H2 O2 st2 (.refl _) _ (.str _)⟩
          · cases hj
        · cases hj
    · exact q2.elim
  · exact q1.elim

/-! ### repr -/
def isSq : D → Bool
  | .lst _ => true
  | .tup _ => true
  | _ => false
def reprD (d : D) : Option D := match d with
  | .non => some (.str "None")
  | d => if isSq d = true then (match toP d with
    | some q => if q.showable = true ∧ q.depth ≤ 60 ∧ q.shown.length ≤ sizeLine then some (.str q.shown) else none
    | none => none) else none
mutual
theorem toP_nodict : ∀ (d : D) (q : PyData), toP d = some q → q.hasDict = false
  | .non, q, h => by simp only [toP] at h; cases h; rw [PyData.hasDict]
  | .bl b, q, h => by simp only [toP] at h; cases h; rw [PyData.hasDict]
  | .int b, q, h => by simp only [toP] at h; cases h; rw [PyData.hasDict]
  | .str b, q, h => by simp only [toP] at h; cases h; rw [PyData.hasDict]
  | .tup xs, q, h => by
    simp only [toP] at h
    cases hp : toPs xs with
    | none => rw [hp] at h; cases h
    | some ps => rw [hp] at h; cases h; rw [PyData.hasDict]; exact toPs_nodict xs ps hp
  | .lst xs, q, h => by
    simp only [toP] at h
    cases hp : toPs xs with
    | none => rw [hp] at h; cases h
    | some ps => rw [hp] at h; cases h; rw [PyData.hasDict]; exact toPs_nodict xs ps hp
  | .dK _, q, h => by simp only [toP] at h; cases h
  | .dT _, q, h => by simp only [toP] at h; cases h
  | .kd _, q, h => by simp only [toP] at h; cases h
  | .ins _ _, q, h => by simp only [toP] at h; cases h
  | .scr _, q, h => by simp only [toP] at h; cases h
  | .ty _, q, h => by simp only [toP] at h; cases h
  | .cl _, q, h => by simp only [toP] at h; cases h
theorem toPs_nodict : ∀ (ds : List D) (qs : List PyData), toPs ds = some qs → PyData.hasDictAll qs = false
  | [], qs, h => by simp only [toPs] at h; cases h; rw [PyData.hasDictAll]
  | d :: ds, qs, h => by
    simp only [toPs] at h
    cases h1 : toP d with
    | none => rw [h1] at h; cases h
    | some q =>
      cases h2 : toPs ds with
      | none => rw [h1, h2] at h; cases h
      | some qs' =>
        rw [h1, h2] at h
        cases h
        rw [PyData.hasDictAll, toP_nodict d q h1, toPs_nodict ds qs' h2]
        rfl
end
def rReprD (K : PySem.W.Frag) : List V → Hp → VK → Prop := fun xs H Q => (xs = [.non] ∧ Q (.str "None") H) ∨ ∃ a q, xs = [.ref a] ∧ Dp K H (.ref a) q ∧ q.hasDict = false ∧ q.showable = true ∧ q.depth ≤ 60 ∧ q.shown.length ≤ sizeLine ∧ Q (.str q.shown) H
theorem call_reprD (hg : X.A.guards = some []) (hu : X.A.units + 64 < cLine) : CallR X (.builtin "repr") (rReprD X.K) := by
  intro pins s σ H xs us Q I r h
  rcases h with ⟨rfl, q⟩ | ⟨a, d, rfl, hd, hn, hs, hdep, hl, q⟩
  · obtain ⟨u, rfl, ru⟩ := vals1 r
    obtain rfl : u = Value.none := ru
    exact PySem.P.repr_of_none ⟨.str _, H, I.tok _, ⟨_, rfl⟩, q⟩
  · rw [Vals.ref1 r]
    obtain ⟨as, R⟩ := Dp.reads I d _ _ hd (show RelV (.ref a) (.ref a) from rfl)
    exact PySem.repr_of_reads' (h₀ := s.heap) R hs (fun z => by rw [hn] at z; cases z) hg (by omega) (fun _ _ z => z) (fun h' u tk k => ⟨.str d.shown, H, I.kept (t' := tk) k, ⟨u, rfl⟩, q⟩) hl
theorem de_repr (hr : RmG k X.A) (hm : X.mg "repr" = none) (ha : DA X W (e :: es) fs) (hg : Gl X "repr" := by rfl) (he : starEach (e :: es) X.env = (false, eval e X.env) :: starEach es X.env := by rfl) (hpl : (backTo pos (starEach es X.env)).any (·.1) = false := by rfl) : DE X W (.Call (.Name "repr" p) (e :: es) [] pos) (dN (one1 reprD) fs) :=
  de_N (pe_callB (call_reprD hr.gd hr.u64) hg hm (by decide +kernel) ha (by decide) (by decide) he hpl) (callD_1 (by
    intro v H O x d Q hl hx hg hq
    have main : ∀ y : D, Vw (bs X) H O v y → isSq y = true → ∀ z, toP y = some z → (z.showable = true ∧ z.depth ≤ 60 ∧ z.shown.length ≤ sizeLine) → Q (.str z.shown) H → rReprD X.K [v] H Q := fun y hy hsq z hz hc hQ => by
      have hd := rep_dp y _ z hy.full hz
      have : ∃ a, v = .ref a := by
        cases y <;> simp only [isSq] at hsq <;> try (cases hsq; done)
        · obtain ⟨a, _, rfl, _⟩ := hy.tup; exact ⟨a, rfl⟩
        · obtain ⟨a, _, rfl, _⟩ := hy.lst; exact ⟨a, rfl⟩
      obtain ⟨a, rfl⟩ := this
      exact .inr ⟨a, z, rfl, hd, toP_nodict y z hz, hc.1, hc.2.1, hc.2.2, hQ⟩
    unfold reprD at hg
    split at hg
    · cases hg
      exact .inl ⟨by rw [hx.non], hq _ H (.refl _) (.str _)⟩
    · split at hg
      · rename_i hsq
        split at hg
        · rename_i z hz
          obtain ⟨hc, rfl⟩ := some_if hg
          exact main _ hx hsq z hz hc (hq _ H (.refl _) (.str _))
        · cases hg
      · cases hg))

/-! ### tuple(range(n)), list(range(n)) -/
def dTupR (fa : M Rv) : M Rv := fun ρ => (fa ρ).bind fun r ρ1 => match rd ρ1 r with
  | some (.int n) => if -(2 ^ 62) ≤ n ∧ n ≤ 2 ^ 24 then .ok (.val (.tup (rngD 0 n.toNat))) ρ1 else .bad
  | _ => .bad
theorem rng_rep {B : Bs} {G : Hp} (n : Nat) : ∀ a : Int, RepL B G ((List.range n).map fun i => V.int (a + (i : Nat))) (rngD a n) := by
  induction n with
  | zero => intro a; exact .nil
  | succ n ih =>
    intro a
    rw [List.range_succ_eq_map, List.map_cons, List.map_map]
    refine .cons ?_ ?_
    · simp only [Int.natCast_zero, Int.add_zero]; exact .int a
    · have e : ((fun i : Nat => V.int (a + (i : Int))) ∘ Nat.succ) = fun i : Nat => V.int (a + 1 + (i : Int)) := by
        funext i
        simp only [Function.comp]
        congr 1
        omega
      rw [e]
      exact ih (a + 1)
theorem de_tupR {p1 pos1 : Pos} (hm : X.mg "tuple" = none) (hm2 : X.mg "range" = none) (hc : X.calm = true) (ha : DE X W a fa) (hg : Gl X "tuple" := by rfl) (hg2 : Gl X "range" := by rfl) (na : starEach [a] X.env = (false, eval a X.env) :: starEach [] X.env := by rfl)
    (na2 : starEach [.Call (.Name "range" p1) [a] [] pos1] X.env = (false, eval (.Call (.Name "range" p1) [a] [] pos1) X.env) :: starEach [] X.env := by rfl) : DE X W (.Call (.Name "tuple" p) [.Call (.Name "range" p1) [a] [] pos1] [] pos) (dTupR fa) := PE.le (pe_tupRg hc hg hm (prg_1 hg2 hm2 ha na) na2) fun σ H Q ⟨c, ρ, O, st, q⟩ => by
  unfold dTupR at q
  refine tP.step st (Po.bind q) fun r ρ1 v H1 O1 st1 e1 hv q1 => ?_
  split at q1
  · rename_i n hn
    split at q1
    · rename_i hb
      refine ⟨n, (st1.vw hv hn).int, ⟨by omega, by omega, by omega, by omega, by omega⟩, ?_⟩
      have : RepL (bs X) (hide H1 O1) (rgV 0 n) (rngD 0 n.toNat) := by
        unfold rgV
        rw [Int.sub_zero]
        exact rng_rep n.toNat 0
      exact new_tup st1.liv (fun w H' e' hw => q1 H' O1 (st1.ext e') (same_hide e') w hw) this
    · exact q1.elim
  · exact q1.elim

/-! ### sorted(xs): ints, texts -/
theorem paired_imp {α β : Type} {R S : α → β → Prop} (h : ∀ a b, R a b → S a b) : ∀ {l : List α} {m : List β}, Paired R l m → Paired S l m
  | _, _, .nil => .nil
  | _, _, .cons r t => .cons (h _ _ r) (paired_imp h t)
theorem paired_repl {B : Bs} {G : Hp} : ∀ {l : List V} {m : List D}, Paired (Rep B G) l m → RepL B G l m
  | _, _, .nil => .nil
  | _, _, .cons r t => .cons r (paired_repl t)
open SrtO in
theorem KV1.plain {kvs : List V} (h : SrtK.KV1 kvs) (prog : Program) (w : World) (A : Around) : ∃ ltv, Swo ltv ∧ (∀ keys : List Value, Vals kvs keys → 2 ≤ keys.length → SrtK.KeysOk prog w A keys ltv) ∧ ∀ vs : List Value, Vals kvs vs → Vals (SrtK.isort SrtK.ltV kvs) (SrtK.isort ltv vs) := by
  have key : ∀ {C : V → Prop} {ltv : Value → Value → Bool} {kvs : List V} {vs : List Value}, (∀ k ∈ kvs, C k) → (∀ x y u v, C x → C y → RelV x u → RelV y v → SrtK.ltV x y = ltv u v) → Vals kvs vs → Vals (SrtK.isort SrtK.ltV kvs) (SrtK.isort ltv vs) := by
    intro C ltv kvs vs hC hlt hv
    have hz : Paired (fun k v => C k ∧ RelV k v) kvs vs := by
      clear hlt
      induction hv with
      | nil => exact .nil
      | cons r _ ih => exact .cons ⟨hC _ List.mem_cons_self, r⟩ (ih fun k hk => hC k (.tail _ hk))
    have := SrtK.isort_rel (R := fun k v => C k ∧ RelV k v) (lt := SrtK.ltV) (lt' := ltv) (fun x y u v a b => hlt x y u v a.1 b.1 a.2 b.2) hz
    exact paired_imp (fun _ _ z => z.2) this
  rcases h with ⟨ns, rfl⟩ | ⟨ss, rfl⟩
  · exact ⟨ltIv, swo_int, fun keys h h2 => SrtK.keys_ints h h2, fun vs h => key (C := fun k => ∃ i, k = .int i) (fun k hk => by
      obtain ⟨i, _, rfl⟩ := List.mem_map.mp hk
      exact ⟨i, rfl⟩) SrtK.lt_int h⟩
  · exact ⟨SrtK.ltSv, SrtK.swo_str, fun keys h h2 => SrtK.keys_strs h h2, fun vs h => key (C := fun k => ∃ i, k = .str i) (fun k hk => by
      obtain ⟨i, _, rfl⟩ := List.mem_map.mp hk
      exact ⟨i, rfl⟩) SrtK.lt_str h⟩
def rSrt0 (K : PySem.W.Frag) : List V → Hp → VK → Prop := fun xs H Q => ∃ l us, xs = [.ref l] ∧ SqL K H l us ∧ SrtK.KV1 us ∧ ∀ p, H p = none → Q (.ref p) (upd H p (.lst (SrtK.isort SrtK.ltV us)))
theorem call_srt0 : CallR X (.builtin "sorted") (rSrt0 X.K) := by
  intro pins s σ H xs us Q I r h
  obtain ⟨l, uv, rfl, hs, hk, q⟩ := h
  obtain ⟨its, rv, hl, hz⟩ := I.list hs
  rw [Vals.ref1 r]
  obtain ⟨ltv, O, hK, hout⟩ := KV1.plain hk X.prog X.w X.A.in1.in1
  have hlen : uv.length = its.length := rv.length
  refine SrtO.sorted_ord O hl.isList (by omega) (fun h2 h₁ a' _ _ h' _ => hK its rv h2 _) fun out h1 h2 => ?_
  have eo := SrtK.is_isort O h1 h2
  subst eo
  obtain ⟨ep, he'⟩ := PyProof.Rows.sortedAll_at s.heap its (SrtK.isort ltv its).toArray
  have hol : (SrtK.isort SrtK.ltV uv).length ≤ sizeLine := by rw [(SrtK.isort_perm uv).length_eq]; exact hz
  exact ⟨.ref _, upd H (s.heap.objs.size + 1) (.lst (SrtK.isort SrtK.ltV uv)), I.laid (t' := s.toks) (fun _ _ => PyProof.Rows.sortedAll_old) (Nat.le_succ _) ⟨hol, _, ep, hout its rv, he'⟩, rfl, q _ (I.hok.fresh (Nat.le_succ _))⟩
def dSrt0 (fa : M Rv) : M D := fun ρ => (fa ρ).bind fun r ρ1 => match rd ρ1 r with
  | some (.lst ds) => if oneKd ds = true then .ok (.lst (SrtK.isort ltkD ds)) ρ1 else .bad
  | _ => .bad
theorem reps_vK {B : Bs} {G : Hp} : ∀ {us : List V} {ds : List D}, RepL B G us ds → (∀ d ∈ ds, isIntD d = true ∨ isStrD d = true) → us = ds.map vK
  | _, _, .nil, _ => rfl
  | _, d :: ds, .cons h t, hd => by rw [vK_rep h (hd d List.mem_cons_self), reps_vK t fun d hd' => hd d (.tail _ hd')]; rfl
theorem df_srt0 (hm : X.mg "sorted" = none) (ha : DE X W e fa) (hg : Gl X "sorted" := by rfl) (he : starEach [e] X.env = (false, eval e X.env) :: starEach [] X.env := by rfl) (hpl : (backTo pos (starEach [] X.env)).any (·.1) = false := by rfl) : DF X W (.Call (.Name "sorted" p) [e] [] pos) (dSrt0 fa) :=
  PE.le (pe_callB call_srt0 hg hm boot_sorted (pa_cons ha pa_nil he) (by decide) (by decide) he hpl) fun σ H Q ⟨c, ρ, O, st, q⟩ => by
    unfold dSrt0 at q
    refine tCB_1 (B := bs X) (tP.step st (Po.bind q) fun r ρ1 v H1 O1 st1 e1 hv q1 => ?_)
    split at q1
    · rename_i ds hd
      split at q1
      · rename_i hk
        obtain ⟨a, xs, rfl, hs, rr⟩ := (st1.vw hv hd).lst
        have hall : ∀ d ∈ ds, isIntD d = true ∨ isStrD d = true := fun d hd => by
          unfold oneKd at hk
          rw [Bool.or_eq_true] at hk
          exact hk.imp (fun z => List.all_eq_true.mp z d hd) (fun z => List.all_eq_true.mp z d hd)
        have ex := reps_vK rr hall
        subst ex
        refine ⟨a, _, rfl, .inl (.inl hs), kv1_of hk, new_own st1 q1 (.lst ?_)⟩
        have hz : Paired (fun (x : V) (d : D) => x = vK d ∧ Rep (bs X) (hide H1 O1) x d) (ds.map vK) ds := by
          clear hk hall hs hd q1
          induction ds with
          | nil => exact .nil
          | cons d ds ih =>
            cases rr with
            | cons r1 r2 => exact .cons ⟨rfl, r1⟩ (ih r2)
        have := SrtK.isort_rel (lt := SrtK.ltV) (lt' := ltkD) (fun x y u v a b => by rw [a.1, b.1, ltk_eq]) hz
        exact paired_repl (paired_imp (fun _ _ z => z.2) this)
      · exact q1.elim
    · exact q1.elim
end
end Pu
namespace Pu
open PySem PySem.Spec PyProof.Rows L2 My

/-! ### try: .. except X as e: return (.., e.f, ..) -/
abbrev GX := Str → List (Str × D) → Option D
abbrev GXs := Str → List (Str × D) → Option (List D)
structure SuAt (B : Bs) (i : Nat) (a : Addr) (cls : Value) (d : Option Addr) (x : Str) (fs : List (Str × D)) (c : Cst) (ρ : En) (O : List Addr) (σ : L2.St) (H : Hp) : Prop where
  cls : cls = .ref (B.cls x)
  st : Stt B c ρ σ H O
  ex : ExAt B (hide H O) fs d
  sl : σ[i]? = some (some (.ref a))
def tXp (B : Bs) (i : Nat) (a : Addr) (cls : Value) (d : Option Addr) (g : GX) : TE := fun σ H Q => ∃ x fs c ρ O, SuAt B i a cls d x fs c ρ O σ H ∧ ∃ dd, g x fs = some dd ∧ ∀ v, Rep B (hide H O) v dd → Q v H
def tXps (B : Bs) (i : Nat) (a : Addr) (cls : Value) (d : Option Addr) (g : GXs) : TA := fun σ H Q => ∃ x fs c ρ O, SuAt B i a cls d x fs c ρ O σ H ∧ ∃ dd, g x fs = some dd ∧ ∀ v, RepL B (hide H O) v dd → Q v H
def gStr (z : Str) : GX := fun _ _ => some (.str z)
def gFld (cn f : Str) : GX := fun x fs => if x = cn then fs.lookup f else none
def gIs (cn : Str) (b : Bool) : GX := fun x _ => if x = cn then some (.bl b) else none
def gNil : GXs := fun _ _ => some []
def gCons (g : GX) (gs : GXs) : GXs := fun x fs => match g x fs, gs x fs with
  | some d, some ds => some (d :: ds)
  | _, _ => none
section
variable {X : Cx} {i : Nat} {a : Addr} {cls : Value} {d : Option Addr} {oe : Obj} {pn : List (Addr × Obj)} {e : Expr} {es : List Expr} {g : GX} {gs : GXs} {pos p tpos : Pos} {x1 : Nat}
theorem xp_str {z : Str} {ku : Nat} : PE (X.suite a ((a, oe) :: pn)) (.Constant (.str z) ku pos) (tXp (bs X) i a cls d (gStr z)) := PE.le pe_str fun σ H Q ⟨x, fs, c, ρ, O, su, dd, hg, q⟩ => by
  cases hg
  exact q _ (.str z)
theorem xp_fld {cn f n : Str} {sI : Stmt} {fn : List Str} {ps : Pos} (R : Ex X.prog X.K X.mg cn sI fn) (hf : f ∈ fn) (hz : Zc cls d oe) (hv : ∃ vs, oe.data = .fields vs) (hn : PE (X.suite a ((a, oe) :: pn)) (.Name n ps) (tVar i)) (hb : attributeBase (.Name n ps) f X.env (eval (.Name n ps) X.env) = eval (.Name n ps) X.env := by rfl) :
    PE (X.suite a ((a, oe) :: pn)) (.Attribute (.Name n ps) f pos) (tXp (bs X) i a cls d (gFld cn f)) := PE.le (pe_xf R.xf (R.T.nf _ hf) hz hv hn hb) fun σ H Q ⟨x, fs, c, ρ, O, su, dd, hg, q⟩ => by
  unfold gFld at hg
  split at hg
  · rename_i hx
    subst hx
    refine ⟨_, su.sl, rfl, su.cls, ?_⟩
    have hE := su.ex
    cases d with
    | none => unfold ExAt at hE; subst hE; cases hg
    | some d' =>
      obtain ⟨gs, h1, h2, h3⟩ := hE
      obtain ⟨v, l1, l2⟩ := lookup_ok h2 h3 hg
      exact ⟨d', gs, v, rfl, hide_le _ _ _ _ h1, l1, q v l2⟩
  · cases hg
theorem xp_is {cn n : Str} {T : String} {b : Bool} {ps : Pos} {eT : Expr} (C : ExcC X.K ((bs X).cls cn)) (hk : PySem.W.kitOne X.K (.ref ((bs X).cls cn)) (.type T) = some b) (hm : X.mg "isinstance" = none) (hz : Zc cls d oe) (hv : ∃ vs, oe.data = .fields vs) (hn : PE (X.suite a ((a, oe) :: pn)) (.Name n ps) (tVar i)) (hT : PE (X.suite a ((a, oe) :: pn)) eT (tC (.ty T))) (hg : Gl (X.suite a ((a, oe) :: pn)) "isinstance" := by rfl)
    (h0 : starEach [eT] X.env = (false, eval eT X.env) :: starEach [] X.env := by rfl) (he : starEach [.Name n ps, eT] X.env = (false, eval (.Name n ps) X.env) :: starEach [eT] X.env := by rfl) (hpl : (backTo pos (starEach [eT] X.env)).any (·.1) = false := by rfl) :
    PE (X.suite a ((a, oe) :: pn)) (.Call (.Name "isinstance" p) [.Name n ps, eT] [] pos) (tXp (bs X) i a cls d (gIs cn b)) := PE.le (pe_callB (call_isX C hz hv) hg hm (by decide +kernel) (pa_cons hn (pa_cons hT pa_nil h0) he) (by decide) (by decide) he hpl) fun σ H Q ⟨x, fs, c, ρ, O, su, dd, hgg, q⟩ => by
  unfold gIs at hgg
  split at hgg
  · rename_i hx
    subst hx
    cases hgg
    refine ⟨_, su.sl, .ty T, .type T, b, su.cls, rfl, fun u hu => hu, hk, ?_, q _ (.bl b)⟩
    have hE := su.ex
    cases d with
    | none => exact .inl rfl
    | some d' =>
      obtain ⟨gs, h1, _⟩ := hE
      exact .inr ⟨d', gs, rfl, hide_le _ _ _ _ h1⟩
  · cases hgg
theorem xps_nil : PA (X.suite a ((a, oe) :: pn)) [] (tXps (bs X) i a cls d gNil) := PA.le pa_nil fun σ H Q ⟨x, fs, c, ρ, O, su, dd, hg, q⟩ => by
  cases hg
  exact q [] .nil
theorem xps_cons (h : PE (X.suite a ((a, oe) :: pn)) e (tXp (bs X) i a cls d g)) (hr : PA (X.suite a ((a, oe) :: pn)) es (tXps (bs X) i a cls d gs)) (hs : starEach (e :: es) X.env = (false, eval e X.env) :: starEach es X.env := by rfl) :
    PA (X.suite a ((a, oe) :: pn)) (e :: es) (tXps (bs X) i a cls d (gCons g gs)) := PA.le (pa_cons h hr hs) fun σ H Q ⟨x, fs, c, ρ, O, su, dd, hg, q⟩ => by
  unfold gCons at hg
  split at hg
  · rename_i d1 ds h1 h2
    cases hg
    exact ⟨x, fs, c, ρ, O, su, d1, h1, fun v hv => ⟨x, fs, c, ρ, O, su, ds, h2, fun vs hvs => q (v :: vs) (.cons hv hvs)⟩⟩
  · cases hg
/-- the suite: return (..) -/
def suF (gs : GXs) (x : Str) (fs : List (Str × D)) : SM := fun ρ => match gs x fs with
  | some ds => if ds.length ≤ sizeLine then .rt (.tup ds) ρ else .bad
  | none => .bad
def tSu (B : Bs) (W : WX) (i : Nat) (gs : GXs) (a : Addr) (cls : Value) (d : Option Addr) : TS := fun E σ H => ∃ x fs c ρ O, SuAt B i a cls d x fs c ρ O σ H ∧ SPo B c W E H O (suF gs x fs ρ)
theorem su_ret {W : WX} (h : PA (X.suite a ((a, oe) :: pn)) es (tXps (bs X) i a cls d gs)) : PSs (X.suite a ((a, oe) :: pn)) [.Return (some (.Tuple es x1 tpos)) pos] (tSu (bs X) W i gs a cls d) := PSs.le (pss_one (ps_ret (pe_tup h))) fun E σ H ⟨x, fs, c, ρ, O, su, q⟩ => by
  unfold suF at q
  split at q
  · rename_i ds hg
    split at q
    · rename_i hl
      refine ⟨x, fs, c, ρ, O, su, ds, hg, fun vs hvs => ⟨by rw [hvs.length]; exact hl, fun t ht => ?_⟩⟩
      have en : Same H (upd H t (.tup vs)) := Same.new ht
      exact q _ σ _ O (su.st.ext en) (same_hide en) (.tup (.inl (.inl (hide_new su.st.liv ht))) (hvs.mono (same_hide en)))
    · exact q.elim
  · exact q.elim
end
/-- what the clauses make of an error -/
def catchD (ca : Str → Str → Option Bool) (x : Str) (fs : List (Str × D)) : List (Str × Nat × GXs) → SM
  | [] => fun ρ => .ex x fs ρ
  | (cn, i, gs) :: more => fun ρ => match ca x cn with
    | some true => suF gs x fs (ρ.set i none)
    | some false => catchD ca x fs more ρ
    | none => .bad
def dTry (ca : Str → Str → Option Bool) (body : SM) (cl : List (Str × Nat × GXs)) : SM := fun ρ => match body ρ with
  | .ex x fs ρ1 => catchD ca x fs cl ρ1
  | o => o
inductive ClD (X : Cx) (W : WX) : List ExceptHandler → List (Str × Nat × GXs) → List Clause → Prop
  | nil : ClD X W [] [] []
  | cons {cn n : Str} {i : Nat} {gs : GXs} {s0 : Stmt} {suite : List Stmt} {p1 p2 : Pos} {hds : List ExceptHandler} {cl : List (Str × Nat × GXs)} {l : List Clause} (hi : X.N[i]? = some n) (hl : X.env.kindOf n = some .local) (hc : Names X cn (.ref ((bs X).cls cn)))
      (hsu : ∀ (a : Addr) (oe : Obj) (cls : Value) (d : Option Addr) (pn : List (Addr × Obj)), Zc cls d oe → (∃ vs, oe.data = .fields vs) → PSs (X.suite a ((a, oe) :: pn)) (s0 :: suite) (tSu (bs X) W i gs a cls d)) (r : ClD X W hds cl l) :
      ClD X W (.ExceptHandler (some (.Name cn p1)) (some n) (s0 :: suite) p2 :: hds) ((cn, i, gs) :: cl) ((.ref ((bs X).cls cn), i, fun a cls d => tSu (bs X) W i gs a cls d) :: l)
theorem ClD.ok {X : Cx} {W : WX} {hds : List ExceptHandler} {cl : List (Str × Nat × GXs)} {l : List Clause} (h : ClD X W hds cl l) : ClausesOk X hds l := by
  induction h with
  | nil => exact .nil
  | cons hi hl hc hsu _ ih => exact .cons hi hl hc hsu ih
theorem catch_le {X : Cx} {W : WX} {hds : List ExceptHandler} {cl : List (Str × Nat × GXs)} {l : List Clause} (h : ClD X W hds cl l) {ca : Str → Str → Option Bool} (hca : ∀ x y b, ca x y = some b → PySem.W.exmOne X.K (.ref ((bs X).cls x)) (.ref ((bs X).cls y)) = some b) {E : Ends} {x : Str} {fs : List (Str × D)} {c : Cst} {ρ : En} {O : List Addr} {σ : L2.St} {H : Hp} {dd : Option Addr} (st : Stt (bs X) c ρ σ H O) (hx : ExAt (bs X) (hide H O) fs dd) (hlen : σ.length = X.N.length)
    (q : SPo (bs X) c W E H O (catchD ca x fs cl ρ)) : wAsMany X.K W E l (.ref ((bs X).cls x)) dd σ H := by
  induction h with
  | nil => exact q dd σ H O st (.refl _) hx
  | @cons cn n i gs s0 suite p1 p2 hds cl l hi hl hc hsu _ ih =>
    unfold catchD at q
    split at q
    · rename_i hb
      refine ⟨true, hca _ _ _ hb, fun _ a ha => ?_, fun z => by cases z⟩
      have hlt : i < σ.length := by
        rw [hlen]
        rcases Nat.lt_or_ge i X.N.length with z | z
        · exact z
        · rw [List.getElem?_eq_none z] at hi; cases hi
      refine ⟨x, fs, c, ρ.set i none, O, ⟨rfl, st.drop i _, hx, List.getElem?_set_self hlt⟩, ?_⟩
      have key : ∀ o : SOut, (∀ d r, o = .rt d r ∨ o = .bad ∨ True) → (∃ d r, o = .rt d r) ∨ o = .bad → SPo (bs X) c W E H O o → SPo (bs X) c W (wiped i E) H O o := by
        rintro o _ (⟨d, r, rfl⟩ | rfl) h
        · exact fun v σ' H' O' s' e' hr => h v σ' H' O' s' e' hr
        · exact h
      refine key _ (fun _ _ => .inr (.inr trivial)) ?_ q
      unfold suF
      cases gs x fs with
      | none => exact .inr rfl
      | some ds =>
        by_cases hl : ds.length ≤ sizeLine
        · exact .inl ⟨_, _, by simp only [if_pos hl]; rfl⟩
        · exact .inr (by simp only [if_neg hl])
    · rename_i hb
      exact ⟨false, hca _ _ _ hb, fun z => (by cases z), fun _ => ih q⟩
    · exact q.elim
section
variable {X : Cx} {W : WX}
theorem ds_try {body : List Stmt} {h0 : ExceptHandler} {hds : List ExceptHandler} {l : List Clause} {cl : List (Str × Nat × GXs)} {fb : SM} {pos : Pos} {ca : Str → Str → Option Bool} (hs : X.stack = X.env :: X.outer) (hf : X.env.frame = some X.env.locals) (hN : X.N.Nodup) (tk : Takes X W)
    (hca : ∀ x y b, ca x y = some b → PySem.W.exmOne X.K (.ref ((bs X).cls x)) (.ref ((bs X).cls y)) = some b)
    (hb : ∀ (W : WX) (pn : List (Addr × Obj)) (xe : Value → Shared → Prop), Takes (X.tr pn xe) W → PassesOwn (model X.prog X.w) X.A X.env xe → DSs (X.tr pn xe) W body fb) (ck : ClD X W (h0 :: hds) cl l) :
    DS X W (.Try body (h0 :: hds) [] [] pos) (dTry ca fb cl) := PS.le (ps_tryAs (tb := fun W => tS (bs X) W fb) hs hf hN tk hb ck.ok) fun E σ H ⟨c, ρ, O, st, q⟩ => by
  refine ⟨c, ρ, O, st, ?_⟩
  unfold dTry at q
  cases hfb : fb ρ with
  | nx ρ1 => rw [hfb] at q; exact q
  | rt d ρ1 => rw [hfb] at q; exact q
  | bk ρ1 => rw [hfb] at q; exact q
  | ct ρ1 => rw [hfb] at q; exact q
  | rf d ρ1 => rw [hfb] at q; exact q
  | bad => rw [hfb] at q; exact q
  | ex x fs ρ1 =>
    rw [hfb] at q
    exact fun dd σ' H' O' st' e' hx hlen => catch_le ck hca st' hx hlen (SPo.mono q e')
end
end Pu
namespace Pu
open PySem PySem.Spec PyProof.Rows L2 My

/-! ### a call whose argument j is a new object -/
def srcD (j : Nat) : Nat → List Src → Option (List D)
  | _, [] => some []
  | i, .v d :: ss => if i = j then none else (srcD j (i + 1) ss).map (d :: ·)
  | i, .o d :: ss => if i = j then (srcD j (i + 1) ss).map (d :: ·) else none
def fcallX (j : Nat) (fn : List D → FOut) (ss : List Src) (ρ : En) : Out Rv := match srcD j 0 ss with
  | some ds => if j < ss.length then (match fn ds with
    | .ok d _ => .ok (.val d) ρ
    | .ex x fs _ => .ex x fs ρ
    | .bad => .bad) else .bad
  | none => .bad
def dCallX (t : Bool) (j m : Nat) (fn : List D → FOut) (fs : M (List Src)) : M Rv := fun ρ => (fs ρ).bind fun ss ρ1 => if ss.length = m then (if t = true then fcallX j fn ss ρ1 else noX (fcallX j fn ss ρ1)) else .bad
section
variable {B : Bs} {c : Cst} {ρ : En} {σ : L2.St} {H H' : Hp} {O O' : List Addr} {vs : List V} {io : D} {j : Nat}
theorem Fin.sttJ {x : Addr} (st : Stt B c ρ σ H O) (hf : Free ρ σ x) (hF : x ∉ c.F) (hj : vs[j]? = some (.ref x)) (f : Fin B (some j) vs H O io H' O') : Stt B c ρ σ H' O' := by
  have ap : ∀ q, q ≠ x → ∀ i, some j = some i → vs[i]? ≠ some (.ref q) := fun q hq i hi e => by
    cases hi
    rw [hj] at e
    cases e
    exact hq rfl
  refine ⟨st.len, ?_, ?_, st.sep, st.pin, f.liv, ?_⟩
  · intro i d h
    obtain ⟨v, h1, h2⟩ := st.val i d h
    exact ⟨v, h1, h2.mono f.same⟩
  · intro i k d h hk
    obtain ⟨p, o, h1, h2, h3, h4, h5⟩ := st.own i k d h hk
    obtain ⟨u1, u2⟩ := f.frm p h2 (ap p fun z => hf i k d h hk (by rw [h1, z]))
    exact ⟨p, o, h1, u1, h3, by rw [u2]; exact h4, h5.mono f.same⟩
  · intro q hq
    obtain ⟨u1, u2⟩ := st.frm q hq
    obtain ⟨w1, w2⟩ := f.frm q u1 (ap q fun z => hF (by rw [← z]; exact hq))
    exact ⟨w1, by rw [w2]; exact u2⟩
/-- the arguments by their sources -/
theorem srcD_ok : ∀ {vs : List V} {ss : List Src} {ps : List Addr} {ds : List D} (i : Nat), SrcsOk B c ρ σ H O vs ss ps → srcD j i ss = some ds →
    vs.length = ds.length ∧ (∀ n d, i + n ≠ j → ds[n]? = some d → ∃ v, vs[n]? = some v ∧ Rep B (hide H O) v d) ∧ ∀ n, i + n = j → n < vs.length → ∃ p o d, vs[n]? = some (.ref p) ∧ p ∈ O ∧ H p = some o ∧ ds[n]? = some d ∧ RepO B (hide H O) o d ∧ Free ρ σ p ∧ p ∉ c.F := by
  intro vs ss ps ds i h
  induction h generalizing i ds with
  | nil =>
    intro e
    simp only [srcD] at e
    cases e
    exact ⟨rfl, fun n d _ h => by simp at h, fun n _ h => by simp at h⟩
  | @v u d vs ss ps r t ih =>
    intro e
    simp only [srcD] at e
    split at e
    · cases e
    · rename_i hne
      cases hs : srcD j (i + 1) ss with
      | none => rw [hs] at e; cases e
      | some ds' =>
        rw [hs] at e
        cases e
        obtain ⟨a1, a2, a3⟩ := ih (i + 1) hs
        refine ⟨by simp [a1], fun n d' hn hd => ?_, fun n hn hl => ?_⟩
        · cases n with
          | zero => simp at hd; subst hd; exact ⟨u, rfl, r⟩
          | succ n => simpa using a2 n d' (by omega) (by simpa using hd)
        · cases n with
          | zero => exact absurd hn hne
          | succ n => simpa using a3 n (by omega) (by simpa using hl)
  | @o p ob d vs ss ps h1 h2 h3 h4 h5 h6 t ih =>
    intro e
    simp only [srcD] at e
    split at e
    · rename_i he
      cases hs : srcD j (i + 1) ss with
      | none => rw [hs] at e; cases e
      | some ds' =>
        rw [hs] at e
        cases e
        obtain ⟨a1, a2, a3⟩ := ih (i + 1) hs
        refine ⟨by simp [a1], fun n d' hn hd => ?_, fun n hn hl => ?_⟩
        · cases n with
          | zero => exact absurd he hn
          | succ n => simpa using a2 n d' (by omega) (by simpa using hd)
        · cases n with
          | zero => exact ⟨p, ob, d, rfl, h2, h1, rfl, h5, h3, h4⟩
          | succ n => exact absurd hn (by omega)
    · cases e
end
section
variable {X : Cx} {W : WX} {x : Str} {st : Stmt} {ps : List Str} {k : Nat} {e : Expr} {es : List Expr} {fs : M (List Src)} {p pos : Pos} {fn : List D → FOut} {t : Bool} {j : Nat}
theorem callX_sp {c : Cst} {σ : L2.St} {H : Hp} {O : List Addr} {ρ : En} {ss : List Src} {vs : List V} {qs : List Addr} {m : Nat} {Q : VK} {W' : WX} (hm : ss.length = m) (st : Stt (bs X) c ρ σ H O) (hv : SrcsOk (bs X) c ρ σ H O vs ss qs)
    (q : Po (bs X) c W' σ H O (fun r ρ' H' O' => ∀ v, RvOk (bs X) σ H' O' v r → Q v H') (fcallX j fn ss ρ)) : spD (bs X) (some j) m fn vs H Q (fun cls d H' => W' cls d σ H') := by
  unfold fcallX at q
  split at q
  · rename_i ds hds
    split at q
    · rename_i hj
      obtain ⟨a1, a2, a3⟩ := srcD_ok 0 hv hds
      have hl := hv.len
      obtain ⟨p, o, d, b1, b2, b3, b4, b5, b6, b7⟩ := a3 j (by omega) (by omega)
      refine ⟨by omega, O, ds, st.liv, ⟨a1, fun i d' hi hd => a2 i d' (fun z => hi (by rw [← z]; simp)) hd, fun i hi => ?_⟩, ?_⟩
      · cases hi
        exact ⟨p, o, d, b1, b2, b3, b4, b5⟩
      · cases hfn : fn ds with
        | ok d io =>
          simp only [hfn] at q
          intro v H' O' f hr
          exact q H' O' (f.sttJ st b6 b7 b1) f.same v hr
        | ex x fs io =>
          simp only [hfn] at q
          intro dd H' O' f hx
          exact q dd H' O' (f.sttJ st b6 b7 b1) f.same hx
        | bad => simp only [hfn] at q; exact q.elim
    · exact q.elim
  · exact q.elim
theorem de_callX (Dx : Dg X.K X.mg x st) (hb : Binds X.K (fdOf X.K (My.fa X.mg x)) ps []) (G : FnG X.prog X.w X.K X.mg X.base k (My.fa X.mg x) (fdOf X.K (My.fa X.mg x)) ps (spD (bs X) (some j) ps.length fn)) (hr : RmG k X.A) (hx : ErrOk X W t) (ha : DX X W (e :: es) fs) (hg : Gl X x := by rfl)
    (hdb : (x == ("__debug__" : Str)) = false := by decide) (he : starEach (e :: es) X.env = (false, eval e X.env) :: starEach es X.env := by rfl) (hpl : (backTo pos (starEach es X.env)).any (·.1) = false := by rfl) :
    DE X W (.Call (.Name x p) (e :: es) [] pos) (dCallX t j ps.length fn fs) := PE.le (pe_callG (dvs := []) G hr hg Dx.g Dx.F.kp hb .nil (pass_t hx) ha hdb he hpl) fun σ H Q ⟨c, ρ, O, st, q⟩ => by
  unfold dCallX at q
  have q0 := Po.bind q
  refine ⟨c, ρ, O, st, ?_⟩
  cases hf : fs ρ with
  | bad => rw [hf] at q0; exact q0
  | ex x gs ρ1 => rw [hf] at q0; exact q0
  | ok ss ρ1 =>
    rw [hf] at q0
    intro H1 O1 st1 e1 vs qs hvs
    have q1 := q0 H1 O1 st1 e1
    simp only at q1
    rw [List.append_nil]
    split at q1
    · rename_i hm
      unfold wE
      cases t with
      | true =>
        rw [if_pos rfl] at q1
        rw [if_pos rfl]
        exact callX_sp hm st1 hvs q1
      | false =>
        rw [if_neg (by decide)] at q1
        rw [if_neg (by decide)]
        exact callX_sp (W' := fun _ _ _ _ => False) hm st1 hvs (noX_po q1)
    · exact q1.elim
end

/-! ### a def by itself: nothing is promised, or by the promise one level below -/
theorem fn_bad {P : Program} {w : World} {K : PySem.W.Frag} {mg : Str → Option Value} {base : Heap} {k : Nat} {f : Addr} {fd : FuncData} {ps : List Str} {B : Bs} {pin : Option Nat} : FnG P w K mg base k f fd ps (spD B pin ps.length fun _ => .bad) :=
  ⟨fun vs H Q E h => h.1, fun A outer s H args us vs Q E _ _ _ _ h => by
    obtain ⟨_, O, ds, _, _, z⟩ := h
    exact z.elim⟩
theorem fn_badF {P : Program} {w : World} {K : PySem.W.Frag} {mg : Str → Option Value} {base : Heap} {k : Nat} {f : Addr} {fd : FuncData} {ps : List Str} {B : Bs} {pin : Option Nat} : FnG P w K mg base k f fd ps (spF B pin ps.length fun _ => .bad) :=
  ⟨fun vs H Q E h => h.1, fun A outer s H args us vs Q E _ _ _ _ h => by
    obtain ⟨_, O, ds, _, _, z⟩ := h
    exact z.elim⟩
end Pu
namespace Pu
open PySem PySem.Spec PyProof.Rows L2 My

/-! ### isinstance of a built-in class, ready -/
def gInt : Tag → Bool
  | .int => true
  | .bl => true
  | _ => false
def gBool : Tag → Bool
  | .bl => true
  | _ => false
def gStrT : Tag → Bool
  | .str => true
  | _ => false
def gLst : Tag → Bool
  | .lst => true
  | _ => false
def gTupT : Tag → Bool
  | .tup => true
  | _ => false
def gDic : Tag → Bool
  | .dic => true
  | _ => false
def gRow : Tag → Bool
  | .tup => true
  | .lst => true
  | _ => false
/-- what isinstance says of the instances of own classes -/
def NotIn (K : PySem.W.Frag) (mg : Str → Option Value) (cs : List Str) : Prop := ∀ c ∈ cs, InsF K (My.fa mg c) ∧ ∀ T : String, T ∈ ["int", "bool", "str", "list", "tuple", "dict"] → PySem.W.kitOne K (.ref (My.fa mg c)) (.type T) = some false
section
variable {X : Cx} {W : WX} {a b c : Expr} {fa : M Rv} {pos p p2 p3 tpos : Pos} {cs : List Str} {x1 : Nat}
theorem notIn_nil {K : PySem.W.Frag} {mg : Str → Option Value} : NotIn K mg [] := fun _ h => by cases h
theorem is_ty {T : String} {g : Tag → Bool} (hN : NotIn X.K X.mg cs) (hT : T ∈ ["int", "bool", "str", "list", "tuple", "dict"]) (hk : ∀ t : Tag, kitB t.name T = some (g t)) (hm : X.mg "isinstance" = none) (ha : DE X W a fa) (hT2 : PE X b (tC (.ty T))) (hg : Gl X "isinstance" := by rfl)
    (h0 : starEach [b] X.env = (false, eval b X.env) :: starEach [] X.env := by rfl) (he : starEach [a, b] X.env = (false, eval a X.env) :: starEach [b] X.env := by rfl) (hpl : (backTo pos (starEach [b] X.env)).any (·.1) = false := by rfl) : DE X W (.Call (.Name "isinstance" p) [a, b] [] pos) (d1 (isG g (cs.map fun c => (c, false))) fa) :=
  de_isi hm ha hT2 (.ty T) (fun t => kit_ty (hk t)) (fun q hq => by
    obtain ⟨c, hc, rfl⟩ := List.mem_map.mp hq
    exact ⟨(hN c hc).1, (hN c hc).2 T hT⟩) hg h0 he hpl
theorem k_int : ∀ t : Tag, kitB t.name "int" = some (gInt t) := by intro t; cases t <;> decide +kernel
theorem k_bool : ∀ t : Tag, kitB t.name "bool" = some (gBool t) := by intro t; cases t <;> decide +kernel
theorem k_str : ∀ t : Tag, kitB t.name "str" = some (gStrT t) := by intro t; cases t <;> decide +kernel
theorem k_lst : ∀ t : Tag, kitB t.name "list" = some (gLst t) := by intro t; cases t <;> decide +kernel
theorem k_tup : ∀ t : Tag, kitB t.name "tuple" = some (gTupT t) := by intro t; cases t <;> decide +kernel
theorem k_dic : ∀ t : Tag, kitB t.name "dict" = some (gDic t) := by intro t; cases t <;> decide +kernel
theorem k_row {K : PySem.W.Frag} : ∀ t : Tag, PySem.W.kitAny K (.type t.name) [.type "tuple", .type "list"] = some (gRow t) := by
  intro t
  have h1 := kit_ty (K := K) (k_tup t)
  have h2 := kit_ty (K := K) (k_lst t)
  refine kitAny_cons h1 (fun z => kitAny_cons h2 (fun z2 => ?_) fun z2 => ?_) fun z => ?_
  · cases t <;> first | rfl | (cases z; done) | (cases z2; done)
  · cases t <;> first | rfl | (cases z; done) | (cases z2; done)
  · cases t <;> first | rfl | (cases z; done)
theorem de_isInt (hN : NotIn X.K X.mg cs) (hm : X.mg "isinstance" = none) (hi : X.mg "int" = none) (ha : DE X W a fa) (hg : Gl X "isinstance" := by rfl) (hg2 : Gl X "int" := by rfl)
    (h0 : starEach [.Name "int" p2] X.env = (false, eval (.Name "int" p2) X.env) :: starEach [] X.env := by rfl) (he : starEach [a, .Name "int" p2] X.env = (false, eval a X.env) :: starEach [.Name "int" p2] X.env := by rfl) (hpl : (backTo pos (starEach [.Name "int" p2] X.env)).any (·.1) = false := by rfl) : DE X W (.Call (.Name "isinstance" p) [a, .Name "int" p2] [] pos) (d1 (isG gInt (cs.map fun c => (c, false))) fa) :=
  is_ty hN (by simp) k_int hm ha (pe_bltn (v := .ty "int") hg2 hi PyProof.Rows.Boot.«int» rfl) hg h0 he hpl
theorem de_isBool (hN : NotIn X.K X.mg cs) (hm : X.mg "isinstance" = none) (hi : X.mg "bool" = none) (ha : DE X W a fa) (hg : Gl X "isinstance" := by rfl) (hg2 : Gl X "bool" := by rfl)
    (h0 : starEach [.Name "bool" p2] X.env = (false, eval (.Name "bool" p2) X.env) :: starEach [] X.env := by rfl) (he : starEach [a, .Name "bool" p2] X.env = (false, eval a X.env) :: starEach [.Name "bool" p2] X.env := by rfl) (hpl : (backTo pos (starEach [.Name "bool" p2] X.env)).any (·.1) = false := by rfl) : DE X W (.Call (.Name "isinstance" p) [a, .Name "bool" p2] [] pos) (d1 (isG gBool (cs.map fun c => (c, false))) fa) :=
  is_ty hN (by simp) k_bool hm ha (pe_bltn (v := .ty "bool") hg2 hi PyProof.Rows.Boot.«bool» rfl) hg h0 he hpl
theorem de_isStr (hN : NotIn X.K X.mg cs) (hm : X.mg "isinstance" = none) (hi : X.mg "str" = none) (ha : DE X W a fa) (hg : Gl X "isinstance" := by rfl) (hg2 : Gl X "str" := by rfl)
    (h0 : starEach [.Name "str" p2] X.env = (false, eval (.Name "str" p2) X.env) :: starEach [] X.env := by rfl) (he : starEach [a, .Name "str" p2] X.env = (false, eval a X.env) :: starEach [.Name "str" p2] X.env := by rfl) (hpl : (backTo pos (starEach [.Name "str" p2] X.env)).any (·.1) = false := by rfl) : DE X W (.Call (.Name "isinstance" p) [a, .Name "str" p2] [] pos) (d1 (isG gStrT (cs.map fun c => (c, false))) fa) :=
  is_ty hN (by simp) k_str hm ha (pe_bltn (v := .ty "str") hg2 hi PyProof.Rows.Boot.«str» rfl) hg h0 he hpl
theorem de_isLst (hN : NotIn X.K X.mg cs) (hm : X.mg "isinstance" = none) (hi : X.mg "list" = none) (ha : DE X W a fa) (hg : Gl X "isinstance" := by rfl) (hg2 : Gl X "list" := by rfl)
    (h0 : starEach [.Name "list" p2] X.env = (false, eval (.Name "list" p2) X.env) :: starEach [] X.env := by rfl) (he : starEach [a, .Name "list" p2] X.env = (false, eval a X.env) :: starEach [.Name "list" p2] X.env := by rfl) (hpl : (backTo pos (starEach [.Name "list" p2] X.env)).any (·.1) = false := by rfl) : DE X W (.Call (.Name "isinstance" p) [a, .Name "list" p2] [] pos) (d1 (isG gLst (cs.map fun c => (c, false))) fa) :=
  is_ty hN (by simp) k_lst hm ha (pe_bltn (v := .ty "list") hg2 hi PyProof.Rows.Boot.«list» rfl) hg h0 he hpl
theorem de_isTup (hN : NotIn X.K X.mg cs) (hm : X.mg "isinstance" = none) (hi : X.mg "tuple" = none) (ha : DE X W a fa) (hg : Gl X "isinstance" := by rfl) (hg2 : Gl X "tuple" := by rfl)
    (h0 : starEach [.Name "tuple" p2] X.env = (false, eval (.Name "tuple" p2) X.env) :: starEach [] X.env := by rfl) (he : starEach [a, .Name "tuple" p2] X.env = (false, eval a X.env) :: starEach [.Name "tuple" p2] X.env := by rfl) (hpl : (backTo pos (starEach [.Name "tuple" p2] X.env)).any (·.1) = false := by rfl) : DE X W (.Call (.Name "isinstance" p) [a, .Name "tuple" p2] [] pos) (d1 (isG gTupT (cs.map fun c => (c, false))) fa) :=
  is_ty hN (by simp) k_tup hm ha (pe_bltn (v := .ty "tuple") hg2 hi PyProof.Rows.Boot.«tuple» rfl) hg h0 he hpl
theorem notAny {K : PySem.W.Frag} {C : Addr} (h : ∀ T : String, T ∈ ["int", "bool", "str", "list", "tuple", "dict"] → PySem.W.kitOne K (.ref C) (.type T) = some false) : PySem.W.kitAny K (.ref C) [.type "tuple", .type "list"] = some false :=
  kitAny_cons (h "tuple" (by simp)) (fun _ => kitAny_cons (h "list" (by simp)) (fun _ => rfl) fun z => by cases z) fun z => by cases z
theorem de_isRow (hN : NotIn X.K X.mg cs) (hm : X.mg "isinstance" = none) (ht : X.mg "tuple" = none) (hl : X.mg "list" = none) (ha : DE X W a fa) (hg : Gl X "isinstance" := by rfl) (hg2 : Gl X "tuple" := by rfl) (hg3 : Gl X "list" := by rfl)
    (hb1 : starEach [.Name "tuple" p2, .Name "list" p3] X.env = (false, eval (.Name "tuple" p2) X.env) :: starEach [.Name "list" p3] X.env := by rfl) (hb2 : starEach [.Name "list" p3] X.env = (false, eval (.Name "list" p3) X.env) :: starEach [] X.env := by rfl)
    (h0 : starEach [.Tuple [.Name "tuple" p2, .Name "list" p3] x1 tpos] X.env = (false, eval (.Tuple [.Name "tuple" p2, .Name "list" p3] x1 tpos) X.env) :: starEach [] X.env := by rfl) (he : starEach [a, .Tuple [.Name "tuple" p2, .Name "list" p3] x1 tpos] X.env = (false, eval a X.env) :: starEach [.Tuple [.Name "tuple" p2, .Name "list" p3] x1 tpos] X.env := by rfl) (hpl : (backTo pos (starEach [.Tuple [.Name "tuple" p2, .Name "list" p3] x1 tpos] X.env)).any (·.1) = false := by rfl) :
    DE X W (.Call (.Name "isinstance" p) [a, .Tuple [.Name "tuple" p2, .Name "list" p3] x1 tpos] [] pos) (d1 (isG gRow (cs.map fun c => (c, false))) fa) :=
  de_isi2 hm ha (pe_bltn (v := .ty "tuple") hg2 ht PyProof.Rows.Boot.«tuple» rfl) (pe_bltn (v := .ty "list") hg3 hl PyProof.Rows.Boot.«list» rfl) k_row (fun q hq => by
    obtain ⟨c, hc, rfl⟩ := List.mem_map.mp hq
    exact ⟨(hN c hc).1, notAny (hN c hc).2⟩) hg hb1 hb2 h0 he hpl
end

/-! ### place.replace("l", "0").replace("r", "2") + "1" -/
def rankS (z : Str) : Str := Txt.replace (Txt.replace z "l" "0") "r" "2" ++ "1"
def fnRank : List D → FOut := fun ds => match ds with
  | [.str z] => if z.length ≤ 3000 ∧ (Txt.replace z "l" "0").length ≤ 9000 ∧ (Txt.replace (Txt.replace z "l" "0") "r" "2").length ≤ 30000 then .ok (.str (rankS z)) .non else .bad
  | _ => .bad
end Pu
namespace Pu
open PySem PySem.Spec PyProof.Rows L2 My

/-! ### == of what is equal: data with empty dicts within -/
/-- equal, of nesting below n -/
def EqN (K : PySem.W.Frag) (H : Hp) : Nat → V → V → Prop
  | 0 => fun _ _ => False
  | n + 1 => fun x y => (x = y ∧ flatB x = true) ∨ (∃ a b xs ys, x = .ref a ∧ y = .ref b ∧ SqT K H a xs ∧ SqT K H b ys ∧ Paired (EqN K H n) xs ys) ∨
      (∃ a b xs ys, x = .ref a ∧ y = .ref b ∧ SqL K H a xs ∧ SqL K H b ys ∧ Paired (EqN K H n) xs ys) ∨
      ∃ a b, x = .ref a ∧ y = .ref b ∧ Rd H a (.dK []) ∧ Rd H b (.dK [])
section
variable {X : Cx} {pins : List (Addr × Obj)} {σ : L2.St} {H : Hp} {s : Shared}
theorem rc_tups (I : Inv X pins σ H s) {A : Around} {F : V → V → Prop} (hu : A.units < cLine) (ih : ∀ x y v u, F x y → RelV x v → RelV y u → SeqAt.EqP X.prog X.w A.in1 s v u true) {a b : Addr} {xs ys : List V} (ha : SqT X.K H a xs) (hb : SqT X.K H b ys) (hp : Paired F xs ys)
    (E Q : Value → Shared → Prop) (q : Q (.bool true) s) : wpAny (model X.prog X.w) A (richCompare .Eq (.ref a) (.ref b)) Q E s := by
  obtain ⟨us, r1, p1, _⟩ := I.tuple ha
  obtain ⟨ws, r2, p2, _⟩ := I.tuple hb
  have hsz : us.length = ws.length := by rw [← r1.length, ← r2.length]; exact Paired.length hp
  refine SeqAt.rcIn_tuples (e := fun _ => true) p1 p2 hu (fun j h1 h2 => ?_) ?_
  · have k := items_run ih hp r1 r2 j (by simpa using h1) (by simpa using h2)
    intro E' Q' hq
    have := k E' Q' hq
    simpa using this
  · have e : ((List.range (min us.toArray.size ws.toArray.size)).all (fun _ => true) && us.toArray.size == ws.toArray.size) = true := by simp [hsz]
    rw [e]
    exact q
theorem rc_lsts (I : Inv X pins σ H s) {A : Around} {F : V → V → Prop} (hu : A.units < cLine) (ih : ∀ x y v u, F x y → RelV x v → RelV y u → SeqAt.EqP X.prog X.w A.in1 s v u true) {a b : Addr} {xs ys : List V} (ha : SqL X.K H a xs) (hb : SqL X.K H b ys) (hp : Paired F xs ys)
    (E Q : Value → Shared → Prop) (q : Q (.bool true) s) : wpAny (model X.prog X.w) A (richCompare .Eq (.ref a) (.ref b)) Q E s :=
  eqR_run I hu ih (.inl ⟨a, b, xs, ys, rfl, rfl, ha, hb, hp⟩) rfl rfl E Q q
theorem rc_emp (I : Inv X pins σ H s) {A : Around} (hu : A.units < cLine) {a b : Addr} (ha : Rd H a (.dK [])) (hb : Rd H b (.dK [])) (E Q : Value → Shared → Prop) (q : Q (.bool true) s) :
    wpAny (model X.prog X.w) A (richCompare .Eq (.ref a) (.ref b)) Q E s := by
  obtain ⟨_, ya, va, ra, da⟩ := dk_rd I.hok ha
  obtain ⟨_, yb, vb, rb, db⟩ := dk_rd I.hok hb
  cases ra
  cases rb
  exact PySem.W.rcP_dicts (knd := mixKind X.prog X.w) (r := true) ya yb da db hu (fun _ => .nil) E Q q
theorem eqN_run (I : Inv X pins σ H s) : ∀ (n : Nat) (A : Around), A.units + n < cLine → ∀ (x y : V) (v u : Value), EqN X.K H n x y → RelV x v → RelV y u → SeqAt.EqP X.prog X.w A s v u true
  | 0, _, _, _, _, _, _, h, _, _ => (show False from h).elim
  | n + 1, A, hu, x, y, v, u, h, rx, ry => by
    rcases h with ⟨rfl, f⟩ | h
    · exact (eqAt_same rx ry f).eqP
    · have hA : A.units < cLine := by omega
      have ih := eqN_run I n A.in1 (by show A.units + 1 + n < cLine; omega)
      have key : ∃ a b, x = .ref a ∧ y = .ref b ∧ ∀ (E Q : Value → Shared → Prop), Q (.bool true) s → wpAny (model X.prog X.w) A (richCompare .Eq (.ref a) (.ref b)) Q E s := by
        rcases h with ⟨a, b, xs, ys, rfl, rfl, ha, hb, hp⟩ | ⟨a, b, xs, ys, rfl, rfl, ha, hb, hp⟩ | ⟨a, b, rfl, rfl, ha, hb⟩
        · exact ⟨a, b, rfl, rfl, rc_tups I hA ih ha hb hp⟩
        · exact ⟨a, b, rfl, rfl, rc_lsts I hA ih ha hb hp⟩
        · exact ⟨a, b, rfl, rfl, rc_emp I hA ha hb⟩
      obtain ⟨a, b, rfl, rfl, step⟩ := key
      cases (show v = Value.ref a from rx)
      cases (show u = Value.ref b from ry)
      by_cases e : a = b
      · subst e
        exact (SeqAt.EqAt.same _).eqP
      · exact SeqAt.eqP_refs e step
end
def rEqN (K : PySem.W.Frag) : R2 := fun x y H Q => ∃ n a b xs ys, n ≤ 60 ∧ x = .ref a ∧ y = .ref b ∧ SqT K H a xs ∧ SqT K H b ys ∧ Paired (EqN K H n) xs ys ∧ Q (.bl true) H
theorem op_eqN {X : Cx} (hu : X.A.units + 64 < cLine) : OpR X (compareOp .Eq) (rEqN X.K) := by
  intro pins s σ H x y v u Q I rx ry h
  obtain ⟨n, a, b, xs, ys, hn, rfl, rfl, ha, hb, hp, q⟩ := h
  cases (show v = Value.ref a from rx)
  cases (show u = Value.ref b from ry)
  exact rc_tups I (A := X.A) (by omega) (eqN_run I n X.A.in1 (by show X.A.units + 1 + n < cLine; omega)) ha hb hp _ _ ⟨.bl true, H, I, rfl, q⟩

def all2 {α : Type} (f : α → α → Bool) : List α → List α → Bool
  | [], [] => true
  | x :: xs, y :: ys => f x y && all2 f xs ys
  | _, _ => false
def eqTr : Nat → D → D → Bool
  | 0, _, _ => false
  | n + 1, x, y => (scalD x y && sameS x y) || (match x, y with
    | .tup xs, .tup ys => all2 (eqTr n) xs ys
    | .lst xs, .lst ys => all2 (eqTr n) xs ys
    | .dK [], .dK [] => true
    | _, _ => false)
def eqW (x y : D) : Option D := match eqD x y with
  | some d => some d
  | none => match x, y with
    | .tup xs, .tup ys => if all2 (eqTr 60) xs ys = true then some (.bl true) else none
    | _, _ => none
theorem same_flat {B : Bs} {H : Hp} {v u : V} {x y : D} (hx : Rep B H v x) (hy : Rep B H u y) (h : (scalD x y && sameS x y) = true) : v = u ∧ flatB v = true := by
  cases x <;> cases y <;> simp [scalD, sameS] at h <;> (cases hx; cases hy; first | exact ⟨rfl, rfl⟩ | (subst h; exact ⟨rfl, rfl⟩))
theorem all2_paired {B : Bs} {H : Hp} {f : D → D → Bool} {F : V → V → Prop} (hf : ∀ v u x y, Rep B H v x → Rep B H u y → f x y = true → F v u) : ∀ {vs us : List V} {xs ys : List D}, RepL B H vs xs → RepL B H us ys → all2 f xs ys = true → Paired F vs us
  | _, _, [], [], hx, hy, _ => by cases hx; cases hy; exact .nil
  | _, _, x :: xs, y :: ys, hx, hy, h => by
    cases hx with
    | cons a as =>
      cases hy with
      | cons b bs =>
        have h := Bool.and_eq_true_iff.mp h
        exact .cons (hf _ _ _ _ a b h.1) (all2_paired hf as bs h.2)
  | _, _, [], _ :: _, _, _, h => by cases h
  | _, _, _ :: _, [], _, _, h => by cases h
theorem rep_emp {B : Bs} {H : Hp} {v : V} (h : Rep B H v (.dK [])) : ∃ a, v = .ref a ∧ Rd H a (.dK []) := by
  cases h with
  | dK h1 h2 _ => rw [List.map_nil, List.map_eq_nil_iff] at h2; subst h2; exact ⟨_, rfl, h1⟩
theorem eqTr_ok {B : Bs} {H : Hp} : ∀ (n : Nat) (v u : V) (x y : D), Rep B H v x → Rep B H u y → eqTr n x y = true → EqN B.K H n v u
  | 0, _, _, _, _, _, _, h => by cases h
  | n + 1, v, u, x, y, hx, hy, h => by
    unfold eqTr at h
    rw [Bool.or_eq_true] at h
    rcases h with h | h
    · exact .inl (same_flat hx hy h)
    · split at h
      · cases hx with
        | tup a1 a2 =>
          cases hy with
          | tup b1 b2 => exact .inr (.inl ⟨_, _, _, _, rfl, rfl, a1, b1, all2_paired (eqTr_ok n) a2 b2 h⟩)
      · cases hx with
        | lst a1 a2 =>
          cases hy with
          | lst b1 b2 => exact .inr (.inr (.inl ⟨_, _, _, _, rfl, rfl, .inl (.inl a1), .inl (.inl b1), all2_paired (eqTr_ok n) a2 b2 h⟩))
      · obtain ⟨a, rfl, ha⟩ := rep_emp hx
        obtain ⟨b, rfl, hb⟩ := rep_emp hy
        exact .inr (.inr (.inr ⟨a, b, rfl, rfl, ha, hb⟩))
      · cases h
theorem opD_eqW {B : Bs} : OpD B (fun x y H Q => (rEq x y H Q ∨ rEqD B.K x y H Q) ∨ rEqN B.K x y H Q) eqW := by
  intro v u H O x y d Q hl hx hy hg hq
  unfold eqW at hg
  split at hg
  · rename_i d' he
    cases hg
    exact .inl (opD_eq v u H O x y _ Q hl hx hy he hq)
  · split at hg
    · obtain ⟨h1, rfl⟩ := some_if hg
      have hx' := hx.full
      have hy' := hy.full
      cases hx' with
      | tup a1 a2 =>
        cases hy' with
        | tup b1 b2 => exact .inr ⟨60, _, _, _, _, Nat.le_refl _, rfl, rfl, a1, b1, all2_paired (eqTr_ok 60) a2 b2 h1, hq _ H (.refl _) (.bl _)⟩
    · cases hg
section
variable {X : Cx} {W : WX} {a b e : Expr} {fa fb : M Rv} {pos : Pos}
theorem de_eqW {k : Nat} (hr : RmG k X.A) (ha : DE X W a fa) (hb : DE X W b fb) : DE X W (.Compare a [.Eq] [b] pos) (d2 eqW fa fb) := de_2 (pe_cmpR ((op_eq.or (op_eqD hr.u64)).or (op_eqN hr.u64)) ha hb (nomark _)) opD_eqW
theorem dt_eqW {k : Nat} (hr : RmG k X.A) (ha : DE X W a fa) (hb : DE X W b fb) : DT X W (.Compare a [.Eq] [b] pos) (dT2 eqW fa fb) := dt_2 (pt_cmpR ((op_eq.or (op_eqD hr.u64)).or (op_eqN hr.u64)) ha hb (nomark _)) opD_eqW
end
end Pu
namespace Pu
open PySem PySem.Spec PyProof.Rows L2 My
section
variable {X : Cx} {W : WX} {k x1 : Nat} {kes : List Expr} {o : Expr} {fk : M (List Rv)} {fd : M Rv} {pos tpos : Pos}
theorem dt_inT (hr : RmG k X.A) (hk : DA X W kes fk) (hd : DE X W o fd) (hm : behindInMarks .In o = false := by rfl) : DT X W (.Compare (.Tuple kes x1 tpos) [.In] [o] pos) (dB (dTkR (inT false) fk fd)) := PT.le (pt_cmp (pc_din hr.u1 (pe_tup hk) hd) hm) fun σ H Q ⟨c, ρ, O, st, q⟩ => inT_le (dB_le ⟨c, ρ, O, st, q⟩)
theorem dt_ninT (hr : RmG k X.A) (hk : DA X W kes fk) (hd : DE X W o fd) (hm : behindInMarks .NotIn o = false := by rfl) : DT X W (.Compare (.Tuple kes x1 tpos) [.NotIn] [o] pos) (dB (dTkR (inT true) fk fd)) := PT.le (pt_cmp (pc_dnotin hr.u1 (pe_tup hk) hd) hm) fun σ H Q ⟨c, ρ, O, st, q⟩ => inT_le (dB_le ⟨c, ρ, O, st, q⟩)
end
section
variable {X : Cx} {W : WX} {x m : Str} {st : Stmt} {ps : List Str} {dsv : List Value} {k n : Nat} {pin : Option Nat} {fn : List D → FOut} {t : Bool} {dvs : List V} {dds : List D} {e o : Expr} {es : List Expr} {fs : M (List Rv)} {fo : M Rv} {f : Addr} {fd : FuncData} {p pos apos : Pos}
/-- the same rules, the number of parameters apart: for contexts that are known late -/
theorem de_callN (Dx : Dg X.K X.mg x st) (hb : Binds X.K (fdOf X.K (My.fa X.mg x)) ps dsv) (G : FnG X.prog X.w X.K X.mg X.base k (My.fa X.mg x) (fdOf X.K (My.fa X.mg x)) ps (spD (bs X) pin n fn)) (hr : RmG k X.A) (hx : ErrOk X W t) (hd : Vals dvs dsv) (hdd : ∀ G, RepL (bs X) G dvs dds) (ha : DA X W (e :: es) fs) (hg : Gl X x := by rfl)
    (hdb : (x == ("__debug__" : Str)) = false := by decide) (he : starEach (e :: es) X.env = (false, eval e X.env) :: starEach es X.env := by rfl) (hpl : (backTo pos (starEach es X.env)).any (·.1) = false := by rfl) (hn : ps.length = n := by rfl) :
    DE X W (.Call (.Name x p) (e :: es) [] pos) (dCall t pin n dds fn fs) := by
  subst hn
  exact de_call Dx hb G hr hx hd hdd ha hg hdb he hpl
theorem de_methN {cn : Str} {pl : Sem Bool} (ho : DE X W o fo) (cl : Cls X.K ((bs X).cls cn)) (hm : Meth X.K ((bs X).cls cn) m f) (hb : Binds X.K fd ps dsv) (G : FnG X.prog X.w X.K X.mg X.base k f fd ps (spD (bs X) pin (n + 1) fn)) (hr : RmG k X.A) (hx : ErrOk X W t) (hd : Vals dvs dsv) (hdd : ∀ G, RepL (bs X) G dvs dds) (ha : DA X W (e :: es) fs) (hn : ps.length = n + 1 := by rfl)
    (hst : starEach (e :: es) X.env = (false, eval e X.env) :: starEach es X.env := by rfl) (hpl : (backTo pos (starEach es X.env)).any (·.1) = false := by rfl)
    (ht : eval (.Call (.Attribute o m apos) (e :: es) [] pos) X.env = (do
      let w ← eval o X.env
      standAt apos.atName
      let (g, hd) ← holding [w] (getMethod w m pl)
      callWith pos g hd (backTo pos (starEach (e :: es) X.env)) (backToKw pos (keywordEach [] X.env))) := by rfl) :
    DE X W (.Call (.Attribute o m apos) (e :: es) [] pos) (dMeth cn m t pin n dds fn fo fs) := by
  have e2 : n = ps.length - 1 := by omega
  rw [e2]
  rw [← hn] at G
  exact de_meth ho cl hm hb G hr hx hd hdd ha (by omega) hst hpl ht
theorem de_meth0N {cn : Str} {pl : Sem Bool} (ho : DE X W o fo) (cl : Cls X.K ((bs X).cls cn)) (hm : Meth X.K ((bs X).cls cn) m f) (hb : Binds X.K fd ps dsv) (G : FnG X.prog X.w X.K X.mg X.base k f fd ps (spD (bs X) pin (n + 1) fn)) (hr : RmG k X.A) (hx : ErrOk X W t) (hd : Vals dvs dsv) (hdd : ∀ G, RepL (bs X) G dvs dds) (hn : ps.length = n + 1 := by rfl)
    (ht : eval (.Call (.Attribute o m apos) [] [] pos) X.env = (do
      let w ← eval o X.env
      standAt apos.atName
      let (g, hd) ← holding [w] (getMethod w m pl)
      callWith pos g hd (backTo pos (starEach [] X.env)) (backToKw pos (keywordEach [] X.env))) := by rfl) :
    DE X W (.Call (.Attribute o m apos) [] [] pos) (dMeth cn m t pin n dds fn fo dNil) := by
  have e2 : n = ps.length - 1 := by omega
  rw [e2]
  rw [← hn] at G
  exact de_meth0 ho cl hm hb G hr hx hd hdd (by omega) ht
end
end Pu
namespace Pu
open PySem PySem.Spec PyProof.Rows L2 My
/-! ### xs[::-1] of a list -/
def revS : D → Option D
  | .lst xs => some (.lst xs.reverse)
  | _ => none
def rRev (K : PySem.W.Frag) : V → Hp → VK → Prop := fun x H Q => ∃ a xs, x = .ref a ∧ SqL K H a xs ∧ ∀ p, H p = none → Q (.ref p) (upd H p (.lst xs.reverse))
section
variable {X : Cx} {W : WX} {e : Expr} {fa : M Rv} {k : Nat} {p1 p2 p3 pos : Pos}
theorem de_rev (ha : DE X W e fa) : DE X W (.Subscript e (.Slice none none (some (.UnaryOp .USub (.Constant (.int 1) k p1) p2)) p3) pos) (d1 revS fa) := de_1 (r := rRev X.K) (pe_revL ha) (by
  intro v H O x d Q hl hx hg hq
  unfold revS at hg
  split at hg
  · cases hg
    obtain ⟨a, xs, rfl, hs, rr⟩ := hx.lst
    exact ⟨a, xs, rfl, .inl (.inl hs), new_rep hl hq (.lst rr.reverse)⟩
  · cases hg)
end
/-! ### a is True, a is not False -/
def isBD (neg : Bool) : D → D → Option D
  | .bl a, .bl b => some (.bl (if neg then !decide (a = b) else decide (a = b)))
  | _, _ => none
section
variable {X : Cx} {W : WX} {a b : Expr} {fa fb : M Rv} {pos : Pos}
theorem opD_isB {B : Bs} : OpD B rIsB (isBD false) := by
  intro v u H O x y d Q hl hx hy hg hq
  unfold isBD at hg
  split at hg
  · cases hg
    exact ⟨_, _, hx.bl, hy.bl, hq _ H (.refl _) (.bl _)⟩
  · cases hg
theorem opD_ntB {B : Bs} : OpD B rNotB (isBD true) := by
  intro v u H O x y d Q hl hx hy hg hq
  unfold isBD at hg
  split at hg
  · cases hg
    exact ⟨_, _, hx.bl, hy.bl, hq _ H (.refl _) (.bl _)⟩
  · cases hg
theorem de_isB (ha : DE X W a fa) (hb : DE X W b fb) : DE X W (.Compare a [.Is] [b] pos) (d2 (isBD false) fa fb) := de_2 (pe_cmpR op_isBl ha hb (nomark _)) opD_isB
theorem de_ntB (ha : DE X W a fa) (hb : DE X W b fb) : DE X W (.Compare a [.IsNot] [b] pos) (d2 (isBD true) fa fb) := de_2 (pe_cmpR op_notBl ha hb (nomark _)) opD_ntB
theorem dt_isB (ha : DE X W a fa) (hb : DE X W b fb) : DT X W (.Compare a [.Is] [b] pos) (dT2 (isBD false) fa fb) := dt_2 (pt_cmpR op_isBl ha hb (nomark _)) opD_isB
theorem dt_ntB (ha : DE X W a fa) (hb : DE X W b fb) : DT X W (.Compare a [.IsNot] [b] pos) (dT2 (isBD true) fa fb) := dt_2 (pt_cmpR op_notBl ha hb (nomark _)) opD_ntB
end
/-! ### (a, b, ..) = a tuple or a list -/
def gS (n : Nat) (gs : TMs) : TM := fun d ρ => match d with
  | .tup ds => if ds.length = n then gs ds ρ else none
  | .lst ds => if ds.length = n then gs ds ρ else none
  | _ => none
section
variable {X : Cx} {es : List Expr} {pos : Pos} {k n : Nat} {gs : TMs} {ws : List Nat}
theorem PG.or {e : Expr} {t t' : TG} (h : PG X e t) (h' : PG X e t') : PG X e (fun v σ H Q => t v σ H Q ∨ t' v σ H Q) := ⟨fun pins s σ H v u Q I r q => q.elim (h.run pins s σ H v u Q I r) (h'.run pins s σ H v u Q I r)⟩
theorem dg_seq (hc : X.calm = true) (h : DGs X es gs ws) (hn : (assignEach es X.env).length = n := by rfl) (hst : (assignEach es X.env).findIdx? (·.1) = none := by rfl) : DG X (.Tuple es k pos) (gS n gs) ws := PG.le (PG.or (pg_tup hc h hn hst) (pg_unl hc h hn hst)) fun v σ H Q ⟨c, ρ, O, d, ρ', st, hr, hg, q⟩ => by
  unfold gS at hg
  split at hg
  · rename_i ds
    by_cases hl : ds.length = n
    · rw [if_pos hl] at hg
      cases hr with
      | tup s r => exact .inl ⟨_, _, rfl, sqT_mono (hide_le H O).ext s, by rw [r.length, hl], c, ρ, O, ds, ρ', st, r, hg, q⟩
    · rw [if_neg hl] at hg
      cases hg
  · rename_i ds
    by_cases hl : ds.length = n
    · rw [if_pos hl] at hg
      cases hr with
      | lst s r => exact .inr ⟨_, _, rfl, sqL_mono (hide_le H O).ext (.inl (.inl s)), by rw [r.length, hl], c, ρ, O, ds, ρ', st, r, hg, q⟩
    · rw [if_neg hl] at hg
      cases hg
  · cases hg
end
/-! ### a bool + an int -/
def addW : D → D → Option D
  | .bl k, .int j => some (.int (b2i k + j))
  | x, y => addD x y
section
variable {X : Cx} {W : WX} {a b : Expr} {fa fb : M Rv} {pos : Pos}
theorem op_add_bi : OpR X (binaryOp .Add) (fun x y H Q => ∃ k j, x = .bl k ∧ y = .int j ∧ Q (.int (b2i k + j)) H) := by
  intro pins s σ H x y v u Q I rx ry h
  obtain ⟨k, j, rfl, rfl, q⟩ := h
  cases rx
  obtain ⟨t, rfl⟩ := ry
  exact PySem.IntBool.add_bool_int ⟨.int (b2i k + j), H, I.tok _, ⟨_, rfl⟩, q⟩
theorem de_addW (ha : DE X W a fa) (hb : DE X W b fb) : DE X W (.BinOp a .Add b pos) (d2 addW fa fb) := de_2 (pe_op (opR_add.or op_add_bi) ha hb) (by
  intro v u H O x y d Q hl hx hy hg hq
  unfold addW at hg
  split at hg
  · cases hg
    exact .inr ⟨_, _, hx.bl, hy.int, hq _ H (.refl _) (.int _)⟩
  · exact .inl (opD_add v u H O _ _ d Q hl hx hy hg hq))
end
/-! ### lists of other lengths are not equal, whatever they hold -/
def neW (x y : D) : Option D := match neD x y with
  | some d => some d
  | none => match x, y with
    | .lst xs, .lst ys => if xs.length ≠ ys.length then some (.bl true) else none
    | _, _ => none
def rNeLen (K : PySem.W.Frag) : R2 := fun x y H Q => ∃ (a b : Addr) (xs ys : List V), x = .ref a ∧ y = .ref b ∧ SqL K H a xs ∧ SqL K H b ys ∧ xs.length ≠ ys.length ∧ Q (.bl true) H
section
variable {X : Cx} {W : WX} {a b : Expr} {fa fb : M Rv} {pos : Pos}
theorem op_neLen (hu : X.A.units < cLine) : OpR X (compareOp .NotEq) (rNeLen X.K) := by
  intro pins s σ H x y v u Q I rx ry h
  obtain ⟨p, q, xs, ys, rfl, rfl, hp, hq, hl, hQ⟩ := h
  cases (show v = Value.ref p from rx)
  cases (show u = Value.ref q from ry)
  obtain ⟨us, ru, tp, _⟩ := I.list hp
  obtain ⟨vs, rv, tq, _⟩ := I.list hq
  have e := SeqAt.RcNeAt.lists_lengths (A := X.A) (s := s) tp.isList tq.isList (by
    rw [bne_iff_ne]
    intro z
    apply hl
    rw [ru.length, rv.length]
    simpa using z) hu
  exact e X.prog X.w _ _ ⟨.bl true, H, I, rfl, hQ⟩
theorem opD_neW {B : Bs} : OpD B (fun x y H Q => (rNe x y H Q ∨ rNeD B.K x y H Q) ∨ rNeLen B.K x y H Q) neW := by
  intro v u H O x y d Q hl hx hy hg hq
  unfold neW at hg
  split at hg
  · rename_i d' he
    cases hg
    exact .inl (opD_ne v u H O x y _ Q hl hx hy he hq)
  · split at hg
    · obtain ⟨h1, rfl⟩ := some_if hg
      obtain ⟨a1, xs, rfl, e1, r1⟩ := hx.lst
      obtain ⟨a2, ys, rfl, e2, r2⟩ := hy.lst
      exact .inr ⟨_, _, _, _, rfl, rfl, .inl (.inl e1), .inl (.inl e2), by rw [r1.length, r2.length]; exact h1, hq _ H (.refl _) (.bl _)⟩
    · cases hg
theorem dt_neW {k : Nat} (hr : RmG k X.A) (ha : DE X W a fa) (hb : DE X W b fb) : DT X W (.Compare a [.NotEq] [b] pos) (dT2 neW fa fb) := dt_2 (pt_cmpR ((op_ne.or (op_neD hr.u64)).or (op_neLen (by have := hr.u1; omega))) ha hb (nomark _)) opD_neW
theorem de_neW {k : Nat} (hr : RmG k X.A) (ha : DE X W a fa) (hb : DE X W b fb) : DE X W (.Compare a [.NotEq] [b] pos) (d2 neW fa fb) := de_2 (pe_cmpR ((op_ne.or (op_neD hr.u64)).or (op_neLen (by have := hr.u1; omega))) ha hb (nomark _)) opD_neW
end
end Pu
/-! zip of any two of lists, tuples and texts -/
namespace RZ
open PySem PySem.Spec PyProof.Rows L2
open PySem.Sem (wp)
inductive Zs where
  | list (a : Addr) | tup (a : Addr) | txt (x : Str)
def Zs.ads : Zs → List Addr
  | .list a => [a]
  | .tup a => [a]
  | .txt _ => []
def Zit (K : PySem.W.Frag) : Zs → Hp → List V → Prop
  | .list a, H, xs => SqL K H a xs
  | .tup a, H, xs => SqT K H a xs
  | .txt x, _, xs => xs = x.cps.toList.map fun c => V.str ⟨#[c]⟩
def Zst (it : Addr) : Zs → Nat → Heap → Prop
  | .list a, i, h => h.IsListIter it a i
  | .tup a, i, h => h.IsTupleIter it a i
  | .txt x, i, h => ∃ t, h.IsStrIter it (strIterType x) x t i
theorem Zst.obj {it : Addr} {z : Zs} {i : Nat} {h : Heap} (st : Zst it z i h) : ∃ o, h.get? it = some o ∧ ∀ v : Option Value, o.data ≠ .cell v := by
  cases z with
  | list a => obtain ⟨o, e, _, d⟩ := st; exact ⟨o, e, fun v q => by rw [d] at q; cases q⟩
  | tup a => obtain ⟨o, e, _, d⟩ := st; exact ⟨o, e, fun v q => by rw [d] at q; cases q⟩
  | txt x => obtain ⟨t, o, e, _, d⟩ := st; exact ⟨o, e, fun v q => by rw [d] at q; cases q⟩
theorem Zst.lt {it : Addr} {z : Zs} {i : Nat} {h : Heap} (st : Zst it z i h) : it < h.objs.size := by
  obtain ⟨o, e, _⟩ := st.obj
  exact Heap.lt_size e
theorem Zst.at {it : Addr} {z : Zs} {i : Nat} {h h' : Heap} (st : Zst it z i h) (k : ∀ o, h.get? it = some o → h'.get? it = some o) : Zst it z i h' := by
  cases z with
  | list a => exact Heap.IsListIter.at st k
  | tup a => exact Heap.IsTupleIter.at st k
  | txt x => obtain ⟨t, o, e, r⟩ := st; exact ⟨t, o, k o e, r⟩
section
variable {X : Cx} {pins : List (Addr × Obj)} {σ : L2.St} {H : Hp} {s : Shared}
theorem paired_get {α β : Type} {R : α → β → Prop} : ∀ {xs : List α} {ys : List β} {j : Nat} {v : β}, Paired R xs ys → ys[j]? = some v → ∃ x, xs[j]? = some x ∧ R x v
  | _, _, _, _, .nil, h => by simp at h
  | _, _, 0, _, .cons r _, h => by simp at h; subst h; exact ⟨_, rfl, r⟩
  | _, _, j + 1, _, .cons _ t, h => by
    obtain ⟨x, h1, h2⟩ := paired_get (j := j) t (by simpa using h)
    exact ⟨x, by simpa using h1, h2⟩
theorem zit_inj (I : Inv X pins σ H s) {z : Zs} {xs ys : List V} (h1 : Zit X.K z H xs) (h2 : Zit X.K z H ys) : xs = ys := by
  cases z with
  | list a => exact I.list_inj h1 h2
  | tup a => exact I.tuple_inj h1 h2
  | txt x => rw [show xs = _ from h1, show ys = _ from h2]
theorem zs_draw (I : Inv X pins σ H s) (hh : X.A.in1.handled = none) {z : Zs} {it : Addr} {i : Nat} {xs : List V} (hz : Zit X.K z H xs) (hne : it ∉ z.ads) (st : Zst it z i s.heap) :
    ∃ (P : Nat → Value → Prop) (St : Nat → Heap → Prop), Draws X.prog X.w X.A.in1 it (it :: z.ads) xs.length P St ∧ St i s.heap ∧ (∀ j v, P j v → ∃ x, xs[j]? = some x ∧ RelV x v) ∧ ∀ j h, St j h → Zst it z j h := by
  cases z with
  | list a =>
    obtain ⟨its, rv, p, _⟩ := I.list hz
    have hl := rv.length
    refine ⟨fun i v => its.toArray[i]? = some v, fun i h => h.IsListIter it a i ∧ h.IsList a its.toArray, by rw [hl]; exact Draws.list hh it a (fun e => hne (by simp [Zs.ads, e])) its.toArray, ⟨st, p.isList⟩, fun j v hj => ?_, fun j h q => q.1⟩
    have hj' : its[j]? = some v := by simpa using hj
    obtain ⟨x, h1, h2⟩ := paired_get rv hj'
    exact ⟨x, h1, h2⟩
  | tup a =>
    obtain ⟨its, rv, p, _⟩ := I.tuple hz
    have hl := rv.length
    refine ⟨fun i v => its.toArray[i]? = some v, fun i h => h.IsTupleIter it a i ∧ h.IsTuple a its.toArray, by rw [hl]; exact Draws.tuple hh it a (fun e => hne (by simp [Zs.ads, e])) its.toArray, ⟨st, p⟩, fun j v hj => ?_, fun j h q => q.1⟩
    have hj' : its[j]? = some v := by simpa using hj
    obtain ⟨x, h1, h2⟩ := paired_get rv hj'
    exact ⟨x, h1, h2⟩
  | txt x =>
    obtain ⟨t, st⟩ := st
    have e : xs = x.cps.toList.map fun c => V.str ⟨#[c]⟩ := hz
    subst e
    refine ⟨_, _, by rw [List.length_map, Array.length_toList]; exact Draws.text hh it x t, st, fun j v hj => ?_, fun j h q => ⟨t, q⟩⟩
    obtain ⟨c, u, hc, rfl⟩ := hj
    exact ⟨.str ⟨#[c]⟩, by simp [hc], ⟨u, rfl⟩⟩
end
def Itz2 (K : PySem.W.Frag) (z1 z2 : Zs) : It :=
  ⟨fun i H => ∃ (xs ys : List V) (x y : V), Zit K z1 H xs ∧ Zit K z2 H ys ∧ xs[i]? = some x ∧ ys[i]? = some y,
    fun i H v H' => ∃ T x y, v = .ref T ∧ H T = none ∧ H' = upd H T (.tup [x, y]) ∧ (∀ xs, Zit K z1 H xs → xs[i]? = some x) ∧ ∀ ys, Zit K z2 H ys → ys[i]? = some y,
    fun i H => ∃ xs ys : List V, Zit K z1 H xs ∧ Zit K z2 H ys ∧ i ≤ xs.length ∧ i ≤ ys.length ∧ (i = xs.length ∨ i = ys.length)⟩
theorem turn_zip2 {P : Program} {w : World} {K : PySem.W.Frag} {elts : List Expr} {kk : Nat} {tpos : Pos} {z1 z2 : Zs} {z TI TO i1 i2 : Addr} (S : ZipSep2 z TI TO i1 i2 (i1 :: z1.ads) (i2 :: z2.ads)) (n1 : i1 ∉ z1.ads) (n2 : i2 ∉ z2.ads) :
    Turn P w K (.Tuple elts kk tpos) (Itz2 K z1 z2) [z, TI, TO, i1, i2] z (fun i h => IsZip h z TI TO .none ∧ IsTupOf2 h TI (.ref i1) (.ref i2) ∧ (∃ x y, IsTupOf2 h TO x y) ∧ Zst i1 z1 i h ∧ Zst i2 z2 i h) where
  mem := by simp
  obj := fun i h st c hc => by
    obtain ⟨hz, hTI, ⟨x, y, hTO⟩, h1, h2⟩ := st
    have e' : c = z ∨ c = TI ∨ c = TO ∨ c = i1 ∨ c = i2 := by simpa using hc
    rcases e' with q | q | q | q | q
    · rw [q]; exact ⟨_, hz, fun v q => nomatch q⟩
    · rw [q]; exact ⟨_, hTI, fun v q => nomatch q⟩
    · rw [q]; exact ⟨_, hTO, fun v q => nomatch q⟩
    · rw [q]; exact h1.obj
    · rw [q]; exact h2.obj
  keep := fun i h h' st k => by
    obtain ⟨hz, hTI, ⟨x, y, hTO⟩, h1, h2⟩ := st
    exact ⟨k z (by simp) _ hz, k TI (by simp) _ hTI, ⟨x, y, k TO (by simp) _ hTO⟩, h1.at fun o q => k i1 (by simp) o q, h2.at fun o q => k i2 (by simp) o q⟩
  item := by
    intro X hP hw hK hc i pins s σ H E I hf st hg
    subst hP hw hK
    obtain ⟨hz, hTI, ⟨x0, y0, hTO⟩, h1, h2⟩ := st
    obtain ⟨xs, ys, x, y, hqx, hqy, hx, hy⟩ := hg
    have hh : X.A.in1.handled = none := I.ok.hd hc
    obtain ⟨P1, St1, D1, s1, r1, b1⟩ := zs_draw I hh hqx n1 h1
    obtain ⟨P2, St2, D2, s2, r2, b2⟩ := zs_draw I hh hqy n2 h2
    have hl1 : i < xs.length := (List.getElem?_eq_some_iff.mp hx).1
    have hl2 : i < ys.length := (List.getElem?_eq_some_iff.mp hy).1
    have hzl : z < s.heap.objs.size := Heap.lt_size hz
    refine wpAny_pyNext_zipD2_item S D1 D2 hz hTI hTO s1 s2 hl1 hl2 fun u u2 h' tk p1 p2 z' TO' h1' h2' hT hsz hk => ?_
    obtain ⟨x', hx', ru⟩ := r1 i u p1
    obtain ⟨y', hy', ru2⟩ := r2 i u2 p2
    rw [hx] at hx'
    rw [hy] at hy'
    cases hx'
    cases hy'
    refine ⟨_, rfl, wpAny_letOwnedTupleGo_zip (s := { s with heap := h', toks := tk }) z' fun h'' z'' sb => ?_⟩
    have hT2 : h''.get? s.heap.objs.size = some { cls := .type "tuple", data := .seq #[u, u2] } := (sb.2 _ (Nat.ne_of_gt hzl)).trans hT
    have new : ObjOk X.prog X.w (upd H s.heap.objs.size (.tup [x, y])) h'' s.heap.objs.size (.tup [x, y]) :=
      ⟨by show 2 ≤ sizeLine; decide, [u, u2], .cons ru (.cons ru2 .nil), ⟨_, hT2, rfl, _, rfl⟩⟩
    have I1 : Inv X pins σ (upd H s.heap.objs.size (.tup [x, y])) { s with heap := h'', toks := tk } :=
      I.turnedNew (t' := tk) (ch := [z, TI, TO, i1, i2]) (fun c o hb q => (sb.2 c (fun q' => hb (by simp [q']))).trans (hk c o (fun q' => hb (by simp [q'])) (fun q' => hb (by simp [q'])) (fun q' => hb (by simp [q'])) (fun q' => hb (by simp [q'])) q)) hf (Nat.le_refl _) new
    refine ⟨.ref s.heap.objs.size, _, I1, rfl, ⟨_, x, y, rfl, I.hok.fresh (Nat.le_refl _), rfl, fun l hl => by rw [zit_inj I hl hqx]; exact hx, fun l hl => by rw [zit_inj I hl hqy]; exact hy⟩, ⟨z'', ?_, ⟨u, u2, ?_⟩, ?_, ?_⟩, fun c hcm => ?_⟩
    · exact (sb.2 _ S.TIz).trans (hk _ _ S.TIz S.TITO S.TIi1 S.TIi2 hTI)
    · exact (sb.2 _ S.TOz).trans TO'
    · exact (b1 _ _ h1').at fun o q => (sb.2 _ (Ne.symm S.zi1)).trans q
    · exact (b2 _ _ h2').at fun o q => (sb.2 _ (Ne.symm S.zi2)).trans q
    · have hlt : c < s.heap.objs.size := by
        have e' : c = z ∨ c = TI ∨ c = TO ∨ c = i1 ∨ c = i2 := by simpa using hcm
        rcases e' with q | q | q | q | q
        · rw [q]; exact hzl
        · rw [q]; exact Heap.lt_size hTI
        · rw [q]; exact Heap.lt_size hTO
        · rw [q]; exact h1.lt
        · rw [q]; exact h2.lt
      rw [upd_ne (Nat.ne_of_lt hlt)]
      exact (hf c hcm).1
  done := by
    intro X hP hw hK hc i pins s σ H E I hf st hg
    subst hP hw hK
    obtain ⟨hz, hTI, ⟨x0, y0, hTO⟩, h1, h2⟩ := st
    obtain ⟨xs, ys, hqx, hqy, l1, l2, hend⟩ := hg
    have hh : X.A.in1.handled = none := I.ok.hd hc
    obtain ⟨P1, St1, D1, s1, r1, b1⟩ := zs_draw I hh hqx n1 h1
    obtain ⟨P2, St2, D2, s2, r2, b2⟩ := zs_draw I hh hqy n2 h2
    exact wpAny_pyNext_zipD2_end S D1 D2 hz hTI hTO s1 s2 l1 l2 hend fun h' tk hk => ⟨rfl, I.turnedL (t' := tk) (ch := [z, TI, TO, i1, i2]) (fun c o hb q =>
      hk c o (fun q' => hb (by simp [q'])) (fun q' => hb (by simp [q'])) (fun q' => hb (by simp [q'])) (fun q' => hb (by simp [q'])) q) hf⟩
  self := fun A i s Q E st h => wpAny_pyIter_zip st.1 h
def zV : Zs → V
  | .list a => .ref a
  | .tup a => .ref a
  | .txt x => .str x
def iZip2 (K : PySem.W.Frag) (ta : TA) : TI := fun σ H R => ta σ H fun vs H1 => ∃ z1 z2 xs ys, vs = [zV z1, zV z2] ∧ Zit K z1 H1 xs ∧ Zit K z2 H1 ys ∧ R (Itz2 K z1 z2) H1
/-- an iterator is made -/
theorem zs_begin {X : Cx} {pins : List (Addr × Obj)} {σ : L2.St} {H : Hp} {s : Shared} (I : Inv X pins σ H s) {z : Zs} {xs : List V} {u : Value} (hz : Zit X.K z H xs) (hu : RelV (zV z) u) :
    ∃ (o : Obj) (H1 : Heap → Prop), Begins u o H1 ∧ H1 s.heap ∧ (∀ (h : Heap) (a : Addr), h.get? a = some o → Zst a z 0 h) ∧ ∀ a ∈ z.ads, a < s.heap.objs.size := by
  cases z with
  | list a =>
    cases (show u = Value.ref a from hu)
    obtain ⟨its, rv, p, _⟩ := I.list hz
    refine ⟨_, _, begins_list a its.toArray, p.isList, fun h b e => ⟨_, e, rfl, rfl⟩, fun b hb => ?_⟩
    have : b = a := by simpa [Zs.ads] using hb
    rw [this]
    exact p.lt
  | tup a =>
    cases (show u = Value.ref a from hu)
    obtain ⟨its, rv, p, _⟩ := I.tuple hz
    refine ⟨_, _, begins_tuple a its.toArray, p, fun h b e => ⟨_, e, rfl, rfl⟩, fun b hb => ?_⟩
    have : b = a := by simpa [Zs.ads] using hb
    rw [this]
    obtain ⟨o, ho, _⟩ := id p
    exact Heap.lt_size ho
  | txt x =>
    obtain ⟨t, rfl⟩ := hu
    exact ⟨_, _, begins_text x t, trivial, fun h b e => ⟨t, _, e, rfl, rfl⟩, fun b hb => by simp [Zs.ads] at hb⟩
theorem pi_zip2 {X : Cx} {e e2 : Expr} {ta : TA} {p pos tpos : Pos} {elts : List Expr} {kk : Nat} (hg : Gl X "zip") (hm : X.mg "zip" = none) (ha : PA X [e, e2] ta)
    (hs : starEach [e, e2] X.env = (false, eval e X.env) :: starEach [e2] X.env := by rfl) (hpl : (backTo pos (starEach [e2] X.env)).any (·.1) = false := by rfl) :
    PI X (.Tuple elts kk tpos) (.Call (.Name "zip" p) [e, e2] [] pos) (iZip2 X.K ta) := by
  refine ⟨fun pins s σ H R I h => ?_⟩
  refine Call_ (ld_blt I hg hm PyProof.Rows.boot_zip (PyProof.Rows.callWith_type1 (thn (ha.run pos pins s σ H _ I h) fun us s1 ⟨vs, H1, I1, r1, q1⟩ => ?_) hs hpl))
  obtain ⟨z1, z2, xs, ys, ex, hqx, hqy, q⟩ := q1
  subst ex
  cases r1 with
  | cons r rr =>
    cases rr with
    | cons r' rr =>
      cases rr
      obtain ⟨o1, K1, B1, k1, f1, a1⟩ := zs_begin I1 hqx r
      obtain ⟨o2, K2, B2, k2, f2, a2⟩ := zs_begin I1 hqy r'
      refine zip_begins2 B1 B2 k1 k2 fun h' hz hTI hTO g1 g2 hsz hk => wpAny_pyIter_zip hz ?_
      have I2 : Inv X pins σ H1 { s1 with heap := h' } := I1.kept (t' := s1.toks) hk
      refine ⟨s1.heap.objs.size + 4, [s1.heap.objs.size + 4, s1.heap.objs.size + 2, s1.heap.objs.size + 3, s1.heap.objs.size, s1.heap.objs.size + 1], _, _, H1, rfl, I2, turn_zip2 (z1 := z1) (z2 := z2) (zip_sep2 a1 a2) (fun m => Nat.lt_irrefl _ (a1 _ m)) (fun m => absurd (a2 _ m) (Nat.not_lt.mpr (Nat.le_add_right _ _))), ⟨hz, hTI, ⟨_, _, hTO⟩, f1 _ _ g1, f2 _ _ g2⟩, fun c hcm => ?_, q⟩
      have e' : c = s1.heap.objs.size + 4 ∨ c = s1.heap.objs.size + 2 ∨ c = s1.heap.objs.size + 3 ∨ c = s1.heap.objs.size ∨ c = s1.heap.objs.size + 1 := by simpa using hcm
      have hle : s1.heap.objs.size ≤ c := by rcases e' with z | z | z | z | z <;> rw [z] <;> first | exact Nat.le_refl _ | exact Nat.le_add_right _ _
      exact I1.fpOk hle (I1.hok.fresh hle)
end RZ
/-! x[::-1] of a text -/
namespace RZ
open PySem PySem.Spec PyProof.Rows L2
open PySem.Sem (wp)
def revStr (x : Str) : Str := ⟨x.cps.reverse⟩
theorem revStr_eq (x : Str) (u : Tok) : Txt.sliceBy x none none (-1, u) = revStr x := by
  have h := step_rev_list x u
  have e : (Txt.sliceBy x none none (-1, u)).cps.toList = (revStr x).cps.toList := by
    rw [h]
    unfold revStr
    rw [Array.toList_reverse]
    apply List.ext_getElem
    · simp; rfl
    · intro i h1 h2
      have hl : i < x.cps.size := by simp at h2; exact h2
      have hlen : x.length = x.cps.size := rfl
      have h3 : x.length - 1 - i < x.cps.size := by omega
      simp [Array.getD, h3, hlen]
      rw [dif_pos (by omega)]
  cases hx : Txt.sliceBy x none none (-1, u) with
  | mk c =>
    rw [hx] at e
    unfold revStr at e ⊢
    have e' : c.toList = x.cps.reverse.toList := e
    rw [show c = x.cps.reverse from Array.toList_inj.mp e']
def tRevT (te : TE) : TE := fun σ H Q => te σ H fun x H1 => ∃ z, x = .str z ∧ z.length ≤ sizeLine ∧ Q (.str (revStr z)) H1
theorem pe_revT {X : Cx} {e : Expr} {te : TE} {k : Nat} {p1 p2 p3 pos : Pos} (he : PE X e te) : PE X (.Subscript e (.Slice none none (some (.UnaryOp .USub (.Constant (.int 1) k p1) p2)) p3) pos) (tRevT te) := by
  refine ⟨fun pins s σ H Q I h => ?_⟩
  refine Subscript_ (thn (he.run pins s σ H _ I h) fun v s1 ⟨x, H1, I1, r1, q1⟩ => ?_)
  obtain ⟨z, ex, hz, q⟩ := q1
  subst ex
  obtain ⟨t, rfl⟩ := r1
  have hst : PO X (some (.UnaryOp .USub (.Constant (.int 1) k p1) p2)) (tPart (tUn (rU fun i => .int (-i)) (tC (.int 1)))) := po_some (pe_un un_neg pe_int)
  refine wpAny_Slice (thn (po_none.run pins s1 σ H1 (fun o H2 => o = none ∧ H2 = H1) I1 ⟨rfl, rfl⟩) fun vl s2 ⟨l, H2, I2, pl, el, e2⟩ => ?_)
  subst el e2
  refine thn (po_none.run pins s2 σ H2 (fun o H3 => o = none ∧ H3 = H2) I2 ⟨rfl, rfl⟩) fun vu s3 ⟨u, H3, I3, pu, eu, e3⟩ => ?_
  subst eu e3
  refine thn (hst.run pins s3 σ H3 (fun o H4 => o = some (-1) ∧ H4 = H3) I3 ⟨1, rfl, -1, rfl, rfl, rfl⟩) fun vs s4 ⟨o, H4, I4, ps, eo, e4⟩ => ?_
  subst eo e4
  have I5 : Inv X pins σ H4 { s4 with heap := s4.heap.push { cls := .type "slice", data := .fields #[vl, vu, vs] } } := I4.kept (t' := s4.toks) fun b ob q => Heap.get?_push_of_some _ q
  show wpAny (model X.prog X.w) X.A (subscriptTail e (.Slice none none (some (.UnaryOp .USub (.Constant (.int 1) k p1) p2)) p3) (.str z t) (.ref s4.heap.objs.size)) (EP X pins σ Q) X.xe { s4 with heap := s4.heap.push { cls := .type "slice", data := .fields #[vl, vu, vs] } }
  refine tail_any (ops := [.str z t, .ref s4.heap.objs.size]) (typeIs_str _ z t) PySem.F.slot_str_getitem.lookup ?_ (by with_unfolding_all rfl)
  cases pl
  cases pu
  cases ps with
  | int _ tk =>
  refine wpAny_getItem_str_slice (l := none) (u := none) (st := some (-1, tk)) ⟨_, Heap.get?_push_size _ rfl, rfl, rfl⟩ (by simp) ?_
  have hle := Txt.sliceBy_le z none none (-1, tk) (by simp)
  refine post_val_or_str ⟨Nat.le_trans hle hz, fun t' c => ?_⟩
  exact ⟨.str (revStr z), H4, I5.kept (t' := c) (h' := s4.heap.push { cls := .type "slice", data := .fields #[.none, .none, .int (-1) tk] }) fun b ob q => q, ⟨t', by rw [← revStr_eq z tk]; rfl⟩, q⟩
end RZ
namespace Pu
open PySem PySem.Spec PyProof.Rows L2 My
/-! ### xs[::-1] of a list or a text -/
def revX : D → Option D
  | .lst xs => some (.lst xs.reverse)
  | .str z => if z.length ≤ sizeLine then some (.str (RZ.revStr z)) else none
  | _ => none
theorem PE.or {X : Cx} {e : Expr} {t t' : TE} (h : PE X e t) (h' : PE X e t') : PE X e (fun σ H Q => t σ H Q ∨ t' σ H Q) := ⟨fun pins s σ H Q I q => q.elim (h.run pins s σ H Q I) (h'.run pins s σ H Q I)⟩
section
variable {X : Cx} {W : WX} {e : Expr} {fa : M Rv} {k : Nat} {p1 p2 p3 pos : Pos}
theorem de_revX (ha : DE X W e fa) : DE X W (.Subscript e (.Slice none none (some (.UnaryOp .USub (.Constant (.int 1) k p1) p2)) p3) pos) (d1 revX fa) := PE.le (PE.or (pe_revL ha) (RZ.pe_revT ha)) fun σ H Q ⟨c, ρ, O, st, q⟩ => by
  unfold d1 at q
  cases hf : fa ρ with
  | bad => rw [hf] at q; exact q.elim
  | ex x fs ρ1 =>
    rw [hf] at q
    refine .inl ⟨c, ρ, O, st, ?_⟩
    rw [hf]
    exact q
  | ok r ρ1 =>
    rw [hf] at q
    simp only [bind_ok] at q
    split at q
    · rename_i x hx
      cases hgg : revX x with
      | none => rw [hgg] at q; exact q.elim
      | some d =>
        rw [hgg] at q
        unfold revX at hgg
        split at hgg
        · rename_i xs
          cases hgg
          refine .inl ⟨c, ρ, O, st, ?_⟩
          rw [hf]
          intro H1 O1 st1 e1 v hv
          obtain ⟨a, ys, rfl, hs, rr⟩ := (st1.vw hv hx).lst
          exact ⟨a, ys, rfl, .inl (.inl hs), new_rep st1.liv (fun w H' e' hw => q H' O1 (st1.ext e') (e1.trans (same_hide e')) w hw) (.lst rr.reverse)⟩
        · rename_i z
          obtain ⟨hz, rfl⟩ := some_if hgg
          refine .inr ⟨c, ρ, O, st, ?_⟩
          rw [hf]
          intro H1 O1 st1 e1 v hv
          refine ⟨z, (st1.vw hv hx).str, hz, q H1 O1 st1 e1 _ (.str _)⟩
        · cases hgg
    · exact q.elim
end
/-! ### zip of two -/
def itZ : D → Option (List D)
  | .lst ds => some ds
  | .tup ds => some ds
  | .str z => some (chrs z)
  | _ => none
def zipT (xs ys : List D) : List D := (xs.zip ys).map fun p => .tup [p.1, p.2]
theorem zipT_len (xs ys : List D) : (zipT xs ys).length = min xs.length ys.length := by simp [zipT]
def dZip (fs : M (List Rv)) : M (List D) := fun ρ => (fs ρ).bind fun rs ρ1 => match escs ρ1 rs with
  | some ([a, b], ρ2) => match itZ a, itZ b with
    | some xs, some ys => .ok (zipT xs ys) ρ2
    | _, _ => .bad
  | _ => .bad
section
variable {B : Bs} {G : Hp} {H : Hp} {O : List Addr}
/-- what a value gives to a zip -/
theorem zs_of {v : V} {d : D} {ds : List D} (h : Rep B G v d) (hd : itZ d = some ds) : ∃ z xs, v = RZ.zV z ∧ RZ.Zit B.K z G xs ∧ RepL B G xs ds := by
  cases d with
  | lst ys =>
    cases hd
    cases h with
    | lst s r => exact ⟨.list _, _, rfl, .inl (.inl s), r⟩
  | tup ys =>
    cases hd
    cases h with
    | tup s r => exact ⟨.tup _, _, rfl, s, r⟩
  | str z =>
    cases hd
    cases h with
    | str => exact ⟨.txt z, _, rfl, rfl, by
      have go : ∀ l : List Nat, RepL B G (l.map fun c => V.str ⟨#[c]⟩) (l.map fun c => D.str ⟨#[c]⟩) := fun l => by
        induction l with
        | nil => exact .nil
        | cons c l ih => exact .cons (.str _) ih
      exact go _⟩
  | _ => cases hd
theorem zit_mono {K : PySem.W.Frag} {z : RZ.Zs} {G G' : Hp} {xs : List V} (e : Ext G G') (h : RZ.Zit K z G xs) : RZ.Zit K z G' xs := by
  cases z with
  | list a => exact sqL_mono e h
  | tup a => exact sqT_mono e h
  | txt x => exact h
theorem walkD_zip {z1 z2 : RZ.Zs} {xs ys : List V} {ds es : List D} (h1 : RZ.Zit B.K z1 (hide H O) xs) (r1 : RepL B (hide H O) xs ds) (h2 : RZ.Zit B.K z2 (hide H O) ys) (r2 : RepL B (hide H O) ys es) : WalkD B (RZ.Itz2 B.K z1 z2) (zipT ds es) H O := by
  have l1 := r1.length
  have l2 := r2.length
  have ln : (zipT ds es).length = min xs.length ys.length := by rw [zipT_len, l1, l2]
  refine ⟨fun H => RZ.Zit B.K z1 H xs ∧ RZ.Zit B.K z2 H ys, fun i H v H' => ∃ T x y, v = .ref T ∧ H T = none ∧ H' = upd H T (.tup [x, y]) ∧ xs[i]? = some x ∧ ys[i]? = some y, ⟨?_, ?_, ?_⟩, ?_, ?_⟩
  · rintro i H hi ⟨a, b⟩
    rw [ln] at hi
    exact ⟨xs, ys, _, _, a, b, List.getElem?_eq_getElem (by omega), List.getElem?_eq_getElem (by omega)⟩
  · rintro H ⟨a, b⟩
    rw [ln]
    exact ⟨xs, ys, a, b, by omega, by omega, by omega⟩
  · rintro i H x H' hi ⟨a, b⟩ ⟨T, x', y', rfl, hT, rfl, f1, f2⟩
    exact ⟨T, x', y', rfl, hT, rfl, f1 xs a, f2 ys b⟩
  · intro H' O' e _
    exact ⟨zit_mono (hide_le H' O').ext (zit_mono e h1), zit_mono (hide_le H' O').ext (zit_mono e h2)⟩
  · rintro i H' O' v H'' e lv hi ⟨T, x, y, rfl, hT, rfl, hx, hy⟩
    obtain ⟨d, hd, rd⟩ := (r1.mono e).get' hx
    obtain ⟨d', hd', rd'⟩ := (r2.mono e).get' hy
    have en : Same H' (upd H' T (.tup [x, y])) := Same.new hT
    refine ⟨en, .tup [d, d'], ?_, .tup (.inl (.inl (hide_new lv hT))) (.cons (rd.mono (same_hide en)) (.cons (rd'.mono (same_hide en)) .nil))⟩
    have hz : (ds.zip es)[i]? = some (d, d') := by
      rw [List.getElem?_zip_eq_some]
      exact ⟨hd, hd'⟩
    simp [zipT, List.getElem?_map, hz]
end
section
variable {X : Cx} {W : WX} {e e2 : Expr} {fs : M (List Rv)} {p pos tpos : Pos} {elts : List Expr} {kk : Nat}
theorem di_zip (hm : X.mg "zip" = none) (h : DA X W [e, e2] fs) (hg : Gl X "zip" := by rfl)
    (hs : starEach [e, e2] X.env = (false, eval e X.env) :: starEach [e2] X.env := by rfl) (hpl : (backTo pos (starEach [e2] X.env)).any (·.1) = false := by rfl) :
    DI X W (.Tuple elts kk tpos) (.Call (.Name "zip" p) [e, e2] [] pos) (dZip fs) := PI.le (RZ.pi_zip2 hg hm h hs hpl) fun σ H R ⟨c, ρ, O, st, q⟩ => by
  unfold dZip at q
  refine tAs.step st (Po.bind q) fun rs ρ1 vs H1 O1 st1 e1 hvs q1 => ?_
  split at q1
  · rename_i a b ρ2 hes
    obtain ⟨O2, st2, e2, hr⟩ := escs_ok st1 hvs hes
    cases hr with
    | cons ra t =>
      cases t with
      | cons rb t =>
        cases t
        split at q1
        · rename_i ds es ha hb
          obtain ⟨z1, xs, rfl, i1, r1⟩ := zs_of ra ha
          obtain ⟨z2, ys, rfl, i2, r2⟩ := zs_of rb hb
          exact ⟨z1, z2, xs, ys, rfl, zit_mono (hide_le _ _).ext i1, zit_mono (hide_le _ _).ext i2, q1 H1 O2 st2 e2 _ (walkD_zip (B := bs X) i1 r1 i2 r2)⟩
        · exact q1.elim
  · exact q1.elim
end
end Pu
namespace Pu
open PySem PySem.Spec PyProof.Rows L2 My
/-! ### isinstance(e, an own class) of an own error -/
section
variable {X : Cx} {W : WX} {i : Nat} {a : Addr} {cls : Value} {d : Option Addr} {oe : Obj} {pn : List (Addr × Obj)} {p pos : Pos}
theorem xp_isC {cn n : Str} {D : Addr} {b : Bool} {ps : Pos} {eT : Expr} (C : ExcC X.K ((bs X).cls cn)) (hk : PySem.W.kitOne X.K (.ref ((bs X).cls cn)) (.ref D) = some b) (hm : X.mg "isinstance" = none) (hz : Zc cls d oe) (hv : ∃ vs, oe.data = .fields vs) (hn : PE (X.suite a ((a, oe) :: pn)) (.Name n ps) (tVar i)) (hT : PE (X.suite a ((a, oe) :: pn)) eT (tC (.ref D))) (hg : Gl (X.suite a ((a, oe) :: pn)) "isinstance" := by rfl)
    (h0 : starEach [eT] X.env = (false, eval eT X.env) :: starEach [] X.env := by rfl) (he : starEach [.Name n ps, eT] X.env = (false, eval (.Name n ps) X.env) :: starEach [eT] X.env := by rfl) (hpl : (backTo pos (starEach [eT] X.env)).any (·.1) = false := by rfl) :
    PE (X.suite a ((a, oe) :: pn)) (.Call (.Name "isinstance" p) [.Name n ps, eT] [] pos) (tXp (bs X) i a cls d (gIs cn b)) := PE.le (pe_callB (call_isX C hz hv) hg hm (by decide +kernel) (pa_cons hn (pa_cons hT pa_nil h0) he) (by decide) (by decide) he hpl) fun σ H Q ⟨x, fs, c, ρ, O, su, dd, hgg, q⟩ => by
  unfold gIs at hgg
  split at hgg
  · rename_i hx
    subst hx
    cases hgg
    refine ⟨_, su.sl, .ref D, .ref D, b, su.cls, rfl, fun u hu => hu, hk, ?_, q _ (.bl b)⟩
    have hE := su.ex
    cases d with
    | none => exact .inl rfl
    | some d' =>
      obtain ⟨gs, h1, _⟩ := hE
      exact .inr ⟨d', gs, rfl, hide_le _ _ _ _ h1⟩
  · cases hgg
end
/-! ### repr of a tuple of plain values and empty dicts -/
def toE : D → Option PyData
  | .non => some .none
  | .bl b => some (.bool b)
  | .int i => some (.int i)
  | .str z => some (.str z)
  | .dK [] => some (.dict [])
  | _ => none
def toEs : List D → Option (List PyData)
  | [] => some []
  | d :: ds => match toE d, toEs ds with
    | some p, some ps => some (p :: ps)
    | _, _ => none
def reprE : D → Option D
  | .tup ds => match toEs ds with
    | some qs => if (PyData.tuple qs).showable = true ∧ (PyData.tuple qs).depth ≤ 60 ∧ (PyData.tuple qs).shown.length ≤ sizeLine then some (.str (PyData.tuple qs).shown) else none
    | none => none
  | _ => none
def reprX (d : D) : Option D := match reprD d with
  | some z => some z
  | none => reprE d
section
variable {X : Cx} {pins : List (Addr × Obj)} {σ : L2.St} {H : Hp} {s : Shared}
theorem emp_reads (I : Inv X pins σ H s) {d : Addr} {kvs : List (Key × V)} (hk : kvs = []) (h : Rd H d (.dK kvs)) : Reads s.heap (.ref d) (.dict []) [d] ∧ d ≠ sysModules := by
  subst hk
  have fin : ∀ (o : Obj) (es : Array DictEntry) (ep : Nat), s.heap.get? d = some o → o.ExactDict → o.data = .dict es ep → es.size = 0 → (d == sysModules) = false → Reads s.heap (.ref d) (.dict []) [d] ∧ d ≠ sysModules := fun o es ep ho hx hdt hz hs => by
    have e0 : es = #[] := Array.eq_empty_of_size_eq_zero hz
    subst e0
    refine ⟨?_, by simpa using hs⟩
    have := Reads.dict (h := s.heap) (kvs := []) ho hx.1 hdt (by exact ReadsAll.nil) (by exact ReadsAll.nil)
    simpa using this
  rcases h with h | ⟨ob, h⟩
  · obtain ⟨z, hs, vs, kv, o', es, ep, ho, hx, hdt, r⟩ := I.hok d _ h
    have l1 := r.2.1.length
    have l2 : ([] : List (Key × V)).length = vs.length := Paired.length kv
    exact fin o' es ep ho hx hdt (by rw [Array.length_toList] at l1; simp at l2; omega) hs
  · obtain ⟨hs, hd, hx, es, ep, vs, hdt, hsz, _⟩ := I.frzK h
    exact fin ob es ep hd hx hdt hsz hs
theorem rep_E (I : Inv X pins σ H s) {v : V} {u : Value} {d : D} {q : PyData} (h : Rep (bs X) H v d) (ru : RelV v u) (e : toE d = some q) : ∃ as, Reads s.heap u q as ∧ ∀ a ∈ as, a ≠ sysModules := by
  cases d with
  | non => cases h; cases e; cases ru; exact ⟨_, .none, fun a ha => by cases ha⟩
  | bl b => cases h; cases e; cases ru; exact ⟨_, .bool b, fun a ha => by cases ha⟩
  | int i => cases h; cases e; obtain ⟨t, rfl⟩ := ru; exact ⟨_, .int i t, fun a ha => by cases ha⟩
  | str z => cases h; cases e; obtain ⟨t, rfl⟩ := ru; exact ⟨_, .str z t, fun a ha => by cases ha⟩
  | dK ds =>
    cases ds with
    | nil =>
      cases e
      cases h with
      | dK r k rr =>
        cases ru
        obtain ⟨h1, h2⟩ := emp_reads I (List.map_eq_nil_iff.mp k) r
        exact ⟨_, h1, fun a ha => by
          rw [List.mem_singleton.mp ha]
          exact h2⟩
    | cons _ _ => cases e
  | _ => cases e
theorem rep_Es (I : Inv X pins σ H s) : ∀ {vs : List V} {us : List Value} {ds : List D} {qs : List PyData}, RepL (bs X) H vs ds → Vals vs us → toEs ds = some qs → ∃ as, ReadsAll s.heap us qs as ∧ ∀ a ∈ as, a ≠ sysModules
  | _, _, _, _, .nil, .nil, e => by
    cases e
    exact ⟨_, .nil, fun a ha => by cases ha⟩
  | _, _, d :: ds, _, .cons h t, .cons r rr, e => by
    simp only [toEs] at e
    split at e
    · rename_i p ps h1 h2
      cases e
      obtain ⟨as, a1, a2⟩ := rep_E I h r h1
      obtain ⟨bs, b1, b2⟩ := rep_Es I t rr h2
      exact ⟨_, .cons a1 b1, fun a ha => (List.mem_append.mp ha).elim (a2 a) (b2 a)⟩
    · cases e
end
def rReprE (B : Bs) : List V → Hp → VK → Prop := fun xs H Q => ∃ a vs ds qs, xs = [.ref a] ∧ SqT B.K H a vs ∧ RepL B H vs ds ∧ toEs ds = some qs ∧ (PyData.tuple qs).showable = true ∧ (PyData.tuple qs).depth ≤ 60 ∧ (PyData.tuple qs).shown.length ≤ sizeLine ∧ Q (.str (PyData.tuple qs).shown) H
theorem call_reprE {X : Cx} (hg : X.A.guards = some []) (hu : X.A.units + 64 < cLine) : CallR X (.builtin "repr") (rReprE (bs X)) := by
  intro pins s σ H xs us Q I r h
  obtain ⟨a, vs, ds, qs, rfl, ht, hr, he, hs, hdep, hl, q⟩ := h
  rw [Vals.ref1 r]
  obtain ⟨its, rv, ⟨o, ho, hc, n, hd⟩, _⟩ := I.tuple ht
  obtain ⟨as, R, hm⟩ := rep_Es I hr rv he
  have R' : Reads s.heap (.ref a) (.tuple qs) as := Reads.tuple ho hc hd R
  exact PySem.repr_of_reads' (h₀ := s.heap) R' hs (fun _ m => hm _ m rfl) hg (by omega) (fun _ _ z => z) (fun h' u tk k => ⟨.str (PyData.tuple qs).shown, H, I.kept (t' := tk) k, ⟨u, rfl⟩, q⟩) hl
theorem reprD_call {X : Cx} : CallD (bs X) (rReprD X.K) (one1 reprD) := callD_1 (by
    intro v H O x d Q hl hx hg hq
    have main : ∀ y : D, Vw (bs X) H O v y → isSq y = true → ∀ z, toP y = some z → (z.showable = true ∧ z.depth ≤ 60 ∧ z.shown.length ≤ sizeLine) → Q (.str z.shown) H → rReprD X.K [v] H Q := fun y hy hsq z hz hc hQ => by
      have hd := rep_dp y _ z hy.full hz
      have : ∃ a, v = .ref a := by
        cases y <;> simp only [isSq] at hsq <;> try (cases hsq; done)
        · obtain ⟨a, _, rfl, _⟩ := hy.tup; exact ⟨a, rfl⟩
        · obtain ⟨a, _, rfl, _⟩ := hy.lst; exact ⟨a, rfl⟩
      obtain ⟨a, rfl⟩ := this
      exact .inr ⟨a, z, rfl, hd, toP_nodict y z hz, hc.1, hc.2.1, hc.2.2, hQ⟩
    unfold reprD at hg
    split at hg
    · cases hg
      exact .inl ⟨by rw [hx.non], hq _ H (.refl _) (.str _)⟩
    · split at hg
      · rename_i hsq
        split at hg
        · rename_i z hz
          obtain ⟨hc, rfl⟩ := some_if hg
          exact main _ hx hsq z hz hc (hq _ H (.refl _) (.str _))
        · cases hg
      · cases hg)
theorem reprE_call {X : Cx} : CallD (bs X) (rReprE (bs X)) (one1 reprE) := callD_1 (by
    intro v H O x d Q hl hx hg hq
    unfold reprE at hg
    split at hg
    · split at hg
      · rename_i ds qs he
        obtain ⟨hc, rfl⟩ := some_if hg
        have hf := hx.full
        cases hf with
        | tup s r => exact ⟨_, _, _, qs, rfl, s, r, he, hc.1, hc.2.1, hc.2.2, hq _ H (.refl _) (.str _)⟩
      · cases hg
    · cases hg)
theorem de_reprX {X : Cx} {W : WX} {e : Expr} {es : List Expr} {fs : M (List Rv)} {p pos : Pos} {k : Nat} (hr : RmG k X.A) (hm : X.mg "repr" = none) (ha : DA X W (e :: es) fs) (hg : Gl X "repr" := by rfl) (he : starEach (e :: es) X.env = (false, eval e X.env) :: starEach es X.env := by rfl) (hpl : (backTo pos (starEach es X.env)).any (·.1) = false := by rfl) : DE X W (.Call (.Name "repr" p) (e :: es) [] pos) (dN (one1 reprX) fs) :=
  de_N (pe_callB (CallR.or (call_reprD hr.gd hr.u64) (call_reprE hr.gd hr.u64)) hg hm (by decide +kernel) ha (by decide) (by decide) he hpl) (by
    intro vs H O ds d Q hl hp hgg hq
    cases hp with
    | nil => cases hgg
    | cons h1 t1 =>
      cases t1 with
      | cons _ _ => cases hgg
      | nil =>
        rename_i v x
        have hx : reprX x = some d := hgg
        unfold reprX at hx
        split at hx
        · rename_i z hz
          cases hx
          exact .inl (reprD_call [v] H O [x] d Q hl (.cons h1 .nil) hz hq)
        · exact .inr (reprE_call [v] H O [x] d Q hl (.cons h1 .nil) hx hq))
end Pu
namespace Pu
open PySem PySem.Spec PyProof.Rows L2 My
def top (i : Nat) : Stmt := PySem.Challenge.pw_searchwalks_k12_edits_refused.main.body.getD i (.Pass ⟨0, 0, 0, 0⟩)
abbrev s_law_pen : Stmt := top 32
theorem sc_law_pen : FnScope ["_law_script"] ["_law_script"] (defScope s_law_pen) := ⟨rfl, rfl, rfl, by decide +kernel, rfl, by decide +kernel, by decide +kernel⟩
abbrev s_law_draw : Stmt := top 33
theorem sc_law_draw : FnScope ["_law_pen_here", "_law_many", "_law_digit", "_law_k", "_law_size", "_law_cell", "_law_mix"] ["_law_pen_here", "_law_many"] (defScope s_law_draw) := ⟨rfl, rfl, rfl, by decide +kernel, rfl, by decide +kernel, by decide +kernel⟩
abbrev s_law_pick : Stmt := top 34
theorem sc_law_pick : FnScope ["_law_pen_here", "_law_items"] ["_law_pen_here", "_law_items"] (defScope s_law_pick) := ⟨rfl, rfl, rfl, by decide +kernel, rfl, by decide +kernel, by decide +kernel⟩
abbrev s_law_values : Stmt := top 37
theorem sc_law_values : FnScope ["_law_pen_here", "_law_many", "_law_last", "_law_found", "_law_k"] ["_law_pen_here", "_law_many"] (defScope s_law_values) := ⟨rfl, rfl, rfl, by decide +kernel, rfl, by decide +kernel, by decide +kernel⟩
abbrev s_law_grown : Stmt := top 36
theorem sc_law_grown : FnScope ["_law_pen_here", "_law_values_here", "_law_at"] ["_law_pen_here", "_law_values_here"] (defScope s_law_grown) := ⟨rfl, rfl, rfl, by decide +kernel, rfl, by decide +kernel, by decide +kernel⟩
abbrev s_law_down : Stmt := top 38
theorem sc_law_down : FnScope ["_law_told", "_law_place", "_law_letter"] ["_law_told", "_law_place"] (defScope s_law_down) := ⟨rfl, rfl, rfl, by decide +kernel, rfl, by decide +kernel, by decide +kernel⟩
abbrev s_law_spots : Stmt := top 39
theorem sc_law_spots : FnScope ["_law_told", "_law_place", "_law_part"] ["_law_told", "_law_place"] (defScope s_law_spots) := ⟨rfl, rfl, rfl, by decide +kernel, rfl, by decide +kernel, by decide +kernel⟩
abbrev s_law_shuffled : Stmt := top 35
theorem sc_law_shuffled : FnScope ["_law_pen_here", "_law_items", "_law_left", "_law_found"] ["_law_pen_here", "_law_items"] (defScope s_law_shuffled) := ⟨rfl, rfl, rfl, by decide +kernel, rfl, by decide +kernel, by decide +kernel⟩
abbrev s_law_odd_results : Stmt := top 42
theorem sc_law_odd_results : FnScope ["_law_pen_here", "_law_told", "_law_places", "_law_place", "_law_far", "_law_side", "_law_found"] ["_law_pen_here", "_law_told"] (defScope s_law_odd_results) := ⟨rfl, rfl, rfl, by decide +kernel, rfl, by decide +kernel, by decide +kernel⟩
abbrev s_is_row : Stmt := top 20
theorem sc_is_row : FnScope ["value", "size"] ["value", "size"] (defScope s_is_row) := ⟨rfl, rfl, rfl, by decide +kernel, rfl, by decide +kernel, by decide +kernel⟩
abbrev s_is_integer : Stmt := top 19
theorem sc_is_integer : FnScope ["value"] ["value"] (defScope s_is_integer) := ⟨rfl, rfl, rfl, by decide +kernel, rfl, by decide +kernel, by decide +kernel⟩
abbrev s_spots_of : Stmt := top 24
theorem sc_spots_of : FnScope ["told", "found", "waiting", "at", "place", "here"] ["told"] (defScope s_spots_of) := ⟨rfl, rfl, rfl, by decide +kernel, rfl, by decide +kernel, by decide +kernel⟩
abbrev s_rank_text : Stmt := top 25
theorem sc_rank_text : FnScope ["place"] ["place"] (defScope s_rank_text) := ⟨rfl, rfl, rfl, by decide +kernel, rfl, by decide +kernel, by decide +kernel⟩
abbrev s_in_order : Stmt := top 26
theorem sc_in_order : FnScope ["spots"] ["spots"] (defScope s_in_order) := ⟨rfl, rfl, rfl, by decide +kernel, rfl, by decide +kernel, by decide +kernel⟩
abbrev s_first_fall : Stmt := top 27
theorem sc_first_fall : FnScope ["spots", "last", "place"] ["spots"] (defScope s_first_fall) := ⟨rfl, rfl, rfl, by decide +kernel, rfl, by decide +kernel, by decide +kernel⟩
abbrev s_told_of : Stmt := top 28
theorem sc_told_of : FnScope ["spots", "built", "place"] ["spots"] (defScope s_told_of) := ⟨rfl, rfl, rfl, by decide +kernel, rfl, by decide +kernel, by decide +kernel⟩
abbrev s_height_of : Stmt := top 29
theorem sc_height_of : FnScope ["spots", "place"] ["spots"] (defScope s_height_of) := ⟨rfl, rfl, rfl, by decide +kernel, rfl, by decide +kernel, by decide +kernel⟩
abbrev s_Tree_init : Stmt := inClass (top 30) 0
theorem sc_Tree_init : FnScope ["self", "told", "spots", "wrong", "fall"] ["self", "told"] (defScope s_Tree_init) := ⟨rfl, rfl, rfl, by decide +kernel, rfl, by decide +kernel, by decide +kernel⟩
abbrev s_law_all_results : Stmt := top 40
theorem sc_law_all_results : FnScope ["_law_told", "_law_places", "_law_found", "_law_place", "_law_here", "_law_other"] ["_law_told"] (defScope s_law_all_results) := ⟨rfl, rfl, rfl, by decide +kernel, rfl, by decide +kernel, by decide +kernel⟩
abbrev s_Tree_has : Stmt := inClass (top 30) 2
theorem sc_Tree_has : FnScope ["self", "place"] ["self", "place"] (defScope s_Tree_has) := ⟨rfl, rfl, rfl, by decide +kernel, rfl, by decide +kernel, by decide +kernel⟩
abbrev s_Tree_need : Stmt := inClass (top 30) 3
theorem sc_Tree_need : FnScope ["self", "place"] ["self", "place"] (defScope s_Tree_need) := ⟨rfl, rfl, rfl, by decide +kernel, rfl, by decide +kernel, by decide +kernel⟩
abbrev s_Tree_sides : Stmt := inClass (top 30) 5
theorem sc_Tree_sides : FnScope ["self", "place", "sign"] ["self", "place"] (defScope s_Tree_sides) := ⟨rfl, rfl, rfl, by decide +kernel, rfl, by decide +kernel, by decide +kernel⟩
abbrev s_is_spot : Stmt := top 14
theorem sc_is_spot : FnScope ["tree", "value"] ["tree", "value"] (defScope s_is_spot) := ⟨rfl, rfl, rfl, by decide +kernel, rfl, by decide +kernel, by decide +kernel⟩
abbrev s_is_done : Stmt := top 15
theorem sc_is_done : FnScope ["tree", "result", "kind", "rest", "place"] ["tree", "result"] (defScope s_is_done) := ⟨rfl, rfl, rfl, by decide +kernel, rfl, by decide +kernel, by decide +kernel⟩
abbrev s_told_at : Stmt := top 12
theorem sc_told_at : FnScope ["told", "place", "letter"] ["told", "place"] (defScope s_told_at) := ⟨rfl, rfl, rfl, by decide +kernel, rfl, by decide +kernel, by decide +kernel⟩
abbrev s_with_told : Stmt := top 13
theorem sc_with_told : FnScope ["told", "place", "other", "parts", "letter", "part"] ["told", "place", "other"] (defScope s_with_told) := ⟨rfl, rfl, rfl, by decide +kernel, rfl, by decide +kernel, by decide +kernel⟩
abbrev s_without : Stmt := top 16
theorem sc_without : FnScope ["told", "place", "left", "value", "right"] ["told", "place"] (defScope s_without) := ⟨rfl, rfl, rfl, by decide +kernel, rfl, by decide +kernel, by decide +kernel⟩
abbrev s_applied : Stmt := top 17
theorem sc_applied : FnScope ["tree", "result", "key", "kind", "told", "fresh", "left", "value", "right"] ["tree", "result", "key"] (defScope s_applied) := ⟨rfl, rfl, rfl, by decide +kernel, rfl, by decide +kernel, by decide +kernel⟩
abbrev s_law_fault : Stmt := top 41
theorem sc_law_fault : FnScope ["_law_tree", "_law_result", "_law_key", "e"] ["_law_tree", "_law_result", "_law_key"] (defScope s_law_fault) := ⟨rfl, rfl, rfl, by decide +kernel, rfl, by decide +kernel, by decide +kernel⟩
abbrev s_law : Stmt := top 43
theorem sc_law : FnScope ["_law_script", "_law_pen_here", "_law_turn", "_law_values_here", "_law_told", "_law_tree", "_law_right", "_law_result", "_law_is_fit", "_law_one", "_law_due"] ["_law_script"] (defScope s_law) := ⟨rfl, rfl, rfl, by decide +kernel, rfl, by decide +kernel, by decide +kernel⟩
abbrev s_BadTold_init : Stmt := inClass (top 3) 0
abbrev s_TooMany_init : Stmt := inClass (top 7) 0
abbrev s_BadValue_init : Stmt := inClass (top 4) 0
abbrev s_NoPlace_init : Stmt := inClass (top 5) 0
abbrev s_BadPlan_init : Stmt := inClass (top 9) 0
abbrev s_NoKey_init : Stmt := inClass (top 8) 0
def k_SIDES : D := .tup [.str "left", .str "right"]
def erL : List Str := ["BadTold", "TooMany", "BadValue", "NoPlace", "BadPlan", "NoKey"]
def chL : List Str := ["BadPlan", "NoKey"]
def caD (x y : Str) : Option Bool := if x ∈ erL ∧ y ∈ chL then some (decide (x = y)) else none
structure Txt (P : Program) (w : World) (K : PySem.W.Frag) (mg : Str → Option Value) : Prop where
  n_list : mg "list" = none
  n_int : mg "int" = none
  n_len : mg "len" = none
  n_abs : mg "abs" = none
  n_range : mg "range" = none
  n_isinstance : mg "isinstance" = none
  n_tuple : mg "tuple" = none
  n_bool : mg "bool" = none
  n_sorted : mg "sorted" = none
  n_max : mg "max" = none
  n_str : mg "str" = none
  n_all : mg "all" = none
  n_zip : mg "zip" = none
  n_min : mg "min" = none
  n_repr : mg "repr" = none
  n_super : mg "super" = none
  law_pen : Dg K mg "_law_pen" s_law_pen
  b_law_pen : Binds K (fdOf K (My.fa mg "_law_pen")) ["_law_script"] []
  law_draw : Dg K mg "_law_draw" s_law_draw
  b_law_draw : Binds K (fdOf K (My.fa mg "_law_draw")) ["_law_pen_here", "_law_many"] []
  law_pick : Dg K mg "_law_pick" s_law_pick
  b_law_pick : Binds K (fdOf K (My.fa mg "_law_pick")) ["_law_pen_here", "_law_items"] []
  law_values : Dg K mg "_law_values" s_law_values
  b_law_values : Binds K (fdOf K (My.fa mg "_law_values")) ["_law_pen_here", "_law_many"] []
  law_grown : Dg K mg "_law_grown" s_law_grown
  b_law_grown : Binds K (fdOf K (My.fa mg "_law_grown")) ["_law_pen_here", "_law_values_here"] []
  law_down : Dg K mg "_law_down" s_law_down
  b_law_down : Binds K (fdOf K (My.fa mg "_law_down")) ["_law_told", "_law_place"] []
  law_spots : Dg K mg "_law_spots" s_law_spots
  b_law_spots : Binds K (fdOf K (My.fa mg "_law_spots")) ["_law_told", "_law_place"] []
  law_shuffled : Dg K mg "_law_shuffled" s_law_shuffled
  b_law_shuffled : Binds K (fdOf K (My.fa mg "_law_shuffled")) ["_law_pen_here", "_law_items"] []
  law_odd_results : Dg K mg "_law_odd_results" s_law_odd_results
  b_law_odd_results : Binds K (fdOf K (My.fa mg "_law_odd_results")) ["_law_pen_here", "_law_told"] []
  is_row : Dg K mg "is_row" s_is_row
  b_is_row : Binds K (fdOf K (My.fa mg "is_row")) ["value", "size"] []
  is_integer : Dg K mg "is_integer" s_is_integer
  b_is_integer : Binds K (fdOf K (My.fa mg "is_integer")) ["value"] []
  spots_of : Dg K mg "spots_of" s_spots_of
  b_spots_of : Binds K (fdOf K (My.fa mg "spots_of")) ["told"] []
  rank_text : Dg K mg "rank_text" s_rank_text
  b_rank_text : Binds K (fdOf K (My.fa mg "rank_text")) ["place"] []
  in_order : Dg K mg "in_order" s_in_order
  b_in_order : Binds K (fdOf K (My.fa mg "in_order")) ["spots"] []
  first_fall : Dg K mg "first_fall" s_first_fall
  b_first_fall : Binds K (fdOf K (My.fa mg "first_fall")) ["spots"] []
  told_of : Dg K mg "told_of" s_told_of
  b_told_of : Binds K (fdOf K (My.fa mg "told_of")) ["spots"] []
  height_of : Dg K mg "height_of" s_height_of
  b_height_of : Binds K (fdOf K (My.fa mg "height_of")) ["spots"] []
  Tree_init : Mg K mg "Tree" "__init__" "Tree.__init__" s_Tree_init
  b_Tree_init : Binds K (fdOf K (mf K (My.fa mg "Tree") "__init__")) ["self", "told"] []
  law_all_results : Dg K mg "_law_all_results" s_law_all_results
  b_law_all_results : Binds K (fdOf K (My.fa mg "_law_all_results")) ["_law_told"] []
  Tree_has : Mg K mg "Tree" "has" "Tree.has" s_Tree_has
  b_Tree_has : Binds K (fdOf K (mf K (My.fa mg "Tree") "has")) ["self", "place"] []
  Tree_need : Mg K mg "Tree" "need" "Tree.need" s_Tree_need
  b_Tree_need : Binds K (fdOf K (mf K (My.fa mg "Tree") "need")) ["self", "place"] []
  Tree_sides : Mg K mg "Tree" "sides" "Tree.sides" s_Tree_sides
  b_Tree_sides : Binds K (fdOf K (mf K (My.fa mg "Tree") "sides")) ["self", "place"] []
  is_spot : Dg K mg "is_spot" s_is_spot
  b_is_spot : Binds K (fdOf K (My.fa mg "is_spot")) ["tree", "value"] []
  is_done : Dg K mg "is_done" s_is_done
  b_is_done : Binds K (fdOf K (My.fa mg "is_done")) ["tree", "result"] []
  told_at : Dg K mg "told_at" s_told_at
  b_told_at : Binds K (fdOf K (My.fa mg "told_at")) ["told", "place"] []
  with_told : Dg K mg "with_told" s_with_told
  b_with_told : Binds K (fdOf K (My.fa mg "with_told")) ["told", "place", "other"] []
  without : Dg K mg "without" s_without
  b_without : Binds K (fdOf K (My.fa mg "without")) ["told", "place"] []
  applied : Dg K mg "applied" s_applied
  b_applied : Binds K (fdOf K (My.fa mg "applied")) ["tree", "result", "key"] []
  b_applied_1 : Binds K (fdOf K (My.fa mg "applied")) ["tree", "result", "key"] [.none]
  law_fault : Dg K mg "_law_fault" s_law_fault
  b_law_fault : Binds K (fdOf K (My.fa mg "_law_fault")) ["_law_tree", "_law_result", "_law_key"] []
  law : Dg K mg "law" s_law
  b_law : Binds K (fdOf K (My.fa mg "law")) ["_law_script"] []
  c_MOST_PLACES : ∃ t, mg "MOST_PLACES" = some (.int 2000 t)
  c_MOST_LEVELS : ∃ t, mg "MOST_LEVELS" = some (.int 200 t)
  c_SIDES : mg "SIDES" = some (.ref (My.fa mg "SIDES"))
  r_SIDES : ∀ G, Rep ⟨K, w, mg⟩ G (.ref (My.fa mg "SIDES")) k_SIDES
  c_WalksError : mg "WalksError" = some (.ref (My.fa mg "WalksError"))
  w_BadPlan_WalksError : PySem.W.kitOne K (.ref (My.fa mg "BadPlan")) (.ref (My.fa mg "WalksError")) = some true
  c_Tree : mg "Tree" = some (.ref (My.fa mg "Tree"))
  k_Tree : Mk K (My.fa mg "Tree") (mf K (My.fa mg "Tree") "__init__")
  f_own_spots : FldOk K mg ["Tree"] "own_spots"
  f_Tree_own_spots : FldOk K mg ["Tree"] "own_spots"
  f_told : FldOk K mg ["Tree"] "told"
  f_Tree_told : FldOk K mg ["Tree"] "told"
  f_size : FldOk K mg ["Tree"] "size"
  f_Tree_size : FldOk K mg ["Tree"] "size"
  f_height : FldOk K mg ["Tree"] "height"
  f_Tree_height : FldOk K mg ["Tree"] "height"
  e_BadTold : Ex P K mg "BadTold" s_BadTold_init ["place"]
  x_BadTold : ExcC K (My.fa mg "BadTold")
  v_BadTold : PySem.W.kitOne K (.ref (My.fa mg "BadTold")) (.type "ValueError") = some true
  e_TooMany : Ex P K mg "TooMany" s_TooMany_init ["what", "many", "most"]
  x_TooMany : ExcC K (My.fa mg "TooMany")
  v_TooMany : PySem.W.kitOne K (.ref (My.fa mg "TooMany")) (.type "ValueError") = some true
  e_BadValue : Ex P K mg "BadValue" s_BadValue_init ["place"]
  x_BadValue : ExcC K (My.fa mg "BadValue")
  v_BadValue : PySem.W.kitOne K (.ref (My.fa mg "BadValue")) (.type "ValueError") = some true
  e_NoPlace : Ex P K mg "NoPlace" s_NoPlace_init ["place"]
  x_NoPlace : ExcC K (My.fa mg "NoPlace")
  v_NoPlace : PySem.W.kitOne K (.ref (My.fa mg "NoPlace")) (.type "ValueError") = some true
  e_BadPlan : Ex P K mg "BadPlan" s_BadPlan_init []
  x_BadPlan : ExcC K (My.fa mg "BadPlan")
  v_BadPlan : PySem.W.kitOne K (.ref (My.fa mg "BadPlan")) (.type "ValueError") = some true
  e_NoKey : Ex P K mg "NoKey" s_NoKey_init ["key"]
  x_NoKey : ExcC K (My.fa mg "NoKey")
  v_NoKey : PySem.W.kitOne K (.ref (My.fa mg "NoKey")) (.type "ValueError") = some true
  ca : ∀ x y b, caD x y = some b → PySem.W.exmOne K (.ref (My.fa mg x)) (.ref (My.fa mg y)) = some b
  ins : NotIn K mg ["Tree"]
end Pu
namespace Pu
open PySem PySem.Spec PyProof.Rows L2 My CwR
variable {P : Program} {w : World} {K : PySem.W.Frag} {mg : Str → Option Value} {base : Heap}
theorem ok_rank_text (T : Txt P w K mg) : FnG P w K mg base 1 (My.fa mg "rank_text") (fdOf K (My.fa mg "rank_text")) ["place"] (spD ⟨K, w, mg⟩ none 1 fnRank) := by
  obtain ⟨oc, od, dV, kV, doc, pm, an, cdv, ct, osl, e, lk, hcd⟩ := T.rank_text.F.ex
  rw [e] at lk ⊢
  refine FnG.of_ok (fn_ofT lk hcd sc_rank_text (by decide +kernel) (by decide) (fun vs H Q E h => h.1) fun A outer s H vs Q E hr h => ?_)
  obtain ⟨hl, O, ds, liv, ha, q⟩ := h
  unfold fnRank at q
  split at q
  · rename_i z
    split at q
    · rename_i hc
      obtain ⟨c1, c2, c3⟩ := hc
      obtain ⟨v, e1, r1⟩ := ha.val 0 (.str z) (by simp) rfl
      cases r1
      obtain ⟨u, rfl⟩ : ∃ u, vs = [u] := by
        match vs, hl with
        | [u], _ => exact ⟨u, rfl⟩
      obtain rfl : u = .str z := by simpa using e1
      refine ⟨_, psst_one (pst_ret (pet_op op_add_str (pet_replT (pet_replC (pv 0))) (PET.of pe_str))), ?_⟩
      refine ⟨V.str z, rfl, z, rfl, ?_, Txt.replace z "l" "0", rfl, ?_, _, _, rfl, rfl, ?_, ?_⟩
      · have : ("0" : Str).length = 1 := by decide
        rw [this]; omega
      · have : ("2" : Str).length = 1 := by decide
        rw [this]; omega
      · have : ("1" : Str).length = 1 := by decide
        rw [this]
        have : sizeLine = 16777216 := by rfl
        omega
      · exact q _ H O ⟨liv, .refl _, fun q hq _ => ⟨hq, rfl⟩, fun j hj => by cases hj⟩ (.str _)
    · exact q.elim
  · exact q.elim
end Pu
namespace Pu
open PySem PySem.Spec PyProof.Rows L2 My
variable {P : Program} {w : World} {K : PySem.W.Frag} {mg : Str → Option Value} {base : Heap}
def b_law_pen : SM := (dRetF (dDisp (dPairs [((dC (.str "cells")), (dFr (dListF (dSl (dVar 0) pNone (pSome (dC (.int 63))))))), ((dC (.str "opened")), (dC (.int 0))), ((dC (.str "left")), (dC (.int 0)))])))
def fn_law_pen : List D → FOut := runFF none 1 1 b_law_pen
theorem bd_law_pen (T : Txt P w K mg) : Bdy P w K mg base ["_law_script"] "_law_pen" s_law_pen (My.fa mg "_law_pen") 0 b_law_pen := fun cdv A outer s H E hr tk hp => (ds_one (ds_retF (df_disp (dps_cons (de_c pe_str (fun _ => .str _)) (DF.de (df_list T.n_list (de_slice (de_var 0 (pv 0)) do_none (do_some (de_c pe_int (fun _ => .int _)))))) (dps_cons (de_c pe_str (fun _ => .str _)) (de_c pe_int (fun _ => .int _)) (dps_cons (de_c pe_str (fun _ => .str _)) (de_c pe_int (fun _ => .int _)) dps_nil))))))
theorem ok_law_pen (T : Txt P w K mg) : FnG P w K mg base 1 (My.fa mg "_law_pen") (fdOf K (My.fa mg "_law_pen")) ["_law_script"] (spF ⟨K, w, mg⟩ none 1 fn_law_pen) := fn_bodyF none T.law_pen.F sc_law_pen (by decide) (bd_law_pen T)

def b_law_draw : SM := (dSeq (dIf (dT2 gtD (d2 ixD (dVar 0) (dC (.str "left"))) (dC (.int 0)))
  (dSeq (dSet 2 (d2 modD (dN (one1 intD) (dCons (d2 ixD (dVar 0) (dC (.str "left"))) dNil)) (dVar 1)))
  (dSeq (dPut 0 (dC (.str "left")) (d2 fdivD (d2 ixD (dVar 0) (dC (.str "left"))) (dVar 1)))
  (dRet (dVar 2))))
  dNx)
  (dSeq (dPar [3, 4] (xV (d2 ixD (dVar 0) (dC (.str "opened"))) (xV (dN (one1 lenD) (dCons (d2 ixD (dVar 0) (dC (.str "cells"))) dNil)) xNil)))
  (dSeq (dPut 0 (dC (.str "opened")) (d2 addD (dVar 3) (dC (.int 1))))
  (dSeq (dSet 5 (dIfE (dT2 gtD (dVar 4) (dC (.int 0))) (d2 ixD (d2 ixD (dVar 0) (dC (.str "cells"))) (d2 modD (dN (one1 intD) (dCons (dVar 3) dNil)) (dVar 4))) (d2 addD (d2 mulD (dC (.int 89)) (dVar 3)) (dC (.int 43)))))
  (dSeq (dIf (dAnd (dT2 ltD (dVar 3) (dVar 4)) (dT2 geD (dN (one1 absD) (dCons (dVar 5) dNil)) (d2 powD (dC (.int 10)) (dC (.int 18)))))
  (dSeq (dPut 0 (dC (.str "left")) (d2 fdivD (d2 subD (dN (one1 absD) (dCons (dVar 5) dNil)) (d2 powD (dC (.int 10)) (dC (.int 18)))) (dVar 1)))
  (dRet (d2 modD (dN (one1 intD) (dCons (d2 subD (dN (one1 absD) (dCons (dVar 5) dNil)) (d2 powD (dC (.int 10)) (dC (.int 18)))) dNil)) (dVar 1))))
  dNx)
  (dSeq (dSet 6 (d2 modD (dN (one1 intD) (dCons (d2 addD (d2 addD (d2 addD (d2 mulD (d2 modD (dN (one1 intD) (dCons (dVar 5) dNil)) (dC (.int 4294965737))) (dC (.int 43691))) (d2 mulD (d2 mulD (dC (.int 25933)) (dVar 3)) (dVar 3))) (d2 mulD (dC (.int 823)) (dVar 3))) (dC (.int 61))) dNil)) (dC (.int 4294965757))))
  (dSeq (dSet 6 (d2 modD (dN (one1 intD) (dCons (d2 addD (d2 addD (d2 mulD (dVar 6) (dVar 6)) (d2 mulD (dC (.int 40127)) (dVar 6))) (d2 mulD (dC (.int 29)) (dVar 3))) dNil)) (dC (.int 4294965703))))
  (dRet (d2 modD (dN (one1 intD) (dCons (d2 fdivD (d2 modD (dN (one1 intD) (dCons (d2 mulD (dVar 6) (d2 addD (dVar 6) (dC (.int 60257)))) dNil)) (dC (.int 4294965617))) (dC (.int 128))) dNil)) (dVar 1))))))))))
def fn_law_draw : List D → FOut := runF (some 0) 7 2 b_law_draw
theorem bd_law_draw (T : Txt P w K mg) : Bdy P w K mg base ["_law_pen_here", "_law_many", "_law_digit", "_law_k", "_law_size", "_law_cell", "_law_mix"] "_law_draw" s_law_draw (My.fa mg "_law_draw") 0 b_law_draw := fun cdv A outer s H E hr tk hp => (ds_cons (ds_if (dt_gt (de_ix hr (de_var 0 (pv 0)) (de_c pe_str (fun _ => .str _))) (de_c pe_int (fun _ => .int _)))
  (ds_cons (ds_set (fun te he => ps_set (i := 2) sc_law_draw.nd rfl (Or.inl rfl) he) (de_mod (de_int T.n_int (da_cons (de_ix hr (de_var 0 (pv 0)) (de_c pe_str (fun _ => .str _))) da_nil)) (de_var 1 (pv 1))))
  (ds_cons (ds_put hr (pv 0) (de_c pe_str (fun _ => .str _)) (de_fdiv (de_ix hr (de_var 0 (pv 0)) (de_c pe_str (fun _ => .str _))) (de_var 1 (pv 1))))
  (ds_one (ds_ret (de_var 2 (pv 2))))))
  ds_nil)
  (ds_cons (ds_par2 (fun ta ha => ps_par (by rfl) sc_law_draw.nd (i := 3) (j := 4) rfl rfl (by decide) rfl rfl ha (by rfl)) (dx_v (de_ix hr (de_var 0 (pv 0)) (de_c pe_str (fun _ => .str _))) (dx_v (de_len T.n_len (da_cons (de_ix hr (de_var 0 (pv 0)) (de_c pe_str (fun _ => .str _))) da_nil)) dx_nil)))
  (ds_cons (ds_put hr (pv 0) (de_c pe_str (fun _ => .str _)) (de_add (de_var 3 (pv 3)) (de_c pe_int (fun _ => .int _))))
  (ds_cons (ds_set (fun te he => ps_set (i := 5) sc_law_draw.nd rfl (Or.inl rfl) he) (de_if (dt_gt (de_var 4 (pv 4)) (de_c pe_int (fun _ => .int _))) (de_ix hr (de_ix hr (de_var 0 (pv 0)) (de_c pe_str (fun _ => .str _))) (de_mod (de_int T.n_int (da_cons (de_var 3 (pv 3)) da_nil)) (de_var 4 (pv 4)))) (de_add (de_mul (de_c pe_int (fun _ => .int _)) (de_var 3 (pv 3))) (de_c pe_int (fun _ => .int _)))))
  (ds_cons (ds_if (PW.pt (dw_and (dt_lt (de_var 3 (pv 3)) (de_var 4 (pv 4))) (dw_and1 (dt_ge (de_abs T.n_abs (da_cons (de_var 5 (pv 5)) da_nil)) (de_pow (de_c pe_int (fun _ => .int _)) (de_c pe_int (fun _ => .int _)))))))
  (ds_cons (ds_put hr (pv 0) (de_c pe_str (fun _ => .str _)) (de_fdiv (de_sub (de_abs T.n_abs (da_cons (de_var 5 (pv 5)) da_nil)) (de_pow (de_c pe_int (fun _ => .int _)) (de_c pe_int (fun _ => .int _)))) (de_var 1 (pv 1))))
  (ds_one (ds_ret (de_mod (de_int T.n_int (da_cons (de_sub (de_abs T.n_abs (da_cons (de_var 5 (pv 5)) da_nil)) (de_pow (de_c pe_int (fun _ => .int _)) (de_c pe_int (fun _ => .int _)))) da_nil)) (de_var 1 (pv 1))))))
  ds_nil)
  (ds_cons (ds_set (fun te he => ps_set (i := 6) sc_law_draw.nd rfl (Or.inl rfl) he) (de_mod (de_int T.n_int (da_cons (de_add (de_add (de_add (de_mul (de_mod (de_int T.n_int (da_cons (de_var 5 (pv 5)) da_nil)) (de_c pe_int (fun _ => .int _))) (de_c pe_int (fun _ => .int _))) (de_mul (de_mul (de_c pe_int (fun _ => .int _)) (de_var 3 (pv 3))) (de_var 3 (pv 3)))) (de_mul (de_c pe_int (fun _ => .int _)) (de_var 3 (pv 3)))) (de_c pe_int (fun _ => .int _))) da_nil)) (de_c pe_int (fun _ => .int _))))
  (ds_cons (ds_set (fun te he => ps_set (i := 6) sc_law_draw.nd rfl (Or.inl rfl) he) (de_mod (de_int T.n_int (da_cons (de_add (de_add (de_mul (de_var 6 (pv 6)) (de_var 6 (pv 6))) (de_mul (de_c pe_int (fun _ => .int _)) (de_var 6 (pv 6)))) (de_mul (de_c pe_int (fun _ => .int _)) (de_var 3 (pv 3)))) da_nil)) (de_c pe_int (fun _ => .int _))))
  (ds_one (ds_ret (de_mod (de_int T.n_int (da_cons (de_fdiv (de_mod (de_int T.n_int (da_cons (de_mul (de_var 6 (pv 6)) (de_add (de_var 6 (pv 6)) (de_c pe_int (fun _ => .int _)))) da_nil)) (de_c pe_int (fun _ => .int _))) (de_c pe_int (fun _ => .int _))) da_nil)) (de_var 1 (pv 1))))))))))))
theorem ok_law_draw (T : Txt P w K mg) : FnG P w K mg base 1 (My.fa mg "_law_draw") (fdOf K (My.fa mg "_law_draw")) ["_law_pen_here", "_law_many"] (spD ⟨K, w, mg⟩ (some 0) 2 fn_law_draw) := fn_body (some 0) T.law_draw.F sc_law_draw (by decide) (bd_law_draw T)

def b_law_pick : SM := (dRet (d2 ixD (dVar 1) (dCall true (some 0) 2 [] fn_law_draw (dCons (dVar 0) (dCons (dN (one1 lenD) (dCons (dVar 1) dNil)) dNil)))))
def fn_law_pick : List D → FOut := runF (some 0) 2 2 b_law_pick
theorem bd_law_pick (T : Txt P w K mg) : Bdy P w K mg base ["_law_pen_here", "_law_items"] "_law_pick" s_law_pick (My.fa mg "_law_pick") 1 b_law_pick := fun cdv A outer s H E hr tk hp => (ds_one (ds_ret (de_ix hr (de_var 1 (pv 1)) (de_callN T.law_draw T.b_law_draw (ok_law_draw T) (hr.mono (by decide)) (errTk tk) .nil (fun _ => .nil) (da_cons (de_var 0 (pv 0)) (da_cons (de_len T.n_len (da_cons (de_var 1 (pv 1)) da_nil)) da_nil))))))
theorem ok_law_pick (T : Txt P w K mg) : FnG P w K mg base 2 (My.fa mg "_law_pick") (fdOf K (My.fa mg "_law_pick")) ["_law_pen_here", "_law_items"] (spD ⟨K, w, mg⟩ (some 0) 2 fn_law_pick) := fn_body (some 0) T.law_pick.F sc_law_pick (by decide) (bd_law_pick T)

def l0_law_values : SM := (dSeq (dSet 2 (d2 addD (dVar 2) (dCall true (some 0) 2 [] fn_law_pick (dCons (dVar 0) (dCons (dLst (dCons (dC (.int 1)) (dCons (dC (.int 2)) (dCons (dC (.int 3)) (dCons (d2 addD (dC (.int 1)) (dCall true (some 0) 2 [] fn_law_draw (dCons (dVar 0) (dCons (dC (.int 50)) dNil)))) (dCons (d2 powD (dC (.int 10)) (dC (.int 20))) dNil)))))) dNil)))))
  (dDrop (dMut 3 appD (dCons (dVar 2) dNil))))
def b_law_values : SM := (dSeq (dPar [2, 3] (xV (d2 subD (dCall true (some 0) 2 [] fn_law_pick (dCons (dVar 0) (dCons (dLst (dCons (dC (.int 0)) (dCons (d1 negD (dC (.int 5))) (dCons (d2 powD (dC (.int 10)) (dC (.int 30))) (dCons (d1 negD (d2 powD (dC (.int 10)) (dC (.int 30)))) (dCons (dC (.int 100)) dNil)))))) dNil))) (dCall true (some 0) 2 [] fn_law_draw (dCons (dVar 0) (dCons (dC (.int 9)) dNil)))) (xO (dLstF dNil) xNil)))
  (dSeq (dFor (dRg1 (dCons (dVar 1) dNil)) (gN 4)
  l0_law_values)
  (dRet (dVar 3))))
def fn_law_values : List D → FOut := runF (some 0) 5 2 b_law_values
theorem bd_law_values (T : Txt P w K mg) : Bdy P w K mg base ["_law_pen_here", "_law_many", "_law_last", "_law_found", "_law_k"] "_law_values" s_law_values (My.fa mg "_law_values") 2 b_law_values := fun cdv A outer s H E hr tk hp => (ds_cons (ds_par2 (fun ta ha => ps_par (by rfl) sc_law_values.nd (i := 2) (j := 3) rfl rfl (by decide) rfl rfl ha (by rfl)) (dx_v (de_sub (de_callN T.law_pick T.b_law_pick (ok_law_pick T) (hr.mono (by decide)) (errTk tk) .nil (fun _ => .nil) (da_cons (de_var 0 (pv 0)) (da_cons (de_lst (da_cons (de_c pe_int (fun _ => .int _)) (da_cons (de_neg (de_c pe_int (fun _ => .int _))) (da_cons (de_pow (de_c pe_int (fun _ => .int _)) (de_c pe_int (fun _ => .int _))) (da_cons (de_neg (de_pow (de_c pe_int (fun _ => .int _)) (de_c pe_int (fun _ => .int _)))) (da_cons (de_c pe_int (fun _ => .int _)) da_nil)))))) da_nil))) (de_callN T.law_draw T.b_law_draw (ok_law_draw T) (hr.mono (by decide)) (errTk tk) .nil (fun _ => .nil) (da_cons (de_var 0 (pv 0)) (da_cons (de_c pe_int (fun _ => .int _)) da_nil)))) (dx_o (df_lst da_nil) dx_nil)))
  (ds_cons (ds_for hp (by rfl) (di_rg1 T.n_range (da_cons (de_var 1 (pv 1)) da_nil)) (dg_name (pg_name (i := 4) sc_law_values.nd rfl (Or.inl rfl)))
  (ds_cons (ds_set (fun te he => ps_set (i := 2) sc_law_values.nd rfl (Or.inl rfl) he) (de_add (de_var 2 (pv 2)) (de_callN T.law_pick T.b_law_pick (ok_law_pick T) (hr.mono (by decide)) (errTk tk) .nil (fun _ => .nil) (da_cons (de_var 0 (pv 0)) (da_cons (de_lst (da_cons (de_c pe_int (fun _ => .int _)) (da_cons (de_c pe_int (fun _ => .int _)) (da_cons (de_c pe_int (fun _ => .int _)) (da_cons (de_add (de_c pe_int (fun _ => .int _)) (de_callN T.law_draw T.b_law_draw (ok_law_draw T) (hr.mono (by decide)) (errTk tk) .nil (fun _ => .nil) (da_cons (de_var 0 (pv 0)) (da_cons (de_c pe_int (fun _ => .int _)) da_nil)))) (da_cons (de_pow (de_c pe_int (fun _ => .int _)) (de_c pe_int (fun _ => .int _))) da_nil)))))) da_nil)))))
  (ds_one (ds_expr (de_mut PySem.F.slot_list_append PySem.F.type_list_append mt_append mutD_app (pv 3) (da_cons (de_var 2 (pv 2)) da_nil))))))
  (ds_one (ds_ret (de_var 3 (pv 3))))))
theorem ok_law_values (T : Txt P w K mg) : FnG P w K mg base 3 (My.fa mg "_law_values") (fdOf K (My.fa mg "_law_values")) ["_law_pen_here", "_law_many"] (spD ⟨K, w, mg⟩ (some 0) 2 fn_law_values) := fn_body (some 0) T.law_values.F sc_law_values (by decide) (bd_law_values T)

def b_law_grown (rec : List D → FOut) : SM := (dSeq (dIf (dT2 eqD (dVar 1) (dLst dNil))
  (dRet (dC .non))
  dNx)
  (dSeq (dSet 2 (dCall true (some 0) 2 [] fn_law_draw (dCons (dVar 0) (dCons (dN (one1 lenD) (dCons (dVar 1) dNil)) dNil))))
  (dRet (dTup (dCons (dCall true (some 0) 2 [] rec (dCons (dVar 0) (dCons (dSl (dVar 1) pNone (pSome (dVar 2))) dNil))) (dCons (d2 ixD (dVar 1) (dVar 2)) (dCons (dCall true (some 0) 2 [] rec (dCons (dVar 0) (dCons (dSl (dVar 1) (pSome (d2 addD (dVar 2) (dC (.int 1)))) pNone) dNil))) dNil)))))))
def fn_law_grown : Nat → List D → FOut
  | 0 => fun _ => .bad
  | n + 1 => runF (some 0) 3 2 (b_law_grown (fn_law_grown n))
theorem bd_law_grown (T : Txt P w K mg) {n : Nat} {rec : List D → FOut} (hrec : FnG P w K mg base (1 + n) (My.fa mg "_law_grown") (fdOf K (My.fa mg "_law_grown")) ["_law_pen_here", "_law_values_here"] (spD ⟨K, w, mg⟩ (some 0) 2 rec)) : Bdy P w K mg base ["_law_pen_here", "_law_values_here", "_law_at"] "_law_grown" s_law_grown (My.fa mg "_law_grown") (1 + n) (b_law_grown rec) := fun cdv A outer s H E hr tk hp => (ds_cons (ds_if (dt_eq hr (de_var 1 (pv 1)) (de_lst da_nil))
  (ds_one (ds_ret (de_c pe_non (fun _ => .non))))
  ds_nil)
  (ds_cons (ds_set (fun te he => ps_set (i := 2) sc_law_grown.nd rfl (Or.inl rfl) he) (de_callN T.law_draw T.b_law_draw (ok_law_draw T) (hr.mono (by omega)) (errTk tk) .nil (fun _ => .nil) (da_cons (de_var 0 (pv 0)) (da_cons (de_len T.n_len (da_cons (de_var 1 (pv 1)) da_nil)) da_nil))))
  (ds_one (ds_ret (de_tup (da_cons (de_callN T.law_grown T.b_law_grown hrec hr (errTk tk) .nil (fun _ => .nil) (da_cons (de_var 0 (pv 0)) (da_cons (de_slice (de_var 1 (pv 1)) do_none (do_some (de_var 2 (pv 2)))) da_nil))) (da_cons (de_ix hr (de_var 1 (pv 1)) (de_var 2 (pv 2))) (da_cons (de_callN T.law_grown T.b_law_grown hrec hr (errTk tk) .nil (fun _ => .nil) (da_cons (de_var 0 (pv 0)) (da_cons (de_slice (de_var 1 (pv 1)) (do_some (de_add (de_var 2 (pv 2)) (de_c pe_int (fun _ => .int _)))) do_none) da_nil))) da_nil))))))))
theorem ok_law_grown (T : Txt P w K mg) : ∀ n, FnG P w K mg base (1 + n) (My.fa mg "_law_grown") (fdOf K (My.fa mg "_law_grown")) ["_law_pen_here", "_law_values_here"] (spD ⟨K, w, mg⟩ (some 0) 2 (fn_law_grown n))
  | 0 => fn_bad
  | n + 1 => fn_body (some 0) T.law_grown.F sc_law_grown (by decide) (bd_law_grown T (ok_law_grown T n))

def l0_law_down : SM := (dSet 0 (dIfE (dT2 (isN false) (dVar 0) (dC .non)) (dC .non) (dIfE (dT2 eqD (dVar 2) (dC (.str "l"))) (d2 ixD (dVar 0) (dC (.int 0))) (d2 ixD (dVar 0) (dC (.int 2))))))
def b_law_down : SM := (dSeq (dFor (dItA (dVar 1)) (gN 2)
  l0_law_down)
  (dRet (dVar 0)))
def fn_law_down : List D → FOut := runF none 3 2 b_law_down
theorem bd_law_down (T : Txt P w K mg) : Bdy P w K mg base ["_law_told", "_law_place", "_law_letter"] "_law_down" s_law_down (My.fa mg "_law_down") 0 b_law_down := fun cdv A outer s H E hr tk hp => (ds_cons (ds_for hp (by rfl) (di_any (de_var 1 (pv 1))) (dg_name (pg_name (i := 2) sc_law_down.nd rfl (Or.inl rfl)))
  (ds_one (ds_set (fun te he => ps_set (i := 0) sc_law_down.nd rfl (Or.inl rfl) he) (de_if (dt_is (de_var 0 (pv 0)) (de_c pe_non (fun _ => .non))) (de_c pe_non (fun _ => .non)) (de_if (dt_eq hr (de_var 2 (pv 2)) (de_c pe_str (fun _ => .str _))) (de_ix hr (de_var 0 (pv 0)) (de_c pe_int (fun _ => .int _))) (de_ix hr (de_var 0 (pv 0)) (de_c pe_int (fun _ => .int _))))))))
  (ds_one (ds_ret (de_var 0 (pv 0)))))
theorem ok_law_down (T : Txt P w K mg) : FnG P w K mg base 1 (My.fa mg "_law_down") (fdOf K (My.fa mg "_law_down")) ["_law_told", "_law_place"] (spD ⟨K, w, mg⟩ none 2 fn_law_down) := fn_body none T.law_down.F sc_law_down (by decide) (bd_law_down T)

def b_law_spots (rec : List D → FOut) : SM := (dSeq (dSet 2 (dCall true none 2 [] fn_law_down (dCons (dVar 0) (dCons (dVar 1) dNil))))
  (dSeq (dIf (dT2 (isN false) (dVar 2) (dC .non))
  (dRet (dLst dNil))
  dNx)
  (dRet (d2 addD (d2 addD (dCall true none 2 [] rec (dCons (dVar 0) (dCons (d2 addD (dVar 1) (dC (.str "l"))) dNil))) (dLst (dCons (dVar 1) dNil))) (dCall true none 2 [] rec (dCons (dVar 0) (dCons (d2 addD (dVar 1) (dC (.str "r"))) dNil)))))))
def fn_law_spots : Nat → List D → FOut
  | 0 => fun _ => .bad
  | n + 1 => runF none 3 2 (b_law_spots (fn_law_spots n))
theorem bd_law_spots (T : Txt P w K mg) {n : Nat} {rec : List D → FOut} (hrec : FnG P w K mg base (1 + n) (My.fa mg "_law_spots") (fdOf K (My.fa mg "_law_spots")) ["_law_told", "_law_place"] (spD ⟨K, w, mg⟩ none 2 rec)) : Bdy P w K mg base ["_law_told", "_law_place", "_law_part"] "_law_spots" s_law_spots (My.fa mg "_law_spots") (1 + n) (b_law_spots rec) := fun cdv A outer s H E hr tk hp => (ds_cons (ds_set (fun te he => ps_set (i := 2) sc_law_spots.nd rfl (Or.inl rfl) he) (de_callN T.law_down T.b_law_down (ok_law_down T) (hr.mono (by omega)) (errTk tk) .nil (fun _ => .nil) (da_cons (de_var 0 (pv 0)) (da_cons (de_var 1 (pv 1)) da_nil))))
  (ds_cons (ds_if (dt_is (de_var 2 (pv 2)) (de_c pe_non (fun _ => .non)))
  (ds_one (ds_ret (de_lst da_nil)))
  ds_nil)
  (ds_one (ds_ret (de_add (de_add (de_callN T.law_spots T.b_law_spots hrec hr (errTk tk) .nil (fun _ => .nil) (da_cons (de_var 0 (pv 0)) (da_cons (de_add (de_var 1 (pv 1)) (de_c pe_str (fun _ => .str _))) da_nil))) (de_lst (da_cons (de_var 1 (pv 1)) da_nil))) (de_callN T.law_spots T.b_law_spots hrec hr (errTk tk) .nil (fun _ => .nil) (da_cons (de_var 0 (pv 0)) (da_cons (de_add (de_var 1 (pv 1)) (de_c pe_str (fun _ => .str _))) da_nil))))))))
theorem ok_law_spots (T : Txt P w K mg) : ∀ n, FnG P w K mg base (1 + n) (My.fa mg "_law_spots") (fdOf K (My.fa mg "_law_spots")) ["_law_told", "_law_place"] (spD ⟨K, w, mg⟩ none 2 (fn_law_spots n))
  | 0 => fn_bad
  | n + 1 => fn_body none T.law_spots.F sc_law_spots (by decide) (bd_law_spots T (ok_law_spots T n))

def c0_law_shuffled : M Bool := (dT2 neW (dVar 2) (dLst dNil))
def l1_law_shuffled : SM := (dDrop (dMut 3 appD (dCons (dMut 2 popAtD (dCons (dCall true (some 0) 2 [] fn_law_draw (dCons (dVar 0) (dCons (dN (one1 lenD) (dCons (dVar 2) dNil)) dNil))) dNil)) dNil)))
def b_law_shuffled : SM := (dSeq (dPar [2, 3] (xO (dListF (dVar 1)) (xO (dLstF dNil) xNil)))
  (dSeq (dWhile (fun _ => 100000) c0_law_shuffled
  l1_law_shuffled)
  (dRet (dVar 3))))
def fn_law_shuffled : List D → FOut := runF (some 0) 4 2 b_law_shuffled
theorem bd_law_shuffled (T : Txt P w K mg) : Bdy P w K mg base ["_law_pen_here", "_law_items", "_law_left", "_law_found"] "_law_shuffled" s_law_shuffled (My.fa mg "_law_shuffled") 1 b_law_shuffled := fun cdv A outer s H E hr tk hp => (ds_cons (ds_par2 (fun ta ha => ps_par (by rfl) sc_law_shuffled.nd (i := 2) (j := 3) rfl rfl (by decide) rfl rfl ha (by rfl)) (dx_o (df_list T.n_list (de_var 1 (pv 1))) (dx_o (df_lst da_nil) dx_nil)))
  (ds_cons (ds_while (fun _ => 100000) hp (dt_neW hr (de_var 2 (pv 2)) (de_lst da_nil))
  (ds_one (ds_expr (de_mut PySem.F.slot_list_append PySem.F.type_list_append mt_append mutD_app (pv 3) (da_cons (de_mut PySem.F.slot_list_pop PySem.F.type_list_pop mt_popAt mutD_popAt (pv 2) (da_cons (de_callN T.law_draw T.b_law_draw (ok_law_draw T) (hr.mono (by decide)) (errTk tk) .nil (fun _ => .nil) (da_cons (de_var 0 (pv 0)) (da_cons (de_len T.n_len (da_cons (de_var 2 (pv 2)) da_nil)) da_nil))) da_nil)) da_nil)))))
  (ds_one (ds_ret (de_var 3 (pv 3))))))
theorem ok_law_shuffled (T : Txt P w K mg) : FnG P w K mg base 2 (My.fa mg "_law_shuffled") (fdOf K (My.fa mg "_law_shuffled")) ["_law_pen_here", "_law_items"] (spD ⟨K, w, mg⟩ (some 0) 2 fn_law_shuffled) := fn_body (some 0) T.law_shuffled.F sc_law_shuffled (by decide) (bd_law_shuffled T)

def b_law_odd_results : SM := (dSeq (dSet 2 (dCall true none 2 [] (fn_law_spots 16) (dCons (dVar 1) (dCons (dC (.str "")) dNil))))
  (dSeq (dSet 3 (dIfE (dT2 neD (dVar 2) (dLst dNil)) (dCall true (some 0) 2 [] fn_law_pick (dCons (dVar 0) (dCons (dVar 2) dNil))) (dC (.str ""))))
  (dSeq (dSet 4 (dCall true (some 0) 2 [] fn_law_pick (dCons (dVar 0) (dCons (dLst (dCons (d2 addD (dVar 3) (dC (.str "l"))) (dCons (d2 addD (dVar 3) (dC (.str "r"))) (dCons (d2 addD (dVar 3) (dC (.str "lrl"))) (dCons (dC (.str "x")) (dCons (dC (.str "L")) (dCons (dC (.str " ")) (dCons (dC .non) (dCons (dC (.int 0)) (dCons (dC (.bl true)) (dCons (dLst dNil) (dCons (dFr dNewK) (dCons (dTup (dCons (dC (.str "l")) dNil)) (dCons (dLst (dCons (dC (.str "l")) dNil)) dNil)))))))))))))) dNil))))
  (dSeq (dSet 5 (dCall true (some 0) 2 [] fn_law_pick (dCons (dVar 0) (dCons (dLst (dCons (dC (.str "left")) (dCons (dC (.str "right")) (dCons (dC (.str "l")) (dCons (dC (.str "r")) (dCons (dC (.str "up")) (dCons (dC .non) (dCons (dC (.int 1)) (dCons (dLst dNil) (dCons (dC (.str "")) dNil)))))))))) dNil))))
  (dSeq (dSetO 6 (dLstF (dCons (dTup (dCons (dC (.str "none")) (dCons (dVar 3) dNil))) (dCons (dTup dNil) (dCons (dC .non) (dCons (dC (.str "none")) (dCons (dC (.int 5)) (dCons (dLst (dCons (dC (.str "none")) dNil)) (dCons (dFr dNewK) (dCons (dTup (dCons (dC (.str "place")) dNil)) (dCons (dTup (dCons (dC (.str "place")) (dCons (dVar 4) dNil))) (dCons (dTup (dCons (dC (.str "place")) (dCons (dVar 3) (dCons (dVar 3) dNil)))) dNil))))))))))))
  (dSeq (dSet 6 (d2 addD (dVar 6) (dLst (dCons (dTup (dCons (dC (.str "attach")) (dCons (dVar 3) dNil))) (dCons (dTup (dCons (dC (.str "attach")) (dCons (dVar 4) (dCons (dC (.str "left")) dNil)))) (dCons (dTup (dCons (dC (.str "attach")) (dCons (dVar 3) (dCons (dVar 5) dNil)))) (dCons (dTup (dCons (dC (.str "attach")) (dCons (dVar 3) (dCons (dC (.str "left")) (dCons (dC (.int 5)) dNil))))) dNil)))))))
  (dSeq (dSetO 6 (d2F catF (dVar 6) (dLst (dCons (dTup (dCons (dC (.str "plant")) (dCons (dVar 3) dNil))) (dCons (dTup (dCons (dC (.str "plant")) dNil)) (dCons (dTup (dCons (dC (.str "cut")) dNil)) (dCons (dTup (dCons (dC (.str "cut")) (dCons (dVar 4) dNil))) (dCons (dTup (dCons (dC (.str "cut")) (dCons (dVar 3) dNil))) (dCons (dLst (dCons (dC (.str "cut")) (dCons (dVar 3) dNil))) dNil)))))))))
  (dSeq (dDrop (dMut 6 appD (dCons (dTup (dCons (dC (.str "cut")) (dCons (dLst (dCons (dVar 3) dNil)) dNil))) dNil)))
  (dSeq (dSet 6 (d2 addD (dVar 6) (dLst (dCons (dTup (dCons (dC (.str "replace")) (dCons (dVar 3) dNil))) (dCons (dTup (dCons (dC (.str "replace")) (dCons (dVar 4) (dCons (dVar 3) dNil)))) (dCons (dTup (dCons (dC (.str "replace")) (dCons (dVar 3) (dCons (dVar 4) dNil)))) (dCons (dTup (dCons (dC (.str "replace")) (dCons (dVar 3) (dCons (dVar 3) dNil)))) dNil)))))))
  (dSeq (dSet 6 (d2 addD (dVar 6) (dLst (dCons (dTup (dCons (dC (.str "node")) dNil)) (dCons (dTup (dCons (dC (.str "p")) dNil)) (dCons (dTup (dCons (dC .non) dNil)) (dCons (dTup (dCons (dLst dNil) dNil)) (dCons (dTup (dCons (dC (.str "turn")) (dCons (dVar 3) dNil))) (dCons (dTup (dCons (dC (.str "attach")) (dCons (dVar 3) (dCons (dC (.str "right")) dNil)))) (dCons (dTup (dCons (dC (.str "NONE")) dNil)) dNil))))))))))
  (dRet (dCall true (some 0) 2 [] fn_law_shuffled (dCons (dVar 0) (dCons (dVar 6) dNil))))))))))))))
def fn_law_odd_results : List D → FOut := runF (some 0) 7 2 b_law_odd_results
theorem bd_law_odd_results (T : Txt P w K mg) : Bdy P w K mg base ["_law_pen_here", "_law_told", "_law_places", "_law_place", "_law_far", "_law_side", "_law_found"] "_law_odd_results" s_law_odd_results (My.fa mg "_law_odd_results") 17 b_law_odd_results := fun cdv A outer s H E hr tk hp => (ds_cons (ds_set (fun te he => ps_set (i := 2) sc_law_odd_results.nd rfl (Or.inl rfl) he) (de_callN T.law_spots T.b_law_spots (ok_law_spots T 16) (hr.mono (by decide)) (errTk tk) .nil (fun _ => .nil) (da_cons (de_var 1 (pv 1)) (da_cons (de_c pe_str (fun _ => .str _)) da_nil))))
  (ds_cons (ds_set (fun te he => ps_set (i := 3) sc_law_odd_results.nd rfl (Or.inl rfl) he) (de_if (dt_ne hr (de_var 2 (pv 2)) (de_lst da_nil)) (de_callN T.law_pick T.b_law_pick (ok_law_pick T) (hr.mono (by decide)) (errTk tk) .nil (fun _ => .nil) (da_cons (de_var 0 (pv 0)) (da_cons (de_var 2 (pv 2)) da_nil))) (de_c pe_str (fun _ => .str _))))
  (ds_cons (ds_set (fun te he => ps_set (i := 4) sc_law_odd_results.nd rfl (Or.inl rfl) he) (de_callN T.law_pick T.b_law_pick (ok_law_pick T) (hr.mono (by decide)) (errTk tk) .nil (fun _ => .nil) (da_cons (de_var 0 (pv 0)) (da_cons (de_lst (da_cons (de_add (de_var 3 (pv 3)) (de_c pe_str (fun _ => .str _))) (da_cons (de_add (de_var 3 (pv 3)) (de_c pe_str (fun _ => .str _))) (da_cons (de_add (de_var 3 (pv 3)) (de_c pe_str (fun _ => .str _))) (da_cons (de_c pe_str (fun _ => .str _)) (da_cons (de_c pe_str (fun _ => .str _)) (da_cons (de_c pe_str (fun _ => .str _)) (da_cons (de_c pe_non (fun _ => .non)) (da_cons (de_c pe_int (fun _ => .int _)) (da_cons (de_c pe_bl (fun _ => .bl _)) (da_cons (de_lst da_nil) (da_cons (DF.de df_newK) (da_cons (de_tup (da_cons (de_c pe_str (fun _ => .str _)) da_nil)) (da_cons (de_lst (da_cons (de_c pe_str (fun _ => .str _)) da_nil)) da_nil)))))))))))))) da_nil))))
  (ds_cons (ds_set (fun te he => ps_set (i := 5) sc_law_odd_results.nd rfl (Or.inl rfl) he) (de_callN T.law_pick T.b_law_pick (ok_law_pick T) (hr.mono (by decide)) (errTk tk) .nil (fun _ => .nil) (da_cons (de_var 0 (pv 0)) (da_cons (de_lst (da_cons (de_c pe_str (fun _ => .str _)) (da_cons (de_c pe_str (fun _ => .str _)) (da_cons (de_c pe_str (fun _ => .str _)) (da_cons (de_c pe_str (fun _ => .str _)) (da_cons (de_c pe_str (fun _ => .str _)) (da_cons (de_c pe_non (fun _ => .non)) (da_cons (de_c pe_int (fun _ => .int _)) (da_cons (de_lst da_nil) (da_cons (de_c pe_str (fun _ => .str _)) da_nil)))))))))) da_nil))))
  (ds_cons (ds_setO (fun te he => ps_set (i := 6) sc_law_odd_results.nd rfl (Or.inl rfl) he) (df_lst (da_cons (de_tup (da_cons (de_c pe_str (fun _ => .str _)) (da_cons (de_var 3 (pv 3)) da_nil))) (da_cons (de_tup da_nil) (da_cons (de_c pe_non (fun _ => .non)) (da_cons (de_c pe_str (fun _ => .str _)) (da_cons (de_c pe_int (fun _ => .int _)) (da_cons (de_lst (da_cons (de_c pe_str (fun _ => .str _)) da_nil)) (da_cons (DF.de df_newK) (da_cons (de_tup (da_cons (de_c pe_str (fun _ => .str _)) da_nil)) (da_cons (de_tup (da_cons (de_c pe_str (fun _ => .str _)) (da_cons (de_var 4 (pv 4)) da_nil))) (da_cons (de_tup (da_cons (de_c pe_str (fun _ => .str _)) (da_cons (de_var 3 (pv 3)) (da_cons (de_var 3 (pv 3)) da_nil)))) da_nil))))))))))))
  (ds_cons (ds_set (fun te he => ps_set (i := 6) sc_law_odd_results.nd rfl (Or.inl rfl) he) (de_add (de_var 6 (pv 6)) (de_lst (da_cons (de_tup (da_cons (de_c pe_str (fun _ => .str _)) (da_cons (de_var 3 (pv 3)) da_nil))) (da_cons (de_tup (da_cons (de_c pe_str (fun _ => .str _)) (da_cons (de_var 4 (pv 4)) (da_cons (de_c pe_str (fun _ => .str _)) da_nil)))) (da_cons (de_tup (da_cons (de_c pe_str (fun _ => .str _)) (da_cons (de_var 3 (pv 3)) (da_cons (de_var 5 (pv 5)) da_nil)))) (da_cons (de_tup (da_cons (de_c pe_str (fun _ => .str _)) (da_cons (de_var 3 (pv 3)) (da_cons (de_c pe_str (fun _ => .str _)) (da_cons (de_c pe_int (fun _ => .int _)) da_nil))))) da_nil)))))))
  (ds_cons (ds_setO (fun te he => ps_set (i := 6) sc_law_odd_results.nd rfl (Or.inl rfl) he) (df_cat (de_var 6 (pv 6)) (de_lst (da_cons (de_tup (da_cons (de_c pe_str (fun _ => .str _)) (da_cons (de_var 3 (pv 3)) da_nil))) (da_cons (de_tup (da_cons (de_c pe_str (fun _ => .str _)) da_nil)) (da_cons (de_tup (da_cons (de_c pe_str (fun _ => .str _)) da_nil)) (da_cons (de_tup (da_cons (de_c pe_str (fun _ => .str _)) (da_cons (de_var 4 (pv 4)) da_nil))) (da_cons (de_tup (da_cons (de_c pe_str (fun _ => .str _)) (da_cons (de_var 3 (pv 3)) da_nil))) (da_cons (de_lst (da_cons (de_c pe_str (fun _ => .str _)) (da_cons (de_var 3 (pv 3)) da_nil))) da_nil)))))))))
  (ds_cons (ds_expr (de_mut PySem.F.slot_list_append PySem.F.type_list_append mt_append mutD_app (pv 6) (da_cons (de_tup (da_cons (de_c pe_str (fun _ => .str _)) (da_cons (de_lst (da_cons (de_var 3 (pv 3)) da_nil)) da_nil))) da_nil)))
  (ds_cons (ds_set (fun te he => ps_set (i := 6) sc_law_odd_results.nd rfl (Or.inl rfl) he) (de_add (de_var 6 (pv 6)) (de_lst (da_cons (de_tup (da_cons (de_c pe_str (fun _ => .str _)) (da_cons (de_var 3 (pv 3)) da_nil))) (da_cons (de_tup (da_cons (de_c pe_str (fun _ => .str _)) (da_cons (de_var 4 (pv 4)) (da_cons (de_var 3 (pv 3)) da_nil)))) (da_cons (de_tup (da_cons (de_c pe_str (fun _ => .str _)) (da_cons (de_var 3 (pv 3)) (da_cons (de_var 4 (pv 4)) da_nil)))) (da_cons (de_tup (da_cons (de_c pe_str (fun _ => .str _)) (da_cons (de_var 3 (pv 3)) (da_cons (de_var 3 (pv 3)) da_nil)))) da_nil)))))))
  (ds_cons (ds_set (fun te he => ps_set (i := 6) sc_law_odd_results.nd rfl (Or.inl rfl) he) (de_add (de_var 6 (pv 6)) (de_lst (da_cons (de_tup (da_cons (de_c pe_str (fun _ => .str _)) da_nil)) (da_cons (de_tup (da_cons (de_c pe_str (fun _ => .str _)) da_nil)) (da_cons (de_tup (da_cons (de_c pe_non (fun _ => .non)) da_nil)) (da_cons (de_tup (da_cons (de_lst da_nil) da_nil)) (da_cons (de_tup (da_cons (de_c pe_str (fun _ => .str _)) (da_cons (de_var 3 (pv 3)) da_nil))) (da_cons (de_tup (da_cons (de_c pe_str (fun _ => .str _)) (da_cons (de_var 3 (pv 3)) (da_cons (de_c pe_str (fun _ => .str _)) da_nil)))) (da_cons (de_tup (da_cons (de_c pe_str (fun _ => .str _)) da_nil)) da_nil))))))))))
  (ds_one (ds_ret (de_callN T.law_shuffled T.b_law_shuffled (ok_law_shuffled T) (hr.mono (by decide)) (errTk tk) .nil (fun _ => .nil) (da_cons (de_var 0 (pv 0)) (da_cons (de_var 6 (pv 6)) da_nil)))))))))))))))
theorem ok_law_odd_results (T : Txt P w K mg) : FnG P w K mg base 18 (My.fa mg "_law_odd_results") (fdOf K (My.fa mg "_law_odd_results")) ["_law_pen_here", "_law_told"] (spD ⟨K, w, mg⟩ (some 0) 2 fn_law_odd_results) := fn_body (some 0) T.law_odd_results.F sc_law_odd_results (by decide) (bd_law_odd_results T)

def b_is_row : SM := (dRet (dAndV (d1 (isG gRow ((["Tree"] : List Str).map fun c => (c, false))) (dVar 0)) (d2 eqD (dN (one1 lenD) (dCons (dVar 0) dNil)) (dVar 1))))
def fn_is_row : List D → FOut := runF none 2 2 b_is_row
theorem bd_is_row (T : Txt P w K mg) : Bdy P w K mg base ["value", "size"] "is_row" s_is_row (My.fa mg "is_row") 0 b_is_row := fun cdv A outer s H E hr tk hp => (ds_one (ds_ret (de_and (de_isRow (cs := ["Tree"]) T.ins T.n_isinstance T.n_tuple T.n_list (de_var 0 (pv 0))) (de_one (de_eq hr (de_len T.n_len (da_cons (de_var 0 (pv 0)) da_nil)) (de_var 1 (pv 1)))))))
theorem ok_is_row (T : Txt P w K mg) : FnG P w K mg base 1 (My.fa mg "is_row") (fdOf K (My.fa mg "is_row")) ["value", "size"] (spD ⟨K, w, mg⟩ none 2 fn_is_row) := fn_body none T.is_row.F sc_is_row (by decide) (bd_is_row T)

def b_is_integer : SM := (dRet (dAndV (d1 (isG gInt ((["Tree"] : List Str).map fun c => (c, false))) (dVar 0)) (d1 notD (d1 (isG gBool ((["Tree"] : List Str).map fun c => (c, false))) (dVar 0)))))
def fn_is_integer : List D → FOut := runF none 1 1 b_is_integer
theorem bd_is_integer (T : Txt P w K mg) : Bdy P w K mg base ["value"] "is_integer" s_is_integer (My.fa mg "is_integer") 0 b_is_integer := fun cdv A outer s H E hr tk hp => (ds_one (ds_ret (de_and (de_isInt (cs := ["Tree"]) T.ins T.n_isinstance T.n_int (de_var 0 (pv 0))) (de_one (de_not (de_isBool (cs := ["Tree"]) T.ins T.n_isinstance T.n_bool (de_var 0 (pv 0))))))))
theorem ok_is_integer (T : Txt P w K mg) : FnG P w K mg base 1 (My.fa mg "is_integer") (fdOf K (My.fa mg "is_integer")) ["value"] (spD ⟨K, w, mg⟩ none 1 fn_is_integer) := fn_body none T.is_integer.F sc_is_integer (by decide) (bd_is_integer T)

def c0_spots_of : M Bool := (dT2 ltD (dVar 3) (dN (one1 lenD) (dCons (dVar 2) dNil)))
def l1_spots_of : SM := (dSeq (dAsg (d2 ixD (dVar 2) (dVar 3)) (gT 2 (gsCons (gN 4) (gsCons (gN 5) gsNil))))
  (dSeq (dAug 3 addI (dC (.int 1)))
  (dSeq (dIf (dT2 (isN false) (dVar 5) (dC .non))
  dCt
  dNx)
  (dSeq (dIf (dOr (dNot (dB (dCall true none 2 [] fn_is_row (dCons (dVar 5) (dCons (dC (.int 3)) dNil))))) (dNot (dB (dCall true none 1 [] fn_is_integer (dCons (d2 ixD (dVar 5) (dC (.int 1))) dNil)))))
  (dRet (dTup (dCons (dVar 1) (dCons (dVar 4) dNil))))
  dNx)
  (dSeq (dPut 1 (dVar 4) (d2 ixD (dVar 5) (dC (.int 1))))
  (dSeq (dDrop (dMut 2 appD (dCons (dTup (dCons (d2 addD (dVar 4) (dC (.str "l"))) (dCons (d2 ixD (dVar 5) (dC (.int 0))) dNil))) dNil)))
  (dDrop (dMut 2 appD (dCons (dTup (dCons (d2 addD (dVar 4) (dC (.str "r"))) (dCons (d2 ixD (dVar 5) (dC (.int 2))) dNil))) dNil)))))))))
def b_spots_of : SM := (dSeq (dPar [1, 2, 3] (xO dNewK (xO (dLstF (dCons (dTup (dCons (dC (.str "")) (dCons (dVar 0) dNil))) dNil)) (xV (dC (.int 0)) xNil))))
  (dSeq (dWhile (fun _ => 100000) c0_spots_of
  l1_spots_of)
  (dRet (dTup (dCons (dVar 1) (dCons (dC .non) dNil))))))
def fn_spots_of : List D → FOut := runF none 6 1 b_spots_of
theorem bd_spots_of (T : Txt P w K mg) : Bdy P w K mg base ["told", "found", "waiting", "at", "place", "here"] "spots_of" s_spots_of (My.fa mg "spots_of") 1 b_spots_of := fun cdv A outer s H E hr tk hp => (ds_cons (ds_par3 (fun ta ha => ps_par3 (by rfl) sc_spots_of.nd (i := 1) (j := 2) (l := 3) rfl rfl rfl (by decide) (by decide) (by decide) rfl rfl rfl ha (by rfl)) (dx_o df_newK (dx_o (df_lst (da_cons (de_tup (da_cons (de_c pe_str (fun _ => .str _)) (da_cons (de_var 0 (pv 0)) da_nil))) da_nil)) (dx_v (de_c pe_int (fun _ => .int _)) dx_nil))))
  (ds_cons (ds_while (fun _ => 100000) hp (dt_lt (de_var 3 (pv 3)) (de_len T.n_len (da_cons (de_var 2 (pv 2)) da_nil)))
  (ds_cons (ds_asg (de_ix hr (de_var 2 (pv 2)) (de_var 3 (pv 3))) (dg_tup (by rfl) (dgs_cons (dg_name (pg_name (i := 4) sc_spots_of.nd rfl (Or.inl rfl))) (dgs_cons (dg_name (pg_name (i := 5) sc_spots_of.nd rfl (Or.inl rfl))) dgs_nil))))
  (ds_cons (ds_augAdd (fun te he => ps_aug (i := 3) sc_spots_of.nd rfl (Or.inl rfl) he ip_add) (de_c pe_int (fun _ => .int _)))
  (ds_cons (ds_if (dt_is (de_var 5 (pv 5)) (de_c pe_non (fun _ => .non)))
  (ds_one ds_ct)
  ds_nil)
  (ds_cons (ds_if (PW.pt (dw_or (dt_not (dt_b (de_callN T.is_row T.b_is_row (ok_is_row T) (hr.mono (by decide)) (errTk tk) .nil (fun _ => .nil) (da_cons (de_var 5 (pv 5)) (da_cons (de_c pe_int (fun _ => .int _)) da_nil))))) (dw_or1 (dt_not (dt_b (de_callN T.is_integer T.b_is_integer (ok_is_integer T) (hr.mono (by decide)) (errTk tk) .nil (fun _ => .nil) (da_cons (de_ix hr (de_var 5 (pv 5)) (de_c pe_int (fun _ => .int _))) da_nil)))))))
  (ds_one (ds_ret (de_tup (da_cons (de_var 1 (pv 1)) (da_cons (de_var 4 (pv 4)) da_nil)))))
  ds_nil)
  (ds_cons (ds_put hr (pv 1) (de_var 4 (pv 4)) (de_ix hr (de_var 5 (pv 5)) (de_c pe_int (fun _ => .int _))))
  (ds_cons (ds_expr (de_mut PySem.F.slot_list_append PySem.F.type_list_append mt_append mutD_app (pv 2) (da_cons (de_tup (da_cons (de_add (de_var 4 (pv 4)) (de_c pe_str (fun _ => .str _))) (da_cons (de_ix hr (de_var 5 (pv 5)) (de_c pe_int (fun _ => .int _))) da_nil))) da_nil)))
  (ds_one (ds_expr (de_mut PySem.F.slot_list_append PySem.F.type_list_append mt_append mutD_app (pv 2) (da_cons (de_tup (da_cons (de_add (de_var 4 (pv 4)) (de_c pe_str (fun _ => .str _))) (da_cons (de_ix hr (de_var 5 (pv 5)) (de_c pe_int (fun _ => .int _))) da_nil))) da_nil)))))))))))
  (ds_one (ds_ret (de_tup (da_cons (de_var 1 (pv 1)) (da_cons (de_c pe_non (fun _ => .non)) da_nil)))))))
theorem ok_spots_of (T : Txt P w K mg) : FnG P w K mg base 2 (My.fa mg "spots_of") (fdOf K (My.fa mg "spots_of")) ["told"] (spD ⟨K, w, mg⟩ none 1 fn_spots_of) := fn_body none T.spots_of.F sc_spots_of (by decide) (bd_spots_of T)

def b_in_order : SM := (dRet (dFr (dSrt false (fFn fnRank) (dVar 0))))
def fn_in_order : List D → FOut := runF none 1 1 b_in_order
theorem bd_in_order (T : Txt P w K mg) : Bdy P w K mg base ["spots"] "in_order" s_in_order (My.fa mg "in_order") 3 b_in_order := fun cdv A outer s H E hr tk hp => (ds_one (ds_ret (DF.de (df_srt (pe_srtK (ks := ["key"]) (by rfl) (keyF_fn T.b_rank_text (ok_rank_text T) (hr.mono (by decide)) rfl) (pkf_cons (pf_glob (by rfl) T.rank_text.g) pkf_nil) (fun x => PyProof.Rows.ksk_t1 _ x) (fun _ => PyProof.Rows.ksk_s1 _ _) (fun _ => PyProof.Rows.ksk_l1 _ _) T.n_sorted (de_var 0 (pv 0))) keyD_fn))))
theorem ok_in_order (T : Txt P w K mg) : FnG P w K mg base 4 (My.fa mg "in_order") (fdOf K (My.fa mg "in_order")) ["spots"] (spD ⟨K, w, mg⟩ none 1 fn_in_order) := fn_body none T.in_order.F sc_in_order (by decide) (bd_in_order T)

def l0_first_fall : SM := (dSeq (dIf (dAnd (dT2 (isN true) (dVar 1) (dC .non)) (dT2 leD (d2 ixD (dVar 0) (dVar 2)) (dVar 1)))
  (dRet (dVar 2))
  dNx)
  (dSet 1 (d2 ixD (dVar 0) (dVar 2))))
def b_first_fall : SM := (dSeq (dSet 1 (dC .non))
  (dSeq (dFor (dItA (dCall true none 1 [] fn_in_order (dCons (dVar 0) dNil))) (gN 2)
  l0_first_fall)
  (dRet (dC .non))))
def fn_first_fall : List D → FOut := runF none 3 1 b_first_fall
theorem bd_first_fall (T : Txt P w K mg) : Bdy P w K mg base ["spots", "last", "place"] "first_fall" s_first_fall (My.fa mg "first_fall") 4 b_first_fall := fun cdv A outer s H E hr tk hp => (ds_cons (ds_set (fun te he => ps_set (i := 1) sc_first_fall.nd rfl (Or.inl rfl) he) (de_c pe_non (fun _ => .non)))
  (ds_cons (ds_for hp (by rfl) (di_any (de_callN T.in_order T.b_in_order (ok_in_order T) (hr.mono (by decide)) (errTk tk) .nil (fun _ => .nil) (da_cons (de_var 0 (pv 0)) da_nil))) (dg_name (pg_name (i := 2) sc_first_fall.nd rfl (Or.inl rfl)))
  (ds_cons (ds_if (PW.pt (dw_and (dt_isnt (de_var 1 (pv 1)) (de_c pe_non (fun _ => .non))) (dw_and1 (dt_le (de_ix hr (de_var 0 (pv 0)) (de_var 2 (pv 2))) (de_var 1 (pv 1))))))
  (ds_one (ds_ret (de_var 2 (pv 2))))
  ds_nil)
  (ds_one (ds_set (fun te he => ps_set (i := 1) sc_first_fall.nd rfl (Or.inl rfl) he) (de_ix hr (de_var 0 (pv 0)) (de_var 2 (pv 2)))))))
  (ds_one (ds_ret (de_c pe_non (fun _ => .non))))))
theorem ok_first_fall (T : Txt P w K mg) : FnG P w K mg base 5 (My.fa mg "first_fall") (fdOf K (My.fa mg "first_fall")) ["spots"] (spD ⟨K, w, mg⟩ none 1 fn_first_fall) := fn_body none T.first_fall.F sc_first_fall (by decide) (bd_first_fall T)

def l0_told_of : SM := (dPut 1 (dVar 2) (dTup (dCons (dGet1 (dVar 1) (d2 addD (dVar 2) (dC (.str "l")))) (dCons (d2 ixD (dVar 0) (dVar 2)) (dCons (dGet1 (dVar 1) (d2 addD (dVar 2) (dC (.str "r")))) dNil)))))
def b_told_of : SM := (dSeq (dSetO 1 dNewK)
  (dSeq (dFor (dItA (dFr (dSrt true fLen (dVar 0)))) (gN 2)
  l0_told_of)
  (dRet (dGet1 (dVar 1) (dC (.str ""))))))
def fn_told_of : List D → FOut := runF none 3 1 b_told_of
theorem bd_told_of (T : Txt P w K mg) : Bdy P w K mg base ["spots", "built", "place"] "told_of" s_told_of (My.fa mg "told_of") 0 b_told_of := fun cdv A outer s H E hr tk hp => (ds_cons (ds_setO (fun te he => ps_set (i := 1) sc_told_of.nd rfl (Or.inl rfl) he) df_newK)
  (ds_cons (ds_for hp (by rfl) (di_any (DF.de (df_srt (pe_srtK (ks := ["key", "reverse"]) (by rfl) keyF_len (pkf_cons (pf_bltn (by rfl) T.n_len PySem.boot_len) (pkf_cons pf_bl pkf_nil)) (fun x => PyProof.Rows.ksk_t5 _ x true) (fun _ => PyProof.Rows.ksk_s2 _ _ _) (fun _ => PyProof.Rows.ksk_l2 _ _ _) T.n_sorted (de_var 0 (pv 0))) keyD_len))) (dg_name (pg_name (i := 2) sc_told_of.nd rfl (Or.inl rfl)))
  (ds_one (ds_put hr (pv 1) (de_var 2 (pv 2)) (de_tup (da_cons (de_get1 hr (de_var 1 (pv 1)) (de_add (de_var 2 (pv 2)) (de_c pe_str (fun _ => .str _)))) (da_cons (de_ix hr (de_var 0 (pv 0)) (de_var 2 (pv 2))) (da_cons (de_get1 hr (de_var 1 (pv 1)) (de_add (de_var 2 (pv 2)) (de_c pe_str (fun _ => .str _)))) da_nil)))))))
  (ds_one (ds_ret (de_get1 hr (de_var 1 (pv 1)) (de_c pe_str (fun _ => .str _)))))))
theorem ok_told_of (T : Txt P w K mg) : FnG P w K mg base 1 (My.fa mg "told_of") (fdOf K (My.fa mg "told_of")) ["spots"] (spD ⟨K, w, mg⟩ none 1 fn_told_of) := fn_body none T.told_of.F sc_told_of (by decide) (bd_told_of T)

def b_height_of : SM := (dRet (d1 (maxDf 0) (dFr (dLc (dItA (dVar 0)) (gN 1) dYes (d2 addD (dN (one1 lenD) (dCons (dVar 1) dNil)) (dC (.int 1))) [1]))))
def fn_height_of : List D → FOut := runF none 2 1 b_height_of
theorem bd_height_of (T : Txt P w K mg) : Bdy P w K mg base ["spots", "place"] "height_of" s_height_of (My.fa mg "height_of") 0 b_height_of := fun cdv A outer s H E hr tk hp => (ds_one (ds_ret (de_maxD T.n_max (by rfl) (DF.de (df_lc (pe_lc (own := [("place", 1)]) (g := tG ⟨K, w, mg⟩ (gN 1) [1]) (tt := tQ ⟨K, w, mg⟩ (fun cls d _ H => E cls d H) dYes) (te := tP ⟨K, w, mg⟩ (fun cls d _ H => E cls d H) (d2 addD (dN (one1 lenD) (dCons (dVar 1) dNil)) (dC (.int 1)))) (by rfl) sc_height_of.nd (di_any (de_var 0 (pv 0))) (blkOk_by (own := [("place", 1)]) (N := ["spots", "place"]) (sc := defScope s_height_of) (by decide +kernel)) (fun _ _ _ _ _ => (dg_name (pg_name (i := 1) sc_height_of.nd rfl (Or.inl rfl)))) (fun _ _ _ _ _ => dts_nil) (fun _ _ _ _ _ => (de_add (de_len T.n_len (da_cons (de_var 1 (pv 1)) da_nil)) (de_c pe_int (fun _ => .int _))))))))))
theorem ok_height_of (T : Txt P w K mg) : FnG P w K mg base 1 (My.fa mg "height_of") (fdOf K (My.fa mg "height_of")) ["spots"] (spD ⟨K, w, mg⟩ none 1 fn_height_of) := fn_body none T.height_of.F sc_height_of (by decide) (bd_height_of T)

def b_Tree_init : SM := (dSeq (dAsg (dCall true none 1 [] fn_spots_of (dCons (dVar 1) dNil)) (gT 2 (gsCons (gN 2) (gsCons (gN 3) gsNil))))
  (dSeq (dIf (dT2 (isN true) (dVar 3) (dC .non))
  (dRaise "BadTold" ["place"] (dCons (dVar 3) dNil))
  dNx)
  (dSeq (dIf (dT2 gtD (dN (one1 lenD) (dCons (dVar 2) dNil)) (dC (.int 2000)))
  (dRaise "TooMany" ["what", "many", "most"] (dCons (dC (.str "places")) (dCons (dN (one1 lenD) (dCons (dVar 2) dNil)) (dCons (dC (.int 2000)) dNil))))
  dNx)
  (dSeq (dIf (dT2 gtD (dCall true none 1 [] fn_height_of (dCons (dVar 2) dNil)) (dC (.int 200)))
  (dRaise "TooMany" ["what", "many", "most"] (dCons (dC (.str "levels")) (dCons (dCall true none 1 [] fn_height_of (dCons (dVar 2) dNil)) (dCons (dC (.int 200)) dNil))))
  dNx)
  (dSeq (dSet 4 (dCall true none 1 [] fn_first_fall (dCons (dVar 2) dNil)))
  (dSeq (dIf (dT2 (isN true) (dVar 4) (dC .non))
  (dRaise "BadValue" ["place"] (dCons (dVar 4) dNil))
  dNx)
  (dSeq (dFld "Tree" "own_spots" 0 (dVar 2))
  (dSeq (dFld "Tree" "told" 0 (dCall true none 1 [] fn_told_of (dCons (dVar 2) dNil)))
  (dSeq (dFld "Tree" "size" 0 (dN (one1 lenD) (dCons (dVar 2) dNil)))
  (dFld "Tree" "height" 0 (dCall true none 1 [] fn_height_of (dCons (dVar 2) dNil))))))))))))
def fn_Tree_init : List D → FOut := runF (some 0) 5 2 b_Tree_init
theorem bd_Tree_init (T : Txt P w K mg) : Bdy P w K mg base ["self", "told", "spots", "wrong", "fall"] "Tree.__init__" s_Tree_init (mf K (My.fa mg "Tree") "__init__") 5 b_Tree_init := fun cdv A outer s H E hr tk hp => (ds_cons (ds_asg (de_callN T.spots_of T.b_spots_of (ok_spots_of T) (hr.mono (by decide)) (errTk tk) .nil (fun _ => .nil) (da_cons (de_var 1 (pv 1)) da_nil)) (dg_tup (by rfl) (dgs_cons (dg_name (pg_name (i := 2) sc_Tree_init.nd rfl (Or.inl rfl))) (dgs_cons (dg_name (pg_name (i := 3) sc_Tree_init.nd rfl (Or.inl rfl))) dgs_nil))))
  (ds_cons (ds_if (dt_isnt (de_var 3 (pv 3)) (de_c pe_non (fun _ => .non)))
  (ds_one (ds_raise T.e_BadTold hr (by decide) (by rfl) tk (da_cons (de_var 3 (pv 3)) da_nil)))
  ds_nil)
  (ds_cons (ds_if (dt_gt (de_len T.n_len (da_cons (de_var 2 (pv 2)) da_nil)) (let ⟨_, h⟩ := T.c_MOST_PLACES; de_glob (v := .int 2000) h ⟨_, rfl⟩ (fun _ => .int _)))
  (ds_one (ds_raise T.e_TooMany hr (by decide) (by rfl) tk (da_cons (de_c pe_str (fun _ => .str _)) (da_cons (de_len T.n_len (da_cons (de_var 2 (pv 2)) da_nil)) (da_cons (let ⟨_, h⟩ := T.c_MOST_PLACES; de_glob (v := .int 2000) h ⟨_, rfl⟩ (fun _ => .int _)) da_nil)))))
  ds_nil)
  (ds_cons (ds_if (dt_gt (de_callN T.height_of T.b_height_of (ok_height_of T) (hr.mono (by decide)) (errTk tk) .nil (fun _ => .nil) (da_cons (de_var 2 (pv 2)) da_nil)) (let ⟨_, h⟩ := T.c_MOST_LEVELS; de_glob (v := .int 200) h ⟨_, rfl⟩ (fun _ => .int _)))
  (ds_one (ds_raise T.e_TooMany hr (by decide) (by rfl) tk (da_cons (de_c pe_str (fun _ => .str _)) (da_cons (de_callN T.height_of T.b_height_of (ok_height_of T) (hr.mono (by decide)) (errTk tk) .nil (fun _ => .nil) (da_cons (de_var 2 (pv 2)) da_nil)) (da_cons (let ⟨_, h⟩ := T.c_MOST_LEVELS; de_glob (v := .int 200) h ⟨_, rfl⟩ (fun _ => .int _)) da_nil)))))
  ds_nil)
  (ds_cons (ds_set (fun te he => ps_set (i := 4) sc_Tree_init.nd rfl (Or.inl rfl) he) (de_callN T.first_fall T.b_first_fall (ok_first_fall T) (hr.mono (by decide)) (errTk tk) .nil (fun _ => .nil) (da_cons (de_var 2 (pv 2)) da_nil)))
  (ds_cons (ds_if (dt_isnt (de_var 4 (pv 4)) (de_c pe_non (fun _ => .non)))
  (ds_one (ds_raise T.e_BadValue hr (by decide) (by rfl) tk (da_cons (de_var 4 (pv 4)) da_nil)))
  ds_nil)
  (ds_cons (ds_fld T.f_Tree_own_spots (pv 0) (de_var 2 (pv 2)))
  (ds_cons (ds_fld T.f_Tree_told (pv 0) (de_callN T.told_of T.b_told_of (ok_told_of T) (hr.mono (by decide)) (errTk tk) .nil (fun _ => .nil) (da_cons (de_var 2 (pv 2)) da_nil)))
  (ds_cons (ds_fld T.f_Tree_size (pv 0) (de_len T.n_len (da_cons (de_var 2 (pv 2)) da_nil)))
  (ds_one (ds_fld T.f_Tree_height (pv 0) (de_callN T.height_of T.b_height_of (ok_height_of T) (hr.mono (by decide)) (errTk tk) .nil (fun _ => .nil) (da_cons (de_var 2 (pv 2)) da_nil)))))))))))))
theorem ok_Tree_init (T : Txt P w K mg) : FnG P w K mg base 6 (mf K (My.fa mg "Tree") "__init__") (fdOf K (mf K (My.fa mg "Tree") "__init__")) ["self", "told"] (spD ⟨K, w, mg⟩ (some 0) 2 fn_Tree_init) := fn_body (some 0) T.Tree_init.F sc_Tree_init (by decide) (bd_Tree_init T)

def l0_law_all_results : SM := (dSeq (dSet 4 (dCall true none 2 [] fn_law_down (dCons (dVar 0) (dCons (dVar 3) dNil))))
  (dSeq (dSet 2 (d2 addD (dVar 2) (d2 mulD (dLst (dCons (dTup (dCons (dC (.str "attach")) (dCons (dVar 3) (dCons (dC (.str "left")) dNil)))) dNil)) (dN (one1 intD) (dCons (d2 (isN false) (d2 ixD (dVar 4) (dC (.int 0))) (dC .non)) dNil)))))
  (dSeq (dSet 2 (d2 addD (dVar 2) (d2 mulD (dLst (dCons (dTup (dCons (dC (.str "attach")) (dCons (dVar 3) (dCons (dC (.str "right")) dNil)))) dNil)) (dN (one1 intD) (dCons (d2 (isN false) (d2 ixD (dVar 4) (dC (.int 2))) (dC .non)) dNil)))))
  (dIf (dOr (dT2 (isN false) (d2 ixD (dVar 4) (dC (.int 0))) (dC .non)) (dT2 (isN false) (d2 ixD (dVar 4) (dC (.int 2))) (dC .non)))
  (dSet 2 (d2 addD (d2 addD (dVar 2) (dLst (dCons (dTup (dCons (dC (.str "cut")) (dCons (dVar 3) dNil))) dNil))) (dFr (dLc (dItA (dVar 1)) (gN 5) dYes (dTup (dCons (dC (.str "replace")) (dCons (dVar 5) (dCons (dVar 3) dNil)))) [5]))))
  dNx))))
def b_law_all_results : SM := (dSeq (dSet 1 (dCall true none 2 [] (fn_law_spots 16) (dCons (dVar 0) (dCons (dC (.str "")) dNil))))
  (dSeq (dSet 2 (d2 addD (d2 addD (dLst (dCons (dTup (dCons (dC (.str "none")) dNil)) dNil)) (dFr (dLc (dItA (dVar 1)) (gN 3) dYes (dTup (dCons (dC (.str "place")) (dCons (dVar 3) dNil))) [3]))) (d2 mulD (dLst (dCons (dTup (dCons (dC (.str "plant")) dNil)) dNil)) (dN (one1 intD) (dCons (d2 (isN false) (dVar 0) (dC .non)) dNil)))))
  (dSeq (dFor (dItA (dVar 1)) (gN 3)
  l0_law_all_results)
  (dRet (dVar 2)))))
def fn_law_all_results : List D → FOut := runF none 6 1 b_law_all_results
theorem bd_law_all_results (T : Txt P w K mg) : Bdy P w K mg base ["_law_told", "_law_places", "_law_found", "_law_place", "_law_here", "_law_other"] "_law_all_results" s_law_all_results (My.fa mg "_law_all_results") 17 b_law_all_results := fun cdv A outer s H E hr tk hp => (ds_cons (ds_set (fun te he => ps_set (i := 1) sc_law_all_results.nd rfl (Or.inl rfl) he) (de_callN T.law_spots T.b_law_spots (ok_law_spots T 16) (hr.mono (by decide)) (errTk tk) .nil (fun _ => .nil) (da_cons (de_var 0 (pv 0)) (da_cons (de_c pe_str (fun _ => .str _)) da_nil))))
  (ds_cons (ds_set (fun te he => ps_set (i := 2) sc_law_all_results.nd rfl (Or.inl rfl) he) (de_add (de_add (de_lst (da_cons (de_tup (da_cons (de_c pe_str (fun _ => .str _)) da_nil)) da_nil)) (DF.de (df_lc (pe_lc (own := [("_law_place", 3)]) (g := tG ⟨K, w, mg⟩ (gN 3) [3]) (tt := tQ ⟨K, w, mg⟩ (fun cls d _ H => E cls d H) dYes) (te := tP ⟨K, w, mg⟩ (fun cls d _ H => E cls d H) (dTup (dCons (dC (.str "place")) (dCons (dVar 3) dNil)))) (by rfl) sc_law_all_results.nd (di_any (de_var 1 (pv 1))) (blkOk_by (own := [("_law_place", 3)]) (N := ["_law_told", "_law_places", "_law_found", "_law_place", "_law_here", "_law_other"]) (sc := defScope s_law_all_results) (by decide +kernel)) (fun _ _ _ _ _ => (dg_name (pg_name (i := 3) sc_law_all_results.nd rfl (Or.inl rfl)))) (fun _ _ _ _ _ => dts_nil) (fun _ _ _ _ _ => (de_tup (da_cons (de_c pe_str (fun _ => .str _)) (da_cons (de_var 3 (pv 3)) da_nil)))))))) (de_mul (de_lst (da_cons (de_tup (da_cons (de_c pe_str (fun _ => .str _)) da_nil)) da_nil)) (de_int T.n_int (da_cons (de_is (de_var 0 (pv 0)) (de_c pe_non (fun _ => .non))) da_nil)))))
  (ds_cons (ds_for hp (by rfl) (di_any (de_var 1 (pv 1))) (dg_name (pg_name (i := 3) sc_law_all_results.nd rfl (Or.inr rfl)))
  (ds_cons (ds_set (fun te he => ps_set (i := 4) sc_law_all_results.nd rfl (Or.inl rfl) he) (de_callN T.law_down T.b_law_down (ok_law_down T) (hr.mono (by decide)) (errTk tk) .nil (fun _ => .nil) (da_cons (de_var 0 (pv 0)) (da_cons (de_var 3 (pv 3)) da_nil))))
  (ds_cons (ds_set (fun te he => ps_set (i := 2) sc_law_all_results.nd rfl (Or.inl rfl) he) (de_add (de_var 2 (pv 2)) (de_mul (de_lst (da_cons (de_tup (da_cons (de_c pe_str (fun _ => .str _)) (da_cons (de_var 3 (pv 3)) (da_cons (de_c pe_str (fun _ => .str _)) da_nil)))) da_nil)) (de_int T.n_int (da_cons (de_is (de_ix hr (de_var 4 (pv 4)) (de_c pe_int (fun _ => .int _))) (de_c pe_non (fun _ => .non))) da_nil)))))
  (ds_cons (ds_set (fun te he => ps_set (i := 2) sc_law_all_results.nd rfl (Or.inl rfl) he) (de_add (de_var 2 (pv 2)) (de_mul (de_lst (da_cons (de_tup (da_cons (de_c pe_str (fun _ => .str _)) (da_cons (de_var 3 (pv 3)) (da_cons (de_c pe_str (fun _ => .str _)) da_nil)))) da_nil)) (de_int T.n_int (da_cons (de_is (de_ix hr (de_var 4 (pv 4)) (de_c pe_int (fun _ => .int _))) (de_c pe_non (fun _ => .non))) da_nil)))))
  (ds_one (ds_if (PW.pt (dw_or (dt_is (de_ix hr (de_var 4 (pv 4)) (de_c pe_int (fun _ => .int _))) (de_c pe_non (fun _ => .non))) (dw_or1 (dt_is (de_ix hr (de_var 4 (pv 4)) (de_c pe_int (fun _ => .int _))) (de_c pe_non (fun _ => .non))))))
  (ds_one (ds_set (fun te he => ps_set (i := 2) sc_law_all_results.nd rfl (Or.inl rfl) he) (de_add (de_add (de_var 2 (pv 2)) (de_lst (da_cons (de_tup (da_cons (de_c pe_str (fun _ => .str _)) (da_cons (de_var 3 (pv 3)) da_nil))) da_nil))) (DF.de (df_lc (pe_lc (own := [("_law_other", 5)]) (g := tG ⟨K, w, mg⟩ (gN 5) [5]) (tt := tQ ⟨K, w, mg⟩ (fun cls d _ H => E cls d H) dYes) (te := tP ⟨K, w, mg⟩ (fun cls d _ H => E cls d H) (dTup (dCons (dC (.str "replace")) (dCons (dVar 5) (dCons (dVar 3) dNil))))) (by rfl) sc_law_all_results.nd (di_any (de_var 1 (pv 1))) (blkOk_by (own := [("_law_other", 5)]) (N := ["_law_told", "_law_places", "_law_found", "_law_place", "_law_here", "_law_other"]) (sc := defScope s_law_all_results) (by decide +kernel)) (fun _ _ _ _ _ => (dg_name (pg_name (i := 5) sc_law_all_results.nd rfl (Or.inl rfl)))) (fun _ _ _ _ _ => dts_nil) (fun _ _ _ _ _ => (de_tup (da_cons (de_c pe_str (fun _ => .str _)) (da_cons (de_var 5 (pv 5)) (da_cons (de_var 3 (pv 3)) da_nil)))))))))))
  ds_nil))))))
  (ds_one (ds_ret (de_var 2 (pv 2)))))))
theorem ok_law_all_results (T : Txt P w K mg) : FnG P w K mg base 18 (My.fa mg "_law_all_results") (fdOf K (My.fa mg "_law_all_results")) ["_law_told"] (spD ⟨K, w, mg⟩ none 1 fn_law_all_results) := fn_body none T.law_all_results.F sc_law_all_results (by decide) (bd_law_all_results T)

def b_Tree_has : SM := (dRet (dAndV (d1 (isG gStrT ((["Tree"] : List Str).map fun c => (c, false))) (dVar 1)) (d2 inD (dVar 1) (d1 (fldC ["Tree"] "own_spots") (dVar 0)))))
def fn_Tree_has : List D → FOut := runF none 2 2 b_Tree_has
theorem bd_Tree_has (T : Txt P w K mg) : Bdy P w K mg base ["self", "place"] "Tree.has" s_Tree_has (mf K (My.fa mg "Tree") "has") 0 b_Tree_has := fun cdv A outer s H E hr tk hp => (ds_one (ds_ret (de_and (de_isStr (cs := ["Tree"]) T.ins T.n_isinstance T.n_str (de_var 1 (pv 1))) (de_one (de_in hr (de_var 1 (pv 1)) (de_fld T.f_own_spots (de_var 0 (pv 0))))))))
theorem ok_Tree_has (T : Txt P w K mg) : FnG P w K mg base 1 (mf K (My.fa mg "Tree") "has") (fdOf K (mf K (My.fa mg "Tree") "has")) ["self", "place"] (spD ⟨K, w, mg⟩ none 2 fn_Tree_has) := fn_body none T.Tree_has.F sc_Tree_has (by decide) (bd_Tree_has T)

def b_Tree_need : SM := (dIf (dNot (dB (dMeth "Tree" "has" true none 1 [] fn_Tree_has (dVar 0) (dCons (dVar 1) dNil))))
  (dRaise "NoPlace" ["place"] (dCons (dVar 1) dNil))
  dNx)
def fn_Tree_need : List D → FOut := runF none 2 2 b_Tree_need
theorem bd_Tree_need (T : Txt P w K mg) : Bdy P w K mg base ["self", "place"] "Tree.need" s_Tree_need (mf K (My.fa mg "Tree") "need") 1 b_Tree_need := fun cdv A outer s H E hr tk hp => (ds_one (ds_if (dt_not (dt_b (de_methN (pl := _) (de_var 0 (pv 0)) T.Tree_has.cl T.Tree_has.me T.b_Tree_has (ok_Tree_has T) (hr.mono (by decide)) (errTk tk) .nil (fun _ => .nil) (da_cons (de_var 1 (pv 1)) da_nil))))
  (ds_one (ds_raise T.e_NoPlace hr (by decide) (by rfl) tk (da_cons (de_var 1 (pv 1)) da_nil)))
  ds_nil))
theorem ok_Tree_need (T : Txt P w K mg) : FnG P w K mg base 2 (mf K (My.fa mg "Tree") "need") (fdOf K (mf K (My.fa mg "Tree") "need")) ["self", "place"] (spD ⟨K, w, mg⟩ none 2 fn_Tree_need) := fn_body none T.Tree_need.F sc_Tree_need (by decide) (bd_Tree_need T)

def b_Tree_sides : SM := (dSeq (dDrop (dMeth "Tree" "need" true none 1 [] fn_Tree_need (dVar 0) (dCons (dVar 1) dNil)))
  (dRet (dJoin (dC (.str "")) (dFr (dLc (dItA (dC (.str "lr"))) (gN 2) (dT2 inD (d2 addD (dVar 1) (dVar 2)) (d1 (fldC ["Tree"] "own_spots") (dVar 0))) (dVar 2) [2])))))
def fn_Tree_sides : List D → FOut := runF none 3 2 b_Tree_sides
theorem bd_Tree_sides (T : Txt P w K mg) : Bdy P w K mg base ["self", "place", "sign"] "Tree.sides" s_Tree_sides (mf K (My.fa mg "Tree") "sides") 2 b_Tree_sides := fun cdv A outer s H E hr tk hp => (ds_cons (ds_expr (de_methN (pl := _) (de_var 0 (pv 0)) T.Tree_need.cl T.Tree_need.me T.b_Tree_need (ok_Tree_need T) (hr.mono (by decide)) (errTk tk) .nil (fun _ => .nil) (da_cons (de_var 1 (pv 1)) da_nil)))
  (ds_one (ds_ret (de_join (de_c pe_str (fun _ => .str _)) (DF.de (df_lc (pe_lc (own := [("sign", 2)]) (g := tG ⟨K, w, mg⟩ (gN 2) [2]) (tt := tQ ⟨K, w, mg⟩ (fun cls d _ H => E cls d H) (dT2 inD (d2 addD (dVar 1) (dVar 2)) (d1 (fldC ["Tree"] "own_spots") (dVar 0)))) (te := tP ⟨K, w, mg⟩ (fun cls d _ H => E cls d H) (dVar 2)) (by rfl) sc_Tree_sides.nd (di_any (de_c pe_str (fun _ => .str _))) (blkOk_by (own := [("sign", 2)]) (N := ["self", "place", "sign"]) (sc := defScope s_Tree_sides) (by decide +kernel)) (fun _ _ _ _ _ => (dg_name (pg_name (i := 2) sc_Tree_sides.nd rfl (Or.inl rfl)))) (fun _ _ _ _ _ => (dts_one (dt_in hr (de_add (de_var 1 (pv 1)) (de_var 2 (pv 2))) (de_fld T.f_own_spots (de_var 0 (pv 0)))))) (fun _ _ _ _ _ => (de_var 2 (pv 2))))))))))
theorem ok_Tree_sides (T : Txt P w K mg) : FnG P w K mg base 3 (mf K (My.fa mg "Tree") "sides") (fdOf K (mf K (My.fa mg "Tree") "sides")) ["self", "place"] (spD ⟨K, w, mg⟩ none 2 fn_Tree_sides) := fn_body none T.Tree_sides.F sc_Tree_sides (by decide) (bd_Tree_sides T)

def b_is_spot : SM := (dRet (dAndV (d1 (isG gStrT ((["Tree"] : List Str).map fun c => (c, false))) (dVar 1)) (dMeth "Tree" "has" true none 1 [] fn_Tree_has (dVar 0) (dCons (dVar 1) dNil))))
def fn_is_spot : List D → FOut := runF none 2 2 b_is_spot
theorem bd_is_spot (T : Txt P w K mg) : Bdy P w K mg base ["tree", "value"] "is_spot" s_is_spot (My.fa mg "is_spot") 1 b_is_spot := fun cdv A outer s H E hr tk hp => (ds_one (ds_ret (de_and (de_isStr (cs := ["Tree"]) T.ins T.n_isinstance T.n_str (de_var 1 (pv 1))) (de_one (de_methN (pl := _) (de_var 0 (pv 0)) T.Tree_has.cl T.Tree_has.me T.b_Tree_has (ok_Tree_has T) (hr.mono (by decide)) (errTk tk) .nil (fun _ => .nil) (da_cons (de_var 1 (pv 1)) da_nil))))))
theorem ok_is_spot (T : Txt P w K mg) : FnG P w K mg base 2 (My.fa mg "is_spot") (fdOf K (My.fa mg "is_spot")) ["tree", "value"] (spD ⟨K, w, mg⟩ none 2 fn_is_spot) := fn_body none T.is_spot.F sc_is_spot (by decide) (bd_is_spot T)

def b_is_done : SM := (dSeq (dIf (dOr (dNot (dB (d1 (isG gTupT ((["Tree"] : List Str).map fun c => (c, false))) (dVar 1)))) (dOr (dT2 eqD (dN (one1 lenD) (dCons (dVar 1) dNil)) (dC (.int 0))) (dNot (dB (d1 (isG gStrT ((["Tree"] : List Str).map fun c => (c, false))) (d2 ixD (dVar 1) (dC (.int 0))))))))
  (dRet (dC (.bl false)))
  dNx)
  (dSeq (dPar [2, 3] (xV (d2 ixD (dVar 1) (dC (.int 0))) (xV (dSl (dVar 1) (pSome (dC (.int 1))) pNone) xNil)))
  (dSeq (dIf (dT2 inD (dVar 2) (dTup (dCons (dC (.str "none")) (dCons (dC (.str "plant")) dNil))))
  (dRet (dAndV (d2 eqD (dN (one1 lenD) (dCons (dVar 3) dNil)) (dC (.int 0))) (dOrV (d2 eqD (dVar 2) (dC (.str "none"))) (d1 notD (dMeth "Tree" "has" true none 1 [] fn_Tree_has (dVar 0) (dCons (dC (.str "")) dNil))))))
  dNx)
  (dSeq (dIf (dT2 eqD (dVar 2) (dC (.str "attach")))
  (dSeq (dIf (dOr (dT2 neD (dN (one1 lenD) (dCons (dVar 3) dNil)) (dC (.int 2))) (dOr (dNot (dB (dCall true none 2 [] fn_is_spot (dCons (dVar 0) (dCons (d2 ixD (dVar 3) (dC (.int 0))) dNil))))) (dOr (dNot (dB (d1 (isG gStrT ((["Tree"] : List Str).map fun c => (c, false))) (d2 ixD (dVar 3) (dC (.int 1)))))) (dT2 ninD (d2 ixD (dVar 3) (dC (.int 1))) (dC k_SIDES)))))
  (dRet (dC (.bl false)))
  dNx)
  (dRet (d2 ninD (d2 ixD (d2 ixD (dVar 3) (dC (.int 1))) (dC (.int 0))) (dMeth "Tree" "sides" true none 1 [] fn_Tree_sides (dVar 0) (dCons (d2 ixD (dVar 3) (dC (.int 0))) dNil)))))
  dNx)
  (dSeq (dIf (dOr (dT2 ninD (dVar 2) (dTup (dCons (dC (.str "place")) (dCons (dC (.str "cut")) (dCons (dC (.str "replace")) dNil))))) (dT2 neD (dN (one1 lenD) (dCons (dVar 3) dNil)) (dIfE (dT2 eqD (dVar 2) (dC (.str "replace"))) (dC (.int 2)) (dC (.int 1)))))
  (dRet (dC (.bl false)))
  dNx)
  (dSeq (dIf (dNot (dB (dN (one1 allD) (dCons (dFr (dLc (dItA (dVar 3)) (gN 4) dYes (dCall false none 2 [] fn_is_spot (dCons (dVar 0) (dCons (dVar 4) dNil))) [4])) dNil))))
  (dRet (dC (.bl false)))
  dNx)
  (dRet (dOrV (d2 eqD (dVar 2) (dC (.str "place"))) (d2 neD (dMeth "Tree" "sides" true none 1 [] fn_Tree_sides (dVar 0) (dCons (d2 ixD (dVar 3) (d1 negD (dC (.int 1)))) dNil)) (dC (.str "lr")))))))))))
def fn_is_done : List D → FOut := runF none 5 2 b_is_done
theorem bd_is_done (T : Txt P w K mg) : Bdy P w K mg base ["tree", "result", "kind", "rest", "place"] "is_done" s_is_done (My.fa mg "is_done") 3 b_is_done := fun cdv A outer s H E hr tk hp => (ds_cons (ds_if (PW.pt (dw_or (dt_not (dt_b (de_isTup (cs := ["Tree"]) T.ins T.n_isinstance T.n_tuple (de_var 1 (pv 1))))) (dw_or (dt_eq hr (de_len T.n_len (da_cons (de_var 1 (pv 1)) da_nil)) (de_c pe_int (fun _ => .int _))) (dw_or1 (dt_not (dt_b (de_isStr (cs := ["Tree"]) T.ins T.n_isinstance T.n_str (de_ix hr (de_var 1 (pv 1)) (de_c pe_int (fun _ => .int _))))))))))
  (ds_one (ds_ret (de_c pe_bl (fun _ => .bl _))))
  ds_nil)
  (ds_cons (ds_par2 (fun ta ha => ps_par (by rfl) sc_is_done.nd (i := 2) (j := 3) rfl rfl (by decide) rfl rfl ha (by rfl)) (dx_v (de_ix hr (de_var 1 (pv 1)) (de_c pe_int (fun _ => .int _))) (dx_v (de_slice (de_var 1 (pv 1)) (do_some (de_c pe_int (fun _ => .int _))) do_none) dx_nil)))
  (ds_cons (ds_if (dt_in hr (de_var 2 (pv 2)) (de_tup (da_cons (de_c pe_str (fun _ => .str _)) (da_cons (de_c pe_str (fun _ => .str _)) da_nil))))
  (ds_one (ds_ret (de_and (de_eq hr (de_len T.n_len (da_cons (de_var 3 (pv 3)) da_nil)) (de_c pe_int (fun _ => .int _))) (de_one (de_or (de_eq hr (de_var 2 (pv 2)) (de_c pe_str (fun _ => .str _))) (de_one (de_not (de_methN (pl := _) (de_var 0 (pv 0)) T.Tree_has.cl T.Tree_has.me T.b_Tree_has (ok_Tree_has T) (hr.mono (by decide)) (errTk tk) .nil (fun _ => .nil) (da_cons (de_c pe_str (fun _ => .str _)) da_nil)))))))))
  ds_nil)
  (ds_cons (ds_if (dt_eq hr (de_var 2 (pv 2)) (de_c pe_str (fun _ => .str _)))
  (ds_cons (ds_if (PW.pt (dw_or (dt_ne hr (de_len T.n_len (da_cons (de_var 3 (pv 3)) da_nil)) (de_c pe_int (fun _ => .int _))) (dw_or (dt_not (dt_b (de_callN T.is_spot T.b_is_spot (ok_is_spot T) (hr.mono (by decide)) (errTk tk) .nil (fun _ => .nil) (da_cons (de_var 0 (pv 0)) (da_cons (de_ix hr (de_var 3 (pv 3)) (de_c pe_int (fun _ => .int _))) da_nil))))) (dw_or (dt_not (dt_b (de_isStr (cs := ["Tree"]) T.ins T.n_isinstance T.n_str (de_ix hr (de_var 3 (pv 3)) (de_c pe_int (fun _ => .int _)))))) (dw_or1 (dt_nin hr (de_ix hr (de_var 3 (pv 3)) (de_c pe_int (fun _ => .int _))) (de_glob (v := .ref (My.fa mg "SIDES")) T.c_SIDES rfl T.r_SIDES)))))))
  (ds_one (ds_ret (de_c pe_bl (fun _ => .bl _))))
  ds_nil)
  (ds_one (ds_ret (de_nin hr (de_ix hr (de_ix hr (de_var 3 (pv 3)) (de_c pe_int (fun _ => .int _))) (de_c pe_int (fun _ => .int _))) (de_methN (pl := _) (de_var 0 (pv 0)) T.Tree_sides.cl T.Tree_sides.me T.b_Tree_sides (ok_Tree_sides T) (hr.mono (by decide)) (errTk tk) .nil (fun _ => .nil) (da_cons (de_ix hr (de_var 3 (pv 3)) (de_c pe_int (fun _ => .int _))) da_nil))))))
  ds_nil)
  (ds_cons (ds_if (PW.pt (dw_or (dt_nin hr (de_var 2 (pv 2)) (de_tup (da_cons (de_c pe_str (fun _ => .str _)) (da_cons (de_c pe_str (fun _ => .str _)) (da_cons (de_c pe_str (fun _ => .str _)) da_nil))))) (dw_or1 (dt_ne hr (de_len T.n_len (da_cons (de_var 3 (pv 3)) da_nil)) (de_if (dt_eq hr (de_var 2 (pv 2)) (de_c pe_str (fun _ => .str _))) (de_c pe_int (fun _ => .int _)) (de_c pe_int (fun _ => .int _)))))))
  (ds_one (ds_ret (de_c pe_bl (fun _ => .bl _))))
  ds_nil)
  (ds_cons (ds_if (dt_not (dt_b (de_all T.n_all (by rfl) (da_cons (DF.de (df_lc (pe_lc (own := [("place", 4)]) (g := tG ⟨K, w, mg⟩ (gN 4) [4]) (tt := tQ ⟨K, w, mg⟩ (fun cls d _ H => E cls d H) dYes) (te := tP ⟨K, w, mg⟩ (fun cls d _ H => E cls d H) (dCall false none 2 [] fn_is_spot (dCons (dVar 0) (dCons (dVar 4) dNil)))) (by rfl) sc_is_done.nd (di_any (de_var 3 (pv 3))) (blkOk_by (own := [("place", 4)]) (N := ["tree", "result", "kind", "rest", "place"]) (sc := defScope s_is_done) (by decide +kernel)) (fun _ _ _ _ _ => (dg_name (pg_name (i := 4) sc_is_done.nd rfl (Or.inl rfl)))) (fun _ _ _ _ _ => dts_nil) (fun _ _ _ _ _ => (de_callN T.is_spot T.b_is_spot (ok_is_spot T) (hr.mono (by decide)) errNo .nil (fun _ => .nil) (da_cons (de_var 0 (pv 0)) (da_cons (de_var 4 (pv 4)) da_nil))))))) da_nil))))
  (ds_one (ds_ret (de_c pe_bl (fun _ => .bl _))))
  ds_nil)
  (ds_one (ds_ret (de_or (de_eq hr (de_var 2 (pv 2)) (de_c pe_str (fun _ => .str _))) (de_one (de_ne hr (de_methN (pl := _) (de_var 0 (pv 0)) T.Tree_sides.cl T.Tree_sides.me T.b_Tree_sides (ok_Tree_sides T) (hr.mono (by decide)) (errTk tk) .nil (fun _ => .nil) (da_cons (de_ix hr (de_var 3 (pv 3)) (de_neg (de_c pe_int (fun _ => .int _)))) da_nil)) (de_c pe_str (fun _ => .str _)))))))))))))
theorem ok_is_done (T : Txt P w K mg) : FnG P w K mg base 4 (My.fa mg "is_done") (fdOf K (My.fa mg "is_done")) ["tree", "result"] (spD ⟨K, w, mg⟩ none 2 fn_is_done) := fn_body none T.is_done.F sc_is_done (by decide) (bd_is_done T)

def l0_told_at : SM := (dSet 0 (dIfE (dT2 eqD (dVar 2) (dC (.str "l"))) (d2 ixD (dVar 0) (dC (.int 0))) (d2 ixD (dVar 0) (dC (.int 2)))))
def b_told_at : SM := (dSeq (dFor (dItA (dVar 1)) (gN 2)
  l0_told_at)
  (dRet (dVar 0)))
def fn_told_at : List D → FOut := runF none 3 2 b_told_at
theorem bd_told_at (T : Txt P w K mg) : Bdy P w K mg base ["told", "place", "letter"] "told_at" s_told_at (My.fa mg "told_at") 0 b_told_at := fun cdv A outer s H E hr tk hp => (ds_cons (ds_for hp (by rfl) (di_any (de_var 1 (pv 1))) (dg_name (pg_name (i := 2) sc_told_at.nd rfl (Or.inl rfl)))
  (ds_one (ds_set (fun te he => ps_set (i := 0) sc_told_at.nd rfl (Or.inl rfl) he) (de_if (dt_eq hr (de_var 2 (pv 2)) (de_c pe_str (fun _ => .str _))) (de_ix hr (de_var 0 (pv 0)) (de_c pe_int (fun _ => .int _))) (de_ix hr (de_var 0 (pv 0)) (de_c pe_int (fun _ => .int _)))))))
  (ds_one (ds_ret (de_var 0 (pv 0)))))
theorem ok_told_at (T : Txt P w K mg) : FnG P w K mg base 1 (My.fa mg "told_at") (fdOf K (My.fa mg "told_at")) ["told", "place"] (spD ⟨K, w, mg⟩ none 2 fn_told_at) := fn_body none T.told_at.F sc_told_at (by decide) (bd_told_at T)

def l0_with_told : SM := (dSeq (dDrop (dMut 3 appD (dCons (dVar 0) dNil)))
  (dSet 0 (dIfE (dT2 eqD (dVar 4) (dC (.str "l"))) (d2 ixD (dVar 0) (dC (.int 0))) (d2 ixD (dVar 0) (dC (.int 2))))))
def l1_with_told : SM := (dSet 2 (dIfE (dT2 eqD (dVar 4) (dC (.str "l"))) (dTup (dCons (dVar 2) (dCons (d2 ixD (dVar 5) (dC (.int 1))) (dCons (d2 ixD (dVar 5) (dC (.int 2))) dNil)))) (dTup (dCons (d2 ixD (dVar 5) (dC (.int 0))) (dCons (d2 ixD (dVar 5) (dC (.int 1))) (dCons (dVar 2) dNil))))))
def b_with_told : SM := (dSeq (dSetO 3 (dLstF dNil))
  (dSeq (dFor (dItA (dVar 1)) (gN 4)
  l0_with_told)
  (dSeq (dFor (dZip (dCons (d1 revX (dVar 1)) (dCons (d1 revX (dVar 3)) dNil))) (gT 2 (gsCons (gN 4) (gsCons (gN 5) gsNil)))
  l1_with_told)
  (dRet (dVar 2)))))
def fn_with_told : List D → FOut := runF none 6 3 b_with_told
theorem bd_with_told (T : Txt P w K mg) : Bdy P w K mg base ["told", "place", "other", "parts", "letter", "part"] "with_told" s_with_told (My.fa mg "with_told") 0 b_with_told := fun cdv A outer s H E hr tk hp => (ds_cons (ds_setO (fun te he => ps_set (i := 3) sc_with_told.nd rfl (Or.inl rfl) he) (df_lst da_nil))
  (ds_cons (ds_for hp (by rfl) (di_any (de_var 1 (pv 1))) (dg_name (pg_name (i := 4) sc_with_told.nd rfl (Or.inl rfl)))
  (ds_cons (ds_expr (de_mut PySem.F.slot_list_append PySem.F.type_list_append mt_append mutD_app (pv 3) (da_cons (de_var 0 (pv 0)) da_nil)))
  (ds_one (ds_set (fun te he => ps_set (i := 0) sc_with_told.nd rfl (Or.inl rfl) he) (de_if (dt_eq hr (de_var 4 (pv 4)) (de_c pe_str (fun _ => .str _))) (de_ix hr (de_var 0 (pv 0)) (de_c pe_int (fun _ => .int _))) (de_ix hr (de_var 0 (pv 0)) (de_c pe_int (fun _ => .int _))))))))
  (ds_cons (ds_for hp (by rfl) (di_zip T.n_zip (da_cons (de_revX (de_var 1 (pv 1))) (da_cons (de_revX (de_var 3 (pv 3))) da_nil))) (dg_tup (by rfl) (dgs_cons (dg_name (pg_name (i := 4) sc_with_told.nd rfl (Or.inl rfl))) (dgs_cons (dg_name (pg_name (i := 5) sc_with_told.nd rfl (Or.inl rfl))) dgs_nil)))
  (ds_one (ds_set (fun te he => ps_set (i := 2) sc_with_told.nd rfl (Or.inl rfl) he) (de_if (dt_eq hr (de_var 4 (pv 4)) (de_c pe_str (fun _ => .str _))) (de_tup (da_cons (de_var 2 (pv 2)) (da_cons (de_ix hr (de_var 5 (pv 5)) (de_c pe_int (fun _ => .int _))) (da_cons (de_ix hr (de_var 5 (pv 5)) (de_c pe_int (fun _ => .int _))) da_nil)))) (de_tup (da_cons (de_ix hr (de_var 5 (pv 5)) (de_c pe_int (fun _ => .int _))) (da_cons (de_ix hr (de_var 5 (pv 5)) (de_c pe_int (fun _ => .int _))) (da_cons (de_var 2 (pv 2)) da_nil))))))))
  (ds_one (ds_ret (de_var 2 (pv 2)))))))
theorem ok_with_told (T : Txt P w K mg) : FnG P w K mg base 1 (My.fa mg "with_told") (fdOf K (My.fa mg "with_told")) ["told", "place", "other"] (spD ⟨K, w, mg⟩ none 3 fn_with_told) := fn_body none T.with_told.F sc_with_told (by decide) (bd_with_told T)

def b_without : SM := (dSeq (dAsg (dCall true none 2 [] fn_told_at (dCons (dVar 0) (dCons (dVar 1) dNil))) (gT 3 (gsCons (gN 2) (gsCons (gN 3) (gsCons (gN 4) gsNil)))))
  (dRet (dCall true none 3 [] fn_with_told (dCons (dVar 0) (dCons (dVar 1) (dCons (dIfE (dT2 (isN false) (dVar 2) (dC .non)) (dVar 4) (dVar 2)) dNil))))))
def fn_without : List D → FOut := runF none 5 2 b_without
theorem bd_without (T : Txt P w K mg) : Bdy P w K mg base ["told", "place", "left", "value", "right"] "without" s_without (My.fa mg "without") 1 b_without := fun cdv A outer s H E hr tk hp => (ds_cons (ds_asg (de_callN T.told_at T.b_told_at (ok_told_at T) (hr.mono (by decide)) (errTk tk) .nil (fun _ => .nil) (da_cons (de_var 0 (pv 0)) (da_cons (de_var 1 (pv 1)) da_nil))) (dg_tup (by rfl) (dgs_cons (dg_name (pg_name (i := 2) sc_without.nd rfl (Or.inl rfl))) (dgs_cons (dg_name (pg_name (i := 3) sc_without.nd rfl (Or.inl rfl))) (dgs_cons (dg_name (pg_name (i := 4) sc_without.nd rfl (Or.inl rfl))) dgs_nil)))))
  (ds_one (ds_ret (de_callN T.with_told T.b_with_told (ok_with_told T) (hr.mono (by decide)) (errTk tk) .nil (fun _ => .nil) (da_cons (de_var 0 (pv 0)) (da_cons (de_var 1 (pv 1)) (da_cons (de_if (dt_is (de_var 2 (pv 2)) (de_c pe_non (fun _ => .non))) (de_var 4 (pv 4)) (de_var 2 (pv 2))) da_nil)))))))
theorem ok_without (T : Txt P w K mg) : FnG P w K mg base 2 (My.fa mg "without") (fdOf K (My.fa mg "without")) ["told", "place"] (spD ⟨K, w, mg⟩ none 2 fn_without) := fn_body none T.without.F sc_without (by decide) (bd_without T)

def b_applied : SM := (dSeq (dIf (dNot (dB (dCall true none 2 [] fn_is_done (dCons (dVar 0) (dCons (dVar 1) dNil)))))
  (dRaise0 "BadPlan")
  dNx)
  (dSeq (dPar [3, 4] (xV (d2 ixD (dVar 1) (dC (.int 0))) (xV (d1 (fldC ["Tree"] "told") (dVar 0)) xNil)))
  (dSeq (dIf (dT2 inD (dVar 3) (dTup (dCons (dC (.str "plant")) (dCons (dC (.str "attach")) dNil))))
  (dSeq (dIf (dT2 (isN false) (dVar 2) (dC .non))
  (dRaise "NoKey" ["key"] (dCons (dC (.str "a")) dNil))
  dNx)
  (dSeq (dSet 5 (dTup (dCons (dC .non) (dCons (dVar 2) (dCons (dC .non) dNil)))))
  (dRet (dIfE (dT2 eqD (dVar 3) (dC (.str "plant"))) (dVar 5) (dCall true none 3 [] fn_with_told (dCons (dVar 4) (dCons (d2 addD (d2 ixD (dVar 1) (dC (.int 1))) (d2 ixD (d2 ixD (dVar 1) (dC (.int 2))) (dC (.int 0)))) (dCons (dVar 5) dNil))))))))
  dNx)
  (dSeq (dIf (dT2 eqD (dVar 3) (dC (.str "cut")))
  (dRet (dCall true none 2 [] fn_without (dCons (dVar 4) (dCons (d2 ixD (dVar 1) (dC (.int 1))) dNil))))
  dNx)
  (dSeq (dIf (dT2 eqD (dVar 3) (dC (.str "replace")))
  (dSeq (dAsg (dCall true none 2 [] fn_told_at (dCons (dVar 4) (dCons (d2 ixD (dVar 1) (dC (.int 1))) dNil))) (gT 3 (gsCons (gN 6) (gsCons (gN 7) (gsCons (gN 8) gsNil)))))
  (dSeq (dSet 7 (d2 ixD (dCall true none 2 [] fn_told_at (dCons (dVar 4) (dCons (d2 ixD (dVar 1) (dC (.int 2))) dNil))) (dC (.int 1))))
  (dRet (dCall true none 2 [] fn_without (dCons (dCall true none 3 [] fn_with_told (dCons (dVar 4) (dCons (d2 ixD (dVar 1) (dC (.int 1))) (dCons (dTup (dCons (dVar 6) (dCons (dVar 7) (dCons (dVar 8) dNil)))) dNil)))) (dCons (d2 ixD (dVar 1) (dC (.int 2))) dNil))))))
  dNx)
  (dRet (dVar 4)))))))
def fn_applied : List D → FOut := runF none 9 3 b_applied
theorem bd_applied (T : Txt P w K mg) : Bdy P w K mg base ["tree", "result", "key", "kind", "told", "fresh", "left", "value", "right"] "applied" s_applied (My.fa mg "applied") 4 b_applied := fun cdv A outer s H E hr tk hp => (ds_cons (ds_if (dt_not (dt_b (de_callN T.is_done T.b_is_done (ok_is_done T) (hr.mono (by decide)) (errTk tk) .nil (fun _ => .nil) (da_cons (de_var 0 (pv 0)) (da_cons (de_var 1 (pv 1)) da_nil)))))
  (ds_one (ds_raise0 T.e_BadPlan hr (by decide) (by rfl) tk))
  ds_nil)
  (ds_cons (ds_par2 (fun ta ha => ps_par (by rfl) sc_applied.nd (i := 3) (j := 4) rfl rfl (by decide) rfl rfl ha (by rfl)) (dx_v (de_ix hr (de_var 1 (pv 1)) (de_c pe_int (fun _ => .int _))) (dx_v (de_fld T.f_told (de_var 0 (pv 0))) dx_nil)))
  (ds_cons (ds_if (dt_in hr (de_var 3 (pv 3)) (de_tup (da_cons (de_c pe_str (fun _ => .str _)) (da_cons (de_c pe_str (fun _ => .str _)) da_nil))))
  (ds_cons (ds_if (dt_is (de_var 2 (pv 2)) (de_c pe_non (fun _ => .non)))
  (ds_one (ds_raise T.e_NoKey hr (by decide) (by rfl) tk (da_cons (de_c pe_str (fun _ => .str _)) da_nil)))
  ds_nil)
  (ds_cons (ds_set (fun te he => ps_set (i := 5) sc_applied.nd rfl (Or.inl rfl) he) (de_tup (da_cons (de_c pe_non (fun _ => .non)) (da_cons (de_var 2 (pv 2)) (da_cons (de_c pe_non (fun _ => .non)) da_nil)))))
  (ds_one (ds_ret (de_if (dt_eq hr (de_var 3 (pv 3)) (de_c pe_str (fun _ => .str _))) (de_var 5 (pv 5)) (de_callN T.with_told T.b_with_told (ok_with_told T) (hr.mono (by decide)) (errTk tk) .nil (fun _ => .nil) (da_cons (de_var 4 (pv 4)) (da_cons (de_add (de_ix hr (de_var 1 (pv 1)) (de_c pe_int (fun _ => .int _))) (de_ix hr (de_ix hr (de_var 1 (pv 1)) (de_c pe_int (fun _ => .int _))) (de_c pe_int (fun _ => .int _)))) (da_cons (de_var 5 (pv 5)) da_nil)))))))))
  ds_nil)
  (ds_cons (ds_if (dt_eq hr (de_var 3 (pv 3)) (de_c pe_str (fun _ => .str _)))
  (ds_one (ds_ret (de_callN T.without T.b_without (ok_without T) (hr.mono (by decide)) (errTk tk) .nil (fun _ => .nil) (da_cons (de_var 4 (pv 4)) (da_cons (de_ix hr (de_var 1 (pv 1)) (de_c pe_int (fun _ => .int _))) da_nil)))))
  ds_nil)
  (ds_cons (ds_if (dt_eq hr (de_var 3 (pv 3)) (de_c pe_str (fun _ => .str _)))
  (ds_cons (ds_asg (de_callN T.told_at T.b_told_at (ok_told_at T) (hr.mono (by decide)) (errTk tk) .nil (fun _ => .nil) (da_cons (de_var 4 (pv 4)) (da_cons (de_ix hr (de_var 1 (pv 1)) (de_c pe_int (fun _ => .int _))) da_nil))) (dg_tup (by rfl) (dgs_cons (dg_name (pg_name (i := 6) sc_applied.nd rfl (Or.inl rfl))) (dgs_cons (dg_name (pg_name (i := 7) sc_applied.nd rfl (Or.inl rfl))) (dgs_cons (dg_name (pg_name (i := 8) sc_applied.nd rfl (Or.inl rfl))) dgs_nil)))))
  (ds_cons (ds_set (fun te he => ps_set (i := 7) sc_applied.nd rfl (Or.inl rfl) he) (de_ix hr (de_callN T.told_at T.b_told_at (ok_told_at T) (hr.mono (by decide)) (errTk tk) .nil (fun _ => .nil) (da_cons (de_var 4 (pv 4)) (da_cons (de_ix hr (de_var 1 (pv 1)) (de_c pe_int (fun _ => .int _))) da_nil))) (de_c pe_int (fun _ => .int _))))
  (ds_one (ds_ret (de_callN T.without T.b_without (ok_without T) (hr.mono (by decide)) (errTk tk) .nil (fun _ => .nil) (da_cons (de_callN T.with_told T.b_with_told (ok_with_told T) (hr.mono (by decide)) (errTk tk) .nil (fun _ => .nil) (da_cons (de_var 4 (pv 4)) (da_cons (de_ix hr (de_var 1 (pv 1)) (de_c pe_int (fun _ => .int _))) (da_cons (de_tup (da_cons (de_var 6 (pv 6)) (da_cons (de_var 7 (pv 7)) (da_cons (de_var 8 (pv 8)) da_nil)))) da_nil)))) (da_cons (de_ix hr (de_var 1 (pv 1)) (de_c pe_int (fun _ => .int _))) da_nil)))))))
  ds_nil)
  (ds_one (ds_ret (de_var 4 (pv 4)))))))))
theorem ok_applied (T : Txt P w K mg) : FnG P w K mg base 5 (My.fa mg "applied") (fdOf K (My.fa mg "applied")) ["tree", "result", "key"] (spD ⟨K, w, mg⟩ none 3 fn_applied) := fn_body none T.applied.F sc_applied (by decide) (bd_applied T)

def b_law_fault : SM := (dSeq (dTry caD (dDrop (dCall true none 3 [] fn_applied (dCons (dVar 0) (dCons (dVar 1) (dCons (dVar 2) dNil)))))
  [("BadPlan", 3, (gCons (gStr "plan") (gCons (gIs "BadPlan" true) gNil))), ("NoKey", 3, (gCons (gStr "key") (gCons (gFld "NoKey" "key") gNil)))])
  (dRet (dC .non)))
def fn_law_fault : List D → FOut := runF none 4 3 b_law_fault
theorem bd_law_fault (T : Txt P w K mg) : Bdy P w K mg base ["_law_tree", "_law_result", "_law_key", "e"] "_law_fault" s_law_fault (My.fa mg "_law_fault") 5 b_law_fault := fun cdv A outer s H E hr tk hp => (ds_cons (ds_try rfl rfl sc_law_fault.nd tk T.ca (fun W2 pn xe tk2 hp2 => (ds_one (ds_expr (de_callN T.applied T.b_applied (ok_applied T) (hr.mono (by decide)) (errTk tk2) .nil (fun _ => .nil) (da_cons (de_var 0 (pv 0)) (da_cons (de_var 1 (pv 1)) (da_cons (de_var 2 (pv 2)) da_nil)))))))
  (.cons (i := 3) rfl rfl ⟨by rfl, by decide, .inl T.e_BadPlan.T.gC⟩ (fun a oe cls d pn hz hv => su_ret (xps_cons xp_str (xps_cons (xp_isC T.x_BadPlan T.w_BadPlan_WalksError T.n_isinstance hz hv (pv 3) (pe_glob (v := .ref (My.fa mg "WalksError")) (by rfl) T.c_WalksError rfl)) xps_nil))) (.cons (i := 3) rfl rfl ⟨by rfl, by decide, .inl T.e_NoKey.T.gC⟩ (fun a oe cls d pn hz hv => su_ret (xps_cons xp_str (xps_cons (xp_fld T.e_NoKey (by decide) hz hv (pv 3)) xps_nil))) .nil)))
  (ds_one (ds_ret (de_c pe_non (fun _ => .non)))))
theorem ok_law_fault (T : Txt P w K mg) : FnG P w K mg base 6 (My.fa mg "_law_fault") (fdOf K (My.fa mg "_law_fault")) ["_law_tree", "_law_result", "_law_key"] (spD ⟨K, w, mg⟩ none 3 fn_law_fault) := fn_body none T.law_fault.F sc_law_fault (by decide) (bd_law_fault T)

end Pu
namespace Pu
open PySem PySem.Spec PyProof.Rows L2 My
variable {P : Program} {w : World} {K : PySem.W.Frag} {mg : Str → Option Value} {base : Heap}
def l0_law : SM := (dSeq (dSet 8 (dAndV (d1 (isG gTupT ((["Tree"] : List Str).map fun c => (c, false))) (dVar 7)) (d2 neD (dFr (dLc (dItA (dVar 6)) (gN 9) (dT2 eqD (dN (one1 reprX) (dCons (dVar 9) dNil)) (dN (one1 reprX) (dCons (dVar 7) dNil))) (dVar 9) [9])) (dLst dNil))))
  (dSeq (dSet 10 (dIfE (dB (dVar 8)) (dC .non) (dTup (dCons (dC (.str "plan")) (dCons (dC (.bl true)) dNil)))))
  (dSeq (dIf (dT2 neD (dCall true none 3 [] fn_law_fault (dCons (dVar 5) (dCons (dVar 7) (dCons (dC (.int 5)) dNil)))) (dVar 10))
  (dRet (dC (.bl false)))
  dNx)
  (dSeq (dIf (dAnd (dB (dVar 8)) (dT2 inD (d2 ixD (dVar 7) (dC (.int 0))) (dTup (dCons (dC (.str "attach")) (dCons (dC (.str "plant")) dNil)))))
  (dSet 10 (dTup (dCons (dC (.str "key")) (dCons (dC (.str "a")) dNil))))
  dNx)
  (dIf (dT2 neD (dCall true none 3 [] fn_law_fault (dCons (dVar 5) (dCons (dVar 7) (dCons (dC .non) dNil)))) (dVar 10))
  (dRet (dC (.bl false)))
  dNx)))))
def l1_law : SM := (dIf (dT2 (isN true) (dCall true none 3 [] fn_law_fault (dCons (dVar 5) (dCons (dVar 7) (dCons (d2 powD (dC (.int 10)) (dC (.int 30))) dNil)))) (dC .non))
  (dRet (dC (.bl false)))
  dNx)
def l2_law : SM := (dSeq (dSet 3 (dCall true (some 0) 2 [] fn_law_values (dCons (dVar 1) (dCons (dCall true (some 0) 2 [] fn_law_draw (dCons (dVar 1) (dCons (dC (.int 7)) dNil))) dNil))))
  (dSeq (dSet 4 (dCall true (some 0) 2 [] (fn_law_grown 12) (dCons (dVar 1) (dCons (dVar 3) dNil))))
  (dSeq (dPar [5, 6] (xV (dMake "Tree" true 1 [] fn_Tree_init (dCons (dVar 4) dNil)) (xV (dCall true none 1 [] fn_law_all_results (dCons (dVar 4) dNil)) xNil)))
  (dSeq (dFor (dItA (dCall true (some 0) 2 [] fn_law_odd_results (dCons (dVar 1) (dCons (dVar 4) dNil)))) (gN 7)
  l0_law)
  (dSeq (dFor (dItA (dSl (dCall true (some 0) 2 [] fn_law_shuffled (dCons (dVar 1) (dCons (dVar 6) dNil))) pNone (pSome (dC (.int 12))))) (gN 7)
  l1_law)
  (dIf (dT2 neD (dN (one1 reprX) (dCons (d1 (fldC ["Tree"] "told") (dVar 5)) dNil)) (dN (one1 reprX) (dCons (dVar 4) dNil)))
  (dRet (dC (.bl false)))
  dNx))))))
def b_law : SM := (dSeq (dSetO 1 (dCallF true none 1 [] fn_law_pen (dCons (dVar 0) dNil)))
  (dSeq (dFor (dRg1 (dCons (d2 addD (dC (.int 3)) (dN (two2 minI) (dCons (dC (.int 4)) (dCons (dN (one1 lenD) (dCons (dVar 0) dNil)) dNil)))) dNil)) (gN 2)
  l2_law)
  (dRet (dC (.bl true)))))
def fn_law : List D → FOut := runF none 11 1 b_law
theorem bd_law (T : Txt P w K mg) : Bdy P w K mg base ["_law_script", "_law_pen_here", "_law_turn", "_law_values_here", "_law_told", "_law_tree", "_law_right", "_law_result", "_law_is_fit", "_law_one", "_law_due"] "law" s_law (My.fa mg "law") 18 b_law := fun cdv A outer s H E hr tk hp => (ds_cons (ds_setO (fun te he => ps_set (i := 1) sc_law.nd rfl (Or.inl rfl) he) (df_call T.law_pen T.b_law_pen (ok_law_pen T) (hr.mono (by decide)) (errTk tk) .nil (fun _ => .nil) (da_cons (de_var 0 (pv 0)) da_nil)))
  (ds_cons (ds_for hp (by rfl) (di_rg1 T.n_range (da_cons (de_add (de_c pe_int (fun _ => .int _)) (de_min2 T.n_min (by rfl) (da_cons (de_c pe_int (fun _ => .int _)) (da_cons (de_len T.n_len (da_cons (de_var 0 (pv 0)) da_nil)) da_nil)))) da_nil)) (dg_name (pg_name (i := 2) sc_law.nd rfl (Or.inl rfl)))
  (ds_cons (ds_set (fun te he => ps_set (i := 3) sc_law.nd rfl (Or.inl rfl) he) (de_callN T.law_values T.b_law_values (ok_law_values T) (hr.mono (by decide)) (errTk tk) .nil (fun _ => .nil) (da_cons (de_var 1 (pv 1)) (da_cons (de_callN T.law_draw T.b_law_draw (ok_law_draw T) (hr.mono (by decide)) (errTk tk) .nil (fun _ => .nil) (da_cons (de_var 1 (pv 1)) (da_cons (de_c pe_int (fun _ => .int _)) da_nil))) da_nil))))
  (ds_cons (ds_set (fun te he => ps_set (i := 4) sc_law.nd rfl (Or.inl rfl) he) (de_callN T.law_grown T.b_law_grown (ok_law_grown T 12) (hr.mono (by decide)) (errTk tk) .nil (fun _ => .nil) (da_cons (de_var 1 (pv 1)) (da_cons (de_var 3 (pv 3)) da_nil))))
  (ds_cons (ds_par2 (fun ta ha => ps_par (by rfl) sc_law.nd (i := 5) (j := 6) rfl rfl (by decide) rfl rfl ha (by rfl)) (dx_v (de_make T.c_Tree T.k_Tree T.b_Tree_init (ok_Tree_init T) (hr.mono (by decide)) (errTk tk) .nil (fun _ => .nil) (da_cons (de_var 4 (pv 4)) da_nil)) (dx_v (de_callN T.law_all_results T.b_law_all_results (ok_law_all_results T) (hr.mono (by decide)) (errTk tk) .nil (fun _ => .nil) (da_cons (de_var 4 (pv 4)) da_nil)) dx_nil)))
  (ds_cons (ds_for hp (by rfl) (di_any (de_callN T.law_odd_results T.b_law_odd_results (ok_law_odd_results T) (hr.mono (by decide)) (errTk tk) .nil (fun _ => .nil) (da_cons (de_var 1 (pv 1)) (da_cons (de_var 4 (pv 4)) da_nil)))) (dg_name (pg_name (i := 7) sc_law.nd rfl (Or.inr rfl)))
  (ds_cons (ds_set (fun te he => ps_set (i := 8) sc_law.nd rfl (Or.inl rfl) he) (de_and (de_isTup (cs := ["Tree"]) T.ins T.n_isinstance T.n_tuple (de_var 7 (pv 7))) (de_one (de_ne hr (DF.de (df_lc (pe_lc (own := [("_law_one", 9)]) (g := tG ⟨K, w, mg⟩ (gN 9) [9]) (tt := tQ ⟨K, w, mg⟩ (fun cls d _ H => E cls d H) (dT2 eqD (dN (one1 reprX) (dCons (dVar 9) dNil)) (dN (one1 reprX) (dCons (dVar 7) dNil)))) (te := tP ⟨K, w, mg⟩ (fun cls d _ H => E cls d H) (dVar 9)) (by rfl) sc_law.nd (di_any (de_var 6 (pv 6))) (blkOk_by (own := [("_law_one", 9)]) (N := ["_law_script", "_law_pen_here", "_law_turn", "_law_values_here", "_law_told", "_law_tree", "_law_right", "_law_result", "_law_is_fit", "_law_one", "_law_due"]) (sc := defScope s_law) (by decide +kernel)) (fun _ _ _ _ _ => (dg_name (pg_name (i := 9) sc_law.nd rfl (Or.inl rfl)))) (fun _ _ _ _ _ => (dts_one (dt_eq hr (de_reprX hr T.n_repr (da_cons (de_var 9 (pv 9)) da_nil)) (de_reprX hr T.n_repr (da_cons (de_var 7 (pv 7)) da_nil))))) (fun _ _ _ _ _ => (de_var 9 (pv 9)))))) (de_lst da_nil)))))
  (ds_cons (ds_set (fun te he => ps_set (i := 10) sc_law.nd rfl (Or.inl rfl) he) (de_if (dt_b (de_var 8 (pv 8))) (de_c pe_non (fun _ => .non)) (de_tup (da_cons (de_c pe_str (fun _ => .str _)) (da_cons (de_c pe_bl (fun _ => .bl _)) da_nil)))))
  (ds_cons (ds_if (dt_ne hr (de_callN T.law_fault T.b_law_fault (ok_law_fault T) (hr.mono (by decide)) (errTk tk) .nil (fun _ => .nil) (da_cons (de_var 5 (pv 5)) (da_cons (de_var 7 (pv 7)) (da_cons (de_c pe_int (fun _ => .int _)) da_nil)))) (de_var 10 (pv 10)))
  (ds_one (ds_ret (de_c pe_bl (fun _ => .bl _))))
  ds_nil)
  (ds_cons (ds_if (PW.pt (dw_and (dt_b (de_var 8 (pv 8))) (dw_and1 (dt_in hr (de_ix hr (de_var 7 (pv 7)) (de_c pe_int (fun _ => .int _))) (de_tup (da_cons (de_c pe_str (fun _ => .str _)) (da_cons (de_c pe_str (fun _ => .str _)) da_nil)))))))
  (ds_one (ds_set (fun te he => ps_set (i := 10) sc_law.nd rfl (Or.inl rfl) he) (de_tup (da_cons (de_c pe_str (fun _ => .str _)) (da_cons (de_c pe_str (fun _ => .str _)) da_nil)))))
  ds_nil)
  (ds_one (ds_if (dt_ne hr (de_callN T.law_fault T.b_law_fault (ok_law_fault T) (hr.mono (by decide)) (errTk tk) .nil (fun _ => .nil) (da_cons (de_var 5 (pv 5)) (da_cons (de_var 7 (pv 7)) (da_cons (de_c pe_non (fun _ => .non)) da_nil)))) (de_var 10 (pv 10)))
  (ds_one (ds_ret (de_c pe_bl (fun _ => .bl _))))
  ds_nil)))))))
  (ds_cons (ds_for hp (by rfl) (di_any (de_slice (de_callN T.law_shuffled T.b_law_shuffled (ok_law_shuffled T) (hr.mono (by decide)) (errTk tk) .nil (fun _ => .nil) (da_cons (de_var 1 (pv 1)) (da_cons (de_var 6 (pv 6)) da_nil))) do_none (do_some (de_c pe_int (fun _ => .int _))))) (dg_name (pg_name (i := 7) sc_law.nd rfl (Or.inr rfl)))
  (ds_one (ds_if (dt_isnt (de_callN T.law_fault T.b_law_fault (ok_law_fault T) (hr.mono (by decide)) (errTk tk) .nil (fun _ => .nil) (da_cons (de_var 5 (pv 5)) (da_cons (de_var 7 (pv 7)) (da_cons (de_pow (de_c pe_int (fun _ => .int _)) (de_c pe_int (fun _ => .int _))) da_nil)))) (de_c pe_non (fun _ => .non)))
  (ds_one (ds_ret (de_c pe_bl (fun _ => .bl _))))
  ds_nil)))
  (ds_one (ds_if (dt_ne hr (de_reprX hr T.n_repr (da_cons (de_fld T.f_told (de_var 5 (pv 5))) da_nil)) (de_reprX hr T.n_repr (da_cons (de_var 4 (pv 4)) da_nil)))
  (ds_one (ds_ret (de_c pe_bl (fun _ => .bl _))))
  ds_nil))))))))
  (ds_one (ds_ret (de_c pe_bl (fun _ => .bl _))))))
theorem ok_law (T : Txt P w K mg) : FnG P w K mg base 19 (My.fa mg "law") (fdOf K (My.fa mg "law")) ["_law_script"] (spD ⟨K, w, mg⟩ none 1 fn_law) := fn_body none T.law.F sc_law (by decide) (bd_law T)
end Pu
/-! the head's facts: the layer's hookX, with the own errors' __init__ and the statics -/
namespace My
open PySem PySem.Spec PyProof.Rows L2 He
/-! ### an own error's class -/
def oexB (K : PySem.W.Frag) (C : Addr) : Bool := (match K.lookup C with
  | some ⟨.type t, _, .cls cd, sl⟩ => (match cd.mro, sl.toList with
    | .ref C' :: bm, [_, _, _, _, some (.builtin n), _] => decide (t = "type") && (decide (C' = C) && (decide (n = "ValueError.__new__") && (!cd.hasDel && (cd.hasDict && PySem.HandSPX.refsVE bm))))
    | _, _ => false)
  | _ => false) && (decide (PySem.W.findIn K (.ref C) "__setattr__" = some (some (.builtin "object.__setattr__"))) && (decide (PySem.W.subIn K (.ref C) (.type "BaseException") = some true) && (decide (PySem.W.typeIn K (.ref C) = some (.type "type")) && PySem.W.keepIn K (.ref C))))
theorem oexB_ok {K : PySem.W.Frag} {C : Addr} (h : oexB K C = true) : OexC K C := by
  obtain ⟨h1, h⟩ := ba h
  obtain ⟨h2, h⟩ := ba h
  obtain ⟨h3, h⟩ := ba h
  obtain ⟨h4, h5⟩ := ba h
  refine ⟨?_, of_decide_eq_true h2, of_decide_eq_true h3, of_decide_eq_true h4, h5⟩
  split at h1
  · rename_i t dd cd sl hl
    split at h1
    · rename_i C' bm k0 k1 k2 k3 n k5 hm hs
      obtain ⟨a1, h1⟩ := ba h1
      obtain ⟨a2, h1⟩ := ba h1
      obtain ⟨a3, h1⟩ := ba h1
      obtain ⟨a4, h1⟩ := ba h1
      obtain ⟨a5, a6⟩ := ba h1
      obtain rfl := of_decide_eq_true a1
      obtain rfl := of_decide_eq_true a2
      obtain rfl := of_decide_eq_true a3
      obtain ⟨nm, bs, mro, ns, q, hdct, sn, sub, ab, col, del⟩ := cd
      have e1 : mro = _ := hm
      have e2 : del = false := by simpa using a4
      have e3 : hdct = true := a5
      have e4 : sl = #[k0, k1, k2, k3, some (.builtin "ValueError.__new__"), k5] := by
        rw [← Array.toList_inj, hs]
      subst e1 e2 e3 e4
      exact ⟨_, _, _, _, _, _, _, _, _, _, _, _, _, _, _, hl, a6⟩
    · cases h1
  · cases h1
/-! ### its __init__ -/
structure IniD where
  cls : Str
  st : Stmt
  fs : List Str
abbrev IniW : Type := Option (Str × Arguments × FuncBody × Scope × Addr × Addr)
def iniW (K : PySem.W.Frag) (C : Addr) : IniW := match K.lookup (fi K C) with
  | some ⟨_, _, .func fd, _⟩ => some (fd.name, fd.params, fd.body, fd.scope, fd.globals, fd.builtins)
  | _ => none
def IniD.val (d : IniD) : IniW := some ("__init__", defArgs d.st, .stmts (defBody d.st), defScope d.st, mainGlobals, builtinsNs)
def codeB (file : Str) (K : PySem.W.Frag) (c : Addr) : Bool := match K.lookup c with
  | some ⟨_, _, .fields vs, _⟩ => (match (vs[2]? : Option Value) with
    | some (.str f _) => decide (f = file)
    | _ => false)
  | _ => false
def cellB (K : PySem.W.Frag) (c C : Addr) : Bool := match K.lookup c with
  | some ⟨_, _, .cell (some (.ref D)), _⟩ => decide (D = C)
  | _ => false
def iniB (file : Str) (K : PySem.W.Frag) (C : Addr) : Bool := match K.lookup (fi K C) with
  | some ⟨_, _, .func fd, _⟩ => decide (fd.defaults = .none) && (match fd.code, fd.closure with
    | .ref c, [(n, cc)] => decide (n = "__class__") && (PySem.W.codeIn K (.ref c) fd.qualname && (codeB file K c && cellB K cc C))
    | _, _ => false)
  | _ => false
def errB (file : Str) (K : PySem.W.Frag) (C : Addr) (fs : List Str) : Bool := oexB K C && (decide (PySem.W.findIn K (.ref C) "__init__" = some (some (.ref (fi K C)))) && (decide (PySem.W.typeIn K (.ref (fi K C)) = some (.type "function")) && (iniB file K C &&
  (decide (PySem.W.ks_superIn K C C "__init__" = some (some (.builtin "ValueError.__init__"))) && (decide (PySem.W.subIn K (.ref C) (.type "ValueError") = some true) && (decide (PySem.W.mroIn K C (.ref C) = some true) && (decide (PySem.W.nsIn K cStatics "thirdparty.any" = some none) &&
  ((fs.all fun f => decide (PySem.W.findIn K (.ref C) f = some none)) && xfB K C))))))))
theorem err_ok {P : Program} {K : PySem.W.Frag} {mg : Str → Option Value} {d : IniD} (gC : mg d.cls = some (.ref (fa mg d.cls))) (h : errB P.main.file K (fa mg d.cls) d.fs = true) (hi : iniW K (fa mg d.cls) = d.val) (S : ErrS d.st d.fs) (sup : mg "super" = none) (top : (P.main.scope.names.lookup ("super" : Str)).isSome = false)
    (hb : ∀ (q : Str) (kV dc pm : Value) (an : Option Addr) (cdv ct : Value) (cc : Addr) (us : List Value), us.length = (("self" : Str) :: d.fs).length → bindArgs (PySem.W.ksFn "__init__" q (defArgs d.st) (defBody d.st) (defScope d.st) .none kV dc pm an cdv ct cc) ⟨us, []⟩ = pure ((("self" : Str) :: d.fs).zip us)) :
    Ex P K mg d.cls d.st d.fs := by
  obtain ⟨h1, h⟩ := ba h
  obtain ⟨h2, h⟩ := ba h
  obtain ⟨h3, h⟩ := ba h
  obtain ⟨h4, h⟩ := ba h
  obtain ⟨h5, h⟩ := ba h
  obtain ⟨h6, h⟩ := ba h
  obtain ⟨h7, h⟩ := ba h
  obtain ⟨h8, h⟩ := ba h
  obtain ⟨h9, h10⟩ := ba h
  have key : ∃ (oc : Value) (od : Option Addr) (q : Str) (kV dc pm : Value) (an : Option Addr) (cda : Addr) (ct : Value) (cc : Addr) (osl : Array (Option Value)) (vs : Array Value) (file : Str) (tf : Tok) (ccl : Value) (cdd : Option Addr) (ccs : Array (Option Value)) (cl : Value) (cld : Option Addr) (csl : Array (Option Value)),
      fdOf K (fi K (fa mg d.cls)) = PySem.W.ksFn "__init__" q (defArgs d.st) (defBody d.st) (defScope d.st) .none kV dc pm an (.ref cda) ct cc ∧ K.lookup (fi K (fa mg d.cls)) = some ⟨oc, od, .func (fdOf K (fi K (fa mg d.cls))), osl⟩ ∧ PySem.W.codeIn K (.ref cda) q = true ∧ K.lookup cda = some ⟨ccl, cdd, .fields vs, ccs⟩ ∧ vs[2]? = some (.str file tf) ∧ ((P.main.file : Str) == file) = true ∧ K.lookup cc = some ⟨cl, cld, .cell (some (.ref (fa mg d.cls))), csl⟩ := by
    unfold iniB at h4
    unfold iniW at hi
    unfold fdOf
    split at h4
    · rename_i oc od fd osl hl
      rw [hl] at hi ⊢
      obtain ⟨a1, h4⟩ := ba h4
      split at h4
      · rename_i c n cc hc hcl
        obtain ⟨a2, h4⟩ := ba h4
        obtain ⟨a3, h4⟩ := ba h4
        obtain ⟨a4, a5⟩ := ba h4
        obtain ⟨n1, n2, n3, n4, n5, n6, n7, n8, n9, n10, n11, n12, n13, n14, n15⟩ := fd
        have e2 : (some (n1, n3, n4, n5, n6, n15) : IniW) = some (("__init__" : Str), defArgs d.st, FuncBody.stmts (defBody d.st), defScope d.st, mainGlobals, builtinsNs) := hi
        simp only [Option.some.injEq, Prod.mk.injEq] at e2
        obtain ⟨e1, e3, e4, e5, e6, e7⟩ := e2
        have e8 : n8 = .none := of_decide_eq_true a1
        have e9 : n13 = .ref c := hc
        have e10 : n7 = [(n, cc)] := hcl
        have e11 : n = "__class__" := of_decide_eq_true a2
        subst e1 e3 e4 e5 e6 e7 e8 e9 e10 e11
        unfold codeB at a4
        split at a4
        · rename_i ccl cdd vs ccs hk
          split at a4
          · rename_i file tf hv
            unfold cellB at a5
            split at a5
            · rename_i cl cld D csl hcc
              obtain rfl := of_decide_eq_true a5
              have ef : file = P.main.file := of_decide_eq_true a4
              exact ⟨oc, od, n2, n9, n10, n11, n12, c, n14, cc, osl, vs, file, tf, ccl, cdd, ccs, cl, cld, csl, rfl, rfl, a3, hk, hv, by rw [ef]; exact beq_self_eq_true _, hcc⟩
            · cases a5
          · cases a4
        · cases a4
      · cases h4
    · cases h4
  refine ⟨⟨oexB_ok h1, gC, of_decide_eq_true h2, of_decide_eq_true h3, key, of_decide_eq_true h5, of_decide_eq_true h6, of_decide_eq_true h7, of_decide_eq_true h8, sup, top, fun f hf => of_decide_eq_true (List.all_eq_true.mp h9 f hf)⟩, S, ?_, xfB_ok h10⟩
  obtain ⟨oc, od, q, kV, dc, pm, an, cda, ct, cc, osl, vs, file, tf, ccl, cdd, ccs, cl, cld, csl, e, _⟩ := key
  rw [e]
  exact .all (hb q kV dc pm an (.ref cda) ct cc)
/-- its keywords, all of them, in their order -/
theorem kw_of {P : Program} {K : PySem.W.Frag} {mg : Str → Option Value} {x : Str} {st : Stmt} {fs : List Str} (R : Ex P K mg x st fs)
    (hb : ∀ (q : Str) (kV dc pm : Value) (an : Option Addr) (cdv ct : Value) (cc : Addr) (u : Value) (ws : List Value), ws.length = fs.length → bindArgs (PySem.W.ksFn "__init__" q (defArgs st) (defBody st) (defScope st) .none kV dc pm an cdv ct cc) ⟨[u], fs.zip ws⟩ = pure ((("self" : Str) :: fs).zip (u :: ws))) :
    ∀ (s : Shared) (u : Value) (ws : List Value), ws.length = fs.length → BindsTo s (fdOf K (fi K (fa mg x))) ⟨[u], fs.zip ws⟩ ((("self" : Str) :: fs).zip (u :: ws)) := fun s u ws hl => by
  obtain ⟨oc, od, q, kV, dc, pm, an, cda, ct, cc, osl, vs, file, tf, ccl, cdd, ccs, cl, cld, csl, e, _⟩ := R.T.lk
  rw [e]
  exact .of_eq (hb q kV dc pm an (.ref cda) ct cc u ws hl)
/-! ### the Hook -/
/-- what an object names: a dict's values, a sequence's items, a class's namespace, a def's code and cells -/
def refsM (o : Obj) : List Addr := match o.data with
  | .seq its _ => its.toList.flatMap refV
  | .dict es _ => es.toList.flatMap fun e => refV e.val
  | .func fd => refV fd.code ++ (refV fd.defaults ++ fd.closure.map (·.2))
  | .cls cd => [cd.ns]
  | _ => []
def newM (g : Addr → Option Obj) (as : List Addr) : List Addr := as.flatMap fun a => match g a with
  | some o => refsM o
  | none => []
/-- what the module's names reach in n steps, level by level -/
def asM (g : Addr → Option Obj) : Nat → List Addr → List Addr
  | 0, as => as
  | n + 1, as => as ++ asM g n (newM g as)
structure SaysM (fa : List Fa) (fn : List DefD) (ts : List Tab) (tf : List Defn) (ex : PySem.W.Frag → Bool) (ini : List IniD) (w : World) (h : Heap) (K : PySem.W.Frag) : Prop where
  t : SaysT fa fn ts w K
  more : ex K = true
  hd : ∀ p ∈ tf, PySem.W.codeHdIn K (cT K p).1 (cT K p).2 = true
  out : ∀ p ∈ tf, K.lookup (cT K p).2 = none
  empty : ∀ p ∈ tf, h.get? (cT K p).2 = some { cls := .none, data := .fields #[] }
  inis : ini.map (fun d => iniW K (ga K d.cls)) = ini.map IniD.val
abbrev AlM : Type := (AlT × Bool) × List IniW
def obsK (fa : List Fa) (fn : List DefD) (ts : List Tab) (tf : List Defn) (ex : PySem.W.Frag → Bool) (ini : List IniD) (g : Addr → Option Obj) (K : PySem.W.Frag) : AlM := ((obsT fa fn ts K, ex K && tabsB g tf K), ini.map fun d => iniW K (ga K d.cls))
def obsM (n : Nat) (fa : List Fa) (fn : List DefD) (ts : List Tab) (tf : List Defn) (ex : PySem.W.Frag → Bool) (ini : List IniD) (g : Addr → Option Obj) : AlM := obsK fa fn ts tf ex ini g (frT g (cStatics :: sysModules :: asM g n [mainGlobals]))
def valM (fn : List DefD) (ts : List Tab) (ini : List IniD) (w : World) : AlM := ((valT fn ts w, true), ini.map IniD.val)
theorem saysM_of {as : List Addr} {fa : List Fa} {fn : List DefD} {ts : List Tab} {tf : List Defn} {ex : PySem.W.Frag → Bool} {ini : List IniD} {w : World} {h : Heap} (e : obsK fa fn ts tf ex ini h.get? (frT h.get? as) = valM fn ts ini w) : SaysM fa fn ts tf ex ini w h (frT h.get? as) := by
  have e1 : obsT fa fn ts (frT h.get? as) = valT fn ts w := congrArg (fun z : AlM => z.1.1) e
  have e2 : (ex (frT h.get? as) && tabsB h.get? tf (frT h.get? as)) = true := congrArg (fun z : AlM => z.1.2) e
  have e3 : ini.map (fun d => iniW (frT h.get? as) (ga (frT h.get? as) d.cls)) = ini.map IniD.val := congrArg (fun z : AlM => z.2) e
  obtain ⟨h1, h2⟩ := ba e2
  have key : ∀ p ∈ tf, PySem.W.codeHdIn (frT h.get? as) (cT (frT h.get? as) p).1 (cT (frT h.get? as) p).2 = true ∧ ∃ o, h.get? (cT (frT h.get? as) p).2 = some o ∧ emptyTab o = true := fun p hp => by
    obtain ⟨h3, h4⟩ := ba (List.all_eq_true.mp h2 p hp)
    refine ⟨h3, ?_⟩
    cases q : h.get? (cT (frT h.get? as) p).2 with
    | none =>
      rw [q] at h4
      cases h4
    | some o =>
      rw [q] at h4
      exact ⟨o, rfl, h4⟩
  exact ⟨e1, h1, fun p hp => (key p hp).1, fun p hp => by
    obtain ⟨_, o, q, z⟩ := key p hp
    exact frT_none q z, fun p hp => by
    obtain ⟨_, o, q, z⟩ := key p hp
    rw [q, emptyTab_eq z], e3⟩
def hookM (n : Nat) (fa : List Fa) (fn : List DefD) (ts : List Tab) (tf : List Defn) (ex : PySem.W.Frag → Bool) (ini : List IniD) : PySem.W.Hook where
  α := AlM
  obs := fun s => obsM n fa fn ts tf ex ini s.heap.get?
  val := fun w => valM fn ts ini w
  says := fun w h => ∃ K : PySem.W.Frag, K.In h ∧ SaysM fa fn ts tf ex ini w h K
  of := fun _ _ e => ⟨_, frT_in, saysM_of e⟩
  keeps := fun _ _ _ ⟨K, hK, c⟩ k => ⟨K, PySem.W.Frag.In.keeps hK k, ⟨c.t, c.more, c.hd, c.out, fun p hp => k _ _ (c.empty p hp), c.inis⟩⟩
theorem obsM_eq {n : Nat} {fa : List Fa} {fn : List DefD} {ts : List Tab} {tf : List Defn} {ex : PySem.W.Frag → Bool} {ini : List IniD} {g : Addr → Option Obj} {s : Shared} (h : ∀ a, g a = s.heap.get? a) : obsM n fa fn ts tf ex ini g = (hookM n fa fn ts tf ex ini).obs s := by
  have e : g = s.heap.get? := funext h
  rw [e] <;> rfl
theorem SaysM.ini {fa : List Fa} {fn : List DefD} {ts : List Tab} {tf : List Defn} {ex : PySem.W.Frag → Bool} {ini : List IniD} {w : World} {h : Heap} {K : PySem.W.Frag} (c : SaysM fa fn ts tf ex ini w h K) {d : IniD} (hd : d ∈ ini) : iniW K (ga K d.cls) = d.val := by
  obtain ⟨i, hi, e⟩ := List.mem_iff_getElem.mp hd
  have e2 := congrArg (fun l => l[i]?) c.inis
  simp only [List.getElem?_map, List.getElem?_eq_getElem hi, Option.map_some, e] at e2
  exact Option.some.inj e2
/-- a def by its datum -/
theorem df_of {K : PySem.W.Frag} {h : Heap} {mg : Str → Option Value} {fa0 : List Fa} {fn : List DefD} {x : Str} {st : Stmt} {ps : List Str} (X : K.In h) (G : h.Ns mainGlobals mg) (c : SaysD fa0 fn K) (hg : Fa.glo x ∈ fa0) (hd : (⟨(x, none), x, x, defArgs st, defBody st, defScope st, [], []⟩ : DefD) ∈ fn)
    (b : ∀ (kV doc pm : Value) (an : Option Addr) (cdv ct : Value) (us : List Value), us.length = ps.length → bindArgs (PySem.W.fnOf x x (defArgs st) (defBody st) (defScope st) .none kV doc pm an cdv ct) ⟨us, []⟩ = pure (ps.zip us)) : Df K mg x st ps := by
  obtain ⟨fd, F⟩ := c.defs hd
  obtain ⟨oc, od, dV, kV, doc, pm, an, cdv, ct, osl, e, lk, hcd, hdv, _⟩ := F.ex
  obtain rfl : dV = .none := by
    rcases hdv with ⟨_, z⟩ | ⟨z, _⟩
    · exact z
    · exact absurd rfl z
  subst e
  exact Df.of X G (eqO_ok (c.facts hg)) lk hcd F.kp b
theorem fa_ga {K : PySem.W.Frag} {h : Heap} {mg : Str → Option Value} {fa0 : List Fa} {fn : List DefD} {x : Str} (X : K.In h) (G : h.Ns mainGlobals mg) (c : SaysD fa0 fn K) (hg : Fa.glo x ∈ fa0) : mg x = some (.ref (My.fa mg x)) ∧ My.fa mg x = ga K x := by
  have e := glo_ok X G (c.facts hg)
  have e2 := fa_eq e
  rw [e2]
  exact ⟨e, rfl⟩
end My
/-! an own error under isinstance, by one Bool -/
namespace My
open PySem PySem.Spec PyProof.Rows L2 He
def excB (K : PySem.W.Frag) (D : Addr) : Bool := (decide (PySem.W.findIn K (.ref D) "__getattribute__" = some (some (.builtin "BaseException.__getattribute__"))) && (decide (PySem.W.findIn K (.ref D) "__getattr__" = some none) && (decide (PySem.W.subIn K (.ref D) (.type "BaseException") = some true) && (PySem.W.hasDictIn K D && (decide (PySem.W.findIn K (.ref D) "__class__" = some (some (.builtin "object.__class__"))) && (decide (PySem.W.specialIn K (.builtin "object.__class__") "__get__" = some (some (.builtin "getset_descriptor.__get__"))) && (decide (PySem.W.takesIn K (.builtin "object.__class__") = some true) && decide (PySem.W.mroIn K D (.type "object") = some true))))))))
theorem excB_ok {K : PySem.W.Frag} {D : Addr} (h : excB K D = true) : ExcC K D := by
  obtain ⟨h1, h⟩ := ba h
  obtain ⟨h2, h⟩ := ba h
  obtain ⟨h3, h⟩ := ba h
  obtain ⟨h4, h⟩ := ba h
  obtain ⟨h5, h⟩ := ba h
  obtain ⟨h6, h⟩ := ba h
  obtain ⟨h7, h8⟩ := ba h
  exact ⟨of_decide_eq_true h1, of_decide_eq_true h2, of_decide_eq_true h3, h4, of_decide_eq_true h5, of_decide_eq_true h6, of_decide_eq_true h7, of_decide_eq_true h8⟩
end My
/-! instances of an own class under isinstance: they are none of the written types, by one Bool -/
namespace Pu
open PySem PySem.Spec PyProof.Rows L2 My
open He
def tyL : List String := ["int", "bool", "str", "list", "tuple", "dict"]
def insB (K : PySem.W.Frag) (C : Addr) : Bool := decide (PySem.W.findIn K (.ref C) "__class__" = some (some (.builtin "object.__class__"))) && (decide (PySem.W.specialIn K (.builtin "object.__class__") "__get__" = some (some (.builtin "getset_descriptor.__get__"))) && (decide (PySem.W.takesIn K (.builtin "object.__class__") = some true) && (decide (PySem.W.mroIn K C (.type "object") = some true) && (tyL.all fun T => decide (PySem.W.kitOne K (.ref C) (.type T) = some false)))))
theorem notIn_cons {K : PySem.W.Frag} {mg : Str → Option Value} {c : Str} {cs : List Str} (g : My.fa mg c = ga K c) (hc : Cls K (ga K c)) (h : insB K (ga K c) = true) (hs : NotIn K mg cs) : NotIn K mg (c :: cs) := fun x hx => by
  rcases List.mem_cons.mp hx with rfl | hx
  · rw [g]
    obtain ⟨h1, h⟩ := ba h
    obtain ⟨h2, h⟩ := ba h
    obtain ⟨h3, h⟩ := ba h
    obtain ⟨h4, h5⟩ := ba h
    exact ⟨⟨hc, of_decide_eq_true h1, of_decide_eq_true h2, of_decide_eq_true h3, of_decide_eq_true h4⟩, fun T hT => of_decide_eq_true (List.all_eq_true.mp h5 T hT)⟩
  · exact hs x hx
end Pu
/-! the end of a law row whose law is promised at the caller's own state (its guards are known): the layer's end with tables, turned -/
namespace LamX
open PySem PySem.Spec PyProof.Rows L2
/-- the promise of a def that the caller itself calls -/
structure FnAt (P : Program) (w : World) (K : PySem.W.Frag) (mg : Str → Option Value) (base : Heap) (CX : CXT) (f : Addr) (fd : FuncData) (ps : List Str) (sp : Sp) : Prop where
  run : ∀ (outer : List Env) (s : Shared) (H : Hp) (args : Args) (us : List Value) (vs : List V) (Q : VK) (E : XK), Env0 P w K mg base callerA outer s H → BindsTo s fd args (ps.zip us) → Vals vs us → sp vs H Q E →
    codeAny (model P w) callerA (.call (.ref f) args) (CR CX outer P w H s Q E) s
theorem FnAt.of {P : Program} {w : World} {K : PySem.W.Frag} {mg : Str → Option Value} {base : Heap} {x qual : Str} {st : Stmt} {f : Addr} {fd : FuncData} {N ps : List Str} {k : Nat} {sp : Sp} {cv : Value} (F : Fun K x qual st f fd) (hc : fd.code = cv) (S : FnScope N ps (defScope st)) (hr : Room (k + 1) callerA) (len : ∀ vs H Q E, sp vs H Q E → vs.length = ps.length)
    (hbody : ∀ (outer : List Env) (s : Shared) (H : Hp) (vs : List V) (Q : VK) (E : XK), Room k (callerA.deeper (envOfC qual (defScope st) s.heap.objs.size f cv)) → sp vs H Q E →
      ∃ t, PSs (cxOf CX0 P w K mg base N qual (defScope st) f cv callerA outer s H E).nox (defBody st) t ∧ t { nx := fun _ H' => Q .non H', rt := Q } (start N vs) H) : FnAt P w K mg base CX0 f fd ps sp := by
  obtain ⟨oc, od, kV, doc, pm, an, cdv, ct, osl, rfl, lk, hcd⟩ := F.ex
  have e : cdv = cv := hc
  subst e
  refine ⟨fun outer s H args us vs Q E e0 hb r hsp => ?_⟩
  refine run_ofS lk hcd S hr e0 hb r (len _ _ _ _ hsp) fun hr' => ?_
  obtain ⟨t, h, q⟩ := hbody outer s H vs Q E hr' hsp
  exact ⟨t, h.nox, q⟩
/-- law_call with tables: cs, the code objects and their tables -/
theorem law_callA {P : Program} {w : World} {K : PySem.W.Frag} {mg mb : Str → Option Value} {CX : CXT} {fa a : Addr} {cs : List (Addr × Addr)} {fd : FuncData} {x : Str} {sp : Sp} {s₁ : Shared} {vs : List Value} {ns : List Int}
    (KX : K.In s₁.heap) (hns : s₁.heap.Ns mainGlobals mg) (hb : s₁.heap.Ns builtinsNs mb) (hbb : ∀ x : Str, x ≠ "__name__" → mb x = bootBuiltins x) (hlim : s₁.heap.NoLimit) (hg : s₁.gens = #[])
    (hT : ∀ p ∈ cs, s₁.heap.get? p.2 = some { cls := .none, data := .fields #[] }) (nT : ∀ p ∈ cs, K.lookup p.2 = none) (C : ∀ p ∈ cs, PySem.W.CodeHd s₁.heap p.1 p.2)
    (hbm : ∃ (bm : Addr) (ob : Obj), mg "__builtins__" = some (.ref bm) ∧ bm ≠ builtinsNs ∧ s₁.heap.get? bm = some ob ∧ ob.cls = .type "module" ∧ ob.dict = some builtinsNs ∧ ob.data = .plain)
    (ha : s₁.heap.get? a = some { cls := .type "list", data := .seq vs.toArray }) (hi : IntsAre vs ns) (hl : ns.length ≤ sizeLine) 
    (F : ∀ base : Heap, K.In base → base.Ns mainGlobals mg → (∀ p ∈ cs, TabB base mg p.1 p.2) → FnAt P w K mg base CX fa fd [x] sp) (hbind : ∀ (s : Shared) (u : Value), BindsTo s fd ⟨[u], []⟩ [(x, u)])
    (hsp : ∀ H : Hp, (∀ p ∈ cs, H p.2 = some (.tbl #[])) → SqL K H a (ns.map V.int) → sp [.ref a] H (fun v _ => v = .bl true) fun _ _ _ => False)
    (hCX : ∀ H e s', CX [] H s₁ (fun _ _ _ => False) e s' → False) :
    codeAny (model P w) callerA (.call (.ref fa) ⟨[.ref a], []⟩) (fun r s' => r = .ok (.ret (.bool true)) ∧ OldK s₁.heap s'.heap ∧ s'.os = s₁.os ∧ AllBare s'.gens) s₁ := by
  have rv := vals_ints hi
  have lenV := hi.length
  have isT : ∀ b : Addr, b ∈ cs.map (·.2) → s₁.heap.get? b = some { cls := .none, data := .fields #[] } := fun b hb => by
    obtain ⟨p, hp, e⟩ := List.mem_map.mp hb
    rw [← e]
    exact hT p hp
  have aT : a ∉ cs.map (·.2) := fun z => by
    have q := isT a z
    rw [ha] at q
    have z' : Data.seq vs.toArray _ = Data.fields #[] := congrArg Obj.data (Option.some.inj q)
    cases z'
  have memT : ∀ p ∈ cs, p.2 ∈ cs.map (·.2) := fun p hp => List.mem_map.mpr ⟨p, hp, rfl⟩
  -- from an abstract heap in which nothing but the script and the tables may be tracked
  have core : ∀ H : Hp, (∀ p ∈ cs, H p.2 = some (.tbl #[])) → (∀ b, H b = none ∨ b ∈ cs.map (·.2) ∨ ∃ o xs, H b = some (.frz o (.lst xs))) → SqL K H a (ns.map V.int) → HOk P w H s₁.heap → (∀ b, H b ≠ none → b = a ∨ b ∈ cs.map (·.2)) → (H a ≠ none → K.lookup a = none) →
      codeAny (model P w) callerA (.call (.ref fa) ⟨[.ref a], []⟩) (fun r s' => r = .ok (.ret (.bool true)) ∧ OldK s₁.heap s'.heap ∧ s'.os = s₁.os ∧ AllBare s'.gens) s₁ := by
    intro H hH hO hS hok hA hK
    have base_of : ∀ {b : Addr} {o : Obj}, s₁.heap.get? b = some o → H b = none → (hidT s₁.heap H).get? b = some o := fun e n => hidT_get e n
    have noD : ∀ {b : Addr} {o : Obj}, s₁.heap.get? b = some o → (∀ vs n, o.data ≠ .seq vs n) → o.data ≠ .fields #[] → H b = none := fun {b o} e h1 h2 => by
      cases q : H b with
      | none => rfl
      | some u =>
        rcases hA b (by rw [q]; simp) with e' | e'
        · rw [e', ha] at e
          cases e
          exact (h1 _ _ rfl).elim
        · rw [isT b e'] at e
          cases e
          exact (h2 rfl).elim
    have noA : ∀ {b : Addr} {o : Obj} {es : Array DictEntry} {ep : Nat}, s₁.heap.get? b = some o → o.data = .dict es ep → H b = none := fun {b o es ep} e d => by
      refine noD e (fun vs n z => ?_) fun z => ?_
      · rw [d] at z
        cases z
      · rw [d] at z
        cases z
    have nsK : ∀ {b : Addr} {m : Str → Option Value}, s₁.heap.Ns b m → (hidT s₁.heap H).Ns b m := fun {b m} ⟨o, es, ep, e, d, r⟩ => ⟨o, es, ep, base_of e (noA e d), d, r⟩
    have hKb : K.In (hidT s₁.heap H) := fun b o e => base_of (KX b o e) (by
      cases q : H b with
      | none => rfl
      | some u =>
        rcases hA b (by rw [q]; simp) with e' | e'
        · rw [e'] at e q
          rw [hK (by rw [q]; simp)] at e
          cases e
        · obtain ⟨p, hp, ep⟩ := List.mem_map.mp e'
          rw [← ep, nT p hp] at e
          cases e)
    have hM : L2.Mod K mg (hidT s₁.heap H) := ⟨hKb, nsK hns, ⟨mb, nsK hb, hbb⟩, let ⟨mc, h1, h2⟩ := hlim; ⟨mc, nsK h1, h2⟩⟩
    have TB : ∀ p ∈ cs, TabB (hidT s₁.heap H) mg p.1 p.2 := fun p hp => by
      have hTp := hT p hp
      refine ⟨?_, ?_, fun z => ?_⟩
      · obtain ⟨o, us, file, tf, flags, tg, inF, text, tt, e1, r1, r2, r3, r4, r5, r6, r7, r8, hne⟩ := C p hp
        refine ⟨o, us, file, tf, flags, tg, inF, text, tt, base_of e1 (noD e1 (fun vs n z => ?_) fun z => ?_), r1, r2, r3, r4, r5, r6, r7, r8, hne⟩
        · rw [r2] at z
          cases z
        · rw [r2] at z
          cases z
          simp at r3
      · obtain ⟨bm, ob, b1, b2, b3, b4, b5, b6⟩ := hbm
        have nG : bm ≠ mainGlobals := fun q => by
          obtain ⟨o, es, ep, e, hd, _⟩ := hns
          rw [q, e] at b3
          cases b3
          rw [hd] at b6
          cases b6
        have nP : bm ≠ p.2 := fun q => by
          rw [q, hTp] at b3
          cases b3
          cases b6
        refine ⟨bm, ob, b1, b2, nG, nP, base_of b3 (noD b3 (fun vs n z => ?_) fun z => ?_), b4, b5, b6⟩
        · rw [b6] at z
          cases z
        · rw [b6] at z
          cases z
      · obtain ⟨o, es, ep, e, hd, _⟩ := hns
        rw [z, hTp] at e
        cases e
        cases hd
    have e0 : Env0 P w K mg (hidT s₁.heap H) callerA [] s₁ H := ⟨rfl, hM, fun b o e => of_hidT e, Nat.le_of_eq (hidT_size _ _), trivial, fun b hb => absurd (show b ∈ ([] : List Addr) from hb) (by simp), hok, .of_eq hg⟩
    refine codeAny_mono ((F _ hKb (nsK hns) TB).run [] s₁ H ⟨[.ref a], []⟩ [.ref a] [.ref a] _ _ e0 (hbind s₁ (.ref a)) (.cons rfl .nil) (hsp H hH hS)) fun r s' h => ?_
    cases r with
    | error e => exact (hCX H e s' h).elim
    | ok fl =>
      cases fl with
      | next => exact False.elim h
      | brk => exact False.elim h
      | cont => exact False.elim h
      | ret u =>
        obtain ⟨v, H', os, bare, un, hok', r', q⟩ := h
        have q' : v = .bl true := q
        subst q'
        obtain rfl : u = Value.bool true := r'
        have key : ∀ b o, b ∉ cs.map (·.2) → s₁.heap.get? b = some o → s'.heap.get? b = some o := fun b o nb e => by
          cases q : H b with
          | none => exact un.keep b o e q (by intro z; exact absurd (show b ∈ ([] : List Addr) from z) (by simp)) (by simp)
          | some u =>
            rcases hO b with z | z | ⟨ob, xs, z⟩
            · rw [q] at z; cases z
            · exact absurd z nb
            · have z2 := un.frzs b ob _ z
              obtain ⟨e1, _⟩ := hok b _ z
              obtain ⟨e2, _⟩ := hok' b _ z2
              rw [e] at e1; cases e1
              exact e2
        have grown : ∀ p ∈ cs, ∃ more : Array Value, s'.heap.get? p.2 = some { cls := .none, data := .fields more } := fun p hp => by
          obtain ⟨more, z⟩ := un.tbls p.2 #[] (hH p hp)
          exact ⟨_, hok' p.2 _ z⟩
        refine ⟨rfl, ⟨fun b o e => ?_, fun b o e => ?_⟩, os, bare⟩
        · by_cases hb : b ∈ cs.map (·.2)
          · obtain ⟨p, hp, ep⟩ := List.mem_map.mp hb
            obtain ⟨more, hm⟩ := grown p hp
            rw [← ep] at e ⊢
            rw [hT p hp] at e
            cases e
            exact .inr (.inl ⟨((C p hp).tab (hT p hp)).isCodeTable, rfl, #[], more, rfl, by rw [Array.empty_append]; exact hm⟩)
          · exact .inl (key b o hb e)
        · by_cases hb : b ∈ cs.map (·.2)
          · obtain ⟨p, hp, ep⟩ := List.mem_map.mp hb
            obtain ⟨more, hm⟩ := grown p hp
            rw [← ep]
            exact ⟨_, hm⟩
          · exact ⟨o, key b o hb e⟩
  cases hk : K.lookup a with
  | some o =>
    have e := KX a o hk
    rw [ha] at e
    cases e
    refine core (fun b => if b ∈ cs.map (·.2) then some (.tbl #[]) else none) (fun p hp => if_pos (memT p hp)) (fun b => ?_) (.inr ⟨_, vs.toArray, _, hk, rfl, rfl, rfl, by rw [List.size_toArray, lenV]; exact hl, by simpa using rv⟩) (fun b u z => ?_) (fun b z => ?_) fun z => absurd (show (if a ∈ cs.map (·.2) then some (HO.tbl #[]) else none) = none from if_neg aT) z
    · by_cases hb : b ∈ cs.map (·.2)
      · exact .inr (.inl hb)
      · exact .inl (if_neg hb)
    · by_cases hb : b ∈ cs.map (·.2)
      · have z' := (if_pos hb).symm.trans z
        cases z'
        exact isT b hb
      · have z' := (if_neg hb).symm.trans z
        cases z'
    · by_cases hb : b ∈ cs.map (·.2)
      · exact .inr hb
      · exact absurd (if_neg hb) z
  | none =>
    refine core (fun b => if b = a then some (.frz { cls := .type "list", data := .seq vs.toArray } (.lst (ns.map V.int))) else if b ∈ cs.map (·.2) then some (.tbl #[]) else none) (fun p hp => (if_neg (show ¬ p.2 = a from fun z => aT (by rw [← z]; exact memT p hp))).trans (if_pos (memT p hp))) (fun b => ?_)
      (.inl (.inr ⟨{ cls := .type "list", data := .seq vs.toArray }, if_pos rfl⟩)) (fun b u z => ?_) (fun b z => ?_) fun _ => hk
    · by_cases hb : b = a
      · exact .inr (.inr ⟨_, _, if_pos hb⟩)
      · by_cases hb2 : b ∈ cs.map (·.2)
        · exact .inr (.inl hb2)
        · exact .inl ((if_neg hb).trans (if_neg hb2))
    · by_cases hb : b = a
      · have z' := (if_pos hb).symm.trans z
        cases z'
        rw [hb]
        exact ⟨ha, by rw [List.length_map]; exact hl, vs, _, rv, ha⟩
      · have z1 := (if_neg hb).symm.trans z
        by_cases hb2 : b ∈ cs.map (·.2)
        · have z' := (if_pos hb2).symm.trans z1
          cases z'
          exact isT b hb2
        · have z' := (if_neg hb2).symm.trans z1
          cases z'
    · by_cases hb : b = a
      · exact .inl hb
      · by_cases hb2 : b ∈ cs.map (·.2)
        · exact .inr hb2
        · exact absurd ((if_neg hb).trans (if_neg hb2)) z
/-- what is known of the law's promise at the head's heap h -/
def LawAtA (l : PySem.W.OpenLaw) (w : World) (K : PySem.W.Frag) (CX : CXT) (n : Nat) (x : Str) (mg : Str → Option Value) (fa : Addr) (h : Heap) : Prop :=
  ∃ (fd : FuncData) (cs : List (Addr × Addr)) (sp : Sp), (∀ p ∈ cs, h.get? p.2 = some { cls := .none, data := .fields #[] }) ∧ (∀ p ∈ cs, K.lookup p.2 = none) ∧ (∀ p ∈ cs, PySem.W.CodeHd h p.1 p.2) ∧ (∀ (s : Shared) (u : Value), BindsTo s fd ⟨[u], []⟩ [(x, u)]) ∧
    (∀ (H : Hp) (a : Addr) (ns : List Int), ns.length ≤ n → (∀ z ∈ ns, Builtin.Int.intBits z ≤ 1048576) → (∀ p ∈ cs, H p.2 = some (.tbl #[])) → SqL K H a (ns.map V.int) → sp [.ref a] H (fun v _ => v = .bl true) fun _ _ _ => False) ∧
    ∀ base : Heap, K.In base → base.Ns mainGlobals mg → (∀ p ∈ cs, TabB base mg p.1 p.2) → FnAt l.prog w K mg base CX fa fd [x] sp
theorem walk_ofA {l : PySem.W.OpenLaw} {n : Nat} {q : Program} {loose : List Str} {XP : (Str → Option Value) → Heap → Prop} {YP : World → Heap → Prop} {d : DefRec} {CX : World → CXT} {x : Str}
    (hn : l.most = some n) (hn2 : n ≤ sizeLine) (hdf : d.params.defaults = [])
    (F : ∀ (w : World) (mg : Str → Option Value) (fa : Addr) (h : Heap), YP w h → h.Ns mainGlobals mg → mg d.name = some (.ref fa) → ∃ K : PySem.W.Frag, K.In h ∧ LawAtA l w K (CX w) n x mg fa h)
    (hCX : ∀ (w : World) (H : Hp) (s : Shared) (e : Value) (s' : Shared), CX w [] H s (fun _ _ _ => False) e s' → False) :
    PySem.W.WalkO q loose XP YP l.row.toRowW d [] (fun f vs => PySem.call f vs) := by
  refine Att.attach_callB hn hdf fun w s₀ s₁ mg mb fa o pm cd doc a vs ns G Y ho hd hcd hmg hobj hints hlen hbits hg => ?_
  obtain ⟨K, KX, fd, cs, sp, hT, nT, C, hb, hsp, hF⟩ := F w mg fa _ Y G.T.g hmg
  exact law_callA KX G.T.g G.T.b G.T.builtins G.T.nolimit hg hT nT C G.T.bmain hobj hints (Nat.le_trans hlen hn2) hF hb (fun H hH hS => hsp H a ns hlen hbits hH hS) fun H e s' => hCX w H s₁ e s'
end LamX
namespace Pu
open PySem PySem.Spec PyProof.Rows L2 My
open He
def dD (p : Str × Option Str) (x ql : Str) (st : Stmt) (l : List Dv) : DefD := ⟨p, x, ql, defArgs st, defBody st, defScope st, l, []⟩
abbrev dd (p : Str × Option Str) (x ql : Str) (st : Stmt) : DefD := dD p x ql st []
def fnL : List DefD := ([dD ("_law_pen", none) "_law_pen" "_law_pen" s_law_pen [], dD ("_law_draw", none) "_law_draw" "_law_draw" s_law_draw [], dD ("_law_pick", none) "_law_pick" "_law_pick" s_law_pick [], dD ("_law_values", none) "_law_values" "_law_values" s_law_values [], dD ("_law_grown", none) "_law_grown" "_law_grown" s_law_grown [], dD ("_law_down", none) "_law_down" "_law_down" s_law_down [], dD ("_law_spots", none) "_law_spots" "_law_spots" s_law_spots [], dD ("_law_shuffled", none) "_law_shuffled" "_law_shuffled" s_law_shuffled [], dD ("_law_odd_results", none) "_law_odd_results" "_law_odd_results" s_law_odd_results [], dD ("is_row", none) "is_row" "is_row" s_is_row [], dD ("is_integer", none) "is_integer" "is_integer" s_is_integer [], dD ("spots_of", none) "spots_of" "spots_of" s_spots_of [], dD ("rank_text", none) "rank_text" "rank_text" s_rank_text [], dD ("in_order", none) "in_order" "in_order" s_in_order [], dD ("first_fall", none) "first_fall" "first_fall" s_first_fall [], dD ("told_of", none) "told_of" "told_of" s_told_of [], dD ("height_of", none) "height_of" "height_of" s_height_of [], dD ("_law_all_results", none) "_law_all_results" "_law_all_results" s_law_all_results [], dD ("is_spot", none) "is_spot" "is_spot" s_is_spot [], dD ("is_done", none) "is_done" "is_done" s_is_done [], dD ("told_at", none) "told_at" "told_at" s_told_at [], dD ("with_told", none) "with_told" "with_told" s_with_told [], dD ("without", none) "without" "without" s_without [], dD ("applied", none) "applied" "applied" s_applied [.non], dD ("_law_fault", none) "_law_fault" "_law_fault" s_law_fault [], dD ("law", none) "law" "law" s_law [], dD ("Tree", some "__init__") "__init__" "Tree.__init__" s_Tree_init [], dD ("Tree", some "has") "has" "Tree.has" s_Tree_has [], dD ("Tree", some "need") "need" "Tree.need" s_Tree_need [], dD ("Tree", some "sides") "sides" "Tree.sides" s_Tree_sides []] : List DefD)
def faL : List Fa := ([.glo "_law_pen", .glo "_law_draw", .glo "_law_pick", .glo "_law_values", .glo "_law_grown", .glo "_law_down", .glo "_law_spots", .glo "_law_shuffled", .glo "_law_odd_results", .glo "is_row", .glo "is_integer", .glo "spots_of", .glo "rank_text", .glo "in_order", .glo "first_fall", .glo "told_of", .glo "height_of", .glo "_law_all_results", .glo "is_spot", .glo "is_done", .glo "told_at", .glo "with_told", .glo "without", .glo "applied", .glo "_law_fault", .glo "law", .glo "BadTold", .glo "TooMany", .glo "BadValue", .glo "NoPlace"] : List Fa) ++ ([.glo "BadPlan", .glo "NoKey", .glo "Tree", .glo "SIDES", .glo "WalksError", .free "list", .free "int", .free "len", .free "abs", .free "range", .free "isinstance", .free "tuple", .free "bool", .free "sorted", .free "max", .free "str", .free "all", .free "zip", .free "min", .free "repr", .free "super", .int "MOST_PLACES" 2000, .int "MOST_LEVELS" 200, .cls "Tree", .mkr "Tree", .meth "Tree" "__init__", .meth "Tree" "has", .meth "Tree" "need", .meth "Tree" "sides", .noat "Tree" "own_spots"] : List Fa) ++ ([.noat "Tree" "told", .noat "Tree" "size", .noat "Tree" "height"] : List Fa)
def iniL : List IniD := ([⟨"BadTold", s_BadTold_init, ["place"]⟩, ⟨"TooMany", s_TooMany_init, ["what", "many", "most"]⟩, ⟨"BadValue", s_BadValue_init, ["place"]⟩, ⟨"NoPlace", s_NoPlace_init, ["place"]⟩, ⟨"BadPlan", s_BadPlan_init, []⟩, ⟨"NoKey", s_NoKey_init, ["key"]⟩] : List IniD)
abbrev RR : PySem.W.OpenRow := PySem.W.OpenLaw.row PySem.Challenge.rw_searchwalks_k12_edits_refused
def insL : List Str := ["Tree"]
def tcL : List (Str × List Dv) := [("SIDES", [.str "left", .str "right"])]
def wkL : List (Str × Str) := [("BadPlan", "WalksError")]
def exL (K : PySem.W.Frag) : Bool := (iniL.all fun d => errB RR.prog.main.file K (ga K d.cls) d.fs) && ((erL.all fun x => excB K (ga K x) && (decide (PySem.W.kitOne K (.ref (ga K x)) (.type "ValueError") = some true) && (chL.all fun y => decide (PySem.W.exmOne K (.ref (ga K x)) (.ref (ga K y)) = some (decide (x = y)))))) && ((insL.all fun c => insB K (ga K c)) && ((tcL.all fun p => tupB K p.1 p.2) && (wkL.all fun p => decide (PySem.W.kitOne K (.ref (ga K p.1)) (.ref (ga K p.2)) = some true)))))
abbrev hkL (n : Nat) : PySem.W.Hook := hookM n faL fnL [] [] exL iniL
def obL (n : Nat) (s : PySem.W.SharedT) : AlM := obsM n faL fnL [] [] exL iniL (HandSHeadRun.getT s)
theorem obL_eq (n : Nat) (s : PySem.W.SharedT) : obL n s = (hkL n).obs s.abs := obsM_eq (HandSHeadRun.getT_eq s)
def loL : List Str := (["_wall", "WalksError", "BadTold", "BadValue", "NoPlace", "Taken", "TooMany", "NoKey", "BadPlan", "SIDES", "told_at", "with_told", "is_spot", "is_done", "without", "applied", "is_integer", "is_row", "MOST_PLACES", "MOST_LEVELS", "spots_of", "rank_text", "in_order", "first_fall", "told_of", "height_of", "Tree", "_law_pen", "_law_draw", "_law_pick"] : List Str) ++ (["_law_shuffled", "_law_grown", "_law_values", "_law_down", "_law_spots", "_law_all_results", "_law_fault", "_law_odd_results"] : List Str)
abbrev RunL (w : World) : Prop := HandSHeadRun.RunEq RR (PySem.W.view RR.prog [43]) (hkL 4) (obL 4) 12000 loL w
theorem runHF (w : World) : RunL (w.withFollow "special-get-raises" false) := by
  intro os
  kernel_rfl
theorem runHT (w : World) : RunL (w.withFollow "special-get-raises" true) := by
  intro os
  kernel_rfl
theorem runL (w : World) : HandSHeadRun.RunEq RR (PySem.W.view RR.prog [43]) (hkL 4) (obL 4) 12000 loL w := PySem.W.byRow2 "special-get-raises" (P := RunL) runHF runHT w
end Pu
/-! the pure layer by simp: every combinator unfolds at a written environment -/
namespace Pu
open PySem PySem.Spec PyProof.Rows L2 My
@[simp] theorem dC_e (d : D) (x0 : Option (Kd × D)) (ρ : En) : dC d (x0 :: ρ) = (.ok (.val d) (x0 :: ρ)) := rfl
@[simp] theorem dVar_e (i : Nat) (x0 : Option (Kd × D)) (ρ : En) : dVar i (x0 :: ρ) = (match (x0 :: ρ)[i]? with
  | some (some (k, d)) => .ok (rvOf i k d) (x0 :: ρ)
  | _ => .bad) := rfl
@[simp] theorem d1_e (g : D → Option D) (fa : M Rv) (x0 : Option (Kd × D)) (ρ : En) : d1 g fa (x0 :: ρ) = ((fa (x0 :: ρ)).bind fun a ρ1 => match rd ρ1 a with
  | some x => out ρ1 (g x)
  | none => .bad) := rfl
@[simp] theorem d2_e (g : D → D → Option D) (fa fb : M Rv) (x0 : Option (Kd × D)) (ρ : En) : d2 g fa fb (x0 :: ρ) = ((fa (x0 :: ρ)).bind fun a ρ1 => (fb ρ1).bind fun b ρ2 => match rd ρ2 a, rd ρ2 b with
  | some x, some y => out ρ2 (g x y)
  | _, _ => .bad) := rfl
@[simp] theorem dN_e (g : List D → Option D) (fa : M (List Rv)) (x0 : Option (Kd × D)) (ρ : En) : dN g fa (x0 :: ρ) = ((fa (x0 :: ρ)).bind fun rs ρ1 => match rds ρ1 rs with
  | some ds => out ρ1 (g ds)
  | none => .bad) := rfl
@[simp] theorem dNil_e  (x0 : Option (Kd × D)) (ρ : En) : dNil  (x0 :: ρ) = (.ok [] (x0 :: ρ)) := rfl
@[simp] theorem dCons_e (fa : M Rv) (fs : M (List Rv)) (x0 : Option (Kd × D)) (ρ : En) : dCons fa fs (x0 :: ρ) = ((fa (x0 :: ρ)).bind fun a ρ1 => (fs ρ1).bind fun as ρ2 => .ok (a :: as) ρ2) := rfl
@[simp] theorem dTup_e (fa : M (List Rv)) (x0 : Option (Kd × D)) (ρ : En) : dTup fa (x0 :: ρ) = ((fa (x0 :: ρ)).bind fun rs ρ1 => match escs ρ1 rs with
  | some (ds, ρ2) => if ds.length ≤ sizeLine then .ok (.val (.tup ds)) ρ2 else .bad
  | none => .bad) := rfl
@[simp] theorem dLst_e (fa : M (List Rv)) (x0 : Option (Kd × D)) (ρ : En) : dLst fa (x0 :: ρ) = ((fa (x0 :: ρ)).bind fun rs ρ1 => match escs ρ1 rs with
  | some (ds, ρ2) => if ds.length ≤ sizeLine then .ok (.val (.lst ds)) ρ2 else .bad
  | none => .bad) := rfl
@[simp] theorem dFr_e (f : M D) (x0 : Option (Kd × D)) (ρ : En) : dFr f (x0 :: ρ) = ((f (x0 :: ρ)).bind fun d ρ1 => .ok (.val d) ρ1) := rfl
@[simp] theorem dLstF_e (fa : M (List Rv)) (x0 : Option (Kd × D)) (ρ : En) : dLstF fa (x0 :: ρ) = ((fa (x0 :: ρ)).bind fun rs ρ1 => match escs ρ1 rs with
  | some (ds, ρ2) => if ds.length ≤ sizeLine then .ok (.lst ds) ρ2 else .bad
  | none => .bad) := rfl
@[simp] theorem dTru_e (fa : M Rv) (x0 : Option (Kd × D)) (ρ : En) : dTru fa (x0 :: ρ) = ((fa (x0 :: ρ)).bind fun a ρ1 => match rd ρ1 a with
  | some d => outB ρ1 (truD d)
  | none => .bad) := rfl
@[simp] theorem dB_e (fa : M Rv) (x0 : Option (Kd × D)) (ρ : En) : dB fa (x0 :: ρ) = ((fa (x0 :: ρ)).bind fun a ρ1 => match rd ρ1 a with
  | some d => outB ρ1 (bD d)
  | none => .bad) := rfl
@[simp] theorem dAnd_e (c1 c2 : M Bool) (x0 : Option (Kd × D)) (ρ : En) : dAnd c1 c2 (x0 :: ρ) = ((c1 (x0 :: ρ)).bind fun b ρ1 => if b = true then c2 ρ1 else .ok false ρ1) := rfl
@[simp] theorem dOr_e (c1 c2 : M Bool) (x0 : Option (Kd × D)) (ρ : En) : dOr c1 c2 (x0 :: ρ) = ((c1 (x0 :: ρ)).bind fun b ρ1 => if b = true then .ok true ρ1 else c2 ρ1) := rfl
@[simp] theorem dNot_e (c1 : M Bool) (x0 : Option (Kd × D)) (ρ : En) : dNot c1 (x0 :: ρ) = ((c1 (x0 :: ρ)).bind fun b ρ1 => .ok (!b) ρ1) := rfl
@[simp] theorem dAndV_e (fa fb : M Rv) (x0 : Option (Kd × D)) (ρ : En) : dAndV fa fb (x0 :: ρ) = ((fa (x0 :: ρ)).bind fun a ρ1 => match rd ρ1 a with
  | some (.bl true) => fb ρ1
  | some (.bl false) => .ok (.val (.bl false)) ρ1
  | _ => .bad) := rfl
@[simp] theorem dOrV_e (fa fb : M Rv) (x0 : Option (Kd × D)) (ρ : En) : dOrV fa fb (x0 :: ρ) = ((fa (x0 :: ρ)).bind fun a ρ1 => match rd ρ1 a with
  | some (.bl true) => .ok (.val (.bl true)) ρ1
  | some (.bl false) => fb ρ1
  | _ => .bad) := rfl
@[simp] theorem dIfE_e (c : M Bool) (fa fb : M Rv) (x0 : Option (Kd × D)) (ρ : En) : dIfE c fa fb (x0 :: ρ) = ((c (x0 :: ρ)).bind fun b ρ1 => if b = true then fa ρ1 else fb ρ1) := rfl
@[simp] theorem dNx_e  (x0 : Option (Kd × D)) (ρ : En) : dNx  (x0 :: ρ) = (.nx (x0 :: ρ)) := rfl
@[simp] theorem dSeq_e (f g : SM) (x0 : Option (Kd × D)) (ρ : En) : dSeq f g (x0 :: ρ) = (match f (x0 :: ρ) with
  | .nx ρ1 => g ρ1
  | o => o) := rfl
@[simp] theorem dIf_e (c : M Bool) (f g : SM) (x0 : Option (Kd × D)) (ρ : En) : dIf c f g (x0 :: ρ) = ((c (x0 :: ρ)).then fun b ρ1 => if b = true then f ρ1 else g ρ1) := rfl
@[simp] theorem dDrop_e (fa : M Rv) (x0 : Option (Kd × D)) (ρ : En) : dDrop fa (x0 :: ρ) = ((fa (x0 :: ρ)).then fun _ ρ1 => .nx ρ1) := rfl
@[simp] theorem dRet_e (fa : M Rv) (x0 : Option (Kd × D)) (ρ : En) : dRet fa (x0 :: ρ) = ((fa (x0 :: ρ)).then fun r ρ1 => match esc ρ1 r with
  | some (d, ρ2) => .rt d ρ2
  | none => .bad) := rfl
@[simp] theorem dRetN_e  (x0 : Option (Kd × D)) (ρ : En) : dRetN  (x0 :: ρ) = (.rt .non (x0 :: ρ)) := rfl
@[simp] theorem dBk_e  (x0 : Option (Kd × D)) (ρ : En) : dBk  (x0 :: ρ) = (.bk (x0 :: ρ)) := rfl
@[simp] theorem dCt_e  (x0 : Option (Kd × D)) (ρ : En) : dCt  (x0 :: ρ) = (.ct (x0 :: ρ)) := rfl
@[simp] theorem dRetO_e (i : Nat) (x0 : Option (Kd × D)) (ρ : En) : dRetO i (x0 :: ρ) = (match (x0 :: ρ)[i]? with
  | some (some (.own, d)) => .rf d ((x0 :: ρ).set i none)
  | _ => .bad) := rfl
@[simp] theorem dRetF_e (f : M D) (x0 : Option (Kd × D)) (ρ : En) : dRetF f (x0 :: ρ) = ((f (x0 :: ρ)).then fun d ρ1 => .rf d ρ1) := rfl
@[simp] theorem dAsg_e (fa : M Rv) (g : TM) (x0 : Option (Kd × D)) (ρ : En) : dAsg fa g (x0 :: ρ) = ((fa (x0 :: ρ)).then fun r ρ1 => match esc ρ1 r with
  | some (d, ρ2) => match g d ρ2 with
    | some ρ3 => .nx ρ3
    | none => .bad
  | none => .bad) := rfl
@[simp] theorem dSetO_e (i : Nat) (f : M D) (x0 : Option (Kd × D)) (ρ : En) : dSetO i f (x0 :: ρ) = ((f (x0 :: ρ)).then fun d ρ1 => .nx (ρ1.set i (some (.own, d)))) := rfl
@[simp] theorem dWhile_e (n : En → Nat) (c : M Bool) (body : SM) (x0 : Option (Kd × D)) (ρ : En) : dWhile n c body (x0 :: ρ) = (dWh c body (n (x0 :: ρ)) (x0 :: ρ)) := rfl
@[simp] theorem dFor_e (fi : M (List D)) (g : TM) (body : SM) (x0 : Option (Kd × D)) (ρ : En) : dFor fi g body (x0 :: ρ) = ((fi (x0 :: ρ)).then fun ds ρ1 => dForL g body ds ρ1) := rfl
@[simp] theorem dLc_e (fi : M (List D)) (g : TM) (ct : M Bool) (fe : M Rv) (vs : List Nat) (x0 : Option (Kd × D)) (ρ : En) : dLc fi g ct fe vs (x0 :: ρ) = ((fi (x0 :: ρ)).bind fun ds ρ1 => match dLcL g ct fe vs ds [] ρ1 with
  | .ok acc ρ2 => .ok (.lst acc) (wipeE ρ2 vs)
  | _ => .bad) := rfl
@[simp] theorem dYes_e  (x0 : Option (Kd × D)) (ρ : En) : dYes  (x0 :: ρ) = (.ok true (x0 :: ρ)) := rfl
@[simp] theorem dArgs_e (m : Nat) (dds : List D) (fa : M (List Rv)) (x0 : Option (Kd × D)) (ρ : En) : dArgs m dds fa (x0 :: ρ) = ((fa (x0 :: ρ)).bind fun rs ρ' => if rs.length + dds.length = m then .ok (rs ++ dds.map .val) ρ' else .bad) := rfl
@[simp] theorem dCall_e (t : Bool) (pin : Option Nat) (m : Nat) (dds : List D) (fn : List D → FOut) (fa : M (List Rv)) (x0 : Option (Kd × D)) (ρ : En) : dCall t pin m dds fn fa (x0 :: ρ) = ((dArgs m dds fa (x0 :: ρ)).bind fun rs ρ1 => if t = true then fcall pin fn rs ρ1 else noX (fcall pin fn rs ρ1)) := rfl
@[simp] theorem dCallF_e (t : Bool) (pin : Option Nat) (m : Nat) (dds : List D) (fn : List D → FOut) (fa : M (List Rv)) (x0 : Option (Kd × D)) (ρ : En) : dCallF t pin m dds fn fa (x0 :: ρ) = ((dArgs m dds fa (x0 :: ρ)).bind fun rs ρ1 => if t = true then fcallF pin fn rs ρ1 else noX (fcallF pin fn rs ρ1)) := rfl
@[simp] theorem dMeth_e (cn m : Str) (t : Bool) (pin : Option Nat) (n : Nat) (dds : List D) (fn : List D → FOut) (fo : M Rv) (fa : M (List Rv)) (x0 : Option (Kd × D)) (ρ : En) : dMeth cn m t pin n dds fn fo fa (x0 :: ρ) = ((fo (x0 :: ρ)).bind fun r ρ1 => if selfR cn m (rd ρ1 r) = true then
  (fa ρ1).bind fun rs ρ2 => if rs.length + dds.length = n then (if t = true then fcall pin fn (r :: (rs ++ dds.map .val)) ρ2 else noX (fcall pin fn (r :: (rs ++ dds.map .val)) ρ2)) else .bad else .bad) := rfl
@[simp] theorem dMake_e (cn : Str) (t : Bool) (m : Nat) (dds : List D) (fn : List D → FOut) (fa : M (List Rv)) (x0 : Option (Kd × D)) (ρ : En) : dMake cn t m dds fn fa (x0 :: ρ) = ((dArgs m dds fa (x0 :: ρ)).bind fun rs ρ1 => if t = true then fmake cn fn rs ρ1 else noX (fmake cn fn rs ρ1)) := rfl
@[simp] theorem dFld_e (cn f : Str) (i : Nat) (fv : M Rv) (x0 : Option (Kd × D)) (ρ : En) : dFld cn f i fv (x0 :: ρ) = ((fv (x0 :: ρ)).then fun r ρ1 => match esc ρ1 r with
  | some (d, ρ2) => match ρ2[i]? with
    | some (some (k, .ins c fs)) => if k ≠ .val ∧ c = cn ∧ fs.length < 1000 then .nx (ρ2.set i (some (k, .ins c (putFD f d fs)))) else .bad
    | _ => .bad
  | none => .bad) := rfl
@[simp] theorem dMut_e (i : Nat) (g : D → List D → Option (D × D)) (fs : M (List Rv)) (x0 : Option (Kd × D)) (ρ : En) : dMut i g fs (x0 :: ρ) = (match (x0 :: ρ)[i]? with
  | some (some (k0, d0)) => if k0 ≠ .val ∧ isLst d0 = true then (fs (x0 :: ρ)).bind fun rs ρ1 => match escs ρ1 rs with
    | some (ds, ρ2) => match ρ2[i]? with
      | some (some (k, d)) => if k ≠ .val then (match g d ds with
        | some (res, d') => .ok (.val res) (ρ2.set i (some (k, d')))
        | none => .bad) else .bad
      | _ => .bad
    | none => .bad else .bad
  | _ => .bad) := rfl
@[simp] theorem dPut_e (i : Nat) (fk fv : M Rv) (x0 : Option (Kd × D)) (ρ : En) : dPut i fk fv (x0 :: ρ) = ((fv (x0 :: ρ)).then fun rv ρ1 => match ρ1[i]? with
  | some (some (k1, _)) => if k1 ≠ .val then (fk ρ1).then fun rk ρ2 => match esc ρ2 rv with
    | some (dv, ρ3) => match rd ρ3 rk with
      | some dk => match keyD dk, ρ3[i]? with
        | some k, some (some (kd, .dK kvs)) => if kd ≠ .val ∧ kvs.length < sizeLine then .nx (ρ3.set i (some (kd, .dK (putD kvs k dv)))) else .bad
        | _, _ => .bad
      | none => .bad
    | none => .bad else .bad
  | _ => .bad) := rfl
@[simp] theorem dPutT_e (i : Nat) (fk : M (List Rv)) (fv : M Rv) (x0 : Option (Kd × D)) (ρ : En) : dPutT i fk fv (x0 :: ρ) = ((fv (x0 :: ρ)).then fun rv ρ1 => match ρ1[i]? with
  | some (some (k1, _)) => if k1 ≠ .val then (fk ρ1).then fun rk ρ2 => match esc ρ2 rv with
    | some (dv, ρ3) => match rds ρ3 rk with
      | some dks => match keysD dks, ρ3[i]? with
        | some k, some (some (kd, .dT kvs)) => if kd ≠ .val ∧ kvs.length < sizeLine ∧ rk.length ≤ sizeLine then .nx (ρ3.set i (some (kd, .dT (putD kvs k dv)))) else .bad
        | _, _ => .bad
      | none => .bad
    | none => .bad else .bad
  | _ => .bad) := rfl
@[simp] theorem dTk_e (g : List D → D → Option D) (fd : M Rv) (fk : M (List Rv)) (x0 : Option (Kd × D)) (ρ : En) : dTk g fd fk (x0 :: ρ) = ((fd (x0 :: ρ)).bind fun r ρ1 => (fk ρ1).bind fun rs ρ2 => match rd ρ2 r, rds ρ2 rs with
  | some d, some ks => if rs.length ≤ sizeLine then out ρ2 (g ks d) else .bad
  | _, _ => .bad) := rfl
@[simp] theorem dTkR_e (g : List D → D → Option D) (fk : M (List Rv)) (fd : M Rv) (x0 : Option (Kd × D)) (ρ : En) : dTkR g fk fd (x0 :: ρ) = ((fk (x0 :: ρ)).bind fun rs ρ1 => if rs.length ≤ sizeLine then (fd ρ1).bind fun r ρ2 => match rd ρ2 r, rds ρ2 rs with
  | some d, some ks => out ρ2 (g ks d)
  | _, _ => .bad else .bad) := rfl
@[simp] theorem dItA_e (fa : M Rv) (x0 : Option (Kd × D)) (ρ : En) : dItA fa (x0 :: ρ) = ((fa (x0 :: ρ)).bind fun r ρ1 => match esc ρ1 r with
  | some (d, ρ2) => match itD d with
    | some ds => .ok ds ρ2
    | none => .bad
  | none => .bad) := rfl
@[simp] theorem dRg1_e (fs : M (List Rv)) (x0 : Option (Kd × D)) (ρ : En) : dRg1 fs (x0 :: ρ) = ((fs (x0 :: ρ)).bind fun rs ρ1 => match rds ρ1 rs with
  | some [.int j] => if -(2 ^ 62) ≤ j ∧ j < 2 ^ 62 then .ok (rngD 0 j.toNat) ρ1 else .bad
  | _ => .bad) := rfl
@[simp] theorem dRg2_e (fs : M (List Rv)) (x0 : Option (Kd × D)) (ρ : En) : dRg2 fs (x0 :: ρ) = ((fs (x0 :: ρ)).bind fun rs ρ1 => match rds ρ1 rs with
  | some [.int i, .int j] => if -(2 ^ 62) ≤ i ∧ i < 2 ^ 62 ∧ -(2 ^ 62) ≤ j ∧ j < 2 ^ 62 then .ok (rngD i (j - i).toNat) ρ1 else .bad
  | _ => .bad) := rfl
@[simp] theorem dForO_e (i : Nat) (g : TM) (body : SM) (x0 : Option (Kd × D)) (ρ : En) : dForO i g body (x0 :: ρ) = (match (x0 :: ρ)[i]? with
  | some (some (.own, .lst ds)) => (dForP g body i ds.length ds.length ((x0 :: ρ).set i (some (.pin, .lst ds)))).mapE (unpin i)
  | some (some (.pin, .lst ds)) => dForP g body i ds.length ds.length (x0 :: ρ)
  | _ => .bad) := rfl
@[simp] theorem dLcP_e (i n : Nat) (g : TM) (ct : M Bool) (fe : M Rv) (vs : List Nat) (x0 : Option (Kd × D)) (ρ : En) : dLcP i n g ct fe vs (x0 :: ρ) = (match dLcPL g ct fe vs i n n [] (x0 :: ρ) with
  | .ok acc ρ2 => .ok (.lst acc) (wipeE ρ2 vs)
  | _ => .bad) := rfl
@[simp] theorem dLcO_e (i : Nat) (g : TM) (ct : M Bool) (fe : M Rv) (vs : List Nat) (x0 : Option (Kd × D)) (ρ : En) : dLcO i g ct fe vs (x0 :: ρ) = (match (x0 :: ρ)[i]? with
  | some (some (.own, .lst ds)) => (dLcP i ds.length g ct fe vs ((x0 :: ρ).set i (some (.pin, .lst ds)))).mapE (unpin i)
  | some (some (.pin, .lst ds)) => dLcP i ds.length g ct fe vs (x0 :: ρ)
  | _ => .bad) := rfl
@[simp] theorem xNil_e  (x0 : Option (Kd × D)) (ρ : En) : xNil  (x0 :: ρ) = (.ok [] (x0 :: ρ)) := rfl
@[simp] theorem xV_e (fa : M Rv) (fs : M (List Src)) (x0 : Option (Kd × D)) (ρ : En) : xV fa fs (x0 :: ρ) = ((fa (x0 :: ρ)).bind fun r ρ1 => match esc ρ1 r with
  | some (d, ρ2) => (fs ρ2).bind fun ss ρ3 => .ok (.v d :: ss) ρ3
  | none => .bad) := rfl
@[simp] theorem xO_e (ff : M D) (fs : M (List Src)) (x0 : Option (Kd × D)) (ρ : En) : xO ff fs (x0 :: ρ) = ((ff (x0 :: ρ)).bind fun d ρ1 => (fs ρ1).bind fun ss ρ2 => .ok (.o d :: ss) ρ2) := rfl
@[simp] theorem dPar_e (is : List Nat) (fs : M (List Src)) (x0 : Option (Kd × D)) (ρ : En) : dPar is fs (x0 :: ρ) = ((fs (x0 :: ρ)).then fun ss ρ1 => match putS ρ1 is ss with
  | some ρ2 => .nx ρ2
  | none => .bad) := rfl
@[simp] theorem dAug_e (i : Nat) (g : D → D → Option D) (fe : M Rv) (x0 : Option (Kd × D)) (ρ : En) : dAug i g fe (x0 :: ρ) = (match (x0 :: ρ)[i]? with
  | some (some (.val, d)) => (fe (x0 :: ρ)).then fun r ρ1 => match rd ρ1 r with
    | some y => match g d y with
      | some z => .nx (ρ1.set i (some (.val, z)))
      | none => .bad
    | none => .bad
  | _ => .bad) := rfl
@[simp] theorem dRaise_e (x : Str) (fn : List Str) (fs : M (List Rv)) (x0 : Option (Kd × D)) (ρ : En) : dRaise x fn fs (x0 :: ρ) = ((fs (x0 :: ρ)).then fun rs ρ1 => match escs ρ1 rs with
  | some (ds, ρ2) => if ds.length = fn.length ∧ ds.length ≤ 1000 ∧ fn ≠ [] then .ex x (fn.zip ds).reverse ρ2 else .bad
  | none => .bad) := rfl
@[simp] theorem dRaise0_e (x : Str) (x0 : Option (Kd × D)) (ρ : En) : dRaise0 x (x0 :: ρ) = (.ex x [] (x0 :: ρ)) := rfl
@[simp] theorem dChain_e (g1 g2 : Int → Int → Bool) (fa fb fc : M Rv) (x0 : Option (Kd × D)) (ρ : En) : dChain g1 g2 fa fb fc (x0 :: ρ) = ((fa (x0 :: ρ)).bind fun a ρ1 => (fb ρ1).bind fun b ρ2 => match rd ρ2 a, rd ρ2 b with
  | some (.int x), some (.int y) => if g1 x y = true then (fc ρ2).bind fun cc ρ3 => (match rd ρ3 cc with
      | some (.int z) => .ok (.val (.bl (g2 y z))) ρ3
      | _ => .bad) else .ok (.val (.bl false)) ρ2
  | _, _ => .bad) := rfl
@[simp] theorem dSrt_e (b : Bool) (fk : D → Option D) (fa : M Rv) (x0 : Option (Kd × D)) (ρ : En) : dSrt b fk fa (x0 :: ρ) = ((fa (x0 :: ρ)).bind fun r ρ1 => match esc ρ1 r with
  | some (d, ρ2) => match itS d with
    | some ds => match mapO fk ds with
      | some ks => if oneKd ks = true then .ok (.lst (srtD b ks ds)) ρ2 else .bad
      | none => .bad
    | none => .bad
  | none => .bad) := rfl
@[simp] theorem pNone_e  (x0 : Option (Kd × D)) (ρ : En) : pNone  (x0 :: ρ) = (.ok none (x0 :: ρ)) := rfl
@[simp] theorem pSome_e (fa : M Rv) (x0 : Option (Kd × D)) (ρ : En) : pSome fa (x0 :: ρ) = ((fa (x0 :: ρ)).bind fun r ρ1 => match rd ρ1 r with
  | some (.int i) => .ok (some i) ρ1
  | _ => .bad) := rfl
@[simp] theorem dSl_e (fa : M Rv) (fl fh : M (Option Int)) (x0 : Option (Kd × D)) (ρ : En) : dSl fa fl fh (x0 :: ρ) = ((fa (x0 :: ρ)).bind fun r ρ1 => (fl ρ1).bind fun lo ρ2 => (fh ρ2).bind fun hi ρ3 => match rd ρ3 r with
  | some d => out ρ3 (sliceD lo hi d)
  | none => .bad) := rfl
@[simp] theorem dSlF_e (fa : M Rv) (fl fh : M (Option Int)) (x0 : Option (Kd × D)) (ρ : En) : dSlF fa fl fh (x0 :: ρ) = ((fa (x0 :: ρ)).bind fun r ρ1 => (fl ρ1).bind fun lo ρ2 => (fh ρ2).bind fun hi ρ3 => match rd ρ3 r with
  | some d => match sliceF lo hi d with
    | some e => .ok e ρ3
    | none => .bad
  | none => .bad) := rfl
@[simp] theorem dListF_e (fa : M Rv) (x0 : Option (Kd × D)) (ρ : En) : dListF fa (x0 :: ρ) = ((fa (x0 :: ρ)).bind fun r ρ1 => match rd ρ1 r with
  | some d => match listFD d with
    | some xs => .ok (.lst xs) ρ1
    | none => .bad
  | none => .bad) := rfl
@[simp] theorem d2F_e (g : D → D → Option D) (fa fb : M Rv) (x0 : Option (Kd × D)) (ρ : En) : d2F g fa fb (x0 :: ρ) = ((fa (x0 :: ρ)).bind fun a ρ1 => (fb ρ1).bind fun b ρ2 => match rd ρ2 a, rd ρ2 b with
  | some x, some y => match g x y with
    | some d => .ok d ρ2
    | none => .bad
  | _, _ => .bad) := rfl
@[simp] theorem dNewK_e  (x0 : Option (Kd × D)) (ρ : En) : dNewK  (x0 :: ρ) = (.ok (.dK []) (x0 :: ρ)) := rfl
@[simp] theorem dNewT_e  (x0 : Option (Kd × D)) (ρ : En) : dNewT  (x0 :: ρ) = (.ok (.dT []) (x0 :: ρ)) := rfl
@[simp] theorem dGet1_e (fo fk : M Rv) (x0 : Option (Kd × D)) (ρ : En) : dGet1 fo fk (x0 :: ρ) = ((fo (x0 :: ρ)).bind fun r ρ1 => match rd ρ1 r with
  | some d0 => if isD1 d0 = true then (fk ρ1).bind fun k ρ2 => (match rd ρ2 r, rd ρ2 k with
    | some d, some y => out ρ2 (getD1 d y)
    | _, _ => .bad) else .bad
  | none => .bad) := rfl
@[simp] theorem dGet2_e (fo fk fx : M Rv) (x0 : Option (Kd × D)) (ρ : En) : dGet2 fo fk fx (x0 :: ρ) = ((fo (x0 :: ρ)).bind fun r ρ1 => match rd ρ1 r with
  | some d0 => if isD1 d0 = true then (fk ρ1).bind fun k ρ2 => (fx ρ2).bind fun x ρ3 => (match esc ρ3 x with
    | some (dx, ρ4) => match rd ρ4 r, rd ρ4 k with
      | some (.dK kvs), some y => match keyD y with
        | some kk => .ok (.val ((valD kvs kk).getD dx)) ρ4
        | none => .bad
      | _, _ => .bad
    | none => .bad) else .bad
  | none => .bad) := rfl
@[simp] theorem dDisp_e (fs : M (List Rv)) (x0 : Option (Kd × D)) (ρ : En) : dDisp fs (x0 :: ρ) = ((fs (x0 :: ρ)).bind fun rs ρ1 => match escs ρ1 rs with
  | some (ds, ρ2) => match pairsD ds with
    | some ps => if ps.length ≤ 15 then .ok (.dK (mergeD [] ps)) ρ2 else .bad
    | none => .bad
  | none => .bad) := rfl
@[simp] theorem dJoin_e (fo fa : M Rv) (x0 : Option (Kd × D)) (ρ : En) : dJoin fo fa (x0 :: ρ) = ((fo (x0 :: ρ)).bind fun r ρ1 => match rd ρ1 r with
  | some (.str a) => (fa ρ1).bind fun r2 ρ2 => match rd ρ2 r2 with
    | some d => out ρ2 (joinD a d)
    | none => .bad
  | _ => .bad) := rfl
@[simp] theorem dTupR_e (fa : M Rv) (x0 : Option (Kd × D)) (ρ : En) : dTupR fa (x0 :: ρ) = ((fa (x0 :: ρ)).bind fun r ρ1 => match rd ρ1 r with
  | some (.int n) => if -(2 ^ 62) ≤ n ∧ n ≤ 2 ^ 24 then .ok (.val (.tup (rngD 0 n.toNat))) ρ1 else .bad
  | _ => .bad) := rfl
@[simp] theorem dSrt0_e (fa : M Rv) (x0 : Option (Kd × D)) (ρ : En) : dSrt0 fa (x0 :: ρ) = ((fa (x0 :: ρ)).bind fun r ρ1 => match rd ρ1 r with
  | some (.lst ds) => if oneKd ds = true then .ok (.lst (SrtK.isort ltkD ds)) ρ1 else .bad
  | _ => .bad) := rfl
@[simp] theorem dCallX_e (t : Bool) (j m : Nat) (fn : List D → FOut) (fs : M (List Src)) (x0 : Option (Kd × D)) (ρ : En) : dCallX t j m fn fs (x0 :: ρ) = ((fs (x0 :: ρ)).bind fun ss ρ1 => if ss.length = m then (if t = true then fcallX j fn ss ρ1 else noX (fcallX j fn ss ρ1)) else .bad) := rfl
@[simp] theorem rd_u : type_of% @rd.eq_def := @rd.eq_def
@[simp] theorem esc_u : type_of% @esc.eq_def := @esc.eq_def
@[simp] theorem rvOf_u : type_of% @rvOf.eq_def := @rvOf.eq_def
@[simp] theorem bD_u : type_of% @bD.eq_def := @bD.eq_def
@[simp] theorem dT2_u : type_of% @dT2.eq_def := @dT2.eq_def
@[simp] theorem notD_u : type_of% @notD.eq_def := @notD.eq_def
@[simp] theorem gN_u : type_of% @gN.eq_def := @gN.eq_def
@[simp] theorem gsNil_u : type_of% @gsNil.eq_def := @gsNil.eq_def
@[simp] theorem gsCons_u : type_of% @gsCons.eq_def := @gsCons.eq_def
@[simp] theorem gT_u : type_of% @gT.eq_def := @gT.eq_def
@[simp] theorem dSet_u : type_of% @dSet.eq_def := @dSet.eq_def
@[simp] theorem kdAt_u : type_of% @kdAt.eq_def := @kdAt.eq_def
@[simp] theorem initE_u : type_of% @initE.eq_def := @initE.eq_def
@[simp] theorem ioE_u : type_of% @ioE.eq_def := @ioE.eq_def
@[simp] theorem pinR_u : type_of% @pinR.eq_def := @pinR.eq_def
@[simp] theorem putR_u : type_of% @putR.eq_def := @putR.eq_def
@[simp] theorem backR_u : type_of% @backR.eq_def := @backR.eq_def
@[simp] theorem fcall_u : type_of% @fcall.eq_def := @fcall.eq_def
@[simp] theorem fcallF_u : type_of% @fcallF.eq_def := @fcallF.eq_def
@[simp] theorem noX_u : type_of% @noX.eq_def := @noX.eq_def
@[simp] theorem selfR_u : type_of% @selfR.eq_def := @selfR.eq_def
@[simp] theorem fmake_u : type_of% @fmake.eq_def := @fmake.eq_def
@[simp] theorem addD_u : type_of% @addD.eq_def := @addD.eq_def
@[simp] theorem subD_u : type_of% @subD.eq_def := @subD.eq_def
@[simp] theorem fdivD_u : type_of% @fdivD.eq_def := @fdivD.eq_def
@[simp] theorem modD_u : type_of% @modD.eq_def := @modD.eq_def
@[simp] theorem negD_u : type_of% @negD.eq_def := @negD.eq_def
@[simp] theorem ltI_u : type_of% @ltI.eq_def := @ltI.eq_def
@[simp] theorem isN_u : type_of% @isN.eq_def := @isN.eq_def
@[simp] theorem keyD_u : type_of% @keyD.eq_def := @keyD.eq_def
@[simp] theorem fldC_u : type_of% @fldC.eq_def := @fldC.eq_def
@[simp] theorem one1_u : type_of% @one1.eq_def := @one1.eq_def
@[simp] theorem lenD_u : type_of% @lenD.eq_def := @lenD.eq_def
@[simp] theorem intD_u : type_of% @intD.eq_def := @intD.eq_def
@[simp] theorem absD_u : type_of% @absD.eq_def := @absD.eq_def
@[simp] theorem tupleD_u : type_of% @tupleD.eq_def := @tupleD.eq_def
@[simp] theorem tagD_u : type_of% @tagD.eq_def := @tagD.eq_def
@[simp] theorem isG_u : type_of% @isG.eq_def := @isG.eq_def
@[simp] theorem isLst_u : type_of% @isLst.eq_def := @isLst.eq_def
@[simp] theorem appD_u : type_of% @appD.eq_def := @appD.eq_def
@[simp] theorem clearD_u : type_of% @clearD.eq_def := @clearD.eq_def
@[simp] theorem itD_u : type_of% @itD.eq_def := @itD.eq_def
@[simp] theorem addI_u : type_of% @addI.eq_def := @addI.eq_def
@[simp] theorem subI_u : type_of% @subI.eq_def := @subI.eq_def
@[simp] theorem itS_u : type_of% @itS.eq_def := @itS.eq_def
@[simp] theorem listFD_u : type_of% @listFD.eq_def := @listFD.eq_def
@[simp] theorem isD1_u : type_of% @isD1.eq_def := @isD1.eq_def
@[simp] theorem getD1_u : type_of% @getD1.eq_def := @getD1.eq_def
@[simp] theorem joinD_u : type_of% @joinD.eq_def := @joinD.eq_def
@[simp] theorem seqD_u : type_of% @seqD.eq_def := @seqD.eq_def
@[simp] theorem maxDf_u : type_of% @maxDf.eq_def := @maxDf.eq_def
@[simp] theorem fcallX_u : type_of% @fcallX.eq_def := @fcallX.eq_def
@[simp] theorem runF_u : type_of% @runF.eq_def := @runF.eq_def
@[simp] theorem runFF_u : type_of% @runFF.eq_def := @runFF.eq_def
@[simp] theorem rds_u1 : type_of% @rds.eq_1 := @rds.eq_1
@[simp] theorem rds_u2 : type_of% @rds.eq_2 := @rds.eq_2
@[simp] theorem escs_u1 : type_of% @escs.eq_1 := @escs.eq_1
@[simp] theorem escs_u2 : type_of% @escs.eq_2 := @escs.eq_2
@[simp] theorem initAt_u1 : type_of% @initAt.eq_1 := @initAt.eq_1
@[simp] theorem initAt_u2 : type_of% @initAt.eq_2 := @initAt.eq_2
@[simp] theorem escJ_u1 : type_of% @escJ.eq_1 := @escJ.eq_1
@[simp] theorem escJ_u2 : type_of% @escJ.eq_2 := @escJ.eq_2
@[simp] theorem keysD_u1 : type_of% @keysD.eq_1 := @keysD.eq_1
@[simp] theorem keysD_u2 : type_of% @keysD.eq_2 := @keysD.eq_2
@[simp] theorem putFD_u1 : type_of% @putFD.eq_1 := @putFD.eq_1
@[simp] theorem putFD_u2 : type_of% @putFD.eq_2 := @putFD.eq_2
@[simp] theorem pairsD_u1 : type_of% @pairsD.eq_1 := @pairsD.eq_1
@[simp] theorem pairsD_u2 : type_of% @pairsD.eq_2 := @pairsD.eq_2
@[simp] theorem pairsD_u3 : type_of% @pairsD.eq_3 := @pairsD.eq_3
@[simp] theorem srcD_u1 : type_of% @srcD.eq_1 := @srcD.eq_1
@[simp] theorem srcD_u2 : type_of% @srcD.eq_2 := @srcD.eq_2
@[simp] theorem srcD_u3 : type_of% @srcD.eq_3 := @srcD.eq_3
@[simp] theorem wipeE_u1 : type_of% @wipeE.eq_1 := @wipeE.eq_1
@[simp] theorem wipeE_u2 : type_of% @wipeE.eq_2 := @wipeE.eq_2
@[simp] theorem dPairs_u1 : type_of% @dPairs.eq_1 := @dPairs.eq_1
@[simp] theorem dPairs_u2 : type_of% @dPairs.eq_2 := @dPairs.eq_2
@[simp] theorem putS_u1 : type_of% @putS.eq_1 := @putS.eq_1
@[simp] theorem putS_u2 : type_of% @putS.eq_2 := @putS.eq_2
@[simp] theorem putS_u3 : type_of% @putS.eq_3 := @putS.eq_3
@[simp] theorem putS_u4 : type_of% @putS.eq_4 := @putS.eq_4
theorem atI_nat {α : Type} (xs : List α) (i : Nat) : atI xs (i : Int) = xs[i]? := by
  unfold atI ixN
  by_cases h : i < xs.length
  · have h0 : (0 : Int) ≤ i := Int.ofNat_nonneg i
    have h1 : (i : Int) < xs.length := by omega
    simp [h0, h1]
  · have h0 : (0 : Int) ≤ i := Int.ofNat_nonneg i
    have h1 : ¬ (i : Int) < xs.length := by omega
    rw [if_pos h0, if_neg h1]
    simp
    omega
theorem atI_pos {α : Type} (xs : List α) (i : Int) (h : 0 ≤ i) : atI xs i = xs[i.toNat]? := by
  obtain ⟨n, rfl⟩ : ∃ n : Nat, i = n := ⟨i.toNat, by omega⟩
  rw [atI_nat]
  rfl
theorem dWh_nx {c : M Bool} {b : SM} {k : Nat} {ρ ρ1 ρ2 : En} (hc : c ρ = .ok true ρ1) (hb : b ρ1 = .nx ρ2) : dWh c b (k + 1) ρ = dWh c b k ρ2 := by
  show (c ρ).then _ = _
  rw [hc]
  simp [hb]
theorem dWh_ct {c : M Bool} {b : SM} {k : Nat} {ρ ρ1 ρ2 : En} (hc : c ρ = .ok true ρ1) (hb : b ρ1 = .ct ρ2) : dWh c b (k + 1) ρ = dWh c b k ρ2 := by
  show (c ρ).then _ = _
  rw [hc]
  simp [hb]
theorem dWh_rt {c : M Bool} {b : SM} {k : Nat} {ρ ρ1 ρ2 : En} {d : D} (hc : c ρ = .ok true ρ1) (hb : b ρ1 = .rt d ρ2) : dWh c b (k + 1) ρ = .rt d ρ2 := by
  show (c ρ).then _ = _
  rw [hc]
  simp [hb]
theorem dWh_end {c : M Bool} {b : SM} {k : Nat} {ρ ρ1 : En} (hc : c ρ = .ok false ρ1) : dWh c b (k + 1) ρ = .nx ρ1 := by
  show (c ρ).then _ = _
  rw [hc]
  simp
end Pu
namespace Pu
open PySem PySem.Spec PyProof.Rows L2 My
inductive Tr where
  | e | n (l : Tr) (v : Int) (r : Tr)
  deriving DecidableEq
def Tr.told : Tr → D
  | .e => .non
  | .n l v r => .tup [l.told, .int v, r.told]
/-- a place by its turns: false is left -/
abbrev Pa := List Bool
def chB (b : Bool) : Nat := if b then 114 else 108
def pl (p : Pa) : Str := ⟨(p.map chB).toArray⟩
theorem strS_eta (s t : Str) (h : s.cps.toList = t.cps.toList) : s = t := by
  cases s; cases t
  simp only [Str.mk.injEq]
  exact Array.toList_inj.mp h
theorem pl_toList (p : Pa) : (pl p).cps.toList = p.map chB := by simp [pl]
theorem chB_inj {a b : Bool} (h : chB a = chB b) : a = b := by cases a <;> cases b <;> simp [chB] at h <;> rfl
theorem pl_inj {p q : Pa} (h : pl p = pl q) : p = q := by
  have h2 := congrArg (fun s : Str => s.cps.toList) h
  simp only [pl_toList] at h2
  exact (List.map_inj_right (fun a b => chB_inj)).mp h2
theorem pl_eq (p q : Pa) : (pl p = pl q) = (p = q) := propext ⟨pl_inj, fun h => by rw [h]⟩
theorem pl_nil : Str.ofString "" = pl [] := by decide +kernel
theorem str_append (s t : Str) : (s ++ t).cps.toList = s.cps.toList ++ t.cps.toList := by
  show (s.cps ++ t.cps).toList = _
  simp
theorem l_toList : (Str.ofString "l").cps.toList = [108] := by decide +kernel
theorem r_toList : (Str.ofString "r").cps.toList = [114] := by decide +kernel
theorem pl_l (p : Pa) : pl p ++ Str.ofString "l" = pl (p ++ [false]) := strS_eta _ _ (by rw [str_append, l_toList, pl_toList, pl_toList]; simp [chB])
theorem pl_r (p : Pa) : pl p ++ Str.ofString "r" = pl (p ++ [true]) := strS_eta _ _ (by rw [str_append, r_toList, pl_toList, pl_toList]; simp [chB])
theorem pl_len (p : Pa) : (pl p).length = p.length := by
  show (pl p).cps.size = _
  simp [pl]
theorem l_len : (Str.ofString "l").length = 1 := by decide +kernel
theorem r_len : (Str.ofString "r").length = 1 := by decide +kernel

def Tr.pre : Tr → Pa → List (Pa × Int)
  | .e, _ => []
  | .n l v r, p => (p, v) :: (l.pre (p ++ [false]) ++ r.pre (p ++ [true]))
def Tr.size : Tr → Nat
  | .e => 0
  | .n l _ r => l.size + r.size + 1
def Tr.ht : Tr → Nat
  | .e => 0
  | .n l _ r => max l.ht r.ht + 1
theorem pre_len (t : Tr) : ∀ p, (t.pre p).length = t.size := by
  induction t with
  | e => intro p; rfl
  | n l v r il ir => intro p; simp [Tr.pre, Tr.size, il, ir]
theorem ht_le (t : Tr) : t.ht ≤ t.size := by
  induction t with
  | e => simp [Tr.ht]
  | n l v r il ir => simp [Tr.ht, Tr.size]; omega
theorem pre_pfx (t : Tr) : ∀ p, ∀ x ∈ t.pre p, ∃ s, x.1 = p ++ s ∧ s.length < t.ht := by
  induction t with
  | e => intro p x hx; simp [Tr.pre] at hx
  | n l v r il ir =>
    intro p x hx
    simp only [Tr.pre, List.mem_cons, List.mem_append] at hx
    rcases hx with rfl | hx | hx
    · exact ⟨[], by simp, by simp [Tr.ht]⟩
    · obtain ⟨s, e, h⟩ := il _ x hx
      exact ⟨false :: s, by rw [e]; simp, by simp [Tr.ht]; omega⟩
    · obtain ⟨s, e, h⟩ := ir _ x hx
      exact ⟨true :: s, by rw [e]; simp, by simp [Tr.ht]; omega⟩
theorem pre_nodup (t : Tr) : ∀ p, ((t.pre p).map (·.1)).Nodup := by
  induction t with
  | e => intro p; simp [Tr.pre]
  | n l v r il ir =>
    intro p
    simp only [Tr.pre, List.map_cons, List.map_append, List.nodup_cons, List.nodup_append, List.mem_append, List.mem_map]
    refine ⟨?_, il _, ir _, ?_⟩
    · rintro (⟨x, hx, e⟩ | ⟨x, hx, e⟩)
      · obtain ⟨s, e2, _⟩ := pre_pfx l _ x hx
        rw [e] at e2
        have := congrArg List.length e2
        simp at this
      · obtain ⟨s, e2, _⟩ := pre_pfx r _ x hx
        rw [e] at e2
        have := congrArg List.length e2
        simp at this
    · rintro a ⟨x, hx, rfl⟩ b ⟨y, hy, rfl⟩ e
      obtain ⟨s, e2, _⟩ := pre_pfx l _ x hx
      obtain ⟨s', e3, _⟩ := pre_pfx r _ y hy
      rw [e2, e3] at e
      simp at e
/-- the spots as a dict -/
def spt (l : List (Pa × Int)) : List (Key × D) := l.map fun x => (Sum.inr (pl x.1), D.int x.2)
theorem spt_any (l : List (Pa × Int)) (p : Pa) : ((spt l).any fun kv => decide (kv.1 = (Sum.inr (pl p) : Key))) = decide (p ∈ l.map (·.1)) := by
  induction l with
  | nil => simp [spt]
  | cons x l ih =>
    simp only [spt] at ih ⊢
    simp only [List.map_cons, List.any_cons, ih, Sum.inr.injEq, pl_eq, List.mem_cons, Bool.decide_or]
    congr 1
    exact decide_eq_decide.mpr ⟨Eq.symm, Eq.symm⟩
theorem spt_put (l : List (Pa × Int)) (p : Pa) (v : Int) (h : p ∉ l.map (·.1)) : putD (spt l) (Sum.inr (pl p)) (.int v) = spt (l ++ [(p, v)]) := by
  unfold putD
  rw [spt_any, if_neg (by simpa using h)]
  simp [spt]
theorem spt_val (l : List (Pa × Int)) (p : Pa) (v : Int) (hn : (l.map (·.1)).Nodup) (h : (p, v) ∈ l) : valD (spt l) (Sum.inr (pl p) : Key) = some (.int v) := by
  induction l with
  | nil => simp at h
  | cons x l ih =>
    simp only [List.map_cons, List.nodup_cons] at hn
    simp only [spt, List.map_cons, valD, Sum.inr.injEq, pl_eq]
    rcases List.mem_cons.mp h with rfl | h
    · simp
    · rw [if_neg]
      · exact ih hn.2 h
      · intro e
        exact hn.1 (List.mem_map.mpr ⟨_, h, e.symm⟩)
/-- what waits -/
def wl (q : List (Pa × Tr)) : List D := q.map fun x => .tup [.str (pl x.1), x.2.told]
def stepsQ (q : List (Pa × Tr)) : Nat := (q.map fun x => 2 * x.2.size + 1).sum
def allQ (q : List (Pa × Tr)) : List (Pa × Int) := q.flatMap fun x => x.2.pre x.1
theorem told_row (l : Tr) (v : Int) (r : Tr) : fn_is_row [(Tr.n l v r).told, .int 3] = .ok (.bl true) .non := by
  simp [fn_is_row, b_is_row, Tr.told, gRow, eqD, eqB, scalD, sameS]
theorem int_is (v : Int) : fn_is_integer [.int v] = .ok (.bl true) .non := by
  simp [fn_is_integer, b_is_integer, gInt, gBool]
theorem len_steps (q : List (Pa × Tr)) : q.length ≤ stepsQ q := by
  induction q with
  | nil => simp
  | cons x q ih => simp [stepsQ] at ih ⊢; omega
theorem szl' : sizeLine = 16777216 := rfl
theorem step_e (d0 x4 x5 : Option (Kd × D)) (F : D) (ws : List D) (i : Int) (z : Str) (h : atI ws i = some (.tup [.str z, .non])) :
    l1_spots_of [d0, some (.own, F), some (.own, .lst ws), some (.val, .int i), x4, x5] = .ct [d0, some (.own, F), some (.own, .lst ws), some (.val, .int (i + 1)), some (.val, .str z), some (.val, .non)] := by
  simp [l1_spots_of, ixD, h]
theorem step_n (d0 x4 x5 : Option (Kd × D)) (kvs : List (Key × D)) (ws : List D) (i : Int) (z : Str) (l r : Tr) (v : Int) (h : atI ws i = some (.tup [.str z, (Tr.n l v r).told])) (h1 : kvs.length < 1000000) (h2 : ws.length < 1000000) (h3 : z.length < 1000000) :
    l1_spots_of [d0, some (.own, .dK kvs), some (.own, .lst ws), some (.val, .int i), x4, x5] = .nx [d0, some (.own, .dK (putD kvs (Sum.inr z) (.int v))), some (.own, .lst (ws ++ [.tup [.str (z ++ Str.ofString "l"), l.told], .tup [.str (z ++ Str.ofString "r"), r.told]])), some (.val, .int (i + 1)), some (.val, .str z), some (.val, (Tr.n l v r).told)] := by
  have hr := told_row l v r
  have hi := int_is v
  have a0 : atI [l.told, D.int v, r.told] 0 = some l.told := rfl
  have a1 : atI [l.told, D.int v, r.told] 1 = some (.int v) := rfl
  have a2 : atI [l.told, D.int v, r.told] 2 = some r.told := rfl
  have b1 : kvs.length < 16777216 := by omega
  have b2 : ws.length < 16777216 := by omega
  have b3 : ws.length + 1 < 16777216 := by omega
  have b4 : z.length + 1 ≤ 16777216 := by omega
  simp only [Tr.told] at h hr ⊢
  simp [l1_spots_of, ixD, h, hr, hi, a0, a1, a2, b1, b2, b3, b4, szl', l_len, r_len]
theorem spots_loop (d0 : Option (Kd × D)) : ∀ (k : Nat) (q : List (Pa × Tr)) (done : List D) (fs : List (Pa × Int)) (x4 x5 : Option (Kd × D)), stepsQ q < k → (∀ x ∈ q, x.1.length + x.2.ht < 10000) → done.length + stepsQ q < 100000 → fs.length + (allQ q).length < 100000 → ((fs ++ allQ q).map (·.1)).Nodup →
    ∃ gs ws i y4 y5, dWh c0_spots_of l1_spots_of k [d0, some (.own, .dK (spt fs)), some (.own, .lst (done ++ wl q)), some (.val, .int done.length), x4, x5] = .nx [d0, some (.own, .dK (spt gs)), some (.own, .lst ws), some (.val, .int i), y4, y5] ∧ gs.Perm (fs ++ allQ q) := by
  intro k
  induction k with
  | zero => intro q done fs x4 x5 h; omega
  | succ k ih =>
    intro q done fs x4 x5 hk hq hd hf hn
    cases q with
    | nil =>
      refine ⟨fs, done, done.length, x4, x5, ?_, by simp [allQ]⟩
      simp [dWh, c0_spots_of, wl]
    | cons x q =>
      obtain ⟨p, t⟩ := x
      have hlt : (done.length : Int) < ((done ++ wl ((p, t) :: q)).length : Int) := by simp [wl]; omega
      have hat : atI (done ++ wl ((p, t) :: q)) (done.length : Int) = some (.tup [.str (pl p), t.told]) := by
        rw [atI_nat]
        simp [wl]
      have hc : c0_spots_of [d0, some (.own, .dK (spt fs)), some (.own, .lst (done ++ wl ((p, t) :: q))), some (.val, .int done.length), x4, x5] = .ok true [d0, some (.own, .dK (spt fs)), some (.own, .lst (done ++ wl ((p, t) :: q))), some (.val, .int done.length), x4, x5] := by
        simp [c0_spots_of, wl]
        omega
      cases t with
      | e =>
        rw [dWh_ct hc (step_e d0 x4 x5 _ _ _ _ hat)]
        have e1 : done ++ wl ((p, Tr.e) :: q) = (done ++ [D.tup [.str (pl p), .non]]) ++ wl q := by simp [wl, Tr.told]
        have e2 : (done.length : Int) + 1 = ((done ++ [D.tup [.str (pl p), .non]]).length : Int) := by simp
        have e3 : allQ ((p, Tr.e) :: q) = allQ q := by simp [allQ, Tr.pre]
        have e4 : stepsQ ((p, Tr.e) :: q) = stepsQ q + 1 := by simp [stepsQ, Tr.size]; omega
        rw [e1, e2]
        rw [e3] at hf hn ⊢
        rw [e4] at hk hd
        exact ih q _ fs _ _ (by omega) (fun x hx => hq x (List.mem_cons_of_mem _ hx)) (by simp; omega) hf hn
      | n l v r =>
        have hz : (pl p).length < 1000000 := by
          rw [pl_len]
          have := hq _ List.mem_cons_self
          simp at this
          omega
        have hw : (done ++ wl ((p, Tr.n l v r) :: q)).length < 1000000 := by
          have := len_steps ((p, Tr.n l v r) :: q)
          simp [wl] at this ⊢
          omega
        have hs : (spt fs).length < 1000000 := by simp [spt]; omega
        rw [dWh_nx hc (step_n d0 x4 x5 _ _ _ _ l r v hat hs hw hz)]
        have hp : p ∉ fs.map (·.1) := by
          intro hm
          have h2 := hn
          rw [List.map_append, List.nodup_append] at h2
          exact h2.2.2 p hm p (by simp [allQ, Tr.pre]) rfl
        rw [spt_put fs p v hp, pl_l, pl_r]
        have e1 : done ++ wl ((p, Tr.n l v r) :: q) ++ [D.tup [.str (pl (p ++ [false])), l.told], .tup [.str (pl (p ++ [true])), r.told]] = (done ++ [D.tup [.str (pl p), (Tr.n l v r).told]]) ++ wl (q ++ [(p ++ [false], l), (p ++ [true], r)]) := by simp [wl]
        have e2 : (done.length : Int) + 1 = ((done ++ [D.tup [.str (pl p), (Tr.n l v r).told]]).length : Int) := by simp
        have e4 : stepsQ ((p, Tr.n l v r) :: q) = stepsQ (q ++ [(p ++ [false], l), (p ++ [true], r)]) + 1 := by simp [stepsQ, Tr.size]; omega
        have pq : ((fs ++ [(p, v)]) ++ allQ (q ++ [(p ++ [false], l), (p ++ [true], r)])).Perm (fs ++ allQ ((p, Tr.n l v r) :: q)) := by
          have a1 : allQ (q ++ [(p ++ [false], l), (p ++ [true], r)]) = allQ q ++ (l.pre (p ++ [false]) ++ r.pre (p ++ [true])) := by simp [allQ]
          have a2 : allQ ((p, Tr.n l v r) :: q) = (p, v) :: ((l.pre (p ++ [false]) ++ r.pre (p ++ [true])) ++ allQ q) := by simp [allQ, Tr.pre]
          rw [a1, a2, List.append_assoc]
          refine List.Perm.append_left fs ?_
          simp only [List.singleton_append]
          exact List.Perm.cons _ List.perm_append_comm
        rw [e1, e2]
        rw [e4] at hk hd
        obtain ⟨gs, ws, i, y4, y5, h1, h2⟩ := ih (q ++ [(p ++ [false], l), (p ++ [true], r)]) (done ++ [D.tup [.str (pl p), (Tr.n l v r).told]]) (fs ++ [(p, v)]) (some (.val, .str (pl p))) (some (.val, (Tr.n l v r).told)) (by omega) (fun x hx => by
            rcases List.mem_append.mp hx with hx | hx
            · exact hq x (List.mem_cons_of_mem _ hx)
            · have h0 := hq _ List.mem_cons_self
              simp [Tr.ht] at h0
              simp at hx
              rcases hx with rfl | rfl <;> simp <;> omega) (by simp; omega) (by have := pq.length_eq; simp at this hf ⊢; omega) ((pq.map _).nodup_iff.mpr hn)
        exact ⟨gs, ws, i, y4, y5, h1, h2.trans pq⟩
end Pu
namespace Pu
open PySem PySem.Spec PyProof.Rows L2 My PySem.StrLaws
theorem spots_ok (t : Tr) (h1 : t.size < 40000) (h2 : t.ht < 9000) : ∃ gs, fn_spots_of [t.told] = .ok (.tup [.dK (spt gs), .non]) .non ∧ gs.Perm (t.pre []) := by
  have e0 : stepsQ [(([] : Pa), t)] = 2 * t.size + 1 := by simp [stepsQ]
  have e1 : allQ [(([] : Pa), t)] = t.pre [] := by simp [allQ]
  obtain ⟨gs, ws, i, y4, y5, h3, h4⟩ := spots_loop (some (.val, t.told)) 100000 [([], t)] [] [] none none (by rw [e0]; omega) (fun x hx => by simp at hx; subst hx; simp; omega) (by rw [e0]; simp; omega) (by rw [e1, pre_len]; simp; omega) (by rw [e1]; exact pre_nodup t [])
  rw [e1, List.nil_append] at h4
  refine ⟨gs, ?_, h4⟩
  have h5 : dWh c0_spots_of l1_spots_of 100000 [some (.val, t.told), some (.own, .dK []), some (.own, .lst [.tup [.str (Str.ofString ""), t.told]]), some (.val, .int 0), none, none] = .nx [some (.val, t.told), some (.own, .dK (spt gs)), some (.own, .lst ws), some (.val, .int i), y4, y5] := by
    have e : ([] : List D) ++ wl [(([] : Pa), t)] = [.tup [.str (Str.ofString ""), t.told]] := by rw [pl_nil]; rfl
    rw [← e]
    exact h3
  simp [fn_spots_of, b_spots_of, szl', h5]

/-! ### the order of the places -/
def Tr.ino : Tr → Pa → List (Pa × Int)
  | .e, _ => []
  | .n l v r, p => l.ino (p ++ [false]) ++ (p, v) :: r.ino (p ++ [true])
theorem ino_perm (t : Tr) : ∀ p, (t.ino p).Perm (t.pre p) := by
  induction t with
  | e => intro p; exact .refl _
  | n l v r il ir =>
    intro p
    simp only [Tr.ino, Tr.pre]
    exact (List.perm_middle).trans (List.Perm.cons _ ((il _).append (ir _)))
def rb (b : Bool) : Nat := if b then 50 else 48
def rk (p : Pa) : List Nat := p.map rb ++ [49]
theorem repl_one {a b : Nat} : ∀ l : List Nat, replL [a] [b] l = l.map fun c => if c = a then b else c
  | [] => replL_nil
  | c :: l => by
    by_cases h : c = a
    · subst h
      rw [replL_hit (by simp) (by simp)]
      simp [repl_one l]
    · rw [replL_miss (by simpa using h)]
      simp [repl_one l, h]
theorem one_toList : (Str.ofString "1").cps.toList = [49] := by decide +kernel
theorem zero_toList : (Str.ofString "0").cps.toList = [48] := by decide +kernel
theorem two_toList : (Str.ofString "2").cps.toList = [50] := by decide +kernel
theorem rank_toList (p : Pa) : (rankS (pl p)).cps.toList = rk p := by
  unfold rankS
  rw [str_append, replace_list (by decide +kernel), replace_list (by decide +kernel)]
  show replL (Str.ofString "r").cps.toList (Str.ofString "2").cps.toList (replL (Str.ofString "l").cps.toList (Str.ofString "0").cps.toList (pl p).cps.toList) ++ (Str.ofString "1").cps.toList = _
  rw [l_toList, r_toList, zero_toList, one_toList, two_toList, pl_toList, repl_one, repl_one, rk]
  simp only [List.map_map]
  congr 1
  refine List.map_congr_left fun b _ => ?_
  cases b <;> simp [chB, rb]
theorem repl_len1 (x y z : Str) (hy : y.cps.toList.length = 1) (hz : z.cps.toList.length = 1) : (Txt.replace x y z).length = x.length := by
  have hy1 : 1 ≤ y.length := by
    have : y.length = y.cps.toList.length := by simp [Str.length]
    omega
  have h := replace_list (x := x) (y := y) (z := z) hy1
  obtain ⟨a, ha⟩ := List.length_eq_one_iff.mp hy
  obtain ⟨b, hb⟩ := List.length_eq_one_iff.mp hz
  rw [ha, hb, repl_one] at h
  have h2 := congrArg List.length h
  simpa [Str.length] using h2
theorem rank_ok (p : Pa) (h : p.length ≤ 3000) : fFn fnRank (.str (pl p)) = some (.str (rankS (pl p))) := by
  have h1 : (Txt.replace (pl p) (Str.ofString "l") (Str.ofString "0")).length = p.length := by rw [repl_len1 _ _ _ (by rw [l_toList]; rfl) (by rw [zero_toList]; rfl), pl_len]
  have h2 : (Txt.replace (Txt.replace (pl p) (Str.ofString "l") (Str.ofString "0")) (Str.ofString "r") (Str.ofString "2")).length = p.length := by rw [repl_len1 _ _ _ (by rw [r_toList]; rfl) (by rw [two_toList]; rfl), h1]
  have h3 : (pl p).length ≤ 3000 := by rw [pl_len]; exact h
  unfold fFn fnRank
  simp only
  rw [if_pos ⟨h3, by rw [h1]; omega, by rw [h2]; omega⟩]
theorem lex_app (P : List Nat) {a b : Nat} (u v : List Nat) (h : a < b) : P ++ a :: u < P ++ b :: v := by
  induction P with
  | nil => exact List.Lex.rel h
  | cons c P ih => exact List.Lex.cons ih
theorem ino_pfx (t : Tr) (p : Pa) (x : Pa × Int) (hx : x ∈ t.ino p) : ∃ s, x.1 = p ++ s ∧ s.length < t.ht := pre_pfx t p x ((ino_perm t p).mem_iff.mp hx)
theorem ino_srt (t : Tr) : ∀ p, (t.ino p).Pairwise fun a b => rk a.1 < rk b.1 := by
  induction t with
  | e => intro p; exact .nil
  | n l v r il ir =>
    intro p
    have L : ∀ x ∈ l.ino (p ++ [false]), ∃ u, rk x.1 = p.map rb ++ 48 :: u := fun x hx => by
      obtain ⟨s, e, _⟩ := ino_pfx l _ x hx
      exact ⟨s.map rb ++ [49], by rw [e, rk]; simp [rb]⟩
    have R : ∀ x ∈ r.ino (p ++ [true]), ∃ u, rk x.1 = p.map rb ++ 50 :: u := fun x hx => by
      obtain ⟨s, e, _⟩ := ino_pfx r _ x hx
      exact ⟨s.map rb ++ [49], by rw [e, rk]; simp [rb]⟩
    simp only [Tr.ino, List.pairwise_append, List.pairwise_cons, List.mem_cons]
    refine ⟨il _, ⟨fun y hy => ?_, ir _⟩, fun x hx y hy => ?_⟩
    · obtain ⟨u, e⟩ := R y hy
      rw [e]
      exact lex_app _ [] u (by omega)
    · obtain ⟨u, e⟩ := L x hx
      rw [e]
      rcases hy with rfl | hy
      · exact lex_app _ u [] (by omega)
      · obtain ⟨u', e'⟩ := R y hy
        rw [e']
        exact lex_app _ u u' (by omega)
theorem srt_uniq {α : Type} {lt : α → α → Bool} : ∀ l m : List α, SrtO.Srtd lt l → m.Pairwise (fun a b => lt a b = true) → l.Perm m → l = m
  | [], m, _, _, h => (List.nil_perm.mp h).symm
  | x :: l, [], _, _, h => by have := h.length_eq; simp at this
  | x :: l, y :: m, hl, hm, h => by
    by_cases e : x = y
    · subst e
      rw [srt_uniq l m (List.pairwise_cons.mp hl).2 (List.pairwise_cons.mp hm).2 h.cons_inv]
    · exfalso
      have hy : y ∈ l := by
        rcases List.mem_cons.mp (h.mem_iff.mpr (List.mem_cons_self (a := y) (l := m))) with e2 | e2
        · exact absurd e2.symm e
        · exact e2
      have hx : x ∈ m := by
        rcases List.mem_cons.mp (h.mem_iff.mp (List.mem_cons_self (a := x) (l := l))) with e2 | e2
        · exact absurd e2 e
        · exact e2
      have h1 := SrtO.srtd_head hl y hy
      have h2 := (List.pairwise_cons.mp hm).1 x hx
      rw [h2] at h1
      cases h1
def ltR (a b : Pa × Int) : Bool := decide (rk a.1 < rk b.1)
theorem swo_R : SrtO.Swo ltR := ⟨fun x y h => decide_eq_false (List.lt_asymm (of_decide_eq_true h)), fun x y z h1 h2 => decide_eq_false fun h => by
  have a : ¬ rk y.1 < rk x.1 := of_decide_eq_false h1
  have b : ¬ rk z.1 < rk y.1 := of_decide_eq_false h2
  exact List.not_lt.mpr (List.le_trans (List.not_lt.mp a) (List.not_lt.mp b)) h⟩
theorem mapO_eq (f : D → Option D) (g : Pa × Int → D) (k : Pa × Int → D) : ∀ l : List (Pa × Int), (∀ x ∈ l, f (g x) = some (k x)) → mapO f (l.map g) = some (l.map k)
  | [], _ => rfl
  | x :: l, h => by simp [mapO, h x List.mem_cons_self, mapO_eq f g k l fun y hy => h y (List.mem_cons_of_mem _ hy)]
theorem paired_map {α β γ : Type} {R : β → γ → Prop} (f : α → β) (g : α → γ) (h : ∀ a, R (f a) (g a)) : ∀ l : List α, Paired R (l.map f) (l.map g)
  | [] => .nil
  | a :: l => .cons (h a) (paired_map f g h l)
theorem paired_eq {α β : Type} {f : β → α} : ∀ {l : List α} {m : List β}, Paired (fun x u => x = f u) l m → l = m.map f
  | _, _, .nil => rfl
  | _, _, .cons h t => by rw [List.map_cons, ← h, paired_eq t]
theorem zip_map2 {α β γ : Type} (f : α → β) (g : α → γ) : ∀ l : List α, (l.map f).zip (l.map g) = l.map fun a => (f a, g a)
  | [] => rfl
  | a :: l => by simp [zip_map2 f g l]
def plS (l : List (Pa × Int)) : List D := l.map fun x => .str (pl x.1)
theorem keys_spt (gs : List (Pa × Int)) : (spt gs).map (fun p => keyV p.1) = plS gs := by
  simp [spt, plS, keyV, Function.comp_def]
theorem oneKd_S {l : List (Pa × Int)} (f : Pa × Int → Str) : oneKd (l.map fun x => .str (f x)) = true := by
  unfold oneKd
  rw [Bool.or_eq_true]
  right
  rw [List.all_eq_true]
  intro x hx
  obtain ⟨y, _, rfl⟩ := List.mem_map.mp hx
  rfl
theorem in_order_ok (t : Tr) (gs : List (Pa × Int)) (hp : gs.Perm (t.pre [])) (h2 : t.ht ≤ 3000) : fn_in_order [.dK (spt gs)] = .ok (.lst (plS (t.ino []))) .non := by
  have hm : mapO (fFn fnRank) (plS gs) = some (gs.map fun x => .str (rankS (pl x.1))) := mapO_eq _ _ _ gs fun x hx => by
    obtain ⟨s, e, h⟩ := pre_pfx t [] x (hp.mem_iff.mp hx)
    exact rank_ok x.1 (by rw [e]; simp; omega)
  have hs : srtD false (gs.map fun x => .str (rankS (pl x.1))) (plS gs) = plS (t.ino []) := by
    unfold srtD plS
    rw [if_neg (by decide), zip_map2]
    have q := SrtK.isort_rel (R := fun (x : D × D) (u : Pa × Int) => x = (.str (rankS (pl u.1)), .str (pl u.1))) (lt := fun p q : D × D => ltkD p.1 q.1) (lt' := ltR) (fun x y u v hx hy => by
      subst hx hy
      simp only [ltkD, rank_toList, ltR]) (paired_map (fun a : Pa × Int => (D.str (rankS (pl a.1)), D.str (pl a.1))) (fun a => a) (fun a => rfl) gs)
    rw [paired_eq q, List.map_id']
    have e : SrtK.isort ltR gs = t.ino [] := srt_uniq _ _ (SrtK.isort_srtd swo_R gs) ((ino_srt t []).imp fun h => decide_eq_true h) ((SrtK.isort_perm gs).trans (hp.trans (ino_perm t []).symm))
    rw [e, List.map_map]
    rfl
  have hk : (spt gs).map (fun p => keyV p.1) = plS gs := keys_spt gs
  simp only [fn_in_order, b_in_order, runF, List.length_cons, List.length_nil, initE, initAt, kdAt, List.replicate, dRet_e, dFr_e, dSrt_e, dVar_e]
  simp [hk, hm, hs, oneKd_S fun x : Pa × Int => rankS (pl x.1)]
end Pu
namespace Pu
open PySem PySem.Spec PyProof.Rows L2 My
/-! ### comprehensions and loops, once for all -/
theorem lcL_gen (i : Nat) (ρ0 : En) (fe : M Rv) (f : D → D) : ∀ (ds acc : List D) (x : Option (Kd × D)), (∀ d ∈ ds, fe (ρ0.set i (some (.val, d))) = .ok (.val (f d)) (ρ0.set i (some (.val, d)))) → acc.length + ds.length ≤ sizeLine →
    ∃ y, dLcL (gN i) dYes fe [i] ds acc (ρ0.set i x) = .ok (acc ++ ds.map f) (ρ0.set i y)
  | [], acc, x, _, _ => ⟨x, by simp [dLcL]⟩
  | d :: ds, acc, x, h, hl => by
    have h1 := h d List.mem_cons_self
    obtain ⟨y, e⟩ := lcL_gen i ρ0 fe f ds (acc ++ [f d]) (some (.val, d)) (fun d' hd => h d' (List.mem_cons_of_mem _ hd)) (by simp at hl ⊢; omega)
    refine ⟨y, ?_⟩
    have hlt : acc.length < sizeLine := by simp at hl; omega
    unfold dLcL
    simp only [gN, wipeE, List.set_set, dYes, h1, esc, if_pos hlt, e]
    simp
theorem dLc_gen {i : Nat} {fi : M (List D)} {fe : M Rv} {ρ ρ1 : En} {ds : List D} (f : D → D) (h1 : fi ρ = .ok ds ρ1) (h2 : ∀ d ∈ ds, fe (ρ1.set i (some (.val, d))) = .ok (.val (f d)) (ρ1.set i (some (.val, d)))) (hl : ds.length ≤ sizeLine) (hi : i < ρ1.length) :
    dLc fi (gN i) dYes fe [i] ρ = .ok (.lst (ds.map f)) (ρ1.set i none) := by
  have e0 : ρ1 = ρ1.set i (ρ1[i]) := by simp
  obtain ⟨y, e⟩ := lcL_gen i ρ1 fe f ds [] (ρ1[i]) h2 (by simpa using hl)
  rw [← e0] at e
  unfold dLc
  simp [h1, e, wipeE, List.set_set]
/-! ### height -/
theorem maxL_spec : ∀ l : List Int, (l = [] ∧ maxL l = none) ∨ ∃ m, maxL l = some m ∧ m ∈ l ∧ ∀ x ∈ l, x ≤ m
  | [] => .inl ⟨rfl, rfl⟩
  | x :: r => by
    right
    rcases maxL_spec r with ⟨e, h⟩ | ⟨m, h, hm, hx⟩
    · subst e
      exact ⟨x, by simp [maxL], by simp, by simp⟩
    · refine ⟨if x < m then m else x, by simp [maxL, h], ?_, ?_⟩
      · split
        · exact List.mem_cons_of_mem _ hm
        · exact List.mem_cons_self
      · intro y hy
        rcases List.mem_cons.mp hy with rfl | hy
        · split <;> omega
        · have := hx y hy
          split <;> omega
theorem ht_mem (t : Tr) : ∀ p, t ≠ .e → ∃ x ∈ t.pre p, x.1.length + 1 = p.length + t.ht := by
  induction t with
  | e => intro p h; exact absurd rfl h
  | n l v r il ir =>
    intro p _
    by_cases hl : l.ht = 0 ∧ r.ht = 0
    · exact ⟨(p, v), by simp [Tr.pre], by simp [Tr.ht, hl.1, hl.2]⟩
    · by_cases hc : r.ht ≤ l.ht
      · have : l ≠ .e := fun e => by subst e; simp [Tr.ht] at hl hc; omega
        obtain ⟨x, hx, e⟩ := il (p ++ [false]) this
        refine ⟨x, by simp [Tr.pre, hx], ?_⟩
        simp [Tr.ht] at e ⊢
        omega
      · have : r ≠ .e := fun e => by subst e; simp [Tr.ht] at hc
        obtain ⟨x, hx, e⟩ := ir (p ++ [true]) this
        refine ⟨x, by simp [Tr.pre, hx], ?_⟩
        simp [Tr.ht] at e ⊢
        omega
def lenP : D → D
  | .str z => .int (z.length + 1)
  | _ => .non
theorem ints_len (gs : List (Pa × Int)) : intsD ((plS gs).map lenP) = some (gs.map fun x => ((x.1.length : Int) + 1)) := by
  induction gs with
  | nil => rfl
  | cons x gs ih =>
    simp only [plS, List.map_map] at ih
    simp [plS, lenP, intsD, ih, pl_len]
theorem pre_short {t : Tr} {x : Pa × Int} (h : x ∈ t.pre []) : x.1.length < t.ht := by
  obtain ⟨s, e, h⟩ := pre_pfx t [] x h
  rw [e]; simpa using h
theorem max_ht (t : Tr) (gs : List (Pa × Int)) (hp : gs.Perm (t.pre [])) : (maxL (gs.map fun x => ((x.1.length : Int) + 1))).getD 0 = (t.ht : Int) := by
  rcases maxL_spec (gs.map fun x => ((x.1.length : Int) + 1)) with ⟨e, h⟩ | ⟨m, h, hm, hx⟩
  · rw [h]
    have : gs = [] := by simpa using e
    subst this
    have := hp.length_eq
    rw [pre_len] at this
    have h3 := ht_le t
    simp at this ⊢
    omega
  · rw [h]
    simp only [Option.getD_some]
    obtain ⟨x, hxm, e⟩ := List.mem_map.mp hm
    have h1 := pre_short (hp.mem_iff.mp hxm)
    have hne : t ≠ .e := fun z => by subst z; simp [Tr.ht] at h1
    obtain ⟨y, hy, ey⟩ := ht_mem t [] hne
    have h2 := hx _ (List.mem_map.mpr ⟨y, hp.mem_iff.mpr hy, rfl⟩)
    simp at ey
    omega
theorem height_ok (t : Tr) (gs : List (Pa × Int)) (hp : gs.Perm (t.pre [])) (h1 : t.size < 40000) (h2 : t.ht ≤ 3000) : fn_height_of [.dK (spt gs)] = .ok (.int t.ht) .non := by
  have hl : gs.length = t.size := by rw [hp.length_eq, pre_len]
  have hc : dLc (dItA (dVar 0)) (gN 1) dYes (d2 addD (dN (one1 lenD) (dCons (dVar 1) dNil)) (dC (.int 1))) [1] [some (.val, .dK (spt gs)), none] = .ok (.lst ((plS gs).map lenP)) [some (.val, .dK (spt gs)), none] := by
    refine dLc_gen (ρ1 := [some (.val, .dK (spt gs)), none]) (ds := plS gs) lenP ?_ ?_ (by simp [plS, hl, szl']; omega) (by simp)
    · simp [keys_spt gs]
    · intro d hd
      obtain ⟨x, hx, rfl⟩ := List.mem_map.mp hd
      have := pre_short (hp.mem_iff.mp hx)
      have h3 : (pl x.1).length ≤ 16777216 := by rw [pl_len]; omega
      simp [lenP, szl', h3]
  simp only [fn_height_of, b_height_of, runF, List.length_cons, List.length_nil, initE, initAt, kdAt, List.replicate]
  simp [dLc_e, hc, -dLc_e, ints_len, max_ht t gs hp]
/-! ### first_fall: no fall -/
theorem fall_loop (fs : List (Pa × Int)) (hn : (fs.map (·.1)).Nodup) : ∀ (l : List (Pa × Int)) (last : D) (x2 : Option (Kd × D)), (∀ x ∈ l, x ∈ fs) → (l.map (·.2)).Pairwise (· < ·) → (last = .non ∨ ∃ m, last = .int m ∧ ∀ x ∈ l, m < x.2) →
    ∃ last' y2, dForL (gN 2) l0_first_fall (plS l) [some (.val, .dK (spt fs)), some (.val, last), x2] = .nx [some (.val, .dK (spt fs)), some (.val, last'), y2]
  | [], last, x2, _, _, _ => ⟨last, x2, rfl⟩
  | x :: l, last, x2, hm, hs, hl => by
    have hv := spt_val fs x.1 x.2 hn (hm x List.mem_cons_self)
    have step : l0_first_fall [some (.val, .dK (spt fs)), some (.val, last), some (.val, .str (pl x.1))] = .nx [some (.val, .dK (spt fs)), some (.val, .int x.2), some (.val, .str (pl x.1))] := by
      rcases hl with rfl | ⟨m, rfl, hx⟩
      · simp [l0_first_fall, ixD, hv]
      · have := hx x List.mem_cons_self
        have h2 : ¬ x.2 ≤ m := by omega
        simp [l0_first_fall, ixD, hv, h2]
    obtain ⟨last', y2, e⟩ := fall_loop fs hn l (.int x.2) (some (.val, .str (pl x.1))) (fun y hy => hm y (List.mem_cons_of_mem _ hy)) (List.pairwise_cons.mp hs).2 (.inr ⟨x.2, rfl, fun y hy => (List.pairwise_cons.mp hs).1 y.2 (List.mem_map.mpr ⟨y, hy, rfl⟩)⟩)
    refine ⟨last', y2, ?_⟩
    rw [← e]
    simp only [plS, List.map_cons, dForL, gN, List.set, step]
def Tr.vals (t : Tr) : List Int := (t.ino []).map (·.2)
theorem fall_ok (t : Tr) (gs : List (Pa × Int)) (hp : gs.Perm (t.pre [])) (h2 : t.ht ≤ 3000) (hs : t.vals.Pairwise (· < ·)) : fn_first_fall [.dK (spt gs)] = .ok .non .non := by
  have hn : (gs.map (·.1)).Nodup := (hp.map _).nodup_iff.mpr (pre_nodup t [])
  obtain ⟨last', y2, e⟩ := fall_loop gs hn (t.ino []) .non none (fun x hx => hp.mem_iff.mpr ((ino_perm t []).mem_iff.mp hx)) hs (.inl rfl)
  simp [fn_first_fall, b_first_fall, in_order_ok t gs hp h2, e]
end Pu
namespace Pu
open PySem PySem.Spec PyProof.Rows L2 My
/-! ### told_of -/
def Tr.sub : Tr → Pa → Tr
  | t, [] => t
  | .e, _ :: _ => .e
  | .n l _ r, b :: p => (if b then r else l).sub p
theorem sub_e (p : Pa) : Tr.e.sub p = .e := by cases p <;> rfl
theorem sub_app (q : Pa) : ∀ (p : Pa) (t : Tr), t.sub (p ++ q) = (t.sub p).sub q
  | [], t => by simp [Tr.sub]
  | b :: p, .e => by rw [sub_e, sub_e, sub_e]
  | b :: p, .n l v r => by simp only [List.cons_append, Tr.sub]; exact sub_app q p _
theorem mem_sub (t : Tr) : ∀ (p : Pa) (x : Pa × Int), x ∈ t.pre p → ∃ s l r, x.1 = p ++ s ∧ t.sub s = .n l x.2 r := by
  induction t with
  | e => intro p x h; simp [Tr.pre] at h
  | n l v r il ir =>
    intro p x h
    simp only [Tr.pre, List.mem_cons, List.mem_append] at h
    rcases h with rfl | h | h
    · exact ⟨[], l, r, by simp, rfl⟩
    · obtain ⟨s, l', r', e, h⟩ := il _ x h
      exact ⟨false :: s, l', r', by rw [e]; simp, by simpa [Tr.sub] using h⟩
    · obtain ⟨s, l', r', e, h⟩ := ir _ x h
      exact ⟨true :: s, l', r', by rw [e]; simp, by simpa [Tr.sub] using h⟩
theorem sub_mem (t : Tr) : ∀ (s p : Pa) (l : Tr) (v : Int) (r : Tr), t.sub s = .n l v r → (p ++ s, v) ∈ t.pre p := by
  induction t with
  | e => intro s p l v r h; rw [sub_e] at h; cases h
  | n l0 v0 r0 il ir =>
    intro s p l v r h
    cases s with
    | nil =>
      cases h
      simp [Tr.pre]
    | cons b s =>
      cases b with
      | false =>
        have := il s (p ++ [false]) l v r (by simpa [Tr.sub] using h)
        simp [Tr.pre] at this ⊢
        exact .inl this
      | true =>
        have := ir s (p ++ [true]) l v r (by simpa [Tr.sub] using h)
        simp [Tr.pre] at this ⊢
        exact .inr this
/-- what has been built -/
def blt (t : Tr) (os : List (Pa × Int)) : List (Key × D) := os.map fun x => (Sum.inr (pl x.1), (t.sub x.1).told)
theorem blt_any (t : Tr) (l : List (Pa × Int)) (p : Pa) : ((blt t l).any fun kv => decide (kv.1 = (Sum.inr (pl p) : Key))) = decide (p ∈ l.map (·.1)) := by
  induction l with
  | nil => simp [blt]
  | cons x l ih =>
    simp only [blt] at ih ⊢
    simp only [List.map_cons, List.any_cons, ih, Sum.inr.injEq, pl_eq, List.mem_cons, Bool.decide_or]
    congr 1
    exact decide_eq_decide.mpr ⟨Eq.symm, Eq.symm⟩
theorem blt_put (t : Tr) (l : List (Pa × Int)) (x : Pa × Int) (h : x.1 ∉ l.map (·.1)) : putD (blt t l) (Sum.inr (pl x.1)) (t.sub x.1).told = blt t (l ++ [x]) := by
  unfold putD
  rw [blt_any, if_neg (by simpa using h)]
  simp [blt]
theorem blt_val (t : Tr) (p : Pa) : ∀ l : List (Pa × Int), valD (blt t l) (Sum.inr (pl p) : Key) = if p ∈ l.map (·.1) then some (t.sub p).told else none
  | [] => by simp [blt, valD]
  | x :: l => by
    have ih := blt_val t p l
    simp only [blt] at ih
    simp only [blt, List.map_cons, valD, Sum.inr.injEq, pl_eq, ih, List.mem_cons]
    by_cases h : x.1 = p
    · simp [h]
    · have h2 : ¬ p = x.1 := fun e => h e.symm
      rw [if_neg h]
      by_cases h3 : p ∈ l.map (·.1)
      · rw [if_pos h3, if_pos (.inr h3)]
      · rw [if_neg h3, if_neg (fun z => z.elim h2 h3)]
theorem told_loop (t : Tr) (gs os : List (Pa × Int)) (hn : (gs.map (·.1)).Nodup) (hp : gs.Perm (t.pre [])) (ho : os.Perm gs) (hd : os.Pairwise fun a b => b.1.length ≤ a.1.length) (h1 : t.size < 40000) (h2 : t.ht ≤ 3000) :
    ∀ (todo done : List (Pa × Int)) (x2 : Option (Kd × D)), os = done ++ todo →
      ∃ y2, dForL (gN 2) l0_told_of (plS todo) [some (.val, .dK (spt gs)), some (.own, .dK (blt t done)), x2] = .nx [some (.val, .dK (spt gs)), some (.own, .dK (blt t os)), y2]
  | [], done, x2, e => ⟨x2, by rw [e]; simp [plS, dForL]⟩
  | x :: todo, done, x2, e => by
    have hos : (os.map (·.1)).Nodup := (ho.map _).nodup_iff.mpr hn
    have hx : x ∈ os := by rw [e]; simp
    have hxg : x ∈ gs := ho.mem_iff.mp hx
    have hv := spt_val gs x.1 x.2 hn hxg
    have hxp := hp.mem_iff.mp hxg
    obtain ⟨s, l, r, es, hs⟩ := mem_sub t [] x hxp
    rw [List.nil_append] at es
    subst es
    have hsh := pre_short hxp
    have hnd : x.1 ∉ done.map (·.1) := by
      intro hm
      have h3 := hos
      rw [e, List.map_append, List.nodup_append] at h3
      exact h3.2.2 x.1 hm x.1 (by simp) rfl
    have child : ∀ b : Bool, ((valD (blt t done) (Sum.inr (pl (x.1 ++ [b])) : Key)).getD .non) = (t.sub (x.1 ++ [b])).told := by
      intro b
      rw [blt_val]
      by_cases hm : x.1 ++ [b] ∈ done.map (·.1)
      · rw [if_pos hm]; rfl
      · rw [if_neg hm]
        cases hc : t.sub (x.1 ++ [b]) with
        | e => rfl
        | n l' v' r' =>
          exfalso
          have h3 := sub_mem t (x.1 ++ [b]) [] l' v' r' hc
          rw [List.nil_append] at h3
          have h4 : (x.1 ++ [b], v') ∈ os := ho.mem_iff.mpr (hp.mem_iff.mpr h3)
          rw [e] at h4
          rcases List.mem_append.mp h4 with h4 | h4
          · exact hm (List.mem_map.mpr ⟨_, h4, rfl⟩)
          · rcases List.mem_cons.mp h4 with h4 | h4
            · have := congrArg (fun z : Pa × Int => z.1.length) h4
              simp at this
            · have h5 := hd
              rw [e, List.pairwise_append] at h5
              have := (List.pairwise_cons.mp h5.2.1).1 _ h4
              simp at this
              omega
    have cl := child false
    have cr := child true
    rw [sub_app, hs] at cl cr
    simp only [Tr.sub, if_true, if_false, Bool.false_eq_true] at cl cr
    have hb : (pl x.1).length + 1 ≤ 16777216 := by rw [pl_len]; omega
    have hbl : (blt t done).length < 16777216 := by
      have h6 : os.length = t.size := by rw [ho.length_eq, hp.length_eq, pre_len]
      have h7 : done.length ≤ os.length := by rw [e]; simp
      simp [blt]
      omega
    have step : l0_told_of [some (.val, .dK (spt gs)), some (.own, .dK (blt t done)), some (.val, .str (pl x.1))] = .nx [some (.val, .dK (spt gs)), some (.own, .dK (blt t (done ++ [x]))), some (.val, .str (pl x.1))] := by
      have hpu := blt_put t done x hnd
      rw [hs, Tr.told] at hpu
      simp [l0_told_of, ixD, hv, szl', l_len, r_len, hb, hbl, pl_l, pl_r, cl, cr, hpu]
    obtain ⟨y2, e2⟩ := told_loop t gs os hn hp ho hd h1 h2 todo (done ++ [x]) (some (.val, .str (pl x.1))) (by rw [e]; simp)
    refine ⟨y2, ?_⟩
    rw [← e2]
    simp only [plS, List.map_cons, dForL, gN, List.set, step]
def ltL (a b : Pa × Int) : Bool := decide (a.1.length < b.1.length)
theorem swo_L : SrtO.Swo ltL := ⟨fun x y h => by simp [ltL] at h ⊢; omega, fun x y z h1 h2 => by simp [ltL] at h1 h2 ⊢; omega⟩
theorem told_ok (t : Tr) (gs : List (Pa × Int)) (hp : gs.Perm (t.pre [])) (h1 : t.size < 40000) (h2 : t.ht ≤ 3000) : fn_told_of [.dK (spt gs)] = .ok t.told .non := by
  have hn : (gs.map (·.1)).Nodup := (hp.map _).nodup_iff.mpr (pre_nodup t [])
  have hm : mapO fLen (plS gs) = some (gs.map fun x => .int x.1.length) := mapO_eq _ _ _ gs fun x hx => by
    have h3 := pre_short (hp.mem_iff.mp hx)
    have h4 : (pl x.1).length ≤ sizeLine := by rw [pl_len, szl']; omega
    show (if (pl x.1).length ≤ sizeLine then some (D.int (pl x.1).length) else none) = _
    rw [if_pos h4, pl_len]
  have hok : oneKd (gs.map fun x => D.int x.1.length) = true := by
    unfold oneKd
    rw [Bool.or_eq_true]
    left
    rw [List.all_eq_true]
    intro x hx
    obtain ⟨y, _, rfl⟩ := List.mem_map.mp hx
    rfl
  have hs : srtD true (gs.map fun x => .int x.1.length) (plS gs) = plS (SrtK.isort ltL gs.reverse).reverse := by
    unfold srtD plS
    rw [if_pos rfl, zip_map2, ← List.map_reverse (l := gs)]
    have q := SrtK.isort_rel (R := fun (x : D × D) (u : Pa × Int) => x = (.int u.1.length, .str (pl u.1))) (lt := fun p q : D × D => ltkD p.1 q.1) (lt' := ltL) (fun x y u v hx hy => by
      subst hx hy
      simp [ltkD, ltL]) (paired_map (fun a : Pa × Int => (D.int a.1.length, D.str (pl a.1))) (fun a => a) (fun a => rfl) gs.reverse)
    rw [paired_eq q, List.map_id', List.map_map, ← List.map_reverse]
    rfl
  have ho : (SrtK.isort ltL gs.reverse).reverse.Perm gs := (List.reverse_perm _).trans ((SrtK.isort_perm _).trans (List.reverse_perm _))
  have hd : (SrtK.isort ltL gs.reverse).reverse.Pairwise fun a b => b.1.length ≤ a.1.length := by
    rw [List.pairwise_reverse]
    exact (SrtK.isort_srtd swo_L gs.reverse).imp fun h => by simpa [ltL] using h
  obtain ⟨y2, e⟩ := told_loop t gs _ hn hp ho hd h1 h2 _ [] none rfl
  have e' : dForL (gN 2) l0_told_of (plS (SrtK.isort ltL gs.reverse).reverse) [some (.val, .dK (spt gs)), some (.own, .dK []), none] = .nx [some (.val, .dK (spt gs)), some (.own, .dK (blt t (SrtK.isort ltL gs.reverse).reverse)), y2] := e
  have fin : (valD (blt t (SrtK.isort ltL gs.reverse).reverse) (Sum.inr (pl []) : Key)).getD .non = t.told := by
    rw [blt_val]
    by_cases hm : ([] : Pa) ∈ (SrtK.isort ltL gs.reverse).reverse.map (·.1)
    · rw [if_pos hm]; rfl
    · rw [if_neg hm]
      cases t with
      | e => rfl
      | n l v r =>
        exfalso
        refine hm (List.mem_map.mpr ⟨([], v), ho.mem_iff.mpr (hp.mem_iff.mpr (by simp [Tr.pre])), rfl⟩)
  simp only [fn_told_of, b_told_of, runF, List.length_cons, List.length_nil, initE, initAt, kdAt, List.replicate]
  simp [keys_spt gs, hm, hok, hs, e', pl_nil, fin]
/-! ### Tree(told) -/
def Tr.ins (t : Tr) (gs : List (Pa × Int)) : D := .ins "Tree" [("own_spots", .dK (spt gs)), ("told", t.told), ("size", .int t.size), ("height", .int t.ht)]
theorem init_ok (t : Tr) (h1 : t.size ≤ 2000) (h2 : t.ht ≤ 200) (hs : t.vals.Pairwise (· < ·)) : ∃ gs, gs.Perm (t.pre []) ∧ fn_Tree_init [.ins "Tree" [], t.told] = .ok .non (t.ins gs) := by
  obtain ⟨gs, e, hp⟩ := spots_ok t (by omega) (by omega)
  refine ⟨gs, hp, ?_⟩
  have a1 := height_ok t gs hp (by omega) (by omega)
  have a2 := fall_ok t gs hp (by omega) hs
  have a3 := told_ok t gs hp (by omega) (by omega)
  have hl : (spt gs).length = t.size := by simp [spt, hp.length_eq, pre_len]
  have b1 : ¬ (2000 : Int) < (t.size : Int) := by omega
  have b2 : ¬ (200 : Int) < (t.ht : Int) := by omega
  have k1 : (Str.ofString "own_spots" = Str.ofString "told") = False := eq_false (by decide +kernel)
  have k2 : (Str.ofString "own_spots" = Str.ofString "size") = False := eq_false (by decide +kernel)
  have k3 : (Str.ofString "told" = Str.ofString "size") = False := eq_false (by decide +kernel)
  have k4 : (Str.ofString "own_spots" = Str.ofString "height") = False := eq_false (by decide +kernel)
  have k5 : (Str.ofString "told" = Str.ofString "height") = False := eq_false (by decide +kernel)
  have k6 : (Str.ofString "size" = Str.ofString "height") = False := eq_false (by decide +kernel)
  simp [fn_Tree_init, b_Tree_init, e, a1, a2, a3, hl, b1, b2, k1, k2, k3, k4, k5, k6, Tr.ins]
end Pu
namespace Pu
open PySem PySem.Spec PyProof.Rows L2 My
/-! ### texts of tuples of plain texts: one text, one tuple -/
def bodyL : List (List Nat) → List Nat
  | [] => [41]
  | [x] => x ++ [41]
  | x :: y :: r => x ++ 44 :: 32 :: bodyL (y :: r)
def fullL : List (List Nat) → List Nat
  | [] => [40, 41]
  | [x] => 40 :: (x ++ [44, 41])
  | x :: y :: r => 40 :: bodyL (x :: y :: r)
def Quo (x : List Nat) : Prop := ∃ z, x = 39 :: (z ++ [39]) ∧ 39 ∉ z
def Pts (x : List Nat) : Prop := Quo x ∨ ∃ c r, x = c :: r ∧ c ≠ 39
theorem split39 : ∀ {z1 z2 u v : List Nat}, 39 ∉ z1 → 39 ∉ z2 → z1 ++ 39 :: u = z2 ++ 39 :: v → z1 = z2 ∧ u = v
  | [], [], u, v, _, _, h => ⟨rfl, by simpa using h⟩
  | [], c :: z2, u, v, _, h2, h => by
    simp at h
    exact absurd (by rw [← h.1]; simp) h2
  | c :: z1, [], u, v, h1, _, h => by
    simp at h
    exact absurd (by rw [h.1]; simp) h1
  | c :: z1, d :: z2, u, v, h1, h2, h => by
    simp only [List.cons_append, List.cons.injEq] at h
    obtain ⟨a, b⟩ := split39 (fun m => h1 (List.mem_cons_of_mem _ m)) (fun m => h2 (List.mem_cons_of_mem _ m)) h.2
    exact ⟨by rw [h.1, a], b⟩
theorem quo_split {x y u v : List Nat} (hx : Quo x) (hy : Pts y) (h : x ++ u = y ++ v) : x = y ∧ u = v := by
  obtain ⟨z, rfl, hz⟩ := hx
  rcases hy with ⟨z2, rfl, hz2⟩ | ⟨c, r, rfl, hc⟩
  · simp only [List.cons_append, List.append_assoc, List.cons.injEq, true_and, List.singleton_append] at h
    obtain ⟨a, b⟩ := split39 hz hz2 h
    exact ⟨by rw [a], b⟩
  · simp only [List.cons_append, List.cons.injEq] at h
    exact absurd h.1.symm hc
theorem body_inj : ∀ {A P : List (List Nat)}, A ≠ [] → P ≠ [] → (∀ x ∈ A, Quo x) → (∀ y ∈ P, Pts y) → bodyL A = bodyL P → A = P
  | [], _, h, _, _, _, _ => absurd rfl h
  | _ :: _, [], _, h, _, _, _ => absurd rfl h
  | [x], [y], _, _, hA, hP, h => by
    obtain ⟨a, _⟩ := quo_split (hA x (by simp)) (hP y (by simp)) h
    rw [a]
  | [x], y :: y2 :: r, _, _, hA, hP, h => by
    obtain ⟨_, b⟩ := quo_split (hA x (by simp)) (hP y (by simp)) h
    simp at b
  | x :: x2 :: r, [y], _, _, hA, hP, h => by
    obtain ⟨_, b⟩ := quo_split (hA x (by simp)) (hP y (by simp)) h
    simp at b
  | x :: x2 :: r, y :: y2 :: q, _, _, hA, hP, h => by
    obtain ⟨a, b⟩ := quo_split (hA x (by simp)) (hP y (by simp)) h
    simp only [List.cons.injEq, true_and] at b
    have := body_inj (A := x2 :: r) (P := y2 :: q) (by simp) (by simp) (fun z hz => hA z (List.mem_cons_of_mem _ hz)) (fun z hz => hP z (List.mem_cons_of_mem _ hz)) b
    rw [a, this]
theorem full_inj {A P : List (List Nat)} (hA0 : A ≠ []) (hA : ∀ x ∈ A, Quo x) (hP : ∀ y ∈ P, Pts y) (h : fullL A = fullL P) : A = P := by
  match A, P with
  | [], _ => exact absurd rfl hA0
  | [x], [] =>
    obtain ⟨z, rfl, _⟩ := hA x (by simp)
    simp [fullL] at h
  | [x], [y] =>
    simp only [fullL, List.cons.injEq, true_and] at h
    obtain ⟨a, _⟩ := quo_split (hA x (by simp)) (hP y (by simp)) h
    rw [a]
  | [x], y :: y2 :: r =>
    simp only [fullL, bodyL, List.cons.injEq, true_and] at h
    obtain ⟨_, b⟩ := quo_split (hA x (by simp)) (hP y (by simp)) h
    simp at b
  | x :: x2 :: r, [] =>
    obtain ⟨z, rfl, _⟩ := hA x (by simp)
    simp [fullL, bodyL] at h
  | x :: x2 :: r, [y] =>
    simp only [fullL, bodyL, List.cons.injEq, true_and] at h
    obtain ⟨_, b⟩ := quo_split (hA x (by simp)) (hP y (by simp)) h
    simp at b
  | x :: x2 :: r, y :: y2 :: q =>
    simp only [fullL, List.cons.injEq, true_and] at h
    exact body_inj (by simp) (by simp) hA hP h
theorem strA (s t : Str) : (s ++ t).cps.toList = s.cps.toList ++ t.cps.toList := str_append s t
theorem join_body : ∀ ts : List Str, ts ≠ [] → (Str.join (Str.ofString ", ") ts).cps.toList ++ [41] = bodyL (ts.map fun s => s.cps.toList)
  | [], h => absurd rfl h
  | [x], _ => rfl
  | x :: y :: r, _ => by
    have ih := join_body (y :: r) (by simp)
    have e : (Str.ofString ", ").cps.toList = [44, 32] := by decide +kernel
    show ((x ++ Str.ofString ", ") ++ Str.join (Str.ofString ", ") (y :: r)).cps.toList ++ [41] = _
    rw [strA, strA, e]
    simp only [List.map_cons, bodyL] at ih ⊢
    rw [List.append_assoc, List.append_assoc, ih]
    rfl
theorem tup_full (ts : List Str) : (tupleText ts).cps.toList = fullL (ts.map fun s => s.cps.toList) := by
  have e1 : (Str.ofString "(").cps.toList = [40] := by decide +kernel
  have e2 : (Str.ofString ")").cps.toList = [41] := by decide +kernel
  have e3 : (Str.ofString ",)").cps.toList = [44, 41] := by decide +kernel
  unfold tupleText
  match ts with
  | [] =>
    show ((Str.ofString "(" ++ Str.join (Str.ofString ", ") []) ++ Str.ofString ")").cps.toList = _
    rw [strA, strA, e1, e2]
    rfl
  | [x] =>
    show ((Str.ofString "(" ++ x) ++ Str.ofString ",)").cps.toList = _
    rw [strA, strA, e1, e3]
    simp [fullL]
  | x :: y :: r =>
    have ih := join_body (x :: y :: r) (by simp)
    have hl : ((x :: y :: r).length == 1) = false := by simp
    rw [hl]
    show ((Str.ofString "(" ++ Str.join (Str.ofString ", ") (x :: y :: r)) ++ Str.ofString ")").cps.toList = _
    rw [strA, strA, e1, e2]
    simp only [List.map_cons, fullL, List.append_assoc] at ih ⊢
    rw [ih]
    rfl
/-! ### a plain text in quotes -/
def PlainC (c : Nat) : Prop := 32 ≤ c ∧ c < 127 ∧ c ≠ 39 ∧ c ≠ 92 ∧ c ≠ 34
end Pu
namespace Pu
open PySem PySem.Spec PyProof.Rows L2 My
theorem seq_go {f g : SM} {ρ ρ1 : En} {o : SOut} (h : f ρ = .nx ρ1) (h2 : g ρ1 = o) : dSeq f g ρ = o := by
  unfold dSeq
  rw [h]
  exact h2
theorem seq_rt {f g : SM} {ρ ρ1 : En} {d : D} (h : f ρ = .rt d ρ1) : dSeq f g ρ = .rt d ρ1 := by
  unfold dSeq
  rw [h]
theorem for_go {fi : M (List D)} {g : TM} {body : SM} {ρ ρ1 : En} {ds : List D} {o : SOut} (h : fi ρ = .ok ds ρ1) (h2 : dForL g body ds ρ1 = o) : dFor fi g body ρ = o := by
  unfold dFor
  rw [h]
  exact h2
theorem forL_nx {g : TM} {body : SM} {d : D} {ds : List D} {ρ ρ1 ρ2 : En} (h1 : g d ρ = some ρ1) (h2 : body ρ1 = .nx ρ2) : dForL g body (d :: ds) ρ = dForL g body ds ρ2 := by
  conv => lhs; unfold dForL
  simp only [h1, h2]
theorem forL_ct {g : TM} {body : SM} {d : D} {ds : List D} {ρ ρ1 ρ2 : En} (h1 : g d ρ = some ρ1) (h2 : body ρ1 = .ct ρ2) : dForL g body (d :: ds) ρ = dForL g body ds ρ2 := by
  conv => lhs; unfold dForL
  simp only [h1, h2]
theorem set_go {i : Nat} {fa : M Rv} {ρ ρ1 : En} {d : D} (h : fa ρ = .ok (.val d) ρ1) : dSet i fa ρ = .nx (ρ1.set i (some (.val, d))) := by
  unfold dSet dAsg
  rw [h]
  rfl
theorem eqI (a b : Int) : eqD (.int a) (.int b) = some (.bl (decide (a = b))) := by simp [eqD, eqB, scalD, sameS]
theorem eqS (a b : Str) : eqD (.str a) (.str b) = some (.bl (decide (a = b))) := by simp [eqD, eqB, scalD, sameS]
theorem neS (a b : Str) : neD (.str a) (.str b) = some (.bl (!decide (a = b))) := by simp [neD, eqB, scalD, sameS]
/-! ### letters and places -/
theorem chrs_pl (p : Pa) : chrs (pl p) = p.map fun b => .str (pl [b]) := by
  unfold chrs
  rw [pl_toList, List.map_map]
  apply List.map_congr_left
  intro b _
  cases b <;> rfl
theorem l_eq : Str.ofString "l" = pl [false] := by decide +kernel
theorem r_eq : Str.ofString "r" = pl [true] := by decide +kernel
theorem eq_l (b : Bool) : eqD (.str (pl [b])) (.str (Str.ofString "l")) = some (.bl (!b)) := by
  rw [eqS, l_eq]
  cases b <;> simp [pl_eq]
theorem revStr_pl (p : Pa) : RZ.revStr (pl p) = pl p.reverse := by
  unfold RZ.revStr pl
  simp
/-- all places on the way there are there -/
def Tr.reach : Tr → Pa → Prop
  | _, [] => True
  | .e, _ :: _ => False
  | .n l _ r, b :: p => (if b then r else l).reach p
theorem reach_of : ∀ {p : Pa} {t : Tr}, t.sub p ≠ .e → t.reach p
  | [], t, _ => by cases t <;> trivial
  | b :: p, .e, h => absurd (sub_e _) h
  | b :: p, .n l v r, h => by
    unfold Tr.reach
    exact reach_of (p := p) (by simpa [Tr.sub] using h)
theorem reach_snoc {b : Bool} : ∀ {p : Pa} {t : Tr}, t.sub p ≠ .e → t.reach (p ++ [b])
  | [], .e, h => absurd rfl h
  | [], .n l v r, _ => by cases b <;> simp [Tr.reach] <;> (cases l <;> cases r <;> trivial)
  | c :: p, .e, h => absurd (sub_e _) h
  | c :: p, .n l v r, h => by
    show ((if c then r else l)).reach (p ++ [b])
    exact reach_snoc (p := p) (by simpa [Tr.sub] using h)
/-- another tree at a place -/
def Tr.put : Tr → Pa → Tr → Tr
  | _, [], s => s
  | .e, _ :: _, _ => .e
  | .n l v r, false :: p, s => .n (l.put p s) v r
  | .n l v r, true :: p, s => .n l v (r.put p s)
theorem told_n (l : Tr) (v : Int) (r : Tr) : (Tr.n l v r).told = .tup [l.told, .int v, r.told] := rfl
theorem told_non (t : Tr) : isN false t.told .non = some (.bl (decide (t = .e))) := by
  cases t <;> rfl
/-! ### down: what the law tells at a place -/
theorem down_loop (x1 : Option (Kd × D)) : ∀ (p : Pa) (t : Tr) (x2 : Option (Kd × D)), ∃ y2, dForL (gN 2) l0_law_down (p.map fun b => .str (pl [b])) [some (.val, t.told), x1, x2] = .nx [some (.val, (t.sub p).told), x1, y2]
  | [], t, x2 => ⟨x2, by cases t <;> rfl⟩
  | b :: p, .e, x2 => by
    have st : l0_law_down [some (.val, Tr.e.told), x1, some (.val, .str (pl [b]))] = .nx [some (.val, Tr.e.told), x1, some (.val, .str (pl [b]))] := by
      simp [l0_law_down, Tr.told]
    obtain ⟨y2, e⟩ := down_loop x1 p .e (some (.val, .str (pl [b])))
    refine ⟨y2, ?_⟩
    rw [List.map_cons, forL_nx (ρ1 := [some (.val, Tr.e.told), x1, some (.val, .str (pl [b]))]) rfl st, e, sub_e, sub_e]
  | b :: p, .n l v r, x2 => by
    have e0 : ixD (Tr.n l v r).told (.int 0) = some l.told := rfl
    have e2 : ixD (Tr.n l v r).told (.int 2) = some r.told := rfl
    have en : isN false (Tr.n l v r).told .non = some (.bl false) := rfl
    have st : l0_law_down [some (.val, (Tr.n l v r).told), x1, some (.val, .str (pl [b]))] = .nx [some (.val, (if b then r else l).told), x1, some (.val, .str (pl [b]))] := by
      have el := eq_l b
      cases b <;> simp [l0_law_down, en, el, e0, e2, -isN_u]
    obtain ⟨y2, e⟩ := down_loop x1 p (if b then r else l) (some (.val, .str (pl [b])))
    refine ⟨y2, ?_⟩
    rw [List.map_cons, forL_nx (ρ1 := [some (.val, (Tr.n l v r).told), x1, some (.val, .str (pl [b]))]) rfl st, e]
    rfl
theorem down_ok (t : Tr) (p : Pa) : fn_law_down [t.told, .str (pl p)] = .ok (t.sub p).told .non := by
  obtain ⟨y2, e⟩ := down_loop (some (.val, .str (pl p))) p t none
  have key : b_law_down [some (.val, t.told), some (.val, .str (pl p)), none] = .rt (t.sub p).told [some (.val, (t.sub p).told), some (.val, .str (pl p)), y2] := by
    unfold b_law_down
    refine seq_go (for_go (by simp; exact chrs_pl p) e) ?_
    simp
  simp only [fn_law_down, runF, List.length_cons, List.length_nil, initE, initAt, kdAt, List.replicate]
  simp [key]
/-! ### told_at -/
theorem at_loop (x1 : Option (Kd × D)) : ∀ (p : Pa) (t : Tr) (x2 : Option (Kd × D)), t.reach p → ∃ y2, dForL (gN 2) l0_told_at (p.map fun b => .str (pl [b])) [some (.val, t.told), x1, x2] = .nx [some (.val, (t.sub p).told), x1, y2]
  | [], t, x2, _ => ⟨x2, by cases t <;> rfl⟩
  | b :: p, .e, x2, h => h.elim
  | b :: p, .n l v r, x2, h => by
    have e0 : ixD (Tr.n l v r).told (.int 0) = some l.told := rfl
    have e2 : ixD (Tr.n l v r).told (.int 2) = some r.told := rfl
    have st : l0_told_at [some (.val, (Tr.n l v r).told), x1, some (.val, .str (pl [b]))] = .nx [some (.val, (if b then r else l).told), x1, some (.val, .str (pl [b]))] := by
      have el := eq_l b
      cases b <;> simp [l0_told_at, el, e0, e2]
    obtain ⟨y2, e⟩ := at_loop x1 p (if b then r else l) (some (.val, .str (pl [b]))) h
    refine ⟨y2, ?_⟩
    rw [List.map_cons, forL_nx (ρ1 := [some (.val, (Tr.n l v r).told), x1, some (.val, .str (pl [b]))]) rfl st, e]
    rfl
theorem at_ok (t : Tr) (p : Pa) (h : t.reach p) : fn_told_at [t.told, .str (pl p)] = .ok (t.sub p).told .non := by
  obtain ⟨y2, e⟩ := at_loop (some (.val, .str (pl p))) p t none h
  have key : b_told_at [some (.val, t.told), some (.val, .str (pl p)), none] = .rt (t.sub p).told [some (.val, (t.sub p).told), some (.val, .str (pl p)), y2] := by
    unfold b_told_at
    refine seq_go (for_go (by simp; exact chrs_pl p) e) ?_
    simp
  simp only [fn_told_at, runF, List.length_cons, List.length_nil, initE, initAt, kdAt, List.replicate]
  simp [key]
/-! ### with_told -/
def chain : Tr → Pa → List D
  | _, [] => []
  | .e, _ :: _ => []
  | .n l v r, b :: p => (Tr.n l v r).told :: chain (if b then r else l) p
theorem chain_len : ∀ {p : Pa} {t : Tr}, t.reach p → (chain t p).length = p.length
  | [], t, _ => by cases t <;> rfl
  | b :: p, .e, h => h.elim
  | b :: p, .n l v r, h => by simp [chain, chain_len (p := p) (t := if b then r else l) h]
theorem wt_loop1 (x1 x2 x5 : Option (Kd × D)) : ∀ (p : Pa) (t : Tr) (acc : List D) (x4 : Option (Kd × D)), t.reach p → acc.length + p.length < 100000 → ∃ y4, dForL (gN 4) l0_with_told (p.map fun b => .str (pl [b])) [some (.val, t.told), x1, x2, some (.own, .lst acc), x4, x5] = .nx [some (.val, (t.sub p).told), x1, x2, some (.own, .lst (acc ++ chain t p)), y4, x5]
  | [], t, acc, x4, _, _ => ⟨x4, by cases t <;> simp [dForL, Tr.sub, chain]⟩
  | b :: p, .e, acc, x4, h, _ => h.elim
  | b :: p, .n l v r, acc, x4, h, hl => by
    simp only [List.length_cons] at hl
    have e0 : ixD (Tr.n l v r).told (.int 0) = some l.told := rfl
    have e2 : ixD (Tr.n l v r).told (.int 2) = some r.told := rfl
    have b1 : acc.length < 16777216 := by omega
    have st : l0_with_told [some (.val, (Tr.n l v r).told), x1, x2, some (.own, .lst acc), some (.val, .str (pl [b])), x5] = .nx [some (.val, (if b then r else l).told), x1, x2, some (.own, .lst (acc ++ [(Tr.n l v r).told])), some (.val, .str (pl [b])), x5] := by
      have el := eq_l b
      cases b <;> simp [l0_with_told, el, e0, e2, szl', b1]
    obtain ⟨y4, e⟩ := wt_loop1 x1 x2 x5 p (if b then r else l) (acc ++ [(Tr.n l v r).told]) (some (.val, .str (pl [b]))) h (by simp; omega)
    refine ⟨y4, ?_⟩
    rw [List.map_cons, forL_nx (ρ1 := [some (.val, (Tr.n l v r).told), x1, x2, some (.own, .lst acc), some (.val, .str (pl [b])), x5]) rfl st, e]
    simp [chain, Tr.sub]
def pairs (p : Pa) (c : List D) : List D := zipT (p.map fun b => .str (pl [b])) c
theorem forL_snoc {g : TM} {body : SM} : ∀ {ds : List D} {ρ ρ1 : En} {d : D}, (∀ ρ x, body ρ ≠ .bk x) → dForL g body ds ρ = .nx ρ1 → dForL g body (ds ++ [d]) ρ = dForL g body [d] ρ1
  | [], ρ, ρ1, d, _, h => by
    simp only [dForL] at h
    cases h
    rfl
  | x :: ds, ρ, ρ1, d, hb, h => by
    cases hg : g x ρ with
    | none =>
      unfold dForL at h
      rw [hg] at h
      cases h
    | some ρ2 =>
      cases hn : body ρ2 with
      | nx ρ3 =>
        rw [List.cons_append, forL_nx hg hn]
        rw [forL_nx hg hn] at h
        exact forL_snoc hb h
      | ct ρ3 =>
        rw [List.cons_append, forL_ct hg hn]
        rw [forL_ct hg hn] at h
        exact forL_snoc hb h
      | bk ρ3 => exact absurd hn (hb _ _)
      | rt d' ρ3 =>
        unfold dForL at h
        simp only [hg, hn] at h
        cases h
      | ex c fs ρ3 =>
        unfold dForL at h
        simp only [hg, hn] at h
        cases h
      | rf d' ρ3 =>
        unfold dForL at h
        simp only [hg, hn] at h
        cases h
      | bad =>
        unfold dForL at h
        simp only [hg, hn] at h
        cases h
theorem l1w_nobk (ρ : En) (x : En) : l1_with_told ρ ≠ .bk x := by
  unfold l1_with_told dSet dAsg
  intro h
  generalize dIfE _ _ _ ρ = o at h
  cases o with
  | ok a ρ1 =>
    simp only [Out.then] at h
    split at h
    · split at h <;> cases h
    · cases h
  | ex => simp only [Out.then] at h; cases h
  | bad => simp only [Out.then] at h; cases h
theorem wt_loop2 (x0 x1 x3 : Option (Kd × D)) (s : Tr) : ∀ (p : Pa) (t : Tr) (x4 x5 : Option (Kd × D)), t.reach p → ∃ y4 y5, dForL (gT 2 (gsCons (gN 4) (gsCons (gN 5) gsNil))) l1_with_told (pairs p (chain t p)).reverse [x0, x1, some (.val, s.told), x3, x4, x5] = .nx [x0, x1, some (.val, (t.put p s).told), x3, y4, y5]
  | [], t, x4, x5, _ => ⟨x4, x5, by cases t <;> simp [pairs, zipT, dForL, Tr.put, chain]⟩
  | b :: p, .e, x4, x5, h => h.elim
  | b :: p, .n l v r, x4, x5, h => by
    obtain ⟨y4, y5, e⟩ := wt_loop2 x0 x1 x3 s p (if b then r else l) x4 x5 h
    have hp : pairs (b :: p) (chain (.n l v r) (b :: p)) = .tup [.str (pl [b]), (Tr.n l v r).told] :: pairs p (chain (if b then r else l) p) := by
      simp [pairs, zipT, chain]
    refine ⟨some (.val, .str (pl [b])), some (.val, (Tr.n l v r).told), ?_⟩
    rw [hp, List.reverse_cons, forL_snoc l1w_nobk e]
    have e0 : ixD (Tr.n l v r).told (.int 0) = some l.told := rfl
    have e1 : ixD (Tr.n l v r).told (.int 1) = some (.int v) := rfl
    have e2 : ixD (Tr.n l v r).told (.int 2) = some r.told := rfl
    have st : l1_with_told [x0, x1, some (.val, ((if b then r else l).put p s).told), x3, some (.val, .str (pl [b])), some (.val, (Tr.n l v r).told)] = .nx [x0, x1, some (.val, ((Tr.n l v r).put (b :: p) s).told), x3, some (.val, .str (pl [b])), some (.val, (Tr.n l v r).told)] := by
      have el := eq_l b
      cases b with
      | false =>
        have hp : ((Tr.n l v r).put (false :: p) s).told = .tup [(l.put p s).told, .int v, r.told] := rfl
        rw [hp]
        simp [l1_with_told, el, e0, e1, e2, szl']
      | true =>
        have hp : ((Tr.n l v r).put (true :: p) s).told = .tup [l.told, .int v, (r.put p s).told] := rfl
        rw [hp]
        simp [l1_with_told, el, e0, e1, e2, szl']
    rw [forL_nx (ρ1 := [x0, x1, some (.val, ((if b then r else l).put p s).told), x3, some (.val, .str (pl [b])), some (.val, (Tr.n l v r).told)]) rfl st]
    rfl
theorem with_ok (t : Tr) (p : Pa) (s : Tr) (h : t.reach p) (hl : p.length < 10000) : fn_with_told [t.told, .str (pl p), s.told] = .ok (t.put p s).told .non := by
  obtain ⟨y4, e1⟩ := wt_loop1 (some (.val, .str (pl p))) (some (.val, s.told)) none p t [] none h (by simp; omega)
  simp only [List.nil_append] at e1
  obtain ⟨z4, z5, e2⟩ := wt_loop2 (some (.val, (t.sub p).told)) (some (.val, .str (pl p))) (some (.own, .lst (chain t p))) s p t y4 none h
  have hlen := chain_len h
  have hz : zipT (chrs (pl p.reverse)) (chain t p).reverse = (pairs p (chain t p)).reverse := by
    unfold pairs zipT
    have hA : (p.reverse.map fun b => D.str (pl [b])) = (p.map fun b => D.str (pl [b])).reverse := List.map_reverse
    rw [chrs_pl, hA, ← List.map_reverse (f := fun p : D × D => D.tup [p.1, p.2])]
    congr 1
    rw [List.zip_eq_zipWith, List.zip_eq_zipWith, List.reverse_zipWith (by simp [hlen])]
  have hb : (pl p).length ≤ 16777216 := by rw [pl_len]; omega
  have key : b_with_told [some (.val, t.told), some (.val, .str (pl p)), some (.val, s.told), none, none, none] = .rt (t.put p s).told [some (.val, (t.sub p).told), some (.val, .str (pl p)), some (.val, (t.put p s).told), some (.own, .lst (chain t p)), z4, z5] := by
    unfold b_with_told
    refine seq_go (ρ1 := [some (.val, t.told), some (.val, .str (pl p)), some (.val, s.told), some (.own, .lst []), none, none]) (by simp [szl']) ?_
    refine seq_go (for_go (by simp; exact chrs_pl p) e1) ?_
    refine seq_go (for_go (ds := (pairs p (chain t p)).reverse) (by simp [dZip, revX, itZ, revStr_pl, szl', hb, hz]) e2) ?_
    simp
  simp only [fn_with_told, runF, List.length_cons, List.length_nil, initE, initAt, kdAt, List.replicate]
  simp [key]
end Pu
namespace Pu
open PySem PySem.Spec PyProof.Rows L2 My
/-! ### texts of the program -/
theorem ofS_inj (a b : String) : (Str.ofString a = Str.ofString b) = (a = b) := by
  apply propext
  constructor
  · intro h
    rw [Str.ofString_eq_toList, Str.ofString_eq_toList] at h
    have h1 : (a.toList.map Char.toNat) = (b.toList.map Char.toNat) := by simpa using congrArg (fun s : Str => s.cps.toList) h
    have inj : Function.Injective Char.toNat := fun x y hxy => by
      have : x.val = y.val := UInt32.toNat_inj.mp hxy
      exact Char.ext this
    have go : ∀ x y : List Char, x.map Char.toNat = y.map Char.toNat → x = y := fun x => by
      induction x with
      | nil => intro y h; cases y with
        | nil => rfl
        | cons c y => simp at h
      | cons c x ih => intro y h; cases y with
        | nil => simp at h
        | cons d y =>
          simp only [List.map_cons, List.cons.injEq] at h
          rw [inj h.1, ih y h.2]
    have h2 : a.toList = b.toList := go _ _ h1
    exact String.toList_inj.mp h2
  · rintro rfl; rfl
theorem strOk_of (s : String) : PyData.strOk (Str.ofString s) = true := by
  rw [Str.ofString_eq_toList]
  unfold PyData.strOk
  simp [Array.all_eq_true]
  intro c _
  have := c.valid
  have h : c.toNat = c.val.toNat := rfl
  rcases this with h1 | ⟨_, h2⟩ <;> omega
theorem strOk_pl (p : Pa) : PyData.strOk (pl p) = true := by
  simp [PyData.strOk, pl, Array.all_eq_true]
  exact ⟨fun _ => by decide, fun _ => by decide⟩
theorem eqSS (a b : String) : eqD (.str (Str.ofString a)) (.str (Str.ofString b)) = some (.bl (decide (a = b))) := by
  rw [eqS]
  simp only [ofS_inj]
theorem shaped_s {x : Str} (h : PyData.strOk x = true) : SeqAt.shaped (.str x) = true := by
  unfold SeqAt.shaped
  rw [Bool.and_eq_true]
  exact ⟨by rw [PyData.canLay0]; exact h, by rw [decide_eq_true_eq, PyData.depth]; omega⟩
theorem canLay_strs : ∀ l : List Str, (∀ s ∈ l, PyData.strOk s = true) → PyData.canLayAll0 (l.map .str) = true ∧ PyData.depthAll (l.map .str) ≤ 1
  | [], _ => ⟨rfl, by simp [PyData.depthAll]⟩
  | a :: l, h => by
    obtain ⟨h1, h2⟩ := canLay_strs l fun s hs => h s (List.mem_cons_of_mem _ hs)
    have h0 := h a List.mem_cons_self
    refine ⟨by simp [PyData.canLayAll0, PyData.canLay0, h0, h1], by simp [PyData.depthAll, PyData.depth]; exact h2⟩
theorem toPs_strs : ∀ l : List Str, toPs (l.map .str) = some (l.map .str)
  | [] => rfl
  | a :: l => by simp [toPs, toP, toPs_strs l]
theorem inTup (a : Str) (l : List Str) (ha : PyData.strOk a = true) (hl : ∀ s ∈ l, PyData.strOk s = true) : inB (.str a) (.tup (l.map .str)) = some (l.any fun s => decide (s = a)) := by
  obtain ⟨h1, h2⟩ := canLay_strs l hl
  have hs : SeqAt.shaped (.tuple (l.map .str)) = true := by
    unfold SeqAt.shaped
    rw [Bool.and_eq_true]
    exact ⟨by rw [PyData.canLay0]; exact h1, by rw [decide_eq_true_eq, PyData.depth]; omega⟩
  unfold inB
  simp [toP, toPs_strs, shaped_s ha, hs, PyData.eqv, Function.comp_def]
  have e : ∀ m : List Str, (m.any fun s => s == a) = (m.any fun s => decide (s = a)) := fun m => by
    induction m with
    | nil => rfl
    | cons x m ih =>
      simp only [List.any_cons, ih]
      congr 1
  first | exact e l | skip
theorem inSS (a : String) (l : List String) : inD (.str (Str.ofString a)) (.tup (l.map fun s => .str (Str.ofString s))) = some (.bl (decide (a ∈ l))) := by
  have e := inTup (Str.ofString a) (l.map Str.ofString) (strOk_of a) (fun s hs => by
    obtain ⟨x, _, rfl⟩ := List.mem_map.mp hs
    exact strOk_of x)
  rw [List.map_map] at e
  unfold inD
  have e' : (l.map fun s => D.str (Str.ofString s)) = l.map (D.str ∘ Str.ofString) := rfl
  rw [e', e]
  simp only [Option.map_some, List.any_map, Function.comp_def, ofS_inj]
  have : (l.any fun s => decide (s = a)) = decide (a ∈ l) := by
    rw [Bool.eq_iff_iff]
    simp
  rw [this]
theorem ninSS (a : String) (l : List String) : ninD (.str (Str.ofString a)) (.tup (l.map fun s => .str (Str.ofString s))) = some (.bl (!decide (a ∈ l))) := by
  have h := inSS a l
  unfold inD at h
  unfold ninD
  cases hb : inB (.str (Str.ofString a)) (.tup (l.map fun s => .str (Str.ofString s))) with
  | none => rw [hb] at h; cases h
  | some b =>
    rw [hb] at h
    simp at h
    simp [h]
/-! ### cutting a place -/
theorem pl_cons (b : Bool) (p : Pa) : (pl (b :: p)).cps.toList = chB b :: p.map chB := by rw [pl_toList]; rfl
theorem ix0_pl (b : Bool) (p : Pa) (h : p.length < 10000) : ixD (.str (pl (b :: p))) (.int 0) = some (.str (pl [b])) := by
  have hb : (pl (b :: p)).length ≤ sizeLine := by rw [pl_len, szl']; simp; omega
  show (if (pl (b :: p)).length ≤ sizeLine then _ else none) = _
  rw [if_pos hb, pl_cons]
  have : atI (chB b :: p.map chB) 0 = some (chB b) := by
    have := atI_nat (chB b :: p.map chB) 0
    simpa using this
  rw [this]
  rfl
theorem sl1_pl (b : Bool) (p : Pa) (h : p.length < 10000) : sliceD (some 1) none (.str (pl (b :: p))) = some (.str (pl p)) := by
  have hb : (pl (b :: p)).length ≤ sizeLine := by rw [pl_len, szl']; simp; omega
  have hl : (pl (b :: p)).length = p.length + 1 := by rw [pl_len]; rfl
  show (if (pl (b :: p)).length ≤ sizeLine then some (D.str (cutS _ _ _)) else none) = _
  rw [if_pos hb]
  congr 2
  unfold cutS
  have e1 : HT.sIx (pl (b :: p)).length (pl (b :: p)).length none = (pl (b :: p)).length := rfl
  have e2 : HT.sIx (pl (b :: p)).length 0 (some 1) = min 1 (pl (b :: p)).length := HT.sIx_nat _ _ 1
  rw [e1, e2, hl, pl_cons]
  have e3 : min 1 (p.length + 1) = 1 := by omega
  rw [e3]
  unfold pl
  congr 2
  simp [List.take_of_length_le]
/-! ### the law's places -/
theorem lspots_ok (t : Tr) : ∀ (k : Nat) (p : Pa), (t.sub p).ht < k → p.length + (t.sub p).ht < 9000 → (t.sub p).size < 10000 → fn_law_spots k [t.told, .str (pl p)] = .ok (.lst (plS ((t.sub p).ino p))) .non := by
  intro k
  induction k with
  | zero => intro p h; omega
  | succ k ih =>
    intro p hk hb hz
    have hd := down_ok t p
    have hn := told_non (t.sub p)
    cases hs : t.sub p with
    | e =>
      rw [hs] at hd hn
      simp [fn_law_spots, b_law_spots, hd, hn, szl', plS, Tr.ino, -isN_u]
    | n l v r =>
      rw [hs] at hd hn
      have hn' : isN false (Tr.n l v r).told .non = some (.bl false) := rfl
      have el : t.sub (p ++ [false]) = l := by rw [sub_app, hs]; rfl
      have er : t.sub (p ++ [true]) = r := by rw [sub_app, hs]; rfl
      rw [hs] at hk hb hz
      simp [Tr.ht] at hk hb
      simp [Tr.size] at hz
      have il := ih (p ++ [false]) (by rw [el]; omega) (by rw [el]; simp; omega) (by rw [el]; omega)
      have ir := ih (p ++ [true]) (by rw [er]; omega) (by rw [er]; simp; omega) (by rw [er]; omega)
      rw [el] at il
      rw [er] at ir
      have b4 : (pl p).length + 1 ≤ 16777216 := by rw [pl_len]; omega
      have ll : (plS (l.ino (p ++ [false]))).length = l.size := by simp [plS, (ino_perm l _).length_eq, pre_len]
      have lr : (plS (r.ino (p ++ [true]))).length = r.size := by simp [plS, (ino_perm r _).length_eq, pre_len]
      have b5 : l.size + 1 ≤ 16777216 := by omega
      have b6 : l.size + 1 + r.size ≤ 16777216 := by omega
      simp [fn_law_spots, b_law_spots, hd, hn', szl', l_len, r_len, b4, pl_l, pl_r, il, ir, ll, lr, b5, b6, -isN_u]
      simp [plS, Tr.ino]
/-! ### has, sides -/
theorem sub_in (t : Tr) (gs : List (Pa × Int)) (hp : gs.Perm (t.pre [])) (p : Pa) : (p ∈ gs.map (·.1)) ↔ t.sub p ≠ .e := by
  constructor
  · intro h
    obtain ⟨x, hx, rfl⟩ := List.mem_map.mp h
    obtain ⟨s, l, r, e, hs⟩ := mem_sub t [] x (hp.mem_iff.mp hx)
    rw [List.nil_append] at e
    rw [e, hs]
    simp
  · intro h
    cases hs : t.sub p with
    | e => exact absurd hs h
    | n l v r =>
      have := sub_mem t p [] l v r hs
      exact List.mem_map.mpr ⟨(p, v), hp.mem_iff.mpr (by simpa using this), rfl⟩
theorem spt_has (gs : List (Pa × Int)) (p : Pa) : (valD (spt gs) (Sum.inr (pl p) : Key)).isSome = decide (p ∈ gs.map (·.1)) := by
  induction gs with
  | nil => rfl
  | cons x gs ih =>
    simp only [spt, List.map_cons, valD, Sum.inr.injEq, pl_eq] at ih ⊢
    by_cases h : x.1 = p
    · simp [h]
    · rw [if_neg h, ih]
      have h2 : ¬ p = x.1 := fun e => h e.symm
      simp [h2]
def Tr.isE : Tr → Bool
  | .e => true
  | _ => false
theorem isE_iff (t : Tr) : (t ≠ .e) = (t.isE = false) := by cases t <;> simp [Tr.isE]
theorem in_spots (t : Tr) (gs : List (Pa × Int)) (hp : gs.Perm (t.pre [])) (p : Pa) : inD (.str (pl p)) (.dK (spt gs)) = some (.bl (!(t.sub p).isE)) := by
  have h := spt_has gs p
  have h2 := sub_in t gs hp p
  unfold inD inB
  simp only [keyD_u] at *
  have : (valD (spt gs) (Sum.inr (pl p) : Key)).isSome = !(t.sub p).isE := by
    rw [h]
    rw [isE_iff] at h2
    cases hb : (t.sub p).isE with
    | false => rw [decide_eq_true (h2.mpr hb)]; rfl
    | true => rw [decide_eq_false (fun z => by rw [h2.mp z] at hb; cases hb)]; rfl
  simp [this]
theorem fld_spots (t : Tr) (gs : List (Pa × Int)) : fldC ["Tree"] "own_spots" (t.ins gs) = some (.dK (spt gs)) := by
  simp [Tr.ins, List.lookup]
theorem fld_told (t : Tr) (gs : List (Pa × Int)) : fldC ["Tree"] "told" (t.ins gs) = some t.told := by
  have : (Str.ofString "told" == Str.ofString "own_spots") = false := by decide +kernel
  simp [Tr.ins, List.lookup, this]
theorem self_any (m : Str) (t : Tr) (gs : List (Pa × Int)) (h1 : (m == Str.ofString "own_spots") = false) (h2 : (m == Str.ofString "told") = false) (h3 : (m == Str.ofString "size") = false) (h4 : (m == Str.ofString "height") = false) : selfR "Tree" m (some (t.ins gs)) = true := by
  simp [Tr.ins, selfR, List.lookup, h1, h2, h3, h4]
theorem self_has (t : Tr) (gs : List (Pa × Int)) : selfR "Tree" (Str.ofString "has") (some (t.ins gs)) = true := self_any _ t gs (by decide +kernel) (by decide +kernel) (by decide +kernel) (by decide +kernel)
theorem self_need (t : Tr) (gs : List (Pa × Int)) : selfR "Tree" (Str.ofString "need") (some (t.ins gs)) = true := self_any _ t gs (by decide +kernel) (by decide +kernel) (by decide +kernel) (by decide +kernel)
theorem self_sides (t : Tr) (gs : List (Pa × Int)) : selfR "Tree" (Str.ofString "sides") (some (t.ins gs)) = true := self_any _ t gs (by decide +kernel) (by decide +kernel) (by decide +kernel) (by decide +kernel)
section
variable {t : Tr} {gs : List (Pa × Int)}
theorem has_ok (hp : gs.Perm (t.pre [])) (p : Pa) : fn_Tree_has [t.ins gs, .str (pl p)] = .ok (.bl (!(t.sub p).isE)) .non := by
  have h := in_spots t gs hp p
  have f := fld_spots t gs
  simp [fn_Tree_has, b_Tree_has, f, h, gStrT, -fldC_u]
theorem spot_ok (hp : gs.Perm (t.pre [])) (p : Pa) : fn_is_spot [t.ins gs, .str (pl p)] = .ok (.bl (!(t.sub p).isE)) .non := by
  have h := has_ok hp p
  have s := self_has t gs
  simp [fn_is_spot, b_is_spot, h, s, gStrT, -selfR_u]
theorem need_ok (hp : gs.Perm (t.pre [])) (p : Pa) (hs : (t.sub p).isE = false) : fn_Tree_need [t.ins gs, .str (pl p)] = .ok .non .non := by
  have h := has_ok hp p
  have s := self_has t gs
  rw [hs] at h
  simp [fn_Tree_need, b_Tree_need, h, s, -selfR_u]
def sdS (l r : Bool) : Str := if l then (if r then Str.ofString "lr" else Str.ofString "l") else (if r then Str.ofString "r" else Str.ofString "")
theorem sides_ok (hp : gs.Perm (t.pre [])) (p : Pa) (hl : p.length < 10000) {l r : Tr} {v : Int} (hs : t.sub p = .n l v r) : fn_Tree_sides [t.ins gs, .str (pl p)] = .ok (.str (sdS (!l.isE) (!r.isE))) .non := by
  have h := need_ok hp p (by rw [hs]; rfl)
  have s := self_need t gs
  have f := fld_spots t gs
  have h1 := in_spots t gs hp (p ++ [false])
  have h2 := in_spots t gs hp (p ++ [true])
  have el : t.sub (p ++ [false]) = l := by rw [sub_app, hs]; rfl
  have er : t.sub (p ++ [true]) = r := by rw [sub_app, hs]; rfl
  rw [el] at h1
  rw [er] at h2
  have hlr : chrs (Str.ofString "lr") = [.str (Str.ofString "l"), .str (Str.ofString "r")] := by
    have : Str.ofString "lr" = pl [false, true] := by decide +kernel
    rw [this, chrs_pl, l_eq, r_eq]
    rfl
  have b4 : (pl p).length + 1 ≤ 16777216 := by rw [pl_len]; omega
  have hll : (Str.ofString "l").length = 1 := l_len
  have j0 : joinD (Str.ofString "") (.lst []) = some (.str (Str.ofString "")) := by rfl
  have j1 : joinD (Str.ofString "") (.lst [.str (Str.ofString "l")]) = some (.str (Str.ofString "l")) := by rfl
  have j2 : joinD (Str.ofString "") (.lst [.str (Str.ofString "r")]) = some (.str (Str.ofString "r")) := by rfl
  have j3 : joinD (Str.ofString "") (.lst [.str (Str.ofString "l"), .str (Str.ofString "r")]) = some (.str (Str.ofString "lr")) := by rfl
  cases ha : l.isE <;> cases hb : r.isE <;> rw [ha] at h1 <;> rw [hb] at h2 <;>
    simp [fn_Tree_sides, b_Tree_sides, h, s, f, dLc, dLcL, hlr, wipeE, b4, l_len, r_len, pl_l, pl_r, h1, h2, j0, j1, j2, j3, szl', sdS, -selfR_u, -fldC_u, -joinD_u]
end
end Pu
namespace Pu
open PySem PySem.Spec PyProof.Rows L2 My
theorem cut_to {α : Type} (xs : List α) (i : Int) (h : 0 ≤ i) : cutL xs none (some i) = xs.take i.toNat := by
  obtain ⟨n, rfl⟩ : ∃ n : Nat, i = n := ⟨i.toNat, by omega⟩
  unfold cutL
  have e1 : HT.sIx xs.length 0 none = 0 := rfl
  rw [e1, HT.sIx_nat, List.drop_zero]
  simp
theorem cut_from {α : Type} (xs : List α) (i : Int) (h : 0 ≤ i) : cutL xs (some i) none = xs.drop i.toNat := by
  obtain ⟨n, rfl⟩ : ∃ n : Nat, i = n := ⟨i.toNat, by omega⟩
  unfold cutL
  have e1 : HT.sIx xs.length xs.length none = xs.length := rfl
  rw [e1, HT.sIx_nat]
  have : (xs.drop (min n xs.length)).length ≤ xs.length - min n xs.length := by simp
  rw [List.take_of_length_le this]
  rcases Nat.le_total n xs.length with h | h
  · rw [Nat.min_eq_left h]; rfl
  · rw [Nat.min_eq_right h, List.drop_length]
    exact (List.drop_of_length_le (by omega)).symm
theorem ixT0 (a : D) (xs : List D) : ixD (.tup (a :: xs)) (.int 0) = some a := by
  have := atI_nat (a :: xs) 0
  exact this
theorem ixT1 (a b : D) (xs : List D) : ixD (.tup (a :: b :: xs)) (.int 1) = some b := by
  have := atI_nat (a :: b :: xs) 1
  exact this
theorem ixT2 (a b c : D) (xs : List D) : ixD (.tup (a :: b :: c :: xs)) (.int 2) = some c := by
  have := atI_nat (a :: b :: c :: xs) 2
  exact this
theorem ixTm1 (a : D) : ixD (.tup [a]) (.int (-1)) = some a := rfl
theorem ixTm2 (a b : D) : ixD (.tup [a, b]) (.int (-1)) = some b := rfl
theorem ixTm3 (a b c : D) : ixD (.tup [a, b, c]) (.int (-1)) = some c := rfl
theorem slT1 (a : D) (xs : List D) : sliceD (some 1) none (.tup (a :: xs)) = some (.tup xs) := by
  show some (D.tup (cutL _ _ _)) = _
  rw [cut_from _ _ (by omega)]
  rfl
theorem inSS2 (a b c : String) : inD (.str (Str.ofString a)) (.tup [.str (Str.ofString b), .str (Str.ofString c)]) = some (.bl (decide (a = b ∨ a = c))) := by
  have := inSS a [b, c]
  simpa using this
theorem inSS3 (a b c d : String) : inD (.str (Str.ofString a)) (.tup [.str (Str.ofString b), .str (Str.ofString c), .str (Str.ofString d)]) = some (.bl (decide (a = b ∨ a = c ∨ a = d))) := by
  have := inSS a [b, c, d]
  simpa using this
theorem ninSS2 (a b c : String) : ninD (.str (Str.ofString a)) (.tup [.str (Str.ofString b), .str (Str.ofString c)]) = some (.bl (!decide (a = b ∨ a = c))) := by
  have := ninSS a [b, c]
  simpa using this
theorem ninSS3 (a b c d : String) : ninD (.str (Str.ofString a)) (.tup [.str (Str.ofString b), .str (Str.ofString c), .str (Str.ofString d)]) = some (.bl (!decide (a = b ∨ a = c ∨ a = d))) := by
  have := ninSS a [b, c, d]
  simpa using this
theorem neI (a b : Int) : neD (.int a) (.int b) = some (.bl (!decide (a = b))) := by simp [neD, eqB, scalD, sameS]
theorem neSS (a b : String) : neD (.str (Str.ofString a)) (.str (Str.ofString b)) = some (.bl (!decide (a = b))) := by
  rw [neS]
  simp only [ofS_inj]
/-! ### the results that can be done -/
def sideS (b : Bool) : Str := if b then Str.ofString "right" else Str.ofString "left"
inductive Rs where
  | none | place (w : Pa) | plant | att (w : Pa) (b : Bool) | cut (w : Pa) | rep (o w : Pa)
def Rs.d : Rs → D
  | .none => .tup [.str "none"]
  | .place w => .tup [.str "place", .str (pl w)]
  | .plant => .tup [.str "plant"]
  | .att w b => .tup [.str "attach", .str (pl w), .str (sideS b)]
  | .cut w => .tup [.str "cut", .str (pl w)]
  | .rep o w => .tup [.str "replace", .str (pl o), .str (pl w)]
def Rs.ok (t : Tr) : Rs → Prop
  | .none => True
  | .place w => (t.sub w).isE = false ∧ w.length < 9000
  | .plant => t = .e
  | .att w b => w.length < 9000 ∧ ∃ l v r, t.sub w = .n l v r ∧ (if b then r else l) = .e
  | .cut w => w.length < 9000 ∧ ∃ l v r, t.sub w = .n l v r ∧ (l = .e ∨ r = .e)
  | .rep o w => w.length < 9000 ∧ o.length < 9000 ∧ (∃ l v r, t.sub o = .n l v r) ∧ ∃ l v r, t.sub w = .n l v r ∧ (l = .e ∨ r = .e)
theorem sub_nil' (t : Tr) : t.sub [] = t := by cases t <;> rfl
theorem isE_e {t : Tr} (h : t = .e) : t.isE = true := by rw [h]; rfl
theorem sd_ninL (l r : Bool) (b : Bool) (h : (if b then r else l) = false) : ninD (.str (pl [b])) (.str (sdS l r)) = some (.bl true) := by
  have key : ∀ l r b : Bool, (if b then r else l) = false → (match ninD (.str (pl [b])) (.str (sdS l r)) with | some (.bl x) => x | _ => false) = true := by decide +kernel
  have k := key l r b h
  split at k
  · rename_i x hx
    rw [hx, k]
  · cases k
theorem sd_neL (l r : Bool) (h : l = false ∨ r = false) : neD (.str (sdS l r)) (.str (Str.ofString "lr")) = some (.bl true) := by
  have key : ∀ l r : Bool, (l = false ∨ r = false) → (match neD (.str (sdS l r)) (.str (Str.ofString "lr")) with | some (.bl x) => x | _ => false) = true := by decide +kernel
  have k := key l r h
  split at k
  · rename_i x hx
    rw [hx, k]
  · cases k
theorem side0 (b : Bool) : ixD (.str (sideS b)) (.int 0) = some (.str (pl [b])) := by
  have key : ∀ b : Bool, (match ixD (.str (sideS b)) (.int 0) with | some (.str x) => decide (x = pl [b]) | _ => false) = true := by decide +kernel
  have k := key b
  split at k
  · rename_i x hx
    rw [hx, of_decide_eq_true k]
  · cases k
theorem side_in (b : Bool) : ninD (.str (sideS b)) k_SIDES = some (.bl false) := by
  cases b
  · have := ninSS2 "left" "left" "right"
    simpa [k_SIDES, sideS] using this
  · have := ninSS2 "right" "left" "right"
    simpa [k_SIDES, sideS] using this
section
variable {t : Tr} {gs : List (Pa × Int)}
theorem done_ok (hp : gs.Perm (t.pre [])) (x : Rs) (h : x.ok t) : fn_is_done [t.ins gs, x.d] = .ok (.bl true) .non := by
  have s1 := self_has t gs
  have s2 := self_sides t gs
  have a1 : allD (.lst [.bl true]) = some (.bl true) := rfl
  have a2 : allD (.lst [.bl true, .bl true]) = some (.bl true) := rfl
  cases x with
  | none => simp [fn_is_done, b_is_done, Rs.d, gTupT, gStrT, eqI, eqSS, neI, ixT0, slT1, inSS2, szl']
  | plant =>
    have hh := has_ok hp []
    rw [sub_nil', h] at hh
    rw [← pl_nil] at hh
    subst h
    simp [fn_is_done, b_is_done, Rs.d, gTupT, gStrT, eqI, eqSS, neI, ixT0, slT1, inSS2, szl', s1, hh, Tr.isE, -selfR_u]
  | place w =>
    have hh := spot_ok hp w
    rw [h.1] at hh
    simp [fn_is_done, b_is_done, Rs.d, gTupT, gStrT, eqI, eqSS, neI, ixT0, slT1, inSS2, ninSS3, szl', s1, hh, dLc, dLcL, wipeE, a1, -selfR_u]
  | att w b =>
    obtain ⟨hl, l, v, r, hs, hc⟩ := h
    have hh := spot_ok hp w
    have hd := sides_ok hp w (by omega) hs
    have hE : (t.sub w).isE = false := by rw [hs]; rfl
    rw [hE] at hh
    have hn := sd_ninL (!l.isE) (!r.isE) b (by cases b <;> simp at hc ⊢ <;> rw [hc] <;> rfl)
    have h0 := side0 b
    have hi := side_in b
    simp [fn_is_done, b_is_done, Rs.d, gTupT, gStrT, eqI, eqSS, neI, ixT0, ixT1, slT1, inSS2, szl', s1, s2, hh, hd, hn, h0, hi, -selfR_u]
  | cut w =>
    obtain ⟨hl, l, v, r, hs, hc⟩ := h
    have hh := spot_ok hp w
    have hd := sides_ok hp w (by omega) hs
    have hE : (t.sub w).isE = false := by rw [hs]; rfl
    rw [hE] at hh
    have hn := sd_neL (!l.isE) (!r.isE) (by rcases hc with hc | hc <;> rw [hc] <;> simp [Tr.isE])
    simp [fn_is_done, b_is_done, Rs.d, gTupT, gStrT, eqI, eqSS, neI, ixT0, ixT1, ixTm1, slT1, inSS2, ninSS3, szl', s1, s2, hh, hd, hn, dLc, dLcL, wipeE, a1, -selfR_u]
  | rep o w =>
    obtain ⟨hl, hl2, ⟨l0, v0, r0, hs0⟩, l, v, r, hs, hc⟩ := h
    have hh := spot_ok hp w
    have ho := spot_ok hp o
    have hd := sides_ok hp w (by omega) hs
    have hE : (t.sub w).isE = false := by rw [hs]; rfl
    have hEo : (t.sub o).isE = false := by rw [hs0]; rfl
    rw [hE] at hh
    rw [hEo] at ho
    have hn := sd_neL (!l.isE) (!r.isE) (by rcases hc with hc | hc <;> rw [hc] <;> simp [Tr.isE])
    simp [fn_is_done, b_is_done, Rs.d, gTupT, gStrT, eqI, eqSS, neI, ixT0, ixT1, ixTm2, slT1, inSS2, ninSS3, szl', s1, s2, hh, ho, hd, hn, dLc, dLcL, wipeE, a2, -selfR_u]
end
end Pu
namespace Pu
open PySem PySem.Spec PyProof.Rows L2 My
def join (l r : Tr) : Tr := if l.isE then r else l
theorem join_told (l r : Tr) : (if l.isE = true then r.told else l.told) = (join l r).told := by unfold join; split <;> rfl
theorem isN_told (t : Tr) : isN false t.told .non = some (.bl t.isE) := by cases t <;> rfl
theorem without_ok (t : Tr) (w : Pa) (hw : w.length < 9000) {l r : Tr} {v : Int} (hs : t.sub w = .n l v r) : fn_without [t.told, .str (pl w)] = .ok (t.put w (join l r)).told .non := by
  have hr := reach_of (t := t) (p := w) (by rw [hs]; simp)
  have h1 := at_ok t w hr
  have h2 := with_ok t w (join l r) hr (by omega)
  rw [hs] at h1
  have h1' : fn_told_at [t.told, .str (pl w)] = .ok (.tup [l.told, .int v, r.told]) .non := h1
  have hi := isN_told l
  cases hl : l.isE with
  | true =>
    rw [hl] at hi
    have hj : join l r = r := by unfold join; rw [hl]; rfl
    rw [hj] at h2 ⊢
    simp [fn_without, b_without, h1', hi, h2, -isN_u]
  | false =>
    rw [hl] at hi
    have hj : join l r = l := by unfold join; rw [hl]; rfl
    rw [hj] at h2 ⊢
    simp [fn_without, b_without, h1', hi, h2, -isN_u]
/-! ### the shape stays -/
def Tr.sh : Tr → Tr
  | .e => .e
  | .n l _ r => .n l.sh 0 r.sh
theorem sh_isE (t : Tr) : t.sh.isE = t.isE := by cases t <;> rfl
theorem sh_sub : ∀ (p : Pa) (t : Tr), (t.sub p).sh = t.sh.sub p
  | [], t => by rw [sub_nil', sub_nil']
  | b :: p, .e => by rw [sub_e, show Tr.e.sh = .e from rfl, sub_e]
  | b :: p, .n l v r => by
    show ((if b then r else l).sub p).sh = (if b then r.sh else l.sh).sub p
    rw [sh_sub p]
    cases b <;> rfl
theorem sh_put : ∀ (p : Pa) (t s : Tr), s.sh = (t.sub p).sh → (t.put p s).sh = t.sh
  | [], t, s, h => by
    rw [sub_nil'] at h
    cases t <;> exact h
  | b :: p, .e, s, h => rfl
  | false :: p, .n l v r, s, h => by
    show Tr.n (l.put p s).sh 0 r.sh = Tr.n l.sh 0 r.sh
    rw [sh_put p l s h]
  | true :: p, .n l v r, s, h => by
    show Tr.n l.sh 0 (r.put p s).sh = Tr.n l.sh 0 r.sh
    rw [sh_put p r s h]
theorem sh_n {t : Tr} {l r : Tr} {v : Int} (h : t.sh = (Tr.n l v r).sh) : ∃ l' v' r', t = .n l' v' r' ∧ l'.isE = l.isE ∧ r'.isE = r.isE := by
  cases t with
  | e => cases h
  | n l' v' r' =>
    simp only [Tr.sh, Tr.n.injEq] at h
    exact ⟨l', v', r', rfl, by rw [← sh_isE l', h.1, sh_isE], by rw [← sh_isE r', h.2.2, sh_isE]⟩
/-! ### the trees behind the results -/
def Tr.val0 : Tr → Int
  | .e => 0
  | .n _ v _ => v
def cutAt (t : Tr) (w : Pa) : Tr := match t.sub w with
  | .n l _ r => t.put w (join l r)
  | .e => t
def repAt (t : Tr) (o : Pa) (v : Int) : Tr := match t.sub o with
  | .n l _ r => t.put o (.n l v r)
  | .e => t
def Rs.ed (t : Tr) (k : Int) : Rs → Tr
  | .none => t
  | .place _ => t
  | .plant => .n .e k .e
  | .att w b => t.put (w ++ [b]) (.n .e k .e)
  | .cut w => cutAt t w
  | .rep o w => cutAt (repAt t o (t.sub w).val0) w
theorem rep_sub {t : Tr} {o w : Pa} {l0 r0 l r : Tr} {v0 v : Int} (x : Int) (hs0 : t.sub o = .n l0 v0 r0) (hs : t.sub w = .n l v r) : ∃ l' v' r', (t.put o (.n l0 x r0)).sub w = .n l' v' r' ∧ l'.isE = l.isE ∧ r'.isE = r.isE := by
  have h : (t.put o (.n l0 x r0)).sh = t.sh := sh_put o t _ (by rw [hs0]; rfl)
  have h2 : ((t.put o (.n l0 x r0)).sub w).sh = (Tr.n l v r).sh := by rw [sh_sub, h, ← sh_sub, hs]
  exact sh_n h2
theorem pl_snoc_side (w : Pa) (b : Bool) (hw : w.length < 9000) : addD (.str (pl w)) (.str (pl [b])) = some (.str (pl (w ++ [b]))) := by
  have b4 : (pl w).length + (pl [b]).length ≤ sizeLine := by rw [pl_len, pl_len, szl']; simp; omega
  show (if _ then _ else _) = _
  rw [if_pos b4]
  congr 2
  cases b
  · rw [← l_eq]; exact pl_l w
  · rw [← r_eq]; exact pl_r w
theorem told_key (k : Int) : D.tup [.non, .int k, .non] = (Tr.n .e k .e).told := rfl
section
variable {t : Tr} {gs : List (Pa × Int)}
theorem applied_ok (hp : gs.Perm (t.pre [])) (x : Rs) (h : x.ok t) (k : Int) : fn_applied [t.ins gs, x.d, .int k] = .ok (x.ed t k).told .non := by
  have hd := done_ok hp x h
  have f := fld_told t gs
  cases x with
  | none =>
    simp only [Rs.d] at hd
    simp [fn_applied, b_applied, Rs.d, hd, f, eqSS, ixT0, inSS2, Rs.ed, szl', -fldC_u]
  | plant =>
    simp only [Rs.d] at hd
    simp [fn_applied, b_applied, Rs.d, hd, f, eqSS, ixT0, inSS2, Rs.ed, szl', Tr.told, -fldC_u]
  | place w =>
    simp only [Rs.d] at hd
    simp [fn_applied, b_applied, Rs.d, hd, f, eqSS, ixT0, inSS2, Rs.ed, szl', -fldC_u]
  | att w b =>
    obtain ⟨hl, l, v, r, hs, hc⟩ := h
    simp only [Rs.d] at hd
    have h0 := side0 b
    have ha := pl_snoc_side w b hl
    have hr := reach_snoc (b := b) (t := t) (p := w) (by rw [hs]; simp)
    have hw := with_ok t (w ++ [b]) (.n .e k .e) hr (by simp; omega)
    rw [← told_key] at hw
    simp [fn_applied, b_applied, Rs.d, hd, f, eqSS, ixT0, ixT1, ixT2, inSS2, Rs.ed, szl', h0, ha, hw, -fldC_u, -addD_u]
  | cut w =>
    obtain ⟨hl, l, v, r, hs, hc⟩ := h
    simp only [Rs.d] at hd
    have hw := without_ok t w hl hs
    have he : cutAt t w = t.put w (join l r) := by unfold cutAt; rw [hs]
    simp [fn_applied, b_applied, Rs.d, hd, f, eqSS, ixT0, ixT1, inSS2, Rs.ed, szl', hw, he, -fldC_u]
  | rep o w =>
    obtain ⟨hl, hl2, ⟨l0, v0, r0, hs0⟩, l, v, r, hs, hc⟩ := h
    simp only [Rs.d] at hd
    have h1 := at_ok t o (reach_of (by rw [hs0]; simp))
    have h2 := at_ok t w (reach_of (by rw [hs]; simp))
    rw [hs0] at h1
    rw [hs] at h2
    have h1' : fn_told_at [t.told, .str (pl o)] = .ok (.tup [l0.told, .int v0, r0.told]) .non := h1
    have h2' : fn_told_at [t.told, .str (pl w)] = .ok (.tup [l.told, .int v, r.told]) .non := h2
    have h3 := with_ok t o (.n l0 v r0) (reach_of (by rw [hs0]; simp)) (by omega)
    rw [told_n] at h3
    obtain ⟨l', v', r', e', _, _⟩ := rep_sub v hs0 hs
    have h4 := without_ok (t.put o (.n l0 v r0)) w hl e'
    have he : cutAt (repAt t o (t.sub w).val0) w = (t.put o (.n l0 v r0)).put w (join l' r') := by
      unfold repAt
      rw [hs0, hs]
      unfold cutAt
      show (match (t.put o (.n l0 v r0)).sub w with | .n l _ r => _ | .e => _) = _
      rw [e']
      rfl
    simp [fn_applied, b_applied, Rs.d, hd, f, eqSS, ixT0, ixT1, ixT2, inSS2, Rs.ed, szl', h1', h2', h3, h4, he, -fldC_u]
/-- no key where none is needed -/
theorem applied0_ok (hp : gs.Perm (t.pre [])) (x : Rs) (h : x.ok t) (hx : ∀ w b, x ≠ .att w b) (hy : x ≠ .plant) (k : Int) : fn_applied [t.ins gs, x.d, .non] = .ok (x.ed t k).told .non := by
  have hd := done_ok hp x h
  have f := fld_told t gs
  cases x with
  | none =>
    simp only [Rs.d] at hd
    simp [fn_applied, b_applied, Rs.d, hd, f, eqSS, ixT0, inSS2, Rs.ed, szl', -fldC_u]
  | plant => exact absurd rfl hy
  | place w =>
    simp only [Rs.d] at hd
    simp [fn_applied, b_applied, Rs.d, hd, f, eqSS, ixT0, inSS2, Rs.ed, szl', -fldC_u]
  | att w b => exact absurd rfl (hx w b)
  | cut w =>
    obtain ⟨hl, l, v, r, hs, hc⟩ := h
    simp only [Rs.d] at hd
    have hw := without_ok t w hl hs
    have he : cutAt t w = t.put w (join l r) := by unfold cutAt; rw [hs]
    simp [fn_applied, b_applied, Rs.d, hd, f, eqSS, ixT0, ixT1, inSS2, Rs.ed, szl', hw, he, -fldC_u]
  | rep o w =>
    obtain ⟨hl, hl2, ⟨l0, v0, r0, hs0⟩, l, v, r, hs, hc⟩ := h
    simp only [Rs.d] at hd
    have h1 := at_ok t o (reach_of (by rw [hs0]; simp))
    have h2 := at_ok t w (reach_of (by rw [hs]; simp))
    rw [hs0] at h1
    rw [hs] at h2
    have h1' : fn_told_at [t.told, .str (pl o)] = .ok (.tup [l0.told, .int v0, r0.told]) .non := h1
    have h2' : fn_told_at [t.told, .str (pl w)] = .ok (.tup [l.told, .int v, r.told]) .non := h2
    have h3 := with_ok t o (.n l0 v r0) (reach_of (by rw [hs0]; simp)) (by omega)
    rw [told_n] at h3
    obtain ⟨l', v', r', e', _, _⟩ := rep_sub v hs0 hs
    have h4 := without_ok (t.put o (.n l0 v r0)) w hl e'
    have he : cutAt (repAt t o (t.sub w).val0) w = (t.put o (.n l0 v r0)).put w (join l' r') := by
      unfold repAt
      rw [hs0, hs]
      unfold cutAt
      show (match (t.put o (.n l0 v r0)).sub w with | .n l _ r => _ | .e => _) = _
      rw [e']
      rfl
    simp [fn_applied, b_applied, Rs.d, hd, f, eqSS, ixT0, ixT1, ixT2, inSS2, Rs.ed, szl', h1', h2', h3, h4, he, -fldC_u]
end
end Pu
namespace Pu
open PySem PySem.Spec PyProof.Rows L2 My
theorem printable_all : ∀ c : _root_.Fin 127, 32 ≤ c.val → Unicode.isPrintable c.val = true := by decide +kernel
theorem reprChar_plain {c : Nat} (h : PlainC c) : Builtin.Str.reprChar 39 c = [c] := by
  obtain ⟨h1, h2, h3, h4, h5⟩ := h
  have hp := printable_all ⟨c, h2⟩ h1
  have n1 : (c == 39) = false := by simpa using h3
  have n2 : (c == 92) = false := by simpa using h4
  have n3 : (c == 10) = false := by simp; omega
  have n4 : (c == 13) = false := by simp; omega
  have n5 : (c == 9) = false := by simp; omega
  unfold Builtin.Str.reprChar
  simp only [n1, n2, n3, n4, n5, Bool.or_false, Bool.false_eq_true, if_false]
  rw [if_pos hp]
theorem foldl_plain : ∀ (l : List Nat) (acc : Array Nat), (∀ c ∈ l, PlainC c) → (l.foldl (fun out c => out ++ (Builtin.Str.reprChar 39 c).toArray) acc).toList = acc.toList ++ l
  | [], acc, _ => by simp
  | c :: l, acc, h => by
    simp only [List.foldl_cons]
    rw [foldl_plain l _ (fun d hd => h d (List.mem_cons_of_mem _ hd)), reprChar_plain (h c List.mem_cons_self)]
    simp
theorem reprText_plain {x : Str} (h : ∀ c ∈ x.cps.toList, PlainC c) : (reprText x).cps.toList = 39 :: (x.cps.toList ++ [39]) := by
  have hq : reprQuote x = 39 := by
    unfold reprQuote
    have : x.cps.contains 39 = false := by
      rw [Bool.eq_false_iff]
      intro hc
      have hm : 39 ∈ x.cps := by simpa using hc
      exact (h 39 (by simpa using hm)).2.2.1 rfl
    rw [this]
    rfl
  unfold reprText
  rw [hq]
  simp only [Array.toList_push]
  rw [← Array.foldl_toList, foldl_plain _ _ h]
  simp
theorem plain_pl (p : Pa) : ∀ c ∈ (pl p).cps.toList, PlainC c := by
  intro c hc
  rw [pl_toList] at hc
  obtain ⟨b, _, rfl⟩ := List.mem_map.mp hc
  cases b <;> unfold chB PlainC <;> simp
theorem quo_of {x : Str} (h : ∀ c ∈ x.cps.toList, PlainC c) : Quo (reprText x).cps.toList := ⟨x.cps.toList, reprText_plain h, fun m => (h 39 m).2.2.1 rfl⟩
/-- plain texts are told by their quotes -/
theorem repr_inj {x y : Str} (hx : ∀ c ∈ x.cps.toList, PlainC c) (hy : ∀ c ∈ y.cps.toList, PlainC c) (h : (reprText x).cps.toList = (reprText y).cps.toList) : x = y := by
  rw [reprText_plain hx, reprText_plain hy] at h
  simp only [List.cons.injEq, true_and] at h
  exact strS_eta _ _ (List.append_cancel_right h)
/-! ### the parts of results -/
def PlS (x : Str) : Prop := (∀ c ∈ x.cps.toList, PlainC c) ∧ x.length < 20000
/-- a part and what it shows -/
inductive Part : D → PyData → Prop
  | str {x : Str} : PlS x → Part (.str x) (.str x)
  | oth {d : D} {q : PyData} : (∀ x, d ≠ .str x) → (toP d = some q ∨ (d = .dK [] ∧ q = .dict [])) → q.showable = true → q.depth ≤ 3 → q.shown.length < 30000 → (∃ c r, q.shown.cps.toList = c :: r ∧ c ≠ 39) → Part d q
theorem Part.pts {d : D} {q : PyData} (h : Part d q) : Pts q.shown.cps.toList := by
  cases h with
  | str hx => exact .inl (quo_of hx.1)
  | oth _ _ _ _ _ h => exact .inr h
inductive Parts : List D → List PyData → Prop
  | nil : Parts [] []
  | cons {d : D} {q : PyData} {ds : List D} {qs : List PyData} : Part d q → Parts ds qs → Parts (d :: ds) (q :: qs)
theorem Parts.pts : ∀ {ds : List D} {qs : List PyData}, Parts ds qs → ∀ y ∈ qs.map (fun q => q.shown.cps.toList), Pts y
  | _, _, .nil, y, h => by simp at h
  | _, _, .cons h t, y, hy => by
    simp only [List.map_cons, List.mem_cons] at hy
    rcases hy with rfl | hy
    · exact h.pts
    · exact t.pts y hy
theorem shownAll_map : ∀ qs : List PyData, PyData.shownAll qs = qs.map PyData.shown
  | [] => rfl
  | q :: qs => by simp [PyData.shownAll, shownAll_map qs]
theorem shown_full (qs : List PyData) : (PyData.tuple qs).shown.cps.toList = fullL (qs.map fun q => q.shown.cps.toList) := by
  rw [PyData.shown, tup_full, shownAll_map, List.map_map]
  rfl
theorem reprText_len {x : Str} (h : PlS x) : (reprText x).length < 30000 := by
  have e := reprText_plain h.1
  have : (reprText x).length = (reprText x).cps.toList.length := by simp; rfl
  rw [this, e]
  have h2 := h.2
  have : x.cps.toList.length = x.length := by simp; rfl
  simp
  have h3 : x.cps.size = x.length := rfl
  omega
theorem Part.show {d : D} {q : PyData} (h : Part d q) : q.showable = true ∧ q.depth ≤ 3 ∧ q.shown.length < 30000 := by
  cases h with
  | str hx => exact ⟨rfl, by simp [PyData.depth], reprText_len hx⟩
  | oth _ _ a b c _ => exact ⟨a, b, c⟩
theorem Parts.show : ∀ {ds : List D} {qs : List PyData}, Parts ds qs → PyData.showableAll qs = true ∧ PyData.depthAll qs ≤ 3 ∧ ∀ q ∈ qs, q.shown.length < 30000
  | _, _, .nil => ⟨rfl, by simp [PyData.depthAll], fun q hq => by cases hq⟩
  | _, _, .cons h t => by
    obtain ⟨a, b, c⟩ := h.show
    obtain ⟨a2, b2, c2⟩ := t.show
    exact ⟨by simp [PyData.showableAll, a, a2], by simp [PyData.depthAll]; omega, fun q hq => by
      rcases List.mem_cons.mp hq with rfl | hq
      · exact c
      · exact c2 q hq⟩
theorem body_len : ∀ ts : List (List Nat), (∀ x ∈ ts, x.length < 30000) → (bodyL ts).length ≤ 30010 * ts.length + 10
  | [], _ => by simp [bodyL]
  | [x], h => by have := h x (by simp); simp [bodyL]; omega
  | x :: y :: r, h => by
    have := h x (by simp)
    have ih := body_len (y :: r) (fun z hz => h z (List.mem_cons_of_mem _ hz))
    simp only [bodyL, List.length_append, List.length_cons] at ih ⊢
    omega
theorem full_len (ts : List (List Nat)) (h : ∀ x ∈ ts, x.length < 30000) : (fullL ts).length ≤ 30010 * ts.length + 20 := by
  match ts with
  | [] => simp [fullL]
  | [x] => have := h x (by simp); simp [fullL]; omega
  | x :: y :: r =>
    have := body_len (x :: y :: r) h
    simp only [fullL, List.length_cons] at this ⊢
    omega
theorem Parts.toP : ∀ {ds : List D} {qs : List PyData}, Parts ds qs → (∀ d ∈ ds, d ≠ .dK []) → toPs ds = some qs
  | _, _, .nil, _ => rfl
  | _, _, .cons (d := d) (q := q) h t, hn => by
    have h1 : Pu.toP d = some q := by
      cases h with
      | str _ => rfl
      | oth _ ho _ _ _ _ =>
        rcases ho with ho | ⟨ho, _⟩
        · exact ho
        · exact absurd ho (hn _ List.mem_cons_self)
    simp [toPs, h1, t.toP fun e he => hn e (List.mem_cons_of_mem _ he)]
theorem reprX_parts {ds : List D} {qs : List PyData} (h : Parts ds qs) (hl : ds.length ≤ 10) (hE : (∀ d ∈ ds, d ≠ .dK []) ∨ toEs ds = some qs ∧ toPs ds = none) : reprX (.tup ds) = some (.str (PyData.tuple qs).shown) := by
  obtain ⟨a, b, c⟩ := h.show
  have hlen : qs.length = ds.length := by
    clear hE hl a b c
    induction h with
    | nil => rfl
    | cons _ _ ih => simp [ih]
  have hsl : (PyData.tuple qs).shown.length ≤ sizeLine := by
    have e : (PyData.tuple qs).shown.length = (PyData.tuple qs).shown.cps.toList.length := by simp; rfl
    rw [e, shown_full]
    have := full_len (qs.map fun q => q.shown.cps.toList) (fun x hx => by
      obtain ⟨q, hq, rfl⟩ := List.mem_map.mp hx
      have := c q hq
      simp
      exact this)
    simp at this
    rw [szl']
    omega
  have e3 : (PyData.tuple qs).showable = true ∧ (PyData.tuple qs).depth ≤ 60 ∧ (PyData.tuple qs).shown.length ≤ sizeLine := ⟨by rw [PyData.showable]; exact a, by rw [PyData.depth]; omega, hsl⟩
  rcases hE with hn | ⟨he, hp⟩
  · have ht := h.toP hn
    have : reprD (.tup ds) = some (.str (PyData.tuple qs).shown) := by
      unfold reprD
      simp only [isSq, if_true, toP, ht, Option.map_some, if_pos e3]
    unfold reprX
    rw [this]
  · have : reprD (.tup ds) = none := by
      unfold reprD
      simp only [isSq, if_true, toP, hp, Option.map_none]
    unfold reprX reprE
    rw [this]
    simp only [he, if_pos e3]
/-- one text, one tuple -/
theorem shown_inj {as : List Str} {ds : List D} {qs : List PyData} (ha : as ≠ []) (hA : ∀ x ∈ as, PlS x) (h : Parts ds qs) (he : (PyData.tuple (as.map .str)).shown = (PyData.tuple qs).shown) : ds = as.map .str := by
  have e := congrArg (fun s : Str => s.cps.toList) he
  simp only [shown_full] at e
  have := full_inj (by simpa using ha) (fun x hx => by
    simp only [List.map_map, List.mem_map, Function.comp_def] at hx
    obtain ⟨s, hs, rfl⟩ := hx
    exact quo_of (hA s hs).1) h.pts e
  clear e he ha
  induction h generalizing as with
  | nil =>
    cases as with
    | nil => rfl
    | cons _ _ => simp at this
  | @cons d q ds qs hp ht ih =>
    cases as with
    | nil => simp at this
    | cons s as =>
      simp only [List.map_cons, List.cons.injEq] at this
      have h1 := this.1
      rw [ih (fun x hx => hA x (List.mem_cons_of_mem _ hx)) this.2]
      rw [List.map_cons]
      congr 1
      cases hp with
      | @str x hx =>
        have : s = x := repr_inj (hA s List.mem_cons_self).1 hx.1 h1
        rw [this]
      | oth _ _ _ _ _ hh =>
        obtain ⟨c, r, e1, e2⟩ := hh
        obtain ⟨z, ez, _⟩ := quo_of (hA s List.mem_cons_self).1
        have h1' : (reprText s).cps.toList = q.shown.cps.toList := h1
        rw [ez, e1] at h1'
        simp only [List.cons.injEq] at h1'
        exact absurd h1'.1.symm e2
end Pu
namespace Pu
open PySem PySem.Spec PyProof.Rows L2 My
/-! ### which texts are places -/
def dec (x : Str) : Option Pa := if x.cps.toList.all (fun c => c == 108 || c == 114) then some (x.cps.toList.map (· == 114)) else none
theorem dec_some {x : Str} {p : Pa} (h : dec x = some p) : x = pl p := by
  unfold dec at h
  split at h
  · rename_i ha
    cases h
    apply strS_eta
    rw [pl_toList, List.map_map]
    have : ∀ l : List Nat, (l.all fun c => c == 108 || c == 114) = true → l = l.map (chB ∘ fun c => c == 114) := fun l => by
      induction l with
      | nil => intro _; rfl
      | cons c l ih =>
        intro hl
        simp only [List.all_cons, Bool.and_eq_true, Bool.or_eq_true, beq_iff_eq] at hl
        rw [List.map_cons, ← ih hl.2]
        congr 1
        rcases hl.1 with rfl | rfl <;> rfl
    exact this _ ha
  · cases h
theorem dec_pl (p : Pa) : dec (pl p) = some p := by
  unfold dec
  rw [pl_toList]
  have h1 : ((p.map chB).all fun c => c == 108 || c == 114) = true := by
    rw [List.all_eq_true]
    intro c hc
    obtain ⟨b, _, rfl⟩ := List.mem_map.mp hc
    cases b <;> rfl
  rw [if_pos h1, List.map_map]
  congr 1
  have : ((fun c : Nat => c == 114) ∘ chB) = id := by
    funext b
    cases b <;> rfl
  rw [this, List.map_id]
def spotB (t : Tr) : D → Bool
  | .str x => match dec x with
    | some p => !(t.sub p).isE
    | none => false
  | _ => false
theorem not_isE {t : Tr} (h : t.isE = false) : ∃ l v r, t = .n l v r := by
  cases t with
  | e => cases h
  | n l v r => exact ⟨l, v, r, rfl⟩
theorem sub_short {t : Tr} {p : Pa} {l r : Tr} {v : Int} (h : t.sub p = .n l v r) : p.length < t.ht := by
  have := sub_mem t p [] l v r h
  exact pre_short (by simpa using this)
theorem spot_true {t : Tr} {d : D} (h : spotB t d = true) : ∃ p l v r, d = .str (pl p) ∧ t.sub p = .n l v r ∧ p.length < t.ht := by
  unfold spotB at h
  split at h
  · rename_i x
    split at h
    · rename_i p hp
      have hE : (t.sub p).isE = false := by simpa using h
      obtain ⟨l, v, r, e⟩ := not_isE hE
      exact ⟨p, l, v, r, by rw [dec_some hp], e, sub_short e⟩
    · cases h
  · cases h
theorem val_none (gs : List (Pa × Int)) (x : Str) (h : dec x = none) : valD (spt gs) (Sum.inr x : Key) = none := by
  induction gs with
  | nil => rfl
  | cons y gs ih =>
    simp only [spt, List.map_cons, valD, Sum.inr.injEq] at ih ⊢
    have : ¬ pl y.1 = x := fun e => by
      rw [← e, dec_pl] at h
      cases h
    rw [if_neg this, ih]
theorem isStr_oth {d : D} (h1 : ∀ x, d ≠ .str x) {q : PyData} (h2 : toP d = some q ∨ (d = .dK [] ∧ q = .dict [])) : isG gStrT [(Str.ofString "Tree", false)] d = some (.bl false) := by
  rcases h2 with h2 | ⟨rfl, _⟩
  · cases d with
    | str x => exact absurd rfl (h1 x)
    | non => rfl
    | bl b => rfl
    | int i => rfl
    | tup xs => rfl
    | lst xs => rfl
    | _ => simp [toP] at h2
  · rfl
section
variable {t : Tr} {gs : List (Pa × Int)}
theorem spot_D (hp : gs.Perm (t.pre [])) {d : D} {q : PyData} (h : Part d q) : fn_is_spot [t.ins gs, d] = .ok (.bl (spotB t d)) .non := by
  cases h with
  | @str x hx =>
    cases hd : dec x with
    | some p =>
      have e := dec_some hd
      subst e
      have := spot_ok hp p
      simp [spotB, hd, this]
    | none =>
      have s := self_has t gs
      have f := fld_spots t gs
      have hv := val_none gs x hd
      have hi : inD (.str x) (.dK (spt gs)) = some (.bl false) := by
        unfold inD inB
        simp [hv]
      have hh : fn_Tree_has [t.ins gs, .str x] = .ok (.bl false) .non := by
        simp [fn_Tree_has, b_Tree_has, f, hi, gStrT, -fldC_u]
      simp [spotB, hd, fn_is_spot, b_is_spot, hh, s, gStrT, -selfR_u]
  | oth h1 h2 _ _ _ _ =>
    have hs := isStr_oth h1 h2
    have : spotB t d = false := by
      unfold spotB
      split
      · rename_i x
        exact absurd rfl (h1 x)
      · rfl
    rw [this]
    simp [fn_is_spot, b_is_spot, hs, -isG_u]
theorem Part.isStr {d : D} {q : PyData} (h : Part d q) : (∃ x, d = .str x ∧ PyData.strOk x = true) ∨ isG gStrT [(Str.ofString "Tree", false)] d = some (.bl false) := by
  cases h with
  | @str x hx =>
    refine .inl ⟨x, rfl, ?_⟩
    unfold PyData.strOk
    rw [Array.all_eq_true_iff_forall_mem]
    intro c hc
    have := (hx.1 c (by simpa using hc)).2.1
    simp
    omega
  | oth h1 h2 _ _ _ _ => exact .inr (isStr_oth h1 h2)
theorem side_cases (x : Str) (hx : PyData.strOk x = true) : (∃ b, x = sideS b) ∨ ninD (.str x) k_SIDES = some (.bl true) := by
  have e := inTup x [Str.ofString "left", Str.ofString "right"] hx (fun s hs => by simp at hs; rcases hs with rfl | rfl <;> exact strOk_of _)
  by_cases h1 : Str.ofString "left" = x
  · exact .inl ⟨false, h1.symm⟩
  · by_cases h2 : Str.ofString "right" = x
    · exact .inl ⟨true, h2.symm⟩
    · right
      have e' : inB (.str x) k_SIDES = some false := by
        have : inB (.str x) k_SIDES = _ := e
        rw [this]
        simp [h1, h2]
      unfold ninD
      rw [e']
      rfl
theorem sd_inL (l r : Bool) (b : Bool) (h : (if b then r else l) = true) : ninD (.str (pl [b])) (.str (sdS l r)) = some (.bl false) := by
  have key : ∀ l r b : Bool, (if b then r else l) = true → (match ninD (.str (pl [b])) (.str (sdS l r)) with | some (.bl x) => x | _ => true) = false := by decide +kernel
  have k := key l r b h
  split at k
  · rename_i x hx
    rw [hx, k]
  · cases k
theorem sd_eqL : neD (.str (sdS true true)) (.str (Str.ofString "lr")) = some (.bl false) := by
  have key : (match neD (.str (sdS true true)) (.str (Str.ofString "lr")) with | some (.bl x) => x | _ => true) = false := by decide +kernel
  split at key
  · rename_i x hx
    rw [hx, key]
  · cases key
theorem done_or (hp : gs.Perm (t.pre [])) (hh : t.ht < 14) (k : String) {ps : List D} {qs : List PyData} (h : Parts ps qs) : (∃ x : Rs, x.ok t ∧ x.d = .tup (.str (Str.ofString k) :: ps)) ∨ fn_is_done [t.ins gs, .tup (.str (Str.ofString k) :: ps)] = .ok (.bl false) .non := by
  have s1 := self_has t gs
  have s2 := self_sides t gs
  have a10 : allD (.lst [.bl false]) = some (.bl false) := rfl
  have a11 : allD (.lst [.bl true]) = some (.bl true) := rfl
  have a2 : ∀ x y : Bool, allD (.lst [.bl x, .bl y]) = some (.bl (x && y)) := fun x y => by cases x <;> cases y <;> rfl
  by_cases k1 : k = "none"
  · subst k1
    cases h with
    | nil => exact .inl ⟨.none, trivial, rfl⟩
    | cons h t =>
      rename_i a q ps qs
      have z1 : ¬ ((ps.length : Int) + 1 = 0) := by omega
      have z2 : ¬ ((ps.length : Int) + 1 + 1 = 0) := by omega
      have z3 : ¬ ((ps.length : Int) + 1 + 1 + 1 = 0) := by omega
      have z4 : ¬ ((ps.length : Int) + 1 + 1 + 1 + 1 = 0) := by omega
      have hn : ¬ ((ps.length : Int) + 1 = 0) := by omega
      right
      simp [fn_is_done, b_is_done, gTupT, gStrT, eqI, eqSS, neI, ixT0, slT1, inSS2, szl', hn, z1, z2, z3, z4]
  by_cases k2 : k = "plant"
  · subst k2
    cases h with
    | nil =>
      cases hE : t.isE with
      | true =>
        refine .inl ⟨.plant, ?_, rfl⟩
        show t = .e
        cases t with
        | e => rfl
        | n _ _ _ => cases hE
      | false =>
        right
        have hz := has_ok hp []
        rw [sub_nil', hE, ← pl_nil] at hz
        simp [fn_is_done, b_is_done, gTupT, gStrT, eqI, eqSS, neI, ixT0, slT1, inSS2, szl', s1, hz, -selfR_u]
    | cons h t =>
      rename_i a q ps qs
      have z1 : ¬ ((ps.length : Int) + 1 = 0) := by omega
      have z2 : ¬ ((ps.length : Int) + 1 + 1 = 0) := by omega
      have z3 : ¬ ((ps.length : Int) + 1 + 1 + 1 = 0) := by omega
      have z4 : ¬ ((ps.length : Int) + 1 + 1 + 1 + 1 = 0) := by omega
      have hn : ¬ ((ps.length : Int) + 1 = 0) := by omega
      right
      simp [fn_is_done, b_is_done, gTupT, gStrT, eqI, eqSS, neI, ixT0, slT1, inSS2, szl', hn, z1, z2, z3, z4]
  by_cases k3 : k = "attach"
  · subst k3
    cases h with
    | nil => right; simp [fn_is_done, b_is_done, gTupT, gStrT, eqI, eqSS, neI, ixT0, slT1, inSS2, szl']
    | cons h1 t1 =>
      cases t1 with
      | nil => right; simp [fn_is_done, b_is_done, gTupT, gStrT, eqI, eqSS, neI, ixT0, slT1, inSS2, szl']
      | cons h2 t2 =>
        cases t2 with
        | cons h3 t3 =>
          rename_i a q1 b q2 c q3 ps qs
          have z1 : ¬ ((ps.length : Int) + 1 = 0) := by omega
          have z2 : ¬ ((ps.length : Int) + 1 + 1 = 0) := by omega
          have z3 : ¬ ((ps.length : Int) + 1 + 1 + 1 = 0) := by omega
          have z4 : ¬ ((ps.length : Int) + 1 + 1 + 1 + 1 = 0) := by omega
          have hn : ¬ ((ps.length : Int) + 1 + 1 + 1 = 2) := by omega
          right
          simp [fn_is_done, b_is_done, gTupT, gStrT, eqI, eqSS, neI, ixT0, slT1, inSS2, szl', hn, z1, z2, z3, z4]
        | nil =>
          rename_i a q1 b q2
          have sp := spot_D hp h1
          cases hs : spotB t a with
          | false =>
            rw [hs] at sp
            right
            simp [fn_is_done, b_is_done, gTupT, gStrT, eqI, eqSS, neI, ixT0, slT1, inSS2, szl', sp]
          | true =>
            rw [hs] at sp
            obtain ⟨w, l, v, r, rfl, hw, hwl⟩ := spot_true hs
            rcases h2.isStr with ⟨x, rfl, hx⟩ | hx
            · rcases side_cases x hx with ⟨c, rfl⟩ | hx
              · cases hc : (if c then r else l).isE with
                | true =>
                  refine .inl ⟨.att w c, ⟨by omega, l, v, r, hw, ?_⟩, rfl⟩
                  cases c
                  · cases l with
                    | e => rfl
                    | n _ _ _ => cases hc
                  · cases r with
                    | e => rfl
                    | n _ _ _ => cases hc
                | false =>
                  right
                  have hd := sides_ok hp w (by omega) hw
                  have hn := sd_inL (!l.isE) (!r.isE) c (by cases c <;> simp at hc ⊢ <;> exact hc)
                  have h0 := side0 c
                  have hi := side_in c
                  simp [fn_is_done, b_is_done, gTupT, gStrT, eqI, eqSS, neI, ixT0, ixT1, slT1, inSS2, szl', s2, sp, hd, hn, h0, hi, -selfR_u]
              · right
                simp [fn_is_done, b_is_done, gTupT, gStrT, eqI, eqSS, neI, ixT0, ixT1, slT1, inSS2, szl', sp, hx]
            · right
              have g1 : isG gTupT [(Str.ofString "Tree", false)] (.tup [.str (Str.ofString "attach"), .str (pl w), b]) = some (.bl true) := rfl
              have g2 : isG gStrT [(Str.ofString "Tree", false)] (.str (Str.ofString "attach")) = some (.bl true) := rfl
              simp [fn_is_done, b_is_done, g1, g2, eqI, eqSS, neI, ixT0, ixT1, slT1, inSS2, szl', sp, hx, -isG_u]
  by_cases k4 : k = "place"
  · subst k4
    cases h with
    | nil => right; simp [fn_is_done, b_is_done, gTupT, gStrT, eqI, eqSS, neI, ixT0, slT1, inSS2, ninSS3, szl']
    | cons h1 t1 =>
      cases t1 with
      | nil =>
        rename_i a q1
        have sp := spot_D hp h1
        cases hs : spotB t a with
        | false =>
          rw [hs] at sp
          right
          simp [fn_is_done, b_is_done, gTupT, gStrT, eqI, eqSS, neI, ixT0, slT1, inSS2, ninSS3, szl', sp, dLc, dLcL, wipeE, a10]
        | true =>
          obtain ⟨w, l, v, r, rfl, hw, hwl⟩ := spot_true hs
          exact .inl ⟨.place w, ⟨by rw [hw]; rfl, by omega⟩, rfl⟩
      | cons h2 t2 =>
        rename_i a q1 b q2 ps qs
        have z1 : ¬ ((ps.length : Int) + 1 = 0) := by omega
        have z2 : ¬ ((ps.length : Int) + 1 + 1 = 0) := by omega
        have z3 : ¬ ((ps.length : Int) + 1 + 1 + 1 = 0) := by omega
        have z4 : ¬ ((ps.length : Int) + 1 + 1 + 1 + 1 = 0) := by omega
        have hn : ¬ ((ps.length : Int) + 1 + 1 = 1) := by omega
        right
        simp [fn_is_done, b_is_done, gTupT, gStrT, eqI, eqSS, neI, ixT0, slT1, inSS2, ninSS3, szl', hn, z1, z2, z3, z4]
  by_cases k5 : k = "cut"
  · subst k5
    cases h with
    | nil => right; simp [fn_is_done, b_is_done, gTupT, gStrT, eqI, eqSS, neI, ixT0, slT1, inSS2, ninSS3, szl']
    | cons h1 t1 =>
      cases t1 with
      | nil =>
        rename_i a q1
        have sp := spot_D hp h1
        cases hs : spotB t a with
        | false =>
          rw [hs] at sp
          right
          simp [fn_is_done, b_is_done, gTupT, gStrT, eqI, eqSS, neI, ixT0, slT1, inSS2, ninSS3, szl', sp, dLc, dLcL, wipeE, a10]
        | true =>
          rw [hs] at sp
          obtain ⟨w, l, v, r, rfl, hw, hwl⟩ := spot_true hs
          by_cases hc : l = .e ∨ r = .e
          · exact .inl ⟨.cut w, ⟨by omega, l, v, r, hw, hc⟩, rfl⟩
          · right
            have hd := sides_ok hp w (by omega) hw
            have e1 : l.isE = false := by cases l <;> simp [Tr.isE] at hc ⊢
            have e2 : r.isE = false := by cases r <;> simp [Tr.isE] at hc ⊢
            rw [e1, e2] at hd
            have hn := sd_eqL
            simp [fn_is_done, b_is_done, gTupT, gStrT, eqI, eqSS, neI, ixT0, ixT1, ixTm1, slT1, inSS2, ninSS3, szl', s2, sp, hd, hn, dLc, dLcL, wipeE, a11, -selfR_u]
      | cons h2 t2 =>
        rename_i a q1 b q2 ps qs
        have z1 : ¬ ((ps.length : Int) + 1 = 0) := by omega
        have z2 : ¬ ((ps.length : Int) + 1 + 1 = 0) := by omega
        have z3 : ¬ ((ps.length : Int) + 1 + 1 + 1 = 0) := by omega
        have z4 : ¬ ((ps.length : Int) + 1 + 1 + 1 + 1 = 0) := by omega
        have hn : ¬ ((ps.length : Int) + 1 + 1 = 1) := by omega
        right
        simp [fn_is_done, b_is_done, gTupT, gStrT, eqI, eqSS, neI, ixT0, slT1, inSS2, ninSS3, szl', hn, z1, z2, z3, z4]
  by_cases k6 : k = "replace"
  · subst k6
    cases h with
    | nil => right; simp [fn_is_done, b_is_done, gTupT, gStrT, eqI, eqSS, neI, ixT0, slT1, inSS2, ninSS3, szl']
    | cons h1 t1 =>
      cases t1 with
      | nil => right; simp [fn_is_done, b_is_done, gTupT, gStrT, eqI, eqSS, neI, ixT0, slT1, inSS2, ninSS3, szl']
      | cons h2 t2 =>
        cases t2 with
        | cons h3 t3 =>
          rename_i a q1 b q2 c q3 ps qs
          have z1 : ¬ ((ps.length : Int) + 1 = 0) := by omega
          have z2 : ¬ ((ps.length : Int) + 1 + 1 = 0) := by omega
          have z3 : ¬ ((ps.length : Int) + 1 + 1 + 1 = 0) := by omega
          have z4 : ¬ ((ps.length : Int) + 1 + 1 + 1 + 1 = 0) := by omega
          have hn : ¬ ((ps.length : Int) + 1 + 1 + 1 = 2) := by omega
          right
          simp [fn_is_done, b_is_done, gTupT, gStrT, eqI, eqSS, neI, ixT0, slT1, inSS2, ninSS3, szl', hn, z1, z2, z3, z4]
        | nil =>
          rename_i a q1 b q2
          have sp := spot_D hp h1
          have sp2 := spot_D hp h2
          by_cases hs : spotB t a = true ∧ spotB t b = true
          · rw [hs.1] at sp
            rw [hs.2] at sp2
            obtain ⟨o, l0, v0, r0, rfl, ho, hol⟩ := spot_true hs.1
            obtain ⟨w, l, v, r, rfl, hw, hwl⟩ := spot_true hs.2
            by_cases hc : l = .e ∨ r = .e
            · exact .inl ⟨.rep o w, ⟨by omega, by omega, ⟨l0, v0, r0, ho⟩, l, v, r, hw, hc⟩, rfl⟩
            · right
              have hd := sides_ok hp w (by omega) hw
              have e1 : l.isE = false := by cases l <;> simp [Tr.isE] at hc ⊢
              have e2 : r.isE = false := by cases r <;> simp [Tr.isE] at hc ⊢
              rw [e1, e2] at hd
              have hn := sd_eqL
              have a22 := a2 true true
              simp at a22
              simp [fn_is_done, b_is_done, gTupT, gStrT, eqI, eqSS, neI, ixT0, ixT1, ixTm2, slT1, inSS2, ninSS3, szl', s2, sp, sp2, hd, hn, dLc, dLcL, wipeE, a22, -selfR_u]
          · right
            have hb : (spotB t a && spotB t b) = false := by
              cases h1 : spotB t a <;> cases h2 : spotB t b <;> simp [h1, h2] at hs ⊢
            have a22 := a2 (spotB t a) (spotB t b)
            rw [hb] at a22
            simp [fn_is_done, b_is_done, gTupT, gStrT, eqI, eqSS, neI, ixT0, slT1, inSS2, ninSS3, szl', sp, sp2, dLc, dLcL, wipeE, a22]
  right
  have z1 : ¬ ((ps.length : Int) + 1 = 0) := by omega
  simp [fn_is_done, b_is_done, gTupT, gStrT, eqI, eqSS, neI, ixT0, slT1, inSS2, ninSS3, szl', z1, k1, k2, k3, k4, k5, k6]
end
end Pu
namespace Pu
open PySem PySem.Spec PyProof.Rows L2 My
/-- the pen -/
def pen (cs : List Int) (n l : Int) : D := .dK [(Sum.inr "cells", .lst (cs.map D.int)), (Sum.inr "opened", .int n), (Sum.inr "left", .int l)]
theorem toPs_ints (cs : List Int) : toPs (cs.map D.int) = some (cs.map PyData.int) := by
  induction cs with
  | nil => rfl
  | cons c cs ih => simp [toPs, toP, ih]
theorem canLay_ints (cs : List Int) : PyData.canLayAll0 (cs.map PyData.int) = true := by
  induction cs with
  | nil => rfl
  | cons c cs ih => simp [PyData.canLayAll0, PyData.canLay0, ih]
theorem depth_ints (cs : List Int) : PyData.depthAll (cs.map PyData.int) ≤ 1 := by
  induction cs with
  | nil => simp [PyData.depthAll]
  | cons c cs ih => simp [PyData.depthAll, PyData.depth]; omega
theorem ne_cells (cs : List Int) : neD (.lst (cs.map D.int)) (.lst []) = some (.bl (!cs.isEmpty)) := by
  have h1 : SeqAt.shaped (.list (cs.map PyData.int)) = true := by
    unfold SeqAt.shaped
    rw [Bool.and_eq_true]
    refine ⟨by rw [PyData.canLay0]; exact canLay_ints cs, ?_⟩
    have := depth_ints cs
    rw [decide_eq_true_eq, PyData.depth]
    omega
  have h2 : SeqAt.shaped (.list []) = true := by decide +kernel
  unfold neD eqB
  simp [scalD, toP, toPs_ints, toPs, h1, h2]
  cases cs <;> simp [PyData.eqv, PyData.eqvAll]
theorem ks1 : (Str.ofString "cells" = Str.ofString "left") = False := eq_false (by decide +kernel)
theorem ks2 : (Str.ofString "opened" = Str.ofString "left") = False := eq_false (by decide +kernel)
theorem ks3 : (Str.ofString "cells" = Str.ofString "opened") = False := eq_false (by decide +kernel)
theorem ks4 : (Str.ofString "left" = Str.ofString "opened") = False := eq_false (by decide +kernel)
theorem int_mod_lt (a m : Int) (h : 0 < m) : 0 ≤ a % m ∧ a % m < m := ⟨Int.emod_nonneg _ (by omega), Int.emod_lt_of_pos _ h⟩
theorem szl : sizeLine = 16777216 := rfl
theorem log_ok (m : Int) (h : 0 < m ∧ m < 2 ^ 60) : m.natAbs.log2 < 9000 := by
  have h1 : m.natAbs < 2 ^ 60 := by omega
  have h2 : m.natAbs ≠ 0 := by omega
  have := (Nat.log2_lt h2).mpr h1
  omega
theorem mul_ok (i j : Int) (h : -(2 ^ 64) < i ∧ i < 2 ^ 64) : mulD (.int i) (.int j) = some (.int (i * j)) := by
  show (if (-(2 ^ 64) < i ∧ i < 2 ^ 64) ∨ (-(2 ^ 64) < j ∧ j < 2 ^ 64) then some (D.int (i * j)) else none) = _
  rw [if_pos (.inl h)]
theorem mul_ok2 (i j : Int) (h : -(2 ^ 64) < j ∧ j < 2 ^ 64) : mulD (.int i) (.int j) = some (.int (i * j)) := by
  show (if (-(2 ^ 64) < i ∧ i < 2 ^ 64) ∨ (-(2 ^ 64) < j ∧ j < 2 ^ 64) then some (D.int (i * j)) else none) = _
  rw [if_pos (.inr h)]
theorem pow18 : powD (.int 10) (.int 18) = some (.int 1000000000000000000) := rfl
theorem draw_ok (cs : List Int) (n l many : Int) (hn : 0 ≤ n ∧ n < 2 ^ 60) (hl : 0 ≤ l) (hm : 0 < many ∧ many < 2 ^ 60) :
    ∃ v n' l', fn_law_draw [pen cs n l, .int many] = .ok (.int v) (pen cs n' l') ∧ 0 ≤ v ∧ v < many ∧ 0 ≤ l' ∧ 0 ≤ n' ∧ n' ≤ n + 1 := by
  unfold fn_law_draw b_law_draw pen
  have lg := log_ok many hm
  by_cases h1 : 0 < l
  · simp [ixD, valD, putD, h1, hm.1, ks1, ks2, ks3, ks4, lg, szl]
    exact ⟨_, _, _, ⟨rfl, rfl, rfl⟩, (int_mod_lt _ _ hm.1).1, (int_mod_lt _ _ hm.1).2, Int.ediv_nonneg hl (by omega), hn.1, by omega⟩
  · have m1 : mulD (.int 89) (.int n) = some (.int (89 * n)) := mul_ok _ _ (by omega)
    have m2 : mulD (.int 25933) (.int n) = some (.int (25933 * n)) := mul_ok _ _ (by omega)
    have m3 : mulD (.int (25933 * n)) (.int n) = some (.int (25933 * n * n)) := mul_ok2 _ _ (by omega)
    have m4 : mulD (.int 823) (.int n) = some (.int (823 * n)) := mul_ok _ _ (by omega)
    have m5 : mulD (.int 29) (.int n) = some (.int (29 * n)) := mul_ok _ _ (by omega)
    have m6 : ∀ a : Int, mulD (.int a) (.int 43691) = some (.int (a * 43691)) := fun a => mul_ok2 _ _ (by omega)
    have m7 : ∀ a : Int, mulD (.int 40127) (.int a) = some (.int (40127 * a)) := fun a => mul_ok _ _ (by omega)
    have m8 : ∀ a b : Int, mulD (.int (a % 4294965757)) (.int b) = some (.int (a % 4294965757 * b)) := fun a b => mul_ok _ _ (by have := int_mod_lt a 4294965757 (by omega); omega)
    have m9 : ∀ a b : Int, mulD (.int (a % 4294965703)) (.int b) = some (.int (a % 4294965703 * b)) := fun a b => mul_ok _ _ (by have := int_mod_lt a 4294965703 (by omega); omega)
    have lg128 : Nat.log2 128 < 9000 := by decide
    have fin : ∀ (a : Int), 0 ≤ a % many ∧ a % many < many := fun a => int_mod_lt a many hm.1
    rcases List.eq_nil_or_concat cs with rfl | hcs
    · simp [ixD, valD, putD, h1, hm.1, ks1, ks2, ks3, ks4, lg, szl, m1, m2, m3, m4, m5, m6, m7, m8, m9, pow18, Int.not_lt.mpr hn.1, lg128]
      exact ⟨_, _, _, ⟨rfl, rfl, rfl⟩, (fin _).1, (fin _).2, hl, by omega, by omega⟩
    · have hne : cs ≠ [] := by obtain ⟨x, y, rfl⟩ := hcs; simp
      have hpos : 0 < (cs.length : Int) := by have := List.length_pos_iff.mpr hne; omega
      obtain ⟨c, hc⟩ : ∃ c : Int, atI (cs.map D.int) (n % (cs.length : Int)) = some (.int c) := by
        have := int_mod_lt n cs.length hpos
        rw [atI_pos _ _ this.1]
        have h2 : (n % (cs.length : Int)).toNat < cs.length := by omega
        exact ⟨cs[(n % (cs.length : Int)).toNat], by simp [List.getElem?_eq_getElem h2]⟩
      have hpN : 0 < cs.length := List.length_pos_iff.mpr hne
      by_cases h2 : n < cs.length
      · by_cases h3 : (1000000000000000000 : Int) ≤ (if c < 0 then -c else c)
        · simp [ixD, valD, putD, h1, hm.1, ks1, ks2, ks3, ks4, lg, szl, m1, m2, m3, m4, m5, m6, m7, m8, m9, pow18, hpos, hpN, hc, h2, h3]
          exact ⟨_, _, _, ⟨rfl, rfl, rfl⟩, (fin _).1, (fin _).2, Int.ediv_nonneg (by omega) (by omega), by omega, by omega⟩
        · simp [ixD, valD, putD, h1, hm.1, ks1, ks2, ks3, ks4, lg, szl, m1, m2, m3, m4, m5, m6, m7, m8, m9, pow18, hpos, hpN, hc, h2, h3, lg128]
          exact ⟨_, _, _, ⟨rfl, rfl, rfl⟩, (fin _).1, (fin _).2, hl, by omega, by omega⟩
      · simp [ixD, valD, putD, h1, hm.1, ks1, ks2, ks3, ks4, lg, szl, m1, m2, m3, m4, m5, m6, m7, m8, m9, pow18, hpos, hpN, hc, h2, lg128]
        exact ⟨_, _, _, ⟨rfl, rfl, rfl⟩, (fin _).1, (fin _).2, hl, by omega, by omega⟩
theorem pen_ok (ns : List Int) (h : ns.length ≤ 63) : fn_law_pen [.scr ns] = .ok (pen ns 0 0) .non := by
  have hc : cutL (ns.map D.int) none (some 63) = ns.map D.int := by
    unfold cutL
    have e1 : HT.sIx (ns.map D.int).length 0 none = 0 := rfl
    have e2 : HT.sIx (ns.map D.int).length (ns.map D.int).length (some 63) = min 63 (ns.map D.int).length := HT.sIx_nat _ _ 63
    rw [e1, e2, List.drop_zero]
    exact List.take_of_length_le (by simp; omega)
  simp [fn_law_pen, b_law_pen, sliceD, hc, mergeD, putD, pen, ks1, ks2, ks3, ks4]
/-- a pen after at most k draws -/
def Pn (cs : List Int) (k : Nat) (p : D) : Prop := ∃ n l : Int, p = pen cs n l ∧ 0 ≤ n ∧ n ≤ k ∧ 0 ≤ l
theorem Pn.mono {cs : List Int} {k k' : Nat} {p : D} (h : Pn cs k p) (hk : k ≤ k') : Pn cs k' p := by
  obtain ⟨n, l, e, h1, h2, h3⟩ := h
  exact ⟨n, l, e, h1, by omega, h3⟩
theorem draw_P {cs : List Int} {k : Nat} {p : D} (h : Pn cs k p) (hk : k < 10000000) (many : Int) (hm : 0 < many ∧ many < 100000) : ∃ v p', fn_law_draw [p, .int many] = .ok (.int v) p' ∧ Pn cs (k + 1) p' ∧ 0 ≤ v ∧ v < many := by
  obtain ⟨n, l, rfl, h1, h2, h3⟩ := h
  obtain ⟨v, n', l', e, a1, a2, a3, a4, a5⟩ := draw_ok cs n l many (by omega) h3 (by omega)
  exact ⟨v, _, e, ⟨n', l', rfl, a4, by omega, a3⟩, a1, a2⟩
theorem pick_P {cs : List Int} {k : Nat} {p : D} (h : Pn cs k p) (hk : k < 10000000) (items : List D) (hi : 0 < items.length ∧ items.length < 1000) : ∃ d p', d ∈ items ∧ fn_law_pick [p, .lst items] = .ok d p' ∧ Pn cs (k + 1) p' := by
  obtain ⟨v, p', e, hp, h1, h2⟩ := draw_P h hk items.length (by omega)
  have hv : v.toNat < items.length := by omega
  refine ⟨items[v.toNat], p', List.getElem_mem hv, ?_, hp⟩
  have hat : atI items v = some items[v.toNat] := by rw [atI_pos _ _ h1, List.getElem?_eq_getElem hv]
  simp [fn_law_pick, b_law_pick, e, ixD, hat]
end Pu
/-! comprehensions and loops whose turns change nothing but their own names, once for all -/
namespace Pu
open PySem PySem.Spec PyProof.Rows L2 My
section
variable {α : Type} (u w : α → D)
theorem lcL_all (i : Nat) (ρ0 : En) (fe : M Rv) : ∀ (as : List α) (acc : List D) (x : Option (Kd × D)), (∀ a ∈ as, fe (ρ0.set i (some (.val, u a))) = .ok (.val (w a)) (ρ0.set i (some (.val, u a)))) → acc.length + as.length ≤ sizeLine →
    ∃ y, dLcL (gN i) dYes fe [i] (as.map u) acc (ρ0.set i x) = .ok (acc ++ as.map w) (ρ0.set i y)
  | [], acc, x, _, _ => ⟨x, by simp [dLcL]⟩
  | a :: as, acc, x, h, hl => by
    have h1 := h a List.mem_cons_self
    obtain ⟨y, e⟩ := lcL_all i ρ0 fe as (acc ++ [w a]) (some (.val, u a)) (fun a' hd => h a' (List.mem_cons_of_mem _ hd)) (by simp at hl ⊢; omega)
    refine ⟨y, ?_⟩
    have hlt : acc.length < sizeLine := by simp at hl; omega
    rw [List.map_cons]
    unfold dLcL
    simp only [gN, wipeE, List.set_set, dYes, h1, esc, if_pos hlt, e]
    simp
theorem dLc_all {i : Nat} {fi : M (List D)} {fe : M Rv} {ρ ρ1 : En} (as : List α) (h1 : fi ρ = .ok (as.map u) ρ1) (h2 : ∀ a ∈ as, fe (ρ1.set i (some (.val, u a))) = .ok (.val (w a)) (ρ1.set i (some (.val, u a)))) (hl : as.length ≤ sizeLine) (hi : i < ρ1.length) :
    dLc fi (gN i) dYes fe [i] ρ = .ok (.lst (as.map w)) (ρ1.set i none) := by
  have e0 : ρ1 = ρ1.set i (ρ1[i]) := by simp
  obtain ⟨y, e⟩ := lcL_all u w i ρ1 fe as [] (ρ1[i]) h2 (by simpa using hl)
  rw [← e0] at e
  unfold dLc
  simp [h1, e, wipeE, List.set_set]
theorem chk_at {β : Type} {i n : Nat} {ρ : En} {bad : β} {k : List D → β} {ds : List D} (h : ρ[i]? = some (some (.pin, .lst ds))) (hn : ds.length = n) : chk i n ρ bad k = k ds := by
  unfold chk
  rw [h]
  simp only [if_pos hn]
theorem lcP_all (i j : Nat) (hij : i ≠ j) (ρ0 : En) (all : List α) (hp : ρ0[i]? = some (some (.pin, .lst (all.map u)))) (fe : M Rv) : ∀ (as pre : List α) (acc : List D) (x : Option (Kd × D)), all = pre ++ as → (∀ a ∈ as, fe (ρ0.set j (some (.val, u a))) = .ok (.val (w a)) (ρ0.set j (some (.val, u a)))) → acc.length + as.length ≤ sizeLine →
    ∃ y, dLcPL (gN j) dYes fe [j] i all.length as.length acc (ρ0.set j x) = .ok (acc ++ as.map w) (ρ0.set j y)
  | [], pre, acc, x, e, _, _ => by
    refine ⟨x, ?_⟩
    have hc : (wipeE (ρ0.set j x) [j])[i]? = some (some (.pin, .lst (all.map u))) := by
      simp only [wipeE, List.set_set]
      rw [List.getElem?_set_ne (Ne.symm hij), hp]
    show chk i all.length _ _ _ = _
    rw [chk_at hc (by simp)]
    simp
  | a :: as, pre, acc, x, e, h, hl => by
    have h1 := h a List.mem_cons_self
    obtain ⟨y, e2⟩ := lcP_all i j hij ρ0 all hp fe as (pre ++ [a]) (acc ++ [w a]) (some (.val, u a)) (by rw [e]; simp) (fun a' hd => h a' (List.mem_cons_of_mem _ hd)) (by simp at hl ⊢; omega)
    refine ⟨y, ?_⟩
    have hlt : acc.length < sizeLine := by simp at hl; omega
    have hc : (wipeE (ρ0.set j x) [j])[i]? = some (some (.pin, .lst (all.map u))) := by
      simp only [wipeE, List.set_set]
      rw [List.getElem?_set_ne (Ne.symm hij), hp]
    have hg : (all.map u)[all.length - (as.length + 1)]? = some (u a) := by
      have : all.length - (as.length + 1) = pre.length := by rw [e]; simp
      rw [this, e]
      simp
    show chk i all.length _ _ _ = _
    rw [chk_at hc (by simp), hg]
    simp only [gN, wipeE, List.set_set, dYes, h1, esc, if_pos hlt, e2]
    simp
theorem dLcO_all {i j : Nat} (hij : i ≠ j) {fe : M Rv} {ρ : En} (as : List α) (h1 : ρ[i]? = some (some (.own, .lst (as.map u)))) (h2 : ∀ a ∈ as, fe ((ρ.set i (some (.pin, .lst (as.map u)))).set j (some (.val, u a))) = .ok (.val (w a)) ((ρ.set i (some (.pin, .lst (as.map u)))).set j (some (.val, u a)))) (hl : as.length ≤ sizeLine) (hi : i < ρ.length) (hj : j < ρ.length) :
    dLcO i (gN j) dYes fe [j] ρ = .ok (.lst (as.map w)) (unpin i ((ρ.set i (some (.pin, .lst (as.map u)))).set j none)) := by
  have hp : (ρ.set i (some (.pin, .lst (as.map u))))[i]? = some (some (.pin, .lst (as.map u))) := List.getElem?_set_self hi
  have hj' : j < (ρ.set i (some (.pin, D.lst (as.map u)))).length := by simpa using hj
  have e0 : ρ.set i (some (.pin, D.lst (as.map u))) = (ρ.set i (some (.pin, D.lst (as.map u)))).set j ((ρ.set i (some (.pin, D.lst (as.map u))))[j]) := by simp
  obtain ⟨y, e⟩ := lcP_all u w i j hij _ as hp fe as [] [] _ rfl h2 (by simpa using hl)
  rw [← e0] at e
  unfold dLcO
  rw [h1]
  simp only [dLcP, List.length_map, e, List.nil_append, wipeE, List.set_set, Out.mapE]
theorem forP_all (i j : Nat) (hij : i ≠ j) (ρ0 : En) (all : List α) (hp : ρ0[i]? = some (some (.pin, .lst (all.map u)))) (body : SM) : ∀ (as pre : List α) (x : Option (Kd × D)), all = pre ++ as → (∀ a ∈ as, body (ρ0.set j (some (.val, u a))) = .nx (ρ0.set j (some (.val, u a)))) →
    ∃ y, dForP (gN j) body i all.length as.length (ρ0.set j x) = .nx (ρ0.set j y)
  | [], pre, x, e, _ => by
    refine ⟨x, ?_⟩
    have hc : (ρ0.set j x)[i]? = some (some (.pin, .lst (all.map u))) := by rw [List.getElem?_set_ne (Ne.symm hij), hp]
    show chk i all.length _ _ _ = _
    rw [chk_at hc (by simp)]
  | a :: as, pre, x, e, h => by
    have h1 := h a List.mem_cons_self
    obtain ⟨y, e2⟩ := forP_all i j hij ρ0 all hp body as (pre ++ [a]) (some (.val, u a)) (by rw [e]; simp) (fun a' hd => h a' (List.mem_cons_of_mem _ hd))
    refine ⟨y, ?_⟩
    have hc : (ρ0.set j x)[i]? = some (some (.pin, .lst (all.map u))) := by rw [List.getElem?_set_ne (Ne.symm hij), hp]
    have hg : (all.map u)[all.length - (as.length + 1)]? = some (u a) := by
      have : all.length - (as.length + 1) = pre.length := by rw [e]; simp
      rw [this, e]
      simp
    show chk i all.length _ _ _ = _
    rw [chk_at hc (by simp), hg]
    simp only [gN, List.set_set, h1, e2]
theorem dForO_all {i j : Nat} (hij : i ≠ j) {body : SM} {ρ : En} (as : List α) (h1 : ρ[i]? = some (some (.own, .lst (as.map u)))) (h2 : ∀ a ∈ as, body ((ρ.set i (some (.pin, .lst (as.map u)))).set j (some (.val, u a))) = .nx ((ρ.set i (some (.pin, .lst (as.map u)))).set j (some (.val, u a)))) (hi : i < ρ.length) (hj : j < ρ.length) :
    ∃ y, dForO i (gN j) body ρ = .nx (unpin i ((ρ.set i (some (.pin, .lst (as.map u)))).set j y)) := by
  have hp : (ρ.set i (some (.pin, .lst (as.map u))))[i]? = some (some (.pin, .lst (as.map u))) := List.getElem?_set_self hi
  have hj' : j < (ρ.set i (some (.pin, D.lst (as.map u)))).length := by simpa using hj
  have e0 : ρ.set i (some (.pin, D.lst (as.map u))) = (ρ.set i (some (.pin, D.lst (as.map u)))).set j ((ρ.set i (some (.pin, D.lst (as.map u))))[j]) := by simp
  obtain ⟨y, e⟩ := forP_all u i j hij _ as hp body as [] _ rfl h2
  rw [← e0] at e
  refine ⟨y, ?_⟩
  unfold dForO
  rw [h1]
  simp only [List.length_map, e, SOut.mapE]
end
end Pu
namespace Pu
open PySem PySem.Spec PyProof.Rows L2 My
/-! ### texts of trees with small numbers -/
def Bd (x : Int) : Prop := -(10 ^ 40) < x ∧ x < 10 ^ 40
theorem bd_log {x : Int} (h : Bd x) : x.natAbs.log2 < 1920 := by
  unfold Bd at h
  by_cases h0 : x.natAbs = 0
  · rw [h0]; decide
  · have h1 : x.natAbs < 2 ^ 200 := by
      have : (10 : Int) ^ 40 < 2 ^ 200 := by decide
      omega
    have := (Nat.log2_lt h0).mpr h1
    omega
def Tr.bd : Tr → Prop
  | .e => True
  | .n l v r => l.bd ∧ Bd v ∧ r.bd
theorem bd_put : ∀ (p : Pa) (t s : Tr), t.bd → s.bd → (t.put p s).bd
  | [], t, s, _, hs => by cases t <;> exact hs
  | b :: p, .e, s, _, _ => trivial
  | false :: p, .n l v r, s, h, hs => ⟨bd_put p l s h.1 hs, h.2.1, h.2.2⟩
  | true :: p, .n l v r, s, h, hs => ⟨h.1, h.2.1, bd_put p r s h.2.2 hs⟩
theorem bd_sub : ∀ (p : Pa) (t : Tr), t.bd → (t.sub p).bd
  | [], t, h => by rw [sub_nil']; exact h
  | b :: p, .e, _ => by rw [sub_e]; trivial
  | b :: p, .n l v r, h => by
    show ((if b then r else l).sub p).bd
    refine bd_sub p _ ?_
    cases b
    · exact h.1
    · exact h.2.2
theorem sz_put : ∀ (p : Pa) (t s : Tr), (t.put p s).size ≤ t.size + s.size
  | [], t, s => by
    have : t.put [] s = s := by cases t <;> rfl
    rw [this]; omega
  | b :: p, .e, s => by show 0 ≤ _; omega
  | false :: p, .n l v r, s => by have := sz_put p l s; simp [Tr.put, Tr.size]; omega
  | true :: p, .n l v r, s => by have := sz_put p r s; simp [Tr.put, Tr.size]; omega
theorem sz_sub : ∀ (p : Pa) (t : Tr), (t.sub p).size ≤ t.size
  | [], t => by rw [sub_nil']; omega
  | b :: p, .e => by rw [sub_e]; omega
  | b :: p, .n l v r => by
    show ((if b then r else l).sub p).size ≤ _
    have := sz_sub p (if b then r else l)
    cases b <;> simp [Tr.size] at this ⊢ <;> omega
theorem sz_join (l r : Tr) : (join l r).size ≤ l.size + r.size := by unfold join; split <;> omega
theorem bd_join {l r : Tr} (hl : l.bd) (hr : r.bd) : (join l r).bd := by unfold join; split <;> assumption
theorem cut_facts (t : Tr) (w : Pa) (h : t.bd) : (cutAt t w).bd ∧ (cutAt t w).size ≤ 2 * t.size := by
  unfold cutAt
  have h1 := bd_sub w t h
  have h2 := sz_sub w t
  cases hs : t.sub w with
  | e => exact ⟨h, by simp; omega⟩
  | n l v r =>
    rw [hs] at h1 h2
    have := sz_put w t (join l r)
    have := sz_join l r
    simp only [Tr.size] at h2
    exact ⟨bd_put w t _ h (bd_join h1.1 h1.2.2), by simp; omega⟩
theorem rep_facts (t : Tr) (o : Pa) (v : Int) (h : t.bd) (hv : Bd v) : (repAt t o v).bd ∧ (repAt t o v).size ≤ 2 * t.size := by
  unfold repAt
  have h1 := bd_sub o t h
  have h2 := sz_sub o t
  cases hs : t.sub o with
  | e => exact ⟨h, by simp; omega⟩
  | n l v0 r =>
    rw [hs] at h1 h2
    have := sz_put o t (.n l v r)
    simp only [Tr.size] at h2 this
    exact ⟨bd_put o t _ h ⟨h1.1, hv, h1.2.2⟩, by simp; omega⟩
theorem ed_facts (t : Tr) (k : Int) (x : Rs) (h : t.bd) (hk : Bd k) : (x.ed t k).bd ∧ (x.ed t k).size ≤ 4 * t.size + 1 := by
  cases x with
  | none => exact ⟨h, by simp [Rs.ed]; omega⟩
  | place w => exact ⟨h, by simp [Rs.ed]; omega⟩
  | plant => exact ⟨⟨trivial, hk, trivial⟩, by simp [Rs.ed, Tr.size]⟩
  | att w b =>
    have := sz_put (w ++ [b]) t (.n .e k .e)
    exact ⟨bd_put _ _ _ h ⟨trivial, hk, trivial⟩, by simp [Rs.ed, Tr.size] at this ⊢; omega⟩
  | cut w =>
    obtain ⟨a, b⟩ := cut_facts t w h
    exact ⟨a, by simp [Rs.ed]; omega⟩
  | rep o w =>
    have hv : Bd (t.sub w).val0 := by
      have := bd_sub w t h
      cases hs : t.sub w with
      | e => simp [Tr.val0, Bd]
      | n l v r => rw [hs] at this; exact this.2.1
    obtain ⟨a, b⟩ := rep_facts t o (t.sub w).val0 h hv
    obtain ⟨a2, b2⟩ := cut_facts _ w a
    exact ⟨a2, by simp [Rs.ed]; omega⟩
def Tr.toldP : Tr → PyData
  | .e => .none
  | .n l v r => .tuple [l.toldP, .int v, r.toldP]
theorem told_toP (t : Tr) : toP t.told = some t.toldP := by
  induction t with
  | e => rfl
  | n l v r il ir => simp [Tr.told, Tr.toldP, toP, toPs, il, ir]
theorem told_depth (t : Tr) : t.toldP.depth ≤ t.ht := by
  induction t with
  | e => simp [Tr.toldP, PyData.depth]
  | n l v r il ir => simp [Tr.toldP, PyData.depth, PyData.depthAll, Tr.ht]; omega
theorem told_show (t : Tr) (h : t.bd) : t.toldP.showable = true := by
  induction t with
  | e => rfl
  | n l v r il ir => simp [Tr.toldP, PyData.showable, PyData.showableAll, il h.1, ir h.2.2, bd_log h.2.1]
theorem str_len (s t : Str) : (s ++ t).length = s.length + t.length := by
  show (s.cps ++ t.cps).size = s.cps.size + t.cps.size
  simp
theorem shownT_n (l : Tr) (v : Int) (r : Tr) : (Tr.n l v r).toldP.shown = ((Str.ofString "(" ++ (l.toldP.shown ++ Str.ofString ", " ++ (Str.ofString (toString v) ++ Str.ofString ", " ++ r.toldP.shown))) ++ Str.ofString ")") := by
  simp [Tr.toldP, PyData.shown, PyData.shownAll, tupleText, Str.join]
theorem shownT_len (t : Tr) (h : t.bd) : t.toldP.shown.length ≤ 2000 * t.size + 4 := by
  induction t with
  | e => decide +kernel
  | n l v r il ir =>
    have e1 : (Str.ofString "(").length = 1 := by decide +kernel
    have e2 : (Str.ofString ", ").length = 2 := by decide +kernel
    have e3 : (Str.ofString ")").length = 1 := by decide +kernel
    have hv := int_text_len_1921 (bd_log h.2.1)
    have := il h.1
    have := ir h.2.2
    rw [shownT_n]
    simp only [str_len, e1, e2, e3, Tr.size]
    omega
theorem reprT_ok (t : Tr) (hb : t.bd) (hs : t.size ≤ 60) : ∃ z, reprD t.told = some (.str z) := by
  cases t with
  | e => exact ⟨_, rfl⟩
  | n l v r =>
    have a := told_toP (.n l v r)
    have b := told_show _ hb
    have c := told_depth (.n l v r)
    have d := shownT_len _ hb
    have hh := ht_le (.n l v r)
    have e : (Tr.n l v r).toldP.showable = true ∧ (Tr.n l v r).toldP.depth ≤ 60 ∧ (Tr.n l v r).toldP.shown.length ≤ sizeLine := ⟨b, by omega, by rw [szl']; omega⟩
    refine ⟨(Tr.n l v r).toldP.shown, ?_⟩
    unfold reprD
    split
    · rename_i h
      simp [Tr.told] at h
    · rw [if_pos (by rfl), a]
      simp only [if_pos e]
theorem reprX_told (t : Tr) (hb : t.bd) (hs : t.size ≤ 60) : ∃ z, reprX t.told = some (.str z) := by
  obtain ⟨z, hz⟩ := reprT_ok t hb hs
  exact ⟨z, by unfold reprX; rw [hz]⟩
/-! ### all results -/
def Rs.short : Rs → Prop
  | .none => True
  | .plant => True
  | .place w => w.length < 14
  | .att w _ => w.length < 14
  | .cut w => w.length < 14
  | .rep o w => o.length < 14 ∧ w.length < 14
def GR (t : Tr) (d : D) : Prop := ∃ x : Rs, d = x.d ∧ x.ok t ∧ x.short
def GL (t : Tr) (l : List D) : Prop := ∀ d ∈ l, GR t d
def Rs.at : Rs → Option Pa
  | .att w _ => Option.some w
  | .cut w => Option.some w
  | .rep _ w => Option.some w
  | _ => Option.none
theorem GL.app {t : Tr} {a b : List D} (h1 : GL t a) (h2 : GL t b) : GL t (a ++ b) := fun d hd => (List.mem_append.mp hd).elim (h1 d) (h2 d)
theorem GL.one {t : Tr} {d : D} (h : GR t d) : GL t [d] := fun e he => by
  have : e = d := by simpa using he
  rw [this]; exact h
theorem GL.nil {t : Tr} : GL t [] := fun e he => by cases he
theorem mul01 (x : D) (b : Bool) : mulD (.lst [x]) (.int (if b = true then 1 else 0)) = some (.lst (if b then [x] else [])) := by
  cases b <;> rfl
theorem ino_sub {t : Tr} {x : Pa × Int} (h : x ∈ t.ino []) : x.1.length < t.ht ∧ ∃ l r, t.sub x.1 = .n l x.2 r := by
  have h' := (ino_perm t []).mem_iff.mp h
  obtain ⟨s, l, r, e, hs⟩ := mem_sub t [] x h'
  rw [List.nil_append] at e
  exact ⟨pre_short h', l, r, by rw [e]; exact hs⟩
theorem res_turn {t : Tr} (ht : t.ht < 14) (hz : t.size < 100) (p : Pa) {l r : Tr} {v : Int} (hs : t.sub p = .n l v r) (hp : p.length < 14) (found : List D) (hg : GL t found) (hf : found.length < 1000000) (x4 x5 : Option (Kd × D)) :
    ∃ found' y4 y5, l0_law_all_results [some (.val, t.told), some (.val, .lst (plS (t.ino []))), some (.val, .lst found), some (.val, .str (pl p)), x4, x5] = .nx [some (.val, t.told), some (.val, .lst (plS (t.ino []))), some (.val, .lst found'), some (.val, .str (pl p)), y4, y5] ∧ GL t found' ∧ found'.length ≤ found.length + 3 + t.size ∧ (∀ d ∈ found, d ∈ found') ∧ ∀ x : Rs, x.ok t → x.at = some p → x.d ∈ found' := by
  have hd := down_ok t p
  rw [hs] at hd
  have hd' : fn_law_down [t.told, .str (pl p)] = .ok (.tup [l.told, .int v, r.told]) .non := hd
  have i0 := isN_told l
  have i2 := isN_told r
  have hlen : (t.ino []).length = t.size := by rw [(ino_perm t []).length_eq, pre_len]
  have gl : l.isE = true → GR t (.tup [.str "attach", .str (pl p), .str "left"]) := fun h => ⟨.att p false, rfl, ⟨by omega, l, v, r, hs, by
    cases l with
    | e => rfl
    | n _ _ _ => cases h⟩, hp⟩
  have gr : r.isE = true → GR t (.tup [.str "attach", .str (pl p), .str "right"]) := fun h => ⟨.att p true, rfl, ⟨by omega, l, v, r, hs, by
    cases r with
    | e => rfl
    | n _ _ _ => cases h⟩, hp⟩
  have F1 : GL t (found ++ if l.isE then [.tup [.str "attach", .str (pl p), .str "left"]] else []) := hg.app (by
    cases h : l.isE
    · exact .nil
    · exact .one (gl h))
  have F2 : GL t ((found ++ if l.isE then [D.tup [.str "attach", .str (pl p), .str "left"]] else []) ++ if r.isE then [D.tup [.str "attach", .str (pl p), .str "right"]] else []) := F1.app (by
    cases h : r.isE
    · exact .nil
    · exact .one (gr h))
  have L1 : (found ++ if l.isE then [D.tup [.str "attach", .str (pl p), .str "left"]] else []).length ≤ found.length + 1 := by
    cases l.isE <;> simp
  have L2 : ((found ++ if l.isE then [D.tup [.str "attach", .str (pl p), .str "left"]] else []) ++ if r.isE then [D.tup [.str "attach", .str (pl p), .str "right"]] else []).length ≤ found.length + 2 := by
    cases l.isE <;> cases r.isE <;> simp
  have M1 : ∀ d ∈ found, d ∈ ((found ++ if l.isE then [D.tup [.str "attach", .str (pl p), .str "left"]] else []) ++ if r.isE then [D.tup [.str "attach", .str (pl p), .str "right"]] else []) := fun d hd => List.mem_append_left _ (List.mem_append_left _ hd)
  have M2 : l.isE = true → (Rs.att p false).d ∈ ((found ++ if l.isE then [D.tup [.str "attach", .str (pl p), .str "left"]] else []) ++ if r.isE then [D.tup [.str "attach", .str (pl p), .str "right"]] else []) := fun h => List.mem_append_left _ (List.mem_append_right _ (by rw [h]; exact List.mem_singleton.mpr rfl))
  have M3 : r.isE = true → (Rs.att p true).d ∈ ((found ++ if l.isE then [D.tup [.str "attach", .str (pl p), .str "left"]] else []) ++ if r.isE then [D.tup [.str "attach", .str (pl p), .str "right"]] else []) := fun h => List.mem_append_right _ (by rw [h]; exact List.mem_singleton.mpr rfl)
  have s1 : ∀ q : List D, q.length < 2000000 → dSet 2 (d2 addD (dVar 2) (d2 mulD (dLst (dCons (dTup (dCons (dC (.str "attach")) (dCons (dVar 3) (dCons (dC (.str "left")) dNil)))) dNil)) (dN (one1 intD) (dCons (d2 (isN false) (d2 ixD (dVar 4) (dC (.int 0))) (dC .non)) dNil)))) [some (.val, t.told), some (.val, .lst (plS (t.ino []))), some (.val, .lst q), some (.val, .str (pl p)), some (.val, .tup [l.told, .int v, r.told]), x5] = .nx [some (.val, t.told), some (.val, .lst (plS (t.ino []))), some (.val, .lst (q ++ if l.isE then [.tup [.str "attach", .str (pl p), .str "left"]] else [])), some (.val, .str (pl p)), some (.val, .tup [l.told, .int v, r.told]), x5] := by
    intro q hq
    have hm := mul01 (.tup [.str "attach", .str (pl p), .str "left"]) l.isE
    have hb : q.length + (if l.isE then [D.tup [.str "attach", .str (pl p), .str "left"]] else []).length ≤ 16777216 := by cases l.isE <;> simp <;> omega
    simp [ixT0, i0, hm, szl', hb, -isN_u]
  have s2 : ∀ q : List D, q.length < 2000000 → dSet 2 (d2 addD (dVar 2) (d2 mulD (dLst (dCons (dTup (dCons (dC (.str "attach")) (dCons (dVar 3) (dCons (dC (.str "right")) dNil)))) dNil)) (dN (one1 intD) (dCons (d2 (isN false) (d2 ixD (dVar 4) (dC (.int 2))) (dC .non)) dNil)))) [some (.val, t.told), some (.val, .lst (plS (t.ino []))), some (.val, .lst q), some (.val, .str (pl p)), some (.val, .tup [l.told, .int v, r.told]), x5] = .nx [some (.val, t.told), some (.val, .lst (plS (t.ino []))), some (.val, .lst (q ++ if r.isE then [.tup [.str "attach", .str (pl p), .str "right"]] else [])), some (.val, .str (pl p)), some (.val, .tup [l.told, .int v, r.told]), x5] := by
    intro q hq
    have hm := mul01 (.tup [.str "attach", .str (pl p), .str "right"]) r.isE
    have hb : q.length + (if r.isE then [D.tup [.str "attach", .str (pl p), .str "right"]] else []).length ≤ 16777216 := by cases r.isE <;> simp <;> omega
    simp [ixT2, i2, hm, szl', hb, -isN_u]
  generalize hq1 : (found ++ if l.isE then [D.tup [.str "attach", .str (pl p), .str "left"]] else []) = q1 at *
  generalize hq2 : (q1 ++ if r.isE then [D.tup [.str "attach", .str (pl p), .str "right"]] else []) = q2 at *
  have k1 := s1 found (by omega)
  rw [hq1] at k1
  have k2 := s2 q1 (by omega)
  rw [hq2] at k2
  have s0 : dSet 4 (dCall true none 2 [] fn_law_down (dCons (dVar 0) (dCons (dVar 3) dNil))) [some (.val, t.told), some (.val, .lst (plS (t.ino []))), some (.val, .lst found), some (.val, .str (pl p)), x4, x5] = .nx [some (.val, t.told), some (.val, .lst (plS (t.ino []))), some (.val, .lst found), some (.val, .str (pl p)), some (.val, .tup [l.told, .int v, r.told]), x5] := by
    simp [hd']
  have okA : ∀ b, (Rs.att p b).ok t → (Rs.att p b).d ∈ q2 := fun b h => by
    obtain ⟨_, l', v', r', hs', hc'⟩ := h
    rw [hs] at hs'
    cases hs'
    cases b
    · exact M2 (isE_e (by simpa using hc'))
    · exact M3 (isE_e (by simpa using hc'))
  by_cases hc : l.isE = true ∨ r.isE = true
  · have hcut : GR t (.tup [.str "cut", .str (pl p)]) := ⟨.cut p, rfl, ⟨by omega, l, v, r, hs, by
      rcases hc with h | h
      · left
        cases l with
        | e => rfl
        | n _ _ _ => cases h
      · right
        cases r with
        | e => rfl
        | n _ _ _ => cases h⟩, hp⟩
    have hrep : GL t ((t.ino []).map fun x => .tup [.str "replace", .str (pl x.1), .str (pl p)]) := fun d hd => by
      obtain ⟨x, hx, rfl⟩ := List.mem_map.mp hd
      obtain ⟨h1, l0, r0, h2⟩ := ino_sub hx
      refine ⟨.rep x.1 p, rfl, ⟨by omega, by omega, ⟨l0, x.2, r0, h2⟩, l, v, r, hs, ?_⟩, by omega, hp⟩
      rcases hc with h | h
      · left
        cases l with
        | e => rfl
        | n _ _ _ => cases h
      · right
        cases r with
        | e => rfl
        | n _ _ _ => cases h
    have hlc := dLc_all (fun x : Pa × Int => D.str (pl x.1)) (fun x => .tup [.str "replace", .str (pl x.1), .str (pl p)]) (i := 5) (fi := dItA (dVar 1)) (fe := dTup (dCons (dC (.str "replace")) (dCons (dVar 5) (dCons (dVar 3) dNil)))) (ρ := [some (.val, t.told), some (.val, .lst (plS (t.ino []))), some (.val, .lst q2), some (.val, .str (pl p)), some (.val, .tup [l.told, .int v, r.told]), x5]) (ρ1 := [some (.val, t.told), some (.val, .lst (plS (t.ino []))), some (.val, .lst q2), some (.val, .str (pl p)), some (.val, .tup [l.told, .int v, r.told]), x5]) (t.ino []) (by simp [plS]) (fun a _ => by simp [szl']) (by rw [hlen, szl']; omega) (by simp)
    simp only [List.set] at hlc
    have hb1 : q2.length + 1 ≤ 16777216 := by omega
    have hb2 : q2.length + 1 + (t.ino []).length ≤ 16777216 := by omega
    refine ⟨q2 ++ [.tup [.str "cut", .str (pl p)]] ++ (t.ino []).map fun x => .tup [.str "replace", .str (pl x.1), .str (pl p)], some (.val, .tup [l.told, .int v, r.told]), none, ?_, (F2.app (.one hcut)).app hrep, by simp [hlen]; omega, fun d hd => List.mem_append_left _ (List.mem_append_left _ (M1 d hd)), fun x hx hat => ?_⟩
    rotate_left
    · cases x with
      | none => cases hat
      | plant => cases hat
      | place w => cases hat
      | att w b => cases hat; exact List.mem_append_left _ (List.mem_append_left _ (okA b hx))
      | cut w => cases hat; exact List.mem_append_left _ (List.mem_append_right _ (List.mem_singleton.mpr rfl))
      | rep o w =>
        cases hat
        obtain ⟨_, _, ⟨l0, v0, r0, ho⟩, _⟩ := hx
        have hm := (ino_perm t []).mem_iff.mpr (sub_mem t o [] l0 v0 r0 ho)
        refine List.mem_append_right _ (List.mem_map.mpr ⟨([] ++ o, v0), hm, ?_⟩)
        simp [Rs.d]
    unfold l0_law_all_results
    refine seq_go s0 ?_
    refine seq_go k1 ?_
    refine seq_go k2 ?_
    rcases hc with h | h
    · rw [h] at i0
      simp [ixT0, ixT2, i0, i2, hlc, szl', hb1, hb2, -isN_u, -dLc_e]
    · rw [h] at i2
      cases h0 : l.isE <;> rw [h0] at i0 <;> simp [ixT0, ixT2, i0, i2, hlc, szl', hb1, hb2, -isN_u, -dLc_e]
  · have h0 : l.isE = false := by cases h : l.isE <;> simp [h] at hc ⊢
    have h2 : r.isE = false := by cases h : r.isE <;> simp [h] at hc ⊢
    refine ⟨q2, some (.val, .tup [l.told, .int v, r.told]), x5, ?_, F2, by omega, M1, fun x hx hat => ?_⟩
    rotate_left
    · have no : ∀ w, w = p → ¬ ∃ l' v' r', t.sub w = .n l' v' r' ∧ (l' = .e ∨ r' = .e) := fun w e ⟨l', v', r', h1, h3⟩ => by
        rw [e, hs] at h1
        cases h1
        rcases h3 with h3 | h3
        · rw [isE_e h3] at h0; cases h0
        · rw [isE_e h3] at h2; cases h2
      cases x with
      | none => cases hat
      | plant => cases hat
      | place w => cases hat
      | att w b => cases hat; exact okA b hx
      | cut w => cases hat; exact absurd hx.2 (no _ rfl)
      | rep o w => cases hat; exact absurd hx.2.2.2 (no _ rfl)
    unfold l0_law_all_results
    refine seq_go s0 ?_
    refine seq_go k1 ?_
    refine seq_go k2 ?_
    rw [h0] at i0
    rw [h2] at i2
    simp [ixT0, ixT2, i0, i2, -isN_u]
theorem res_loop {t : Tr} (ht : t.ht < 14) (hz : t.size < 100) : ∀ (xs : List (Pa × Int)) (found : List D) (x3 x4 x5 : Option (Kd × D)), (∀ x ∈ xs, x ∈ t.ino []) → GL t found → found.length + xs.length * 103 < 1000000 →
    ∃ found' y3 y4 y5, dForL (gN 3) l0_law_all_results (plS xs) [some (.val, t.told), some (.val, .lst (plS (t.ino []))), some (.val, .lst found), x3, x4, x5] = .nx [some (.val, t.told), some (.val, .lst (plS (t.ino []))), some (.val, .lst found'), y3, y4, y5] ∧ GL t found' ∧ found'.length ≤ found.length + xs.length * 103 ∧ (∀ d ∈ found, d ∈ found') ∧ ∀ x : Rs, x.ok t → ∀ y ∈ xs, x.at = some y.1 → x.d ∈ found'
  | [], found, x3, x4, x5, _, hg, _ => ⟨found, x3, x4, x5, rfl, hg, by simp, fun d hd => hd, fun x _ y hy => by cases hy⟩
  | x :: xs, found, x3, x4, x5, hm, hg, hl => by
    simp only [List.length_cons] at hl
    obtain ⟨h1, l, r, hs⟩ := ino_sub (hm x List.mem_cons_self)
    obtain ⟨f1, y4, y5, e1, g1, l1, c1, c2⟩ := res_turn ht hz x.1 hs (by omega) found hg (by omega) x4 x5
    obtain ⟨f2, z3, z4, z5, e2, g2, l2, c3, c4⟩ := res_loop ht hz xs f1 (some (.val, .str (pl x.1))) y4 y5 (fun y hy => hm y (List.mem_cons_of_mem _ hy)) g1 (by omega)
    refine ⟨f2, z3, z4, z5, ?_, g2, by simp; omega, fun d hd => c3 d (c1 d hd), fun y hy z hz hat => ?_⟩
    rotate_left
    · rcases List.mem_cons.mp hz with rfl | hz
      · exact c3 _ (c2 y hy hat)
      · exact c4 y hy z hz hat
    show dForL _ _ (.str (pl x.1) :: plS xs) _ = _
    rw [forL_nx (ρ1 := [some (.val, t.told), some (.val, .lst (plS (t.ino []))), some (.val, .lst found), some (.val, .str (pl x.1)), x4, x5]) rfl e1]
    exact e2
theorem results_ok (t : Tr) (ht : t.ht < 14) (hz : t.size < 100) : ∃ L, fn_law_all_results [t.told] = .ok (.lst L) .non ∧ GL t L ∧ L.length < 20000 ∧ ∀ x : Rs, x.ok t → x.d ∈ L := by
  have hsp := lspots_ok t 16 [] (by rw [sub_nil']; omega) (by rw [sub_nil']; simp; omega) (by rw [sub_nil']; omega)
  rw [sub_nil', ← pl_nil] at hsp
  have hlen : (t.ino []).length = t.size := by rw [(ino_perm t []).length_eq, pre_len]
  have hlc := dLc_all (fun x : Pa × Int => D.str (pl x.1)) (fun x => .tup [.str "place", .str (pl x.1)]) (i := 3) (fi := dItA (dVar 1)) (fe := dTup (dCons (dC (.str "place")) (dCons (dVar 3) dNil))) (ρ := [some (.val, t.told), some (.val, .lst (plS (t.ino []))), none, none, none, none]) (ρ1 := [some (.val, t.told), some (.val, .lst (plS (t.ino []))), none, none, none, none]) (t.ino []) (by simp [plS]) (fun a _ => by simp [szl']) (by rw [hlen, szl']; omega) (by simp)
  simp only [List.set] at hlc
  have hm := mul01 (.tup [.str "plant"]) t.isE
  have i0 := isN_told t
  have g0 : GL t ([.tup [.str "none"]] ++ ((t.ino []).map fun x => .tup [.str "place", .str (pl x.1)]) ++ if t.isE then [.tup [.str "plant"]] else []) := by
    refine (GL.app (.one ⟨.none, rfl, trivial, trivial⟩) fun d hd => ?_).app ?_
    · obtain ⟨x, hx, rfl⟩ := List.mem_map.mp hd
      obtain ⟨h1, l0, r0, h2⟩ := ino_sub hx
      exact ⟨.place x.1, rfl, ⟨by rw [h2]; rfl, by omega⟩, show x.1.length < 14 by omega⟩
    · cases h : t.isE
      · exact .nil
      · refine .one ⟨.plant, rfl, ?_, trivial⟩
        show t = .e
        cases t with
        | e => rfl
        | n _ _ _ => cases h
  have hb : (1 : Nat) + (t.ino []).length ≤ 16777216 := by omega
  have hb2 : (1 : Nat) + (t.ino []).length + (if t.isE then [D.tup [.str "plant"]] else []).length ≤ 16777216 := by cases t.isE <;> simp <;> omega
  have hb3 : ([D.tup [.str "none"]] ++ ((t.ino []).map fun x => D.tup [.str "place", .str (pl x.1)]) ++ if t.isE then [D.tup [.str "plant"]] else []).length ≤ 102 := by cases t.isE <;> simp <;> omega
  have k0 : dSet 2 (d2 addD (d2 addD (dLst (dCons (dTup (dCons (dC (.str "none")) dNil)) dNil)) (dFr (dLc (dItA (dVar 1)) (gN 3) dYes (dTup (dCons (dC (.str "place")) (dCons (dVar 3) dNil))) [3]))) (d2 mulD (dLst (dCons (dTup (dCons (dC (.str "plant")) dNil)) dNil)) (dN (one1 intD) (dCons (d2 (isN false) (dVar 0) (dC .non)) dNil)))) [some (.val, t.told), some (.val, .lst (plS (t.ino []))), none, none, none, none] = .nx [some (.val, t.told), some (.val, .lst (plS (t.ino []))), some (.val, .lst ([.tup [.str "none"]] ++ ((t.ino []).map fun x => .tup [.str "place", .str (pl x.1)]) ++ if t.isE then [.tup [.str "plant"]] else [])), none, none, none] := by
    have hb4 : (t.ino []).length ≤ 16777215 := by omega
    have hb5 : (t.ino []).length ≤ 16777214 := by omega
    have hb6 : 1 + (t.ino []).length + 1 ≤ 16777216 := by omega
    have hb7 : (t.ino []).length + 1 + 1 ≤ 16777216 := by omega
    have hb8 : (t.ino []).length + 1 ≤ 16777215 := by omega
    cases h : t.isE <;> rw [h] at hm i0 hb2 <;> simp at hm hb2 <;> simp [hlc, hm, i0, szl', hb, hb2, hb4, hb5, hb6, hb7, hb8, -isN_u, -dLc_e]
  have C0 : ∀ x : Rs, x.ok t → x.at = none → x.d ∈ ([D.tup [.str "none"]] ++ ((t.ino []).map fun x => D.tup [.str "place", .str (pl x.1)]) ++ if t.isE then [D.tup [.str "plant"]] else []) := fun x hx hat => by
    cases x with
    | none => exact List.mem_append_left _ (List.mem_append_left _ (List.mem_singleton.mpr rfl))
    | plant => exact List.mem_append_right _ (by rw [isE_e (t := t) hx]; exact List.mem_singleton.mpr rfl)
    | place w =>
      obtain ⟨l, v, r, hs⟩ := not_isE hx.1
      have hm := (ino_perm t []).mem_iff.mpr (sub_mem t w [] l v r hs)
      exact List.mem_append_left _ (List.mem_append_right _ (List.mem_map.mpr ⟨([] ++ w, v), hm, by simp [Rs.d]⟩))
    | att w b => cases hat
    | cut w => cases hat
    | rep o w => cases hat
  generalize ([D.tup [.str "none"]] ++ ((t.ino []).map fun x => D.tup [.str "place", .str (pl x.1)]) ++ if t.isE then [D.tup [.str "plant"]] else []) = L0 at *
  obtain ⟨L, y3, y4, y5, e, hg, hl, c1, c2⟩ := res_loop ht hz (t.ino []) L0 none none none (fun x hx => hx) g0 (by omega)
  refine ⟨L, ?_, hg, by omega, fun x hx => ?_⟩
  rotate_left
  · cases hat : x.at with
    | none => exact c1 _ (C0 x hx hat)
    | some w =>
      have hs : ∃ l v r, t.sub w = .n l v r := by
        cases x with
        | none => cases hat
        | plant => cases hat
        | place w => cases hat
        | att u b => cases hat; obtain ⟨_, l, v, r, h, _⟩ := hx; exact ⟨l, v, r, h⟩
        | cut u => cases hat; obtain ⟨_, l, v, r, h, _⟩ := hx; exact ⟨l, v, r, h⟩
        | rep o u => cases hat; obtain ⟨_, _, _, l, v, r, h, _⟩ := hx; exact ⟨l, v, r, h⟩
      obtain ⟨l, v, r, hs⟩ := hs
      have hm := (ino_perm t []).mem_iff.mpr (sub_mem t w [] l v r hs)
      exact c2 x hx _ hm (by rw [hat]; simp)
  have key : b_law_all_results [some (.val, t.told), none, none, none, none, none] = .rt (.lst L) [some (.val, t.told), some (.val, .lst (plS (t.ino []))), some (.val, .lst L), y3, y4, y5] := by
    unfold b_law_all_results
    refine seq_go (ρ1 := [some (.val, t.told), some (.val, .lst (plS (t.ino []))), none, none, none, none]) (by simp [hsp]) ?_
    refine seq_go k0 ?_
    refine seq_go (for_go (by simp) e) ?_
    simp
  simp only [fn_law_all_results, runF, List.length_cons, List.length_nil, initE, initAt, kdAt, List.replicate]
  simp [key]
end Pu
namespace Pu
open PySem PySem.Spec PyProof.Rows L2 My
/-! ### rows of texts in a list -/
def Txts (d : D) : Prop := ∃ l : List Str, d = .tup (l.map .str) ∧ ∀ s ∈ l, PyData.strOk s = true
theorem GR.txts {t : Tr} {d : D} (h : GR t d) : Txts d := by
  obtain ⟨x, rfl, _, _⟩ := h
  cases x with
  | none => exact ⟨[Str.ofString "none"], rfl, fun s hs => by simp at hs; subst hs; exact strOk_of _⟩
  | plant => exact ⟨[Str.ofString "plant"], rfl, fun s hs => by simp at hs; subst hs; exact strOk_of _⟩
  | place w => exact ⟨[Str.ofString "place", pl w], rfl, fun s hs => by simp at hs; rcases hs with rfl | rfl <;> first | exact strOk_of _ | exact strOk_pl _⟩
  | att w b => exact ⟨[Str.ofString "attach", pl w, sideS b], rfl, fun s hs => by
      simp at hs
      rcases hs with rfl | rfl | rfl
      · exact strOk_of _
      · exact strOk_pl _
      · cases b <;> exact strOk_of _⟩
  | cut w => exact ⟨[Str.ofString "cut", pl w], rfl, fun s hs => by simp at hs; rcases hs with rfl | rfl <;> first | exact strOk_of _ | exact strOk_pl _⟩
  | rep o w => exact ⟨[Str.ofString "replace", pl o, pl w], rfl, fun s hs => by simp at hs; rcases hs with rfl | rfl | rfl <;> first | exact strOk_of _ | exact strOk_pl _⟩
theorem txts_shape : ∀ xs : List D, (∀ d ∈ xs, Txts d) → ∃ ps, toPs xs = some ps ∧ PyData.canLayAll0 ps = true ∧ PyData.depthAll ps ≤ 2 ∧ ps.length = xs.length
  | [], _ => ⟨[], rfl, rfl, by simp [PyData.depthAll], rfl⟩
  | d :: xs, h => by
    obtain ⟨ps, e, h1, h2, h3⟩ := txts_shape xs fun e he => h e (List.mem_cons_of_mem _ he)
    obtain ⟨l, rfl, hl⟩ := h d List.mem_cons_self
    obtain ⟨a1, a2⟩ := canLay_strs l hl
    refine ⟨.tuple (l.map .str) :: ps, by simp [toPs, toP, toPs_strs, e], ?_, ?_, by simp [h3]⟩
    · simp [PyData.canLayAll0, PyData.canLay0, a1, h1]
    · simp [PyData.depthAll, PyData.depth]; omega
theorem ne_txts (xs : List D) (h : ∀ d ∈ xs, Txts d) : neD (.lst xs) (.lst []) = some (.bl (!xs.isEmpty)) := by
  obtain ⟨ps, e, h1, h2, h3⟩ := txts_shape xs h
  have hs : SeqAt.shaped (.list ps) = true := by
    unfold SeqAt.shaped
    rw [Bool.and_eq_true]
    exact ⟨by rw [PyData.canLay0]; exact h1, by rw [decide_eq_true_eq, PyData.depth]; omega⟩
  have h0 : SeqAt.shaped (.list []) = true := by decide +kernel
  unfold neD eqB
  simp [scalD, toP, toPs, e, hs, h0]
  cases xs with
  | nil =>
    have : ps = [] := List.length_eq_zero_iff.mp h3
    subst this
    rfl
  | cons x xs =>
    cases ps with
    | nil => simp at h3
    | cons p ps => simp [PyData.eqv, PyData.eqvAll]
theorem neW_any (xs : List D) : neW (.lst xs) (.lst []) = some (.bl (!xs.isEmpty)) := by
  have h2 : SeqAt.shaped (.list []) = true := by decide +kernel
  cases xs with
  | nil =>
    have : neD (.lst []) (.lst []) = some (.bl false) := ne_cells []
    unfold neW
    rw [this]
    rfl
  | cons x xs =>
    have e : neD (.lst (x :: xs)) (.lst []) = none ∨ neD (.lst (x :: xs)) (.lst []) = some (.bl true) := by
      have hsc : scalD (.lst (x :: xs)) (.lst []) = false := rfl
      have h0 : toP (.lst []) = some (.list []) := rfl
      cases h : toPs (x :: xs) with
      | none =>
        left
        have hP : toP (.lst (x :: xs)) = none := by rw [toP, h]; rfl
        unfold neD eqB
        rw [hsc, hP]
        rfl
      | some ps =>
        have hP : toP (.lst (x :: xs)) = some (.list ps) := by rw [toP, h]; rfl
        obtain ⟨q, qs, rfl⟩ : ∃ q qs, ps = q :: qs := by
          cases ps with
          | nil =>
            simp only [toPs] at h
            split at h <;> simp at h
          | cons q qs => exact ⟨q, qs, rfl⟩
        by_cases hs : SeqAt.shaped (.list (q :: qs)) = true
        · right
          unfold neD eqB
          rw [hsc, hP, h0]
          simp [hs, h2, PyData.eqv, PyData.eqvAll]
        · left
          have hs' : SeqAt.shaped (.list (q :: qs)) = false := by simpa using hs
          unfold neD eqB
          rw [hsc, hP, h0]
          simp [hs']
    rcases e with e | e
    · unfold neW
      rw [e]
      simp
    · unfold neW
      rw [e]
      rfl
theorem shuf_loop {cs : List Int} {P : D → Prop} (x1 : Option (Kd × D)) : ∀ (n f : Nat) (left found : List D) (k : Nat) (p : D), left.length = n → n < f → Pn cs k p → k + n < 5000000 → n < 100000 → found.length + n < 1000000 → (∀ d ∈ left, P d) → (∀ d ∈ found, P d) →
    ∃ p' found', dWh c0_law_shuffled l1_law_shuffled f [some (.pin, p), x1, some (.own, .lst left), some (.own, .lst found)] = .nx [some (.pin, p'), x1, some (.own, .lst []), some (.own, .lst found')] ∧ Pn cs (k + n) p' ∧ ∀ d ∈ found', P d
  | n, 0, left, found, k, p, _, h, _, _, _, _, _, _ => by omega
  | 0, f + 1, left, found, k, p, hl, _, hp, _, _, _, _, hf => by
    have : left = [] := List.length_eq_zero_iff.mp hl
    subst this
    refine ⟨p, found, ?_, hp, hf⟩
    have e := neW_any []
    rw [dWh_end (ρ1 := [some (.pin, p), x1, some (.own, .lst []), some (.own, .lst found)]) (by simp [c0_law_shuffled, e, szl'])]
  | n + 1, f + 1, left, found, k, p, hl, hf, hp, hk, hn, hfl, hL, hF => by
    have e := neW_any left
    have hne : left.isEmpty = false := by cases left with
      | nil => simp at hl
      | cons _ _ => rfl
    rw [hne] at e
    obtain ⟨v, p1, e1, q1, v1, v2⟩ := draw_P hp (by omega) left.length (by omega)
    have hv : v.toNat < left.length := by omega
    have hx : seqIndex? v left.length = some v.toNat := by
      unfold seqIndex?
      have h1 : ¬ v < 0 := by omega
      have h2 : v < (left.length : Int) := by omega
      first
      | simp [h1, h2, v1]
      | (simp [h1, h2, v1]; omega)
    have hg : left[v.toNat]? = some left[v.toNat] := List.getElem?_eq_getElem hv
    have hpop : popAtD (.lst left) [.int v] = some (left[v.toNat], .lst (left.eraseIdx v.toNat)) := by
      unfold popAtD
      have hb : -(2 ^ 63) ≤ v ∧ v < 2 ^ 63 := by omega
      simp only [if_pos hb, hx, hg]
    have hb : found.length < 16777216 := by omega
    have st : l1_law_shuffled [some (.pin, p), x1, some (.own, .lst left), some (.own, .lst found)] = .nx [some (.pin, p1), x1, some (.own, .lst (left.eraseIdx v.toNat)), some (.own, .lst (found ++ [left[v.toNat]]))] := by
      simp [l1_law_shuffled, dMut, e1, hpop, szl', hb]
    obtain ⟨p', found', e2, q2, g2⟩ := shuf_loop x1 n f (left.eraseIdx v.toNat) (found ++ [left[v.toNat]]) (k + 1) p1 (by rw [List.length_eraseIdx_of_lt hv]; omega) (by omega) q1 (by omega) (by omega) (by simp; omega) (fun d hd => hL d (List.mem_of_mem_eraseIdx hd)) (fun d hd => by
      rcases List.mem_append.mp hd with hd | hd
      · exact hF d hd
      · have : d = left[v.toNat] := by simpa using hd
        rw [this]; exact hL _ (List.getElem_mem hv))
    refine ⟨p', found', ?_, q2.mono (by omega), g2⟩
    rw [dWh_nx (ρ1 := [some (.pin, p), x1, some (.own, .lst left), some (.own, .lst found)]) (by simp [c0_law_shuffled, e, szl']) st]
    exact e2
theorem shuf_ok {cs : List Int} {P : D → Prop} {k : Nat} {p : D} (hp : Pn cs k p) (L : List D) (hL : ∀ d ∈ L, P d) (hl : L.length < 20000) (hk : k + 20000 < 5000000) :
    ∃ (M : List D) (p' : D), fn_law_shuffled [p, .lst L] = .ok (.lst M) p' ∧ Pn cs (k + 20000) p' ∧ ∀ d ∈ M, P d := by
  obtain ⟨p', M, e, q, g⟩ := shuf_loop (some (.val, .lst L)) L.length 100000 L [] k p rfl (by omega) hp (by omega) (by omega) (by simp; omega) hL (fun d hd => by cases hd)
  refine ⟨M, p', ?_, q.mono (by omega), g⟩
  have key : b_law_shuffled [some (.pin, p), some (.val, .lst L), none, none] = .rt (.lst M) [some (.pin, p'), some (.val, .lst L), some (.own, .lst []), some (.val, .lst M)] := by
    unfold b_law_shuffled
    refine seq_go (ρ1 := [some (.pin, p), some (.val, .lst L), some (.own, .lst L), some (.own, .lst [])]) (by simp [szl']) ?_
    refine seq_go (ρ1 := [some (.pin, p'), some (.val, .lst L), some (.own, .lst []), some (.own, .lst M)]) (by rw [dWhile_e]; exact e) ?_
    simp
  simp only [fn_law_shuffled, runF, List.length_cons, List.length_nil, initE, initAt, kdAt, List.replicate]
  simp [key]
/-! ### the values -/
theorem pow20 : powD (.int 10) (.int 20) = some (.int 100000000000000000000) := rfl
theorem pow30 : powD (.int 10) (.int 30) = some (.int 1000000000000000000000000000000) := rfl
theorem val_turn {cs : List Int} {k : Nat} {p : D} (h : Pn cs k p) (hk : k < 4000000) (x1 x4 : Option (Kd × D)) (x : Int) (found : List D) (hf : found.length < 100000) :
    ∃ p' y, x < y ∧ y ≤ x + 10 ^ 20 ∧ l0_law_values [some (.pin, p), x1, some (.val, .int x), some (.own, .lst found), x4] = .nx [some (.pin, p'), x1, some (.val, .int y), some (.own, .lst (found ++ [.int y])), x4] ∧ Pn cs (k + 2) p' := by
  obtain ⟨v, p1, e1, q1, v1, v2⟩ := draw_P h (by omega) 50 (by omega)
  obtain ⟨d, p2, hd, e2, q2⟩ := pick_P q1 (by omega) [.int 1, .int 2, .int 3, .int (1 + v), .int 100000000000000000000] ⟨by simp, by simp⟩
  obtain ⟨i, rfl, hi, hi2⟩ : ∃ i : Int, d = .int i ∧ 0 < i ∧ i ≤ 10 ^ 20 := by
    simp at hd
    rcases hd with rfl | rfl | rfl | rfl | rfl
    · exact ⟨1, rfl, by omega, by omega⟩
    · exact ⟨2, rfl, by omega, by omega⟩
    · exact ⟨3, rfl, by omega, by omega⟩
    · exact ⟨1 + v, rfl, by omega, by omega⟩
    · exact ⟨_, rfl, by omega, by omega⟩
  have b : found.length < 16777216 := by omega
  refine ⟨p2, x + i, by omega, by omega, ?_, q2⟩
  simp [l0_law_values, e1, e2, pow20, szl', b]
theorem vals_loop {cs : List Int} (x1 : Option (Kd × D)) : ∀ (ks : List D) (k : Nat) (p : D) (found : List Int) (x : Int) (x4 : Option (Kd × D)), Pn cs k p → k + 2 * ks.length < 4000000 → found.length + ks.length < 100000 → found.Pairwise (· < ·) → (∀ y ∈ found, y ≤ x) → (∀ y ∈ found, -(10 ^ 35) < y) → -(10 ^ 35) < x → x + ks.length * 10 ^ 20 < 10 ^ 35 →
    ∃ (p' : D) (ns : List Int) (y : Int) (y4 : Option (Kd × D)), dForL (gN 4) l0_law_values ks [some (.pin, p), x1, some (.val, .int x), some (.own, .lst (found.map .int)), x4] = .nx [some (.pin, p'), x1, some (.val, .int y), some (.own, .lst (ns.map .int)), y4] ∧ Pn cs (k + 2 * ks.length) p' ∧ ns.length = found.length + ks.length ∧ ns.Pairwise (· < ·) ∧ ∀ y ∈ ns, -(10 ^ 35) < y ∧ y < 10 ^ 35
  | [], k, p, found, x, x4, hp, _, _, ha, hb, hlo, hx, hc => ⟨p, found, x, x4, rfl, hp, by simp, ha, fun y hy => ⟨hlo y hy, by have := hb y hy; simp at hc; omega⟩⟩
  | d :: ks, k, p, found, x, x4, hp, h1, h2, ha, hb, hlo, hx, hc => by
    simp only [List.length_cons] at h1 h2 hc
    obtain ⟨p', y, hy, hy2, e, hp'⟩ := val_turn hp (by omega) x1 (some (.val, d)) x (found.map .int) (by simp; omega)
    have ha' : (found ++ [y]).Pairwise (· < ·) := by
      rw [List.pairwise_append]
      refine ⟨ha, by simp, fun a hm b hb' => ?_⟩
      have : b = y := by simpa using hb'
      have := hb a hm
      omega
    obtain ⟨p2, ns, y2, y4, e2, q1, q2, q3, q4⟩ := vals_loop x1 ks (k + 2) p' (found ++ [y]) y (some (.val, d)) hp' (by omega) (by simp; omega) ha' (fun z hz => by
      rcases List.mem_append.mp hz with hz | hz
      · have := hb z hz; omega
      · have : z = y := by simpa using hz
        omega) (fun z hz => by
      rcases List.mem_append.mp hz with hz | hz
      · exact hlo z hz
      · have : z = y := by simpa using hz
        omega) (by omega) (by push_cast at hc; omega)
    refine ⟨p2, ns, y2, y4, ?_, q1.mono (by simp; omega), by rw [q2]; simp; omega, q3, q4⟩
    rw [forL_nx (ρ1 := [some (.pin, p), x1, some (.val, .int x), some (.own, .lst (found.map .int)), some (.val, d)]) rfl e]
    have em : found.map D.int ++ [D.int y] = (found ++ [y]).map D.int := by simp
    rw [em]
    exact e2
def firL : List D := [.int 0, .int (-5), .int 1000000000000000000000000000000, .int (-1000000000000000000000000000000), .int 100]
theorem firL_ok {d : D} (h : d ∈ firL) : ∃ i : Int, d = .int i ∧ -(10 ^ 30) ≤ i ∧ i ≤ 10 ^ 30 := by
  simp [firL] at h
  rcases h with rfl | rfl | rfl | rfl | rfl <;> exact ⟨_, rfl, by omega, by omega⟩
theorem values_ok {cs : List Int} {k : Nat} {p : D} (h : Pn cs k p) (many : Nat) (hm : many < 1000) (hk : k + 2 * many + 2 < 4000000) :
    ∃ (ns : List Int) (p' : D), fn_law_values [p, .int many] = .ok (.lst (ns.map .int)) p' ∧ Pn cs (k + 2 * many + 2) p' ∧ ns.length = many ∧ ns.Pairwise (· < ·) ∧ ∀ y ∈ ns, -(10 ^ 35) < y ∧ y < 10 ^ 35 := by
  obtain ⟨d, p1, hd, e1, q1⟩ := pick_P h (by omega) firL (by decide)
  obtain ⟨i, rfl, i1, i2⟩ := firL_ok hd
  obtain ⟨v, p2, e2, q2, v1, v2⟩ := draw_P q1 (by omega) 9 (by omega)
  obtain ⟨m, hmm⟩ : ∃ m : Int, (many : Int) = m := ⟨_, rfl⟩
  have hm1 : m.toNat = many := by omega
  obtain ⟨p3, ns, y, y4, e3, q3, q4, q5, q6⟩ := vals_loop (some (.val, .int m)) (rngD 0 many) (k + 1 + 1) p2 [] (i - v) none q2 (by rw [rngD_length]; omega) (by rw [rngD_length]; simp; omega) (by simp) (by simp) (by simp) (by omega) (by rw [rngD_length]; omega)
  rw [rngD_length] at q3 q4
  simp only [firL] at e1
  refine ⟨ns, p3, ?_, q3.mono (by omega), by simpa using q4, q5, q6⟩
  rw [hmm]
  have b1 : m < 4611686018427387904 := by omega
  have b2 : (-4611686018427387904 : Int) ≤ m := by omega
  simp only [List.map_nil] at e3
  have key : b_law_values [some (.pin, p), some (.val, .int m), none, none, none] = .rt (.lst (ns.map .int)) [some (.pin, p3), some (.val, .int m), some (.val, .int y), some (.val, .lst (ns.map .int)), y4] := by
    unfold b_law_values
    refine seq_go (ρ1 := [some (.pin, p2), some (.val, .int m), some (.val, .int (i - v)), some (.own, .lst []), none]) (by simp [e1, e2, pow30, szl']) ?_
    refine seq_go (for_go (by simp [hm1, b1, b2]) e3) ?_
    simp
  simp only [fn_law_values, runF, List.length_cons, List.length_nil, initE, initAt, kdAt, List.replicate]
  simp [key]
/-! ### the tree -/
theorem toPs_ints' (cs : List Int) : toPs (cs.map D.int) = some (cs.map PyData.int) := toPs_ints cs
theorem eq_cells (cs : List Int) : eqD (.lst (cs.map D.int)) (.lst []) = some (.bl cs.isEmpty) := by
  have h1 : SeqAt.shaped (.list (cs.map PyData.int)) = true := by
    unfold SeqAt.shaped
    rw [Bool.and_eq_true]
    refine ⟨by rw [PyData.canLay0]; exact canLay_ints cs, ?_⟩
    have := depth_ints cs
    rw [decide_eq_true_eq, PyData.depth]
    omega
  have h2 : SeqAt.shaped (.list []) = true := by decide +kernel
  unfold eqD eqB
  simp [scalD, toP, toPs_ints, toPs, h1, h2]
  cases cs <;> simp [PyData.eqv, PyData.eqvAll]
theorem ino_shift (t : Tr) : ∀ p q : Pa, (t.ino p).map (·.2) = (t.ino q).map (·.2) := by
  induction t with
  | e => intro p q; rfl
  | n l v r il ir => intro p q; simp [Tr.ino, il (p ++ [false]) (q ++ [false]), ir (p ++ [true]) (q ++ [true])]
theorem vals_n (l : Tr) (v : Int) (r : Tr) : (Tr.n l v r).vals = l.vals ++ v :: r.vals := by
  unfold Tr.vals
  simp [Tr.ino, ino_shift l ([] ++ [false]) [], ino_shift r ([] ++ [true]) [], ino_shift l [false] [], ino_shift r [true] []]
theorem vals_len (t : Tr) : t.vals.length = t.size := by
  unfold Tr.vals
  rw [List.length_map, (ino_perm t []).length_eq, pre_len]
theorem vals_bd (t : Tr) (h : ∀ y ∈ t.vals, Bd y) : t.bd := by
  induction t with
  | e => trivial
  | n l v r il ir =>
    rw [vals_n] at h
    exact ⟨il fun y hy => h y (List.mem_append_left _ hy), h v (List.mem_append_right _ List.mem_cons_self), ir fun y hy => h y (List.mem_append_right _ (List.mem_cons_of_mem _ hy))⟩
theorem grown_ok {cs : List Int} : ∀ (f : Nat) (ns : List Int) (k : Nat) (p : D), Pn cs k p → ns.length < f → ns.length < 1000 → k + ns.length < 4000000 →
    ∃ (t : Tr) (p' : D), fn_law_grown f [p, .lst (ns.map .int)] = .ok t.told p' ∧ Pn cs (k + ns.length) p' ∧ t.vals = ns
  | 0, ns, k, p, hp, hf, _, _ => by omega
  | f + 1, [], k, p, hp, hf, _, _ => by
    refine ⟨.e, p, ?_, hp, rfl⟩
    have e := eq_cells []
    simp only [List.map_nil] at e
    simp [fn_law_grown, b_law_grown, szl', e, Tr.told]
  | f + 1, x :: xs, k, p, hp, hf, h1, h2 => by
    have hlen : (((x :: xs).map D.int).length : Int) = ((x :: xs).length : Int) := by simp
    have hl0 : (0 : Int) < ((x :: xs).length : Int) := by simp
    generalize hns : x :: xs = ns at *
    have hne : ns.isEmpty = false := by subst hns; rfl
    obtain ⟨v, p1, e1, q1, a1, a2⟩ := draw_P hp (by omega) ns.length (by omega)
    have ec := eq_cells ns
    rw [hne] at ec
    have hlt : v.toNat < ns.length := by omega
    obtain ⟨tl, p4, e4, q4, w4⟩ := grown_ok f (ns.take v.toNat) (k + 1) p1 q1 (by rw [List.length_take]; omega) (by rw [List.length_take]; omega) (by rw [List.length_take]; omega)
    obtain ⟨tr, p5, e5, q5, w5⟩ := grown_ok f (ns.drop (v.toNat + 1)) _ p4 q4 (by rw [List.length_drop]; omega) (by rw [List.length_drop]; omega) (by rw [List.length_drop, List.length_take]; omega)
    refine ⟨.n tl ns[v.toNat] tr, p5, ?_, q5.mono (by rw [List.length_drop, List.length_take]; omega), ?_⟩
    · have c1 : cutL (ns.map D.int) none (some v) = (ns.map D.int).take v.toNat := cut_to _ _ a1
      have c2 : cutL (ns.map D.int) (some (v + 1)) none = (ns.map D.int).drop (v.toNat + 1) := by
        rw [cut_from _ _ (by omega)]
        have : (v + 1).toNat = v.toNat + 1 := by omega
        rw [this]
      have hat : ixD (.lst (ns.map D.int)) (.int v) = some (.int ns[v.toNat]) := by
        show atI _ _ = _
        rw [atI_pos _ _ a1]
        simp [List.getElem?_eq_getElem hlt]
      rw [List.map_take] at e4
      rw [List.map_drop] at e5
      have fin : ∃ ρ', b_law_grown (fn_law_grown f) [some (.pin, p), some (.val, .lst (ns.map .int)), none] = .rt (Tr.n tl ns[v.toNat] tr).told ρ' ∧ ρ'[0]? = some (some (.pin, p5)) := by
        unfold b_law_grown
        refine ⟨[some (.pin, p5), some (.val, .lst (ns.map .int)), some (.val, .int v)], ?_, rfl⟩
        refine seq_go (ρ1 := [some (.pin, p), some (.val, .lst (ns.map .int)), none]) (by simp [ec, szl']) ?_
        refine seq_go (ρ1 := [some (.pin, p1), some (.val, .lst (ns.map .int)), some (.val, .int v)]) (by simp [e1]) ?_
        simp [sliceD, c1, c2, e4, e5, hat, szl', Tr.told]
      obtain ⟨ρ', fin, fp⟩ := fin
      simp only [fn_law_grown, runF, List.length_cons, List.length_nil, initE, initAt, kdAt, List.replicate]
      simp [fin, fp]
    · rw [vals_n, w4, w5]
      rw [← List.drop_eq_getElem_cons hlt, List.take_append_drop]
end Pu
namespace Pu
open PySem PySem.Spec PyProof.Rows L2 My
/-! ### plain texts by a Bool -/
def plB (x : Str) : Bool := x.cps.toList.all (fun c => decide (32 ≤ c) && decide (c < 127) && c != 39 && c != 92 && c != 34) && decide (x.length < 20000)
theorem plS_of {x : Str} (h : plB x = true) : PlS x := by
  unfold plB at h
  rw [Bool.and_eq_true, List.all_eq_true] at h
  refine ⟨fun c hc => ?_, of_decide_eq_true h.2⟩
  have := h.1 c hc
  simp only [Bool.and_eq_true, decide_eq_true_eq, bne_iff_ne] at this
  exact ⟨this.1.1.1.1, this.1.1.1.2, this.1.1.2, this.1.2, this.2⟩
theorem plS_pl {p : Pa} (h : p.length < 20000) : PlS (pl p) := ⟨plain_pl p, by rw [pl_len]; exact h⟩
/-- other parts, by a Bool -/
def othB (q : PyData) : Bool := q.showable && decide (q.depth ≤ 3) && decide (q.shown.length < 30000) && (match q.shown.cps.toList with | c :: _ => c != 39 | [] => false)
theorem part_oth {d : D} {q : PyData} (h1 : ∀ x, d ≠ .str x) (h2 : toP d = some q ∨ (d = .dK [] ∧ q = .dict [])) (h : othB q = true) : Part d q := by
  unfold othB at h
  simp only [Bool.and_eq_true, decide_eq_true_eq] at h
  refine .oth h1 h2 h.1.1.1 h.1.1.2 h.1.2 ?_
  have h4 := h.2
  split at h4
  · rename_i c r e
    exact ⟨c, r, e, by simpa using h4⟩
  · cases h4
/-! ### what an odd result may be -/
/-- a part, and that it is no dict -/
def NoE (ds : List D) : Prop := ∀ d ∈ ds, d ≠ .dK []
inductive Cand : D → Prop
  | non {d : D} : isG gTupT [(Str.ofString "Tree", false)] d = some (.bl false) → Cand d
  | emp : Cand (.tup [])
  | hd {d : D} {q : PyData} : Part d q → (∀ x, d ≠ .str x) → d ≠ .dK [] → Cand (.tup [d])
  | tup {k : String} {ps : List D} {qs : List PyData} : Parts ps qs → PlS (Str.ofString k) → ps.length ≤ 5 → (NoE ps ∨ toEs ps = some qs ∧ toPs ps = none) → Cand (.tup (.str (Str.ofString k) :: ps))
/-- what its text is -/
theorem Cand.tups {r : D} (h : Cand r) : isG gTupT [(Str.ofString "Tree", false)] r = some (.bl false) ∨ ∃ ps qs, r = .tup ps ∧ Parts ps qs ∧ reprX r = some (.str (PyData.tuple qs).shown) ∧ isG gTupT [(Str.ofString "Tree", false)] r = some (.bl true) := by
  cases h with
  | non h => exact .inl h
  | emp => exact .inr ⟨[], [], rfl, .nil, reprX_parts .nil (by simp) (.inl fun d hd => by cases hd), rfl⟩
  | hd hp hx hE => exact .inr ⟨_, _, rfl, .cons hp .nil, reprX_parts (.cons hp .nil) (by simp) (.inl fun d hd => by rw [List.mem_singleton.mp hd]; exact hE), rfl⟩
  | @tup k ps qs hp hk hl hE =>
    refine .inr ⟨_, _, rfl, .cons (.str hk) hp, reprX_parts (.cons (.str hk) hp) (by simp; omega) ?_, rfl⟩
    rcases hE with hE | ⟨h1, h2⟩
    · exact .inl fun d hd => by
        rcases List.mem_cons.mp hd with rfl | hd
        · intro z; cases z
        · exact hE d hd
    · exact .inr ⟨by simp [toEs, toE, h1], by simp [toPs, toP, h2]⟩
theorem Rs.texts (x : Rs) (hs : x.short) : ∃ as : List Str, x.d = .tup (as.map .str) ∧ as ≠ [] ∧ as.length ≤ 5 ∧ ∀ s ∈ as, PlS s := by
  have k1 : PlS (Str.ofString "none") := plS_of (by decide +kernel)
  have k2 : PlS (Str.ofString "plant") := plS_of (by decide +kernel)
  have k3 : PlS (Str.ofString "place") := plS_of (by decide +kernel)
  have k4 : PlS (Str.ofString "attach") := plS_of (by decide +kernel)
  have k5 : PlS (Str.ofString "cut") := plS_of (by decide +kernel)
  have k6 : PlS (Str.ofString "replace") := plS_of (by decide +kernel)
  have k7 : PlS (Str.ofString "left") := plS_of (by decide +kernel)
  have k8 : PlS (Str.ofString "right") := plS_of (by decide +kernel)
  cases x with
  | none => exact ⟨[Str.ofString "none"], rfl, by simp, by simp, fun s h => by simp at h; subst h; exact k1⟩
  | plant => exact ⟨[Str.ofString "plant"], rfl, by simp, by simp, fun s h => by simp at h; subst h; exact k2⟩
  | place w =>
    have hw : w.length < 14 := hs
    exact ⟨[Str.ofString "place", pl w], rfl, by simp, by simp, fun s h => by simp at h; rcases h with rfl | rfl <;> first | exact k3 | exact plS_pl (by omega)⟩
  | att w b =>
    have hw : w.length < 14 := hs
    refine ⟨[Str.ofString "attach", pl w, sideS b], rfl, by simp, by simp, fun s h => ?_⟩
    simp at h
    rcases h with rfl | rfl | rfl
    · exact k4
    · exact plS_pl (by omega)
    · cases b
      · exact k7
      · exact k8
  | cut w =>
    have hw : w.length < 14 := hs
    exact ⟨[Str.ofString "cut", pl w], rfl, by simp, by simp, fun s h => by simp at h; rcases h with rfl | rfl <;> first | exact k5 | exact plS_pl (by omega)⟩
  | rep o w =>
    have hw : o.length < 14 ∧ w.length < 14 := hs
    refine ⟨[Str.ofString "replace", pl o, pl w], rfl, by simp, by simp, fun s h => ?_⟩
    simp at h
    rcases h with rfl | rfl | rfl
    · exact k6
    · exact plS_pl (by omega)
    · exact plS_pl (by omega)
theorem parts_strs : ∀ as : List Str, (∀ s ∈ as, PlS s) → Parts (as.map .str) (as.map .str)
  | [], _ => .nil
  | s :: as, h => .cons (.str (h s List.mem_cons_self)) (parts_strs as fun x hx => h x (List.mem_cons_of_mem _ hx))
theorem reprX_strs (as : List Str) (hl : as.length ≤ 5) (h : ∀ s ∈ as, PlS s) : reprX (.tup (as.map .str)) = some (.str (PyData.tuple (as.map .str)).shown) :=
  reprX_parts (parts_strs as h) (by simp; omega) (.inl fun d hd => by
    obtain ⟨s, _, rfl⟩ := List.mem_map.mp hd
    intro z; cases z)
/-! ### a comprehension with a condition -/
theorem lcL_if {α : Type} (u : α → D) (f : α → Bool) (i : Nat) (ρ0 : En) (ct : M Bool) : ∀ (as : List α) (acc : List D) (x : Option (Kd × D)), i < ρ0.length → (∀ a ∈ as, ct (ρ0.set i (some (.val, u a))) = .ok (f a) (ρ0.set i (some (.val, u a)))) → acc.length + as.length ≤ sizeLine →
    ∃ y, dLcL (gN i) ct (dVar i) [i] (as.map u) acc (ρ0.set i x) = .ok (acc ++ (as.filter f).map u) (ρ0.set i y)
  | [], acc, x, _, _, _ => ⟨x, by simp [dLcL]⟩
  | a :: as, acc, x, hi, h, hl => by
    have h1 := h a List.mem_cons_self
    simp only [List.length_cons] at hl
    have hv : dVar i (ρ0.set i (some (.val, u a))) = .ok (.val (u a)) (ρ0.set i (some (.val, u a))) := by
      unfold dVar
      rw [List.getElem?_set_self hi]
      rfl
    rw [List.map_cons]
    cases hf : f a with
    | true =>
      obtain ⟨y, e⟩ := lcL_if u f i ρ0 ct as (acc ++ [u a]) (some (.val, u a)) hi (fun a' hd => h a' (List.mem_cons_of_mem _ hd)) (by simp; omega)
      refine ⟨y, ?_⟩
      have hlt : acc.length < sizeLine := by omega
      rw [hf] at h1
      unfold dLcL
      simp only [gN, wipeE, List.set_set, h1, hv, esc, if_pos hlt]
      rw [e]
      simp [hf]
    | false =>
      obtain ⟨y, e⟩ := lcL_if u f i ρ0 ct as acc (some (.val, u a)) hi (fun a' hd => h a' (List.mem_cons_of_mem _ hd)) (by omega)
      refine ⟨y, ?_⟩
      rw [hf] at h1
      unfold dLcL
      simp only [gN, wipeE, List.set_set, h1]
      rw [e]
      simp [hf]
theorem dLc_if {i : Nat} {fi : M (List D)} {ct : M Bool} {ρ ρ1 : En} (as : List D) (f : D → Bool) (h1 : fi ρ = .ok as ρ1) (h2 : ∀ a ∈ as, ct (ρ1.set i (some (.val, a))) = .ok (f a) (ρ1.set i (some (.val, a)))) (hl : as.length ≤ sizeLine) (hi : i < ρ1.length) :
    dLc fi (gN i) ct (dVar i) [i] ρ = .ok (.lst (as.filter f)) (ρ1.set i none) := by
  have e0 : ρ1 = ρ1.set i (ρ1[i]) := by simp
  obtain ⟨y, e⟩ := lcL_if id f i ρ1 ct as [] (ρ1[i]) hi h2 (by simpa using hl)
  rw [← e0] at e
  simp only [List.map_id, List.nil_append] at e
  unfold dLc
  simp [h1, e, wipeE, List.set_set]
end Pu
namespace Pu
open PySem PySem.Spec PyProof.Rows L2 My
theorem ne_strs0 (l : List Str) (h : ∀ s ∈ l, PyData.strOk s = true) : neD (.lst (l.map .str)) (.lst []) = some (.bl (!l.isEmpty)) := by
  obtain ⟨h1, h2⟩ := canLay_strs l h
  have hs : SeqAt.shaped (.list (l.map .str)) = true := by
    unfold SeqAt.shaped
    rw [Bool.and_eq_true]
    exact ⟨by rw [PyData.canLay0]; exact h1, by rw [decide_eq_true_eq, PyData.depth]; omega⟩
  have h0 : SeqAt.shaped (.list []) = true := by decide +kernel
  have hsc : scalD (.lst (l.map .str)) (.lst []) = false := rfl
  have hP : toP (.lst (l.map .str)) = some (.list (l.map .str)) := by rw [toP, toPs_strs]; rfl
  have hP0 : toP (.lst []) = some (.list []) := rfl
  unfold neD eqB
  rw [hsc, hP, hP0]
  simp [hs, h0]
  cases l <;> simp [PyData.eqv, PyData.eqvAll]
/-- a part that may be an empty dict -/
def FP (d : D) (q : PyData) : Prop := Part d q ∧ (d ≠ .dK [] ∨ (d = .dK [] ∧ q = .dict []))
theorem fp_str {x : Str} (h : PlS x) : FP (.str x) (.str x) := ⟨.str h, .inl (by intro z; cases z)⟩
theorem hE1 {d : D} {q : PyData} (h : FP d q) : NoE [d] ∨ toEs [d] = some [q] ∧ toPs [d] = none := by
  rcases h.2 with h | ⟨rfl, rfl⟩
  · exact .inl fun e he => by rw [List.mem_singleton.mp he]; exact h
  · exact .inr ⟨rfl, rfl⟩
theorem hE2 {d : D} {q : PyData} {x : Str} (h : FP d q) : NoE [d, .str x] ∨ toEs [d, .str x] = some [q, .str x] ∧ toPs [d, .str x] = none := by
  rcases h.2 with h | ⟨rfl, rfl⟩
  · refine .inl fun e he => ?_
    rcases List.mem_cons.mp he with rfl | he
    · exact h
    · rw [List.mem_singleton.mp he]; intro z; cases z
  · exact .inr ⟨rfl, rfl⟩
theorem hE3 {d : D} {q : PyData} {x : Str} (h : FP d q) : NoE [.str x, d] ∨ toEs [.str x, d] = some [.str x, q] ∧ toPs [.str x, d] = none := by
  rcases h.2 with h | ⟨rfl, rfl⟩
  · refine .inl fun e he => ?_
    rcases List.mem_cons.mp he with rfl | he
    · intro z; cases z
    · rw [List.mem_singleton.mp he]; exact h
  · exact .inr ⟨rfl, rfl⟩
theorem hE0 {ps : List D} (h : ∀ d ∈ ps, d ≠ .dK []) : NoE ps := h
theorem part_lst1 (w : Pa) (hw : w.length < 100) : Part (.lst [.str (pl w)]) (.list [.str (pl w)]) := by
  have hb : (Str.ofString "[").cps.toList = [91] := by decide +kernel
  have hb2 : (Str.ofString "]").cps.toList = [93] := by decide +kernel
  have e : (PyData.list [.str (pl w)]).shown = (Str.ofString "[" ++ reprText (pl w)) ++ Str.ofString "]" := rfl
  have et : (PyData.list [.str (pl w)]).shown.cps.toList = 91 :: ((reprText (pl w)).cps.toList ++ [93]) := by
    rw [e, strA, strA, hb, hb2]
    rfl
  refine .oth (by intro x z; cases z) (.inl rfl) rfl (by simp [PyData.depth, PyData.depthAll]) ?_ ⟨91, _, et, by decide⟩
  have : (PyData.list [.str (pl w)]).shown.length = (PyData.list [.str (pl w)]).shown.cps.toList.length := by simp; rfl
  rw [this, et, reprText_plain (plain_pl w)]
  simp
  have h2 : (pl w).cps.size = w.length := pl_len w
  omega
def farL (w : Pa) : List D := [.str (pl (w ++ [false])), .str (pl (w ++ [true])), .str (pl (w ++ [false, true, false])), .str (Str.ofString "x"), .str (Str.ofString "L"), .str (Str.ofString " "), .non, .int 0, .bl true, .lst [], .dK [], .tup [.str (Str.ofString "l")], .lst [.str (Str.ofString "l")]]
theorem far_ok {w : Pa} (hw : w.length < 14) {d : D} (h : d ∈ farL w) : ∃ q, FP d q := by
  simp only [farL, List.mem_cons, List.not_mem_nil, or_false] at h
  rcases h with rfl | rfl | rfl | rfl | rfl | rfl | rfl | rfl | rfl | rfl | rfl | rfl | rfl
  · exact ⟨_, fp_str (plS_pl (by simp; omega))⟩
  · exact ⟨_, fp_str (plS_pl (by simp; omega))⟩
  · exact ⟨_, fp_str (plS_pl (by simp; omega))⟩
  · exact ⟨_, fp_str (plS_of (by decide +kernel))⟩
  · exact ⟨_, fp_str (plS_of (by decide +kernel))⟩
  · exact ⟨_, fp_str (plS_of (by decide +kernel))⟩
  · exact ⟨.none, part_oth (by intro x z; cases z) (.inl rfl) (by decide +kernel), .inl (by intro z; cases z)⟩
  · exact ⟨.int 0, part_oth (by intro x z; cases z) (.inl rfl) (by decide +kernel), .inl (by intro z; cases z)⟩
  · exact ⟨.bool true, part_oth (by intro x z; cases z) (.inl rfl) (by decide +kernel), .inl (by intro z; cases z)⟩
  · exact ⟨.list [], part_oth (by intro x z; cases z) (.inl rfl) (by decide +kernel), .inl (by intro z; cases z)⟩
  · exact ⟨.dict [], part_oth (by intro x z; cases z) (.inr ⟨rfl, rfl⟩) (by decide +kernel), .inr ⟨rfl, rfl⟩⟩
  · exact ⟨.tuple [.str (Str.ofString "l")], part_oth (by intro x z; cases z) (.inl rfl) (by decide +kernel), .inl (by intro z; cases z)⟩
  · exact ⟨.list [.str (Str.ofString "l")], part_oth (by intro x z; cases z) (.inl rfl) (by decide +kernel), .inl (by intro z; cases z)⟩
def sidL : List D := [.str (Str.ofString "left"), .str (Str.ofString "right"), .str (Str.ofString "l"), .str (Str.ofString "r"), .str (Str.ofString "up"), .non, .int 1, .lst [], .str (Str.ofString "")]
theorem sid_ok {d : D} (h : d ∈ sidL) : ∃ q, FP d q := by
  simp only [sidL, List.mem_cons, List.not_mem_nil, or_false] at h
  rcases h with rfl | rfl | rfl | rfl | rfl | rfl | rfl | rfl | rfl
  · exact ⟨_, fp_str (plS_of (by decide +kernel))⟩
  · exact ⟨_, fp_str (plS_of (by decide +kernel))⟩
  · exact ⟨_, fp_str (plS_of (by decide +kernel))⟩
  · exact ⟨_, fp_str (plS_of (by decide +kernel))⟩
  · exact ⟨_, fp_str (plS_of (by decide +kernel))⟩
  · exact ⟨.none, part_oth (by intro x z; cases z) (.inl rfl) (by decide +kernel), .inl (by intro z; cases z)⟩
  · exact ⟨.int 1, part_oth (by intro x z; cases z) (.inl rfl) (by decide +kernel), .inl (by intro z; cases z)⟩
  · exact ⟨.list [], part_oth (by intro x z; cases z) (.inl rfl) (by decide +kernel), .inl (by intro z; cases z)⟩
  · exact ⟨_, fp_str (plS_of (by decide +kernel))⟩
/-- the odd results of a place, a far one and a side -/
def oddA (w : Pa) (far side : D) : List D := [.tup [.str (Str.ofString "none"), .str (pl w)], .tup [], .non, .str (Str.ofString "none"), .int 5, .lst [.str (Str.ofString "none")], .dK [], .tup [.str (Str.ofString "place")], .tup [.str (Str.ofString "place"), far], .tup [.str (Str.ofString "place"), .str (pl w), .str (pl w)]]
def oddB (w : Pa) (far side : D) : List D := [.tup [.str (Str.ofString "attach"), .str (pl w)], .tup [.str (Str.ofString "attach"), far, .str (Str.ofString "left")], .tup [.str (Str.ofString "attach"), .str (pl w), side], .tup [.str (Str.ofString "attach"), .str (pl w), .str (Str.ofString "left"), .int 5]]
def oddC (w : Pa) (far side : D) : List D := [.tup [.str (Str.ofString "plant"), .str (pl w)], .tup [.str (Str.ofString "plant")], .tup [.str (Str.ofString "cut")], .tup [.str (Str.ofString "cut"), far], .tup [.str (Str.ofString "cut"), .str (pl w)], .lst [.str (Str.ofString "cut"), .str (pl w)]]
def oddD (w : Pa) : List D := [.tup [.str (Str.ofString "cut"), .lst [.str (pl w)]]]
def oddE (w : Pa) (far side : D) : List D := [.tup [.str (Str.ofString "replace"), .str (pl w)], .tup [.str (Str.ofString "replace"), far, .str (pl w)], .tup [.str (Str.ofString "replace"), .str (pl w), far], .tup [.str (Str.ofString "replace"), .str (pl w), .str (pl w)]]
def oddF (w : Pa) : List D := [.tup [.str (Str.ofString "node")], .tup [.str (Str.ofString "p")], .tup [.non], .tup [.lst []], .tup [.str (Str.ofString "turn"), .str (pl w)], .tup [.str (Str.ofString "attach"), .str (pl w), .str (Str.ofString "right")], .tup [.str (Str.ofString "NONE")]]
section
variable {w : Pa} {far side : D} {q q2 : PyData}
theorem noE_str (l : List Str) : NoE (l.map .str) := fun d hd => by
  obtain ⟨s, _, rfl⟩ := List.mem_map.mp hd
  intro z; cases z
theorem c_strs (k : String) (hk : plB (Str.ofString k) = true) (l : List Str) (hl : l.length ≤ 5) (h : ∀ s ∈ l, PlS s) : Cand (.tup (.str (Str.ofString k) :: l.map .str)) :=
  .tup (parts_strs l h) (plS_of hk) (by simpa using hl) (.inl (noE_str l))
theorem candA (hw : w.length < 14) (hf : FP far q) : ∀ d ∈ oddA w far side, Cand d := by
  have pw : PlS (pl w) := plS_pl (by omega)
  intro d hd
  simp only [oddA, List.mem_cons, List.not_mem_nil, or_false] at hd
  rcases hd with rfl | rfl | rfl | rfl | rfl | rfl | rfl | rfl | rfl | rfl
  · exact c_strs "none" (by decide +kernel) [pl w] (by simp) (fun s hs => by simp at hs; subst hs; exact pw)
  · exact .emp
  · exact .non rfl
  · exact .non rfl
  · exact .non rfl
  · exact .non rfl
  · exact .non rfl
  · exact c_strs "place" (by decide +kernel) [] (by simp) (fun s hs => by cases hs)
  · exact .tup (.cons hf.1 .nil) (plS_of (by decide +kernel)) (by simp) (hE1 hf)
  · exact c_strs "place" (by decide +kernel) [pl w, pl w] (by simp) (fun s hs => by simp at hs; subst hs; exact pw)
theorem candB (hw : w.length < 14) (hf : FP far q) (hs : FP side q2) : ∀ d ∈ oddB w far side, Cand d := by
  have pw : PlS (pl w) := plS_pl (by omega)
  have p5 : Part (.int 5) (.int 5) := part_oth (by intro x z; cases z) (.inl rfl) (by decide +kernel)
  have pL : PlS (Str.ofString "left") := plS_of (by decide +kernel)
  intro d hd
  simp only [oddB, List.mem_cons, List.not_mem_nil, or_false] at hd
  rcases hd with rfl | rfl | rfl | rfl
  · exact c_strs "attach" (by decide +kernel) [pl w] (by simp) (fun s hs => by simp at hs; subst hs; exact pw)
  · exact .tup (.cons hf.1 (.cons (.str pL) .nil)) (plS_of (by decide +kernel)) (by simp) (hE2 hf)
  · exact .tup (.cons (.str pw) (.cons hs.1 .nil)) (plS_of (by decide +kernel)) (by simp) (hE3 hs)
  · refine .tup (.cons (.str pw) (.cons (.str pL) (.cons p5 .nil))) (plS_of (by decide +kernel)) (by simp) (.inl fun d hd => ?_)
    simp at hd
    rcases hd with rfl | rfl | rfl <;> (intro z; cases z)
theorem candC (hw : w.length < 14) (hf : FP far q) : ∀ d ∈ oddC w far side, Cand d := by
  have pw : PlS (pl w) := plS_pl (by omega)
  intro d hd
  simp only [oddC, List.mem_cons, List.not_mem_nil, or_false] at hd
  rcases hd with rfl | rfl | rfl | rfl | rfl | rfl
  · exact c_strs "plant" (by decide +kernel) [pl w] (by simp) (fun s hs => by simp at hs; subst hs; exact pw)
  · exact c_strs "plant" (by decide +kernel) [] (by simp) (fun s hs => by cases hs)
  · exact c_strs "cut" (by decide +kernel) [] (by simp) (fun s hs => by cases hs)
  · exact .tup (.cons hf.1 .nil) (plS_of (by decide +kernel)) (by simp) (hE1 hf)
  · exact c_strs "cut" (by decide +kernel) [pl w] (by simp) (fun s hs => by simp at hs; subst hs; exact pw)
  · exact .non rfl
theorem candD (hw : w.length < 14) : ∀ d ∈ oddD w, Cand d := by
  intro d hd
  simp only [oddD, List.mem_cons, List.not_mem_nil, or_false] at hd
  subst hd
  exact .tup (.cons (part_lst1 w (by omega)) .nil) (plS_of (by decide +kernel)) (by simp) (.inl fun d hd => by rw [List.mem_singleton.mp hd]; intro z; cases z)
theorem candE (hw : w.length < 14) (hf : FP far q) : ∀ d ∈ oddE w far side, Cand d := by
  have pw : PlS (pl w) := plS_pl (by omega)
  intro d hd
  simp only [oddE, List.mem_cons, List.not_mem_nil, or_false] at hd
  rcases hd with rfl | rfl | rfl | rfl
  · exact c_strs "replace" (by decide +kernel) [pl w] (by simp) (fun s hs => by simp at hs; subst hs; exact pw)
  · exact .tup (.cons hf.1 (.cons (.str pw) .nil)) (plS_of (by decide +kernel)) (by simp) (hE2 hf)
  · exact .tup (.cons (.str pw) (.cons hf.1 .nil)) (plS_of (by decide +kernel)) (by simp) (hE3 hf)
  · exact c_strs "replace" (by decide +kernel) [pl w, pl w] (by simp) (fun s hs => by simp at hs; subst hs; exact pw)
theorem candF (hw : w.length < 14) : ∀ d ∈ oddF w, Cand d := by
  have pw : PlS (pl w) := plS_pl (by omega)
  have pR : PlS (Str.ofString "right") := plS_of (by decide +kernel)
  intro d hd
  simp only [oddF, List.mem_cons, List.not_mem_nil, or_false] at hd
  rcases hd with rfl | rfl | rfl | rfl | rfl | rfl | rfl
  · exact c_strs "node" (by decide +kernel) [] (by simp) (fun s hs => by cases hs)
  · exact c_strs "p" (by decide +kernel) [] (by simp) (fun s hs => by cases hs)
  · exact .hd (part_oth (q := .none) (by intro x z; cases z) (.inl rfl) (by decide +kernel)) (by intro x z; cases z) (by intro z; cases z)
  · exact .hd (part_oth (q := .list []) (by intro x z; cases z) (.inl rfl) (by decide +kernel)) (by intro x z; cases z) (by intro z; cases z)
  · exact c_strs "turn" (by decide +kernel) [pl w] (by simp) (fun s hs => by simp at hs; subst hs; exact pw)
  · exact c_strs "attach" (by decide +kernel) [pl w, Str.ofString "right"] (by simp) (fun s hs => by simp at hs; rcases hs with rfl | rfl <;> assumption)
  · exact c_strs "NONE" (by decide +kernel) [] (by simp) (fun s hs => by cases hs)
end
theorem odd_res {cs : List Int} {k : Nat} {p : D} (hp : Pn cs k p) (hk : k + 30000 < 4000000) (t : Tr) (ht : t.ht < 14) (hz : t.size < 100) :
    ∃ (M : List D) (p' : D), fn_law_odd_results [p, t.told] = .ok (.lst M) p' ∧ Pn cs (k + 20003) p' ∧ ∀ d ∈ M, Cand d := by
  have hsp := lspots_ok t 16 [] (by rw [sub_nil']; omega) (by rw [sub_nil']; simp; omega) (by rw [sub_nil']; omega)
  rw [sub_nil', ← pl_nil] at hsp
  have hlen : (t.ino []).length = t.size := by rw [(ino_perm t []).length_eq, pre_len]
  have hps : plS (t.ino []) = ((t.ino []).map fun x => pl x.1).map .str := by unfold plS; rw [List.map_map]; rfl
  have hne := ne_strs0 ((t.ino []).map fun x => pl x.1) (fun s hs => by
    obtain ⟨x, _, rfl⟩ := List.mem_map.mp hs
    exact strOk_pl _)
  rw [← hps] at hne
  have hplace : ∃ (w : Pa) (p1 : D), w.length < 14 ∧ Pn cs (k + 1) p1 ∧ dSet 3 (dIfE (dT2 neD (dVar 2) (dLst dNil)) (dCall true (some 0) 2 [] fn_law_pick (dCons (dVar 0) (dCons (dVar 2) dNil))) (dC (.str ""))) [some (.pin, p), some (.val, t.told), some (.val, .lst (plS (t.ino []))), none, none, none, none] = .nx [some (.pin, p1), some (.val, t.told), some (.val, .lst (plS (t.ino []))), some (.val, .str (pl w)), none, none, none] := by
    cases hi : t.ino [] with
    | nil =>
      rw [hi] at hne
      refine ⟨[], p, by simp, hp.mono (by omega), ?_⟩
      rw [← pl_nil]
      simp [hne, plS, szl']
      simp [plS] at hne
      simp [hne]
    | cons x xs =>
      rw [hi] at hne
      obtain ⟨d, p1, hd, e1, q1⟩ := pick_P hp (by omega) (plS (x :: xs)) ⟨by simp [plS], by have := hlen; rw [hi] at this; simp [plS] at this ⊢; omega⟩
      obtain ⟨y, hy, rfl⟩ := List.mem_map.mp hd
      have hy' : y ∈ t.ino [] := by rw [hi]; exact hy
      refine ⟨y.1, p1, by have := (ino_sub hy').1; omega, q1, ?_⟩
      simp at hne
      simp [hne, e1, szl']
  obtain ⟨w, p1, hw, q1, hset⟩ := hplace
  obtain ⟨far, p2, hfar, e2, q2⟩ := pick_P q1 (by omega) (farL w) ⟨by simp [farL], by simp [farL]⟩
  obtain ⟨qf, hf⟩ := far_ok hw hfar
  obtain ⟨side, p3, hside, e3, q3⟩ := pick_P q2 (by omega) sidL ⟨by simp [sidL], by simp [sidL]⟩
  obtain ⟨qs, hs⟩ := sid_ok hside
  obtain ⟨M, p4, e4, q4, hM⟩ := shuf_ok (P := Cand) q3 (((((oddA w far side ++ oddB w far side) ++ oddC w far side) ++ oddD w) ++ oddE w far side) ++ oddF w) (fun d hd => by
    rcases List.mem_append.mp hd with hd | hd
    · rcases List.mem_append.mp hd with hd | hd
      · rcases List.mem_append.mp hd with hd | hd
        · rcases List.mem_append.mp hd with hd | hd
          · rcases List.mem_append.mp hd with hd | hd
            · exact candA hw hf d hd
            · exact candB hw hf hs d hd
          · exact candC hw hf d hd
        · exact candD hw d hd
      · exact candE hw hf d hd
    · exact candF hw d hd) (by simp [oddA, oddB, oddC, oddD, oddE, oddF]) (by omega)
  refine ⟨M, p4, ?_, q4.mono (by omega), hM⟩
  have a1 : addD (.str (pl w)) (.str (Str.ofString "l")) = some (.str (pl (w ++ [false]))) := by rw [l_eq]; exact pl_snoc_side w false (by omega)
  have a2 : addD (.str (pl w)) (.str (Str.ofString "r")) = some (.str (pl (w ++ [true]))) := by rw [r_eq]; exact pl_snoc_side w true (by omega)
  have a3 : addD (.str (pl w)) (.str (Str.ofString "lrl")) = some (.str (pl (w ++ [false, true, false]))) := by
    have e : Str.ofString "lrl" = pl [false, true, false] := by decide +kernel
    rw [e]
    have b4 : (pl w).length + (pl [false, true, false]).length ≤ sizeLine := by rw [pl_len, pl_len, szl']; simp; omega
    show (if _ then _ else _) = _
    rw [if_pos b4]
    congr 2
    apply strS_eta
    rw [strA, pl_toList, pl_toList, pl_toList, List.map_append]
  simp only [farL] at e2
  simp only [sidL] at e3
  simp only [oddA, oddB, oddC, oddD, oddE, oddF, List.cons_append, List.nil_append] at e4
  have key : ∃ x6, b_law_odd_results [some (.pin, p), some (.val, t.told), none, none, none, none, none] = .rt (.lst M) [some (.pin, p4), some (.val, t.told), some (.val, .lst (plS (t.ino []))), some (.val, .str (pl w)), some (.val, far), some (.val, side), x6] := by
    refine ⟨some (.val, .lst (((((oddA w far side ++ oddB w far side) ++ oddC w far side) ++ oddD w) ++ oddE w far side) ++ oddF w)), ?_⟩
    unfold b_law_odd_results
    refine seq_go (ρ1 := [some (.pin, p), some (.val, t.told), some (.val, .lst (plS (t.ino []))), none, none, none, none]) (by simp [hsp]) ?_
    refine seq_go hset ?_
    refine seq_go (ρ1 := [some (.pin, p2), some (.val, t.told), some (.val, .lst (plS (t.ino []))), some (.val, .str (pl w)), some (.val, far), none, none]) (by simp [a1, a2, a3, e2, szl', -addD_u]) ?_
    refine seq_go (ρ1 := [some (.pin, p3), some (.val, t.told), some (.val, .lst (plS (t.ino []))), some (.val, .str (pl w)), some (.val, far), some (.val, side), none]) (by simp [e3, szl']) ?_
    refine seq_go (ρ1 := [some (.pin, p3), some (.val, t.told), some (.val, .lst (plS (t.ino []))), some (.val, .str (pl w)), some (.val, far), some (.val, side), some (.own, .lst (oddA w far side))]) (by simp [oddA, szl']) ?_
    refine seq_go (ρ1 := [some (.pin, p3), some (.val, t.told), some (.val, .lst (plS (t.ino []))), some (.val, .str (pl w)), some (.val, far), some (.val, side), some (.val, .lst (oddA w far side ++ oddB w far side))]) (by simp [oddA, oddB, szl']) ?_
    refine seq_go (ρ1 := [some (.pin, p3), some (.val, t.told), some (.val, .lst (plS (t.ino []))), some (.val, .str (pl w)), some (.val, far), some (.val, side), some (.own, .lst ((oddA w far side ++ oddB w far side) ++ oddC w far side))]) (by simp [oddA, oddB, oddC, catF, szl']) ?_
    refine seq_go (ρ1 := [some (.pin, p3), some (.val, t.told), some (.val, .lst (plS (t.ino []))), some (.val, .str (pl w)), some (.val, far), some (.val, side), some (.own, .lst (((oddA w far side ++ oddB w far side) ++ oddC w far side) ++ oddD w))]) (by simp [oddA, oddB, oddC, oddD, szl']) ?_
    refine seq_go (ρ1 := [some (.pin, p3), some (.val, t.told), some (.val, .lst (plS (t.ino []))), some (.val, .str (pl w)), some (.val, far), some (.val, side), some (.val, .lst ((((oddA w far side ++ oddB w far side) ++ oddC w far side) ++ oddD w) ++ oddE w far side))]) (by simp [oddA, oddB, oddC, oddD, oddE, szl']) ?_
    refine seq_go (ρ1 := [some (.pin, p3), some (.val, t.told), some (.val, .lst (plS (t.ino []))), some (.val, .str (pl w)), some (.val, far), some (.val, side), some (.val, .lst (((((oddA w far side ++ oddB w far side) ++ oddC w far side) ++ oddD w) ++ oddE w far side) ++ oddF w))]) (by simp [oddA, oddB, oddC, oddD, oddE, oddF, szl']) ?_
    simp [oddA, oddB, oddC, oddD, oddE, oddF, e4]
  obtain ⟨x6, key⟩ := key
  simp only [fn_law_odd_results, runF, List.length_cons, List.length_nil, initE, initAt, kdAt, List.replicate]
  simp [key]
end Pu
namespace Pu
open PySem PySem.Spec PyProof.Rows L2 My
def planD : D := .tup [.str (Str.ofString "plan"), .bl true]
def keyT : D := .tup [.str (Str.ofString "key"), .str (Str.ofString "a")]
def isF : Option D → Bool
  | some (.bl false) => true
  | _ => false
theorem isF_ok {o : Option D} (h : isF o = true) : o = some (.bl false) := by
  unfold isF at h
  split at h
  · rfl
  · cases h
theorem ne_plan : neD planD planD = some (.bl false) := isF_ok (by decide +kernel)
theorem ne_key : neD keyT keyT = some (.bl false) := isF_ok (by decide +kernel)
theorem ne_non : neD .non .non = some (.bl false) := isF_ok (by decide +kernel)
section
variable {t : Tr} {gs : List (Pa × Int)}
theorem fault_bad {r key : D} (h : fn_is_done [t.ins gs, r] = .ok (.bl false) .non) : fn_law_fault [t.ins gs, r, key] = .ok planD .non := by
  have ha : ∃ io, fn_applied [t.ins gs, r, key] = .ex "BadPlan" [] io := ⟨_, by simp [fn_applied, b_applied, h]; rfl⟩
  obtain ⟨io, ha⟩ := ha
  have c1 : caD (Str.ofString "BadPlan") (Str.ofString "BadPlan") = some true := by decide +kernel
  simp [fn_law_fault, b_law_fault, dTry, ha, catchD, suF, c1, gCons, gStr, gFld, gIs, gNil, planD, szl']
theorem fault_ok {r key d : D} (h : fn_applied [t.ins gs, r, key] = .ok d .non) : fn_law_fault [t.ins gs, r, key] = .ok .non .non := by
  simp [fn_law_fault, b_law_fault, dTry, h]
theorem fault_key {r key : D} {io : D} (h : fn_applied [t.ins gs, r, key] = .ex "NoKey" [("key", .str (Str.ofString "a"))] io) : fn_law_fault [t.ins gs, r, key] = .ok keyT .non := by
  have c0 : caD (Str.ofString "NoKey") (Str.ofString "BadPlan") = some false := by decide +kernel
  have c1 : caD (Str.ofString "NoKey") (Str.ofString "NoKey") = some true := by decide +kernel
  simp [fn_law_fault, b_law_fault, dTry, h, catchD, suF, c0, c1, gCons, gStr, gFld, gIs, gNil, keyT, szl', List.lookup]
theorem nokey_ok (hp : gs.Perm (t.pre [])) (x : Rs) (h : x.ok t) (hx : (∃ w b, x = .att w b) ∨ x = .plant) : ∃ io, fn_applied [t.ins gs, x.d, .non] = .ex "NoKey" [("key", .str (Str.ofString "a"))] io := by
  have hd := done_ok hp x h
  have f := fld_told t gs
  rcases hx with ⟨w, b, rfl⟩ | rfl
  · simp only [Rs.d] at hd ⊢
    exact ⟨_, by simp [fn_applied, b_applied, hd, f, eqSS, ixT0, inSS2, szl', -fldC_u]; rfl⟩
  · simp only [Rs.d] at hd ⊢
    exact ⟨_, by simp [fn_applied, b_applied, hd, f, eqSS, ixT0, inSS2, szl', -fldC_u]; rfl⟩
/-- a right one, or is_done says no -/
theorem cand_cases (hp : gs.Perm (t.pre [])) (ht : t.ht < 14) {r : D} (h : Cand r) : (∃ x : Rs, x.ok t ∧ x.d = r) ∨ fn_is_done [t.ins gs, r] = .ok (.bl false) .non := by
  cases h with
  | non h =>
    right
    simp [fn_is_done, b_is_done, h, -isG_u]
  | emp =>
    right
    simp [fn_is_done, b_is_done, gTupT, eqI, szl']
  | hd hp2 hx hE =>
    right
    rename_i d q
    rcases hp2.isStr with ⟨x, rfl, _⟩ | hs
    · exact absurd rfl (hx x)
    · have g1 : isG gTupT [(Str.ofString "Tree", false)] (.tup [d]) = some (.bl true) := rfl
      simp [fn_is_done, b_is_done, g1, eqI, ixT0, hs, -isG_u]
  | tup hps hk hl hE => exact done_or hp ht _ hps
/-- equal texts, equal results -/
def eqZ (z : Str) (one : D) : Bool := match reprX one with
  | some (.str z1) => decide (z1 = z)
  | _ => false
theorem right_repr {one : D} (h : GR t one) : ∃ as : List Str, one = .tup (as.map .str) ∧ as ≠ [] ∧ (∀ s ∈ as, PlS s) ∧ reprX one = some (.str (PyData.tuple (as.map .str)).shown) := by
  obtain ⟨y, rfl, _, hs⟩ := h
  obtain ⟨as, e, h1, h2, h3⟩ := y.texts hs
  exact ⟨as, e, h1, h3, by rw [e]; exact reprX_strs as h2 h3⟩
theorem fit_cases (hp : gs.Perm (t.pre [])) (ht : t.ht < 14) {L : List D} (hL : GL t L) (hC : ∀ x : Rs, x.ok t → x.d ∈ L) {r : D} (h : Cand r) {ps : List D} {qs : List PyData} (hr : r = .tup ps) (hps : Parts ps qs) (hz : reprX r = some (.str (PyData.tuple qs).shown)) :
    ((∃ x : Rs, x.ok t ∧ x.d = r) ∧ (L.filter (eqZ (PyData.tuple qs).shown)).isEmpty = false) ∨ (fn_is_done [t.ins gs, r] = .ok (.bl false) .non ∧ (L.filter (eqZ (PyData.tuple qs).shown)).isEmpty = true) := by
  rcases cand_cases hp ht h with ⟨x, hx, e⟩ | hd
  · refine .inl ⟨⟨x, hx, e⟩, ?_⟩
    have hm : x.d ∈ L.filter (eqZ (PyData.tuple qs).shown) := List.mem_filter.mpr ⟨hC x hx, by
      unfold eqZ
      rw [e, hz]
      simp⟩
    cases hf : L.filter (eqZ (PyData.tuple qs).shown) with
    | nil => rw [hf] at hm; cases hm
    | cons _ _ => rfl
  · refine .inr ⟨hd, ?_⟩
    have : L.filter (eqZ (PyData.tuple qs).shown) = [] := by
      rw [List.filter_eq_nil_iff]
      intro one ho hf
      obtain ⟨as, e, h1, h3, h4⟩ := right_repr (hL one ho)
      unfold eqZ at hf
      rw [h4] at hf
      have he : (PyData.tuple (as.map .str)).shown = (PyData.tuple qs).shown := of_decide_eq_true hf
      have hds := shown_inj h1 h3 hps he
      obtain ⟨y, ey, hy, _⟩ := hL one ho
      have : r = y.d := by rw [hr, hds, ← e, ey]
      have hdone := done_ok hp y hy
      rw [← this, hd] at hdone
      cases hdone
    rw [this]
    rfl
def rest12 : SM := dSeq (dSet 10 (dIfE (dB (dVar 8)) (dC .non) (dTup (dCons (dC (.str "plan")) (dCons (dC (.bl true)) dNil)))))
  (dSeq (dIf (dT2 neD (dCall true none 3 [] fn_law_fault (dCons (dVar 5) (dCons (dVar 7) (dCons (dC (.int 5)) dNil)))) (dVar 10))
  (dRet (dC (.bl false)))
  dNx)
  (dSeq (dIf (dAnd (dB (dVar 8)) (dT2 inD (d2 ixD (dVar 7) (dC (.int 0))) (dTup (dCons (dC (.str "attach")) (dCons (dC (.str "plant")) dNil)))))
  (dSet 10 (dTup (dCons (dC (.str "key")) (dCons (dC (.str "a")) dNil))))
  dNx)
  (dIf (dT2 neD (dCall true none 3 [] fn_law_fault (dCons (dVar 5) (dCons (dVar 7) (dCons (dC .non) dNil)))) (dVar 10))
  (dRet (dC (.bl false)))
  dNx)))
/-- one odd result -/
theorem odd_one (hp : gs.Perm (t.pre [])) (ht : t.ht < 14) {L : List D} (hL : GL t L) (hl : L.length < 20000) (hC : ∀ x : Rs, x.ok t → x.d ∈ L) {r : D} (h : Cand r) (x0 x1 x2 x3 x4 x8 x9 x10 : Option (Kd × D)) :
    ∃ y8 y9 y10, l0_law [x0, x1, x2, x3, x4, some (.val, t.ins gs), some (.val, .lst L), some (.val, r), x8, x9, x10] = .nx [x0, x1, x2, x3, x4, some (.val, t.ins gs), some (.val, .lst L), some (.val, r), y8, y9, y10] := by
  have p0 : planD = .tup [.str (Str.ofString "plan"), .bl true] := rfl
  have k0 : keyT = .tup [.str (Str.ofString "key"), .str (Str.ofString "a")] := rfl
  have np := ne_plan
  have nk := ne_key
  have nn := ne_non
  rw [p0] at np
  rw [k0] at nk
  -- what follows the fit
  have rest_no : ∀ y9 : Option (Kd × D), fn_is_done [t.ins gs, r] = .ok (.bl false) .non → ∀ g : En, g = [x0, x1, x2, x3, x4, some (.val, t.ins gs), some (.val, .lst L), some (.val, r), some (.val, .bl false), y9, x10] → ∃ y10, rest12 g = .nx [x0, x1, x2, x3, x4, some (.val, t.ins gs), some (.val, .lst L), some (.val, r), some (.val, .bl false), y9, y10] := by
    intro y9 hd g hg
    subst hg
    have f1 := fault_bad (key := .int 5) hd
    have f2 := fault_bad (key := .non) hd
    rw [p0] at f1 f2
    exact ⟨some (.val, .tup [.str (Str.ofString "plan"), .bl true]), by simp [rest12, f1, f2, np, szl']⟩
  have rest_yes : ∀ y9 : Option (Kd × D), ∀ x : Rs, x.ok t → x.d = r → ∀ g : En, g = [x0, x1, x2, x3, x4, some (.val, t.ins gs), some (.val, .lst L), some (.val, r), some (.val, .bl true), y9, x10] → ∃ y10, rest12 g = .nx [x0, x1, x2, x3, x4, some (.val, t.ins gs), some (.val, .lst L), some (.val, r), some (.val, .bl true), y9, y10] := by
    intro y9 x hx e g hg
    subst hg
    subst e
    have f1 := fault_ok (applied_ok hp x hx 5)
    by_cases hk : (∃ w b, x = .att w b) ∨ x = .plant
    · obtain ⟨io, hn⟩ := nokey_ok hp x hx hk
      have f2 := fault_key hn
      rw [k0] at f2
      refine ⟨some (.val, .tup [.str (Str.ofString "key"), .str (Str.ofString "a")]), ?_⟩
      rcases hk with ⟨w, b, rfl⟩ | rfl
      · simp only [Rs.d] at f1 f2 ⊢
        simp [rest12, f1, f2, nk, nn, ixT0, inSS2, szl']
      · simp only [Rs.d] at f1 f2 ⊢
        simp [rest12, f1, f2, nk, nn, ixT0, inSS2, szl']
    · have hk1 : ∀ w b, x ≠ .att w b := fun w b z => hk (.inl ⟨w, b, z⟩)
      have hk2 : x ≠ .plant := fun z => hk (.inr z)
      have f2 := fault_ok (applied0_ok hp x hx hk1 hk2 0)
      refine ⟨some (.val, .non), ?_⟩
      cases x with
      | plant => exact absurd rfl hk2
      | att w b => exact absurd rfl (hk1 w b)
      | none => simp only [Rs.d] at f1 f2 ⊢; simp [rest12, f1, f2, nn, ixT0, inSS2, szl']
      | place w => simp only [Rs.d] at f1 f2 ⊢; simp [rest12, f1, f2, nn, ixT0, inSS2, szl']
      | cut w => simp only [Rs.d] at f1 f2 ⊢; simp [rest12, f1, f2, nn, ixT0, inSS2, szl']
      | rep o w => simp only [Rs.d] at f1 f2 ⊢; simp [rest12, f1, f2, nn, ixT0, inSS2, szl']
  rcases h.tups with hg | ⟨ps, qs, hr, hps, hz, hg⟩
  · have hd : fn_is_done [t.ins gs, r] = .ok (.bl false) .non := by simp [fn_is_done, b_is_done, hg, -isG_u]
    obtain ⟨y10, e⟩ := rest_no x9 hd _ rfl
    refine ⟨some (.val, .bl false), x9, y10, ?_⟩
    unfold l0_law
    exact seq_go (ρ1 := [x0, x1, x2, x3, x4, some (.val, t.ins gs), some (.val, .lst L), some (.val, r), some (.val, .bl false), x9, x10]) (by simp [hg, -isG_u]) e
  · have hlc : dLc (dItA (dVar 6)) (gN 9) (dT2 eqD (dN (one1 reprX) (dCons (dVar 9) dNil)) (dN (one1 reprX) (dCons (dVar 7) dNil))) (dVar 9) [9] [x0, x1, x2, x3, x4, some (.val, t.ins gs), some (.val, .lst L), some (.val, r), x8, x9, x10] = .ok (.lst (L.filter (eqZ (PyData.tuple qs).shown))) [x0, x1, x2, x3, x4, some (.val, t.ins gs), some (.val, .lst L), some (.val, r), x8, none, x10] := by
      refine dLc_if (i := 9) L (eqZ (PyData.tuple qs).shown) (ρ1 := [x0, x1, x2, x3, x4, some (.val, t.ins gs), some (.val, .lst L), some (.val, r), x8, x9, x10]) (by simp) (fun one ho => ?_) (by rw [szl']; omega) (by simp)
      obtain ⟨as, e, h1, h3, h4⟩ := right_repr (hL one ho)
      have hq := eqS (PyData.tuple (as.map .str)).shown (PyData.tuple qs).shown
      have hf : eqZ (PyData.tuple qs).shown one = decide ((PyData.tuple (as.map .str)).shown = (PyData.tuple qs).shown) := by
        unfold eqZ
        rw [h4]
      rw [hf]
      simp [h4, hz, hq]
    have hlc' : dLc (dItA (dVar 6)) (gN 9) (dB (d2 eqD (dN (one1 reprX) (dCons (dVar 9) dNil)) (dN (one1 reprX) (dCons (dVar 7) dNil)))) (dVar 9) [9] [x0, x1, x2, x3, x4, some (.val, t.ins gs), some (.val, .lst L), some (.val, r), x8, x9, x10] = .ok (.lst (L.filter (eqZ (PyData.tuple qs).shown))) [x0, x1, x2, x3, x4, some (.val, t.ins gs), some (.val, .lst L), some (.val, r), x8, none, x10] := hlc
    have hne := ne_txts (L.filter (eqZ (PyData.tuple qs).shown)) (fun d hd => GR.txts (hL d (List.mem_filter.mp hd).1))
    rcases fit_cases hp ht hL hC h hr hps hz with ⟨⟨x, hx, ex⟩, hfit⟩ | ⟨hd, hfit⟩
    · rw [hfit] at hne
      obtain ⟨y10, e⟩ := rest_yes none x hx ex _ rfl
      refine ⟨some (.val, .bl true), none, y10, ?_⟩
      unfold l0_law
      exact seq_go (ρ1 := [x0, x1, x2, x3, x4, some (.val, t.ins gs), some (.val, .lst L), some (.val, r), some (.val, .bl true), none, x10]) (by simp [hg, hlc', hne, szl', -isG_u, -dLc_e]) e
    · rw [hfit] at hne
      obtain ⟨y10, e⟩ := rest_no none hd _ rfl
      refine ⟨some (.val, .bl false), none, y10, ?_⟩
      unfold l0_law
      exact seq_go (ρ1 := [x0, x1, x2, x3, x4, some (.val, t.ins gs), some (.val, .lst L), some (.val, r), some (.val, .bl false), none, x10]) (by simp [hg, hlc', hne, szl', -isG_u, -dLc_e]) e
theorem odd_each (hp : gs.Perm (t.pre [])) (ht : t.ht < 14) {L : List D} (hL : GL t L) (hl : L.length < 20000) (hC : ∀ x : Rs, x.ok t → x.d ∈ L) (x0 x1 x2 x3 x4 : Option (Kd × D)) : ∀ (M : List D) (x7 x8 x9 x10 : Option (Kd × D)), (∀ d ∈ M, Cand d) →
    ∃ y7 y8 y9 y10, dForL (gN 7) l0_law M [x0, x1, x2, x3, x4, some (.val, t.ins gs), some (.val, .lst L), x7, x8, x9, x10] = .nx [x0, x1, x2, x3, x4, some (.val, t.ins gs), some (.val, .lst L), y7, y8, y9, y10]
  | [], x7, x8, x9, x10, _ => ⟨x7, x8, x9, x10, rfl⟩
  | r :: M, x7, x8, x9, x10, hM => by
    obtain ⟨y8, y9, y10, e1⟩ := odd_one hp ht hL hl hC (hM r List.mem_cons_self) x0 x1 x2 x3 x4 x8 x9 x10
    obtain ⟨z7, z8, z9, z10, e2⟩ := odd_each hp ht hL hl hC x0 x1 x2 x3 x4 M (some (.val, r)) y8 y9 y10 (fun d hd => hM d (List.mem_cons_of_mem _ hd))
    refine ⟨z7, z8, z9, z10, ?_⟩
    rw [forL_nx (ρ1 := [x0, x1, x2, x3, x4, some (.val, t.ins gs), some (.val, .lst L), some (.val, r), x8, x9, x10]) rfl e1]
    exact e2
theorem right_each (hp : gs.Perm (t.pre [])) (x0 x1 x2 x3 x4 x6 x8 x9 x10 : Option (Kd × D)) : ∀ (M : List D) (x7 : Option (Kd × D)), (∀ d ∈ M, GR t d) →
    ∃ y7, dForL (gN 7) l1_law M [x0, x1, x2, x3, x4, some (.val, t.ins gs), x6, x7, x8, x9, x10] = .nx [x0, x1, x2, x3, x4, some (.val, t.ins gs), x6, y7, x8, x9, x10]
  | [], x7, _ => ⟨x7, rfl⟩
  | r :: M, x7, hM => by
    obtain ⟨x, ex, hx, _⟩ := hM r List.mem_cons_self
    have f1 := fault_ok (applied_ok hp x hx (1000000000000000000000000000000))
    rw [← ex] at f1
    have st : l1_law [x0, x1, x2, x3, x4, some (.val, t.ins gs), x6, some (.val, r), x8, x9, x10] = .nx [x0, x1, x2, x3, x4, some (.val, t.ins gs), x6, some (.val, r), x8, x9, x10] := by
      simp [l1_law, pow30, f1]
    obtain ⟨z7, e2⟩ := right_each hp x0 x1 x2 x3 x4 x6 x8 x9 x10 M (some (.val, r)) (fun d hd => hM d (List.mem_cons_of_mem _ hd))
    refine ⟨z7, ?_⟩
    rw [forL_nx (ρ1 := [x0, x1, x2, x3, x4, some (.val, t.ins gs), x6, some (.val, r), x8, x9, x10]) rfl st]
    exact e2
end
theorem turn_ok {cs : List Int} {k : Nat} {p : D} (hp : Pn cs k p) (hk : k + 45000 < 2000000) (x0 x2 x3 x4 x5 x6 x7 x8 x9 x10 : Option (Kd × D)) :
    ∃ p' y3 y4 y5 y6 y7 y8 y9 y10, l2_law [x0, some (.own, p), x2, x3, x4, x5, x6, x7, x8, x9, x10] = .nx [x0, some (.own, p'), x2, y3, y4, y5, y6, y7, y8, y9, y10] ∧ Pn cs (k + 45000) p' := by
  obtain ⟨v, p1, e1, q1, a1, a2⟩ := draw_P hp (by omega) 7 (by omega)
  obtain ⟨n, rfl⟩ : ∃ n : Nat, v = n := ⟨v.toNat, by omega⟩
  obtain ⟨ns, p2, e2, q2, b1, b2, b3⟩ := values_ok q1 n (by omega) (by omega)
  obtain ⟨t, p3, e3, q3, c1⟩ := grown_ok 12 ns _ p2 q2 (by omega) (by omega) (by omega)
  have hsz : t.size = n := by rw [← vals_len, c1, b1]
  have hht := ht_le t
  have hbd : t.bd := vals_bd t (fun y hy => by
    rw [c1] at hy
    have := b3 y hy
    unfold Bd
    omega)
  obtain ⟨gs, hg, ei⟩ := init_ok t (by omega) (by omega) (by rw [c1]; exact b2)
  obtain ⟨L, e4, hL, hl, hC⟩ := results_ok t (by omega) (by omega)
  obtain ⟨M, p5, e5, q5, hM⟩ := odd_res q3 (by omega) t (by omega) (by omega)
  obtain ⟨M2, p6, e6, q6, hM2⟩ := shuf_ok (P := GR t) q5 L hL hl (by omega)
  have hc : sliceD none (some 12) (.lst M2) = some (.lst (M2.take 12)) := by
    show some (D.lst (cutL _ _ _)) = _
    rw [cut_to _ _ (by omega)]
    rfl
  obtain ⟨y7, y8, y9, y10, e7⟩ := odd_each hg (by omega) hL hl hC x0 (some (.own, p5)) x2 (some (.val, .lst (ns.map .int))) (some (.val, t.told)) M x7 x8 x9 x10 hM
  obtain ⟨z7, e8⟩ := right_each hg x0 (some (.own, p6)) x2 (some (.val, .lst (ns.map .int))) (some (.val, t.told)) (some (.val, .lst L)) y8 y9 y10 (M2.take 12) y7 (fun d hd => hM2 d (List.mem_of_mem_take hd))
  obtain ⟨z0, hz0⟩ := reprX_told t hbd (by omega)
  have ft := fld_told t gs
  have n0 : neD (.str z0) (.str z0) = some (.bl false) := by rw [neS]; simp
  refine ⟨p6, some (.val, .lst (ns.map .int)), some (.val, t.told), some (.val, t.ins gs), some (.val, .lst L), z7, y8, y9, y10, ?_, q6.mono (by omega)⟩
  unfold l2_law
  refine seq_go (ρ1 := [x0, some (.own, p2), x2, some (.val, .lst (ns.map .int)), x4, x5, x6, x7, x8, x9, x10]) (by simp [e1, e2]) ?_
  refine seq_go (ρ1 := [x0, some (.own, p3), x2, some (.val, .lst (ns.map .int)), some (.val, t.told), x5, x6, x7, x8, x9, x10]) (by simp [e3]) ?_
  refine seq_go (ρ1 := [x0, some (.own, p3), x2, some (.val, .lst (ns.map .int)), some (.val, t.told), some (.val, t.ins gs), some (.val, .lst L), x7, x8, x9, x10]) (by simp [ei, e4]) ?_
  refine seq_go (for_go (by simp [e5]) e7) ?_
  refine seq_go (for_go (by simp [e6, hc]) e8) ?_
  simp [ft, hz0, n0, -fldC_u]
theorem turns_ok {cs : List Int} (x0 : Option (Kd × D)) : ∀ (ks : List D) (k : Nat) (p : D) (x2 x3 x4 x5 x6 x7 x8 x9 x10 : Option (Kd × D)), Pn cs k p → k + 45000 * ks.length < 1000000 →
    ∃ p' y2 y3 y4 y5 y6 y7 y8 y9 y10, dForL (gN 2) l2_law ks [x0, some (.own, p), x2, x3, x4, x5, x6, x7, x8, x9, x10] = .nx [x0, some (.own, p'), y2, y3, y4, y5, y6, y7, y8, y9, y10]
  | [], k, p, x2, x3, x4, x5, x6, x7, x8, x9, x10, hp, _ => ⟨p, x2, x3, x4, x5, x6, x7, x8, x9, x10, rfl⟩
  | q :: ks, k, p, x2, x3, x4, x5, x6, x7, x8, x9, x10, hp, h => by
    simp only [List.length_cons] at h
    obtain ⟨p1, y3, y4, y5, y6, y7, y8, y9, y10, e1, q1⟩ := turn_ok hp (by omega) x0 (some (.val, q)) x3 x4 x5 x6 x7 x8 x9 x10
    obtain ⟨p', z2, z3, z4, z5, z6, z7, z8, z9, z10, e2⟩ := turns_ok x0 ks (k + 45000) p1 (some (.val, q)) y3 y4 y5 y6 y7 y8 y9 y10 q1 (by omega)
    refine ⟨p', z2, z3, z4, z5, z6, z7, z8, z9, z10, ?_⟩
    rw [forL_nx (ρ1 := [x0, some (.own, p), some (.val, q), x3, x4, x5, x6, x7, x8, x9, x10]) rfl e1]
    exact e2
theorem law_true (ns : List Int) (hl : ns.length ≤ 63) : ∃ io, fn_law [.scr ns] = .ok (.bl true) io := by
  have hpen := pen_ok ns hl
  have p0 : Pn ns 0 (pen ns 0 0) := ⟨0, 0, rfl, by omega, by omega, by omega⟩
  obtain ⟨m, hm⟩ : ∃ m : Int, (3 : Int) + (if (ns.length : Int) < 4 then (ns.length : Int) else 4) = m := ⟨_, rfl⟩
  have hm2 : 3 ≤ m ∧ m ≤ 7 := by rw [← hm]; split <;> omega
  obtain ⟨p1, y2, y3, y4, y5, y6, y7, y8, y9, y10, e1⟩ := turns_ok (cs := ns) (some (.val, .scr ns)) (rngD 0 m.toNat) 0 (pen ns 0 0) none none none none none none none none none p0 (by rw [rngD_length]; omega)
  have b1 : m < 4611686018427387904 := by omega
  have b2 : (-4611686018427387904 : Int) ≤ m := by omega
  have key : ∃ ρ', b_law [some (.val, .scr ns), none, none, none, none, none, none, none, none, none, none] = .rt (.bl true) ρ' := by
    unfold b_law
    refine ⟨[some (.val, .scr ns), some (.own, p1), y2, y3, y4, y5, y6, y7, y8, y9, y10], ?_⟩
    refine seq_go (ρ1 := [some (.val, .scr ns), some (.own, pen ns 0 0), none, none, none, none, none, none, none, none, none]) (by simp [hpen]) ?_
    refine seq_go (ρ1 := [some (.val, .scr ns), some (.own, p1), y2, y3, y4, y5, y6, y7, y8, y9, y10]) (for_go (by simp [minI, two2, hm, b1, b2]) e1) ?_
    simp
  obtain ⟨ρ', e⟩ := key
  refine ⟨.non, ?_⟩
  simp only [fn_law, runF, List.length_cons, List.length_nil, initE, initAt, kdAt, List.replicate]
  simp [e]
end Pu
/-! from the pure law to the end of the row -/
namespace Pu
open PySem PySem.Spec PyProof.Rows L2 My
variable {P : Program} {w : World} {K : PySem.W.Frag} {mg : Str → Option Value} {base : Heap}
theorem fnAt_of {k : Nat} {f : Addr} {fd : FuncData} {ps : List Str} {sp : Sp} (F : FnG P w K mg base k f fd ps sp) (hr : Room k callerA) : LamX.FnAt P w K mg base (L2.CX P w) f fd ps sp :=
  ⟨fun outer s H args us vs Q E e0 hb r hsp => F.run callerA outer s H args us vs Q E ⟨hr, rfl⟩ e0 hb r hsp⟩
theorem law_end {fn : List D → FOut} {ns : List Int} {H : Hp} {a : Addr} (h : ∃ io, fn [.scr ns] = .ok (.bl true) io) (hS : SqL K H a (ns.map V.int)) : spD ⟨K, w, mg⟩ none 1 fn [.ref a] H (fun v _ => v = .bl true) fun _ _ _ => False := by
  obtain ⟨io, e⟩ := h
  refine ⟨rfl, [], [.scr ns], fun p hp => absurd hp (by simp), ⟨rfl, fun i d _ hd => ?_, fun j hj => by cases hj⟩, ?_⟩
  · have hh : hide H [] = H := by funext a; simp [hide]
    rw [hh]
    match i, hd with
    | 0, hd =>
      cases hd
      exact ⟨.ref a, rfl, .scr hS⟩
    | i + 1, hd => simp at hd
  · rw [e]
    intro v H' O' _ hv
    cases hv
    rfl
end Pu
namespace Pu
open PySem PySem.Spec PyProof.Rows L2 My
open He
theorem at_mem {α : Type} {l : List α} {i : Nat} {x : α} (h : l[i]? = some x) : x ∈ l := List.mem_of_getElem? h
theorem fg_of {K : PySem.W.Frag} {fa0 : List Fa} {fn : List DefD} {p : Str × Option Str} {x ql : Str} {st : Stmt} {f : Addr} (c : SaysD fa0 fn K) (hd : dd p x ql st ∈ fn) (ef : f = fAd K p) : Fg K x ql st f (fdOf K f) ∧ ∃ (oc : Value) (od : Option Addr) (kV doc pm : Value) (an : Option Addr) (cdv ct : Value) (osl : Array (Option Value)), fdOf K f = PySem.W.fnOf x ql (defArgs st) (defBody st) (defScope st) .none kV doc pm an cdv ct ∧ K.lookup f = some ⟨oc, od, .func (fdOf K f), osl⟩ ∧ PySem.W.codeIn K cdv ql = true := by
  obtain ⟨fd, F⟩ := c.defs hd
  obtain ⟨oc, od, dV, kV, doc, pm, an, cdv, ct, osl, e, lk, hcd, hdv, _⟩ := F.ex
  obtain rfl : dV = .none := by
    rcases hdv with ⟨_, z⟩ | ⟨z, _⟩
    · exact z
    · exact absurd rfl z
  have lk2 : K.lookup f = some ⟨oc, od, .func fd, osl⟩ := by rw [ef]; exact lk
  have e2 : fdOf K f = fd := by unfold My.fdOf; rw [lk2]
  have hkp : PySem.W.keepIn K (.ref f) = true := by rw [ef]; exact F.kp
  have e3 : fd = PySem.W.fnOf x ql (defArgs st) (defBody st) (defScope st) .none kV doc pm an cdv ct := e
  rw [e2]
  exact ⟨⟨⟨oc, od, .none, kV, doc, pm, an, cdv, ct, osl, e3, lk2, hcd⟩, hkp⟩, ⟨oc, od, kV, doc, pm, an, cdv, ct, osl, e3, lk2, hcd⟩⟩
theorem fgD_of {K : PySem.W.Frag} {fa0 : List Fa} {fn : List DefD} {p : Str × Option Str} {x ql : Str} {st : Stmt} {l : List Dv} {f : Addr} (c : SaysD fa0 fn K) (hd : dD p x ql st l ∈ fn) (ef : f = fAd K p) : Fg K x ql st f (fdOf K f) ∧ FunD K x ql (defArgs st) (defBody st) (defScope st) (l.map (Dv.v K)) [] f (fdOf K f) := by
  obtain ⟨fd, F⟩ := c.defs hd
  obtain ⟨oc, od, dV, kV, doc, pm, an, cdv, ct, osl, e, lk, hcd, hdv, _⟩ := F.ex
  have lk2 : K.lookup f = some ⟨oc, od, .func fd, osl⟩ := by rw [ef]; exact lk
  have e2 : fdOf K f = fd := by unfold My.fdOf; rw [lk2]
  have hkp : PySem.W.keepIn K (.ref f) = true := by rw [ef]; exact F.kp
  rw [e2]
  refine ⟨⟨⟨oc, od, dV, kV, doc, pm, an, cdv, ct, osl, e, lk2, hcd⟩, hkp⟩, ?_⟩
  rw [ef]
  exact F
theorem bi_of {K : PySem.W.Frag} {fa0 : List Fa} {fn : List DefD} {p : Str × Option Str} {x ql : Str} {st : Stmt} {f : Addr} {ps : List Str} (c : SaysD fa0 fn K) (hd : dd p x ql st ∈ fn) (ef : f = fAd K p)
    (b : ∀ (kV doc pm : Value) (an : Option Addr) (cdv ct : Value) (us : List Value), us.length = ps.length → bindArgs (PySem.W.fnOf x ql (defArgs st) (defBody st) (defScope st) .none kV doc pm an cdv ct) ⟨us, []⟩ = pure (ps.zip us)) : Binds K (fdOf K f) ps [] := by
  obtain ⟨_, oc, od, kV, doc, pm, an, cdv, ct, osl, e, lk, hcd⟩ := fg_of c hd ef
  rw [e]
  exact .all (b kV doc pm an cdv ct)
theorem ma_of {K : PySem.W.Frag} {mg : Str → Option Value} {c m : Str} (e : My.fa mg c = ga K c) : mf K (My.fa mg c) m = fAd K (c, some m) := by rw [e]; rfl
theorem es_BadTold : ErrS s_BadTold_init ["place"] := ⟨.mk (.cons .nil) rfl, ⟨_, rfl, rfl⟩, rfl, rfl, rfl, by decide +kernel, by decide +kernel, by decide +kernel, by decide +kernel, by decide +kernel, by decide⟩
theorem es_TooMany : ErrS s_TooMany_init ["what", "many", "most"] := ⟨.mk (.cons (.cons (.cons .nil))) rfl, ⟨_, rfl, rfl⟩, rfl, rfl, rfl, by decide +kernel, by decide +kernel, by decide +kernel, by decide +kernel, by decide +kernel, by decide⟩
theorem es_BadValue : ErrS s_BadValue_init ["place"] := ⟨.mk (.cons .nil) rfl, ⟨_, rfl, rfl⟩, rfl, rfl, rfl, by decide +kernel, by decide +kernel, by decide +kernel, by decide +kernel, by decide +kernel, by decide⟩
theorem es_NoPlace : ErrS s_NoPlace_init ["place"] := ⟨.mk (.cons .nil) rfl, ⟨_, rfl, rfl⟩, rfl, rfl, rfl, by decide +kernel, by decide +kernel, by decide +kernel, by decide +kernel, by decide +kernel, by decide⟩
theorem es_BadPlan : ErrS s_BadPlan_init [] := ⟨.mk .nil rfl, ⟨_, rfl, rfl⟩, rfl, rfl, rfl, by decide +kernel, by decide +kernel, by decide +kernel, by decide +kernel, by decide +kernel, by decide⟩
theorem es_NoKey : ErrS s_NoKey_init ["key"] := ⟨.mk (.cons .nil) rfl, ⟨_, rfl, rfl⟩, rfl, rfl, rfl, by decide +kernel, by decide +kernel, by decide +kernel, by decide +kernel, by decide +kernel, by decide⟩
theorem ex_BadTold {w : World} {K : PySem.W.Frag} {h : Heap} {mg : Str → Option Value} (X : K.In h) (G : h.Ns mainGlobals mg) (c : SaysM faL fnL [] [] exL iniL w h K) (hx : (iniL.all fun d => errB RR.prog.main.file K (ga K d.cls) d.fs) = true) (sup : mg "super" = none) : Ex RR.prog K mg "BadTold" s_BadTold_init ["place"] := by
  obtain ⟨g, e⟩ := fa_ga X G c.t.d (x := "BadTold") (at_mem (i := 26) rfl)
  have m : (⟨"BadTold", s_BadTold_init, ["place"]⟩ : IniD) ∈ iniL := at_mem (i := 0) rfl
  have x1 := List.all_eq_true.mp hx _ m
  have x2 := c.ini m
  rw [← e] at x1 x2
  exact err_ok (d := ⟨"BadTold", s_BadTold_init, ["place"]⟩) g x1 x2 es_BadTold sup (by decide +kernel) (fun _ _ _ _ _ _ _ _ us hl => match us, hl with | [_, _], _ => rfl)
theorem ex_TooMany {w : World} {K : PySem.W.Frag} {h : Heap} {mg : Str → Option Value} (X : K.In h) (G : h.Ns mainGlobals mg) (c : SaysM faL fnL [] [] exL iniL w h K) (hx : (iniL.all fun d => errB RR.prog.main.file K (ga K d.cls) d.fs) = true) (sup : mg "super" = none) : Ex RR.prog K mg "TooMany" s_TooMany_init ["what", "many", "most"] := by
  obtain ⟨g, e⟩ := fa_ga X G c.t.d (x := "TooMany") (at_mem (i := 27) rfl)
  have m : (⟨"TooMany", s_TooMany_init, ["what", "many", "most"]⟩ : IniD) ∈ iniL := at_mem (i := 1) rfl
  have x1 := List.all_eq_true.mp hx _ m
  have x2 := c.ini m
  rw [← e] at x1 x2
  exact err_ok (d := ⟨"TooMany", s_TooMany_init, ["what", "many", "most"]⟩) g x1 x2 es_TooMany sup (by decide +kernel) (fun _ _ _ _ _ _ _ _ us hl => match us, hl with | [_, _, _, _], _ => rfl)
theorem ex_BadValue {w : World} {K : PySem.W.Frag} {h : Heap} {mg : Str → Option Value} (X : K.In h) (G : h.Ns mainGlobals mg) (c : SaysM faL fnL [] [] exL iniL w h K) (hx : (iniL.all fun d => errB RR.prog.main.file K (ga K d.cls) d.fs) = true) (sup : mg "super" = none) : Ex RR.prog K mg "BadValue" s_BadValue_init ["place"] := by
  obtain ⟨g, e⟩ := fa_ga X G c.t.d (x := "BadValue") (at_mem (i := 28) rfl)
  have m : (⟨"BadValue", s_BadValue_init, ["place"]⟩ : IniD) ∈ iniL := at_mem (i := 2) rfl
  have x1 := List.all_eq_true.mp hx _ m
  have x2 := c.ini m
  rw [← e] at x1 x2
  exact err_ok (d := ⟨"BadValue", s_BadValue_init, ["place"]⟩) g x1 x2 es_BadValue sup (by decide +kernel) (fun _ _ _ _ _ _ _ _ us hl => match us, hl with | [_, _], _ => rfl)
theorem ex_NoPlace {w : World} {K : PySem.W.Frag} {h : Heap} {mg : Str → Option Value} (X : K.In h) (G : h.Ns mainGlobals mg) (c : SaysM faL fnL [] [] exL iniL w h K) (hx : (iniL.all fun d => errB RR.prog.main.file K (ga K d.cls) d.fs) = true) (sup : mg "super" = none) : Ex RR.prog K mg "NoPlace" s_NoPlace_init ["place"] := by
  obtain ⟨g, e⟩ := fa_ga X G c.t.d (x := "NoPlace") (at_mem (i := 29) rfl)
  have m : (⟨"NoPlace", s_NoPlace_init, ["place"]⟩ : IniD) ∈ iniL := at_mem (i := 3) rfl
  have x1 := List.all_eq_true.mp hx _ m
  have x2 := c.ini m
  rw [← e] at x1 x2
  exact err_ok (d := ⟨"NoPlace", s_NoPlace_init, ["place"]⟩) g x1 x2 es_NoPlace sup (by decide +kernel) (fun _ _ _ _ _ _ _ _ us hl => match us, hl with | [_, _], _ => rfl)
theorem ex_BadPlan {w : World} {K : PySem.W.Frag} {h : Heap} {mg : Str → Option Value} (X : K.In h) (G : h.Ns mainGlobals mg) (c : SaysM faL fnL [] [] exL iniL w h K) (hx : (iniL.all fun d => errB RR.prog.main.file K (ga K d.cls) d.fs) = true) (sup : mg "super" = none) : Ex RR.prog K mg "BadPlan" s_BadPlan_init [] := by
  obtain ⟨g, e⟩ := fa_ga X G c.t.d (x := "BadPlan") (at_mem (i := 30) rfl)
  have m : (⟨"BadPlan", s_BadPlan_init, []⟩ : IniD) ∈ iniL := at_mem (i := 4) rfl
  have x1 := List.all_eq_true.mp hx _ m
  have x2 := c.ini m
  rw [← e] at x1 x2
  exact err_ok (d := ⟨"BadPlan", s_BadPlan_init, []⟩) g x1 x2 es_BadPlan sup (by decide +kernel) (fun _ _ _ _ _ _ _ _ us hl => match us, hl with | [_], _ => rfl)
theorem ex_NoKey {w : World} {K : PySem.W.Frag} {h : Heap} {mg : Str → Option Value} (X : K.In h) (G : h.Ns mainGlobals mg) (c : SaysM faL fnL [] [] exL iniL w h K) (hx : (iniL.all fun d => errB RR.prog.main.file K (ga K d.cls) d.fs) = true) (sup : mg "super" = none) : Ex RR.prog K mg "NoKey" s_NoKey_init ["key"] := by
  obtain ⟨g, e⟩ := fa_ga X G c.t.d (x := "NoKey") (at_mem (i := 31) rfl)
  have m : (⟨"NoKey", s_NoKey_init, ["key"]⟩ : IniD) ∈ iniL := at_mem (i := 5) rfl
  have x1 := List.all_eq_true.mp hx _ m
  have x2 := c.ini m
  rw [← e] at x1 x2
  exact err_ok (d := ⟨"NoKey", s_NoKey_init, ["key"]⟩) g x1 x2 es_NoKey sup (by decide +kernel) (fun _ _ _ _ _ _ _ _ us hl => match us, hl with | [_, _], _ => rfl)
theorem vals_non : ∀ {n : Nat} {ds : List Value}, Vals (List.replicate n V.non) ds → ds = List.replicate n Value.none
  | 0, _, .nil => rfl
  | n + 1, _, .cons h t => by rw [show _ = Value.none from h, vals_non (n := n) t]; rfl
theorem fok_cons {K : PySem.W.Frag} {mg : Str → Option Value} {c f : Str} {cs : List Str} (h : Cls K (My.fa mg c) ∧ NoAttr K (My.fa mg c) f) (hs : FldOk K mg cs f) : FldOk K mg (c :: cs) f := fun x hx => by
  rcases List.mem_cons.mp hx with rfl | hx
  · exact h
  · exact hs x hx
theorem txt_of {w : World} {K : PySem.W.Frag} {h : Heap} {mg : Str → Option Value} (X : K.In h) (G : h.Ns mainGlobals mg) (c : SaysM faL fnL [] [] exL iniL w h K) : Txt RR.prog w K mg := by
  have cd := c.t.d
  obtain ⟨x1, xx⟩ := ba c.more
  obtain ⟨x2, xx⟩ := ba xx
  obtain ⟨x3, xx⟩ := ba xx
  obtain ⟨x4, x5⟩ := ba xx
  have sup : mg "super" = none := free_ok X G (cd.facts (at_mem (i := 50) rfl))
  have g_Tree := fa_ga X G cd (x := "Tree") (at_mem (i := 32) rfl)
  have glo : ∀ x ∈ erL ++ chL, My.fa mg x = ga K x := fun x hx => by
    have h : ((erL ++ chL).all fun x => faL.any fun f => match f with | .glo y => decide (y = x) | _ => false) = true := by decide +kernel
    obtain ⟨f, hf, e⟩ := List.any_eq_true.mp (List.all_eq_true.mp h x hx)
    split at e
    · rename_i y
      rw [of_decide_eq_true e] at hf
      exact (fa_ga X G cd hf).2
    · cases e
  have key : ∀ x ∈ erL, ExcC K (My.fa mg x) ∧ PySem.W.kitOne K (.ref (My.fa mg x)) (.type "ValueError") = some true ∧ ∀ y ∈ chL, PySem.W.exmOne K (.ref (My.fa mg x)) (.ref (My.fa mg y)) = some (decide (x = y)) := fun x hx => by
    have e := glo x (List.mem_append_left _ hx)
    obtain ⟨a1, a⟩ := ba (List.all_eq_true.mp x2 x hx)
    obtain ⟨a2, a3⟩ := ba a
    rw [e]
    refine ⟨excB_ok a1, of_decide_eq_true a2, fun y hy => ?_⟩
    rw [glo y (List.mem_append_right _ hy)]
    exact of_decide_eq_true (List.all_eq_true.mp a3 y hy)
  exact { n_list := free_ok X G (cd.facts (at_mem (i := 35) rfl))
          n_int := free_ok X G (cd.facts (at_mem (i := 36) rfl))
          n_len := free_ok X G (cd.facts (at_mem (i := 37) rfl))
          n_abs := free_ok X G (cd.facts (at_mem (i := 38) rfl))
          n_range := free_ok X G (cd.facts (at_mem (i := 39) rfl))
          n_isinstance := free_ok X G (cd.facts (at_mem (i := 40) rfl))
          n_tuple := free_ok X G (cd.facts (at_mem (i := 41) rfl))
          n_bool := free_ok X G (cd.facts (at_mem (i := 42) rfl))
          n_sorted := free_ok X G (cd.facts (at_mem (i := 43) rfl))
          n_max := free_ok X G (cd.facts (at_mem (i := 44) rfl))
          n_str := free_ok X G (cd.facts (at_mem (i := 45) rfl))
          n_all := free_ok X G (cd.facts (at_mem (i := 46) rfl))
          n_zip := free_ok X G (cd.facts (at_mem (i := 47) rfl))
          n_min := free_ok X G (cd.facts (at_mem (i := 48) rfl))
          n_repr := free_ok X G (cd.facts (at_mem (i := 49) rfl))
          n_super := free_ok X G (cd.facts (at_mem (i := 50) rfl))
          law_pen := ⟨(fg_of cd (at_mem (i := 0) rfl) (fa_ga X G cd (at_mem (i := 0) rfl)).2).1, (fa_ga X G cd (at_mem (i := 0) rfl)).1⟩
          b_law_pen := bi_of cd (at_mem (i := 0) rfl) (fa_ga X G cd (at_mem (i := 0) rfl)).2 (fun _ _ _ _ _ _ us hl => match us, hl with | [_], _ => rfl)
          law_draw := ⟨(fg_of cd (at_mem (i := 1) rfl) (fa_ga X G cd (at_mem (i := 1) rfl)).2).1, (fa_ga X G cd (at_mem (i := 1) rfl)).1⟩
          b_law_draw := bi_of cd (at_mem (i := 1) rfl) (fa_ga X G cd (at_mem (i := 1) rfl)).2 (fun _ _ _ _ _ _ us hl => match us, hl with | [_, _], _ => rfl)
          law_pick := ⟨(fg_of cd (at_mem (i := 2) rfl) (fa_ga X G cd (at_mem (i := 2) rfl)).2).1, (fa_ga X G cd (at_mem (i := 2) rfl)).1⟩
          b_law_pick := bi_of cd (at_mem (i := 2) rfl) (fa_ga X G cd (at_mem (i := 2) rfl)).2 (fun _ _ _ _ _ _ us hl => match us, hl with | [_, _], _ => rfl)
          law_values := ⟨(fg_of cd (at_mem (i := 3) rfl) (fa_ga X G cd (at_mem (i := 3) rfl)).2).1, (fa_ga X G cd (at_mem (i := 3) rfl)).1⟩
          b_law_values := bi_of cd (at_mem (i := 3) rfl) (fa_ga X G cd (at_mem (i := 3) rfl)).2 (fun _ _ _ _ _ _ us hl => match us, hl with | [_, _], _ => rfl)
          law_grown := ⟨(fg_of cd (at_mem (i := 4) rfl) (fa_ga X G cd (at_mem (i := 4) rfl)).2).1, (fa_ga X G cd (at_mem (i := 4) rfl)).1⟩
          b_law_grown := bi_of cd (at_mem (i := 4) rfl) (fa_ga X G cd (at_mem (i := 4) rfl)).2 (fun _ _ _ _ _ _ us hl => match us, hl with | [_, _], _ => rfl)
          law_down := ⟨(fg_of cd (at_mem (i := 5) rfl) (fa_ga X G cd (at_mem (i := 5) rfl)).2).1, (fa_ga X G cd (at_mem (i := 5) rfl)).1⟩
          b_law_down := bi_of cd (at_mem (i := 5) rfl) (fa_ga X G cd (at_mem (i := 5) rfl)).2 (fun _ _ _ _ _ _ us hl => match us, hl with | [_, _], _ => rfl)
          law_spots := ⟨(fg_of cd (at_mem (i := 6) rfl) (fa_ga X G cd (at_mem (i := 6) rfl)).2).1, (fa_ga X G cd (at_mem (i := 6) rfl)).1⟩
          b_law_spots := bi_of cd (at_mem (i := 6) rfl) (fa_ga X G cd (at_mem (i := 6) rfl)).2 (fun _ _ _ _ _ _ us hl => match us, hl with | [_, _], _ => rfl)
          law_shuffled := ⟨(fg_of cd (at_mem (i := 7) rfl) (fa_ga X G cd (at_mem (i := 7) rfl)).2).1, (fa_ga X G cd (at_mem (i := 7) rfl)).1⟩
          b_law_shuffled := bi_of cd (at_mem (i := 7) rfl) (fa_ga X G cd (at_mem (i := 7) rfl)).2 (fun _ _ _ _ _ _ us hl => match us, hl with | [_, _], _ => rfl)
          law_odd_results := ⟨(fg_of cd (at_mem (i := 8) rfl) (fa_ga X G cd (at_mem (i := 8) rfl)).2).1, (fa_ga X G cd (at_mem (i := 8) rfl)).1⟩
          b_law_odd_results := bi_of cd (at_mem (i := 8) rfl) (fa_ga X G cd (at_mem (i := 8) rfl)).2 (fun _ _ _ _ _ _ us hl => match us, hl with | [_, _], _ => rfl)
          is_row := ⟨(fg_of cd (at_mem (i := 9) rfl) (fa_ga X G cd (at_mem (i := 9) rfl)).2).1, (fa_ga X G cd (at_mem (i := 9) rfl)).1⟩
          b_is_row := bi_of cd (at_mem (i := 9) rfl) (fa_ga X G cd (at_mem (i := 9) rfl)).2 (fun _ _ _ _ _ _ us hl => match us, hl with | [_, _], _ => rfl)
          is_integer := ⟨(fg_of cd (at_mem (i := 10) rfl) (fa_ga X G cd (at_mem (i := 10) rfl)).2).1, (fa_ga X G cd (at_mem (i := 10) rfl)).1⟩
          b_is_integer := bi_of cd (at_mem (i := 10) rfl) (fa_ga X G cd (at_mem (i := 10) rfl)).2 (fun _ _ _ _ _ _ us hl => match us, hl with | [_], _ => rfl)
          spots_of := ⟨(fg_of cd (at_mem (i := 11) rfl) (fa_ga X G cd (at_mem (i := 11) rfl)).2).1, (fa_ga X G cd (at_mem (i := 11) rfl)).1⟩
          b_spots_of := bi_of cd (at_mem (i := 11) rfl) (fa_ga X G cd (at_mem (i := 11) rfl)).2 (fun _ _ _ _ _ _ us hl => match us, hl with | [_], _ => rfl)
          rank_text := ⟨(fg_of cd (at_mem (i := 12) rfl) (fa_ga X G cd (at_mem (i := 12) rfl)).2).1, (fa_ga X G cd (at_mem (i := 12) rfl)).1⟩
          b_rank_text := bi_of cd (at_mem (i := 12) rfl) (fa_ga X G cd (at_mem (i := 12) rfl)).2 (fun _ _ _ _ _ _ us hl => match us, hl with | [_], _ => rfl)
          in_order := ⟨(fg_of cd (at_mem (i := 13) rfl) (fa_ga X G cd (at_mem (i := 13) rfl)).2).1, (fa_ga X G cd (at_mem (i := 13) rfl)).1⟩
          b_in_order := bi_of cd (at_mem (i := 13) rfl) (fa_ga X G cd (at_mem (i := 13) rfl)).2 (fun _ _ _ _ _ _ us hl => match us, hl with | [_], _ => rfl)
          first_fall := ⟨(fg_of cd (at_mem (i := 14) rfl) (fa_ga X G cd (at_mem (i := 14) rfl)).2).1, (fa_ga X G cd (at_mem (i := 14) rfl)).1⟩
          b_first_fall := bi_of cd (at_mem (i := 14) rfl) (fa_ga X G cd (at_mem (i := 14) rfl)).2 (fun _ _ _ _ _ _ us hl => match us, hl with | [_], _ => rfl)
          told_of := ⟨(fg_of cd (at_mem (i := 15) rfl) (fa_ga X G cd (at_mem (i := 15) rfl)).2).1, (fa_ga X G cd (at_mem (i := 15) rfl)).1⟩
          b_told_of := bi_of cd (at_mem (i := 15) rfl) (fa_ga X G cd (at_mem (i := 15) rfl)).2 (fun _ _ _ _ _ _ us hl => match us, hl with | [_], _ => rfl)
          height_of := ⟨(fg_of cd (at_mem (i := 16) rfl) (fa_ga X G cd (at_mem (i := 16) rfl)).2).1, (fa_ga X G cd (at_mem (i := 16) rfl)).1⟩
          b_height_of := bi_of cd (at_mem (i := 16) rfl) (fa_ga X G cd (at_mem (i := 16) rfl)).2 (fun _ _ _ _ _ _ us hl => match us, hl with | [_], _ => rfl)
          Tree_init := ⟨by rw [g_Tree.2]; exact cls_ok (cd.facts (at_mem (i := 53) rfl)), by rw [g_Tree.2]; exact meth_ok (cd.facts (at_mem (i := 55) rfl)), (fg_of cd (at_mem (i := 26) rfl) (ma_of g_Tree.2)).1⟩
          b_Tree_init := bi_of cd (at_mem (i := 26) rfl) (ma_of g_Tree.2) (fun _ _ _ _ _ _ us hl => match us, hl with | [_, _], _ => rfl)
          law_all_results := ⟨(fg_of cd (at_mem (i := 17) rfl) (fa_ga X G cd (at_mem (i := 17) rfl)).2).1, (fa_ga X G cd (at_mem (i := 17) rfl)).1⟩
          b_law_all_results := bi_of cd (at_mem (i := 17) rfl) (fa_ga X G cd (at_mem (i := 17) rfl)).2 (fun _ _ _ _ _ _ us hl => match us, hl with | [_], _ => rfl)
          Tree_has := ⟨by rw [g_Tree.2]; exact cls_ok (cd.facts (at_mem (i := 53) rfl)), by rw [g_Tree.2]; exact meth_ok (cd.facts (at_mem (i := 56) rfl)), (fg_of cd (at_mem (i := 27) rfl) (ma_of g_Tree.2)).1⟩
          b_Tree_has := bi_of cd (at_mem (i := 27) rfl) (ma_of g_Tree.2) (fun _ _ _ _ _ _ us hl => match us, hl with | [_, _], _ => rfl)
          Tree_need := ⟨by rw [g_Tree.2]; exact cls_ok (cd.facts (at_mem (i := 53) rfl)), by rw [g_Tree.2]; exact meth_ok (cd.facts (at_mem (i := 57) rfl)), (fg_of cd (at_mem (i := 28) rfl) (ma_of g_Tree.2)).1⟩
          b_Tree_need := bi_of cd (at_mem (i := 28) rfl) (ma_of g_Tree.2) (fun _ _ _ _ _ _ us hl => match us, hl with | [_, _], _ => rfl)
          Tree_sides := ⟨by rw [g_Tree.2]; exact cls_ok (cd.facts (at_mem (i := 53) rfl)), by rw [g_Tree.2]; exact meth_ok (cd.facts (at_mem (i := 58) rfl)), (fg_of cd (at_mem (i := 29) rfl) (ma_of g_Tree.2)).1⟩
          b_Tree_sides := bi_of cd (at_mem (i := 29) rfl) (ma_of g_Tree.2) (fun _ _ _ _ _ _ us hl => match us, hl with | [_, _], _ => rfl)
          is_spot := ⟨(fg_of cd (at_mem (i := 18) rfl) (fa_ga X G cd (at_mem (i := 18) rfl)).2).1, (fa_ga X G cd (at_mem (i := 18) rfl)).1⟩
          b_is_spot := bi_of cd (at_mem (i := 18) rfl) (fa_ga X G cd (at_mem (i := 18) rfl)).2 (fun _ _ _ _ _ _ us hl => match us, hl with | [_, _], _ => rfl)
          is_done := ⟨(fg_of cd (at_mem (i := 19) rfl) (fa_ga X G cd (at_mem (i := 19) rfl)).2).1, (fa_ga X G cd (at_mem (i := 19) rfl)).1⟩
          b_is_done := bi_of cd (at_mem (i := 19) rfl) (fa_ga X G cd (at_mem (i := 19) rfl)).2 (fun _ _ _ _ _ _ us hl => match us, hl with | [_, _], _ => rfl)
          told_at := ⟨(fg_of cd (at_mem (i := 20) rfl) (fa_ga X G cd (at_mem (i := 20) rfl)).2).1, (fa_ga X G cd (at_mem (i := 20) rfl)).1⟩
          b_told_at := bi_of cd (at_mem (i := 20) rfl) (fa_ga X G cd (at_mem (i := 20) rfl)).2 (fun _ _ _ _ _ _ us hl => match us, hl with | [_, _], _ => rfl)
          with_told := ⟨(fg_of cd (at_mem (i := 21) rfl) (fa_ga X G cd (at_mem (i := 21) rfl)).2).1, (fa_ga X G cd (at_mem (i := 21) rfl)).1⟩
          b_with_told := bi_of cd (at_mem (i := 21) rfl) (fa_ga X G cd (at_mem (i := 21) rfl)).2 (fun _ _ _ _ _ _ us hl => match us, hl with | [_, _, _], _ => rfl)
          without := ⟨(fg_of cd (at_mem (i := 22) rfl) (fa_ga X G cd (at_mem (i := 22) rfl)).2).1, (fa_ga X G cd (at_mem (i := 22) rfl)).1⟩
          b_without := bi_of cd (at_mem (i := 22) rfl) (fa_ga X G cd (at_mem (i := 22) rfl)).2 (fun _ _ _ _ _ _ us hl => match us, hl with | [_, _], _ => rfl)
          applied := ⟨(fgD_of cd (at_mem (i := 23) rfl) (fa_ga X G cd (at_mem (i := 23) rfl)).2).1, (fa_ga X G cd (at_mem (i := 23) rfl)).1⟩
          b_applied := by
            obtain ⟨ds, hv, hb⟩ := (fgD_of cd (at_mem (i := 23) rfl) (fa_ga X G cd (at_mem (i := 23) rfl)).2).2.binds1 (ps := ["tree", "result", "key"]) 3 1 (fun h => nomatch h) (by rfl) (fun _ _ _ _ _ _ _ us its hl hi => match us, its, hl, hi with | [_, _, _], [_], _, _ => ⟨_, rfl, rfl⟩)
            obtain rfl : ds = [] := by
              revert hv
              exact fun hv => vals_non (n := 0) hv
            exact hb
          b_applied_1 := by
            obtain ⟨ds, hv, hb⟩ := (fgD_of cd (at_mem (i := 23) rfl) (fa_ga X G cd (at_mem (i := 23) rfl)).2).2.binds1 (ps := ["tree", "result", "key"]) 2 0 (fun h => nomatch h) (by rfl) (fun _ _ _ _ _ _ _ us its hl hi => match us, its, hl, hi with | [_, _], [_], _, _ => ⟨_, rfl, rfl⟩)
            obtain rfl : ds = [.none] := by
              revert hv
              exact fun hv => vals_non (n := 1) hv
            exact hb
          law_fault := ⟨(fg_of cd (at_mem (i := 24) rfl) (fa_ga X G cd (at_mem (i := 24) rfl)).2).1, (fa_ga X G cd (at_mem (i := 24) rfl)).1⟩
          b_law_fault := bi_of cd (at_mem (i := 24) rfl) (fa_ga X G cd (at_mem (i := 24) rfl)).2 (fun _ _ _ _ _ _ us hl => match us, hl with | [_, _, _], _ => rfl)
          law := ⟨(fg_of cd (at_mem (i := 25) rfl) (fa_ga X G cd (at_mem (i := 25) rfl)).2).1, (fa_ga X G cd (at_mem (i := 25) rfl)).1⟩
          b_law := bi_of cd (at_mem (i := 25) rfl) (fa_ga X G cd (at_mem (i := 25) rfl)).2 (fun _ _ _ _ _ _ us hl => match us, hl with | [_], _ => rfl)
          c_MOST_PLACES := int_ok X G (cd.facts (at_mem (i := 51) rfl))
          c_MOST_LEVELS := int_ok X G (cd.facts (at_mem (i := 52) rfl))
          c_SIDES := (fa_ga X G cd (at_mem (i := 33) rfl)).1
          r_SIDES := fun H => .tup (by rw [(fa_ga X G cd (at_mem (i := 33) rfl)).2]; exact tupB_ok (List.all_eq_true.mp x4 _ (at_mem (i := 0) rfl)) H) (.cons (.str _) (.cons (.str _) .nil))
          c_WalksError := (fa_ga X G cd (at_mem (i := 34) rfl)).1
          w_BadPlan_WalksError := by rw [(fa_ga X G cd (at_mem (i := 30) rfl)).2, (fa_ga X G cd (at_mem (i := 34) rfl)).2]; exact of_decide_eq_true (List.all_eq_true.mp x5 _ (at_mem (i := 0) rfl))
          c_Tree := g_Tree.1
          k_Tree := by rw [g_Tree.2]; exact mkr_ok (cd.facts (at_mem (i := 54) rfl))
          f_own_spots := (fok_cons ⟨by rw [g_Tree.2]; exact cls_ok (cd.facts (at_mem (i := 53) rfl)), by rw [g_Tree.2]; exact noat_ok (cd.facts (at_mem (i := 59) rfl))⟩ (fun _ h => nomatch h))
          f_Tree_own_spots := (fok_cons ⟨by rw [g_Tree.2]; exact cls_ok (cd.facts (at_mem (i := 53) rfl)), by rw [g_Tree.2]; exact noat_ok (cd.facts (at_mem (i := 59) rfl))⟩ (fun _ h => nomatch h))
          f_told := (fok_cons ⟨by rw [g_Tree.2]; exact cls_ok (cd.facts (at_mem (i := 53) rfl)), by rw [g_Tree.2]; exact noat_ok (cd.facts (at_mem (i := 60) rfl))⟩ (fun _ h => nomatch h))
          f_Tree_told := (fok_cons ⟨by rw [g_Tree.2]; exact cls_ok (cd.facts (at_mem (i := 53) rfl)), by rw [g_Tree.2]; exact noat_ok (cd.facts (at_mem (i := 60) rfl))⟩ (fun _ h => nomatch h))
          f_size := (fok_cons ⟨by rw [g_Tree.2]; exact cls_ok (cd.facts (at_mem (i := 53) rfl)), by rw [g_Tree.2]; exact noat_ok (cd.facts (at_mem (i := 61) rfl))⟩ (fun _ h => nomatch h))
          f_Tree_size := (fok_cons ⟨by rw [g_Tree.2]; exact cls_ok (cd.facts (at_mem (i := 53) rfl)), by rw [g_Tree.2]; exact noat_ok (cd.facts (at_mem (i := 61) rfl))⟩ (fun _ h => nomatch h))
          f_height := (fok_cons ⟨by rw [g_Tree.2]; exact cls_ok (cd.facts (at_mem (i := 53) rfl)), by rw [g_Tree.2]; exact noat_ok (cd.facts (at_mem (i := 62) rfl))⟩ (fun _ h => nomatch h))
          f_Tree_height := (fok_cons ⟨by rw [g_Tree.2]; exact cls_ok (cd.facts (at_mem (i := 53) rfl)), by rw [g_Tree.2]; exact noat_ok (cd.facts (at_mem (i := 62) rfl))⟩ (fun _ h => nomatch h))
          e_BadTold := ex_BadTold X G c x1 sup
          x_BadTold := (key "BadTold" (by decide)).1
          v_BadTold := (key "BadTold" (by decide)).2.1
          e_TooMany := ex_TooMany X G c x1 sup
          x_TooMany := (key "TooMany" (by decide)).1
          v_TooMany := (key "TooMany" (by decide)).2.1
          e_BadValue := ex_BadValue X G c x1 sup
          x_BadValue := (key "BadValue" (by decide)).1
          v_BadValue := (key "BadValue" (by decide)).2.1
          e_NoPlace := ex_NoPlace X G c x1 sup
          x_NoPlace := (key "NoPlace" (by decide)).1
          v_NoPlace := (key "NoPlace" (by decide)).2.1
          e_BadPlan := ex_BadPlan X G c x1 sup
          x_BadPlan := (key "BadPlan" (by decide)).1
          v_BadPlan := (key "BadPlan" (by decide)).2.1
          e_NoKey := ex_NoKey X G c x1 sup
          x_NoKey := (key "NoKey" (by decide)).1
          v_NoKey := (key "NoKey" (by decide)).2.1
          ca := fun x y b hb => by
            unfold caD at hb
            split at hb
            · rename_i hxy
              cases hb
              exact (key x hxy.1).2.2 y hxy.2
            · cases hb
          ins := (notIn_cons g_Tree.2 (cls_ok (cd.facts (at_mem (i := 53) rfl))) (List.all_eq_true.mp x3 _ (at_mem (i := 0) rfl)) notIn_nil) }
theorem law_at {w : World} {mg : Str → Option Value} {f : Addr} {h : Heap} (Y : (hkL 4).says w h) (G : h.Ns mainGlobals mg) (hmg : mg ("law" : Str) = some (.ref f)) : ∃ K : PySem.W.Frag, K.In h ∧ LamX.LawAtA PySem.Challenge.rw_searchwalks_k12_edits_refused w K (L2.CX RR.prog w) 63 "_law_script" mg f h := by
  obtain ⟨K, X, c⟩ := Y
  have T := txt_of X G c
  have ef : f = My.fa mg "law" := by
    have g1 := T.law.g
    rw [g1] at hmg
    exact (Value.ref.inj (Option.some.inj hmg)).symm
  refine ⟨K, X, fdOf K (My.fa mg "law"), [], spD ⟨K, w, mg⟩ none 1 fn_law, (fun _ z => absurd z (by simp)), (fun _ z => absurd z (by simp)), (fun _ z => absurd z (by simp)), ?_, ?_, ?_⟩
  · intro s u
    obtain ⟨_, oc, od, kV, doc, pm, an, cdv, ct, osl, e, _⟩ := fg_of c.t.d (at_mem (i := 25) rfl) (fa_ga X G c.t.d (at_mem (i := 25) rfl)).2
    rw [e]
    exact .of_eq rfl
  · intro H a ns hl _ _ hS
    exact law_end (law_true ns hl) hS
  · intro base _ _ _
    rw [ef]
    exact fnAt_of (ok_law T) ⟨rfl, by decide, by decide⟩
end Pu
open PySem PySem.W PySem.Calls PyProof.Rows
theorem PySem.Challenge.cw_searchwalks_k12_edits_refused_holds : PySem.Challenge.rw_searchwalks_k12_edits_refused.Holds := by
  w_on; o_law
  refine HandSHeadRun.head_any (r := OpenLaw.row PySem.Challenge.rw_searchwalks_k12_edits_refused) (q := view (OpenLaw.row PySem.Challenge.rw_searchwalks_k12_edits_refused).prog [43]) (H := Pu.hkL 4) (ob := Pu.obL 4) (M := 12000) (loose := Pu.loL) (d := HandSHeadRun.topDef (OpenLaw.row PySem.Challenge.rw_searchwalks_k12_edits_refused).prog 43) (kwd := []) (Pu.obL_eq 4)
    (by kernel_rfl) (fun s => by kernel_rfl) Pu.runL (by kernel_rfl) (by kernel_rfl) (by kernel_rfl) (by rfl) (by first | assumption | decide +kernel) (by decide +kernel) ⟨rfl, rfl, rfl, rfl, rfl, by decide +kernel⟩ ?hw ?hc
  case hw => w_witness2
  case hc =>
    refine LamX.walk_ofA (l := PySem.Challenge.rw_searchwalks_k12_edits_refused) (n := 63) (x := "_law_script") (CX := fun w => L2.CX Pu.RR.prog w) rfl (by decide) (by kernel_rfl) ?F ?G
    · intro w mg fa h Y G hmg0
      have hmg : mg ("law" : PySem.Str) = some (.ref fa) := by
        have e : (HandSHeadRun.topDef (OpenLaw.row PySem.Challenge.rw_searchwalks_k12_edits_refused).prog 43).name = ("law" : PySem.Str) := by kernel_rfl
        rw [← e]
        exact hmg0
      exact Pu.law_at Y G hmg
    · intro w H e s z1 z
      obtain ⟨_, _, _, _, _, _, _, _, _, _, _, _, q⟩ := z
      exact q
