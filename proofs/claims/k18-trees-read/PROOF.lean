import PyProof.Rows.All
import Wide.All
import OpenK.AllK
import Wide.FinOn
import HandS.ForMost
import HandS.ForExc
import HandS.Wide
import HandS.Style
import HandS.Flow
import KE.KExcSuper
import HandS.ExcInit
import HandS.ExcSuper
import HandS.ExcField
import KE.KStateDown
import HandS.Head0
import HandS.Head1
import HandS.Head2
import HandS.HeadHook4
import HandS.HeadWalk
import HandS.ExcIs
import KE.KExcIs
import HandS.More
import HandS.IsInst
import HandS.Strs
import HandS.SetFor
import HandS.Zip
import KE.KDictPairs
import HandS.Walk
import HandS.Deep
import HandS.OwnEq
import HandS.Lambda
import KE.KeyNested
import HandS.ExcOwn
import HandS.TupAny
import HandS.SortKw
import HandS.ExcValue
import HandS.Conv
import KE.KSortAsk
import HandS.MapJoin
import HandS.Text
import PyProof.ReprRoads
import HandS.ReplaceLit
import HandS.ReplaceDef
import HandS.DeepEq
import KE.KEqNest
import HandS.NoneIn
import PyProof.Rows.IntBool
import PyProof.NeKinds
import KE.GoesMore
import KE.GoesEnum
import PyProof.Rows.StrRev
import PyProof.InstNe
import HandS.TupSets
import HandS.SortRule
import HandS.Keys
import PyProof.Rows.StrMeet
import KE.SortData
import HandS.Comp
import HandS.HeadHook2
import PyProof.EqKinds
import PyProof.P3In
import PyProof.FactsAll.dict_1
import PyProof.FactsAll.subtypes_4
import KE.DataMinMax
import HandS.Small
import HandS.Defaults
import PyProof.EqAt
import KE.KSortTupG
import KE.KDictZip
import PyProof.ListNew
import HandS.Words
import HandS.Dict
import HandS.Replace
import PyProof.StrOps2
import KE.KEqDict
import KE.KSliceW
import KE.KDictDisplayH
import HandS.SetTxt0
import PyProof.DictRoadsH
import HandS.ReplaceList
import PyProof.P3Eq
import HandS.EndBits
import HandS.EndTab
import PySem.Challenge.RW_searchwalks_k18_trees_read
set_option Elab.async false
set_option linter.all false
set_option maxRecDepth 100000
set_option maxHeartbeats 0
namespace My
open PySem PySem.Spec PyProof.Rows L2
def fa (mg : Str → Option Value) (x : Str) : Addr := match mg x with
  | some (.ref f) => f
  | _ => 0
def fdOf (K : PySem.W.Frag) (f : Addr) : FuncData := match K.lookup f with
  | some ⟨_, _, .func fd, _⟩ => fd
  | _ => default
theorem fa_eq {mg : Str → Option Value} {x : Str} {f : Addr} (h : mg x = some (.ref f)) : fa mg x = f := by
  unfold fa
  rw [h]
structure Df (K : PySem.W.Frag) (mg : Str → Option Value) (x : Str) (st : Stmt) (ps : List Str) : Prop where
  F : Fun K x x st (fa mg x) (fdOf K (fa mg x))
  g : mg x = some (.ref (fa mg x))
  b : Binds K (fdOf K (fa mg x)) ps []
abbrev Ok (P : Program) (w : World) (K : PySem.W.Frag) (mg : Str → Option Value) (base : Heap) (CX : CXT) (k : Nat) (x : Str) (ps : List Str) (sp : Sp) : Prop := FnOk P w K mg base CX k (fa mg x) (fdOf K (fa mg x)) ps sp
section
variable {X : Cx} {x : Str} {st : Stmt} {ps : List Str} {k : Nat} {sp : Sp} {e : Expr} {es : List Expr} {t : TA} {p pos : Pos}
end
end My
namespace My
open PySem PySem.Calls PyProof.Rows L2
inductive Asgs : List Stmt → List Str → Prop
  | nil : Asgs [] []
  | cons {f : Str} {fs : List Str} {rest : List Stmt} {a b c d : Pos} (h : Asgs rest fs) : Asgs (.Assign [.Attribute (.Name "self" a) f b] (.Name f c) d :: rest) (f :: fs)
inductive InitBody : List Stmt → List Str → Prop
  | mk {x : Str} {j : Nat} {rest : List Stmt} {fs : List Str} {p0 p1 p2 p3 p4 p5 : Pos} (h : Asgs rest fs) (hp : (p2.endLine == p4.line) = true) :
      InitBody (.Expr (.Call (.Attribute (.Call (.Name "super" p0) [] [] p1) "__init__" p2) [.Constant (.str x) j p3] [] p4) p5 :: rest) fs
section
variable {prog : Program} {w : World} {A : Around} {E : Value → Shared → Prop} {h : Heap} {g : Array GenState} {d : Drawn} {t : Nat} {os : OsState}
theorem call_mw {u e t0 C N : Addr} {nm q : Str} {bs bm : List Value} {hdct : Bool} {sn : List Str} {sub : List Value} {ab : Bool} {col : Option Bool} {dd : Option Addr} {k0 k1 k2 k3 k5 : Option Value} {rest : List Value} {Q : Value → Shared → Prop}
    (hC : h.get? C = some (excClassObj nm q C N bs bm hdct sn sub ab col dd k0 k1 k2 k3 k5 "ValueError.__new__")) (he : h.get? e = some (HandSPX.excO C t0)) (hu : h.get? u = some (W.kxs_mw "ValueError.__init__" e))
    (hq : ∀ h' t1, (∀ b o, b ≠ e → h.get? b = some o → h'.get? b = some o) → h'.get? e = some (HandSPX.excO C t1) → Q .none ⟨h', g, d, t, os⟩) (hz : rest.length ≤ sizeLine) :
    wpAny (model prog w) A (call (.ref u) rest) Q E ⟨h, g, d, t, os⟩ := by
  refine wpAny_call (codeAny_of_tree ?_)
  show wpAny _ A.in1 (callAny (.ref u) ⟨rest, []⟩) _ _ _
  unfold callAny
  refine wpAny_bind (wpAny_load hu ?_)
  simp only [W.kxs_mw, show (Value.type "method-wrapper" == Value.type "method" || Value.type "method-wrapper" == Value.type "builtin_function_or_method" || Value.type "method-wrapper" == Value.type "method-wrapper") = true by decide, if_true]
  refine W.KFB.if_so (by decide) ?_
  refine wpAny_bind (W.check_bound_init F.excBase_ValueError.toExcCallFacts hC he rfl ?_)
  refine wpAny_bind (wpAny_pure (wpAny_pure ⟨Code.quiet_builtin _ (by decide +kernel), codeAny_builtin F.excBase_ValueError.initEntry ?_⟩))
  rw [Around.under_plainId F.excBase_ValueError.init.plain _]
  wp_walk
  refine hq _ h.objs.size (fun b o hb ho => ?_) ?_
  · exact (Heap.get?_update_other _ _ (Ne.symm hb)).trans (Heap.get?_push_of_some _ ho)
  · rw [Heap.get?_update_self _ (Heap.get?_push_of_some _ he) rfl]
    rfl
end
def Exs (C x : Addr) (b0 : Nat) (acc : List (Str × V)) (h : Heap) : Prop :=
  (acc = [] ∧ ∃ t1 : Addr, h.get? x = some (HandSPX.excO C t1)) ∨
  ∃ t1 dx : Addr, acc ≠ [] ∧ h.get? x = some ({ cls := .ref C, dict := some dx, data := .fields #[.ref t1, .none, .none, .none, .bool false, .none] } : Obj) ∧ b0 ≤ dx ∧ dx ≠ x ∧ ∃ mA, h.Ns1 dx mA ∧ ∀ f, RelO (acc.lookup f) (mA f)
section
variable {prog : Program} {w : World} {A : Around} {E : Value → Shared → Prop} {K : W.Frag}
theorem set_one {C x : Addr} {b0 : Nat} {acc : List (Str × V)} {f : Str} {y : V} {u : Value} {Q : Unit → Shared → Prop} {s : Shared} (T : OexC K C) (X : K.In s.heap) (hz : b0 ≤ s.heap.objs.size) (hl : acc.length ≤ 900) (e : Exs C x b0 acc s.heap) (ry : RelV y u) (hno : W.findIn K (.ref C) f = some none)
    (hq : ∀ h' t', (∀ b o, b ≠ x → b < b0 → s.heap.get? b = some o → h'.get? b = some o) → b0 ≤ h'.objs.size → Exs C x b0 ((f, y) :: acc) h' → Q () { s with heap := h', toks := t' }) :
    wpAny (model prog w) A (setAttr (.ref x) f u) Q E s := by
  obtain ⟨nm, q, N, bs, bm, sn, sub, ab, col, dd, k0, k1, k2, k3, k5, hC, hbm⟩ := T.cls
  have hcl : W.clsIn K C = some { name := nm, bases := bs, mro := .ref C :: bm, ns := N, qualname := q, hasDict := true, slotNames := sn, subclasses := sub, abstract := ab, collection := col, hasDel := false } := by unfold W.clsIn; rw [hC] <;> rfl
  obtain ⟨hp, g, d, t, os⟩ := s
  rcases e with ⟨rfl, t1, hx⟩ | ⟨t1, dx, _, hx, hb, hne, mA, hns, rel⟩
  · refine W.set_plain X (ox := { cls := .ref C, dict := none, data := .fields #[.ref t1, .none, .none, .none, .bool false, .none] }) (od := none) ⟨hx, rfl, rfl, trivial⟩ T.sa ?_
    refine HandSPX.exc_osa X hx hcl (show HandSPX.refsVE (.ref C :: bm) = true from hbm) rfl hno (fun h' tk' dx k dn dne hx' hn => ?_)
    have hsz : dx < h'.objs.size := by
      obtain ⟨o, _, _, e1, _⟩ := hn
      exact Heap.lt_size e1
    exact hq h' tk' (fun b o hb _ z => k b o hb z) (Nat.le_trans hz (Nat.le_trans dn (Nat.le_of_lt hsz))) (.inr ⟨t1, dx, (fun z => nomatch z), hx', Nat.le_trans hz dn, dne, _, hn, relO_put (fs := []) ry fun g => True.intro⟩)
  · have hw := within_of rel
    obtain ⟨oD, _, _, hoD, _, _⟩ := hns.count hw
    refine W.set_plain X (ox := { cls := .ref C, dict := some dx, data := .fields #[.ref t1, .none, .none, .none, .bool false, .none] }) (od := some oD) ⟨hx, rfl, rfl, hoD⟩ T.sa ?_
    refine OEX.osa_old X hx hns hw (by rw [List.length_map]; omega) hcl (show HandSPX.refsVE (.ref C :: bm) = true from hbm) rfl hno (fun h' tk' k hn => ?_)
    have hx' := k x _ (Ne.symm hne) hx
    have hsz : dx < h'.objs.size := by
      obtain ⟨o, _, _, e1, _⟩ := hn
      exact Heap.lt_size e1
    exact hq h' tk' (fun b o _ hlt z => k b o (fun q => by rw [q] at hlt; exact absurd hb (Nat.not_le_of_lt hlt)) z) (Nat.le_trans hb (Nat.le_of_lt hsz)) (.inr ⟨t1, dx, (fun z => nomatch z), hx', hb, hne, _, hn, relO_put ry rel⟩)
theorem asgs_run {C x L : Addr} {b0 : Nat} {env : Env} {m : Str → Option Value} (T : OexC K C) (hk : env.scope.kind = .function) (hL : env.locals = L) (hLb : L < b0) (hLx : L ≠ x) (hself : m "self" = some (.ref x)) (hks : env.kindOf "self" = some .local) {rest : List Stmt} {fs : List Str} (hr : Asgs rest fs) :
    ∀ {ys : List V} {us : List Value} {acc : List (Str × V)} {s : Shared} {Q : Flow → Shared → Prop}, Vals ys us → (∀ (i : Nat) f u, fs[i]? = some f → us[i]? = some u → m f = some u) → ys.length = fs.length → acc.length + fs.length ≤ 900 →
      (∀ f ∈ fs, env.kindOf f = some .local ∧ (f == ("__debug__" : Str)) = false ∧ W.findIn K (.ref C) f = some none) → K.In s.heap → (∀ b o, K.lookup b = some o → b ≠ x ∧ b < b0) → s.heap.Ns L m → b0 ≤ s.heap.objs.size → Exs C x b0 acc s.heap →
      (∀ h' t', (∀ b o, b ≠ x → b < b0 → s.heap.get? b = some o → h'.get? b = some o) → b0 ≤ h'.objs.size → Exs C x b0 ((fs.zip ys).reverse ++ acc) h' → Q .next { s with heap := h', toks := t' }) →
      wpAny (model prog w) A (execs rest env) Q E s := by
  induction hr with
  | nil =>
    intro ys us acc s Q hv hm hlen hl hf X KX hns hz e hq
    have : ys = [] := List.eq_nil_of_length_eq_zero hlen
    subst this
    exact wpAny_execs_nil (hq s.heap s.toks (fun _ _ _ _ z => z) hz e)
  | @cons f fs rest a b c d hr ih =>
    intro ys us acc s Q hv hm hlen hl hf X KX hns hz e hq
    cases hv with
    | nil => cases hlen
    | @cons y u ys us ry hv =>
      obtain ⟨hfl, hfd, hfn⟩ := hf f List.mem_cons_self
      have hmf : m f = some u := hm 0 f u rfl rfl
      subst hL
      refine wpAny_execs_cons (plainObj_wpAny_Assign_Attribute (wpAny_Name (wpAny_loadName_local hk hfl hns hmf (wpAny_Name (wpAny_loadName_local hk hks hns hself ?_) (by decide))) hfd) ?_)
      · refine set_one (b0 := b0) T X hz (by have := hl; simp only [List.length_cons] at this; omega) e ry hfn fun h' t' k hz' e' => ?_
        have kx : ∀ b o, K.lookup b = some o → h'.get? b = some o := fun b o q => k b o (KX b o q).1 (KX b o q).2 (X b o q)
        have hns' : h'.Ns env.locals m := by
          obtain ⟨o, es, ep, e1, r⟩ := hns
          exact ⟨o, es, ep, k _ _ hLx hLb e1, r⟩
        refine ih hv (fun i f' u' h1 h2 => hm (i + 1) f' u' h1 h2) (Nat.succ.inj hlen) (by simp only [List.length_cons] at hl ⊢; omega) (fun f' hf' => hf f' (List.mem_cons_of_mem _ hf')) kx KX hns' hz' e' fun h2 t2 k2 hz2 e2 => ?_
        refine hq h2 t2 (fun b o hb hlt z => k2 b o hb hlt (k b o hb hlt z)) hz2 ?_
        rw [List.zip_cons_cons, List.reverse_cons, List.append_assoc]
        exact e2
      · rfl
end
structure ErrT (P : Program) (K : W.Frag) (mg : Str → Option Value) (x : Str) (C fI : Addr) (fd : FuncData) (st : Stmt) (fs : List Str) : Prop where
  o : OexC K C
  gC : mg x = some (.ref C)
  iC : W.findIn K (.ref C) "__init__" = some (some (.ref fI))
  tI : W.typeIn K (.ref fI) = some (.type "function")
  lk : ∃ (oc : Value) (od : Option Addr) (q : Str) (kV dc pm : Value) (an : Option Addr) (cda : Addr) (ct : Value) (cc : Addr) (osl : Array (Option Value)) (vs : Array Value) (file : Str) (tf : Tok) (ccl : Value) (cdd : Option Addr) (ccs : Array (Option Value)) (cl : Value) (cld : Option Addr) (csl : Array (Option Value)),
    fd = W.ksFn "__init__" q (defArgs st) (defBody st) (defScope st) .none kV dc pm an (.ref cda) ct cc ∧ K.lookup fI = some ⟨oc, od, .func fd, osl⟩ ∧ W.codeIn K (.ref cda) q = true ∧ K.lookup cda = some ⟨ccl, cdd, .fields vs, ccs⟩ ∧ vs[2]? = some (.str file tf) ∧ ((P.main.file : Str) == file) = true ∧ K.lookup cc = some ⟨cl, cld, .cell (some (.ref C)), csl⟩
  su : W.ks_superIn K C C "__init__" = some (some (.builtin "ValueError.__init__"))
  ve : W.subIn K (.ref C) (.type "ValueError") = some true
  sub : W.mroIn K C (.ref C) = some true
  op : W.nsIn K cStatics "thirdparty.any" = some none
  sup : mg "super" = none
  top : (P.main.scope.names.lookup ("super" : Str)).isSome = false
  nf : ∀ f ∈ fs, W.findIn K (.ref C) f = some none
structure ErrS (st : Stmt) (fs : List Str) : Prop where
  bd : InitBody (defBody st) fs
  pr : ∃ ar : Arg, ((defArgs st).posonlyargs ++ (defArgs st).args).head? = some ar ∧ ar.arg = "self"
  kind : (defScope st).kind = .function
  co : (defScope st).isCoroutine = false
  gen : (defScope st).isGenerator = false
  cell : ∀ y ∈ (defScope st).names, y.2 ≠ .cell
  loc : ∀ f ∈ ("self" : Str) :: fs, (defScope st).names.lookup f = some .local ∧ (f == ("__debug__" : Str)) = false
  nd : (("self" : Str) :: fs).Nodup
  ks : (defScope st).names.lookup ("super" : Str) = some .globalImplicit
  kc : (defScope st).names.lookup ("__class__" : Str) = some .free
  small : fs.length ≤ 900
def spErr (C : Addr) (fs : List Str) : Sp := fun vs H Q _ => ∃ (a : Addr) (ys : List V), vs = .ref a :: ys ∧ ys.length = fs.length ∧ H a = some (exo a C none) ∧
  (fs = [] → Q .non H) ∧ (fs ≠ [] → ∀ dx, H dx = none → dx ≠ a → Q .non (upd (upd H dx (exd dx (fs.zip ys).reverse)) a (exo a C (some dx))))
theorem zip_look : ∀ {fs : List Str} {us : List Value} {i : Nat} {f : Str} {u : Value}, fs.Nodup → us.length = fs.length → fs[i]? = some f → us[i]? = some u → (fs.zip us).reverse.lookup f = some u
  | [], us, i, f, u, _, _, h, _ => by simp at h
  | g :: fs, [], i, f, u, _, hl, _, _ => by cases hl
  | g :: fs, v :: us, i, f, u, nd, hl, h1, h2 => by
    obtain ⟨n1, n2⟩ := List.nodup_cons.mp nd
    rw [List.zip_cons_cons, List.reverse_cons, List.lookup_append]
    cases i with
    | zero =>
      have e1 : g = f := Option.some.inj h1
      have e2 : v = u := Option.some.inj h2
      subst e1 e2
      have : (fs.zip us).reverse.lookup g = none := by
        rw [List.lookup_eq_none_iff]
        intro p hp
        have hm := (List.of_mem_zip (List.mem_reverse.mp hp)).1
        simp only [bne_iff_ne, ne_eq, beq_eq_false_iff_ne]
        intro z
        rw [z] at n1
        exact n1 hm
      rw [this]
      simp [List.lookup]
    | succ i =>
      have ih := zip_look (fs := fs) (us := us) (i := i) (f := f) (u := u) n2 (Nat.succ.inj hl) h1 h2
      rw [ih]
      rfl
theorem sup_form {env : Env} {tx : Str} {j : Nat} {p0 p1 p2 p3 p4 : Pos} (hp : (p2.endLine == p4.line) = true) :
    eval (.Call (.Attribute (.Call (.Name "super" p0) [] [] p1) "__init__" p2) [.Constant (.str tx) j p3] [] p4) env = (do
      let ov ← attributeBase (.Call (.Name "super" p0) [] [] p1) "__init__" env (eval (.Call (.Name "super" p0) [] [] p1) env)
      standAt p2.atName
      let (f, first) ← holding [ov] (getMethod ov "__init__" (do return (← importBound (.Call (.Name "super" p0) [] [] p1) env).getD true))
      callWith p4 f first (backTo p4 (starEach [.Constant (.str tx) j p3] env)) []) := by
  show (do
    let ov ← attributeBase (.Call (.Name "super" p0) [] [] p1) "__init__" env (eval (.Call (.Name "super" p0) [] [] p1) env)
    standAt p2.atName
    methodCall (.Call (.Name "super" p0) [] [] p1) "__init__" p2 p4 env ov 1 (backTo p4 (starEach [.Constant (.str tx) j p3] env)) (backToKw p4 (keywordEach [] env))) = _
  have hf : methodCallForm 1 (backTo p4 (starEach [.Constant (.str tx) j p3] env)) (backToKw p4 (keywordEach [] env)) = true := rfl
  simp only [methodCall, methodCallPos, hf, hp, Bool.or_true, if_true, pure_bind, calleeOf]
  rfl
section
variable {P : Program} {w : World} {K : W.Frag} {mg : Str → Option Value} {base : Heap} {x : Str} {C fI : Addr} {fd : FuncData} {st : Stmt} {fs : List Str}
theorem ok_err {k : Nat} (T : ErrT P K mg x C fI fd st fs) (S : ErrS st fs) : FnOk P w K mg base CX0 k fI fd (("self" : Str) :: fs) (spErr C fs) := by
  refine ⟨fun vs H Q E hs => ?_, fun A outer s H args us vs Q E hr e0 hb hv hs => ?_⟩
  · obtain ⟨a, ys, rfl, hl, _⟩ := hs
    rw [List.length_cons, List.length_cons, hl]
  obtain ⟨a, ys, rfl, hlen, ha, q0, q1⟩ := hs
  obtain ⟨oc, od, q, kV, dc, pm, an, cda, ct, cc, osl, vs, file, tf, ccl, cdd, ccs, cl, cld, csl, rfl, lkI, hcd, hcode, hvs, hfile, hcell⟩ := T.lk
  obtain ⟨ar, hpr, har⟩ := S.pr
  obtain ⟨nm, qn, N, bs, bm, sn, sub, ab, col, dd, k0, k1, k2, k3, k5, hC, hbm⟩ := T.o.cls
  cases hv with
  | @cons _ ua _ us ra hv =>
  cases ra
  have bk : ∀ b o, base.get? b = some o → s.heap.get? b = some o := fun b o e => (e0.bs b o e).1
  have X : K.In s.heap := e0.mod.kin.keeps bk
  have lim : s.heap.NoLimit := e0.mod.nolimit.keeps bk
  obtain ⟨t1, hx⟩ := exo_at e0.hok ha
  have hul : us.length = fs.length := hv.length.symm.trans hlen
  have KX : ∀ b o, K.lookup b = some o → b ≠ a ∧ b < s.heap.objs.size + 1 := fun b o e => by
    have h1 := e0.bs b o (e0.mod.kin b o e)
    refine ⟨fun z => ?_, Nat.lt_succ_of_lt (Heap.lt_size h1.1)⟩
    rw [z, ha] at h1
    cases h1.2
  have hloc : ∀ y ∈ (("self" : Str) :: fs).zip (Value.ref a :: us), (defScope st).names.lookup y.1 = some .local := fun y hy => (S.loc _ (List.of_mem_zip hy).1).1
  refine ks_codeAny_call_defAt hr.depth (X _ _ lkI) rfl lim (W.codeRec_of X hcd) rfl hb S.cell hloc (fun h1 hns hk1 => ?_) S.co S.gen S.kind
  -- the body
  have X1 : K.In h1 := X.keeps hk1
  have hx1 := hk1 _ _ hx
  have hbd := S.bd
  have hcd1 : W.clsIn K C = some { name := nm, bases := bs, mro := .ref C :: bm, ns := N, qualname := qn, hasDict := true, slotNames := sn, subclasses := sub, abstract := ab, collection := col, hasDel := false } := by unfold W.clsIn; rw [hC] <;> rfl
  have hsz1 : s.heap.objs.size < h1.objs.size := by
    obtain ⟨o, _, _, e1, _⟩ := hns
    exact Heap.lt_size e1
  generalize hBd : defBody st = bd at hbd ⊢
  obtain ⟨mb, hbn, hbb⟩ := e0.mod.blt
  cases hbd with
  | @mk tx j rest fs p0 p1 p2 p3 p4 p5 hrest hpp =>
  have hself : (fun y => ((("self" : Str) :: fs).zip (Value.ref a :: us)).reverse.lookup y) "self" = some (.ref a) := zip_look (i := 0) S.nd (by rw [List.length_cons, List.length_cons, hul]) rfl rfl
  refine ks_wpAt_execs_cons (ks_wpAt_Expr_any (ks_wpAt_MethodCall (ks_wpAt_super_base S.ks S.kc (by decide) rfl (hk1 _ _ (X _ _ lkI)) rfl hpr rfl (X1 _ _ hcode) rfl hvs hfile T.top ?_) (sup_form hpp)) (by simp [interactive, callEnv, newEnv, S.kind]))
  refine W.ks_loadName_global S.kind S.ks (loadGlobal_builtin (mb := mb) ((e0.mod.glob.keeps bk).keeps hk1) T.sup ((hbn.keeps bk).keeps hk1) ((hbb _ (by decide +kernel)).trans PyProof.Rows.Boot.«super») ⟨rfl, ?_⟩)
  refine wpAny_loadName_free S.kind S.kc rfl ⟨_, X1 _ _ hcell, rfl⟩ ?_
  rw [har]
  refine wpAny_loadName_local S.kind (S.loc _ List.mem_cons_self).1 hns hself ?_
  refine ks_wpAny_isType_cls (X1 _ _ hC) rfl ⟨rfl, ?_⟩
  refine ks_wpAny_call_super (X1 _ _ hC) rfl hx1 rfl (fun c e => nomatch e) (W.looks_mroIn X1 T.sub) (fun h2 e2 k2 => ?_)
  have X2 : K.In h2 := X1.keeps k2
  have hx2 := k2 _ _ hx1
  have I2 : W.InstAt h2 a _ C none := ⟨hx2, rfl, rfl, trivial⟩
  refine W.kxs_getMethod W.kxs_ValueError e2 (W.looks_opaque X2 T.op) ((W.looks_clsIn X2 hcd1).andThen .now) rfl X2 (by
    have q := T.su
    unfold W.ks_superIn at q
    rw [hcd1] at q
    exact q) (I2.type.andThen (W.looks_subIn X2 T.ve)) (W.ks_ne X2 I2 hcd1) (by decide) ?_
  refine W.kxs_callWith (i := "ValueError.__init__") (u := h2.objs.size) (x := a) rfl (evalArgs_plain (spliced_cons (Constant_str (k := j) (pos := p3) (spliced_nil ⟨Heap.get?_push_at rfl rfl, ?_⟩))))
  have k3 : ∀ b o, h2.get? b = some o → (h2.push (W.kxs_mw "ValueError.__init__" a)).get? b = some o := fun b o e => Heap.get?_push_of_some _ e
  refine call_mw (k3 _ _ (X2 _ _ hC)) (k3 _ _ hx2) (Heap.get?_push_at rfl rfl) (fun h4 t4 k4 hx4 => ?_) (by show 1 ≤ sizeLine; decide)
  have hLa : s.heap.objs.size ≠ a := fun z => by
    have := Heap.lt_size hx
    rw [← z] at this
    exact Nat.lt_irrefl _ this
  have k04 : ∀ b o, b ≠ a → h1.get? b = some o → h4.get? b = some o := fun b o hb e => k4 b o hb (k3 _ _ (k2 _ _ e))
  have X4 : K.In h4 := fun b o e => k04 b o (KX b o e).1 (X1 b o e)
  have hns4 : h4.Ns s.heap.objs.size (fun y => ((("self" : Str) :: fs).zip (Value.ref a :: us)).reverse.lookup y) := by
    obtain ⟨o, es, ep, e1, r⟩ := hns
    exact ⟨o, es, ep, k04 _ _ hLa e1, r⟩
  have hz4 : s.heap.objs.size + 1 ≤ h4.objs.size := by
    obtain ⟨o, _, _, e1, _⟩ := hns4
    exact Heap.lt_size e1
  refine wpAt_of_wpAny ?_
  refine asgs_run (L := s.heap.objs.size) (b0 := s.heap.objs.size + 1) T.o (by exact S.kind) (by rfl) (Nat.lt_succ_self _) hLa hself (by exact (S.loc _ List.mem_cons_self).1) hrest hv (fun i f u h1 h2 => zip_look (i := i + 1) S.nd (by rw [List.length_cons, List.length_cons, hul]) h1 h2) hlen (by show 0 + fs.length ≤ 900; have := S.small; omega)
    (fun f hf => ⟨by exact (S.loc _ (List.mem_cons_of_mem _ hf)).1, (S.loc _ (List.mem_cons_of_mem _ hf)).2, T.nf f hf⟩) X4 KX hns4 hz4 (.inl ⟨rfl, t4, hx4⟩) fun h5 t5 k5' hz5 e5 => ?_
  rw [List.append_nil] at e5
  have keep : ∀ b o, b ≠ a → s.heap.get? b = some o → h5.get? b = some o := fun b o hb e => k5' b o hb (Nat.lt_succ_of_lt (Heap.lt_size e)) (k04 b o hb (hk1 b o e))
  have na : ∀ b, H b = none → b ≠ a := fun b n z => by
    rw [z, ha] at n
    cases n
  have gens : AllBare s.gens := e0.bare
  rcases e5 with ⟨enil, t6, hx6⟩ | ⟨t6, dx, hnn, hx6, hdb, hda, mA, hmA, rel⟩
  · have hfs : fs = [] := by
      cases fs with
      | nil => rfl
      | cons f fs =>
        cases ys with
        | nil => cases hlen
        | cons y ys => simp at enil
    refine ⟨.non, H, rfl, gens, ⟨fun b o e n _ _ => keep b o (na b n) e, fun b o e n _ _ => ⟨o.slots, keep b o (na b n) e⟩, fun b o _ n _ => n, fun b o e _ => ?_, fun b xs q => q, fun b o u q => q, fun b ps q => ⟨#[], by rw [q]; simp⟩⟩, fun b o e => ?_, rfl, q0 hfs⟩
    · by_cases hb : b = a
      · exact ⟨_, by rw [hb]; exact hx6⟩
      · exact ⟨o, keep b o hb e⟩
    · by_cases hb : b = a
      · subst hb
        rw [ha] at e
        cases e
        exact exo_ok hx6
      · exact (e0.hok b o e).stay (fun c v hc z => keep c v (by
          rcases hc with hc | hc
          · rw [hc]; exact hb
          · exact at_ne ha hc exo_own) z) (fun c hc => hc) (fun c xs hc => hc)
  · have hfs : fs ≠ [] := fun z => by
      subst z
      have := List.eq_nil_of_length_eq_zero hlen
      subst this
      exact hnn rfl
    have hdn : H dx = none := e0.hok.fresh (Nat.le_of_succ_le hdb)
    have nd : ∀ b o, s.heap.get? b = some o → b ≠ dx := fun b o e z => by
      have h1 := Heap.lt_size e
      rw [z] at h1
      exact absurd hdb (Nat.not_le_of_lt (Nat.lt_succ_of_lt h1))
    refine ⟨.non, _, rfl, gens, ⟨fun b o e n _ _ => keep b o (na b n) e, fun b o e n _ _ => ⟨o.slots, keep b o (na b n) e⟩, fun b o e n _ => by rw [upd_ne (na b n), upd_ne (nd b o e)]; exact n, fun b o e _ => ?_,
      fun b xs q => by rw [upd_ne (at_ne ha q exo_tup), upd_ne (ne_of_none q hdn)]; exact q, fun b o u q => by rw [upd_ne (at_ne ha q exo_frz), upd_ne (ne_of_none q hdn)]; exact q, fun b ps q => ⟨#[], by rw [upd_ne (at_ne ha q exo_tbl), upd_ne (ne_of_none q hdn), q]; simp⟩⟩, fun b o e => ?_, rfl, q1 hfs dx hdn hda⟩
    · by_cases hb : b = a
      · exact ⟨_, by rw [hb]; exact hx6⟩
      · exact ⟨o, keep b o hb e⟩
    · by_cases hb : b = a
      · subst hb
        rw [upd_same] at e
        cases e
        exact exo_ok hx6
      · rw [upd_ne hb] at e
        by_cases hd : b = dx
        · subst hd
          rw [upd_same] at e
          cases e
          exact exd_ok hmA rel
        · rw [upd_ne hd] at e
          exact (e0.hok b o e).stay (fun c v hc z => keep c v (by
            rcases hc with hc | hc
            · rw [hc]; exact hb
            · exact at_ne ha hc exo_own) z) (fun c hc => by rw [upd_ne (at_ne ha hc exo_own), upd_ne (ne_of_none hc hdn)]; exact hc) (fun c xs hc => by rw [upd_ne (at_ne ha hc exo_tup), upd_ne (ne_of_none hc hdn)]; exact hc)
end
end My
namespace My
open PySem PySem.Spec PyProof.Rows L2
structure Er (P : Program) (K : PySem.W.Frag) (mg : Str → Option Value) (x : Str) (C fI : Addr) (fd : FuncData) (st : Stmt) (fs : List Str) : Prop where
  T : ErrT P K mg x C fI fd st fs
  S : ErrS st fs
  b : Binds K fd (("self" : Str) :: fs) []
  xf : XfC K C
theorem mk_ok {C : Addr} {fs : List Str} {vs : List V} {H : Hp} {Q : XK} (hl : vs.length = fs.length) (hz : vs.length ≤ 1000) (hn : fs ≠ []) (q : ∀ d, H d = none → Q (.ref C) (some d) (upd H d (.xd (fs.zip vs).reverse))) :
    vs.length ≤ 1000 ∧ ∀ a, H a = none → spErr C fs (.ref a :: (vs ++ [])) (upd H a (exo a C none))
      (fun v H2 => v = .non ∧ ∃ (d : Addr) (gs : List (Str × V)), H2 a = some (exo a C (some d)) ∧ H2 d = some (exd d gs) ∧ H d = none ∧ Q (.ref C) (some d) (upd (del H2 a) d (.xd gs))) (fun _ _ _ => False) := by
  refine ⟨hz, fun a ha => ⟨a, vs, by rw [List.append_nil], hl, upd_same, fun z => absurd z hn, fun _ d hd hda => ⟨rfl, d, (fs.zip vs).reverse, upd_same, ?_, ?_, ?_⟩⟩⟩
  · rw [upd_ne hda, upd_same]
  · rw [upd_ne hda] at hd
    exact hd
  · rw [upd_ne hda] at hd
    have e : upd (del (upd (upd (upd H a (exo a C none)) d (exd d (fs.zip vs).reverse)) a (exo a C (some d))) a) d (.xd (fs.zip vs).reverse) = upd H d (.xd (fs.zip vs).reverse) := by
      funext b
      by_cases h1 : b = d
      · rw [h1, upd_same, upd_same]
      · rw [upd_ne h1, upd_ne h1]
        by_cases h2 : b = a
        · rw [h2, del_same, ha]
        · rw [del_ne h2, upd_ne h2, upd_ne h1, upd_ne h2]
    rw [e]
    exact q d hd
section
variable {X : Cx} {x : Str} {C fI : Addr} {fd : FuncData} {st : Stmt} {fs : List Str} {e : Expr} {es : List Expr} {ta : TA} {p pos pos2 : Pos} {W : WX}
theorem ps_err (R : Er X.prog X.K X.mg x C fI fd st fs) (hr : Room 1 X.A) (hc : X.calm = true) (tk : Takes X W) (ha : PA X (e :: es) ta) (hg : Gl X x := by rfl)
    (hdb : (x == ("__debug__" : Str)) = false := by decide) (he : starEach (e :: es) X.env = (false, eval e X.env) :: starEach es X.env := by rfl) (hpl : (backTo pos (starEach es X.env)).any (·.1) = false := by rfl) :
    PS X (.Raise (some (.Call (.Name x p) (e :: es) [] pos)) none pos2) (fun _ σ H => tMkO C (spErr C fs) [] ta σ H fun cls d H' => W cls d σ H') :=
  ps_raise hc tk (pmk_oex (k := 0) R.T.o R.T.iC R.T.tI (ok_err R.T R.S) hr R.b .nil (fun _ _ _ _ _ _ _ z => z.elim) hg R.T.gC ha hdb he hpl)
end
end My
namespace My
open PySem PySem.Spec PyProof.Rows L2
def fi (K : PySem.W.Frag) (C : Addr) : Addr := match PySem.W.findIn K (.ref C) "__init__" with
  | some (some (.ref f)) => f
  | _ => 0
abbrev Ex (P : Program) (K : PySem.W.Frag) (mg : Str → Option Value) (x : Str) (st : Stmt) (fs : List Str) : Prop := Er P K mg x (fa mg x) (fi K (fa mg x)) (fdOf K (fi K (fa mg x))) st fs
end My
namespace My
open PySem PySem.Spec PyProof.Rows L2 He
def oexB (K : PySem.W.Frag) (C : Addr) : Bool := (match K.lookup C with
  | some ⟨.type t, _, .cls cd, sl⟩ => (match cd.mro, sl.toList with
    | .ref C' :: bm, [_, _, _, _, some (.builtin n), _] => decide (t = "type") && (decide (C' = C) && (decide (n = "ValueError.__new__") && (!cd.hasDel && (cd.hasDict && PySem.HandSPX.refsVE bm))))
    | _, _ => false)
  | _ => false) && (decide (PySem.W.findIn K (.ref C) "__setattr__" = some (some (.builtin "object.__setattr__"))) && (decide (PySem.W.subIn K (.ref C) (.type "BaseException") = some true) && (decide (PySem.W.typeIn K (.ref C) = some (.type "type")) && PySem.W.keepIn K (.ref C))))
theorem oexB_ok {K : PySem.W.Frag} {C : Addr} (h : oexB K C = true) : OexC K C := by
  obtain ⟨h1, h⟩ := ba h
  obtain ⟨h2, h⟩ := ba h
  obtain ⟨h3, h⟩ := ba h
  obtain ⟨h4, h5⟩ := ba h
  refine ⟨?_, of_decide_eq_true h2, of_decide_eq_true h3, of_decide_eq_true h4, h5⟩
  split at h1
  · rename_i t dd cd sl hl
    split at h1
    · rename_i C' bm k0 k1 k2 k3 n k5 hm hs
      obtain ⟨a1, h1⟩ := ba h1
      obtain ⟨a2, h1⟩ := ba h1
      obtain ⟨a3, h1⟩ := ba h1
      obtain ⟨a4, h1⟩ := ba h1
      obtain ⟨a5, a6⟩ := ba h1
      obtain rfl := of_decide_eq_true a1
      obtain rfl := of_decide_eq_true a2
      obtain rfl := of_decide_eq_true a3
      obtain ⟨nm, bs, mro, ns, q, hdct, sn, sub, ab, col, del⟩ := cd
      have e1 : mro = _ := hm
      have e2 : del = false := by simpa using a4
      have e3 : hdct = true := a5
      have e4 : sl = #[k0, k1, k2, k3, some (.builtin "ValueError.__new__"), k5] := by
        rw [← Array.toList_inj, hs]
      subst e1 e2 e3 e4
      exact ⟨_, _, _, _, _, _, _, _, _, _, _, _, _, _, _, hl, a6⟩
    · cases h1
  · cases h1
structure IniD where
  cls : Str
  st : Stmt
  fs : List Str
abbrev IniW : Type := Option (Str × Arguments × FuncBody × Scope × Addr × Addr)
def iniW (K : PySem.W.Frag) (C : Addr) : IniW := match K.lookup (fi K C) with
  | some ⟨_, _, .func fd, _⟩ => some (fd.name, fd.params, fd.body, fd.scope, fd.globals, fd.builtins)
  | _ => none
def IniD.val (d : IniD) : IniW := some ("__init__", defArgs d.st, .stmts (defBody d.st), defScope d.st, mainGlobals, builtinsNs)
def codeB (file : Str) (K : PySem.W.Frag) (c : Addr) : Bool := match K.lookup c with
  | some ⟨_, _, .fields vs, _⟩ => (match (vs[2]? : Option Value) with
    | some (.str f _) => decide (f = file)
    | _ => false)
  | _ => false
def cellB (K : PySem.W.Frag) (c C : Addr) : Bool := match K.lookup c with
  | some ⟨_, _, .cell (some (.ref D)), _⟩ => decide (D = C)
  | _ => false
def iniB (file : Str) (K : PySem.W.Frag) (C : Addr) : Bool := match K.lookup (fi K C) with
  | some ⟨_, _, .func fd, _⟩ => decide (fd.defaults = .none) && (match fd.code, fd.closure with
    | .ref c, [(n, cc)] => decide (n = "__class__") && (PySem.W.codeIn K (.ref c) fd.qualname && (codeB file K c && cellB K cc C))
    | _, _ => false)
  | _ => false
def errB (file : Str) (K : PySem.W.Frag) (C : Addr) (fs : List Str) : Bool := oexB K C && (decide (PySem.W.findIn K (.ref C) "__init__" = some (some (.ref (fi K C)))) && (decide (PySem.W.typeIn K (.ref (fi K C)) = some (.type "function")) && (iniB file K C &&
  (decide (PySem.W.ks_superIn K C C "__init__" = some (some (.builtin "ValueError.__init__"))) && (decide (PySem.W.subIn K (.ref C) (.type "ValueError") = some true) && (decide (PySem.W.mroIn K C (.ref C) = some true) && (decide (PySem.W.nsIn K cStatics "thirdparty.any" = some none) &&
  ((fs.all fun f => decide (PySem.W.findIn K (.ref C) f = some none)) && xfB K C))))))))
theorem err_ok {P : Program} {K : PySem.W.Frag} {mg : Str → Option Value} {d : IniD} (gC : mg d.cls = some (.ref (fa mg d.cls))) (h : errB P.main.file K (fa mg d.cls) d.fs = true) (hi : iniW K (fa mg d.cls) = d.val) (S : ErrS d.st d.fs) (sup : mg "super" = none) (top : (P.main.scope.names.lookup ("super" : Str)).isSome = false)
    (hb : ∀ (q : Str) (kV dc pm : Value) (an : Option Addr) (cdv ct : Value) (cc : Addr) (us : List Value), us.length = (("self" : Str) :: d.fs).length → bindArgs (PySem.W.ksFn "__init__" q (defArgs d.st) (defBody d.st) (defScope d.st) .none kV dc pm an cdv ct cc) ⟨us, []⟩ = pure ((("self" : Str) :: d.fs).zip us)) :
    Ex P K mg d.cls d.st d.fs := by
  obtain ⟨h1, h⟩ := ba h
  obtain ⟨h2, h⟩ := ba h
  obtain ⟨h3, h⟩ := ba h
  obtain ⟨h4, h⟩ := ba h
  obtain ⟨h5, h⟩ := ba h
  obtain ⟨h6, h⟩ := ba h
  obtain ⟨h7, h⟩ := ba h
  obtain ⟨h8, h⟩ := ba h
  obtain ⟨h9, h10⟩ := ba h
  have key : ∃ (oc : Value) (od : Option Addr) (q : Str) (kV dc pm : Value) (an : Option Addr) (cda : Addr) (ct : Value) (cc : Addr) (osl : Array (Option Value)) (vs : Array Value) (file : Str) (tf : Tok) (ccl : Value) (cdd : Option Addr) (ccs : Array (Option Value)) (cl : Value) (cld : Option Addr) (csl : Array (Option Value)),
      fdOf K (fi K (fa mg d.cls)) = PySem.W.ksFn "__init__" q (defArgs d.st) (defBody d.st) (defScope d.st) .none kV dc pm an (.ref cda) ct cc ∧ K.lookup (fi K (fa mg d.cls)) = some ⟨oc, od, .func (fdOf K (fi K (fa mg d.cls))), osl⟩ ∧ PySem.W.codeIn K (.ref cda) q = true ∧ K.lookup cda = some ⟨ccl, cdd, .fields vs, ccs⟩ ∧ vs[2]? = some (.str file tf) ∧ ((P.main.file : Str) == file) = true ∧ K.lookup cc = some ⟨cl, cld, .cell (some (.ref (fa mg d.cls))), csl⟩ := by
    unfold iniB at h4
    unfold iniW at hi
    unfold fdOf
    split at h4
    · rename_i oc od fd osl hl
      rw [hl] at hi ⊢
      obtain ⟨a1, h4⟩ := ba h4
      split at h4
      · rename_i c n cc hc hcl
        obtain ⟨a2, h4⟩ := ba h4
        obtain ⟨a3, h4⟩ := ba h4
        obtain ⟨a4, a5⟩ := ba h4
        obtain ⟨n1, n2, n3, n4, n5, n6, n7, n8, n9, n10, n11, n12, n13, n14, n15⟩ := fd
        have e2 : (some (n1, n3, n4, n5, n6, n15) : IniW) = some (("__init__" : Str), defArgs d.st, FuncBody.stmts (defBody d.st), defScope d.st, mainGlobals, builtinsNs) := hi
        simp only [Option.some.injEq, Prod.mk.injEq] at e2
        obtain ⟨e1, e3, e4, e5, e6, e7⟩ := e2
        have e8 : n8 = .none := of_decide_eq_true a1
        have e9 : n13 = .ref c := hc
        have e10 : n7 = [(n, cc)] := hcl
        have e11 : n = "__class__" := of_decide_eq_true a2
        subst e1 e3 e4 e5 e6 e7 e8 e9 e10 e11
        unfold codeB at a4
        split at a4
        · rename_i ccl cdd vs ccs hk
          split at a4
          · rename_i file tf hv
            unfold cellB at a5
            split at a5
            · rename_i cl cld D csl hcc
              obtain rfl := of_decide_eq_true a5
              have ef : file = P.main.file := of_decide_eq_true a4
              exact ⟨oc, od, n2, n9, n10, n11, n12, c, n14, cc, osl, vs, file, tf, ccl, cdd, ccs, cl, cld, csl, rfl, rfl, a3, hk, hv, by rw [ef]; exact beq_self_eq_true _, hcc⟩
            · cases a5
          · cases a4
        · cases a4
      · cases h4
    · cases h4
  refine ⟨⟨oexB_ok h1, gC, of_decide_eq_true h2, of_decide_eq_true h3, key, of_decide_eq_true h5, of_decide_eq_true h6, of_decide_eq_true h7, of_decide_eq_true h8, sup, top, fun f hf => of_decide_eq_true (List.all_eq_true.mp h9 f hf)⟩, S, ?_, xfB_ok h10⟩
  obtain ⟨oc, od, q, kV, dc, pm, an, cda, ct, cc, osl, vs, file, tf, ccl, cdd, ccs, cl, cld, csl, e, _⟩ := key
  rw [e]
  exact .all (hb q kV dc pm an (.ref cda) ct cc)
def refsM (o : Obj) : List Addr := match o.data with
  | .seq its _ => its.toList.flatMap refV
  | .dict es _ => es.toList.flatMap fun e => refV e.val
  | .func fd => refV fd.code ++ (refV fd.defaults ++ (refV fd.kwdefaults ++ fd.closure.map (·.2)))
  | .cls cd => [cd.ns]
  | _ => []
def newM (g : Addr → Option Obj) (as : List Addr) : List Addr := as.flatMap fun a => match g a with
  | some o => refsM o
  | none => []
def asM (g : Addr → Option Obj) : Nat → List Addr → List Addr
  | 0, as => as
  | n + 1, as => as ++ asM g n (newM g as)
structure SaysM (fa : List Fa) (fn : List DefD) (ts : List Tab) (tf : List Defn) (ex : PySem.W.Frag → Bool) (ini : List IniD) (w : World) (h : Heap) (K : PySem.W.Frag) : Prop where
  t : SaysT fa fn ts w K
  more : ex K = true
  hd : ∀ p ∈ tf, PySem.W.codeHdIn K (cT K p).1 (cT K p).2 = true
  out : ∀ p ∈ tf, K.lookup (cT K p).2 = none
  empty : ∀ p ∈ tf, h.get? (cT K p).2 = some { cls := .none, data := .fields #[] }
  inis : ini.map (fun d => iniW K (ga K d.cls)) = ini.map IniD.val
abbrev AlM : Type := (AlT × Bool) × List IniW
def obsK (fa : List Fa) (fn : List DefD) (ts : List Tab) (tf : List Defn) (ex : PySem.W.Frag → Bool) (ini : List IniD) (g : Addr → Option Obj) (K : PySem.W.Frag) : AlM := ((obsT fa fn ts K, ex K && tabsB g tf K), ini.map fun d => iniW K (ga K d.cls))
def obsM (n : Nat) (fa : List Fa) (fn : List DefD) (ts : List Tab) (tf : List Defn) (ex : PySem.W.Frag → Bool) (ini : List IniD) (g : Addr → Option Obj) : AlM := obsK fa fn ts tf ex ini g (frT g (cStatics :: sysModules :: asM g n [mainGlobals]))
def valM (fn : List DefD) (ts : List Tab) (ini : List IniD) (w : World) : AlM := ((valT fn ts w, true), ini.map IniD.val)
theorem saysM_of {as : List Addr} {fa : List Fa} {fn : List DefD} {ts : List Tab} {tf : List Defn} {ex : PySem.W.Frag → Bool} {ini : List IniD} {w : World} {h : Heap} (e : obsK fa fn ts tf ex ini h.get? (frT h.get? as) = valM fn ts ini w) : SaysM fa fn ts tf ex ini w h (frT h.get? as) := by
  have e1 : obsT fa fn ts (frT h.get? as) = valT fn ts w := congrArg (fun z : AlM => z.1.1) e
  have e2 : (ex (frT h.get? as) && tabsB h.get? tf (frT h.get? as)) = true := congrArg (fun z : AlM => z.1.2) e
  have e3 : ini.map (fun d => iniW (frT h.get? as) (ga (frT h.get? as) d.cls)) = ini.map IniD.val := congrArg (fun z : AlM => z.2) e
  obtain ⟨h1, h2⟩ := ba e2
  have key : ∀ p ∈ tf, PySem.W.codeHdIn (frT h.get? as) (cT (frT h.get? as) p).1 (cT (frT h.get? as) p).2 = true ∧ ∃ o, h.get? (cT (frT h.get? as) p).2 = some o ∧ emptyTab o = true := fun p hp => by
    obtain ⟨h3, h4⟩ := ba (List.all_eq_true.mp h2 p hp)
    refine ⟨h3, ?_⟩
    cases q : h.get? (cT (frT h.get? as) p).2 with
    | none =>
      rw [q] at h4
      cases h4
    | some o =>
      rw [q] at h4
      exact ⟨o, rfl, h4⟩
  exact ⟨e1, h1, fun p hp => (key p hp).1, fun p hp => by
    obtain ⟨_, o, q, z⟩ := key p hp
    exact frT_none q z, fun p hp => by
    obtain ⟨_, o, q, z⟩ := key p hp
    rw [q, emptyTab_eq z], e3⟩
def hookM (n : Nat) (fa : List Fa) (fn : List DefD) (ts : List Tab) (tf : List Defn) (ex : PySem.W.Frag → Bool) (ini : List IniD) : PySem.W.Hook where
  α := AlM
  obs := fun s => obsM n fa fn ts tf ex ini s.heap.get?
  val := fun w => valM fn ts ini w
  says := fun w h => ∃ K : PySem.W.Frag, K.In h ∧ SaysM fa fn ts tf ex ini w h K
  of := fun _ _ e => ⟨_, frT_in, saysM_of e⟩
  keeps := fun _ _ _ ⟨K, hK, c⟩ k => ⟨K, PySem.W.Frag.In.keeps hK k, ⟨c.t, c.more, c.hd, c.out, fun p hp => k _ _ (c.empty p hp), c.inis⟩⟩
theorem obsM_eq {n : Nat} {fa : List Fa} {fn : List DefD} {ts : List Tab} {tf : List Defn} {ex : PySem.W.Frag → Bool} {ini : List IniD} {g : Addr → Option Obj} {s : Shared} (h : ∀ a, g a = s.heap.get? a) : obsM n fa fn ts tf ex ini g = (hookM n fa fn ts tf ex ini).obs s := by
  have e : g = s.heap.get? := funext h
  rw [e] <;> rfl
theorem SaysM.ini {fa : List Fa} {fn : List DefD} {ts : List Tab} {tf : List Defn} {ex : PySem.W.Frag → Bool} {ini : List IniD} {w : World} {h : Heap} {K : PySem.W.Frag} (c : SaysM fa fn ts tf ex ini w h K) {d : IniD} (hd : d ∈ ini) : iniW K (ga K d.cls) = d.val := by
  obtain ⟨i, hi, e⟩ := List.mem_iff_getElem.mp hd
  have e2 := congrArg (fun l => l[i]?) c.inis
  simp only [List.getElem?_map, List.getElem?_eq_getElem hi, Option.map_some, e] at e2
  exact Option.some.inj e2
theorem fa_ga {K : PySem.W.Frag} {h : Heap} {mg : Str → Option Value} {fa0 : List Fa} {fn : List DefD} {x : Str} (X : K.In h) (G : h.Ns mainGlobals mg) (c : SaysD fa0 fn K) (hg : Fa.glo x ∈ fa0) : mg x = some (.ref (My.fa mg x)) ∧ My.fa mg x = ga K x := by
  have e := glo_ok X G (c.facts hg)
  have e2 := fa_eq e
  rw [e2]
  exact ⟨e, rfl⟩
end My
namespace My
open PySem PySem.Spec PyProof.Rows L2
abbrev Clause := Value × Nat × (Addr → Value → Option Addr → TS)
def wiped (i : Nat) (D : Ends) : Ends := { nx := fun τ G => D.nx (τ.set i none) G, rt := D.rt, bk := fun τ G => D.bk (τ.set i none) G, ct := fun τ G => D.ct (τ.set i none) G }
def wAsMany (K : PySem.W.Frag) (Wo : WX) (D : Ends) : List Clause → WX
  | [] => Wo
  | (c, i, ts) :: more => fun cls d σ H => ∃ b, PySem.W.exmOne K cls c = some b ∧ (b = true → ∀ a, H a = none → ts a cls d (wiped i D) (σ.set i (some (.ref a))) H) ∧ (b = false → wAsMany K Wo D more cls d σ H)
inductive ClausesOk (X : Cx) : List ExceptHandler → List Clause → Prop
  | nil : ClausesOk X [] []
  | cons {x n : Str} {c : Value} {i : Nat} {ts : Addr → Value → Option Addr → TS} {s0 : Stmt} {suite : List Stmt} {p1 p2 : Pos} {hds : List ExceptHandler} {l : List Clause} (hi : X.N[i]? = some n) (hl : X.env.kindOf n = some .local) (hc : Names X x c)
      (hsu : ∀ (a : Addr) (oe : Obj) (cls : Value) (d : Option Addr) (pn : List (Addr × Obj)), Zc cls d oe → (∃ vs, oe.data = .fields vs) → PSs (X.suite a ((a, oe) :: pn)) (s0 :: suite) (ts a cls d)) (r : ClausesOk X hds l) :
      ClausesOk X (.ExceptHandler (some (.Name x p1)) (some n) (s0 :: suite) p2 :: hds) ((c, i, ts) :: l)
section
variable {X : Cx} {pins : List (Addr × Obj)} {D : Ends} {Wo : WX}
theorem clauses_run (hs : X.stack = X.env :: X.outer) (hf : X.env.frame = some X.env.locals) (hN : X.N.Nodup) (ok : X.Ok) (tk : Takes X Wo) {a : Addr} {B : Heap} {sI s' : Shared} {σ : L2.St} {H : Hp} {cls : Value} {d : Option Addr} {h3 : Heap}
    (J : Inv X pins σ H sI) (nb : ∀ b o, sI.heap.get? b = some o → b ∉ frs X.stack → B.get? b = some o) (up : sI.heap.UpToSlots h3) (fl : HandSPX.FlyingZ B (X.env :: X.outer) a (Zc cls d) h3) (na : H a = none) (os : s'.os = sI.os) (ag : AllBare s'.gens)
    {hds : List ExceptHandler} {l : List Clause} (ck : ClausesOk X hds l) : wAsMany X.K Wo D l cls d σ H →
      wpAny (model X.prog X.w) X.A (handleBy (.ref a) X.env hds) (SP X pins D) X.xe { s' with heap := h3 } := by
  have J3 : Inv X pins σ H { s' with heap := h3 } := J.landed nb fl.1 up os ag
  obtain ⟨oe3, vs3, he3, hz3, hd3⟩ := fl.there
  have away : a ∉ frs (X.env :: X.outer) := fun hm => by
    obtain ⟨_, ob, eb, nof⟩ := (fl.2.2.1).mem hm
    rw [he3] at eb
    cases eb
    exact nof _ hd3
  have nL : a ≠ X.env.locals := fun z => away (by
    rw [z]
    exact List.mem_filterMap.mpr ⟨X.env, List.mem_cons_self, hf⟩)
  have nF : a ∉ X.fs := fun hm => by
    obtain ⟨e, he, q⟩ := List.mem_filterMap.mp hm
    exact away (List.mem_filterMap.mpr ⟨e, .tail _ he, q⟩)
  have S3 := J3.suite he3 hd3 na nL nF
  have LT : PySem.W.Looks (model X.prog X.w) h3 (typeOf (.ref a)) cls := fun _ _ _ _ k q => wpAny_typeOf_ref (k _ _ he3) (by rw [hz3.1]; exact q)
  induction ck with
  | nil =>
    intro w
    refine wpAny_handleBy_nil ?_
    obtain ⟨_, _, _, oe, vs, tr, _, _, he, _, hd, h1, _⟩ := id fl
    have out : wpAny (model X.prog X.w) X.A (setFlight (.ref a) X.env.frame) (fun _ s4 => wpAny (model X.prog X.w) X.A (throw (.ref a) : Sem Flow) (SP X pins D) X.xe s4) X.xe { s' with heap := h3 } := by
      rw [hf]
      refine HandSPX.setFlight_upZ fl fun h4 held up4 => wpAny_throw (tk _ _ ?_)
      exact ⟨a, B, sI, pins, σ, H, cls, d, rfl, J, nb, up.trans up4, .inr (.inr (by rw [hs]; exact held)), na, os, ag, w⟩
    unfold PySem.passOn
    refine wpAny_bind (wpAny_field he hd h1 ?_)
    rw [if_neg (by simp : ¬ ((Value.ref tr == Value.none) = true))]
    first
      | exact wpAny_bind out
      | exact wpAny_bind (wpAny_pure (wpAny_bind out))
  | @cons x n c i ts s0 suite p1 p2 hds l hi hl hc hsu r ih =>
    rintro ⟨b, hb, yes, no⟩
    refine wpAny_handleBy_cons (codeAny_handlers_test ?_) (fun q => by cases q)
    have look := PySem.W.exm_one (M := model X.prog X.w) J3.kIn LT hb
    have name : ∀ {Q : Value → Shared → Prop} {E : Value → Shared → Prop}, Q c { s' with heap := h3 } → wpAny (model X.prog X.w) (X.A.mark (some (.ref a))) (eval (.Name x p1) X.env) Q E { s' with heap := h3 } := fun q => by
      rcases hc with ⟨hg, hdb, hm | ⟨hm, hv, hn⟩⟩
      · exact ld_glob (X := X.suite a ((a, oe3) :: (X.pn ++ pins))) S3 hg hm q hdb
      · exact ld_blt (X := X.suite a ((a, oe3) :: (X.pn ++ pins))) S3 hg hm hv q hn hdb
    refine name (look.here ?_)
    cases b with
    | false => exact ih (no rfl)
    | true =>
      refine codeAny_handlers_suite_as (HandSPX.lands_againZ fl fun h4 fl4 up4 => ?_)
      have J4 : Inv X pins σ H { s' with heap := h4 } := J.landed nb fl4.1 (up.trans up4) os ag
      obtain ⟨oe4, vs4, he4, hz4, hd4⟩ := fl4.there
      refine store_ok (X := X.suite a ((a, oe4) :: (X.pn ++ pins))) (v := .ref a) (J4.suite he4 hd4 na nL nF) hN hi (.inl hl) rfl (fun s5 S5 => ?_) (.inr hl)
      have gone : ∀ {τ : L2.St} {G : Hp} {s6 : Shared} {Q : Shared → Prop}, Inv (X.suite a ((a, oe4) :: (X.pn ++ pins))) [] τ G s6 → (∀ s7, Inv X pins (τ.set i none) G s7 → Q s7) →
          wpAny (model X.prog X.w) X.A (do bindName X.env n .none; unbindBehindTheSuite X.env n p2) (fun _ s7 => Q s7) X.xe s6 := fun S6 hq => gone_ok (S6.unsuite ok) hN hi hl hq
      refine wpAny_mono ((hsu a oe4 cls d (X.pn ++ pins) hz4 ⟨_, hd4⟩).run [] s5 _ H _ S5 (yes rfl a na)) (fun f s6 he => ?_) (fun _ _ z => z.elim)
      cases f with
      | ret u =>
        obtain ⟨v, τ, G, S6, rv, q⟩ := he
        exact gone S6 fun s7 J7 => ⟨v, _, _, J7, rv, q⟩
      | next => obtain ⟨τ, G, S6, q⟩ := he; exact gone S6 fun s7 J7 => ⟨_, _, J7, q⟩
      | brk => obtain ⟨τ, G, S6, q⟩ := he; exact gone S6 fun s7 J7 => ⟨_, _, J7, q⟩
      | cont => obtain ⟨τ, G, S6, q⟩ := he; exact gone S6 fun s7 J7 => ⟨_, _, J7, q⟩
theorem ps_tryAs {body : List Stmt} {h0 : ExceptHandler} {hds : List ExceptHandler} {l : List Clause} {tb : WX → TS} {pos : Pos} (hs : X.stack = X.env :: X.outer) (hf : X.env.frame = some X.env.locals) (hN : X.N.Nodup) (tk : Takes X Wo)
    (hb : ∀ (W : WX) (pn : List (Addr × Obj)) (xe : Value → Shared → Prop), Takes (X.tr pn xe) W → PassesOwn (model X.prog X.w) X.A X.env xe → PSs (X.tr pn xe) body (tb W)) (ck : ClausesOk X (h0 :: hds) l) :
    PS X (.Try body (h0 :: hds) [] [] pos) (fun D σ H => tb (fun cls d τ G => τ.length = X.N.length → wAsMany X.K Wo D l cls d τ G) D σ H) := by
  refine ⟨fun pins s σ H D I h => ?_⟩
  have ok := I.ok
  have hfr : X.A.frames = some (X.env :: X.outer) := ok.frames.trans (by rw [hs])
  refine wpAny_Try_except (wpAny_mono ((hb (fun cls d τ G => τ.length = X.N.length → wAsMany X.K Wo D l cls d τ G) (X.pn ++ pins) (fun e s1 => wpAny (model X.prog X.w) X.A (noteFrame e X.env) (fun _ s2 => wpAny (model X.prog X.w) X.A (setFlight e none) (fun _ s3 =>
    wpAny (model X.prog X.w) X.A (handleBy e X.env (h0 :: hds)) (SP X pins D) X.xe s3) X.xe s2) X.xe s1) (fun u s' xx => ?_) PassesOwn.looking).run [] s σ H D (I.toTry _) h) (fun f s1 he => ?_) (fun _ _ z => z))
  · obtain ⟨a, B, sI, pins', τ, G, cls, d, rfl, J', nb, up, sky, na, os, ag, w⟩ := xx
    rw [hs] at sky
    refine Sky.land Zc.steady hfr hf sky fun h3 fl up3 => ?_
    exact clauses_run hs hf hN ok tk (J'.ofTry ok) nb (up.trans up3) fl na os ag ck (w J'.len)
  · cases f with
    | ret u => obtain ⟨v, τ, G, J', rv, q⟩ := he; exact ⟨v, τ, G, J'.ofTry ok, rv, q⟩
    | next => obtain ⟨τ, G, J', q⟩ := he; exact wpAny_execs_nil ⟨τ, G, J'.ofTry ok, q⟩
    | brk => obtain ⟨τ, G, J', q⟩ := he; exact ⟨τ, G, J'.ofTry ok, q⟩
    | cont => obtain ⟨τ, G, J', q⟩ := he; exact ⟨τ, G, J'.ofTry ok, q⟩
end
end My
namespace My
open PySem PySem.Spec PyProof.Rows L2
def rIsX (K : PySem.W.Frag) (D a : Addr) (cls : Value) (d : Option Addr) : List V → Hp → VK → Prop := fun xs H Q => ∃ (c : V) (cv : Value) (b : Bool), cls = .ref D ∧ xs = [.ref a, c] ∧ (∀ u, RelV c u → u = cv) ∧ PySem.W.kitOne K (.ref D) cv = some b ∧
  (d = none ∨ ∃ (dd : Addr) (fs : List (Str × V)), d = some dd ∧ H dd = some (.xd fs)) ∧ Q (.bl b) H
theorem call_isX {X : Cx} {a D : Addr} {cls : Value} {d : Option Addr} {oe : Obj} {pn : List (Addr × Obj)} (C : ExcC X.K D) (hz : Zc cls d oe) (hf : ∃ vs, oe.data = .fields vs) : CallR (X.suite a ((a, oe) :: pn)) (.builtin "isinstance") (rIsX X.K D a cls d) := by
  intro pins s σ H xs us Q I r h
  obtain ⟨c, cv, b, rfl, rfl, hcv, e, hd, q⟩ := h
  cases r with
  | cons rx rr =>
  cases rr with
  | cons rt rr =>
  cases rr
  cases rx
  have ec := hcv _ rt
  subst ec
  obtain ⟨hget, _⟩ := I.pin (a, oe) (List.mem_append.mpr (.inl List.mem_cons_self))
  obtain ⟨vs, hv⟩ := hf
  have hcl : (PySem.W.clsIn X.K D).isSome = true := by
    obtain ⟨cd, hc, _⟩ := PySem.W.any_some C.hd
    rw [hc]
    rfl
  have J : ∃ od, PySem.W.InstAt s.heap a oe D od := by
    rcases hd with rfl | ⟨dd, fs, rfl, hdd⟩
    · exact ⟨none, hget, hz.1, by unfold PySem.W.notCls; rw [hv] <;> rfl, by rw [hz.2]; trivial⟩
    · obtain ⟨mA, ⟨o, es, ep, ho, _⟩, _⟩ := (show ObjOk X.prog X.w H s.heap dd (.xd fs) from I.hok dd _ hdd)
      exact ⟨some o, hget, hz.1, by unfold PySem.W.notCls; rw [hv] <;> rfl, by rw [hz.2]; exact ho⟩
  obtain ⟨od, J⟩ := J
  exact PySem.W.kia_one (PySem.W.kitx_exc hcl C.hg C.hk C.hs C.ha C.hn C.ht C.hm) I.kIn J e (fun z => nomatch z) fun tk => ⟨.bl b, H, I.kept (t' := tk) fun _ _ z => z, rfl, q⟩
end My
namespace My
open PySem PySem.Spec PyProof.Rows L2
section
variable {P : Program} {w : World} {A : Around} {E : Value → Shared → Prop} {s : Shared}
end
end My
namespace My
open PySem PySem.Spec PyProof.Rows L2
def many : List Int → Nat
  | [] => 0
  | n :: r => if n ∈ r then many r else many r + 1
end My
namespace My
open PySem PySem.Spec PyProof.Rows L2
def KdE (p : Key × V) (e : DictEntry) : Prop := ∃ x t, p.1 = Sum.inr x ∧ e.key = .str x t ∧ RelV p.2 e.val
def KDo (K : PySem.W.Frag) (w : World) (a : Addr) (kvs : List (Key × V)) : Prop := ∃ (es : List DictEntry) (n : Nat), K.lookup a = some ⟨.type "dict", none, .dict es.toArray n, #[]⟩ ∧ PySem.W.KeysLit w.params es ∧ (a == sysModules) = false ∧ kvs.length ≤ sizeLine ∧ Paired KdE kvs es ∧ (kvs.map (·.1)).Nodup
theorem kdo_pairs {P : Program} {w : World} : ∀ {kvs : List (Key × V)} {es : List DictEntry}, Paired KdE kvs es →
    ∃ vs : List (Key × Value), KV kvs vs ∧ Pairs (mixKind P w) es vs ∧ vs.map (·.1) = kvs.map (·.1) := by
  intro kvs es hp
  induction hp with
  | nil => exact ⟨[], .nil, .nil, rfl⟩
  | @cons p e kvs es h r ih =>
    obtain ⟨vs, h1, h2, h3⟩ := ih
    obtain ⟨x, t, ep, ek, rv⟩ := h
    obtain ⟨k, v⟩ := p
    obtain rfl : k = Sum.inr x := ep
    refine ⟨(Sum.inr x, e.val) :: vs, .cons ⟨rfl, rv⟩ h1, .cons ?_ rfl h2, by rw [List.map_cons, List.map_cons, h3]⟩
    rw [ek]
    exact mixKind_str P w x t
theorem kdo_at {P : Program} {w : World} {K : PySem.W.Frag} {a : Addr} {kvs : List (Key × V)} {h : Heap} (D : KDo K w a kvs) (X : K.In h) : kvs.length ≤ sizeLine ∧ (a == sysModules) = false ∧ ∃ vs, KV kvs vs ∧ h.DictOf (mixKind P w) a vs := by
  obtain ⟨es, n, hl, hk, low, hz, hp, nd⟩ := D
  obtain ⟨vs, h1, h2, h3⟩ := kdo_pairs (P := P) (w := w) hp
  refine ⟨hz, low, vs, h1, _, es.toArray, n, X _ _ hl, ⟨rfl, rfl, rfl⟩, rfl, fun e he => ?_, h2, by rw [h3]; exact nd⟩
  obtain ⟨x, t, e1, e2⟩ := hk.all e (by simpa using he)
  exact ⟨Sum.inr x, by rw [e1]; exact mixKind_str P w x t, e2⟩
section
variable {X : Cx} {a : Addr} {kvs : List (Key × V)}
def rKIx (K : PySem.W.Frag) (w : World) : R2 := fun x y H Q => ∃ a kvs k v, x = .ref a ∧ KDo K w a kvs ∧ y = kV k ∧ valV kvs k = some v ∧ Q v H
theorem ix_kd : IxR X (rKIx X.K X.w) := by
  intro value slice pins s σ H x y v u Q I rx ry h hs
  obtain ⟨a, kvs, k, r, rfl, D, rfl, hv, q⟩ := h
  obtain rfl : v = Value.ref a := rx
  obtain ⟨_, _, vs, rel, dd⟩ := kdo_at (P := X.prog) D I.kIn
  obtain ⟨w', hw, rw'⟩ := RelO.some_of (v := r) (o := valueAt vs k) (by rw [← hv]; exact rel.val k)
  exact tail_any dd.typeIs slot_dict_getitem.lookup (wpAny_getItem_of (kV_is ry) dd.mapOf hw ⟨r, H, I.tok _, rw', q⟩) hs
end
end My
namespace Pu
open PySem PySem.Spec PyProof.Rows L2 My
class Tbs where
  T : List (Addr × Str)
instance (priority := low) tbs0 : Tbs := ⟨[]⟩
class Nls where
  nl : List Key → Bool
instance (priority := low) nls0 : Nls := ⟨fun _ => false⟩
variable [Tbs] [Nls]
inductive D where
  | non | bl (b : Bool) | int (i : Int) | str (s : Str)
  | tup (xs : List D) | lst (xs : List D)
  | dK (kvs : List (Key × D)) | dT (kvs : List (List Key × D)) | kd (kvs : List (Key × D))
  | ins (c : Str) (fs : List (Str × D))
  | dN (kvs : List (D × D))
  | scr (xs : List Int)
  | ty (n : String) | cl (c : Str)
  deriving Inhabited
structure Bs where
  K : PySem.W.Frag
  w : World
  mg : Str → Option Value
def bs (X : Cx) : Bs := ⟨X.K, X.w, X.mg⟩
abbrev Bs.cls (B : Bs) (c : Str) : Addr := fa B.mg c
mutual
/-- data as a key of a dict: tuples of what can be a key, nested -/
def nkD : D → Option NestedKey
  | .non => some .none
  | .bl b => some (.num (if b = true then 1 else 0))
  | .int i => some (.num i)
  | .str s => some (.text s)
  | .tup ds => (nkL ds).map NestedKey.tup
  | _ => none
def nkL : List D → Option (List NestedKey)
  | [] => some []
  | d :: ds => match nkD d, nkL ds with
    | some k, some ks => some (k :: ks)
    | _, _ => none
end
def ndEntry (w : World) (x : NestedKey × Addr × Value) : DictEntry := ⟨NestedKey.hash w x.1, .ref x.2.1, x.2.2⟩
def NDf (w : World) (a : Addr) (xs : List (NestedKey × Addr × Value)) : Heap → Prop := fun h => (a == sysModules) = false ∧ xs.length ≤ sizeLine ∧
  ∃ (o : Obj) (es : Array DictEntry) (ep : Nat), h.get? a = some o ∧ o.ExactDict ∧ o.data = .dict es ep ∧ es.toList = xs.map (ndEntry w) ∧ (xs.map (·.1)).Nodup
abbrev NDo (w : World) (a : Addr) (xs : List (NestedKey × Addr × Value)) : HO := .ext (NDf w a xs)
theorem nd_noCode (w : World) (a : Addr) (xs : List (NestedKey × Addr × Value)) (c : Addr) (q : Str) : NDo w a xs ≠ LamX.CodeO c q := fun e => by
  injection e with e
  let fo : Obj := { cls := .none, data := .fields #[.none, .str q 0] }
  let h : Heap := { objs := Array.replicate (c + 1) fo }
  have all : ∀ b o, h.get? b = some o → o = fo := fun b o hb => by
    unfold Heap.get? at hb
    have : h.objs[b]? = if b < c + 1 then some fo else none := Array.getElem?_replicate
    rw [this] at hb
    by_cases hl : b < c + 1
    · rw [if_pos hl] at hb
      exact (Option.some.inj hb).symm
    · rw [if_neg hl] at hb
      cases hb
  have hc : h.get? c = some fo := by
    unfold Heap.get?
    have : h.objs[c]? = some fo := by
      show (Array.replicate (c + 1) fo)[c]? = some fo
      rw [Array.getElem?_replicate, if_pos (Nat.lt_succ_self c)]
    rw [this]
  have hn : NDf w a xs h := by
    rw [e]
    exact ⟨fo, #[.none, .str q 0], 0, hc, rfl, rfl⟩
  obtain ⟨_, _, o, es, ep, h1, _, h2, _⟩ := hn
  rw [all a o h1] at h2
  cases h2
def RdK (G : Hp) (a : Addr) (kvs : List (Key × V)) : Prop := G a = some (.dK kvs) ∨ (Nls.nl (kvs.map (·.1)) = false ∧ ∃ o, G a = some (.frz o (.dK kvs)))
theorem RdK.rd {G : Hp} {a : Addr} {kvs : List (Key × V)} (h : RdK G a kvs) : Rd G a (.dK kvs) := h.imp id fun z => z.2
mutual
inductive Rep (B : Bs) (G : Hp) : V → D → Prop
  | non : Rep B G .non .non
  | bl (b : Bool) : Rep B G (.bl b) (.bl b)
  | int (i : Int) : Rep B G (.int i) (.int i)
  | str (s : Str) : Rep B G (.str s) (.str s)
  | tup {a : Addr} {xs : List V} {ds : List D} : SqT B.K G a xs → RepL B G xs ds → Rep B G (.ref a) (.tup ds)
  | lst {a : Addr} {xs : List V} {ds : List D} : G a = some (.lst xs) → RepL B G xs ds → Rep B G (.ref a) (.lst ds)
  | dK {a : Addr} {kvs : List (Key × V)} {ds : List (Key × D)} : RdK G a kvs → kvs.map (·.1) = ds.map (·.1) → RepL B G (kvs.map (·.2)) (ds.map (·.2)) → Rep B G (.ref a) (.dK ds)
  | kd {a : Addr} {kvs : List (Key × V)} {ds : List (Key × D)} : KDo B.K B.w a kvs → kvs.map (·.1) = ds.map (·.1) → RepL B G (kvs.map (·.2)) (ds.map (·.2)) → Rep B G (.ref a) (.kd ds)
  | dT {a : Addr} {kvs : List (List Key × V)} {ds : List (List Key × D)} : Rd G a (.dT kvs) → kvs.map (·.1) = ds.map (·.1) → RepL B G (kvs.map (·.2)) (ds.map (·.2)) → Rep B G (.ref a) (.dT ds)
  | ins {a dx : Addr} {c : Str} {fs : List (Str × V)} {ds : List (Str × D)} : G a = some (.ins (B.cls c) dx fs) → fs.map (·.1) = ds.map (·.1) → RepL B G (fs.map (·.2)) (ds.map (·.2)) → Rep B G (.ref a) (.ins c ds)
  | scr {a : Addr} {xs : List Int} : SqL B.K G a (xs.map V.int) → Rep B G (.ref a) (.scr xs)
  | dN {a : Addr} {xs : List (NestedKey × Addr × Value)} {vs : List V} {kvs : List (D × D)} : G a = some (NDo B.w a xs) → kvs.map (fun p => nkD p.1) = xs.map (fun x => some x.1) → (∀ x ∈ xs, x.1.depth ≤ 8) → RepL B G (xs.map fun x => V.ref x.2.1) (kvs.map (·.1)) → Vals vs (xs.map (·.2.2)) → RepL B G vs (kvs.map (·.2)) → Rep B G (.ref a) (.dN kvs)
  | ty (n : String) : Rep B G (.ty n) (.ty n)
  | cl (c : Str) : Rep B G (.ref (B.cls c)) (.cl c)
inductive RepL (B : Bs) (G : Hp) : List V → List D → Prop
  | nil : RepL B G [] []
  | cons {v : V} {vs : List V} {d : D} {ds : List D} : Rep B G v d → RepL B G vs ds → RepL B G (v :: vs) (d :: ds)
end

inductive RepO (B : Bs) (G : Hp) (p : Addr) : HO → D → Prop
  | lst {xs : List V} {ds : List D} : RepL B G xs ds → RepO B G p (.lst xs) (.lst ds)
  | dK {kvs : List (Key × V)} {ds : List (Key × D)} : kvs.map (·.1) = ds.map (·.1) → RepL B G (kvs.map (·.2)) (ds.map (·.2)) → RepO B G p (.dK kvs) (.dK ds)
  | dT {kvs : List (List Key × V)} {ds : List (List Key × D)} : kvs.map (·.1) = ds.map (·.1) → RepL B G (kvs.map (·.2)) (ds.map (·.2)) → RepO B G p (.dT kvs) (.dT ds)
  | ins {dx : Addr} {c : Str} {fs : List (Str × V)} {ds : List (Str × D)} : fs.map (·.1) = ds.map (·.1) → RepL B G (fs.map (·.2)) (ds.map (·.2)) → RepO B G p (.ins (B.cls c) dx fs) (.ins c ds)
  | dN {xs : List (NestedKey × Addr × Value)} {vs : List V} {kvs : List (D × D)} : kvs.map (fun p => nkD p.1) = xs.map (fun x => some x.1) → (∀ x ∈ xs, x.1.depth ≤ 8) → RepL B G (xs.map fun x => V.ref x.2.1) (kvs.map (·.1)) → Vals vs (xs.map (·.2.2)) → RepL B G vs (kvs.map (·.2)) → RepO B G p (NDo B.w p xs) (.dN kvs)
section
variable {B : Bs} {G G' : Hp}
def isDct : HO → Bool
  | .dK kvs => !Nls.nl (kvs.map (·.1))
  | .dT _ => true
  | _ => false
def isT : HO → Bool
  | .tbl _ => true
  | _ => false
def isTb : HO → Bool
  | .tbl _ => true
  | .ext _ => true
  | _ => false
def NoTb (o : HO) : Prop := isTb o = false ∨ ∃ w a xs, o = NDo w a xs
theorem NoTb.noT {o : HO} (h : NoTb o) (ps : Array Value) : o ≠ .tbl ps := by
  rintro rfl
  rcases h with h | ⟨w, a, xs, h⟩
  · cases h
  · cases h
theorem NoTb.noC {o : HO} (h : NoTb o) (c : Addr) (q : Str) : o ≠ LamX.CodeO c q := by
  rintro rfl
  rcases h with h | ⟨w, a, xs, h⟩
  · cases h
  · exact nd_noCode w a xs c q h.symm
def Ext (G G' : Hp) : Prop := (∀ a o, G a = some o → isT o = false → G' a = some o ∨ (isDct o = true ∧ ∃ ob, G' a = some (.frz ob o))) ∧ (LamX.Tabs Tbs.T G → LamX.Tabs Tbs.T G')
theorem codeO_dct (c : Addr) (q : Str) : isDct (LamX.CodeO c q) = false := rfl
theorem Ext.of2 (h : ∀ a o, G a = some o → G' a = some o ∨ (isDct o = true ∧ ∃ ob, G' a = some (.frz ob o))) : Ext G G' := ⟨fun a o e _ => h a o e, fun t p hp => by
  obtain ⟨ps, h1, h2, h3⟩ := t p hp
  refine ⟨ps, ?_, h2, fun pos cv hc => ?_⟩
  · rcases h _ _ h1 with z | ⟨z, _⟩
    · exact z
    · cases z
  · obtain ⟨c, e1, e2⟩ := h3 pos cv hc
    refine ⟨c, e1, ?_⟩
    rcases h _ _ e2 with z | ⟨z, _⟩
    · exact z
    · rw [codeO_dct] at z
      cases z⟩
theorem Ext.refl (G : Hp) : Ext G G := .of2 fun _ _ h => .inl h
theorem Ext.trans {G1 G2 G3 : Hp} (a : Ext G1 G2) (b : Ext G2 G3) : Ext G1 G3 := ⟨fun p o h ht => by
  rcases a.1 p o h ht with h1 | ⟨hd, ob, h1⟩
  · exact b.1 p o h1 ht
  · rcases b.1 p _ h1 rfl with h2 | ⟨z, _⟩
    · exact .inr ⟨hd, ob, h2⟩
    · exact (Bool.false_ne_true z).elim, fun t => b.2 (a.2 t)⟩
theorem _root_.L2.Same.ext {G G' : Hp} (e : Same G G') : Ext G G' := .of2 fun a o h => .inl (e a o h)
theorem Ext.get {G G' : Hp} {a : Addr} {o : HO} (e : Ext G G') (h : G a = some o) (hd : isDct o = false := by rfl) (ht : isT o = false := by rfl) : G' a = some o := by
  rcases e.1 a o h ht with h | ⟨z, _⟩
  · exact h
  · rw [hd] at z; cases z
theorem rd_mono {a : Addr} {u : HO} (e : Ext G G') (h : Rd G a u) (ht : isT u = false := by rfl) : Rd G' a u := h.elim (fun h => (e.1 _ _ h ht).elim .inl fun ⟨_, ob, q⟩ => .inr ⟨ob, q⟩) fun ⟨o, h⟩ => .inr ⟨o, e.get h⟩
theorem rdK_mono {a : Addr} {kvs : List (Key × V)} (e : Ext G G') (h : RdK G a kvs) : RdK G' a kvs := by
  rcases h with h | ⟨hn, o, h⟩
  · rcases e.1 _ _ h rfl with h | ⟨hd, ob, q⟩
    · exact .inl h
    · exact .inr ⟨by simpa [isDct] using hd, ob, q⟩
  · exact .inr ⟨hn, o, e.get h⟩
theorem sqT_mono {K : PySem.W.Frag} {a : Addr} {xs : List V} (e : Ext G G') (h : SqT K G a xs) : SqT K G' a xs := h.imp (fun z => rd_mono e z) id
theorem sqL_mono {K : PySem.W.Frag} {a : Addr} {xs : List V} (e : Ext G G') (h : SqL K G a xs) : SqL K G' a xs := h.imp (fun z => rd_mono e z) id
mutual
theorem Rep.mono (e : Ext G G') {v : V} {d : D} : Rep B G v d → Rep B G' v d
  | .non => .non
  | .bl b => .bl b
  | .int i => .int i
  | .str s => .str s
  | .tup h r => .tup (sqT_mono e h) (RepL.mono e r)
  | .lst h r => .lst (e.get h) (RepL.mono e r)
  | .dK h k r => .dK (rdK_mono e h) k (RepL.mono e r)
  | .kd h k r => .kd h k (RepL.mono e r)
  | .dT h k r => .dT (rd_mono e h) k (RepL.mono e r)
  | .ins h k r => .ins (e.get h) k (RepL.mono e r)
  | .scr h => .scr (sqL_mono e h)
  | .dN h k1 k2 r1 k3 r2 => .dN (e.get h) k1 k2 (RepL.mono e r1) k3 (RepL.mono e r2)
  | .ty n => .ty n
  | .cl c => .cl c
theorem RepL.mono (e : Ext G G') {vs : List V} {ds : List D} : RepL B G vs ds → RepL B G' vs ds
  | .nil => .nil
  | .cons h r => .cons (Rep.mono e h) (RepL.mono e r)
end
theorem RepO.mono (e : Ext G G') {p : Addr} {o : HO} {d : D} : RepO B G p o d → RepO B G' p o d
  | .lst r => .lst (r.mono e)
  | .dK k r => .dK k (r.mono e)
  | .dT k r => .dT k (r.mono e)
  | .ins k r => .ins k (r.mono e)
  | .dN k1 k2 r1 k3 r2 => .dN k1 k2 (r1.mono e) k3 (r2.mono e)
theorem RepO.notb {p : Addr} {o : HO} {d : D} (h : RepO B G p o d) : NoTb o := by
  cases h <;> first | exact .inl rfl | exact .inr ⟨_, _, _, rfl⟩
theorem RepO.rep {o : HO} {d : D} {p : Addr} (h : G p = some o) : RepO B G p o d → Rep B G (.ref p) d
  | .lst r => .lst h r
  | .dK k r => .dK (.inl h) k r
  | .dT k r => .dT (.inl h) k r
  | .ins k r => .ins h k r
  | .dN k1 k2 r1 k3 r2 => .dN h k1 k2 r1 k3 r2
theorem RepL.length {vs : List V} {ds : List D} : RepL B G vs ds → vs.length = ds.length
  | .nil => rfl
  | .cons _ r => by simp [RepL.length r]
theorem RepL.get : ∀ {vs : List V} {ds : List D} {i : Nat} {d : D}, RepL B G vs ds → ds[i]? = some d → ∃ v, vs[i]? = some v ∧ Rep B G v d
  | _, _, _, _, .nil, e => by simp at e
  | _, _, 0, _, .cons r _, e => by simp at e; subst e; exact ⟨_, rfl, r⟩
  | _, _, i + 1, d, .cons _ t, e => by
    obtain ⟨u, h1, h2⟩ := RepL.get (i := i) (d := d) t (by simpa using e)
    exact ⟨u, by simpa using h1, h2⟩
theorem RepL.get' : ∀ {vs : List V} {ds : List D} {i : Nat} {v : V}, RepL B G vs ds → vs[i]? = some v → ∃ d, ds[i]? = some d ∧ Rep B G v d
  | _, _, _, _, .nil, e => by simp at e
  | _, _, 0, _, .cons r _, e => by simp at e; subst e; exact ⟨_, rfl, r⟩
  | _, _, i + 1, d, .cons _ t, e => by
    obtain ⟨u, h1, h2⟩ := RepL.get' (i := i) (v := d) t (by simpa using e)
    exact ⟨u, by simpa using h1, h2⟩
theorem RepL.append : ∀ {xs ys : List V} {ds es : List D}, RepL B G xs ds → RepL B G ys es → RepL B G (xs ++ ys) (ds ++ es)
  | _, _, _, _, .nil, s => s
  | _, _, _, _, .cons r t, s => .cons r (RepL.append t s)
theorem RepL.take : ∀ {xs : List V} {ds : List D} (n : Nat), RepL B G xs ds → RepL B G (xs.take n) (ds.take n)
  | _, _, 0, _ => .nil
  | _, _, _ + 1, .nil => .nil
  | _, _, n + 1, .cons r t => .cons r (RepL.take n t)
theorem RepL.drop : ∀ {xs : List V} {ds : List D} (n : Nat), RepL B G xs ds → RepL B G (xs.drop n) (ds.drop n)
  | _, _, 0, r => r
  | _, _, _ + 1, .nil => .nil
  | _, _, n + 1, .cons _ t => RepL.drop n t
theorem RepL.reverse : ∀ {xs : List V} {ds : List D}, RepL B G xs ds → RepL B G xs.reverse ds.reverse
  | _, _, .nil => .nil
  | _, _, .cons r t => by
    rw [List.reverse_cons, List.reverse_cons]
    exact (RepL.reverse t).append (.cons r .nil)
end
def hide (H : Hp) (O : List Addr) : Hp := fun a => if a ∈ O then none else H a
theorem hide_in {H : Hp} {O : List Addr} {a : Addr} (h : a ∈ O) : hide H O a = none := by unfold hide; rw [if_pos h]
theorem hide_out {H : Hp} {O : List Addr} {a : Addr} (h : a ∉ O) : hide H O a = H a := by unfold hide; rw [if_neg h]
theorem hide_le (H : Hp) (O : List Addr) : Same (hide H O) H := fun a o h => by
  by_cases m : a ∈ O
  · rw [hide_in m] at h; cases h
  · rwa [hide_out m] at h
theorem hide_some {H : Hp} {O : List Addr} {a : Addr} {o : HO} (h : hide H O a = some o) : a ∉ O ∧ H a = some o := by
  by_cases m : a ∈ O
  · rw [hide_in m] at h; cases h
  · exact ⟨m, by rwa [hide_out m] at h⟩
theorem hide_sub {H : Hp} {O O' : List Addr} (h : ∀ a ∈ O', a ∈ O) : Ext (hide H O) (hide H O') := .of2 fun a o e => .inl (by
  obtain ⟨m, q⟩ := hide_some e
  rw [hide_out fun z => m (h a z)]
  exact q)
theorem hide_upd {H : Hp} {O : List Addr} {a : Addr} {o : HO} (h : a ∈ O) : hide (upd H a o) O = hide H O := by
  funext b
  by_cases m : b ∈ O
  · rw [hide_in m, hide_in m]
  · rw [hide_out m, hide_out m, upd_ne fun z => m (by rw [z]; exact h)]
theorem hide_nil (H : Hp) : hide H [] = H := by funext a; exact hide_out (by simp)
inductive Kd where
  | val | own | pin
  deriving DecidableEq
abbrev En := List (Option (Kd × D))
structure Cst where
  pa : Nat → Addr
  F : List Addr
  H0 : Hp
structure Liv (H : Hp) (O : List Addr) : Prop where
  liv : ∀ p ∈ O, ∃ o, H p = some o
  notb : ∀ p ∈ O, ∀ o, H p = some o → NoTb o
  tab : LamX.Tabs Tbs.T (hide H O)
instance {H : Hp} {O : List Addr} : CoeFun (Liv H O) (fun _ => ∀ p ∈ O, ∃ o, H p = some o) := ⟨Liv.liv⟩
theorem Liv.same {H H' : Hp} {O : List Addr} (l : Liv H O) (e : Same H H') : Liv H' O := ⟨fun p hp => let ⟨o, ho⟩ := l.liv p hp; ⟨o, e p o ho⟩, fun p hp o ho => by
  obtain ⟨o', ho'⟩ := l.liv p hp
  rw [e p o' ho'] at ho
  cases ho
  exact l.notb p hp _ ho', l.tab.ext fun b o h => by
  obtain ⟨m, q⟩ := hide_some h
  rw [hide_out m]
  exact e b o q⟩
theorem Liv.sub {H : Hp} {O O' : List Addr} (l : Liv H O) (h : ∀ a ∈ O', a ∈ O) : Liv H O' := ⟨fun p hp => l.liv p (h p hp), fun p hp => l.notb p (h p hp), (hide_sub h).2 l.tab⟩
theorem Liv.upd {H : Hp} {O : List Addr} {p : Addr} {o : HO} (l : Liv H O) (hp : p ∈ O) (ho : NoTb o) : Liv (L2.upd H p o) O := ⟨fun q hq => by
  by_cases e : q = p
  · exact ⟨o, by rw [e, upd_same]⟩
  · rw [upd_ne e]; exact l.liv q hq, fun q hq u hu => by
  by_cases e : q = p
  · rw [e, upd_same] at hu
    cases hu
    exact ho
  · rw [upd_ne e] at hu
    exact l.notb q hq u hu, by rw [hide_upd hp]; exact l.tab⟩
theorem Liv.new {H : Hp} {O : List Addr} {p : Addr} {o : HO} (l : Liv H O) (hp : H p = none) (ho : NoTb o) : Liv (L2.upd H p o) (p :: O) := ⟨fun q hq => by
  by_cases e : q = p
  · exact ⟨o, by rw [e, upd_same]⟩
  · rw [upd_ne e]
    exact l.liv q (by simpa [e] using hq), fun q hq u hu => by
  by_cases e : q = p
  · rw [e, upd_same] at hu
    cases hu
    exact ho
  · rw [upd_ne e] at hu
    exact l.notb q (by simpa [e] using hq) u hu, l.tab.ext fun a u h => by
  obtain ⟨m, q⟩ := hide_some h
  have ne : a ≠ p := ne_of_none q hp
  rw [hide_out (by simp [ne, m]), upd_ne ne]
  exact q⟩
structure Stt (B : Bs) (c : Cst) (ρ : En) (σ : L2.St) (H : Hp) (O : List Addr) : Prop where
  len : ρ.length = σ.length
  val : ∀ (i : Nat) (d : D), ρ[i]? = some (some (.val, d)) → ∃ v, σ[i]? = some (some v) ∧ Rep B (hide H O) v d
  own : ∀ (i : Nat) (k : Kd) (d : D), ρ[i]? = some (some (k, d)) → k ≠ .val → ∃ p o, σ[i]? = some (some (.ref p)) ∧ p ∈ O ∧ p ∉ c.F ∧ H p = some o ∧ RepO B (hide H O) p o d
  sep : ∀ (i j : Nat) (p : Addr) (k l : Kd) (d e : D), ρ[i]? = some (some (k, d)) → ρ[j]? = some (some (l, e)) → k ≠ .val → l ≠ .val → σ[i]? = some (some (.ref p)) → σ[j]? = some (some (.ref p)) → i = j
  pin : ∀ (i : Nat) (d : D), ρ[i]? = some (some (.pin, d)) → σ[i]? = some (some (.ref (c.pa i)))
  liv : Liv H O
  frm : ∀ q ∈ c.F, q ∈ O ∧ H q = c.H0 q
inductive Rv where
  | val (d : D) | slot (i : Nat)
def RvOk (B : Bs) (σ : L2.St) (H : Hp) (O : List Addr) (v : V) : Rv → Prop
  | .val d => Rep B (hide H O) v d
  | .slot i => σ[i]? = some (some v)
inductive Out (α : Type) where
  | ok (a : α) (ρ : En) | ex (c : Str) (fs : List (Str × D)) (ρ : En) | bad
def M (α : Type) := En → Out α
def Out.bind {α β : Type} : Out α → (α → En → Out β) → Out β
  | .ok a ρ, f => f a ρ
  | .ex c fs ρ, _ => .ex c fs ρ
  | .bad, _ => .bad
@[simp] theorem bind_ok {α β : Type} (a : α) (ρ : En) (f : α → En → Out β) : (Out.ok a ρ).bind f = f a ρ := rfl
@[simp] theorem bind_ex {α β : Type} (c : Str) (fs : List (Str × D)) (ρ : En) (f : α → En → Out β) : (Out.ex c fs ρ).bind f = .ex c fs ρ := rfl
@[simp] theorem bind_bad {α β : Type} (f : α → En → Out β) : (Out.bad : Out α).bind f = .bad := rfl
def ExAt (B : Bs) (G : Hp) (fs : List (Str × D)) : Option Addr → Prop
  | none => fs = []
  | some a => ∃ gs : List (Str × V), G a = some (.xd gs) ∧ gs.map (·.1) = fs.map (·.1) ∧ RepL B G (gs.map (·.2)) (fs.map (·.2))
def XPo (B : Bs) (c : Cst) (W : WX) (σ : L2.St) (H : Hp) (O : List Addr) (x : Str) (fs : List (Str × D)) (ρ' : En) : Prop :=
  ∀ dd H' O', Stt B c ρ' σ H' O' → Ext (hide H O) (hide H' O') → ExAt B (hide H' O') fs dd → W (.ref (B.cls x)) dd σ H'
def Po {α : Type} (B : Bs) (c : Cst) (W : WX) (σ : L2.St) (H : Hp) (O : List Addr) (R : α → En → Hp → List Addr → Prop) : Out α → Prop
  | .ok a ρ' => ∀ H' O', Stt B c ρ' σ H' O' → Ext (hide H O) (hide H' O') → R a ρ' H' O'
  | .ex x fs ρ' => XPo B c W σ H O x fs ρ'
  | .bad => False
theorem Po.mono {α : Type} {B : Bs} {c : Cst} {W : WX} {σ : L2.St} {H H1 : Hp} {O O1 : List Addr} {R R' : α → En → Hp → List Addr → Prop} {o : Out α} (h : Po B c W σ H O R o) (e : Ext (hide H O) (hide H1 O1)) (hR : ∀ a ρ' H' O', R a ρ' H' O' → R' a ρ' H' O') : Po B c W σ H1 O1 R' o := by
  cases o with
  | ok a ρ' => exact fun H' O' st e' => hR _ _ _ _ (h H' O' st (e.trans e'))
  | ex x fs ρ' => exact fun dd H' O' st e' xa => h dd H' O' st (e.trans e') xa
  | bad => exact h
theorem Po.bind {α β : Type} {B : Bs} {c : Cst} {W : WX} {σ : L2.St} {H : Hp} {O : List Addr} {R : β → En → Hp → List Addr → Prop} {o : Out α} {f : α → En → Out β} (h : Po B c W σ H O R (o.bind f)) :
    Po B c W σ H O (fun a ρ' H' O' => Po B c W σ H' O' R (f a ρ')) o := by
  cases o with
  | ok a ρ' => exact fun H' O' st e' => Po.mono h e' fun _ _ _ _ x => x
  | ex x fs ρ' => exact h
  | bad => exact h
def tP (B : Bs) (W : WX) (f : M Rv) : TE := fun σ H Q => ∃ c ρ O, Stt B c ρ σ H O ∧ Po B c W σ H O (fun r ρ' H' O' => ∀ v, RvOk B σ H' O' v r → Q v H') (f ρ)
def tQ (B : Bs) (W : WX) (f : M Bool) : TT := fun σ H Q => ∃ c ρ O, Stt B c ρ σ H O ∧ Po B c W σ H O (fun b ρ' H' O' => Q b H') (f ρ)
def RvsOk (B : Bs) (σ : L2.St) (H : Hp) (O : List Addr) (vs : List V) (rs : List Rv) : Prop := Paired (RvOk B σ H O) vs rs
def tAs (B : Bs) (W : WX) (f : M (List Rv)) : TA := fun σ H Q => ∃ c ρ O, Stt B c ρ σ H O ∧ Po B c W σ H O (fun rs ρ' H' O' => ∀ vs, RvsOk B σ H' O' vs rs → Q vs H') (f ρ)
abbrev DE (X : Cx) (W : WX) (e : Expr) (f : M Rv) : Prop := PE X e (tP (bs X) W f)
abbrev DT (X : Cx) (W : WX) (e : Expr) (f : M Bool) : Prop := PT X e (tQ (bs X) W f)
abbrev DW (X : Cx) (W : WX) (e : Expr) (f : M Bool) : Prop := PW X e (tQ (bs X) W f)
abbrev DA (X : Cx) (W : WX) (es : List Expr) (f : M (List Rv)) : Prop := PA X es (tAs (bs X) W f)
theorem PE.le {X : Cx} {e : Expr} {t t' : TE} (h : PE X e t) (i : ∀ σ H Q, t' σ H Q → t σ H Q) : PE X e t' := ⟨fun pins s σ H Q I q => h.run pins s σ H Q I (i σ H Q q)⟩
theorem PT.le {X : Cx} {e : Expr} {t t' : TT} (h : PT X e t) (i : ∀ σ H Q, t' σ H Q → t σ H Q) : PT X e t' := ⟨fun pins s σ H Q I q => h.run pins s σ H Q I (i σ H Q q)⟩
theorem PW.le {X : Cx} {e : Expr} {t t' : TT} (h : PW X e t) (i : ∀ σ H Q, t' σ H Q → t σ H Q) : PW X e t' := ⟨fun wh pins s σ H Q I q => h.run wh pins s σ H Q I (i σ H Q q)⟩
theorem PA.le {X : Cx} {e : List Expr} {t t' : TA} (h : PA X e t) (i : ∀ σ H Q, t' σ H Q → t σ H Q) : PA X e t' := ⟨fun pos pins s σ H Q I q => h.run pos pins s σ H Q I (i σ H Q q)⟩
theorem PS.le {X : Cx} {e : Stmt} {t t' : TS} (h : PS X e t) (i : ∀ D σ H, t' D σ H → t D σ H) : PS X e t' := ⟨fun pins s σ H D I q => h.run pins s σ H D I (i D σ H q)⟩
theorem PSs.le {X : Cx} {e : List Stmt} {t t' : TS} (h : PSs X e t) (i : ∀ D σ H, t' D σ H → t D σ H) : PSs X e t' := ⟨fun pins s σ H D I q => h.run pins s σ H D I (i D σ H q)⟩
end Pu
namespace My
open PySem PySem.Spec PyProof.Rows L2 He
def excB (K : PySem.W.Frag) (D : Addr) : Bool := (decide (PySem.W.findIn K (.ref D) "__getattribute__" = some (some (.builtin "BaseException.__getattribute__"))) && (decide (PySem.W.findIn K (.ref D) "__getattr__" = some none) && (decide (PySem.W.subIn K (.ref D) (.type "BaseException") = some true) && (PySem.W.hasDictIn K D && (decide (PySem.W.findIn K (.ref D) "__class__" = some (some (.builtin "object.__class__"))) && (decide (PySem.W.specialIn K (.builtin "object.__class__") "__get__" = some (some (.builtin "getset_descriptor.__get__"))) && (decide (PySem.W.takesIn K (.builtin "object.__class__") = some true) && decide (PySem.W.mroIn K D (.type "object") = some true))))))))
def tupAt (K : PySem.W.Frag) (p : Addr) (vs : List V) : Bool := match K.lookup p with
  | some ⟨.type c, none, .seq its _, _⟩ => decide (c = "tuple") && (decide (its.size ≤ sizeLine) && relAll vs its.toList)
  | _ => false
def refsOf (K : PySem.W.Frag) (p : Addr) : List Addr := match K.lookup p with
  | some ⟨_, _, .seq its _, _⟩ => its.toList.filterMap fun v => match v with
    | .ref a => some a
    | _ => none
  | _ => []
def pairsB (K : PySem.W.Frag) : List Addr → List (Str × Int) → Bool
  | [], [] => true
  | p :: ps, kv :: l => tupAt K p [.str kv.1, .int kv.2] && pairsB K ps l
  | _, _ => false
def under (K : PySem.W.Frag) (a : Addr) (x : Str) : Addr := match PySem.W.nsIn K a x with
  | some (some (.ref p)) => p
  | _ => 0
def entB (kv : Key × V) (e : DictEntry) : Bool := match kv.1, e.key with
  | Sum.inr x, .str y _ => decide (y = x) && relB kv.2 e.val
  | _, _ => false
def entsB : List (Key × V) → List DictEntry → Bool
  | [], [] => true
  | kv :: r, e :: es => entB kv e && entsB r es
  | _, _ => false
def kdB (K : PySem.W.Frag) (a : Addr) (kvs : List (Key × V)) : Bool := decide (kvs.length ≤ sizeLine) && (match K.lookup a with
  | some ⟨_, _, .dict es _, _⟩ => entsB kvs es.toList
  | _ => false)
end My
namespace Pu
open PySem PySem.Spec PyProof.Rows L2 My
open He
def tyL : List String := ["int", "bool", "str", "list", "tuple", "dict"]
def insB (K : PySem.W.Frag) (C : Addr) : Bool := decide (PySem.W.findIn K (.ref C) "__class__" = some (some (.builtin "object.__class__"))) && (decide (PySem.W.specialIn K (.builtin "object.__class__") "__get__" = some (some (.builtin "getset_descriptor.__get__"))) && (decide (PySem.W.takesIn K (.builtin "object.__class__") = some true) && (decide (PySem.W.mroIn K C (.type "object") = some true) && (tyL.all fun T => decide (PySem.W.kitOne K (.ref C) (.type T) = some false)))))
def tagL : List String := ["NoneType", "bool", "int", "str", "tuple", "list", "dict"]
def isoB (K : PySem.W.Frag) (cs : List Str) (c : Str) : Bool := (tagL.all fun t => decide (PySem.W.kitOne K (.type t) (.ref (ga K c)) = some false)) && (cs.all fun x => decide (PySem.W.kitOne K (.ref (ga K x)) (.ref (ga K c)) = some (decide (x = c))))
def eqoB (K : PySem.W.Frag) (cs : List Str) (c : Str) : Bool := decide (PySem.W.mroIn K (ga K c) (.type "object") = some true) && (decide (PySem.W.findIn K (.ref (ga K c)) "__ne__" = some (some (.builtin "object.__ne__"))) && ((tagL.all fun t => PySem.W.notFirst K (ga K c) (.type t)) && (cs.all fun x => PySem.W.notFirst K (ga K c) (.ref (ga K x)))))
def vOf : Value → V
  | .none => .non
  | .bool b => .bl b
  | .int i _ => .int i
  | .str x _ => .str x
  | .ref a => .ref a
  | _ => .non
def allB (f : Value → D → Bool) : List Value → List D → Bool
  | [], [] => true
  | u :: us, d :: ds => f u d && allB f us ds
  | _, _ => false
def cstB (K : PySem.W.Frag) : Nat → Value → D → Bool
  | 0, _, _ => false
  | n + 1, u, d => match u, d with
    | .none, .non => true
    | .bool b, .bl c => decide (b = c)
    | .int i _, .int j => decide (i = j)
    | .str x _, .str y => decide (x = y)
    | .ref p, .tup ds => (match K.lookup p with
      | some ⟨.type c, none, .seq its _, _⟩ => decide (c = "tuple") && (decide (its.size ≤ sizeLine) && allB (cstB K n) its.toList ds)
      | _ => false)
    | _, _ => false
def entC (f : Value → D → Bool) : List DictEntry → List (Str × D) → Bool
  | [], [] => true
  | e :: es, p :: ps => (match e.key with
    | .str y _ => decide (y = p.1) && f e.val p.2
    | _ => false) && entC f es ps
  | _, _ => false
def dicB (K : PySem.W.Frag) (n : Nat) (a : Addr) (ps : List (Str × D)) : Bool := decide (ps.length ≤ sizeLine) && (decide (ps.map (·.1)).Nodup && (match K.lookup a with
  | some ⟨_, _, .dict es _, _⟩ => entC (cstB K n) es.toList ps
  | _ => false))
end Pu
namespace Pu
open PySem PySem.Spec PyProof.Rows L2 My
def top (i : Nat) : Stmt := PySem.Challenge.pw_searchwalks_k18_trees_read.main.body.getD i (.Pass ⟨0, 0, 0, 0⟩)
abbrev s_law_pen_of : Stmt := top 25
abbrev s_law_draw : Stmt := top 26
abbrev s_law_pick : Stmt := top 27
abbrev s_law_some_numbers : Stmt := top 29
abbrev s_law_some_told : Stmt := top 28
abbrev s_is_row : Stmt := top 3
abbrev s_is_integer : Stmt := top 2
abbrev s_spots_of : Stmt := top 17
abbrev s_rank_text : Stmt := top 18
abbrev s_in_order : Stmt := top 19
abbrev s_first_fall : Stmt := top 20
abbrev s_told_of : Stmt := top 21
abbrev s_height_of : Stmt := top 22
abbrev s_Tree_init : Stmt := inClass (top 23) 0
abbrev s_law_numbers_by : Stmt := top 32
abbrev s_law_spots : Stmt := top 30
abbrev s_law_lists : Stmt := top 34
abbrev s_law_row_of : Stmt := top 31
abbrev s_Tree_places : Stmt := inClass (top 23) 6
abbrev s_Tree_row : Stmt := inClass (top 23) 7
abbrev s_Tree_has : Stmt := inClass (top 23) 2
abbrev s_Tree_need : Stmt := inClass (top 23) 3
abbrev s_Tree_value : Stmt := inClass (top 23) 4
abbrev s_Tree_sides : Stmt := inClass (top 23) 5
abbrev s_law_is_read : Stmt := top 36
abbrev s_Tree_eq : Stmt := inClass (top 23) 1
abbrev s_law_search : Stmt := top 35
abbrev s_law_met : Stmt := top 33
abbrev s_Tree_search : Stmt := inClass (top 23) 8
abbrev s_Tree_find : Stmt := inClass (top 23) 9
abbrev s_Tree_gap : Stmt := inClass (top 23) 10
abbrev s_law : Stmt := top 37
abbrev s_BadTold_init : Stmt := inClass (top 7) 0
abbrev s_TooMany_init : Stmt := inClass (top 12) 0
abbrev s_BadValue_init : Stmt := inClass (top 8) 0
abbrev s_NoPlace_init : Stmt := inClass (top 9) 0
def erL : List Str := ["BadTold", "TooMany", "BadValue", "NoPlace"]
def chL : List Str := ["NoPlace"]
end Pu
namespace He
open PySem PySem.W PySem.Calls PyProof.Rows L2 My
noncomputable abbrev XH (r : OpenRow) (M : Nat) (w : World) (os : OsState) : Option SharedT := HandSHeadRun.endF (HandSHeadRun.stepQ (HandSHeadRun.denQ HandSHeadRun.tabQ) r.prog w) M r.prog w os
abbrev KH (n : Nat) (s : SharedT) : Frag := frT (HandSHeadRun.getT s) (cStatics :: sysModules :: asM (HandSHeadRun.getT s) n [mainGlobals])
def PartA (r : OpenRow) (q : Program) (M : Nat) (loose : List PySem.Str) (w : World) : Prop := ∀ os : OsState, (XH r M w os).map (fun s => (HandSHeadRun.looksF r.prog (boot_heap w.params) s.abs, HandSHeadRun.seenQ q loose (importedModules r.prog.main.body) (fun s => xlAt q [] s && recOk r.toRowW.records s) s.abs)) = some (true, openGood q loose)
def PartF (r : OpenRow) (M n : Nat) (fa : List Fa) (ts : List Tab) (tf : List Defn) (ex : Frag → Bool) (ini : List IniD) (w : World) : Prop := ∀ os : OsState, (XH r M w os).map (fun s => ((fa.all fun f => f.ok (KH n s)), (ts.map fun t => dicW (KH n s) (t.1 (KH n s))), (ex (KH n s) && tabsB (HandSHeadRun.getT s) tf (KH n s)), ini.map fun d => iniW (KH n s) (ga (KH n s) d.cls))) = some (true, (ts.map fun t => some (keysIn w.params t.2)), true, ini.map IniD.val)
def PartN (r : OpenRow) (M n : Nat) (fn : List DefD) (w : World) : Prop := ∀ os : OsState, (XH r M w os).map (fun s => ((fn.all fun d => d.ok (KH n s)), fn.map fun d => fnW (KH n s) d.at_)) = some (true, fn.map DefD.val)
theorem run_of {r : OpenRow} {q : Program} {M n : Nat} {loose : List PySem.Str} {fa : List Fa} {fn : List DefD} {ts : List Tab} {tf : List Defn} {ex : Frag → Bool} {ini : List IniD} {w : World} (hA : PartA r q M loose w) (hF : PartF r M n fa ts tf ex ini w) (hN : PartN r M n fn w) : HandSHeadRun.RunEq r q (hookM n fa fn ts tf ex ini) (fun s => obsM n fa fn ts tf ex ini (HandSHeadRun.getT s)) M loose w := by
  intro os
  have a := hA os
  have f := hF os
  have d := hN os
  show (XH r M w os).map (fun s => (HandSHeadRun.looksF r.prog (boot_heap w.params) s.abs, HandSHeadRun.seenQ q loose (importedModules r.prog.main.body) (fun s => xlAt q [] s && recOk r.toRowW.records s) s.abs, (((((fa.all fun f => f.ok (KH n s)) && fn.all fun d => d.ok (KH n s), fn.map fun d => fnW (KH n s) d.at_), ts.map fun t => dicW (KH n s) (t.1 (KH n s))), ex (KH n s) && tabsB (HandSHeadRun.getT s) tf (KH n s)), ini.map fun d => iniW (KH n s) (ga (KH n s) d.cls)))) = some (true, openGood q loose, (((true, fn.map DefD.val), ts.map fun t => some (keysIn w.params t.2)), true), ini.map IniD.val)
  generalize XH r M w os = X at a f d
  cases X with
  | none => cases a
  | some s =>
    simp only [Option.map_some, Option.some.injEq, Prod.mk.injEq] at a f d ⊢
    obtain ⟨a1, a2⟩ := a
    obtain ⟨f1, f2, f3, f4⟩ := f
    obtain ⟨d1, d2⟩ := d
    refine ⟨a1, a2, ⟨⟨⟨?_, d2⟩, f2⟩, f3⟩, f4⟩
    rw [f1, d1]
    rfl
end He
namespace Pu
open PySem PySem.Spec PyProof.Rows L2 My
open He
def dD (p : Str × Option Str) (x ql : Str) (st : Stmt) (l : List Dv) : DefD := ⟨p, x, ql, defArgs st, defBody st, defScope st, l, []⟩
abbrev dd (p : Str × Option Str) (x ql : Str) (st : Stmt) : DefD := dD p x ql st []
def dK (p : Str × Option Str) (x ql : Str) (st : Stmt) (l : List Dv) (k : List (Str × Dv)) : DefD := ⟨p, x, ql, defArgs st, defBody st, defScope st, l, k⟩
def fnL : List DefD := ([dD ("_law_pen_of", none) "_law_pen_of" "_law_pen_of" s_law_pen_of [], dD ("_law_draw", none) "_law_draw" "_law_draw" s_law_draw [], dD ("_law_pick", none) "_law_pick" "_law_pick" s_law_pick [], dD ("_law_some_numbers", none) "_law_some_numbers" "_law_some_numbers" s_law_some_numbers [], dD ("_law_some_told", none) "_law_some_told" "_law_some_told" s_law_some_told [], dD ("is_row", none) "is_row" "is_row" s_is_row [], dD ("is_integer", none) "is_integer" "is_integer" s_is_integer [], dD ("spots_of", none) "spots_of" "spots_of" s_spots_of [], dD ("rank_text", none) "rank_text" "rank_text" s_rank_text [], dD ("in_order", none) "in_order" "in_order" s_in_order [], dD ("first_fall", none) "first_fall" "first_fall" s_first_fall [], dD ("told_of", none) "told_of" "told_of" s_told_of [], dD ("height_of", none) "height_of" "height_of" s_height_of [], dD ("_law_numbers_by", none) "_law_numbers_by" "_law_numbers_by" s_law_numbers_by [], dD ("_law_spots", none) "_law_spots" "_law_spots" s_law_spots [], dD ("_law_lists", none) "_law_lists" "_law_lists" s_law_lists [], dD ("_law_row_of", none) "_law_row_of" "_law_row_of" s_law_row_of [], dD ("_law_is_read", none) "_law_is_read" "_law_is_read" s_law_is_read [], dD ("_law_search", none) "_law_search" "_law_search" s_law_search [], dD ("_law_met", none) "_law_met" "_law_met" s_law_met [], dD ("law", none) "law" "law" s_law [], dD ("Tree", some "__init__") "__init__" "Tree.__init__" s_Tree_init [], dD ("Tree", some "places") "places" "Tree.places" s_Tree_places [], dD ("Tree", some "row") "row" "Tree.row" s_Tree_row [], dD ("Tree", some "has") "has" "Tree.has" s_Tree_has [], dD ("Tree", some "need") "need" "Tree.need" s_Tree_need [], dD ("Tree", some "value") "value" "Tree.value" s_Tree_value [], dD ("Tree", some "sides") "sides" "Tree.sides" s_Tree_sides [], dD ("Tree", some "__eq__") "__eq__" "Tree.__eq__" s_Tree_eq [], dD ("Tree", some "search") "search" "Tree.search" s_Tree_search []] : List DefD) ++ ([dD ("Tree", some "find") "find" "Tree.find" s_Tree_find [], dD ("Tree", some "gap") "gap" "Tree.gap" s_Tree_gap []] : List DefD)
def faL : List Fa := ([.glo "_law_pen_of", .glo "_law_draw", .glo "_law_pick", .glo "_law_some_numbers", .glo "_law_some_told", .glo "is_row", .glo "is_integer", .glo "spots_of", .glo "rank_text", .glo "in_order", .glo "first_fall", .glo "told_of", .glo "height_of", .glo "_law_numbers_by", .glo "_law_spots", .glo "_law_lists", .glo "_law_row_of", .glo "_law_is_read", .glo "_law_search", .glo "_law_met", .glo "law", .glo "BadTold", .glo "TooMany", .glo "BadValue", .glo "NoPlace", .glo "Tree", .free "list", .free "int", .free "len", .free "abs"] : List Fa) ++ ([.free "range", .free "isinstance", .free "tuple", .free "bool", .free "sorted", .free "max", .free "str", .free "ValueError", .free "super", .int "MOST_PLACES" 2000, .int "MOST_LEVELS" 200, .cls "Tree", .mkr "Tree", .meth "Tree" "__init__", .meth "Tree" "places", .meth "Tree" "row", .meth "Tree" "has", .meth "Tree" "need", .meth "Tree" "value", .meth "Tree" "sides", .meth "Tree" "__eq__", .meth "Tree" "search", .meth "Tree" "find", .meth "Tree" "gap", .noat "Tree" "own_spots", .noat "Tree" "told", .noat "Tree" "size", .noat "Tree" "height"] : List Fa)
def iniL : List IniD := ([⟨"BadTold", s_BadTold_init, ["place"]⟩, ⟨"TooMany", s_TooMany_init, ["what", "many", "most"]⟩, ⟨"BadValue", s_BadValue_init, ["place"]⟩, ⟨"NoPlace", s_NoPlace_init, ["place"]⟩] : List IniD)
abbrev RR : PySem.W.OpenRow := PySem.W.OpenLaw.row PySem.Challenge.rw_searchwalks_k18_trees_read
def insL : List Str := ["Tree"]
def tcL : List (Str × List Dv) := []
def ncL : List (Str × D) := []
def dcL : List (Str × List (Str × D)) := []
def dfL : List ((Str × Option Str) × Nat × D) := []
def tsL : List Tab := []
def isoL : List Str := ["Tree"]
def eqoL : List Str := ["Tree"]
def tfL : List Defn := [("law", none)]
def exO (K : PySem.W.Frag) : Bool := (isoL.all fun c => isoB K insL c) && ((eqoL.all fun c => eqoB K insL c) && ((ncL.all fun p => cstB K 6 (.ref (ga K p.1)) p.2) && ((dcL.all fun p => dicB K 6 (ga K p.1) p.2) && (dfL.all fun p => cstB K 6 (.ref (dflAt p.1 p.2.1 K)) p.2.2))))
def wkL : List (Str × Str) := []
def exL (K : PySem.W.Frag) : Bool := (iniL.all fun d => errB RR.prog.main.file K (ga K d.cls) d.fs) && ((erL.all fun x => excB K (ga K x) && (decide (PySem.W.kitOne K (.ref (ga K x)) (.type "ValueError") = some true) && (chL.all fun y => decide (PySem.W.exmOne K (.ref (ga K x)) (.ref (ga K y)) = some (decide (x = y)))))) && ((insL.all fun c => insB K (ga K c)) && ((tcL.all fun p => tupB K p.1 p.2) && ((wkL.all fun p => decide (PySem.W.kitOne K (.ref (ga K p.1)) (.ref (ga K p.2)) = some true)) && exO K))))
abbrev hkL (n : Nat) : PySem.W.Hook := hookM n faL fnL tsL tfL exL iniL
def obL (n : Nat) (s : PySem.W.SharedT) : AlM := obsM n faL fnL tsL tfL exL iniL (HandSHeadRun.getT s)
theorem obL_eq (n : Nat) (s : PySem.W.SharedT) : obL n s = (hkL n).obs s.abs := obsM_eq (HandSHeadRun.getT_eq s)
def loL : List Str := (["_wall", "is_integer", "is_row", "is_text", "WalksError", "BadTold", "BadValue", "NoPlace", "BadSide", "Taken", "TooMany", "MOST_PLACES", "MOST_LEVELS", "SIGNS", "spots_of", "rank_text", "in_order", "first_fall", "told_of", "height_of", "Tree", "_law_pen_of", "_law_draw", "_law_pick", "_law_some_told", "_law_some_numbers", "_law_spots", "_law_row_of", "_law_numbers_by", "_law_met"] : List Str) ++ (["_law_lists", "_law_search", "_law_is_read"] : List Str)
theorem bareL : (PySem.W.OpenLaw.row PySem.Challenge.rw_searchwalks_k18_trees_read).prog.bare := ⟨rfl, rfl, rfl, rfl, rfl, by decide +kernel⟩
theorem oLaw (h : (PySem.W.OpenLaw.row PySem.Challenge.rw_searchwalks_k18_trees_read).wellSaid = true → (PySem.W.OpenLaw.row PySem.Challenge.rw_searchwalks_k18_trees_read).Holds) : PySem.Challenge.rw_searchwalks_k18_trees_read.Holds := by
  w_on; o_law
  exact h (by assumption)
theorem hrAF (w : World) : PartA RR (PySem.W.view RR.prog [37]) 12000 loL (w.withFollow "special-get-raises" false) := by
  intro os
  kernel_rfl
theorem hrAT (w : World) : PartA RR (PySem.W.view RR.prog [37]) 12000 loL (w.withFollow "special-get-raises" true) := by
  intro os
  kernel_rfl
theorem hrFF (w : World) : PartF RR 12000 6 faL tsL tfL exL iniL (w.withFollow "special-get-raises" false) := by
  intro os
  kernel_rfl
theorem hrFT (w : World) : PartF RR 12000 6 faL tsL tfL exL iniL (w.withFollow "special-get-raises" true) := by
  intro os
  kernel_rfl
theorem hrNF (w : World) : PartN RR 12000 6 fnL (w.withFollow "special-get-raises" false) := by
  intro os
  kernel_rfl
theorem hrNT (w : World) : PartN RR 12000 6 fnL (w.withFollow "special-get-raises" true) := by
  intro os
  kernel_rfl
theorem runL (w : World) : HandSHeadRun.RunEq RR (PySem.W.view RR.prog [37]) (hkL 6) (obL 6) 12000 loL w := PySem.W.byRow2 "special-get-raises" (P := fun w => HandSHeadRun.RunEq RR (PySem.W.view RR.prog [37]) (hkL 6) (obL 6) 12000 loL w) (fun w => run_of (hrAF w) (hrFF w) (hrNF w)) (fun w => run_of (hrAT w) (hrFT w) (hrNT w)) w
end Pu
namespace Pu
open PySem PySem.Spec PyProof.Rows L2 My
variable [Tbs] [Nls]
section
variable {B : Bs} {c : Cst} {ρ ρ' : En} {σ : L2.St} {H H' : Hp} {O O' : List Addr} {v : V} {d : D} {r : Rv}
def Vw (B : Bs) (H : Hp) (O : List Addr) (v : V) (d : D) : Prop := Rep B (hide H O) v d ∨ ∃ p o, v = .ref p ∧ H p = some o ∧ RepO B (hide H O) p o d
theorem same_hide (e : Same H H') : Ext (hide H O) (hide H' O) := .of2 fun a o h => .inl (by
  obtain ⟨m, q⟩ := hide_some h
  rw [hide_out m]
  exact e a o q)
theorem Vw.full (h : Vw B H O v d) : Rep B H v d := by
  rcases h with h | ⟨p, o, rfl, e, q⟩
  · exact h.mono (hide_le H O).ext
  · exact (q.mono (hide_le H O).ext).rep e
theorem Stt.ext (st : Stt B c ρ σ H O) (e : Same H H') : Stt B c ρ σ H' O where
  len := st.len
  val i d h := by
    obtain ⟨v, h1, h2⟩ := st.val i d h
    exact ⟨v, h1, h2.mono (same_hide e)⟩
  own i k d h hk := by
    obtain ⟨p, o, h1, h2, h3, h4, h5⟩ := st.own i k d h hk
    exact ⟨p, o, h1, h2, h3, e p o h4, h5.mono (same_hide e)⟩
  sep := st.sep
  pin := st.pin
  liv := st.liv.same e
  frm q hq := by
    obtain ⟨h1, h2⟩ := st.frm q hq
    obtain ⟨o, ho⟩ := st.liv q h1
    exact ⟨h1, by rw [← h2, ho]; exact e q o ho⟩
theorem RvOk.ext (h : RvOk B σ H O v r) (e : Ext (hide H O) (hide H' O')) : RvOk B σ H' O' v r := by
  cases r with
  | val d => exact Rep.mono e h
  | slot i => exact h
theorem RvsOk.ext {vs : List V} {rs : List Rv} (h : RvsOk B σ H O vs rs) (e : Ext (hide H O) (hide H' O')) : RvsOk B σ H' O' vs rs := by
  induction h with
  | nil => exact .nil
  | cons h _ ih => exact .cons (h.ext e) ih
def rd (ρ : En) : Rv → Option D
  | .val d => some d
  | .slot i => match ρ[i]? with
    | some (some (_, d)) => some d
    | _ => none
def rds (ρ : En) : List Rv → Option (List D)
  | [] => some []
  | r :: rs => match rd ρ r, rds ρ rs with
    | some d, some ds => some (d :: ds)
    | _, _ => none
theorem Stt.vw (st : Stt B c ρ σ H O) (h : RvOk B σ H O v r) (e : rd ρ r = some d) : Vw B H O v d := by
  cases r with
  | val x =>
    simp only [rd, Option.some.injEq] at e
    subst e
    exact .inl h
  | slot i =>
    simp only [rd] at e
    split at e
    · rename_i k y hq
      simp only [Option.some.injEq] at e
      subst e
      by_cases hk : k = .val
      · subst hk
        obtain ⟨u, h1, h2⟩ := st.val i _ hq
        simp only [RvOk] at h
        rw [h] at h1
        cases h1
        exact .inl h2
      · obtain ⟨p, o, h1, h2, h3, h4, h5⟩ := st.own i k _ hq hk
        simp only [RvOk] at h
        rw [h] at h1
        cases h1
        exact .inr ⟨p, o, rfl, h4, h5⟩
    · cases e
theorem Stt.vws (st : Stt B c ρ σ H O) : ∀ {vs : List V} {rs : List Rv} {ds : List D}, RvsOk B σ H O vs rs → rds ρ rs = some ds → Paired (Vw B H O) vs ds := by
  intro vs rs ds h
  induction h generalizing ds with
  | nil =>
    intro e
    simp only [rds, Option.some.injEq] at e
    subst e
    exact .nil
  | cons h1 _ ih =>
    intro e
    simp only [rds] at e
    split at e
    · rename_i d ds' e1 e2
      simp only [Option.some.injEq] at e
      subst e
      exact .cons (st.vw h1 e1) (ih e2)
    · cases e
def esc (ρ : En) : Rv → Option (D × En)
  | .val d => some (d, ρ)
  | .slot i => match ρ[i]? with
    | some (some (.val, d)) => some (d, ρ)
    | some (some (.own, d)) => some (d, ρ.set i (some (.val, d)))
    | _ => none
def escs (ρ : En) : List Rv → Option (List D × En)
  | [] => some ([], ρ)
  | r :: rs => match esc ρ r with
    | some (d, ρ1) => match escs ρ1 rs with
      | some (ds, ρ2) => some (d :: ds, ρ2)
      | none => none
    | none => none
theorem Stt.frz {i : Nat} (st : Stt B c ρ σ H O) (h : ρ[i]? = some (some (.own, d))) : ∃ p O', σ[i]? = some (some (.ref p)) ∧ Stt B c (ρ.set i (some (.val, d))) σ H O' ∧ Ext (hide H O) (hide H O') ∧ Rep B (hide H O') (.ref p) d := by
  obtain ⟨p, o, h1, h2, h3, h4, h5⟩ := st.own i .own d h (by decide)
  have hs : Ext (hide H O) (hide H (O.filter (· ≠ p))) := hide_sub fun a ha => (List.mem_filter.mp ha).1
  have hp : hide H (O.filter (· ≠ p)) p = some o := by rw [hide_out (by simp)]; exact h4
  have hi : i < ρ.length := by
    rcases Nat.lt_or_ge i ρ.length with q | q
    · exact q
    · rw [List.getElem?_eq_none q] at h; cases h
  have hr := (h5.mono hs).rep hp
  have get : ∀ j x, (ρ.set i (some (.val, d)))[j]? = some x → (j = i ∧ x = some (.val, d)) ∨ (j ≠ i ∧ ρ[j]? = some x) := fun j x q => by
    by_cases hj : j = i
    · subst hj
      rw [List.getElem?_set_self hi] at q
      cases q
      exact .inl ⟨rfl, rfl⟩
    · rw [List.getElem?_set_ne (Ne.symm hj)] at q
      exact .inr ⟨hj, q⟩
  refine ⟨p, O.filter (· ≠ p), h1, ⟨by simp [st.len], ?_, ?_, ?_, ?_, ?_, ?_⟩, hs, hr⟩
  · intro j e q
    rcases get j _ q with ⟨rfl, z⟩ | ⟨hj, q⟩
    · cases z
      exact ⟨_, h1, hr⟩
    · obtain ⟨u, u1, u2⟩ := st.val j e q
      exact ⟨u, u1, u2.mono hs⟩
  · intro j k e q hk
    rcases get j _ q with ⟨rfl, z⟩ | ⟨hj, q⟩
    · cases z; exact absurd rfl hk
    · obtain ⟨p', o', u1, u2, u3, u4, u5⟩ := st.own j k e q hk
      refine ⟨p', o', u1, ?_, u3, u4, u5.mono hs⟩
      refine List.mem_filter.mpr ⟨u2, ?_⟩
      simp only [ne_eq, decide_not, Bool.not_eq_eq_eq_not, Bool.not_true, decide_eq_false_iff_not]
      rintro rfl
      exact hj (st.sep j i p' k .own e d q h hk (by decide) u1 h1)
  · intro a b q k l x y qa qb hk hl sa sb
    rcases get a _ qa with ⟨rfl, z⟩ | ⟨ha, qa⟩
    · cases z; exact absurd rfl hk
    rcases get b _ qb with ⟨rfl, z⟩ | ⟨hb, qb⟩
    · cases z; exact absurd rfl hl
    exact st.sep a b q k l x y qa qb hk hl sa sb
  · intro j e q
    rcases get j _ q with ⟨rfl, z⟩ | ⟨hj, q⟩
    · cases z
    · exact st.pin j e q
  · exact st.liv.sub fun a ha => (List.mem_filter.mp ha).1
  · intro q hq
    obtain ⟨u1, u2⟩ := st.frm q hq
    refine ⟨List.mem_filter.mpr ⟨u1, ?_⟩, u2⟩
    simp only [ne_eq, decide_not, Bool.not_eq_eq_eq_not, Bool.not_true, decide_eq_false_iff_not]
    rintro rfl
    exact h3 hq
theorem Stt.esc (st : Stt B c ρ σ H O) (h : RvOk B σ H O v r) (e : Pu.esc ρ r = some (d, ρ')) : ∃ O', Stt B c ρ' σ H O' ∧ Ext (hide H O) (hide H O') ∧ Rep B (hide H O') v d := by
  cases r with
  | val x =>
    simp only [Pu.esc, Option.some.injEq, Prod.mk.injEq] at e
    obtain ⟨rfl, rfl⟩ := e
    exact ⟨O, st, .refl _, h⟩
  | slot i =>
    simp only [Pu.esc] at e
    simp only [RvOk] at h
    split at e
    · rename_i y hq
      simp only [Option.some.injEq, Prod.mk.injEq] at e
      obtain ⟨rfl, rfl⟩ := e
      obtain ⟨u, h1, h2⟩ := st.val i _ hq
      rw [h] at h1
      cases h1
      exact ⟨O, st, .refl _, h2⟩
    · rename_i y hq
      simp only [Option.some.injEq, Prod.mk.injEq] at e
      obtain ⟨rfl, rfl⟩ := e
      obtain ⟨p, O', h1, h2, h3, h4⟩ := st.frz hq
      rw [h] at h1
      cases h1
      exact ⟨O', h2, h3, h4⟩
    · cases e
theorem escs_ok {rs : List Rv} {vs : List V} {ds : List D} {ρ : En} {O : List Addr} (st : Stt B c ρ σ H O) (h : RvsOk B σ H O vs rs) (e : Pu.escs ρ rs = some (ds, ρ')) : ∃ O', Stt B c ρ' σ H O' ∧ Ext (hide H O) (hide H O') ∧ RepL B (hide H O') vs ds := by
  induction rs generalizing vs ds ρ O with
  | nil =>
    cases h
    simp only [Pu.escs, Option.some.injEq, Prod.mk.injEq] at e
    obtain ⟨rfl, rfl⟩ := e
    exact ⟨O, st, .refl _, .nil⟩
  | cons r rs ih =>
    cases h with
    | cons h t =>
    simp only [Pu.escs] at e
    split at e
    · rename_i d ρ1 e1
      split at e
      · rename_i ds' ρ2 e2
        simp only [Option.some.injEq, Prod.mk.injEq] at e
        obtain ⟨rfl, rfl⟩ := e
        obtain ⟨O1, s1, x1, r1⟩ := st.esc h e1
        obtain ⟨O2, s2, x2, r2⟩ := ih s1 (RvsOk.ext t x1) e2
        exact ⟨O2, s2, x1.trans x2, .cons (r1.mono x2) r2⟩
      · cases e
    · cases e
end
def dC (d : D) : M Rv := fun ρ => .ok (.val d) ρ
def rvOf (i : Nat) (k : Kd) (d : D) : Rv := match k with
  | .val => .val d
  | _ => .slot i
def dVar (i : Nat) : M Rv := fun ρ => match ρ[i]? with
  | some (some (k, d)) => .ok (rvOf i k d) ρ
  | _ => .bad
def out (ρ : En) : Option D → Out Rv
  | some d => .ok (.val d) ρ
  | none => .bad
@[simp] theorem out_some {ρ : En} {d : D} : out ρ (some d) = .ok (.val d) ρ := rfl
@[simp] theorem out_none {ρ : En} : out ρ none = .bad := rfl
def d1 (g : D → Option D) (fa : M Rv) : M Rv := fun ρ => (fa ρ).bind fun a ρ1 => match rd ρ1 a with
  | some x => out ρ1 (g x)
  | none => .bad
def d2 (g : D → D → Option D) (fa fb : M Rv) : M Rv := fun ρ => (fa ρ).bind fun a ρ1 => (fb ρ1).bind fun b ρ2 => match rd ρ2 a, rd ρ2 b with
  | some x, some y => out ρ2 (g x y)
  | _, _ => .bad
def dN (g : List D → Option D) (fa : M (List Rv)) : M Rv := fun ρ => (fa ρ).bind fun rs ρ1 => match rds ρ1 rs with
  | some ds => out ρ1 (g ds)
  | none => .bad
def dNil : M (List Rv) := fun ρ => .ok [] ρ
def dCons (fa : M Rv) (fs : M (List Rv)) : M (List Rv) := fun ρ => (fa ρ).bind fun a ρ1 => (fs ρ1).bind fun as ρ2 => .ok (a :: as) ρ2
def dTup (fa : M (List Rv)) : M Rv := fun ρ => (fa ρ).bind fun rs ρ1 => match escs ρ1 rs with
  | some (ds, ρ2) => if ds.length ≤ sizeLine then .ok (.val (.tup ds)) ρ2 else .bad
  | none => .bad
def dLst (fa : M (List Rv)) : M Rv := fun ρ => (fa ρ).bind fun rs ρ1 => match escs ρ1 rs with
  | some (ds, ρ2) => if ds.length ≤ sizeLine then .ok (.val (.lst ds)) ρ2 else .bad
  | none => .bad
def OpD (B : Bs) (r : R2) (g : D → D → Option D) : Prop := ∀ v u H O x y d Q, Liv H O → Vw B H O v x → Vw B H O u y → g x y = some d → (∀ w H', Same H H' → Rep B (hide H' O) w d → Q w H') → r v u H Q
def UnD (B : Bs) (r : V → Hp → VK → Prop) (g : D → Option D) : Prop := ∀ v H O x d Q, Liv H O → Vw B H O v x → g x = some d → (∀ w H', Same H H' → Rep B (hide H' O) w d → Q w H') → r v H Q
def CallD (B : Bs) (r : List V → Hp → VK → Prop) (g : List D → Option D) : Prop := ∀ vs H O ds d Q, Liv H O → Paired (Vw B H O) vs ds → g ds = some d → (∀ w H', Same H H' → Rep B (hide H' O) w d → Q w H') → r vs H Q
section
variable {X : Cx} {W : WX} {a b e : Expr} {es : List Expr} {fa fb : M Rv} {fs : M (List Rv)} {pos : Pos}
theorem tP.step {B : Bs} {σ : L2.St} {H : Hp} {f : M Rv} {Q1 : VK} {c : Cst} {ρ : En} {O : List Addr} {R : Rv → En → Hp → List Addr → Prop} (st : Stt B c ρ σ H O) (h : Po B c W σ H O R (f ρ)) (hq : ∀ r ρ1 v H1 O1, Stt B c ρ1 σ H1 O1 → Ext (hide H O) (hide H1 O1) → RvOk B σ H1 O1 v r → R r ρ1 H1 O1 → Q1 v H1) : tP B W f σ H Q1 := by
  refine ⟨c, ρ, O, st, ?_⟩
  cases hf : f ρ with
  | ok r ρ1 =>
    rw [hf] at h
    exact fun H' O' st' e' v hv => hq r ρ1 v H' O' st' e' hv (h H' O' st' e')
  | ex x fs ρ1 =>
    rw [hf] at h
    exact h
  | bad =>
    rw [hf] at h
    exact h.elim
theorem tAs.step {B : Bs} {σ : L2.St} {H : Hp} {f : M (List Rv)} {Q1 : List V → Hp → Prop} {c : Cst} {ρ : En} {O : List Addr} {R : List Rv → En → Hp → List Addr → Prop} (st : Stt B c ρ σ H O) (h : Po B c W σ H O R (f ρ)) (hq : ∀ r ρ1 v H1 O1, Stt B c ρ1 σ H1 O1 → Ext (hide H O) (hide H1 O1) → RvsOk B σ H1 O1 v r → R r ρ1 H1 O1 → Q1 v H1) : tAs B W f σ H Q1 := by
  refine ⟨c, ρ, O, st, ?_⟩
  cases hf : f ρ with
  | ok r ρ1 =>
    rw [hf] at h
    exact fun H' O' st' e' v hv => hq r ρ1 v H' O' st' e' hv (h H' O' st' e')
  | ex x fs ρ1 =>
    rw [hf] at h
    exact h
  | bad =>
    rw [hf] at h
    exact h.elim
theorem tQ.step {B : Bs} {σ : L2.St} {H : Hp} {f : M Bool} {Q1 : Bool → Hp → Prop} {c : Cst} {ρ : En} {O : List Addr} {R : Bool → En → Hp → List Addr → Prop} (st : Stt B c ρ σ H O) (h : Po B c W σ H O R (f ρ)) (hq : ∀ b ρ1 H1 O1, Stt B c ρ1 σ H1 O1 → Ext (hide H O) (hide H1 O1) → R b ρ1 H1 O1 → Q1 b H1) : tQ B W f σ H Q1 := by
  refine ⟨c, ρ, O, st, ?_⟩
  cases hf : f ρ with
  | ok r ρ1 =>
    rw [hf] at h
    exact fun H' O' st' e' => hq r ρ1 H' O' st' e' (h H' O' st' e')
  | ex x fs ρ1 =>
    rw [hf] at h
    exact h
  | bad =>
    rw [hf] at h
    exact h.elim
theorem de_c {v : V} {d : D} (h : PE X e (tC v)) (hr : ∀ G, Rep (bs X) G v d) : DE X W e (dC d) := PE.le h fun σ H Q ⟨c, ρ, O, st, q⟩ => q H O st (.refl _) v (hr _)
theorem de_var (i : Nat) {x : Str} (h : PE X (.Name x pos) (tVar i)) : DE X W (.Name x pos) (dVar i) := PE.le h fun σ H Q ⟨c, ρ, O, st, q⟩ => by
  unfold dVar at q
  split at q
  · rename_i k d hq
    cases k with
    | val =>
      obtain ⟨u, h1, h2⟩ := st.val i d hq
      exact ⟨u, h1, q H O st (.refl _) u h2⟩
    | own =>
      obtain ⟨p, o, h1, _⟩ := st.own i .own d hq (by decide)
      exact ⟨_, h1, q H O st (.refl _) _ h1⟩
    | pin =>
      obtain ⟨p, o, h1, _⟩ := st.own i .pin d hq (by decide)
      exact ⟨_, h1, q H O st (.refl _) _ h1⟩
  · exact q.elim
theorem da_nil : DA X W [] dNil := PA.le pa_nil fun σ H Q ⟨c, ρ, O, st, q⟩ => q H O st (.refl _) [] .nil
theorem da_cons (ha : DE X W e fa) (hr : DA X W es fs) (hs : starEach (e :: es) X.env = (false, eval e X.env) :: starEach es X.env := by rfl) : DA X W (e :: es) (dCons fa fs) := PA.le (pa_cons ha hr hs) fun σ H Q ⟨c, ρ, O, st, q⟩ => by
  unfold dCons at q
  refine tP.step st (Po.bind q) fun r ρ1 v H1 O1 st1 e1 hv q1 => ?_
  refine tAs.step st1 (Po.bind q1) fun rs ρ2 vs H2 O2 st2 e2 hvs q2 => ?_
  exact q2 H2 O2 st2 (.refl _) (v :: vs) (.cons (hv.ext e2) hvs)
theorem de_2 {g : D → D → Option D} {r : R2} (h : PE X e (tOp r (tP (bs X) W fa) (tP (bs X) W fb))) (hg : OpD (bs X) r g) : DE X W e (d2 g fa fb) := PE.le h fun σ H Q ⟨c, ρ, O, st, q⟩ => by
  unfold d2 at q
  refine tP.step st (Po.bind q) fun r1 ρ1 v H1 O1 st1 e1 hv q1 => ?_
  refine tP.step st1 (Po.bind q1) fun r2 ρ2 u H2 O2 st2 e2 hu q2 => ?_
  split at q2
  · rename_i x y hx hy
    cases hgg : g x y with
    | none => rw [hgg] at q2; exact q2.elim
    | some d =>
      rw [hgg] at q2
      exact hg v u H2 O2 x y d Q st2.liv (st2.vw (hv.ext e2) hx) (st2.vw hu hy) hgg fun w H' e' hw => q2 H' O2 (st2.ext e') (same_hide e') w hw
  · exact q2.elim
theorem de_1 {g : D → Option D} {r : V → Hp → VK → Prop} (h : PE X e (tUn r (tP (bs X) W fa))) (hg : UnD (bs X) r g) : DE X W e (d1 g fa) := PE.le h fun σ H Q ⟨c, ρ, O, st, q⟩ => by
  unfold d1 at q
  refine tP.step st (Po.bind q) fun r1 ρ1 v H1 O1 st1 e1 hv q1 => ?_
  split at q1
  · rename_i x hx
    cases hgg : g x with
    | none => rw [hgg] at q1; exact q1.elim
    | some d =>
      rw [hgg] at q1
      exact hg v H1 O1 x d Q st1.liv (st1.vw hv hx) hgg fun w H' e' hw => q1 H' O1 (st1.ext e') (same_hide e') w hw
  · exact q1.elim
theorem de_N {g : List D → Option D} {r : List V → Hp → VK → Prop} (h : PE X e (tCB r (tAs (bs X) W fs))) (hg : CallD (bs X) r g) : DE X W e (dN g fs) := PE.le h fun σ H Q ⟨c, ρ, O, st, q⟩ => by
  unfold dN at q
  refine tAs.step st (Po.bind q) fun r1 ρ1 v H1 O1 st1 e1 hv q1 => ?_
  split at q1
  · rename_i x hx
    cases hgg : g x with
    | none => rw [hgg] at q1; exact q1.elim
    | some d =>
      rw [hgg] at q1
      exact hg v H1 O1 x d Q st1.liv (st1.vws hv hx) hgg fun w H' e' hw => q1 H' O1 (st1.ext e') (same_hide e') w hw
  · exact q1.elim
theorem Liv.out {H : Hp} {O : List Addr} {p : Addr} (h : Liv H O) (hp : H p = none) : p ∉ O := fun m => by
  obtain ⟨o, ho⟩ := h p m
  rw [hp] at ho
  cases ho
theorem Same.new {H : Hp} {p : Addr} {o : HO} (h : H p = none) : Same H (upd H p o) := fun a u e => by
  rw [upd_ne (ne_of_none e h)]
  exact e
theorem hide_new {H : Hp} {O : List Addr} {p : Addr} {o : HO} (h : Liv H O) (hp : H p = none) : hide (upd H p o) O p = some o := by rw [hide_out (h.out hp), upd_same]
theorem de_tup {x1} (h : DA X W es fs) : DE X W (.Tuple es x1 pos) (dTup fs) := PE.le (pe_tup h) fun σ H Q ⟨c, ρ, O, st, q⟩ => by
  unfold dTup at q
  refine tAs.step st (Po.bind q) fun rs ρ1 vs H1 O1 st1 e1 hvs q1 => ?_
  split at q1
  · rename_i ds ρ2 hes
    obtain ⟨O2, st2, e2, hr⟩ := escs_ok st1 hvs hes
    by_cases hl : ds.length ≤ sizeLine
    · rw [if_pos hl] at q1
      refine ⟨by rw [hr.length]; exact hl, fun p hp => ?_⟩
      have en : Same H1 (upd H1 p (.tup vs)) := Same.new hp
      refine q1 _ O2 (st2.ext en) (e2.trans (same_hide en)) _ ?_
      exact .tup (.inl (.inl (hide_new st2.liv hp))) (hr.mono (same_hide en))
    · rw [if_neg hl] at q1
      exact q1.elim
  · exact q1.elim
theorem de_lst (h : DA X W es fs) : DE X W (.List es pos) (dLst fs) := PE.le (pe_lst h) fun σ H Q ⟨c, ρ, O, st, q⟩ => by
  unfold dLst at q
  refine tAs.step st (Po.bind q) fun rs ρ1 vs H1 O1 st1 e1 hvs q1 => ?_
  split at q1
  · rename_i ds ρ2 hes
    obtain ⟨O2, st2, e2, hr⟩ := escs_ok st1 hvs hes
    by_cases hl : ds.length ≤ sizeLine
    · rw [if_pos hl] at q1
      refine ⟨by rw [hr.length]; exact hl, fun p hp => ?_⟩
      have en : Same H1 (upd H1 p (.lst vs)) := Same.new hp
      refine q1 _ O2 (st2.ext en) (e2.trans (same_hide en)) _ ?_
      exact .lst (hide_new st2.liv hp) (hr.mono (same_hide en))
    · rw [if_neg hl] at q1
      exact q1.elim
  · exact q1.elim
end
end Pu
namespace Pu
open PySem PySem.Spec PyProof.Rows L2 My
variable [Tbs] [Nls]
section
variable {B : Bs} {c : Cst} {ρ ρ' : En} {σ : L2.St} {H H' : Hp} {O O' : List Addr} {v : V} {d : D}
theorem get_set {α : Type} {l : List α} {i j : Nat} {x y : α} (h : (l.set i x)[j]? = some y) : (j = i ∧ i < l.length ∧ y = x) ∨ (j ≠ i ∧ l[j]? = some y) := by
  by_cases hj : j = i
  · subst hj
    rcases Nat.lt_or_ge j l.length with q | q
    · rw [List.getElem?_set_self q] at h
      cases h
      exact .inl ⟨rfl, q, rfl⟩
    · rw [List.getElem?_eq_none (by simpa using q)] at h
      cases h
  · rw [List.getElem?_set_ne (Ne.symm hj)] at h
    exact .inr ⟨hj, h⟩
theorem set_get {α : Type} {l : List α} {i j : Nat} {x y : α} (hj : j ≠ i) (h : l[j]? = some y) : (l.set i x)[j]? = some y := by rw [List.getElem?_set_ne (Ne.symm hj)]; exact h
theorem Stt.set (st : Stt B c ρ σ H O) (i : Nat) (hr : Rep B (hide H O) v d) : Stt B c (ρ.set i (some (.val, d))) (σ.set i (some v)) H O := by
  refine ⟨by simp [st.len], ?_, ?_, ?_, ?_, st.liv, st.frm⟩
  · intro j e q
    rcases get_set q with ⟨rfl, hl, z⟩ | ⟨hj, q⟩
    · cases z
      exact ⟨v, by rw [List.getElem?_set_self (by rw [← st.len]; exact hl)], hr⟩
    · obtain ⟨u, u1, u2⟩ := st.val j e q
      exact ⟨u, set_get hj u1, u2⟩
  · intro j k e q hk
    rcases get_set q with ⟨rfl, hl, z⟩ | ⟨hj, q⟩
    · cases z; exact absurd rfl hk
    · obtain ⟨p', o', u1, u2, u3, u4, u5⟩ := st.own j k e q hk
      exact ⟨p', o', set_get hj u1, u2, u3, u4, u5⟩
  · intro a b q k l x y qa qb hk hl sa sb
    rcases get_set qa with ⟨rfl, _, z⟩ | ⟨ha, qa⟩
    · cases z; exact absurd rfl hk
    rcases get_set qb with ⟨rfl, _, z⟩ | ⟨hb, qb⟩
    · cases z; exact absurd rfl hl
    rw [List.getElem?_set_ne (Ne.symm ha)] at sa
    rw [List.getElem?_set_ne (Ne.symm hb)] at sb
    exact st.sep a b q k l x y qa qb hk hl sa sb
  · intro j e q
    rcases get_set q with ⟨rfl, _, z⟩ | ⟨hj, q⟩
    · cases z
    · exact set_get hj (st.pin j e q)
theorem Stt.drop (st : Stt B c ρ σ H O) (i : Nat) (x : Option V) : Stt B c (ρ.set i none) (σ.set i x) H O := by
  refine ⟨by simp [st.len], ?_, ?_, ?_, ?_, st.liv, st.frm⟩
  · intro j e q
    rcases get_set q with ⟨rfl, hl, z⟩ | ⟨hj, q⟩
    · cases z
    · obtain ⟨u, u1, u2⟩ := st.val j e q
      exact ⟨u, set_get hj u1, u2⟩
  · intro j k e q hk
    rcases get_set q with ⟨rfl, hl, z⟩ | ⟨hj, q⟩
    · cases z
    · obtain ⟨p', o', u1, u2, u3, u4, u5⟩ := st.own j k e q hk
      exact ⟨p', o', set_get hj u1, u2, u3, u4, u5⟩
  · intro a b q k l x y qa qb hk hl sa sb
    rcases get_set qa with ⟨rfl, _, z⟩ | ⟨ha, qa⟩
    · cases z
    rcases get_set qb with ⟨rfl, _, z⟩ | ⟨hb, qb⟩
    · cases z
    rw [List.getElem?_set_ne (Ne.symm ha)] at sa
    rw [List.getElem?_set_ne (Ne.symm hb)] at sb
    exact st.sep a b q k l x y qa qb hk hl sa sb
  · intro j e q
    rcases get_set q with ⟨rfl, _, z⟩ | ⟨hj, q⟩
    · cases z
    · exact set_get hj (st.pin j e q)
def Free (ρ : En) (σ : L2.St) (p : Addr) : Prop := ∀ (i : Nat) (k : Kd) (d : D), ρ[i]? = some (some (k, d)) → k ≠ .val → σ[i]? ≠ some (some (.ref p))
theorem Stt.setO {p : Addr} {o : HO} (st : Stt B c ρ σ H O) (i : Nat) (ho : H p = some o) (hp : p ∈ O) (hF : p ∉ c.F) (hf : Free ρ σ p) (hr : RepO B (hide H O) p o d) : Stt B c (ρ.set i (some (.own, d))) (σ.set i (some (.ref p))) H O := by
  refine ⟨by simp [st.len], ?_, ?_, ?_, ?_, st.liv, st.frm⟩
  · intro j e q
    rcases get_set q with ⟨rfl, hl, z⟩ | ⟨hj, q⟩
    · cases z
    · obtain ⟨u, u1, u2⟩ := st.val j e q
      exact ⟨u, set_get hj u1, u2⟩
  · intro j k e q hk
    rcases get_set q with ⟨rfl, hl, z⟩ | ⟨hj, q⟩
    · cases z
      exact ⟨p, o, by rw [List.getElem?_set_self (by rw [← st.len]; exact hl)], hp, hF, ho, hr⟩
    · obtain ⟨p', o', u1, u2, u3, u4, u5⟩ := st.own j k e q hk
      exact ⟨p', o', set_get hj u1, u2, u3, u4, u5⟩
  · intro a b q k l x y qa qb hk hl sa sb
    rcases get_set qa with ⟨rfl, ha, z⟩ | ⟨ha, qa'⟩
    · rcases get_set qb with ⟨rfl, _, z'⟩ | ⟨hb, qb⟩
      · rfl
      · rw [List.getElem?_set_self (by rw [← st.len]; exact ha)] at sa
        cases sa
        rw [List.getElem?_set_ne (Ne.symm hb)] at sb
        exact absurd sb (hf b l y qb hl)
    · rcases get_set qb with ⟨rfl, hb, z'⟩ | ⟨hb, qb⟩
      · rw [List.getElem?_set_self (by rw [← st.len]; exact hb)] at sb
        cases sb
        rw [List.getElem?_set_ne (Ne.symm ha)] at sa
        exact absurd sa (hf a k x qa' hk)
      · rw [List.getElem?_set_ne (Ne.symm ha)] at sa
        rw [List.getElem?_set_ne (Ne.symm hb)] at sb
        exact st.sep a b q k l x y qa' qb hk hl sa sb
  · intro j e q
    rcases get_set q with ⟨rfl, _, z⟩ | ⟨hj, q⟩
    · cases z
    · exact set_get hj (st.pin j e q)
theorem Stt.mut {i : Nat} {k : Kd} {d0 : D} {p : Addr} {o : HO} (st : Stt B c ρ σ H O) (hi : ρ[i]? = some (some (k, d0))) (hk : k ≠ .val) (hs : σ[i]? = some (some (.ref p))) (hr : RepO B (hide H O) p o d) : Stt B c (ρ.set i (some (k, d))) σ (upd H p o) O := by
  obtain ⟨p0, o0, h1, h2, h3, h4, h5⟩ := st.own i k d0 hi hk
  rw [hs] at h1
  cases h1
  have eh : hide (upd H p o) O = hide H O := hide_upd h2
  refine ⟨by simp [st.len], ?_, ?_, ?_, ?_, ?_, ?_⟩
  · intro j e q
    rcases get_set q with ⟨rfl, hl, z⟩ | ⟨hj, q⟩
    · cases z; exact absurd rfl hk
    · obtain ⟨u, u1, u2⟩ := st.val j e q
      exact ⟨u, u1, by rw [eh]; exact u2⟩
  · intro j l e q hl
    rcases get_set q with ⟨rfl, _, z⟩ | ⟨hj, q⟩
    · cases z
      exact ⟨p, o, hs, h2, h3, upd_same, by rw [eh]; exact hr⟩
    · obtain ⟨p', o', u1, u2, u3, u4, u5⟩ := st.own j l e q hl
      refine ⟨p', o', u1, u2, u3, ?_, by rw [eh]; exact u5⟩
      rw [upd_ne]
      · exact u4
      · rintro rfl
        exact hj (st.sep j i p' l k e d0 q hi hl hk u1 hs)
  · intro a b q k' l' x y qa qb hk' hl' sa sb
    have ea : ∃ x', ρ[a]? = some (some (k', x')) := by
      rcases get_set qa with ⟨rfl, _, z⟩ | ⟨ha, qa⟩
      · cases z; exact ⟨_, hi⟩
      · exact ⟨_, qa⟩
    have eb : ∃ x', ρ[b]? = some (some (l', x')) := by
      rcases get_set qb with ⟨rfl, _, z⟩ | ⟨ha, qb⟩
      · cases z; exact ⟨_, hi⟩
      · exact ⟨_, qb⟩
    obtain ⟨x', ea⟩ := ea
    obtain ⟨y', eb⟩ := eb
    exact st.sep a b q k' l' x' y' ea eb hk' hl' sa sb
  · intro j e q
    rcases get_set q with ⟨rfl, _, z⟩ | ⟨hj, q⟩
    · cases z
      exact st.pin _ d0 hi
    · exact st.pin j e q
  · exact st.liv.upd h2 hr.notb
  · intro q hq
    obtain ⟨u1, u2⟩ := st.frm q hq
    refine ⟨u1, ?_⟩
    rw [upd_ne]
    · exact u2
    · rintro rfl; exact h3 hq
theorem Stt.newO {p : Addr} {o : HO} (st : Stt B c ρ σ H O) (hp : H p = none) (no : NoTb o := by exact .inl rfl) : Stt B c ρ σ (upd H p o) (p :: O) ∧ Ext (hide H O) (hide (upd H p o) (p :: O)) ∧ Free ρ σ p ∧ p ∉ c.F := by
  have es : Ext (hide H O) (hide (upd H p o) (p :: O)) := Ext.of2 fun a u h => .inl (by
    obtain ⟨m, q⟩ := hide_some h
    have ne : a ≠ p := ne_of_none q hp
    rw [hide_out (by simp [ne, m]), upd_ne ne]
    exact q)
  refine ⟨⟨st.len, ?_, ?_, st.sep, st.pin, ?_, ?_⟩, es, ?_, ?_⟩
  · intro i e q
    obtain ⟨u, u1, u2⟩ := st.val i e q
    exact ⟨u, u1, u2.mono es⟩
  · intro i k e q hk
    obtain ⟨p', o', u1, u2, u3, u4, u5⟩ := st.own i k e q hk
    exact ⟨p', o', u1, .tail _ u2, u3, by rw [upd_ne (ne_of_none u4 hp)]; exact u4, u5.mono es⟩
  · exact st.liv.new hp no
  · intro q hq
    obtain ⟨u1, u2⟩ := st.frm q hq
    obtain ⟨o', ho'⟩ := st.liv q u1
    exact ⟨.tail _ u1, by rw [upd_ne (ne_of_none ho' hp)]; exact u2⟩
  · intro i k e q hk z
    obtain ⟨p', o', u1, u2, u3, u4, u5⟩ := st.own i k e q hk
    rw [z] at u1
    cases u1
    rw [hp] at u4
    cases u4
  · intro hF
    obtain ⟨u1, u2⟩ := st.frm p hF
    obtain ⟨o', ho'⟩ := st.liv p u1
    rw [hp] at ho'
    cases ho'
theorem Stt.thaw {p : Addr} {o : HO} (st : Stt B c ρ σ H O) (ho : H p = some o) (hf : Free ρ σ p) (hF : p ∉ c.F) (hr : RepO B (hide H O) p o d) : ∃ O', Stt B c ρ σ H O' ∧ Ext (hide H O) (hide H O') ∧ Rep B (hide H O') (.ref p) d := by
  have hs : Ext (hide H O) (hide H (O.filter (· ≠ p))) := hide_sub fun a ha => (List.mem_filter.mp ha).1
  have hp : hide H (O.filter (· ≠ p)) p = some o := by rw [hide_out (by simp)]; exact ho
  refine ⟨O.filter (· ≠ p), ⟨st.len, ?_, ?_, st.sep, st.pin, ?_, ?_⟩, hs, (hr.mono hs).rep hp⟩
  · intro i e q
    obtain ⟨u, u1, u2⟩ := st.val i e q
    exact ⟨u, u1, u2.mono hs⟩
  · intro i k e q hk
    obtain ⟨p', o', u1, u2, u3, u4, u5⟩ := st.own i k e q hk
    refine ⟨p', o', u1, List.mem_filter.mpr ⟨u2, ?_⟩, u3, u4, u5.mono hs⟩
    simp only [ne_eq, decide_not, Bool.not_eq_eq_eq_not, Bool.not_true, decide_eq_false_iff_not]
    rintro rfl
    exact hf i k e q hk u1
  · exact st.liv.sub fun a ha => (List.mem_filter.mp ha).1
  · intro q hq
    obtain ⟨u1, u2⟩ := st.frm q hq
    refine ⟨List.mem_filter.mpr ⟨u1, ?_⟩, u2⟩
    simp only [ne_eq, decide_not, Bool.not_eq_eq_eq_not, Bool.not_true, decide_eq_false_iff_not]
    rintro rfl
    exact hF hq
end
def tF (B : Bs) (W : WX) (f : M D) : TE := fun σ H Q => ∃ c ρ O, Stt B c ρ σ H O ∧ Po B c W σ H O (fun d ρ' H' O' => ∀ p o, H' p = some o → p ∈ O' → Free ρ' σ p → p ∉ c.F → RepO B (hide H' O') p o d → Q (.ref p) H') (f ρ)
abbrev DF (X : Cx) (W : WX) (e : Expr) (f : M D) : Prop := PE X e (tF (bs X) W f)
def dFr (f : M D) : M Rv := fun ρ => (f ρ).bind fun d ρ1 => .ok (.val d) ρ1
section
variable {X : Cx} {W : WX} {a b e : Expr} {es : List Expr} {fa fb : M Rv} {fs : M (List Rv)} {pos : Pos}
theorem DF.de {f : M D} (h : DF X W e f) : DE X W e (dFr f) := PE.le h fun σ H Q ⟨c, ρ, O, st, q⟩ => by
  refine ⟨c, ρ, O, st, ?_⟩
  unfold dFr at q
  have q' := Po.bind q
  cases hf : f ρ with
  | ok d ρ1 =>
    rw [hf] at q'
    intro H' O' st' e' p o ho hp hfr hF hr
    obtain ⟨O2, s2, x2, r2⟩ := st'.thaw ho hfr hF hr
    have := q' H' O' st' e'
    exact this H' O2 s2 x2 _ r2
  | ex x fs ρ1 => rw [hf] at q'; exact q'
  | bad => rw [hf] at q'; exact q'
def dLstF (fa : M (List Rv)) : M D := fun ρ => (fa ρ).bind fun rs ρ1 => match escs ρ1 rs with
  | some (ds, ρ2) => if ds.length ≤ sizeLine then .ok (.lst ds) ρ2 else .bad
  | none => .bad
theorem df_lst (h : DA X W es fs) : DF X W (.List es pos) (dLstF fs) := PE.le (pe_lst h) fun σ H Q ⟨c, ρ, O, st, q⟩ => by
  unfold dLstF at q
  refine tAs.step st (Po.bind q) fun rs ρ1 vs H1 O1 st1 e1 hvs q1 => ?_
  split at q1
  · rename_i ds ρ2 hes
    obtain ⟨O2, st2, e2, hr⟩ := escs_ok st1 hvs hes
    by_cases hl : ds.length ≤ sizeLine
    · rw [if_pos hl] at q1
      refine ⟨by rw [hr.length]; exact hl, fun p hp => ?_⟩
      obtain ⟨s3, e3, f3, n3⟩ := st2.newO (o := .lst vs) hp
      exact q1 _ _ s3 (e2.trans e3) p _ upd_same List.mem_cons_self f3 n3 (.lst (hr.mono e3))
    · rw [if_neg hl] at q1
      exact q1.elim
  · exact q1.elim
end
def truD : D → Option Bool
  | .non => some false
  | .bl b => some b
  | .int i => some (i != 0)
  | .str s => if s.length ≤ sizeLine then some (s.length != 0) else none
  | .tup xs => some (!xs.isEmpty)
  | .lst xs => some (!xs.isEmpty)
  | .dK xs => some (!xs.isEmpty)
  | _ => none
def outB (ρ : En) : Option Bool → Out Bool
  | some b => .ok b ρ
  | none => .bad
@[simp] theorem outB_some {ρ : En} {b : Bool} : outB ρ (some b) = .ok b ρ := rfl
@[simp] theorem outB_none {ρ : En} : outB ρ none = .bad := rfl
def dTru (fa : M Rv) : M Bool := fun ρ => (fa ρ).bind fun a ρ1 => match rd ρ1 a with
  | some d => outB ρ1 (truD d)
  | none => .bad
def bD : D → Option Bool
  | .bl b => some b
  | _ => none
def dB (fa : M Rv) : M Bool := fun ρ => (fa ρ).bind fun a ρ1 => match rd ρ1 a with
  | some d => outB ρ1 (bD d)
  | none => .bad
def dAnd (c1 c2 : M Bool) : M Bool := fun ρ => (c1 ρ).bind fun b ρ1 => if b = true then c2 ρ1 else .ok false ρ1
def dOr (c1 c2 : M Bool) : M Bool := fun ρ => (c1 ρ).bind fun b ρ1 => if b = true then .ok true ρ1 else c2 ρ1
def dNot (c1 : M Bool) : M Bool := fun ρ => (c1 ρ).bind fun b ρ1 => .ok (!b) ρ1
def dAndV (fa fb : M Rv) : M Rv := fun ρ => (fa ρ).bind fun a ρ1 => match rd ρ1 a with
  | some (.bl true) => fb ρ1
  | some (.bl false) => .ok (.val (.bl false)) ρ1
  | _ => .bad
def dOrV (fa fb : M Rv) : M Rv := fun ρ => (fa ρ).bind fun a ρ1 => match rd ρ1 a with
  | some (.bl true) => .ok (.val (.bl true)) ρ1
  | some (.bl false) => fb ρ1
  | _ => .bad
def notD : D → Option D
  | .bl b => some (.bl !b)
  | _ => none
def dIfE (c : M Bool) (fa fb : M Rv) : M Rv := fun ρ => (c ρ).bind fun b ρ1 => if b = true then fa ρ1 else fb ρ1
theorem Rep.bl_inv {B : Bs} {G : Hp} {v : V} {b : Bool} (h : Rep B G v (.bl b)) : v = .bl b := by cases h; rfl
theorem Rep.int_inv {B : Bs} {G : Hp} {v : V} {b : Int} (h : Rep B G v (.int b)) : v = .int b := by cases h; rfl
theorem Rep.str_inv {B : Bs} {G : Hp} {v : V} {b : Str} (h : Rep B G v (.str b)) : v = .str b := by cases h; rfl
theorem Rep.non_inv {B : Bs} {G : Hp} {v : V} (h : Rep B G v .non) : v = .non := by cases h; rfl
section
variable {B : Bs} {H : Hp} {O : List Addr} {v : V}
theorem Vw.lst {ds : List D} (h : Vw B H O v (.lst ds)) : ∃ a xs, v = .ref a ∧ H a = some (.lst xs) ∧ RepL B (hide H O) xs ds := by
  rcases h with h | ⟨p, o, rfl, e, q⟩
  · cases h with
    | lst s r => exact ⟨_, _, rfl, hide_le H O _ _ s, r⟩
  · cases q with
    | lst r => exact ⟨_, _, rfl, e, r⟩
theorem Vw.tup {ds : List D} (h : Vw B H O v (.tup ds)) : ∃ a xs, v = .ref a ∧ SqT B.K H a xs ∧ RepL B (hide H O) xs ds := by
  rcases h with h | ⟨p, o, rfl, e, q⟩
  · cases h with
    | tup s r => exact ⟨_, _, rfl, sqT_mono (hide_le H O).ext s, r⟩
  · cases q
theorem Vw.dK {ds : List (Key × D)} (h : Vw B H O v (.dK ds)) : ∃ a kvs, v = .ref a ∧ Rd H a (.dK kvs) ∧ kvs.map (·.1) = ds.map (·.1) ∧ RepL B (hide H O) (kvs.map (·.2)) (ds.map (·.2)) := by
  rcases h with h | ⟨p, o, rfl, e, q⟩
  · cases h with
    | dK s k r => exact ⟨_, _, rfl, rd_mono (hide_le H O).ext s.rd, k, r⟩
  · cases q with
    | dK k r => exact ⟨_, _, rfl, .inl e, k, r⟩
theorem Vw.dT {ds : List (List Key × D)} (h : Vw B H O v (.dT ds)) : ∃ a kvs, v = .ref a ∧ Rd H a (.dT kvs) ∧ kvs.map (·.1) = ds.map (·.1) ∧ RepL B (hide H O) (kvs.map (·.2)) (ds.map (·.2)) := by
  rcases h with h | ⟨p, o, rfl, e, q⟩
  · cases h with
    | dT s k r => exact ⟨_, _, rfl, rd_mono (hide_le H O).ext s, k, r⟩
  · cases q with
    | dT k r => exact ⟨_, _, rfl, .inl e, k, r⟩
theorem Vw.kd {ds : List (Key × D)} (h : Vw B H O v (.kd ds)) : ∃ a kvs, v = .ref a ∧ KDo B.K B.w a kvs ∧ kvs.map (·.1) = ds.map (·.1) ∧ RepL B (hide H O) (kvs.map (·.2)) (ds.map (·.2)) := by
  rcases h with h | ⟨p, o, rfl, e, q⟩
  · cases h with
    | kd s k r => exact ⟨_, _, rfl, s, k, r⟩
  · cases q
theorem Vw.scr {xs : List Int} (h : Vw B H O v (.scr xs)) : ∃ a, v = .ref a ∧ SqL B.K H a (xs.map V.int) := by
  rcases h with h | ⟨p, o, rfl, e, q⟩
  · cases h with
    | scr s => exact ⟨_, rfl, sqL_mono (hide_le H O).ext s⟩
  · cases q
theorem Vw.ins {c : Str} {ds : List (Str × D)} (h : Vw B H O v (.ins c ds)) : ∃ a dx fs, v = .ref a ∧ H a = some (.ins (B.cls c) dx fs) ∧ fs.map (·.1) = ds.map (·.1) ∧ RepL B (hide H O) (fs.map (·.2)) (ds.map (·.2)) := by
  rcases h with h | ⟨p, o, rfl, e, q⟩
  · cases h with
    | ins s k r => exact ⟨_, _, _, rfl, hide_le H O _ _ s, k, r⟩
  · cases q with
    | ins k r => exact ⟨_, _, _, rfl, e, k, r⟩
theorem Vw.bl {b : Bool} (h : Vw B H O v (.bl b)) : v = .bl b := h.full.bl_inv
theorem Vw.int {b : Int} (h : Vw B H O v (.int b)) : v = .int b := h.full.int_inv
theorem Vw.str {b : Str} (h : Vw B H O v (.str b)) : v = .str b := h.full.str_inv
theorem Vw.non (h : Vw B H O v .non) : v = .non := h.full.non_inv
end
section
variable {X : Cx} {W : WX} {a b e : Expr} {es : List Expr} {fa fb : M Rv} {ca cb : M Bool} {pos : Pos}
theorem dt_b (ha : DE X W e fa) (he : ∀ whole, isTrue e X.env whole = (do let v ← whole; standAt e.pos; holding [v] (truthy v)) := by intro _; rfl) : DT X W e (dB fa) := PT.le (pt_val ha he) fun σ H Q ⟨c, ρ, O, st, q⟩ => by
  unfold dB at q
  refine tP.step st (Po.bind q) fun r1 ρ1 v H1 O1 st1 e1 hv q1 => ?_
  split at q1
  · rename_i x hx
    cases x <;> simp only [bD, outB] at q1 <;> first | exact q1.elim | skip
    exact ⟨_, (st1.vw hv hx).bl, q1 H1 O1 st1 (.refl _)⟩
  · exact q1.elim
def dT2 (g : D → D → Option D) (fa fb : M Rv) : M Bool := dB (d2 g fa fb)
theorem dt_2 {g : D → D → Option D} {r : R2} (h : PT X e (tTest (tOp r (tP (bs X) W fa) (tP (bs X) W fb)))) (hg : OpD (bs X) r g) : DT X W e (dT2 g fa fb) := PT.le h fun σ H Q ⟨c, ρ, O, st, q⟩ => by
  unfold dT2 dB d2 at q
  have q := Po.bind q
  refine tP.step st (Po.bind q) fun r1 ρ1 v H1 O1 st1 e1 hv q1 => ?_
  refine tP.step st1 (Po.bind q1) fun r2 ρ2 u H2 O2 st2 e2 hu q2 => ?_
  split at q2
  · rename_i x y hx hy
    cases hgg : g x y with
    | none => rw [hgg] at q2; exact q2.elim
    | some d =>
      rw [hgg] at q2
      refine hg v u H2 O2 x y d _ st2.liv (st2.vw (hv.ext e2) hx) (st2.vw hu hy) hgg fun w H' e' hw => ?_
      have q3 := q2 H' O2 (st2.ext e') (same_hide e')
      simp only [rd] at q3
      cases d <;> simp only [bD, outB] at q3 <;> first | exact q3.elim | skip
      exact ⟨_, hw.bl_inv, q3 H' O2 (st2.ext e') (.refl _)⟩
  · exact q2.elim
theorem dw_and (ha : DT X W a ca) {rest : List Expr} (hb : DW X W (.BoolOp .And (b :: rest) pos) cb) : DW X W (.BoolOp .And (a :: b :: rest) pos) (dAnd ca cb) := PW.le (pw_and ha hb) fun σ H Q ⟨c, ρ, O, st, q⟩ => by
  unfold dAnd at q
  refine tQ.step st (Po.bind q) fun b ρ1 H1 O1 st1 e1 q1 => ?_
  cases b
  · rw [if_neg (by decide)] at q1
    rw [if_neg (by decide)]
    exact q1 H1 O1 st1 (.refl _)
  · rw [if_pos rfl] at q1
    rw [if_pos rfl]
    exact ⟨c, ρ1, O1, st1, q1⟩
theorem dw_or (ha : DT X W a ca) {rest : List Expr} (hb : DW X W (.BoolOp .Or (b :: rest) pos) cb) : DW X W (.BoolOp .Or (a :: b :: rest) pos) (dOr ca cb) := PW.le (pw_or ha hb) fun σ H Q ⟨c, ρ, O, st, q⟩ => by
  unfold dOr at q
  refine tQ.step st (Po.bind q) fun b ρ1 H1 O1 st1 e1 q1 => ?_
  cases b
  · rw [if_neg (by decide)] at q1
    rw [if_neg (by decide)]
    exact ⟨c, ρ1, O1, st1, q1⟩
  · rw [if_pos rfl] at q1
    rw [if_pos rfl]
    exact q1 H1 O1 st1 (.refl _)
theorem dw_and1 (ha : DT X W a ca) : DW X W (.BoolOp .And [a] pos) ca := pw_and1 ha
theorem dw_or1 (ha : DT X W a ca) : DW X W (.BoolOp .Or [a] pos) ca := pw_or1 ha
theorem dt_not (ha : DT X W a ca) : DT X W (.UnaryOp .Not a pos) (dNot ca) := PT.le (pt_not ha) fun σ H Q ⟨c, ρ, O, st, q⟩ => by
  unfold dNot at q
  refine tQ.step st (Po.bind q) fun b ρ1 H1 O1 st1 e1 q1 => ?_
  exact q1 H1 O1 st1 (.refl _)
theorem de_and (ha : DE X W a fa) {rest : List Expr} (hb : DE X W (.BoolOp .And (b :: rest) pos) fb) : DE X W (.BoolOp .And (a :: b :: rest) pos) (dAndV fa fb) := PE.le (pe_and ha hb) fun σ H Q ⟨c, ρ, O, st, q⟩ => by
  unfold dAndV at q
  refine tP.step st (Po.bind q) fun r1 ρ1 v H1 O1 st1 e1 hv q1 => ?_
  split at q1
  · rename_i hx
    exact ⟨true, (st1.vw hv hx).bl, by rw [if_pos rfl]; exact ⟨c, ρ1, O1, st1, q1⟩⟩
  · rename_i hx
    exact ⟨false, (st1.vw hv hx).bl, by rw [if_neg (by decide)]; exact q1 H1 O1 st1 (.refl _) _ (.bl false)⟩
  · exact q1.elim
theorem de_one {op} (h : DE X W a fa) : DE X W (.BoolOp op [a] pos) fa := pe_one h
theorem de_not (h : DE X W a fa) : DE X W (.UnaryOp .Not a pos) (d1 notD fa) := PE.le (pe_not h) fun σ H Q ⟨c, ρ, O, st, q⟩ => by
  unfold d1 at q
  refine tP.step st (Po.bind q) fun r1 ρ1 v H1 O1 st1 e1 hv q1 => ?_
  split at q1
  · rename_i x hx
    cases x <;> simp only [notD, out] at q1 <;> first | exact q1.elim | skip
    exact ⟨_, (st1.vw hv hx).bl, q1 H1 O1 st1 (.refl _) _ (.bl _)⟩
  · exact q1.elim
theorem de_if (hc : DT X W e ca) (ha : DE X W a fa) (hb : DE X W b fb) : DE X W (.IfExp e a b pos) (dIfE ca fa fb) := PE.le (pe_ifExp hc ha hb) fun σ H Q ⟨c, ρ, O, st, q⟩ => by
  unfold dIfE at q
  refine tQ.step st (Po.bind q) fun b ρ1 H1 O1 st1 e1 q1 => ?_
  cases b
  · rw [if_neg (by decide)] at q1
    rw [if_neg (by decide)]
    exact ⟨c, ρ1, O1, st1, q1⟩
  · rw [if_pos rfl] at q1
    rw [if_pos rfl]
    exact ⟨c, ρ1, O1, st1, q1⟩
end
end Pu
namespace Pu
open PySem PySem.Spec PyProof.Rows L2 My
variable [Tbs] [Nls]
inductive SOut where
  | nx (ρ : En) | rt (d : D) (ρ : En) | bk (ρ : En) | ct (ρ : En) | ex (x : Str) (fs : List (Str × D)) (ρ : En) | rf (d : D) (ρ : En) | bad
def SM := En → SOut
def SPo (B : Bs) (c : Cst) (W : WX) (E : Ends) (H : Hp) (O : List Addr) : SOut → Prop
  | .nx ρ' => ∀ σ' H' O', Stt B c ρ' σ' H' O' → Ext (hide H O) (hide H' O') → E.nx σ' H'
  | .rt d ρ' => ∀ v σ' H' O', Stt B c ρ' σ' H' O' → Ext (hide H O) (hide H' O') → Rep B (hide H' O') v d → E.rt v H'
  | .bk ρ' => ∀ σ' H' O', Stt B c ρ' σ' H' O' → Ext (hide H O) (hide H' O') → E.bk σ' H'
  | .ct ρ' => ∀ σ' H' O', Stt B c ρ' σ' H' O' → Ext (hide H O) (hide H' O') → E.ct σ' H'
  | .ex x fs ρ' => ∀ dd σ' H' O', Stt B c ρ' σ' H' O' → Ext (hide H O) (hide H' O') → ExAt B (hide H' O') fs dd → W (.ref (B.cls x)) dd σ' H'
  | .rf d ρ' => ∀ p o σ' H' O', Stt B c ρ' σ' H' O' → Ext (hide H O) (hide H' O') → H' p = some o → p ∈ O' → Free ρ' σ' p → p ∉ c.F → RepO B (hide H' O') p o d → E.rt (.ref p) H'
  | .bad => False
theorem SPo.mono {B : Bs} {c : Cst} {W : WX} {E : Ends} {H H1 : Hp} {O O1 : List Addr} {o : SOut} (h : SPo B c W E H O o) (e : Ext (hide H O) (hide H1 O1)) : SPo B c W E H1 O1 o := by
  cases o with
  | nx ρ' => exact fun σ' H' O' st e' => h σ' H' O' st (e.trans e')
  | rt d ρ' => exact fun v σ' H' O' st e' => h v σ' H' O' st (e.trans e')
  | bk ρ' => exact fun σ' H' O' st e' => h σ' H' O' st (e.trans e')
  | ct ρ' => exact fun σ' H' O' st e' => h σ' H' O' st (e.trans e')
  | ex x fs ρ' => exact fun dd σ' H' O' st e' => h dd σ' H' O' st (e.trans e')
  | rf d ρ' => exact fun p o σ' H' O' st e' => h p o σ' H' O' st (e.trans e')
  | bad => exact h
def tS (B : Bs) (W : WX) (f : SM) : TS := fun E σ H => ∃ c ρ O, Stt B c ρ σ H O ∧ SPo B c W E H O (f ρ)
abbrev DS (X : Cx) (W : WX) (s : Stmt) (f : SM) : Prop := PS X s (tS (bs X) W f)
abbrev DSs (X : Cx) (W : WX) (s : List Stmt) (f : SM) : Prop := PSs X s (tS (bs X) W f)
def Out.then {α : Type} (o : Out α) (k : α → En → SOut) : SOut := match o with
  | .ok a ρ => k a ρ
  | .ex x fs ρ => .ex x fs ρ
  | .bad => .bad
@[simp] theorem then_ok {α : Type} (a : α) (ρ : En) (k : α → En → SOut) : (Out.ok a ρ).then k = k a ρ := rfl
@[simp] theorem then_ex {α : Type} (c : Str) (fs : List (Str × D)) (ρ : En) (k : α → En → SOut) : (Out.ex c fs ρ).then k = .ex c fs ρ := rfl
@[simp] theorem then_bad {α : Type} (k : α → En → SOut) : (Out.bad : Out α).then k = .bad := rfl
theorem SPo.then {α : Type} {B : Bs} {c : Cst} {W : WX} {σ : L2.St} {E : Ends} {H : Hp} {O : List Addr} {o : Out α} {k : α → En → SOut} (h : SPo B c W E H O (o.then k)) :
    Po B c W σ H O (fun a ρ' H' O' => SPo B c W E H' O' (k a ρ')) o := by
  cases o with
  | ok a ρ' => exact fun H' O' st' e' => SPo.mono h e'
  | ex x fs ρ' => exact fun dd H' O' st' e' xa => h dd σ H' O' st' e' xa
  | bad => exact h
def dNx : SM := fun ρ => .nx ρ
def dSeq (f g : SM) : SM := fun ρ => match f ρ with
  | .nx ρ1 => g ρ1
  | o => o
def dIf (c : M Bool) (f g : SM) : SM := fun ρ => (c ρ).then fun b ρ1 => if b = true then f ρ1 else g ρ1
def dDrop (fa : M Rv) : SM := fun ρ => (fa ρ).then fun _ ρ1 => .nx ρ1
def dRet (fa : M Rv) : SM := fun ρ => (fa ρ).then fun r ρ1 => match esc ρ1 r with
  | some (d, ρ2) => .rt d ρ2
  | none => .bad
def dRetN : SM := fun ρ => .rt .non ρ
def dBk : SM := fun ρ => .bk ρ
def dCt : SM := fun ρ => .ct ρ
def TM := D → En → Option En
def gN (i : Nat) : TM := fun d ρ => some (ρ.set i (some (.val, d)))
def TMs := List D → En → Option En
def gsNil : TMs := fun ds ρ => match ds with
  | [] => some ρ
  | _ => none
def gsCons (g : TM) (gs : TMs) : TMs := fun ds ρ => match ds with
  | d :: r => match g d ρ with
    | some ρ1 => gs r ρ1
    | none => none
  | [] => none
def gT (n : Nat) (gs : TMs) : TM := fun d ρ => match d with
  | .tup ds => if ds.length = n then gs ds ρ else none
  | _ => none
def Agr (ws : List Nat) (σ σ' : L2.St) : Prop := σ'.length = σ.length ∧ ∀ j, j ∉ ws → σ'[j]? = σ[j]?
theorem Agr.refl (ws : List Nat) (σ : L2.St) : Agr ws σ σ := ⟨rfl, fun _ _ => rfl⟩
theorem Agr.trans {ws us : List Nat} {σ σ1 σ2 : L2.St} (a : Agr ws σ σ1) (b : Agr us σ1 σ2) : Agr (ws ++ us) σ σ2 := ⟨b.1.trans a.1, fun j hj => by
  rw [List.mem_append, not_or] at hj
  rw [b.2 j hj.2, a.2 j hj.1]⟩
def tG (B : Bs) (g : TM) (ws : List Nat) : TG := fun v σ H Q => ∃ c ρ O d ρ', Stt B c ρ σ H O ∧ Rep B (hide H O) v d ∧ g d ρ = some ρ' ∧ ∀ σ', Agr ws σ σ' → Stt B c ρ' σ' H O → Q σ' H
def tGs (B : Bs) (g : TMs) (ws : List Nat) : TGs := fun vs σ H Q => ∃ c ρ O ds ρ', Stt B c ρ σ H O ∧ RepL B (hide H O) vs ds ∧ g ds ρ = some ρ' ∧ ∀ σ', Agr ws σ σ' → Stt B c ρ' σ' H O → Q σ' H
abbrev DG (X : Cx) (tg : Expr) (g : TM) (ws : List Nat) : Prop := PG X tg (tG (bs X) g ws)
abbrev DGs (X : Cx) (tg : List Expr) (g : TMs) (ws : List Nat) : Prop := PGs X tg (tGs (bs X) g ws)
theorem PG.le {X : Cx} {e : Expr} {t t' : TG} (h : PG X e t) (i : ∀ v σ H Q, t' v σ H Q → t v σ H Q) : PG X e t' := ⟨fun pins s σ H v u Q I r q => h.run pins s σ H v u Q I r (i v σ H Q q)⟩
theorem PGs.le {X : Cx} {e : List Expr} {t t' : TGs} (h : PGs X e t) (i : ∀ v σ H Q, t' v σ H Q → t v σ H Q) : PGs X e t' := ⟨fun pins s σ H v u Q I r q => h.run pins s σ H v u Q I r (i v σ H Q q)⟩
section
variable {X : Cx} {W : WX} {st : Stmt} {rest b1 b2 : List Stmt} {f g : SM} {e tg : Expr} {es : List Expr} {fa : M Rv} {ca : M Bool} {pos : Pos}
theorem ds_nil : DSs X W [] dNx := PSs.le pss_nil fun E σ H ⟨c, ρ, O, st, q⟩ => q σ H O st (.refl _)
theorem ds_cons (h1 : DS X W st f) (h2 : DSs X W rest g) : DSs X W (st :: rest) (dSeq f g) := PSs.le (pss_cons h1 h2) fun E σ H ⟨c, ρ, O, st, q⟩ => by
  refine ⟨c, ρ, O, st, ?_⟩
  unfold dSeq at q
  cases hf : f ρ with
  | nx ρ1 => rw [hf] at q; exact fun σ' H' O' st' e' => ⟨c, ρ1, O', st', SPo.mono q e'⟩
  | rt d ρ1 => rw [hf] at q; exact q
  | bk ρ1 => rw [hf] at q; exact q
  | ct ρ1 => rw [hf] at q; exact q
  | ex x fs ρ1 => rw [hf] at q; exact q
  | rf d ρ1 => rw [hf] at q; exact q
  | bad => rw [hf] at q; exact q
theorem ds_one (h1 : DS X W st f) : DSs X W [st] f := pss_one h1
theorem ds_if (hc : DT X W e ca) (ha : DSs X W b1 f) (hb : DSs X W b2 g) : DS X W (.If e b1 b2 pos) (dIf ca f g) := PS.le (ps_if hc ha hb) fun E σ H ⟨c, ρ, O, st, q⟩ => by
  unfold dIf at q
  refine tQ.step st (SPo.then q) fun b ρ1 H1 O1 st1 e1 q1 => ?_
  cases b
  · rw [if_neg (by decide)] at q1
    rw [if_neg (by decide)]
    exact ⟨c, ρ1, O1, st1, q1⟩
  · rw [if_pos rfl] at q1
    rw [if_pos rfl]
    exact ⟨c, ρ1, O1, st1, q1⟩
theorem ds_expr (he : DE X W e fa) (hs : swapsWith e none pos.line X.env = pure false := by rfl) : DS X W (.Expr e pos) (dDrop fa) := PS.le (ps_expr he hs) fun E σ H ⟨c, ρ, O, st, q⟩ => by
  unfold dDrop at q
  refine tP.step st (SPo.then q) fun r ρ1 v H1 O1 st1 e1 hv q1 => ?_
  exact q1 σ H1 O1 st1 (.refl _)
theorem ds_ret (he : DE X W e fa) : DS X W (.Return (some e) pos) (dRet fa) := PS.le (ps_ret he) fun E σ H ⟨c, ρ, O, st, q⟩ => by
  unfold dRet at q
  refine tP.step st (SPo.then q) fun r ρ1 v H1 O1 st1 e1 hv q1 => ?_
  split at q1
  · rename_i d ρ2 he
    obtain ⟨O2, st2, e2, hr⟩ := st1.esc hv he
    exact q1 v σ H1 O2 st2 e2 hr
  · exact q1.elim
def dRetO (i : Nat) : SM := fun ρ => match ρ[i]? with
  | some (some (.own, d)) => .rf d (ρ.set i none)
  | _ => .bad
def dRetF (f : M D) : SM := fun ρ => (f ρ).then fun d ρ1 => .rf d ρ1
theorem ds_retF {ff : M D} (he : DF X W e ff) : DS X W (.Return (some e) pos) (dRetF ff) := PS.le (ps_ret he) fun E σ H ⟨c, ρ, O, s, q⟩ => by
  unfold dRetF at q
  refine ⟨c, ρ, O, s, ?_⟩
  have q' := SPo.then (σ := σ) q
  cases hf : ff ρ with
  | ok d ρ1 =>
    rw [hf] at q'
    intro H' O' st' e' p o ho hp hfr hF hr
    exact q' H' O' st' e' p o σ H' O' st' (.refl _) ho hp hfr hF hr
  | ex x fs ρ1 => rw [hf] at q'; exact q'
  | bad => rw [hf] at q'; exact q'
theorem ds_ct : DS X W (.Continue pos) dCt := PS.le ps_continue fun E σ H ⟨c, ρ, O, st, q⟩ => q σ H O st (.refl _)
theorem dg_name {i : Nat} (h : PG X tg (gName i)) : DG X tg (gN i) [i] := PG.le h fun v σ H Q ⟨c, ρ, O, d, ρ', st, hr, hg, q⟩ => by
  unfold gN at hg
  cases hg
  exact q _ ⟨by simp, fun j hj => by rw [List.getElem?_set_ne (by simpa [eq_comm] using hj)]⟩ (st.set i hr)
theorem dgs_nil : DGs X [] gsNil [] := PGs.le pgs_nil fun v σ H Q ⟨c, ρ, O, d, ρ', st, hr, hg, q⟩ => by
  cases hr with
  | nil =>
    unfold gsNil at hg
    cases hg
    exact ⟨rfl, q σ (Agr.refl _ _) st⟩
  | cons h t =>
    unfold gsNil at hg
    cases hg
theorem dgs_cons {g : TM} {gs : TMs} {ws us : List Nat} (h1 : DG X e g ws) (h2 : DGs X es gs us) (hs : (assignEach (e :: es) X.env).map (·.2) = assign e X.env :: (assignEach es X.env).map (·.2) := by rfl) : DGs X (e :: es) (gsCons g gs) (ws ++ us) := PGs.le (pgs_cons h1 h2 hs) fun vs σ H Q ⟨c, ρ, O, ds, ρ', st, hr, hg, q⟩ => by
  cases hr with
  | nil =>
    unfold gsCons at hg
    cases hg
  | cons h t =>
    unfold gsCons at hg
    simp only at hg
    split at hg
    · rename_i ρ1 h1
      exact ⟨_, _, rfl, c, ρ, O, _, ρ1, st, h, h1, fun σ' a st' => ⟨c, ρ1, O, _, ρ', st', t, hg, fun σ2 a2 st2 => q σ2 (a.trans a2) st2⟩⟩
    · cases hg
theorem dg_tup {k n : Nat} {gs : TMs} {ws : List Nat} (hc : X.calm = true) (h : DGs X es gs ws) (hn : (assignEach es X.env).length = n := by rfl) (hst : (assignEach es X.env).findIdx? (·.1) = none := by rfl) : DG X (.Tuple es k pos) (gT n gs) ws := PG.le (pg_tup hc h hn hst) fun v σ H Q ⟨c, ρ, O, d, ρ', st, hr, hg, q⟩ => by
  unfold gT at hg
  split at hg
  · rename_i ds
    by_cases hl : ds.length = n
    · rw [if_pos hl] at hg
      cases hr with
      | tup s r => exact ⟨_, _, rfl, sqT_mono (hide_le H O).ext s, by rw [r.length, hl], c, ρ, O, ds, ρ', st, r, hg, q⟩
    · rw [if_neg hl] at hg
      cases hg
  · cases hg
def dAsg (fa : M Rv) (g : TM) : SM := fun ρ => (fa ρ).then fun r ρ1 => match esc ρ1 r with
  | some (d, ρ2) => match g d ρ2 with
    | some ρ3 => .nx ρ3
    | none => .bad
  | none => .bad
theorem tAsg_le {B : Bs} {g : TM} {ws : List Nat} {E : Ends} {σ : L2.St} {H : Hp} (h : tS B W (dAsg fa g) E σ H) : tAsg (tP B W fa) (tG B g ws) E σ H := by
  obtain ⟨c, ρ, O, st, q⟩ := h
  unfold dAsg at q
  refine tP.step st (SPo.then q) fun r ρ1 v H1 O1 st1 e1 hv q1 => ?_
  split at q1
  · rename_i d ρ2 he
    obtain ⟨O2, st2, e2, hr⟩ := st1.esc hv he
    split at q1
    · rename_i ρ3 hg
      exact ⟨c, ρ2, O2, d, ρ3, st2, hr, hg, fun σ' _ st' => q1 σ' H1 O2 st' e2⟩
    · exact q1.elim
  · exact q1.elim
theorem ds_asg {g : TM} {ws : List Nat} (he : DE X W e fa) (hg : DG X tg g ws) (hs : swapsWithSole [tg] e pos.line X.env = pure false := by rfl) (hw : swappedStores [tg] e X.env = pure none := by rfl) (h1 : (assignEach [tg] X.env).map (·.2) = [assign tg X.env] := by rfl) :
    DS X W (.Assign [tg] e pos) (dAsg fa g) := PS.le (ps_asg he hg hs hw h1) fun E σ H h => tAsg_le h
def dSet (i : Nat) (fa : M Rv) : SM := dAsg fa (gN i)
theorem ds_set {i : Nat} (h : ∀ te, PE X e te → PS X st (tAsg te (gName i))) (he : DE X W e fa) : DS X W st (dSet i fa) := PS.le (h _ he) fun E σ H q => by
  obtain ⟨c, ρ, O, s, q⟩ := (show tS (bs X) W (dAsg fa (gN i)) E σ H from q)
  unfold dAsg at q
  refine tP.step s (SPo.then q) fun r ρ1 v H1 O1 st1 e1 hv q1 => ?_
  split at q1
  · rename_i d ρ2 he
    obtain ⟨O2, st2, e2, hr⟩ := st1.esc hv he
    simp only [gN] at q1
    exact q1 _ H1 O2 (st2.set i hr) e2
  · exact q1.elim
def dSetO (i : Nat) (f : M D) : SM := fun ρ => (f ρ).then fun d ρ1 => .nx (ρ1.set i (some (.own, d)))
theorem ds_setO {i : Nat} {ff : M D} (h : ∀ te, PE X e te → PS X st (tAsg te (gName i))) (he : DF X W e ff) : DS X W st (dSetO i ff) := PS.le (h _ he) fun E σ H ⟨c, ρ, O, s, q⟩ => by
  unfold dSetO at q
  refine ⟨c, ρ, O, s, ?_⟩
  have q' := SPo.then (σ := σ) q
  cases hf : ff ρ with
  | ok d ρ1 =>
    rw [hf] at q'
    intro H' O' st' e' p o ho hp hfr hF hr
    exact q' H' O' st' e' _ H' O' (st'.setO i ho hp hF hfr hr) (.refl _)
  | ex x fs ρ1 => rw [hf] at q'; exact q'
  | bad => rw [hf] at q'; exact q'
end
def dWh (c : M Bool) (body : SM) : Nat → SM
  | 0 => fun _ => .bad
  | n + 1 => fun ρ => (c ρ).then fun b ρ1 => if b = true then (match body ρ1 with
      | .nx ρ2 => dWh c body n ρ2
      | .ct ρ2 => dWh c body n ρ2
      | .bk ρ2 => .nx ρ2
      | o => o) else .nx ρ1
def dWhile (n : En → Nat) (c : M Bool) (body : SM) : SM := fun ρ => dWh c body (n ρ) ρ
section
variable {X : Cx} {W : WX} {e : Expr} {b1 : List Stmt} {ca : M Bool} {fb : SM} {pos : Pos}
theorem ds_while (n : En → Nat) (hp : PassesOwn (model X.prog X.w) X.A X.env X.xe) (hc : DT X W e ca) (hb : DSs X W b1 fb) : DS X W (.While e b1 [] pos) (dWhile n ca fb) := PS.le (ps_while hp hc hb) fun E σ H ⟨c, ρ, O, st, q⟩ => by
  refine ⟨fun m σ' H' => ∃ ρ' O', Stt (bs X) c ρ' σ' H' O' ∧ SPo (bs X) c W E H' O' (dWh ca fb m ρ'), ⟨n ρ, ρ, O, st, q⟩, ?_⟩
  rintro m σ' H' ⟨ρ', O', st', q'⟩
  cases m with
  | zero => exact q'.elim
  | succ m =>
    unfold dWh at q'
    refine tQ.step st' (SPo.then q') fun b ρ1 H1 O1 st1 e1 q1 => ?_
    cases b
    · rw [if_neg (by decide)] at q1
      rw [if_neg (by decide)]
      exact q1 σ' H1 O1 st1 (.refl _)
    · rw [if_pos rfl] at q1
      rw [if_pos rfl]
      refine ⟨fun σ2 H2 => ∃ ρ2 O2, Stt (bs X) c ρ2 σ2 H2 O2 ∧ SPo (bs X) c W E H2 O2 (dWh ca fb m ρ2), fun σ2 H2 h2 => ⟨m, Nat.lt_succ_self m, h2⟩, ?_⟩
      refine ⟨c, ρ1, O1, st1, ?_⟩
      cases hf : fb ρ1 with
      | nx ρ2 => rw [hf] at q1; exact fun σ2 H2 O2 st2 e2 => ⟨ρ2, O2, st2, SPo.mono q1 e2⟩
      | ct ρ2 => rw [hf] at q1; exact fun σ2 H2 O2 st2 e2 => ⟨ρ2, O2, st2, SPo.mono q1 e2⟩
      | bk ρ2 => rw [hf] at q1; exact q1
      | rt d ρ2 => rw [hf] at q1; exact q1
      | ex x fs ρ2 => rw [hf] at q1; exact q1
      | rf d ρ2 => rw [hf] at q1; exact q1
      | bad => rw [hf] at q1; exact q1
end
structure WalkD (B : Bs) (J : It) (ds : List D) (H O) : Prop where
  ex : ∃ (G : Hp → Prop) (Y : Nat → Hp → V → Hp → Prop), Walk J ds.length G Y ∧ (∀ H' O', Ext (hide H O) (hide H' O') → Liv H' O' → G H') ∧
    ∀ i H' O' x H'', Ext (hide H O) (hide H' O') → Liv H' O' → i < ds.length → Y i H' x H'' → Same H' H'' ∧ ∃ d, ds[i]? = some d ∧ Rep B (hide H'' O') x d
def tI (B : Bs) (W : WX) (f : M (List D)) : TI := fun σ H R => ∃ c ρ O, Stt B c ρ σ H O ∧ Po B c W σ H O (fun ds ρ' H' O' => ∀ J, WalkD B J ds H' O' → R J H') (f ρ)
abbrev DI (X : Cx) (W : WX) (tg it : Expr) (f : M (List D)) : Prop := PI X tg it (tI (bs X) W f)
theorem PI.le {X : Cx} {tg e : Expr} {t t' : TI} (h : PI X tg e t) (i : ∀ σ H R, t' σ H R → t σ H R) : PI X tg e t' := ⟨fun pins s σ H R I q => h.run pins s σ H R I (i σ H R q)⟩
theorem tI.step {B : Bs} {W : WX} {σ : L2.St} {H : Hp} {f : M (List D)} {R1 : It → Hp → Prop} {c : Cst} {ρ : En} {O : List Addr} {R : List D → En → Hp → List Addr → Prop} (st : Stt B c ρ σ H O) (h : Po B c W σ H O R (f ρ)) (hq : ∀ ds ρ1 J H1 O1, Stt B c ρ1 σ H1 O1 → Ext (hide H O) (hide H1 O1) → WalkD B J ds H1 O1 → R ds ρ1 H1 O1 → R1 J H1) : tI B W f σ H R1 := by
  refine ⟨c, ρ, O, st, ?_⟩
  cases hf : f ρ with
  | ok r ρ1 =>
    rw [hf] at h
    exact fun H' O' st' e' J hJ => hq r ρ1 J H' O' st' e' hJ (h H' O' st' e')
  | ex x fs ρ1 => rw [hf] at h; exact h
  | bad => rw [hf] at h; exact h.elim
def dForL (g : TM) (body : SM) : List D → SM
  | [] => fun ρ => .nx ρ
  | d :: ds => fun ρ => match g d ρ with
    | none => .bad
    | some ρ1 => match body ρ1 with
      | .nx ρ2 => dForL g body ds ρ2
      | .ct ρ2 => dForL g body ds ρ2
      | .bk ρ2 => .nx ρ2
      | o => o
def dFor (fi : M (List D)) (g : TM) (body : SM) : SM := fun ρ => (fi ρ).then fun ds ρ1 => dForL g body ds ρ1
section
variable {X : Cx} {W : WX} {e tg : Expr} {b1 : List Stmt} {fi : M (List D)} {g : TM} {ws : List Nat} {fb : SM} {pos : Pos}
theorem ds_for (hp : PassesOwn (model X.prog X.w) X.A X.env X.xe) (hc : X.calm = true) (hi : DI X W tg e fi) (hg : DG X tg g ws) (hb : DSs X W b1 fb) (hs : ∀ x, foldedSetIterable e X.env x = pure x := by intro _; rfl) : DS X W (.For tg e b1 [] pos) (dFor fi g fb) := PS.le (ps_for hp hc hi hg hb hs) fun E σ H ⟨c, ρ, O, st, q⟩ => by
  unfold dFor at q
  refine tI.step st (SPo.then q) fun ds ρ1 J H1 O1 st1 e1 hJ q1 => ?_
  obtain ⟨G, Y, hw, hG, hY⟩ := hJ.ex
  refine for_it hw (fun i σ' H' => ∃ ρ' O', Stt (bs X) c ρ' σ' H' O' ∧ Ext (hide H1 O1) (hide H' O') ∧ SPo (bs X) c W E H' O' (dForL g fb (ds.drop i) ρ')) ⟨ρ1, O1, st1, .refl _, by simpa using q1⟩ ?_ ?_ ?_
  · rintro i σ' H' hi ⟨ρ', O', st', e', _⟩
    exact hG H' O' e' st'.liv
  · rintro i x σ' H' H'' hi ⟨ρ', O', st', e', q'⟩ y
    obtain ⟨es, d, hd, hr⟩ := hY i H' O' x H'' e' st'.liv hi y
    have hdrop : ds.drop i = d :: ds.drop (i + 1) := by
      rw [List.drop_eq_getElem_cons hi]
      rw [List.getElem?_eq_getElem hi] at hd
      cases hd
      rfl
    rw [hdrop] at q'
    unfold dForL at q'
    split at q'
    · exact q'.elim
    · rename_i ρ2 hg2
      refine ⟨c, ρ', O', d, ρ2, st'.ext es, hr, hg2, fun σ2 _ st2 => ⟨c, ρ2, O', st2, ?_⟩⟩
      have q'' := SPo.mono q' (same_hide es)
      cases hf : fb ρ2 with
      | nx ρ3 => rw [hf] at q''; exact fun σ3 H3 O3 st3 e3 => ⟨ρ3, O3, st3, (e'.trans (same_hide es)).trans e3, SPo.mono q'' e3⟩
      | ct ρ3 => rw [hf] at q''; exact fun σ3 H3 O3 st3 e3 => ⟨ρ3, O3, st3, (e'.trans (same_hide es)).trans e3, SPo.mono q'' e3⟩
      | bk ρ3 => rw [hf] at q''; exact q''
      | rt d ρ3 => rw [hf] at q''; exact q''
      | ex x fs ρ3 => rw [hf] at q''; exact q''
      | rf d ρ3 => rw [hf] at q''; exact q''
      | bad => rw [hf] at q''; exact q''
  · rintro σ' H' ⟨ρ', O', st', e', q'⟩
    rw [List.drop_length] at q'
    exact q' σ' H' O' st' (.refl _)
end
end Pu
namespace Pu
open PySem PySem.Spec PyProof.Rows L2 My
variable [Tbs] [Nls]
def wipeE (ρ : En) : List Nat → En
  | [] => ρ
  | v :: vs => (wipeE ρ vs).set v none
def dLcL (g : TM) (ct : M Bool) (fe : M Rv) (vs : List Nat) : List D → List D → En → Out (List D)
  | [], acc, ρ => .ok acc ρ
  | d :: ds, acc, ρ => match g d (wipeE ρ vs) with
    | none => .bad
    | some ρ1 => match ct ρ1 with
      | .ok true ρ2 => match fe ρ2 with
        | .ok r ρ3 => match esc ρ3 r with
          | some (y, ρ4) => if acc.length < sizeLine then dLcL g ct fe vs ds (acc ++ [y]) ρ4 else .bad
          | none => .bad
        | _ => .bad
      | .ok false ρ2 => dLcL g ct fe vs ds acc ρ2
      | _ => .bad
def dLc (fi : M (List D)) (g : TM) (ct : M Bool) (fe : M Rv) (vs : List Nat) : M D := fun ρ => (fi ρ).bind fun ds ρ1 => match dLcL g ct fe vs ds [] ρ1 with
  | .ok acc ρ2 => .ok (.lst acc) (wipeE ρ2 vs)
  | _ => .bad
section
variable {B : Bs} {c : Cst} {ρ ρ' : En} {σ σ' : L2.St} {H H' : Hp} {O O' : List Addr} {v : V} {d : D} {W : WX}
theorem Stt.wipe (st : Stt B c ρ σ H O) : ∀ vs : List Nat, Stt B c (wipeE ρ vs) (L2.wipe σ vs) H O
  | [] => st
  | v :: vs => (Stt.wipe st vs).drop v none
theorem wipeE_none : ∀ (vs : List Nat) (ρ : En) (i : Nat) (x : Kd × D), (wipeE ρ vs)[i]? = some (some x) → i ∉ vs ∧ ρ[i]? = some (some x)
  | [], ρ, i, x, h => ⟨by simp, h⟩
  | v :: vs, ρ, i, x, h => by
    rcases get_set h with ⟨_, _, z⟩ | ⟨hj, q⟩
    · cases z
    · obtain ⟨a, b⟩ := wipeE_none vs ρ i x q
      exact ⟨by simp [hj, a], b⟩
theorem wipe_get : ∀ (vs : List Nat) (σ : L2.St) (i : Nat), i ∉ vs → (L2.wipe σ vs)[i]? = σ[i]?
  | [], σ, i, h => rfl
  | v :: vs, σ, i, h => by
    rw [List.mem_cons, not_or] at h
    show ((L2.wipe σ vs).set v none)[i]? = _
    rw [List.getElem?_set_ne (Ne.symm h.1), wipe_get vs σ i h.2]
theorem wipe_in : ∀ (vs : List Nat) (σ : L2.St) (i : Nat), i ∈ vs → i < σ.length → (L2.wipe σ vs)[i]? = some none
  | [], σ, i, h, _ => by cases h
  | v :: vs, σ, i, h, hl => by
    show ((L2.wipe σ vs).set v none)[i]? = _
    by_cases e : i = v
    · subst e
      rw [List.getElem?_set_self (by rw [wipe_length]; exact hl)]
    · rw [List.getElem?_set_ne (Ne.symm e)]
      exact wipe_in vs σ i (by simpa [e] using h) hl
theorem wipe_agr {ws vs : List Nat} {σ σ2 : L2.St} (a : Agr ws (L2.wipe σ vs) σ2) (h : ∀ w ∈ ws, w ∈ vs) : L2.wipe σ2 vs = L2.wipe σ vs := by
  apply List.ext_getElem?
  intro i
  by_cases hi : i ∈ vs
  · by_cases hl : i < σ.length
    · rw [wipe_in vs σ i hi hl, wipe_in vs σ2 i hi (by rw [a.1, wipe_length]; exact hl)]
    · rw [List.getElem?_eq_none (by rw [wipe_length, a.1, wipe_length]; omega), List.getElem?_eq_none (by rw [wipe_length]; omega)]
  · rw [wipe_get vs σ2 i hi, a.2 i fun z => hi (h i z)]
theorem Stt.unwipe {vs : List Nat} (st : Stt B c (wipeE ρ vs) (L2.wipe σ vs) H O) : Stt B c (wipeE ρ vs) σ H O := by
  refine ⟨by rw [st.len, wipe_length], ?_, ?_, ?_, ?_, st.liv, st.frm⟩
  · intro i d h
    obtain ⟨v, h1, h2⟩ := st.val i d h
    rw [wipe_get vs σ i (wipeE_none vs ρ i _ h).1] at h1
    exact ⟨v, h1, h2⟩
  · intro i k d h hk
    obtain ⟨p, o, h1, h2⟩ := st.own i k d h hk
    rw [wipe_get vs σ i (wipeE_none vs ρ i _ h).1] at h1
    exact ⟨p, o, h1, h2⟩
  · intro i j p k l d e qi qj hk hl si sj
    refine st.sep i j p k l d e qi qj hk hl ?_ ?_
    · rw [wipe_get vs σ i (wipeE_none vs ρ i _ qi).1]; exact si
    · rw [wipe_get vs σ j (wipeE_none vs ρ j _ qj).1]; exact sj
  · intro i d h
    have := st.pin i d h
    rwa [wipe_get vs σ i (wipeE_none vs ρ i _ h).1] at this
theorem Stt.to_wiped {vs : List Nat} {σ2 : L2.St} (st : Stt B c ρ σ2 H O) (e : L2.wipe σ2 vs = L2.wipe σ vs) : Stt B c (wipeE ρ vs) (L2.wipe σ vs) H O := by rw [← e]; exact st.wipe vs
theorem Stt.still {p : Addr} {o : HO} (st : Stt B c ρ σ H O) (ho : H p = some o) (hp : p ∈ O) (hf : Free ρ σ p) : Stt B ⟨c.pa, p :: c.F, H⟩ ρ σ H O := by
  refine ⟨st.len, st.val, ?_, st.sep, st.pin, st.liv, ?_⟩
  · intro i k d h hk
    obtain ⟨p', o', h1, h2, h3, h4, h5⟩ := st.own i k d h hk
    refine ⟨p', o', h1, h2, ?_, h4, h5⟩
    rw [List.mem_cons, not_or]
    exact ⟨fun e => hf i k d h hk (by rw [h1, e]), h3⟩
  · intro q hq
    rcases List.mem_cons.mp hq with rfl | hq
    · exact ⟨hp, rfl⟩
    · exact ⟨(st.frm q hq).1, rfl⟩
theorem Stt.unstill {p : Addr} {o : HO} {H1 : Hp} (st : Stt B ⟨c.pa, p :: c.F, H1⟩ ρ σ H O) (hc : ∀ q ∈ c.F, H1 q = c.H0 q) (hF : p ∉ c.F) (no : NoTb o := by exact .inl rfl) : Stt B c ρ σ (upd H p o) O ∧ Free ρ σ p ∧ p ∈ O ∧ hide (upd H p o) O = hide H O := by
  obtain ⟨hp, hh⟩ := st.frm p List.mem_cons_self
  have eh : hide (upd H p o) O = hide H O := hide_upd hp
  have hf : Free ρ σ p := fun i k d h hk e => by
    obtain ⟨p', o', h1, h2, h3, h4, h5⟩ := st.own i k d h hk
    rw [e] at h1
    cases h1
    exact h3 List.mem_cons_self
  refine ⟨⟨st.len, ?_, ?_, st.sep, st.pin, ?_, ?_⟩, hf, hp, eh⟩
  · intro i d h
    rw [eh]
    exact st.val i d h
  · intro i k d h hk
    obtain ⟨p', o', h1, h2, h3, h4, h5⟩ := st.own i k d h hk
    rw [List.mem_cons, not_or] at h3
    exact ⟨p', o', h1, h2, h3.2, by rw [upd_ne h3.1]; exact h4, by rw [eh]; exact h5⟩
  · exact st.liv.upd hp no
  · intro q hq
    obtain ⟨u1, u2⟩ := st.frm q (.tail _ hq)
    refine ⟨u1, ?_⟩
    rw [upd_ne (fun e => hF (by rw [← e]; exact hq)), u2]
    exact hc q hq
theorem upd_id {H : Hp} {p : Addr} {o : HO} (h : H p = some o) : upd H p o = H := by
  funext a
  by_cases e : a = p
  · subst e; rw [upd_same, h]
  · rw [upd_ne e]
end
section
variable {X : Cx} {W : WX} {elt tg iter e : Expr} {ifs : List Expr} {scope : Scope} {own : List (Str × Nat)} {pos : Pos} {fi : M (List D)} {g : TM} {ws vs : List Nat} {ct : M Bool} {fe : M Rv}
def dYes : M Bool := fun ρ => .ok true ρ
theorem tYes_le {B : Bs} {σ : L2.St} {H : Hp} {Q : Bool → Hp → Prop} (h : tQ B W dYes σ H Q) : tYes σ H Q := by
  obtain ⟨c, ρ, O, st, q⟩ := h
  exact q H O st (.refl _)
theorem PTs.le {X : Cx} {e : List Expr} {t t' : TT} (h : PTs X e t) (i : ∀ σ H Q, t' σ H Q → t σ H Q) : PTs X e t' := ⟨fun pins s σ H Q I q => h.run pins s σ H Q I (i σ H Q q)⟩
theorem dts_nil {W : WX} {X : Cx} : PTs X [] (tQ (bs X) W dYes) := PTs.le pts_nil fun _ _ _ h => tYes_le h
theorem dts_one {W : WX} {X : Cx} {e : Expr} {ct : M Bool} (h : DT X W e ct) : PTs X [e] (tQ (bs X) W ct) := pts_one h
theorem lc_le {B : Bs} (hw : ∀ w ∈ ws, w ∈ vs) {σ : L2.St} {H : Hp} {Q : VK} (h : tF B W (dLc fi g ct fe vs) σ H Q) : tLc (tI B W fi) (tG B g ws) (tQ B W ct) (tP B W fe) vs σ H Q := by
  obtain ⟨c, ρ, O, st, q⟩ := h
  unfold dLc at q
  refine tI.step st (Po.bind q) fun ds ρ1 J H1 O1 st1 e1 hJ q1 => ?_
  intro Dd hD
  obtain ⟨G, Y, hwk, hG, hY⟩ := hJ.ex
  obtain ⟨s2, e2, f2, n2⟩ := st1.newO (o := .lst []) hD
  cases hrun : dLcL g ct fe vs ds [] ρ1 with
  | bad => rw [hrun] at q1; exact q1.elim
  | ex x fs ρ' => rw [hrun] at q1; exact q1.elim
  | ok res ρr =>
    rw [hrun] at q1
    refine lc_it hwk (fun i H' => ∃ ρ' O' acc av, Stt B c (wipeE ρ' vs) (L2.wipe σ vs) H' O' ∧ H' Dd = some (.lst av) ∧ Dd ∈ O' ∧ Free (wipeE ρ' vs) (L2.wipe σ vs) Dd ∧ RepL B (hide H' O') av acc ∧ Ext (hide H1 O1) (hide H' O') ∧ dLcL g ct fe vs (ds.drop i) acc ρ' = .ok res ρr) ?_ ?_ ?_ ?_
    · refine ⟨ρ1, Dd :: O1, [], [], s2.wipe vs, upd_same, List.mem_cons_self, ?_, .nil, e2, by simpa using hrun⟩
      intro i k d h hk e
      obtain ⟨hi, h'⟩ := wipeE_none vs ρ1 i _ h
      rw [wipe_get vs σ i hi] at e
      exact f2 i k d h' hk e
    · rintro i H' hi ⟨ρ', O', acc, av, st', _, _, _, _, e', _⟩
      exact hG H' O' e' st'.liv
    · rintro i x H' H'' hi ⟨ρ', O', acc, av, st', hd, hm, hf, hr, e', hq⟩ y
      obtain ⟨es, d, hdd, hrx⟩ := hY i H' O' x H'' e' st'.liv hi y
      have hdrop : ds.drop i = d :: ds.drop (i + 1) := by
        rw [List.drop_eq_getElem_cons hi]
        rw [List.getElem?_eq_getElem hi] at hdd
        cases hdd
        rfl
      rw [hdrop] at hq
      unfold dLcL at hq
      split at hq
      · cases hq
      rename_i ρ2 hg2
      have st2 := (st'.ext es).still (es _ _ hd) hm hf
      refine ⟨_, wipeE ρ' vs, O', d, ρ2, st2, hrx, hg2, fun σ2 ag st3 => ⟨wipe_agr ag hw, _, ρ2, O', st3, ?_⟩⟩
      have ew := wipe_agr ag hw
      have hcc : ∀ q ∈ c.F, H'' q = c.H0 q := fun q hq => (st'.ext es).frm q hq |>.2
      have hpF : ∀ q, q ∈ c.F → q ≠ Dd := fun q hq e => n2 (e ▸ hq)
      have base : Ext (hide H1 O1) (hide H'' O') := e'.trans (same_hide es)
      cases hct : ct ρ2 with
      | bad => rw [hct] at hq; cases hq
      | ex x fs ρ3 => rw [hct] at hq; cases hq
      | ok b ρ3 =>
        rw [hct] at hq
        intro H3 O3 st4 e3
        cases b with
        | false =>
          rw [if_neg (by decide)]
          obtain ⟨i1, i2⟩ := st4.frm Dd List.mem_cons_self
          have hD3 : H3 Dd = some (.lst av) := by rw [i2]; exact es _ _ hd
          obtain ⟨s5, f5, m5, h5⟩ := st4.unstill (o := .lst av) hcc n2
          rw [upd_id hD3] at s5 h5
          refine ⟨ρ3, O3, acc, av, s5.to_wiped ew, hD3, m5, ?_, (hr.mono (same_hide es)).mono e3, base.trans e3, hq⟩
          intro i k d h hk e
          obtain ⟨hi, h'⟩ := wipeE_none vs ρ3 i _ h
          rw [← ew, wipe_get vs σ2 i hi] at e
          exact f5 i k d h' hk e
        | true =>
          rw [if_pos rfl]
          refine ⟨_, ρ3, O3, st4, ?_⟩
          cases hfe : fe ρ3 with
          | bad => simp only [hfe] at hq; cases hq
          | ex x fs ρ4 => simp only [hfe] at hq; cases hq
          | ok r ρ4 =>
            simp only [hfe] at hq
            intro H4 O4 st5 e4 yv hyv
            cases hes : esc ρ4 r with
            | none => simp only [hes] at hq; cases hq
            | some z =>
              obtain ⟨y, ρ5⟩ := z
              simp only [hes] at hq
              by_cases hl : acc.length < sizeLine
              · rw [if_pos hl] at hq
                obtain ⟨O5, st6, e5, hry⟩ := st5.esc hyv hes
                obtain ⟨i1, i2⟩ := st6.frm Dd List.mem_cons_self
                have hD4 : H4 Dd = some (.lst av) := by rw [i2]; exact es _ _ hd
                have all := ((same_hide es).trans e3).trans (e4.trans e5)
                have hr5 := hr.mono all
                refine ⟨av, hD4, by rw [hr.length]; exact hl, ?_⟩
                obtain ⟨s7, f7, m7, h7⟩ := st6.unstill (o := .lst (av ++ [yv])) hcc n2
                refine ⟨ρ5, O5, acc ++ [y], av ++ [yv], s7.to_wiped ew, upd_same, m7, ?_, ?_, ?_, hq⟩
                · intro i k d h hk e
                  obtain ⟨hi, h'⟩ := wipeE_none vs ρ5 i _ h
                  rw [← ew, wipe_get vs σ2 i hi] at e
                  exact f7 i k d h' hk e
                · rw [h7]
                  exact hr5.append (.cons hry .nil)
                · rw [h7]
                  exact e'.trans all
              · rw [if_neg hl] at hq
                cases hq
    · rintro H' ⟨ρ', O', acc, av, st', hd, hm, hf, hr, e', hq⟩
      rw [List.drop_length] at hq
      unfold dLcL at hq
      cases hq
      refine q1 H' O' st'.unwipe e' Dd _ hd hm ?_ n2 (.lst hr)
      intro i k d h hk e
      obtain ⟨hi, h'⟩ := wipeE_none vs ρr i _ h
      refine hf i k d h hk ?_
      rw [wipe_get vs σ i hi]
      exact e
theorem df_lc (h : PE X e (tLc (tI (bs X) W fi) (tG (bs X) g ws) (tQ (bs X) W ct) (tP (bs X) W fe) vs)) (hw : ∀ w ∈ ws, w ∈ vs := by decide) : DF X W e (dLc fi g ct fe vs) := PE.le h fun σ H Q q => lc_le hw q
end
end Pu
namespace Pu
open PySem PySem.Spec PyProof.Rows L2 My
structure RmG (k : Nat) (A : Around) : Prop where
  rm : Room k A
  gd : A.guards = some []
theorem RmG.mono {j k : Nat} {A : Around} (r : RmG k A) (h : j ≤ k) : RmG j A := ⟨r.rm.mono h, r.gd⟩
structure FnG (P : Program) (w : World) (K : PySem.W.Frag) (mg : Str → Option Value) (base : Heap) (k : Nat) (f : Addr) (fd : FuncData) (ps : List Str) (sp : Sp) : Prop where
  len : ∀ vs H Q E, sp vs H Q E → vs.length = ps.length
  run : ∀ (A : Around) (outer : List PySem.Env) (s : Shared) (H : Hp) (args : Args) (us : List Value) (vs : List V) (Q : VK) (E : XK), RmG k A →
    Env0 P w K mg base A outer s H → BindsTo s fd args (ps.zip us) → Vals vs us → sp vs H Q E → codeAny (model P w) A (.call (.ref f) args) (CR (L2.CX P w) outer P w H s Q E) s
section
variable {P : Program} {w : World} {K : PySem.W.Frag} {mg : Str → Option Value} {base : Heap} {k : Nat} {f : Addr} {fd : FuncData} {ps : List Str} {sp sp' : Sp}
theorem FnG.mono {j : Nat} (F : FnG P w K mg base j f fd ps sp) (h : j ≤ k) : FnG P w K mg base k f fd ps sp := ⟨F.len, fun A outer s H args us vs Q E hr => F.run A outer s H args us vs Q E (hr.mono h)⟩
theorem FnG.imp (F : FnG P w K mg base k f fd ps sp) (h : ∀ vs H Q E, sp' vs H Q E → sp vs H Q E) : FnG P w K mg base k f fd ps sp' :=
  ⟨fun vs H Q E q => F.len vs H Q E (h _ _ _ _ q), fun A outer s H args us vs Q E hr h0 h1 h2 h3 => F.run A outer s H args us vs Q E hr h0 h1 h2 (h _ _ _ _ h3)⟩
theorem FnG.of_ok (F : FnOk P w K mg base (L2.CX P w) k f fd ps sp) : FnG P w K mg base k f fd ps sp := ⟨F.len, fun A outer s H args us vs Q E hr => F.run A outer s H args us vs Q E hr.rm⟩
theorem fnG_of {name qual : Str} {prm : Arguments} {body : List Stmt} {sc : Scope} {dV kV doc pm cdv ct oc : Value} {an od : Option Addr} {osl : Array (Option Value)} {N : List Str}
    (lk : K.lookup f = some ⟨oc, od, .func (PySem.W.fnOf name qual prm body sc dV kV doc pm an cdv ct), osl⟩) (hcd : PySem.W.codeIn K cdv qual = true) (S : FnScope N ps sc) (len : ∀ vs H Q E, sp vs H Q E → vs.length = ps.length)
    (hbody : ∀ (A : Around) (outer : List PySem.Env) (s : Shared) (H : Hp) (vs : List V) (Q : VK) (E : XK), RmG k (A.deeper (envOfC qual sc s.heap.objs.size f cdv)) → sp vs H Q E →
      ∃ t, PSs (cxOf (L2.CX P w) P w K mg base N qual sc f cdv A outer s H E) body t ∧ t { nx := fun _ G => Q .non G, rt := Q } (start N vs) H) :
    FnG P w K mg base (k + 1) f (PySem.W.fnOf name qual prm body sc dV kV doc pm an cdv ct) ps sp := by
  refine ⟨len, fun A outer s H args us vs Q E hr env0 hbd hvals hspec => ?_⟩
  have hlen := len _ _ _ _ hspec
  have inK : K.In s.heap := env0.mod.kin.keeps fun b o e => (env0.bs b o e).1
  have nolim : s.heap.NoLimit := env0.mod.nolimit.keeps fun b o e => (env0.bs b o e).1
  have kinds : ∀ y ∈ ps.zip us, sc.names.lookup y.1 = some .local ∨ (sc.names.lookup y.1 = some .cell ∧ ((cellsFrom (s.heap.objs.size + 1) sc.names []).lookup y.1).isSome = true) := by
    rintro ⟨n, v⟩ hy
    exact (S.par n (List.of_mem_zip hy).1).imp id fun q => ⟨q, PySem.W.cellsFrom_some _ _ _ (.inl q)⟩
  refine codeAny_call_function hr.rm.depth (inK _ _ lk) rfl S.co S.gen rfl (PySem.W.codeRec_of inK hcd) (hbd _ _ _ _ ?_)
  refine wpAny_newFunctionEnv_cells S.kind kinds fun env henv s1 ic => ?_
  subst henv
  refine ⟨nolim.keeps ic.toInCall.keep, codeAny_func ?_⟩
  obtain ⟨t, ht, hq⟩ := hbody A outer s H vs Q E ⟨hr.rm.deeper _, hr.gd⟩ hspec
  have inv0 : Inv (cxOf (L2.CX P w) P w K mg base N qual sc f cdv A outer s H E) [] (start N vs) H s1 := inv_start S hr.rm.hd env0 hlen hvals ic
  refine wpAny_mono (ht.run [] s1 (start N vs) H _ inv0 hq) (fun fl s2 hs => ?_) fun e s2 hs => hs
  cases fl with
  | ret u =>
    obtain ⟨v, σ', H', J, rv, q⟩ := hs
    exact ⟨v, H', J.os, J.bare, J.base, J.hok, rv, q⟩
  | next =>
    obtain ⟨σ', H', J, q⟩ := hs
    exact ⟨V.non, H', J.os, J.bare, J.base, J.hok, rfl, q⟩
  | brk =>
    obtain ⟨_, _, _, q⟩ := hs
    exact q.elim
  | cont =>
    obtain ⟨_, _, _, q⟩ := hs
    exact q.elim
structure Fg (K : PySem.W.Frag) (x qual : Str) (st : Stmt) (f : Addr) (fd : FuncData) : Prop where
  ex : ∃ (oc : Value) (od : Option Addr) (dV kV doc pm : Value) (an : Option Addr) (cdv ct : Value) (osl : Array (Option Value)),
    fd = PySem.W.fnOf x qual (defArgs st) (defBody st) (defScope st) dV kV doc pm an cdv ct ∧ K.lookup f = some ⟨oc, od, .func fd, osl⟩ ∧ PySem.W.codeIn K cdv qual = true
  kp : PySem.W.keepIn K (.ref f) = true
structure Dg (K : PySem.W.Frag) (mg : Str → Option Value) (x : Str) (st : Stmt) : Prop where
  F : Fg K x x st (fa mg x) (fdOf K (fa mg x))
  g : mg x = some (.ref (fa mg x))
def mf (K : PySem.W.Frag) (C : Addr) (m : Str) : Addr := match PySem.W.findIn K (.ref C) m with
  | some (some (.ref a)) => a
  | _ => 0
structure Mg (K : PySem.W.Frag) (mg : Str → Option Value) (cn m qual : Str) (st : Stmt) : Prop where
  cl : Cls K (fa mg cn)
  me : Meth K (fa mg cn) m (mf K (fa mg cn) m)
  F : Fg K m qual st (mf K (fa mg cn) m) (fdOf K (mf K (fa mg cn) m))
theorem fun_okG {x qual : Str} {st : Stmt} {N : List Str} (F : Fg K x qual st f fd) (S : FnScope N ps (defScope st)) (len : ∀ vs H Q E, sp vs H Q E → vs.length = ps.length)
    (hbody : ∀ (cdv : Value) (A : Around) (outer : List PySem.Env) (s : Shared) (H : Hp) (vs : List V) (Q : VK) (E : XK), RmG k (A.deeper (envOfC qual (defScope st) s.heap.objs.size f cdv)) → sp vs H Q E →
      ∃ t, PSs (cxOf (L2.CX P w) P w K mg base N qual (defScope st) f cdv A outer s H E) (defBody st) t ∧ t { nx := fun _ G => Q .non G, rt := Q } (start N vs) H) : FnG P w K mg base (k + 1) f fd ps sp := by
  obtain ⟨oc, od, dV, kV, doc, pm, an, cdv, ct, osl, rfl, lk, hcd⟩ := F.ex
  exact fnG_of lk hcd S len fun A outer s H vs Q E => hbody cdv A outer s H vs Q E
end
section
variable {X : Cx} {k : Nat} {f C : Addr} {fd : FuncData} {ps : List Str} {sp : Sp} {dvs : List V} {ds : List Value} {E : L2.St → XK} {x m : Str} {p pos apos : Pos} {e o : Expr} {es : List Expr} {ta : TE} {t : TA}
def PassE (X : Cx) (E : L2.St → XK) : Prop := ∀ σ, PassesAt (L2.CX X.prog X.w) X σ (E σ)
theorem pass_tk {W : WX} (tk : Takes X W) : PassE X (fun σ cls d H => W cls d σ H) := fun σ => passAt tk σ
theorem pass_no : PassE X (fun _ => E0) := fun σ pins H s e s' I h => by
  obtain ⟨_, _, _, _, _, _, _, _, _, _, _, _, z⟩ := h
  exact z.elim
def tCallG (sp : Sp) (dvs : List V) (E : L2.St → XK) (t : TA) : TE := fun σ H Q => t σ H fun vs H1 => sp (vs ++ dvs) H1 Q (E σ)
def tMethG (C : Addr) (m : Str) (sp : Sp) (dvs : List V) (E : L2.St → XK) (ta : TE) (t : TA) : TE := fun σ H Q => ta σ H fun x H1 => ∃ a dx fs, x = .ref a ∧ H1 a = some (.ins C dx fs) ∧ fs.lookup m = none ∧ t σ H1 fun vs H2 => sp (x :: (vs ++ dvs)) H2 Q (E σ)
def tMakeG (C : Addr) (sp : Sp) (dvs : List V) (E : L2.St → XK) (t : TA) : TE := fun σ H Q => t σ H fun vs H1 => ∀ x dx, H1 x = none → H1 dx = none → dx ≠ x → sp (.ref x :: (vs ++ dvs)) (upd (upd H1 dx (.own x)) x (.ins C dx [])) (fun v G => v = .non ∧ Q (.ref x) G) (E σ)
theorem run_fnG {pins : List (Addr × Obj)} {σ : L2.St} {H : Hp} {s : Shared} {Q : VK} {us : List Value} {vs : List V} (F : FnG X.prog X.w X.K X.mg X.base k f fd ps sp) (hr : RmG k X.A) (hb : Binds X.K fd ps ds) (hd : Vals dvs ds) (hx : PassE X E)
    (I : Inv X pins σ H s) (r : Vals vs us) (h : sp (vs ++ dvs) H Q (E σ)) : wpAny (model X.prog X.w) X.A (call (.ref f) us) (EP X pins σ Q) X.xe s := by
  have r2 := r.append hd
  have hl : (us ++ ds).length = ps.length := r2.length.symm.trans (F.len _ _ _ _ h)
  refine wpAny_call (codeAny_mono (F.run X.A X.stack s H ⟨us, []⟩ (us ++ ds) (vs ++ dvs) Q (E σ) hr I.env0 (hb s us I.kIn hl) r2 h) fun res s' hq => ?_)
  cases res with
  | error e => exact hx σ pins H s e s' I hq
  | ok fl => cases fl <;> first | exact I.after hq | exact False.elim hq
theorem pe_callG (F : FnG X.prog X.w X.K X.mg X.base k f fd ps sp) (hr : RmG k X.A) (hg : Gl X x) (hm : X.mg x = some (.ref f)) (hk : PySem.W.keepIn X.K (.ref f) = true) (hb : Binds X.K fd ps ds) (hd : Vals dvs ds) (hx : PassE X E)
    (ha : PA X (e :: es) t) (hdb : (x == ("__debug__" : Str)) = false := by decide) (he : starEach (e :: es) X.env = (false, eval e X.env) :: starEach es X.env := by rfl) (hpl : (backTo pos (starEach es X.env)).any (·.1) = false := by rfl) :
    PE X (.Call (.Name x p) (e :: es) [] pos) (tCallG sp dvs E t) := by
  constructor
  intro pins s σ H Q I h
  refine wpAny_Call_Name_kw (ld_glob I hg hm ?_ hdb)
  exact PySem.W.callWith_K (h₀ := X.base) I.ok.mod.kin hk (thn (ha.run pos pins s σ H _ I h) fun us s1 ⟨vs, H1, I1, r, q⟩ => ⟨I1.kIn, run_fnG F hr hb hd hx I1 r q⟩) he hpl
theorem pe_methG {pl : Sem Bool} (ho : PE X o ta) (c : Cls X.K C) (hm : Meth X.K C m f) (F : FnG X.prog X.w X.K X.mg X.base k f fd ps sp) (hr : RmG k X.A) (hb : Binds X.K fd ps ds) (hd : Vals dvs ds) (hx : PassE X E) (ha : PA X (e :: es) t)
    (hst : starEach (e :: es) X.env = (false, eval e X.env) :: starEach es X.env := by rfl) (hpl : (backTo pos (starEach es X.env)).any (·.1) = false := by rfl)
    (ht : eval (.Call (.Attribute o m apos) (e :: es) [] pos) X.env = (do
      let w ← eval o X.env
      standAt apos.atName
      let (g, hd) ← holding [w] (getMethod w m pl)
      callWith pos g hd (backTo pos (starEach (e :: es) X.env)) (backToKw pos (keywordEach [] X.env))) := by rfl) :
    PE X (.Call (.Attribute o m apos) (e :: es) [] pos) (tMethG C m sp dvs E ta t) := by
  constructor
  intro pins s σ H Q I h
  refine PySem.W.methodCall_KW (pl := pl) (thn (ho.run pins s σ H _ I h) fun u s1 ⟨x, H1, I1, rx, a, dx, fs, ex, ea, hl, q⟩ => ?_) ht
  subst ex
  obtain rfl : u = Value.ref a := rx
  exact getmeth_ok I1 ea c hm hl (PySem.W.callWith_K (first := [.ref a]) (h₀ := X.base) I.ok.mod.kin hm.kp (thn (ha.run pos pins s1 σ H1 _ I1 q) fun us s2 ⟨vs, H2, I2, r, q2⟩ => ⟨I2.kIn, run_fnG (us := .ref a :: us) (vs := .ref a :: vs) F hr hb hd hx I2 (.cons rfl r) q2⟩) hst hpl)
theorem pe_meth0G {pl : Sem Bool} (ho : PE X o ta) (c : Cls X.K C) (hm : Meth X.K C m f) (F : FnG X.prog X.w X.K X.mg X.base k f fd ps sp) (hr : RmG k X.A) (hb : Binds X.K fd ps ds) (hd : Vals dvs ds) (hx : PassE X E)
    (ht : eval (.Call (.Attribute o m apos) [] [] pos) X.env = (do
      let w ← eval o X.env
      standAt apos.atName
      let (g, hd) ← holding [w] (getMethod w m pl)
      callWith pos g hd (backTo pos (starEach [] X.env)) (backToKw pos (keywordEach [] X.env))) := by rfl) :
    PE X (.Call (.Attribute o m apos) [] [] pos) (tMethG C m sp dvs E ta tNil) := by
  constructor
  intro pins s σ H Q I h
  refine PySem.W.methodCall_KW (pl := pl) (thn (ho.run pins s σ H _ I h) fun u s1 ⟨x, H1, I1, rx, a, dx, fs, ex, ea, hl, q⟩ => ?_) ht
  subst ex
  obtain rfl : u = Value.ref a := rx
  exact getmeth_ok I1 ea c hm hl (PySem.W.callWith_K0 (first := [.ref a]) I1.kIn hm.kp (run_fnG (us := [.ref a]) (vs := [.ref a]) F hr hb hd hx I1 (.cons rfl .nil) q))
theorem RmG.make {A : Around} (r : RmG (k + 1) A) (C : Addr) (us : List Value) : RmG k (A.under (.builtin "type.__call__" ⟨.ref C :: us, []⟩)) := ⟨r.rm.make C us [], by
  have h : (A.under (.builtin "type.__call__" ⟨.ref C :: us, []⟩)).guards = pushGuards (Code.guards (.builtin "type.__call__" ⟨.ref C :: us, []⟩)) A.guards := by simp [Around.under]
  have z : Code.guards (.builtin "type.__call__" ⟨.ref C :: us, []⟩) = [] := by
    unfold Code.guards
    rw [if_neg]
    simp only [Code.isGuard]
    decide
  rw [h, r.gd, z]
  rfl⟩
theorem run_makeG {pins : List (Addr × Obj)} {σ : L2.St} {H : Hp} {s : Shared} {Q : VK} {us : List Value} {vs : List V} (M : Mk X.K C f) (F : FnG X.prog X.w X.K X.mg X.base k f fd ps sp) (hr : RmG (k + 1) X.A) (hb : Binds X.K fd ps ds) (hd : Vals dvs ds) (hx : PassE X E)
    (I : Inv X pins σ H s) (r : Vals vs us) (h : ∀ x dx, H x = none → H dx = none → dx ≠ x → sp (.ref x :: (vs ++ dvs)) (upd (upd H dx (.own x)) x (.ins C dx [])) (fun v G => v = .non ∧ Q (.ref x) G) (E σ)) :
    wpAny (model X.prog X.w) X.A (call (.ref C) us) (EP X pins σ Q) X.xe s := by
  let n := s.heap.objs.size
  have hq := h (n + 1) n (I.hok.fresh (Nat.le_succ _)) (I.hok.fresh (Nat.le_refl _)) (Nat.ne_of_lt (Nat.lt_succ_self _))
  have J := Inv.made (C := C) I
  have rr : Vals (V.ref (n + 1) :: (vs ++ dvs)) (Value.ref (n + 1) :: (us ++ ds)) := .cons rfl (r.append hd)
  have hl : ((Value.ref (n + 1) :: us) ++ ds).length = ps.length := (rr.length.symm.trans (F.len _ _ _ _ hq))
  refine wpAny_call (make_map (f := f) I.kIn M.makes M.init (beq_iff_eq.mp M.fn) (codeAny_mono (F.run _ X.stack _ _ ⟨Value.ref (n + 1) :: us, []⟩ (Value.ref (n + 1) :: (us ++ ds)) _ _ (E σ) (hr.make C us) (J.env0.make C us []) (hb _ (Value.ref (n + 1) :: us) J.kIn hl) rr hq) fun res s' hz => ?_))
  cases res with
  | error e => exact hx σ pins _ _ e s' J hz
  | ok fl =>
    cases fl with
    | ret u =>
      obtain ⟨v, H', I3, rv, ev, q3⟩ := J.after hz
      subst ev
      exact ⟨rv, ⟨V.ref (n + 1), H', I3, rfl, q3⟩⟩
    | next => exact hz.elim
    | brk => exact hz.elim
    | cont => exact hz.elim
theorem pe_makeG (M : Mk X.K C f) (F : FnG X.prog X.w X.K X.mg X.base k f fd ps sp) (hr : RmG (k + 1) X.A) (hg : Gl X x) (hm : X.mg x = some (.ref C)) (hb : Binds X.K fd ps ds) (hd : Vals dvs ds) (hx : PassE X E)
    (ha : PA X (e :: es) t) (hdb : (x == ("__debug__" : Str)) = false := by decide) (he : starEach (e :: es) X.env = (false, eval e X.env) :: starEach es X.env := by rfl) (hpl : (backTo pos (starEach es X.env)).any (·.1) = false := by rfl) :
    PE X (.Call (.Name x p) (e :: es) [] pos) (tMakeG C sp dvs E t) := by
  constructor
  intro pins s σ H Q I h
  refine wpAny_Call_Name_kw (ld_glob I hg hm ?_ hdb)
  exact PySem.W.callWith_K (h₀ := X.base) I.ok.mod.kin M.kp (thn (ha.run pos pins s σ H _ I h) fun us s1 ⟨vs, H1, I1, r, q⟩ => ⟨I1.kIn, run_makeG M F hr hb hd hx I1 r q⟩) he hpl
end
end Pu
namespace Pu
open PySem PySem.Spec PyProof.Rows L2 My
variable [Tbs] [Nls]
inductive FOut where
  | ok (d io : D) | ex (x : Str) (fs : List (Str × D)) (io : D) | bad
def kdAt (pin : Option Nat) (i : Nat) : Kd := if pin = some i then .pin else .val
def initAt (pin : Option Nat) : Nat → List D → En
  | _, [] => []
  | i, d :: ds => some (kdAt pin i, d) :: initAt pin (i + 1) ds
def initE (pin : Option Nat) (n : Nat) (ds : List D) : En := initAt pin 0 ds ++ List.replicate (n - ds.length) none
def ioE (pin : Option Nat) (ρ : En) : Option D := match pin with
  | none => some .non
  | some j => match ρ[j]? with
    | some (some (.pin, d)) => some d
    | _ => none
def runF (pin : Option Nat) (n m : Nat) (body : SM) (ds : List D) : FOut := if ds.length = m then (match body (initE pin n ds) with
  | .nx ρ' => (match ioE pin ρ' with | some io => .ok .non io | none => .bad)
  | .rt d ρ' => (match ioE pin ρ' with | some io => .ok d io | none => .bad)
  | .ex x fs ρ' => (match ioE pin ρ' with | some io => .ex x fs io | none => .bad)
  | .rf d ρ' => (match ioE pin ρ' with | some io => .ok d io | none => .bad)
  | _ => .bad) else .bad
def runFF (pin : Option Nat) (n m : Nat) (body : SM) (ds : List D) : FOut := if ds.length = m then (match body (initE pin n ds) with
  | .ex x fs ρ' => (match ioE pin ρ' with | some io => .ex x fs io | none => .bad)
  | .rf d ρ' => (match ioE pin ρ' with | some io => .ok d io | none => .bad)
  | _ => .bad) else .bad
structure ArgsD (B : Bs) (pin : Option Nat) (vs : List V) (ds : List D) (H : Hp) (O : List Addr) : Prop where
  len : vs.length = ds.length
  val : ∀ (i : Nat) (d : D), pin ≠ some i → ds[i]? = some d → ∃ v, vs[i]? = some v ∧ Rep B (hide H O) v d
  own : ∀ j : Nat, pin = some j → ∃ p o d, vs[j]? = some (.ref p) ∧ p ∈ O ∧ H p = some o ∧ ds[j]? = some d ∧ RepO B (hide H O) p o d
structure Fin (B : Bs) (pin : Option Nat) (vs : List V) (H : Hp) (O : List Addr) (io : D) (H' : Hp) (O' : List Addr) : Prop where
  liv : Liv H' O'
  same : Ext (hide H O) (hide H' O')
  frm : ∀ q ∈ O, (∀ j, pin = some j → vs[j]? ≠ some (.ref q)) → q ∈ O' ∧ H' q = H q
  own : ∀ j : Nat, pin = some j → ∃ p o, vs[j]? = some (.ref p) ∧ p ∈ O' ∧ H' p = some o ∧ RepO B (hide H' O') p o io
def FPo (B : Bs) (pin : Option Nat) (vs : List V) (H : Hp) (O : List Addr) (Q : VK) (E : XK) : FOut → Prop
  | .ok d io => ∀ v H' O', Fin B pin vs H O io H' O' → Rep B (hide H' O') v d → Q v H'
  | .ex x fs io => ∀ dd H' O', Fin B pin vs H O io H' O' → ExAt B (hide H' O') fs dd → E (.ref (B.cls x)) dd H'
  | .bad => False
def spD (B : Bs) (pin : Option Nat) (m : Nat) (fn : List D → FOut) : Sp := fun vs H Q E => vs.length = m ∧ ∃ O ds, Liv H O ∧ ArgsD B pin vs ds H O ∧ FPo B pin vs H O Q E (fn ds)
section
variable {B : Bs} {c : Cst} {ρ ρ' : En} {σ σ' : L2.St} {H H' : Hp} {O O' : List Addr} {pin : Option Nat} {vs : List V} {ds : List D}
theorem initAt_len (pin : Option Nat) : ∀ (ds : List D) (i : Nat), (initAt pin i ds).length = ds.length
  | [], _ => rfl
  | d :: ds, i => by simp [initAt, initAt_len pin ds (i + 1)]
theorem initAt_get (pin : Option Nat) : ∀ (ds : List D) (i j : Nat), (initAt pin i ds)[j]? = (ds[j]?).map fun d => some (kdAt pin (i + j), d)
  | [], _, j => by simp [initAt]
  | d :: ds, i, 0 => by simp [initAt]
  | d :: ds, i, j + 1 => by
    simp only [initAt, List.getElem?_cons_succ]
    rw [initAt_get pin ds (i + 1) j, show i + 1 + j = i + (j + 1) by omega]
theorem initE_get {n : Nat} {i : Nat} {k : Kd} {d : D} (h : (initE pin n ds)[i]? = some (some (k, d))) : ds[i]? = some d ∧ k = kdAt pin i := by
  unfold initE at h
  rw [List.getElem?_append] at h
  split at h
  · rw [initAt_get] at h
    cases hd : ds[i]? with
    | none => rw [hd] at h; cases h
    | some x =>
      rw [hd] at h
      simp only [Option.map_some, Nat.zero_add, Option.some.injEq, Prod.mk.injEq] at h
      exact ⟨by rw [h.2], h.1.symm⟩
  · rw [List.getElem?_replicate] at h
    split at h <;> simp at h
theorem start_get {N : List Str} {i : Nat} {v : V} (h : vs[i]? = some v) : (L2.start N vs)[i]? = some (some v) := by
  unfold L2.start
  have hl : i < vs.length := by
    rcases Nat.lt_or_ge i vs.length with q | q
    · exact q
    · rw [List.getElem?_eq_none q] at h; cases h
  rw [List.getElem?_append_left (by simpa using hl), List.getElem?_map, h]
  rfl
def pinsOf (pin : Option Nat) (vs : List V) : List Addr := match pin with
  | none => []
  | some j => match vs[j]? with
    | some (.ref p) => [p]
    | _ => []
theorem args_stt {N : List Str} (a : ArgsD B pin vs ds H O) (hl : Liv H O) (hn : ds.length ≤ N.length) : Stt B ⟨fun i => match vs[i]? with | some (.ref p) => p | _ => 0, O.filter (fun q => decide (q ∉ pinsOf pin vs)), H⟩ (initE pin N.length ds) (L2.start N vs) H O := by
  have hk : ∀ {i : Nat} {k : Kd}, k = kdAt pin i → k ≠ .val → pin = some i ∧ k = .pin := fun {i k} h hk => by
    unfold kdAt at h
    split at h
    · exact ⟨by assumption, h⟩
    · exact absurd h hk
  refine ⟨?_, ?_, ?_, ?_, ?_, hl, ?_⟩
  · unfold initE L2.start
    rw [List.length_append, List.length_append, initAt_len, List.length_replicate, List.length_map, List.length_replicate, a.len]
  · intro i d h
    obtain ⟨h1, h2⟩ := initE_get h
    have hp : pin ≠ some i := fun e => by
      unfold kdAt at h2
      rw [if_pos e] at h2
      cases h2
    obtain ⟨v, hv, hr⟩ := a.val i d hp h1
    exact ⟨v, start_get hv, hr⟩
  · intro i k d h hkv
    obtain ⟨h1, h2⟩ := initE_get h
    obtain ⟨e, _⟩ := hk h2 hkv
    obtain ⟨p, o, d', q1, q2, q3, q4, q5⟩ := a.own i e
    rw [h1] at q4
    cases q4
    refine ⟨p, o, start_get q1, q2, ?_, q3, q5⟩
    intro hm
    have := (List.mem_filter.mp hm).2
    simp [pinsOf, e, q1] at this
  · intro i j p k l d e qi qj hki hlj _ _
    obtain ⟨_, h2⟩ := initE_get qi
    obtain ⟨_, h4⟩ := initE_get qj
    obtain ⟨e1, _⟩ := hk h2 hki
    obtain ⟨e2, _⟩ := hk h4 hlj
    rw [e1] at e2
    exact Option.some.inj e2
  · intro i d h
    obtain ⟨h1, h2⟩ := initE_get h
    obtain ⟨e, _⟩ := hk h2 (by decide)
    obtain ⟨p, o, d', q1, _⟩ := a.own i e
    simp only [q1]
    exact start_get q1
  · intro q hq
    exact ⟨(List.mem_filter.mp hq).1, rfl⟩
theorem fin_of {N : List Str} {io : D} (a : ArgsD B pin vs ds H O) (st : Stt B ⟨fun i => match vs[i]? with | some (.ref p) => p | _ => 0, O.filter (fun q => decide (q ∉ pinsOf pin vs)), H⟩ ρ' σ' H' O') (e : Ext (hide H O) (hide H' O')) (hio : ioE pin ρ' = some io) : Fin B pin vs H O io H' O' := by
  refine ⟨st.liv, e, ?_, ?_⟩
  · intro q hq hn
    refine st.frm q (List.mem_filter.mpr ⟨hq, ?_⟩)
    simp only [decide_eq_true_eq]
    intro hm
    unfold pinsOf at hm
    cases pin with
    | none => simp at hm
    | some j =>
      simp only at hm
      split at hm
      · rename_i p hp
        simp only [List.mem_cons, List.not_mem_nil, or_false] at hm
        subst hm
        exact hn j rfl hp
      · cases hm
  · intro j hj
    subst hj
    unfold ioE at hio
    simp only at hio
    split at hio
    · rename_i d hd
      cases hio
      obtain ⟨p, o, d', q1, _⟩ := a.own j rfl
      have hs := st.pin j io hd
      obtain ⟨p', o', u1, u2, u3, u4, u5⟩ := st.own j .pin io hd (by decide)
      rw [hs] at u1
      cases u1
      simp only [q1] at u2 u4 u5
      exact ⟨p, o', q1, u2, u4, u5⟩
    · cases hio
end
def FPoF (B : Bs) (pin : Option Nat) (vs : List V) (H : Hp) (O : List Addr) (Q : VK) (E : XK) : FOut → Prop
  | .ok d io => ∀ p o H' O', Fin B pin vs H O io H' O' → H' p = some o → p ∈ O' → p ∉ O → RepO B (hide H' O') p o d → Q (.ref p) H'
  | .ex x fs io => ∀ dd H' O', Fin B pin vs H O io H' O' → ExAt B (hide H' O') fs dd → E (.ref (B.cls x)) dd H'
  | .bad => False
def spF (B : Bs) (pin : Option Nat) (m : Nat) (fn : List D → FOut) : Sp := fun vs H Q E => vs.length = m ∧ ∃ O ds, Liv H O ∧ ArgsD B pin vs ds H O ∧ FPoF B pin vs H O Q E (fn ds)
section
variable {P : Program} {w : World} {K : PySem.W.Frag} {mg : Str → Option Value} {base : Heap} {x qual : Str} {st : Stmt} {f : Addr} {fd : FuncData} {N ps : List Str} {k : Nat} {fb : SM}
def Bdy (P : Program) (w : World) (K : PySem.W.Frag) (mg : Str → Option Value) (base : Heap) (N : List Str) (qual : Str) (st : Stmt) (f : Addr) (k : Nat) (fb : SM) : Prop :=
  ∀ (cdv : Value) (A : Around) (outer : List PySem.Env) (s : Shared) (H : Hp) (E : XK), RmG k (A.deeper (envOfC qual (defScope st) s.heap.objs.size f cdv)) →
    Takes (cxOf (L2.CX P w) P w K mg base N qual (defScope st) f cdv A outer s H E) (fun cls d _ H => E cls d H) →
    PassesOwn (model P w) (cxOf (L2.CX P w) P w K mg base N qual (defScope st) f cdv A outer s H E).A (cxOf (L2.CX P w) P w K mg base N qual (defScope st) f cdv A outer s H E).env (cxOf (L2.CX P w) P w K mg base N qual (defScope st) f cdv A outer s H E).xe →
    DSs (cxOf (L2.CX P w) P w K mg base N qual (defScope st) f cdv A outer s H E) (fun cls d _ H => E cls d H) (defBody st) fb
theorem fn_body (pin : Option Nat) (F : Fg K x qual st f fd) (S : FnScope N ps (defScope st)) (hn : ps.length ≤ N.length) (hb : Bdy P w K mg base N qual st f k fb) :
    FnG P w K mg base (k + 1) f fd ps (spD ⟨K, w, mg⟩ pin ps.length (runF pin N.length ps.length fb)) := by
  refine fun_okG F S (fun vs H Q E h => h.1) fun cdv A outer s H vs Q E hr hsp => ?_
  refine ⟨_, hb cdv A outer s H E hr (takes_of rfl rfl rfl rfl) (passes_of rfl), ?_⟩
  obtain ⟨hlen, O, ds, hl, ha, hp⟩ := hsp
  unfold runF at hp
  have hld : ds.length = ps.length := by rw [← ha.len]; exact hlen
  rw [if_pos hld] at hp
  have st0 := args_stt (N := N) ha hl (by omega)
  refine ⟨_, _, O, st0, ?_⟩
  cases hf : fb (initE pin N.length ds) with
  | nx ρ' =>
    rw [hf] at hp
    simp only at hp
    split at hp
    · rename_i io hio
      exact fun σ' H' O' st' e' => hp .non H' O' (fin_of (N := N) ha st' e' hio) .non
    · exact hp.elim
  | rt d ρ' =>
    rw [hf] at hp
    simp only at hp
    split at hp
    · rename_i io hio
      exact fun v σ' H' O' st' e' hr => hp v H' O' (fin_of (N := N) ha st' e' hio) hr
    · exact hp.elim
  | bk ρ' => rw [hf] at hp; exact hp.elim
  | ct ρ' => rw [hf] at hp; exact hp.elim
  | ex x fs ρ' =>
    rw [hf] at hp
    simp only at hp
    split at hp
    · rename_i io hio
      exact fun dd σ' H' O' st' e' hr => hp dd H' O' (fin_of (N := N) ha st' e' hio) hr
    · exact hp.elim
  | rf d ρ' =>
    rw [hf] at hp
    simp only at hp
    split at hp
    · rename_i io hio
      intro p o σ' H' O' st' e' ho hm hfr hF hr
      obtain ⟨O2, s2, e2, r2⟩ := st'.thaw ho hfr hF hr
      exact hp _ H' O2 (fin_of (N := N) ha s2 (e'.trans e2) hio) r2
    · exact hp.elim
  | bad => rw [hf] at hp; exact hp.elim
theorem fn_bodyF (pin : Option Nat) (F : Fg K x qual st f fd) (S : FnScope N ps (defScope st)) (hn : ps.length ≤ N.length) (hb : Bdy P w K mg base N qual st f k fb) :
    FnG P w K mg base (k + 1) f fd ps (spF ⟨K, w, mg⟩ pin ps.length (runFF pin N.length ps.length fb)) := by
  refine fun_okG F S (fun vs H Q E h => h.1) fun cdv A outer s H vs Q E hr hsp => ?_
  refine ⟨_, hb cdv A outer s H E hr (takes_of rfl rfl rfl rfl) (passes_of rfl), ?_⟩
  obtain ⟨hlen, O, ds, hl, ha, hp⟩ := hsp
  unfold runFF at hp
  have hld : ds.length = ps.length := by rw [← ha.len]; exact hlen
  rw [if_pos hld] at hp
  have st0 := args_stt (N := N) ha hl (by omega)
  refine ⟨_, _, O, st0, ?_⟩
  cases hf : fb (initE pin N.length ds) with
  | nx ρ' => rw [hf] at hp; exact hp.elim
  | rt d ρ' => rw [hf] at hp; exact hp.elim
  | bk ρ' => rw [hf] at hp; exact hp.elim
  | ct ρ' => rw [hf] at hp; exact hp.elim
  | ex x fs ρ' =>
    rw [hf] at hp
    simp only at hp
    split at hp
    · rename_i io hio
      exact fun dd σ' H' O' st' e' hr => hp dd H' O' (fin_of (N := N) ha st' e' hio) hr
    · exact hp.elim
  | rf d ρ' =>
    rw [hf] at hp
    simp only at hp
    split at hp
    · rename_i io hio
      intro p o σ' H' O' st' e' ho hm hfr hF hr
      refine hp p o H' O' (fin_of (N := N) ha st' e' hio) ho hm ?_ hr
      intro hpO
      refine hF (List.mem_filter.mpr ⟨hpO, ?_⟩)
      simp only [decide_eq_true_eq]
      intro hpp
      unfold pinsOf at hpp
      unfold ioE at hio
      cases pin with
      | none => simp at hpp
      | some j =>
        simp only at hpp hio
        split at hpp
        · rename_i p' hv
          simp only [List.mem_cons, List.not_mem_nil, or_false] at hpp
          subst hpp
          split at hio
          · rename_i d' hd'
            have := st'.pin j d' hd'
            simp only [hv] at this
            exact hfr j .pin d' hd' (by decide) this
          · cases hio
        · cases hpp
    · exact hp.elim
  | bad => rw [hf] at hp; exact hp.elim
end
def escJ (pin : Option Nat) : Nat → List Rv → En → Option (List D × En)
  | _, [], ρ => some ([], ρ)
  | i, r :: rs, ρ => match (if pin = some i then some (.non, ρ) else esc ρ r) with
    | some (d, ρ1) => match escJ pin (i + 1) rs ρ1 with
      | some (ds, ρ2) => some (d :: ds, ρ2)
      | none => none
    | none => none
def pinR (pin : Option Nat) (rs : List Rv) (ρ : En) : Option (Option (Nat × Nat × Kd × D)) := match pin with
  | none => some none
  | some j => match rs[j]? with
    | some (.slot s) => match ρ[s]? with
      | some (some (.own, d)) => some (some (j, s, .own, d))
      | some (some (.pin, d)) => some (some (j, s, .pin, d))
      | _ => none
    | _ => none
def putR (o : Option (Nat × Nat × Kd × D)) (ds : List D) : List D := match o with
  | none => ds
  | some (j, _, _, d) => ds.set j d
def backR (o : Option (Nat × Nat × Kd × D)) (io : D) (ρ : En) : En := match o with
  | none => ρ
  | some (_, s, k, _) => ρ.set s (some (k, io))
def fcall (pin : Option Nat) (fn : List D → FOut) (rs : List Rv) (ρ : En) : Out Rv := match escJ pin 0 rs ρ with
  | some (ds, ρ1) => match pinR pin rs ρ1 with
    | some o => match fn (putR o ds) with
      | .ok d io => .ok (.val d) (backR o io ρ1)
      | .ex x fs io => .ex x fs (backR o io ρ1)
      | .bad => .bad
    | none => .bad
  | none => .bad
section
variable {B : Bs} {c : Cst} {ρ ρ' : En} {σ σ' : L2.St} {H H' : Hp} {O O' : List Addr} {pin : Option Nat} {vs : List V} {ds : List D}
theorem escJ_ok {rs : List Rv} : ∀ {i : Nat} {vs : List V} {ds : List D} {ρ : En} {O : List Addr}, Stt B c ρ σ H O → RvsOk B σ H O vs rs → escJ pin i rs ρ = some (ds, ρ') →
    ∃ O', Stt B c ρ' σ H O' ∧ Ext (hide H O) (hide H O') ∧ vs.length = ds.length ∧ ∀ (j : Nat) (d : D), pin ≠ some (i + j) → ds[j]? = some d → ∃ v, vs[j]? = some v ∧ Rep B (hide H O') v d := by
  induction rs with
  | nil =>
    intro i vs ds ρ O st h e
    cases h
    simp only [escJ, Option.some.injEq, Prod.mk.injEq] at e
    obtain ⟨rfl, rfl⟩ := e
    exact ⟨O, st, .refl _, rfl, fun j d _ hd => by simp at hd⟩
  | cons r rs ih =>
    intro i vs ds ρ O st h e
    cases h with
    | cons h t =>
    simp only [escJ] at e
    split at e
    · rename_i d ρ1 e1
      split at e
      · rename_i ds' ρ2 e2
        simp only [Option.some.injEq, Prod.mk.injEq] at e
        obtain ⟨rfl, rfl⟩ := e
        by_cases hp : pin = some i
        · rw [if_pos hp] at e1
          simp only [Option.some.injEq, Prod.mk.injEq] at e1
          obtain ⟨rfl, rfl⟩ := e1
          obtain ⟨O2, s2, x2, l2, r2⟩ := ih st t e2
          refine ⟨O2, s2, x2, by simp [l2], fun j d hj hd => ?_⟩
          cases j with
          | zero => exact absurd hp (by simpa using hj)
          | succ j => exact r2 j d (by rw [show i + 1 + j = i + (j + 1) by omega]; exact hj) (by simpa using hd)
        · rw [if_neg hp] at e1
          obtain ⟨O1, s1, x1, r1⟩ := st.esc h e1
          obtain ⟨O2, s2, x2, l2, r2⟩ := ih s1 (RvsOk.ext t x1) e2
          refine ⟨O2, s2, x1.trans x2, by simp [l2], fun j d hj hd => ?_⟩
          cases j with
          | zero =>
            simp only [List.getElem?_cons_zero, Option.some.injEq] at hd
            subst hd
            exact ⟨_, rfl, r1.mono x2⟩
          | succ j => exact r2 j d (by rw [show i + 1 + j = i + (j + 1) by omega]; exact hj) (by simpa using hd)
      · cases e
    · cases e
theorem pinR_ok {rs : List Rv} {o : Option (Nat × Nat × Kd × D)} (h : pinR pin rs ρ = some o) : (pin = none ∧ o = none) ∨ ∃ j s k d, pin = some j ∧ o = some (j, s, k, d) ∧ rs[j]? = some (.slot s) ∧ ρ[s]? = some (some (k, d)) ∧ k ≠ .val := by
  unfold pinR at h
  cases pin with
  | none =>
    simp only [Option.some.injEq] at h
    exact .inl ⟨rfl, h.symm⟩
  | some j =>
    simp only at h
    split at h
    · rename_i s hs
      split at h
      · rename_i d hd
        cases h
        exact .inr ⟨j, s, .own, d, rfl, rfl, hs, hd, by decide⟩
      · rename_i d hd
        cases h
        exact .inr ⟨j, s, .pin, d, rfl, rfl, hs, hd, by decide⟩
      · cases h
    · cases h
theorem Paired.get' {α β : Type} {F : α → β → Prop} : ∀ {xs : List α} {ys : List β} {i : Nat} {y : β}, Paired F xs ys → ys[i]? = some y → ∃ x, xs[i]? = some x ∧ F x y
  | _, _, _, _, .nil, e => by simp at e
  | _, _, 0, _, .cons r _, e => by simp at e; subst e; exact ⟨_, rfl, r⟩
  | _, _, i + 1, y, .cons _ t, e => by
    obtain ⟨u, h1, h2⟩ := Paired.get' (i := i) (y := y) t (by simpa using e)
    exact ⟨u, by simpa using h1, h2⟩
theorem Stt.behind {rs : List Rv} {o : Option (Nat × Nat × Kd × D)} {io : D} (st : Stt B c ρ σ H O) (hv : RvsOk B σ H O vs rs) (ho : pinR pin rs ρ = some o) (f : Fin B pin vs H O io H' O') : Stt B c (backR o io ρ) σ H' O' := by
  rcases pinR_ok ho with ⟨rfl, rfl⟩ | ⟨j, s, k, d, rfl, rfl, hr, hd, hk⟩
  · refine ⟨st.len, ?_, ?_, st.sep, st.pin, f.liv, ?_⟩
    · intro i d h
      obtain ⟨v, h1, h2⟩ := st.val i d h
      exact ⟨v, h1, h2.mono f.same⟩
    · intro i k d h hk
      obtain ⟨p, o, h1, h2, h3, h4, h5⟩ := st.own i k d h hk
      obtain ⟨u1, u2⟩ := f.frm p h2 fun j hj => by cases hj
      exact ⟨p, o, h1, u1, h3, by rw [u2]; exact h4, h5.mono f.same⟩
    · intro q hq
      obtain ⟨u1, u2⟩ := st.frm q hq
      obtain ⟨w1, w2⟩ := f.frm q u1 fun j hj => by cases hj
      exact ⟨w1, by rw [w2]; exact u2⟩
  · obtain ⟨p0, o0, z1, z2, z3, z4, z5⟩ := st.own s k d hd hk
    obtain ⟨v, hv1, hv2⟩ := Paired.get' hv hr
    simp only [RvOk] at hv2
    rw [z1] at hv2
    cases hv2
    obtain ⟨p, o, q1, q2, q3, q4⟩ := f.own j rfl
    rw [hv1] at q1
    cases q1
    have apart : ∀ q, q ≠ p0 → ∀ j', some j = some j' → vs[j']? ≠ some (.ref q) := fun q hq j' hj' e => by
      cases hj'
      rw [hv1] at e
      cases e
      exact hq rfl
    refine ⟨by simp [backR, st.len], ?_, ?_, ?_, ?_, f.liv, ?_⟩
    · intro i e h
      rcases get_set h with ⟨rfl, _, z⟩ | ⟨hi, h⟩
      · cases z; exact absurd rfl hk
      · obtain ⟨v, h1, h2⟩ := st.val i e h
        exact ⟨v, h1, h2.mono f.same⟩
    · intro i l e h hl
      rcases get_set h with ⟨rfl, _, z⟩ | ⟨hi, h⟩
      · cases z
        exact ⟨p0, o, z1, q2, z3, q3, q4⟩
      · obtain ⟨p', o', u1, u2, u3, u4, u5⟩ := st.own i l e h hl
        have ne : p' ≠ p0 := fun z => hi (st.sep i s p0 l k e d h hd hl hk (by rw [u1, z]) z1)
        obtain ⟨w1, w2⟩ := f.frm p' u2 (apart p' ne)
        exact ⟨p', o', u1, w1, u3, by rw [w2]; exact u4, u5.mono f.same⟩
    · intro a b q k' l' x y qa qb hk' hl' sa sb
      have ea : ∃ x', ρ[a]? = some (some (k', x')) := by
        rcases get_set qa with ⟨rfl, _, z⟩ | ⟨ha, qa⟩
        · cases z; exact ⟨_, hd⟩
        · exact ⟨_, qa⟩
      have eb : ∃ x', ρ[b]? = some (some (l', x')) := by
        rcases get_set qb with ⟨rfl, _, z⟩ | ⟨ha, qb⟩
        · cases z; exact ⟨_, hd⟩
        · exact ⟨_, qb⟩
      obtain ⟨x', ea⟩ := ea
      obtain ⟨y', eb⟩ := eb
      exact st.sep a b q k' l' x' y' ea eb hk' hl' sa sb
    · intro i e h
      rcases get_set h with ⟨rfl, _, z⟩ | ⟨hi, h⟩
      · cases z
        exact st.pin _ d hd
      · exact st.pin i e h
    · intro q hq
      obtain ⟨u1, u2⟩ := st.frm q hq
      obtain ⟨w1, w2⟩ := f.frm q u1 (apart q fun z => z3 (by rw [← z]; exact hq))
      exact ⟨w1, by rw [w2]; exact u2⟩
theorem fcall_sp {W : WX} {fn : List D → FOut} {rs : List Rv} {m : Nat} {Q : VK} {R : Rv → En → Hp → List Addr → Prop} (hm : rs.length = m) (st : Stt B c ρ σ H O) (hv : RvsOk B σ H O vs rs) (h : Po B c W σ H O R (fcall pin fn rs ρ)) (hQ : ∀ r ρ' H' O' v, Stt B c ρ' σ H' O' → Ext (hide H O) (hide H' O') → RvOk B σ H' O' v r → R r ρ' H' O' → Q v H') :
    spD B pin m fn vs H Q (fun cls d H' => W cls d σ H') := by
  have hlen : vs.length = rs.length := Paired.length hv
  unfold fcall at h
  split at h
  · rename_i ds ρ1 he
    obtain ⟨O1, st1, e1, l1, r1⟩ := escJ_ok st hv he
    have hv1 := RvsOk.ext hv e1
    split at h
    · rename_i o hpo
      refine ⟨hlen.trans hm, O1, putR o ds, st1.liv, ?_, ?_⟩
      · rcases pinR_ok hpo with ⟨rfl, rfl⟩ | ⟨j, s, k, d, rfl, rfl, hr, hd, hk⟩
        · refine ⟨l1, fun i d _ hd => r1 i d (by simp) hd, fun j hj => by cases hj⟩
        · refine ⟨by simp [putR, l1], fun i e hi he' => ?_, fun j' hj' => ?_⟩
          · rcases get_set he' with ⟨rfl, _, _⟩ | ⟨_, he'⟩
            · exact absurd rfl hi
            · exact r1 i e (by simpa using hi) he'
          · cases hj'
            obtain ⟨p0, o0, z1, z2, z3, z4, z5⟩ := st1.own s k d hd hk
            obtain ⟨v, hv3, hv2⟩ := Paired.get' hv1 hr
            simp only [RvOk] at hv2
            rw [z1] at hv2
            cases hv2
            refine ⟨p0, o0, d, hv3, z2, z4, ?_, z5⟩
            have hl : j < ds.length := by
              rw [← l1]
              rcases Nat.lt_or_ge j vs.length with q | q
              · exact q
              · rw [List.getElem?_eq_none q] at hv3; cases hv3
            simp only [putR]
            rw [List.getElem?_set_self hl]
      · cases hfn : fn (putR o ds) with
        | ok d io =>
          simp only [hfn] at h
          intro v H' O' f hr
          have s' := st1.behind hv1 hpo f
          exact hQ (.val d) _ H' O' v s' (e1.trans f.same) hr (h H' O' s' (e1.trans f.same))
        | ex x fs io =>
          simp only [hfn] at h
          intro dd H' O' f hx
          exact h dd H' O' (st1.behind hv1 hpo f) (e1.trans f.same) hx
        | bad => simp only [hfn] at h; exact h.elim
    · exact h.elim
  · exact h.elim
end
section
variable {B : Bs} {c : Cst} {ρ ρ' : En} {σ σ' : L2.St} {H H' : Hp} {O O' : List Addr} {pin : Option Nat} {vs : List V} {ds : List D}
theorem call_args {rs : List Rv} {ρ1 : En} {o : Option (Nat × Nat × Kd × D)} (st : Stt B c ρ σ H O) (hv : RvsOk B σ H O vs rs) (he : escJ pin 0 rs ρ = some (ds, ρ1)) (hpo : pinR pin rs ρ1 = some o) :
    ∃ O1, Stt B c ρ1 σ H O1 ∧ Ext (hide H O) (hide H O1) ∧ RvsOk B σ H O1 vs rs ∧ ArgsD B pin vs (putR o ds) H O1 := by
  obtain ⟨O1, st1, e1, l1, r1⟩ := escJ_ok st hv he
  have hv1 := RvsOk.ext hv e1
  refine ⟨O1, st1, e1, hv1, ?_⟩
  rcases pinR_ok hpo with ⟨rfl, rfl⟩ | ⟨j, s, k, d, rfl, rfl, hr, hd, hk⟩
  · exact ⟨l1, fun i d _ hd => r1 i d (by simp) hd, fun j hj => by cases hj⟩
  · refine ⟨by simp [putR, l1], fun i e hi he' => ?_, fun j' hj' => ?_⟩
    · rcases get_set he' with ⟨rfl, _, _⟩ | ⟨_, he'⟩
      · exact absurd rfl hi
      · exact r1 i e (by simpa using hi) he'
    · cases hj'
      obtain ⟨p0, o0, z1, z2, z3, z4, z5⟩ := st1.own s k d hd hk
      obtain ⟨v, hv3, hv2⟩ := Paired.get' hv1 hr
      simp only [RvOk] at hv2
      rw [z1] at hv2
      cases hv2
      refine ⟨p0, o0, d, hv3, z2, z4, ?_, z5⟩
      have hl : j < ds.length := by
        rw [← l1]
        rcases Nat.lt_or_ge j vs.length with q | q
        · exact q
        · rw [List.getElem?_eq_none q] at hv3; cases hv3
      simp only [putR]
      rw [List.getElem?_set_self hl]
def fcallF (pin : Option Nat) (fn : List D → FOut) (rs : List Rv) (ρ : En) : Out D := match escJ pin 0 rs ρ with
  | some (ds, ρ1) => match pinR pin rs ρ1 with
    | some o => match fn (putR o ds) with
      | .ok d io => .ok d (backR o io ρ1)
      | .ex x fs io => .ex x fs (backR o io ρ1)
      | .bad => .bad
    | none => .bad
  | none => .bad
theorem fcall_spF {W : WX} {fn : List D → FOut} {rs : List Rv} {m : Nat} {Q : VK} {R : D → En → Hp → List Addr → Prop} (hm : rs.length = m) (st : Stt B c ρ σ H O) (hv : RvsOk B σ H O vs rs) (h : Po B c W σ H O R (fcallF pin fn rs ρ))
    (hQ : ∀ d ρ' H' O' p o, Stt B c ρ' σ H' O' → Ext (hide H O) (hide H' O') → H' p = some o → p ∈ O' → Free ρ' σ p → p ∉ c.F → RepO B (hide H' O') p o d → R d ρ' H' O' → Q (.ref p) H') :
    spF B pin m fn vs H Q (fun cls d H' => W cls d σ H') := by
  have hlen : vs.length = rs.length := Paired.length hv
  unfold fcallF at h
  split at h
  · rename_i ds ρ1 he
    split at h
    · rename_i o hpo
      obtain ⟨O1, st1, e1, hv1, ha⟩ := call_args st hv he hpo
      refine ⟨hlen.trans hm, O1, putR o ds, st1.liv, ha, ?_⟩
      cases hfn : fn (putR o ds) with
      | ok d io =>
        simp only [hfn] at h
        intro p o' H' O' f ho' hm' hn' hr
        have s' := st1.behind hv1 hpo f
        refine hQ d _ H' O' p o' s' (e1.trans f.same) ho' hm' ?_ ?_ hr (h H' O' s' (e1.trans f.same))
        · intro i k x q hk z
          have : ∃ x', ρ1[i]? = some (some (k, x')) := by
            rcases pinR_ok hpo with ⟨rfl, rfl⟩ | ⟨j, s, k', d', rfl, rfl, hr', hd', hk'⟩
            · exact ⟨x, q⟩
            · rcases get_set q with ⟨rfl, _, y⟩ | ⟨_, q⟩
              · cases y; exact ⟨_, hd'⟩
              · exact ⟨x, q⟩
          obtain ⟨x', q'⟩ := this
          obtain ⟨p', o2, u1, u2, _⟩ := st1.own i k x' q' hk
          rw [z] at u1
          cases u1
          exact hn' u2
        · intro hF
          exact hn' (st1.frm p hF).1
      | ex x fs io =>
        simp only [hfn] at h
        intro dd H' O' f hx
        exact h dd H' O' (st1.behind hv1 hpo f) (e1.trans f.same) hx
      | bad => simp only [hfn] at h; exact h.elim
    · exact h.elim
  · exact h.elim
end
def noX {α : Type} (o : Out α) : Out α := match o with
  | .ok r ρ' => .ok r ρ'
  | _ => .bad
theorem noX_po {α : Type} {B : Bs} {c : Cst} {W W' : WX} {σ : L2.St} {H : Hp} {O : List Addr} {o : Out α} {R : α → En → Hp → List Addr → Prop} (h : Po B c W σ H O R (noX o)) : Po B c W' σ H O R o := by
  unfold noX at h
  cases o with
  | ok r ρ' => exact h
  | ex x fs ρ' => exact h.elim
  | bad => exact h.elim
def dArgs (m : Nat) (dds : List D) (fa : M (List Rv)) : M (List Rv) := fun ρ => (fa ρ).bind fun rs ρ' => if rs.length + dds.length = m then .ok (rs ++ dds.map .val) ρ' else .bad
def dCall (t : Bool) (pin : Option Nat) (m : Nat) (dds : List D) (fn : List D → FOut) (fa : M (List Rv)) : M Rv := fun ρ => (dArgs m dds fa ρ).bind fun rs ρ1 => if t = true then fcall pin fn rs ρ1 else noX (fcall pin fn rs ρ1)
def dCallF (t : Bool) (pin : Option Nat) (m : Nat) (dds : List D) (fn : List D → FOut) (fa : M (List Rv)) : M D := fun ρ => (dArgs m dds fa ρ).bind fun rs ρ1 => if t = true then fcallF pin fn rs ρ1 else noX (fcallF pin fn rs ρ1)
def ErrOk (X : Cx) (W : WX) (t : Bool) : Prop := t = true → Takes X W
theorem errTk {X : Cx} {W : WX} (tk : Takes X W) : ErrOk X W true := fun _ => tk
section
variable {X : Cx} {W : WX} {x m : Str} {st : Stmt} {ps : List Str} {k : Nat} {e o : Expr} {es : List Expr} {fo : M Rv} {fs : M (List Rv)} {p pos apos : Pos} {pin : Option Nat} {fn : List D → FOut} {t : Bool} {dds : List D} {dvs : List V} {dsv : List Value} {f C : Addr} {fd : FuncData}
theorem rvs_dflt {B : Bs} {σ : L2.St} {H : Hp} {O : List Addr} : ∀ {dvs : List V} {dds : List D}, (∀ G, RepL B G dvs dds) → RvsOk B σ H O dvs (dds.map .val)
  | [], [], _ => .nil
  | v :: dvs, d :: dds, h => .cons (by have := h (hide H O); cases this; assumption) (rvs_dflt fun G => by have := h G; cases this; assumption)
  | [], d :: dds, h => by have := h (hide H O); cases this
  | v :: dvs, [], h => by have := h (hide H O); cases this
theorem Paired.app {α β : Type} {F : α → β → Prop} : ∀ {xs ys : List α} {us ws : List β}, Paired F xs us → Paired F ys ws → Paired F (xs ++ ys) (us ++ ws)
  | _, _, _, _, .nil, s => s
  | _, _, _, _, .cons r t, s => .cons r (Paired.app t s)
theorem args_step {B : Bs} {c : Cst} {σ : L2.St} {H1 : Hp} {O1 : List Addr} {m : Nat} {ρ1 : En} {α : Type} {kk : List Rv → En → Out α} {rs : List Rv} {vs : List V} {R : α → En → Hp → List Addr → Prop} (st1 : Stt B c ρ1 σ H1 O1) (hv : RvsOk B σ H1 O1 vs rs) (hdd : ∀ G, RepL B G dvs dds)
    (q : Po B c W σ H1 O1 (fun a ρ' H' O' => Po B c W σ H' O' R (kk a ρ')) (if rs.length + dds.length = m then .ok (rs ++ dds.map Rv.val) ρ1 else .bad)) :
    (rs ++ dds.map Rv.val).length = m ∧ RvsOk B σ H1 O1 (vs ++ dvs) (rs ++ dds.map .val) ∧ Po B c W σ H1 O1 R (kk (rs ++ dds.map .val) ρ1) := by
  split at q
  · rename_i hl
    exact ⟨by simpa using hl, Paired.app hv (rvs_dflt hdd), q H1 O1 st1 (.refl _)⟩
  · exact q.elim
def wE (W : WX) (t : Bool) : L2.St → XK := if t = true then fun σ cls d H => W cls d σ H else fun _ => E0
theorem pass_t (h : ErrOk X W t) : PassE X (wE W t) := by
  unfold wE
  cases t with
  | true => rw [if_pos rfl]; exact pass_tk (h rfl)
  | false => rw [if_neg (by decide)]; exact pass_no
theorem call_sp {B : Bs} {c : Cst} {σ : L2.St} {H1 : Hp} {O1 : List Addr} {ρ1 : En} {rs : List Rv} {vs : List V} {mm : Nat} {Q : VK} (hm : rs.length = mm) (st1 : Stt B c ρ1 σ H1 O1) (hv : RvsOk B σ H1 O1 vs rs)
    (q : Po B c W σ H1 O1 (fun r ρ' H' O' => ∀ v, RvOk B σ H' O' v r → Q v H') (if t = true then fcall pin fn rs ρ1 else noX (fcall pin fn rs ρ1))) : spD B pin mm fn vs H1 Q (wE W t σ) := by
  unfold wE
  cases t with
  | true =>
    rw [if_pos rfl] at q
    rw [if_pos rfl]
    exact fcall_sp hm st1 hv q fun r ρ' H' O' v st' e' hv q => q v hv
  | false =>
    rw [if_neg (by decide)] at q
    rw [if_neg (by decide)]
    exact fcall_sp (W := fun _ _ _ _ => False) hm st1 hv (noX_po q) fun r ρ' H' O' v st' e' hv q => q v hv
theorem de_call (Dx : Dg X.K X.mg x st) (hb : Binds X.K (fdOf X.K (My.fa X.mg x)) ps dsv) (G : FnG X.prog X.w X.K X.mg X.base k (My.fa X.mg x) (fdOf X.K (My.fa X.mg x)) ps (spD (bs X) pin ps.length fn)) (hr : RmG k X.A) (hx : ErrOk X W t) (hd : Vals dvs dsv) (hdd : ∀ G, RepL (bs X) G dvs dds) (ha : DA X W (e :: es) fs) (hg : Gl X x := by rfl)
    (hdb : (x == ("__debug__" : Str)) = false := by decide) (he : starEach (e :: es) X.env = (false, eval e X.env) :: starEach es X.env := by rfl) (hpl : (backTo pos (starEach es X.env)).any (·.1) = false := by rfl) :
    DE X W (.Call (.Name x p) (e :: es) [] pos) (dCall t pin ps.length dds fn fs) := PE.le (pe_callG G hr hg Dx.g Dx.F.kp hb hd (pass_t hx) ha hdb he hpl) fun σ H Q ⟨c, ρ, O, st, q⟩ => by
  unfold dCall at q
  have q := Po.bind q
  unfold dArgs at q
  refine tAs.step st (Po.bind q) fun rs ρ1 vs H1 O1 st1 e1 hvs q1 => ?_
  obtain ⟨hm, hv2, q2⟩ := args_step st1 hvs hdd q1
  exact call_sp hm st1 hv2 q2
theorem df_call (Dx : Dg X.K X.mg x st) (hb : Binds X.K (fdOf X.K (My.fa X.mg x)) ps dsv) (G : FnG X.prog X.w X.K X.mg X.base k (My.fa X.mg x) (fdOf X.K (My.fa X.mg x)) ps (spF (bs X) pin ps.length fn)) (hr : RmG k X.A) (hx : ErrOk X W t) (hd : Vals dvs dsv) (hdd : ∀ G, RepL (bs X) G dvs dds) (ha : DA X W (e :: es) fs) (hg : Gl X x := by rfl)
    (hdb : (x == ("__debug__" : Str)) = false := by decide) (he : starEach (e :: es) X.env = (false, eval e X.env) :: starEach es X.env := by rfl) (hpl : (backTo pos (starEach es X.env)).any (·.1) = false := by rfl) :
    DF X W (.Call (.Name x p) (e :: es) [] pos) (dCallF t pin ps.length dds fn fs) := PE.le (pe_callG G hr hg Dx.g Dx.F.kp hb hd (pass_t hx) ha hdb he hpl) fun σ H Q ⟨c, ρ, O, st, q⟩ => by
  unfold dCallF at q
  have q := Po.bind q
  unfold dArgs at q
  refine tAs.step st (Po.bind q) fun rs ρ1 vs H1 O1 st1 e1 hvs q1 => ?_
  obtain ⟨hm, hv2, q2⟩ := args_step st1 hvs hdd q1
  have fin : ∀ {W' : WX}, Po (bs X) c W' σ H1 O1 (fun d ρ' H' O' => ∀ p o, H' p = some o → p ∈ O' → Free ρ' σ p → p ∉ c.F → RepO (bs X) (hide H' O') p o d → Q (.ref p) H') (fcallF pin fn (rs ++ dds.map .val) ρ1) → spF (bs X) pin ps.length fn (vs ++ dvs) H1 Q (fun cls d H' => W' cls d σ H') := fun {W'} z =>
    fcall_spF hm st1 hv2 z fun d ρ' H' O' p o st' e' h1 h2 h3 h4 h5 q => q p o h1 h2 h3 h4 h5
  unfold wE
  cases t with
  | true =>
    rw [if_pos rfl] at q2
    rw [if_pos rfl]
    exact fin q2
  | false =>
    rw [if_neg (by decide)] at q2
    rw [if_neg (by decide)]
    exact fin (W' := fun _ _ _ _ => False) (noX_po q2)
def selfR (cn m : Str) (d : Option D) : Bool := match d with
  | some (.ins c fs) => decide (c = cn) && (fs.lookup m).isNone
  | _ => false
def dMeth (cn m : Str) (t : Bool) (pin : Option Nat) (n : Nat) (dds : List D) (fn : List D → FOut) (fo : M Rv) (fa : M (List Rv)) : M Rv := fun ρ => (fo ρ).bind fun r ρ1 => if selfR cn m (rd ρ1 r) = true then
  (fa ρ1).bind fun rs ρ2 => if rs.length + dds.length = n then (if t = true then fcall pin fn (r :: (rs ++ dds.map .val)) ρ2 else noX (fcall pin fn (r :: (rs ++ dds.map .val)) ρ2)) else .bad else .bad
theorem self_ins {B : Bs} {H : Hp} {O : List Addr} {v : V} {d : D} {cn m : Str} (h : Vw B H O v d) (hs : selfR cn m (some d) = true) : ∃ a dx fs, v = .ref a ∧ H a = some (.ins (B.cls cn) dx fs) ∧ fs.lookup m = none := by
  cases d <;> simp only [selfR] at hs <;> try (exact absurd hs (by decide))
  rename_i c fs
  simp only [Bool.and_eq_true, decide_eq_true_eq] at hs
  obtain ⟨rfl, hn⟩ := hs
  obtain ⟨a, dx, gs, rfl, hH, hk, _⟩ := h.ins
  refine ⟨a, dx, gs, rfl, hH, ?_⟩
  rw [List.lookup_eq_none_iff]
  intro q hq
  rw [Option.isNone_iff_eq_none, List.lookup_eq_none_iff] at hn
  have : q.1 ∈ fs.map (·.1) := by rw [← hk]; exact List.mem_map.mpr ⟨q, hq, rfl⟩
  obtain ⟨q', hq', e'⟩ := List.mem_map.mp this
  have := hn q' hq'
  rw [e'] at this
  exact this
theorem meth_le {σ : L2.St} {H : Hp} {Q : VK} {cn : Str} {n : Nat} (hdd : ∀ G, RepL (bs X) G dvs dds) (h : tP (bs X) W (dMeth cn m t pin (n - 1) dds fn fo fs) σ H Q) (hn : 1 ≤ n) : tMethG ((bs X).cls cn) m (spD (bs X) pin n fn) dvs (wE W t) (tP (bs X) W fo) (tAs (bs X) W fs) σ H Q := by
  obtain ⟨c, ρ, O, st, q⟩ := h
  unfold dMeth at q
  refine tP.step st (Po.bind q) fun r ρ1 v H1 O1 st1 e1 hv q1 => ?_
  split at q1
  · rename_i hs
    cases hrd : rd ρ1 r with
    | none => rw [hrd] at hs; cases hs
    | some d =>
      rw [hrd] at hs
      obtain ⟨a, dx, gs, rfl, hH, hl⟩ := self_ins (st1.vw hv hrd) hs
      refine ⟨a, dx, gs, rfl, hH, hl, ?_⟩
      refine tAs.step st1 (Po.bind q1) fun rs ρ2 vs H2 O2 st2 e2 hvs q2 => ?_
      split at q2
      · rename_i hlen
        refine call_sp (rs := r :: (rs ++ dds.map Rv.val)) (by simp; omega) st2 (.cons (hv.ext e2) (Paired.app hvs (rvs_dflt hdd))) q2
      · exact q2.elim
  · exact q1.elim
theorem de_meth {cn : Str} {pl : Sem Bool} (ho : DE X W o fo) (cl : Cls X.K ((bs X).cls cn)) (hm : Meth X.K ((bs X).cls cn) m f) (hb : Binds X.K fd ps dsv) (G : FnG X.prog X.w X.K X.mg X.base k f fd ps (spD (bs X) pin ps.length fn)) (hr : RmG k X.A) (hx : ErrOk X W t) (hd : Vals dvs dsv) (hdd : ∀ G, RepL (bs X) G dvs dds) (ha : DA X W (e :: es) fs) (hn : 1 ≤ ps.length := by decide)
    (hst : starEach (e :: es) X.env = (false, eval e X.env) :: starEach es X.env := by rfl) (hpl : (backTo pos (starEach es X.env)).any (·.1) = false := by rfl)
    (ht : eval (.Call (.Attribute o m apos) (e :: es) [] pos) X.env = (do
      let w ← eval o X.env
      standAt apos.atName
      let (g, hd) ← holding [w] (getMethod w m pl)
      callWith pos g hd (backTo pos (starEach (e :: es) X.env)) (backToKw pos (keywordEach [] X.env))) := by rfl) :
    DE X W (.Call (.Attribute o m apos) (e :: es) [] pos) (dMeth cn m t pin (ps.length - 1) dds fn fo fs) := PE.le (pe_methG ho cl hm G hr hb hd (pass_t hx) ha hst hpl ht) fun σ H Q h => meth_le hdd h hn
theorem tNil_le {σ : L2.St} {H : Hp} {Q : List V → Hp → Prop} (h : tAs (bs X) W dNil σ H Q) : tNil σ H Q := by
  obtain ⟨c, ρ, O, st, q⟩ := h
  exact q H O st (.refl _) [] .nil
theorem de_meth0 {cn : Str} {pl : Sem Bool} (ho : DE X W o fo) (cl : Cls X.K ((bs X).cls cn)) (hm : Meth X.K ((bs X).cls cn) m f) (hb : Binds X.K fd ps dsv) (G : FnG X.prog X.w X.K X.mg X.base k f fd ps (spD (bs X) pin ps.length fn)) (hr : RmG k X.A) (hx : ErrOk X W t) (hd : Vals dvs dsv) (hdd : ∀ G, RepL (bs X) G dvs dds) (hn : 1 ≤ ps.length := by decide)
    (ht : eval (.Call (.Attribute o m apos) [] [] pos) X.env = (do
      let w ← eval o X.env
      standAt apos.atName
      let (g, hd) ← holding [w] (getMethod w m pl)
      callWith pos g hd (backTo pos (starEach [] X.env)) (backToKw pos (keywordEach [] X.env))) := by rfl) :
    DE X W (.Call (.Attribute o m apos) [] [] pos) (dMeth cn m t pin (ps.length - 1) dds fn fo dNil) := PE.le (pe_meth0G ho cl hm G hr hb hd (pass_t hx) ht) fun σ H Q h => by
  obtain ⟨c, ρ, O, st, q⟩ := meth_le hdd h hn
  refine ⟨c, ρ, O, st, Po.mono q (.refl _) fun r ρ' H' O' z v hv => ?_⟩
  obtain ⟨a, dx, gs, e1, e2, e3, e4⟩ := z v hv
  exact ⟨a, dx, gs, e1, e2, e3, tNil_le e4⟩
def fmake (cn : Str) (fn : List D → FOut) (rs : List Rv) (ρ : En) : Out Rv := match escs ρ rs with
  | some (ds, ρ1) => match fn (.ins cn [] :: ds) with
    | .ok .non io => .ok (.val io) ρ1
    | .ok _ _ => .bad
    | .ex x fs _ => .ex x fs ρ1
    | .bad => .bad
  | none => .bad
def dMake (cn : Str) (t : Bool) (m : Nat) (dds : List D) (fn : List D → FOut) (fa : M (List Rv)) : M Rv := fun ρ => (dArgs m dds fa ρ).bind fun rs ρ1 => if t = true then fmake cn fn rs ρ1 else noX (fmake cn fn rs ρ1)
theorem Fin.stt {B : Bs} {c : Cst} {ρ : En} {σ : L2.St} {H2 H' : Hp} {O O' : List Addr} {x : Addr} {vs : List V} {io : D} (st : Stt B c ρ σ H2 (x :: O)) (hf : Free ρ σ x) (hF : x ∉ c.F) (f : Fin B (some 0) (.ref x :: vs) H2 (x :: O) io H' O') : Stt B c ρ σ H' O' := by
  have ap : ∀ q, q ≠ x → ∀ j, some 0 = some j → (V.ref x :: vs)[j]? ≠ some (.ref q) := fun q hq j hj e => by
    cases hj
    simp only [List.getElem?_cons_zero, Option.some.injEq, V.ref.injEq] at e
    exact hq e.symm
  refine ⟨st.len, ?_, ?_, st.sep, st.pin, f.liv, ?_⟩
  · intro i d h
    obtain ⟨v, h1, h2⟩ := st.val i d h
    exact ⟨v, h1, h2.mono f.same⟩
  · intro i k d h hk
    obtain ⟨p, o, h1, h2, h3, h4, h5⟩ := st.own i k d h hk
    obtain ⟨u1, u2⟩ := f.frm p h2 (ap p fun z => hf i k d h hk (by rw [h1, z]))
    exact ⟨p, o, h1, u1, h3, by rw [u2]; exact h4, h5.mono f.same⟩
  · intro q hq
    obtain ⟨u1, u2⟩ := st.frm q hq
    obtain ⟨w1, w2⟩ := f.frm q u1 (ap q fun z => hF (by rw [← z]; exact hq))
    exact ⟨w1, by rw [w2]; exact u2⟩
theorem make_sp {B : Bs} {c : Cst} {σ : L2.St} {H1 : Hp} {O1 : List Addr} {ρ1 : En} {rs : List Rv} {vs : List V} {mm : Nat} {cn : Str} {Q : VK} {xx dx : Addr} (hm : rs.length + 1 = mm) (st1 : Stt B c ρ1 σ H1 O1) (hv : RvsOk B σ H1 O1 vs rs) (n1 : H1 xx = none) (n2 : H1 dx = none) (n3 : dx ≠ xx)
    (q : Po B c W σ H1 O1 (fun r ρ' H' O' => ∀ v, RvOk B σ H' O' v r → Q v H') (fmake cn fn rs ρ1)) : spD B (some 0) mm fn (.ref xx :: vs) (upd (upd H1 dx (.own xx)) xx (.ins (B.cls cn) dx [])) (fun v G => v = .non ∧ Q (.ref xx) G) (fun cls d H => W cls d σ H) := by
  have hlen : vs.length = rs.length := Paired.length hv
  unfold fmake at q
  split at q
  · rename_i ds ρ2 he
    obtain ⟨O2, st2, e2, hr⟩ := escs_ok st1 hv he
    have eA : Same H1 (upd H1 dx (.own xx)) := Same.new n2
    have st3 := st2.ext eA
    have n4 : upd H1 dx (.own xx) xx = none := by rw [upd_ne (Ne.symm n3)]; exact n1
    obtain ⟨st4, e4, f4, F4⟩ := st3.newO (o := .ins (B.cls cn) dx []) n4
    have eall : Ext (hide H1 O1) (hide (upd (upd H1 dx (.own xx)) xx (.ins (B.cls cn) dx [])) (xx :: O2)) := (e2.trans (same_hide eA)).trans e4
    have hr4 := (hr.mono (same_hide eA)).mono e4
    refine ⟨by simp [hlen, hm], xx :: O2, .ins cn [] :: ds, st4.liv, ?_, ?_⟩
    · refine ⟨by simp [hr.length], fun i d hi hd => ?_, fun j hj => ?_⟩
      · cases i with
        | zero => exact absurd rfl hi
        | succ i =>
          obtain ⟨v, h1, h2⟩ := hr4.get (i := i) (d := d) (by simpa using hd)
          exact ⟨v, by simpa using h1, h2⟩
      · cases hj
        exact ⟨xx, _, .ins cn [], rfl, List.mem_cons_self, upd_same, rfl, .ins rfl .nil⟩
    · split at q
      · rename_i io hfn
        rw [hfn]
        intro v H' O' f hrv
        refine ⟨hrv.non_inv, ?_⟩
        have s5 := f.stt st4 f4 F4
        obtain ⟨p, o, h1, h2, h3, h4⟩ := f.own 0 rfl
        simp only [List.getElem?_cons_zero, Option.some.injEq, V.ref.injEq] at h1
        subst h1
        obtain ⟨O6, s6, e6, r6⟩ := s5.thaw h3 f4 F4 h4
        exact q H' O6 s6 ((eall.trans f.same).trans e6) _ r6
      · exact q.elim
      · rename_i x fs io hfn
        rw [hfn]
        intro dd H' O' f hx
        exact q dd H' O' (f.stt st4 f4 F4) (eall.trans f.same) hx
      · exact q.elim
  · exact q.elim
theorem de_make {cn : Str} {f : Addr} {fd : FuncData} (hC : X.mg cn = some (.ref ((bs X).cls cn))) (Mk' : Mk X.K ((bs X).cls cn) f) (hb : Binds X.K fd ps dsv) (G : FnG X.prog X.w X.K X.mg X.base k f fd ps (spD (bs X) (some 0) ps.length fn)) (hr : RmG (k + 1) X.A) (hx : ErrOk X W t) (hd : Vals dvs dsv) (hdd : ∀ G, RepL (bs X) G dvs dds) (ha : DA X W (e :: es) fs) (hn : 1 ≤ ps.length := by decide) (hg : Gl X cn := by rfl)
    (hdb : (cn == ("__debug__" : Str)) = false := by decide) (he : starEach (e :: es) X.env = (false, eval e X.env) :: starEach es X.env := by rfl) (hpl : (backTo pos (starEach es X.env)).any (·.1) = false := by rfl) :
    DE X W (.Call (.Name cn p) (e :: es) [] pos) (dMake cn t (ps.length - 1) dds fn fs) := PE.le (pe_makeG Mk' G hr hg hC hb hd (pass_t hx) ha hdb he hpl) fun σ H Q ⟨c, ρ, O, st, q⟩ => by
  unfold dMake at q
  have q := Po.bind q
  unfold dArgs at q
  refine tAs.step st (Po.bind q) fun rs ρ1 vs H1 O1 st1 e1 hvs q1 => ?_
  obtain ⟨hm, hv2, q2⟩ := args_step st1 hvs hdd q1
  intro xx dx n1 n2 n3
  unfold wE
  cases t with
  | true =>
    rw [if_pos rfl] at q2
    rw [if_pos rfl]
    exact make_sp (by omega) st1 hv2 n1 n2 n3 q2
  | false =>
    rw [if_neg (by decide)] at q2
    rw [if_neg (by decide)]
    exact make_sp (W := fun _ _ _ _ => False) (by omega) st1 hv2 n1 n2 n3 (noX_po q2)
end
end Pu
namespace Pu
open PySem PySem.Spec PyProof.Rows L2 My
variable [Tbs] [Nls]
section
variable {X : Cx}
end
def orF {α : Type} (f g : M α) : M α := fun ρ => match f ρ with
  | .bad => g ρ
  | o => o
def addD : D → D → Option D
  | .int i, .int j => some (.int (i + j))
  | .str a, .str b => if a.length + b.length ≤ sizeLine then some (.str (a ++ b)) else none
  | .lst a, .lst b => if a.length + b.length ≤ sizeLine then some (.lst (a ++ b)) else none
  | .tup a, .tup b => if a.length + b.length ≤ sizeLine then some (.tup (a ++ b)) else none
  | .int i, .bl k => some (.int (i + b2i k))
  | _, _ => none
def subD : D → D → Option D
  | .int i, .int j => some (.int (i - j))
  | _, _ => none
def mulD : D → D → Option D
  | .int i, .int j => if (-(2 ^ 64) < i ∧ i < 2 ^ 64) ∨ (-(2 ^ 64) < j ∧ j < 2 ^ 64) then some (.int (i * j)) else none
  | .lst xs, .int k => if -(2 ^ 63) ≤ k ∧ k < 2 ^ 63 ∧ xs.length * k.toNat ≤ sizeLine then some (.lst (List.replicate k.toNat xs).flatten) else none
  | _, _ => none
def fdivD : D → D → Option D
  | .int i, .int j => if 0 < j ∧ j.natAbs.log2 < 9000 then some (.int (i / j)) else none
  | _, _ => none
def modD : D → D → Option D
  | .int i, .int j => if 0 < j then some (.int (i % j)) else none
  | _, _ => none
def powD : D → D → Option D
  | .int i, .int j => if 0 ≤ j ∧ j ≤ 1000000 ∧ i.natAbs < 2 ^ 64 then some (.int (i ^ j.toNat)) else none
  | _, _ => none
def negD : D → Option D
  | .int i => some (.int (-i))
  | _ => none
section
variable {X : Cx} {W : WX} {a b e : Expr} {fa fb : M Rv} {pos : Pos}
theorem some_if {α : Type} {c : Prop} [Decidable c] {x y : α} (h : (if c then some x else none) = some y) : c ∧ x = y := by
  by_cases hc : c
  · rw [if_pos hc] at h; exact ⟨hc, Option.some.inj h⟩
  · rw [if_neg hc] at h; cases h
theorem new_rep {B : Bs} {H : Hp} {O : List Addr} {Q : VK} {d : D} {o : HO} (hl : Liv H O) (hq : ∀ w H', Same H H' → Rep B (hide H' O) w d → Q w H') (hr : ∀ p, RepO B (hide H O) p o d) : ∀ p, H p = none → Q (.ref p) (upd H p o) := fun p hp =>
  hq _ _ (Same.new hp) (((hr p).mono (same_hide (Same.new hp))).rep (hide_new hl hp))
theorem new_repL {B : Bs} {H : Hp} {O : List Addr} {Q : VK} {ds : List D} {xs : List V} (hl : Liv H O) (hq : ∀ w H', Same H H' → Rep B (hide H' O) w (.lst ds) → Q w H') (hr : RepL B (hide H O) xs ds) : ∀ p, H p = none → Q (.ref p) (upd H p (.lst xs)) := new_rep hl hq fun _ => .lst hr
theorem new_tup {B : Bs} {H : Hp} {O : List Addr} {Q : VK} {ds : List D} {vs : List V} (hl : Liv H O) (hq : ∀ w H', Same H H' → Rep B (hide H' O) w (.tup ds) → Q w H') (hr : RepL B (hide H O) vs ds) : ∀ p, H p = none → Q (.ref p) (upd H p (.tup vs)) := fun p hp =>
  hq _ _ (Same.new hp) (.tup (.inl (.inl (hide_new hl hp))) (hr.mono (same_hide (Same.new hp))))
theorem opR_add : OpR X (binaryOp .Add) (fun x y H Q => (((rI0 (fun i j => .int (i + j)) x y H Q ∨ (∃ i j, x = .str i ∧ y = .str j ∧ i.length + j.length ≤ sizeLine ∧ Q (.str (i ++ j)) H)) ∨ rCat x y H Q) ∨ rCatA X.K x y H Q) ∨ (∃ i k, x = .int i ∧ y = .bl k ∧ Q (.int (i + b2i k)) H)) := ((((op_add.or op_add_str).or op_cat).or op_catA).or op_add_ib)
theorem opD_add {K : PySem.W.Frag} {w : World} {mg : Str → Option Value} : OpD ⟨K, w, mg⟩ (fun x y H Q => (((rI0 (fun i j => .int (i + j)) x y H Q ∨ (∃ i j, x = .str i ∧ y = .str j ∧ i.length + j.length ≤ sizeLine ∧ Q (.str (i ++ j)) H)) ∨ rCat x y H Q) ∨ rCatA K x y H Q) ∨ (∃ i k, x = .int i ∧ y = .bl k ∧ Q (.int (i + b2i k)) H)) addD := by
  intro v u H O x y d Q hl hx hy hg hq
  unfold addD at hg
  split at hg
  · cases hg
    exact .inl (.inl (.inl (.inl ⟨_, _, hx.int, hy.int, hq _ H (.refl _) (.int _)⟩)))
  · obtain ⟨h1, rfl⟩ := some_if hg
    exact .inl (.inl (.inl (.inr ⟨_, _, hx.str, hy.str, h1, hq _ H (.refl _) (.str _)⟩)))
  · obtain ⟨h1, rfl⟩ := some_if hg
    obtain ⟨a1, xs, rfl, e1, r1⟩ := hx.lst
    obtain ⟨a2, ys, rfl, e2, r2⟩ := hy.lst
    exact .inl (.inl (.inr ⟨_, _, _, _, rfl, rfl, e1, e2, by rw [r1.length, r2.length]; exact h1, new_repL hl hq ((r1.append r2))⟩))
  · obtain ⟨h1, rfl⟩ := some_if hg
    have hx' := hx
    obtain ⟨a1, xs, rfl, e1, r1⟩ := hx.tup
    obtain ⟨a2, ys, rfl, e2, r2⟩ := hy.tup
    refine .inl (.inr ⟨_, _, _, _, rfl, rfl, e1, e2, by rw [r1.length, r2.length]; exact h1, fun z => ?_, fun _ z => ?_, fun _ _ => new_tup hl hq (r1.append r2)⟩)
    · subst z
      cases r1
      rcases hy with hy | ⟨p, o, z, _, q⟩
      · exact hq _ H (.refl _) (by rw [List.nil_append]; exact hy)
      · cases q
    · subst z
      cases r2
      rcases hx' with hx | ⟨p, o, z, _, q⟩
      · exact hq _ H (.refl _) (by rw [List.append_nil]; exact hx)
      · cases q
  · cases hg
    exact .inr ⟨_, _, hx.int, hy.bl, hq _ H (.refl _) (.int _)⟩
  · cases hg
theorem de_add (ha : DE X W a fa) (hb : DE X W b fb) : DE X W (.BinOp a .Add b pos) (d2 addD fa fb) := de_2 (pe_op opR_add ha hb) opD_add
theorem de_sub (ha : DE X W a fa) (hb : DE X W b fb) : DE X W (.BinOp a .Sub b pos) (d2 subD fa fb) := de_2 (pe_op op_sub ha hb) (by
  intro v u H O x y d Q hl hx hy hg hq
  unfold subD at hg
  split at hg
  · cases hg
    exact ⟨_, _, hx.int, hy.int, hq _ H (.refl _) (.int _)⟩
  · cases hg)
theorem de_mul (ha : DE X W a fa) (hb : DE X W b fb) : DE X W (.BinOp a .Mult b pos) (d2 mulD fa fb) := de_2 (pe_op (op_mul.or op_rep) ha hb) (by
  intro v u H O x y d Q hl hx hy hg hq
  unfold mulD at hg
  split at hg
  · obtain ⟨h1, rfl⟩ := some_if hg
    exact .inl ⟨_, _, hx.int, hy.int, h1, hq _ H (.refl _) (.int _)⟩
  · obtain ⟨⟨h1, h2, h3⟩, rfl⟩ := some_if hg
    obtain ⟨a1, xs, rfl, e1, r1⟩ := hx.lst
    refine .inr ⟨_, _, _, rfl, hy.int, e1, h1, h2, by rw [r1.length]; exact h3, new_repL hl hq (?_)⟩
    rename_i k
    generalize k.toNat = n
    induction n with
    | zero => exact .nil
    | succ n ih =>
      rw [List.replicate_succ, List.replicate_succ, List.flatten_cons, List.flatten_cons]
      exact r1.append ih
  · cases hg)
theorem de_fdiv (ha : DE X W a fa) (hb : DE X W b fb) : DE X W (.BinOp a .FloorDiv b pos) (d2 fdivD fa fb) := de_2 (pe_op op_fdivW ha hb) (by
  intro v u H O x y d Q hl hx hy hg hq
  unfold fdivD at hg
  split at hg
  · obtain ⟨h1, rfl⟩ := some_if hg
    exact ⟨_, _, hx.int, hy.int, h1, hq _ H (.refl _) (.int _)⟩
  · cases hg)
theorem de_mod (ha : DE X W a fa) (hb : DE X W b fb) : DE X W (.BinOp a .Mod b pos) (d2 modD fa fb) := de_2 (pe_op op_mod ha hb) (by
  intro v u H O x y d Q hl hx hy hg hq
  unfold modD at hg
  split at hg
  · obtain ⟨h1, rfl⟩ := some_if hg
    exact ⟨_, _, hx.int, hy.int, h1, hq _ H (.refl _) (.int _)⟩
  · cases hg)
theorem de_pow (ha : DE X W a fa) (hb : DE X W b fb) : DE X W (.BinOp a .Pow b pos) (d2 powD fa fb) := de_2 (pe_op op_pow ha hb) (by
  intro v u H O x y d Q hl hx hy hg hq
  unfold powD at hg
  split at hg
  · obtain ⟨h1, rfl⟩ := some_if hg
    exact ⟨_, _, hx.int, hy.int, h1, hq _ H (.refl _) (.int _)⟩
  · cases hg)
theorem de_neg (ha : DE X W a fa) : DE X W (.UnaryOp .USub a pos) (d1 negD fa) := de_1 (pe_un un_neg ha) (by
  intro v H O x d Q hl hx hg hq
  unfold negD at hg
  split at hg
  · cases hg
    exact ⟨_, hx.int, hq _ H (.refl _) (.int _)⟩
  · cases hg)
def ltI (p : Int → Int → Bool) : D → D → Option D
  | .int i, .int j => some (.bl (p i j))
  | _, _ => none
abbrev ltD := ltI fun i j => decide (i < j)
abbrev leD := ltI fun i j => decide (i ≤ j)
abbrev gtD := ltI fun i j => decide (j < i)
abbrev geD := ltI fun i j => decide (j ≤ i)
theorem opD_I {B : Bs} {p : Int → Int → Bool} : OpD B (rI0 fun i j => .bl (p i j)) (ltI p) := by
  intro v u H O x y d Q hl hx hy hg hq
  unfold ltI at hg
  split at hg
  · cases hg
    exact ⟨_, _, hx.int, hy.int, hq _ H (.refl _) (.bl _)⟩
  · cases hg
theorem dt_lt (ha : DE X W a fa) (hb : DE X W b fb) : DT X W (.Compare a [.Lt] [b] pos) (dT2 ltD fa fb) := dt_2 (pt_cmpR op_lt ha hb (nomark _)) opD_I
theorem dt_le (ha : DE X W a fa) (hb : DE X W b fb) : DT X W (.Compare a [.LtE] [b] pos) (dT2 leD fa fb) := dt_2 (pt_cmpR op_le ha hb (nomark _)) opD_I
theorem dt_gt (ha : DE X W a fa) (hb : DE X W b fb) : DT X W (.Compare a [.Gt] [b] pos) (dT2 gtD fa fb) := dt_2 (pt_cmpR op_gt ha hb (nomark _)) opD_I
theorem dt_ge (ha : DE X W a fa) (hb : DE X W b fb) : DT X W (.Compare a [.GtE] [b] pos) (dT2 geD fa fb) := dt_2 (pt_cmpR op_ge ha hb (nomark _)) opD_I
def isN (neg : Bool) : D → D → Option D
  | .non, .non => some (.bl !neg)
  | .ty _, .non => none
  | _, .non => some (.bl neg)
  | _, _ => none
theorem Vw.none_iff {B : Bs} {H : Hp} {O : List Addr} {v : V} {d : D} (h : Vw B H O v d) (hn : d ≠ .non) : v ≠ .non := by
  intro e
  subst e
  have := h.full
  cases this
  exact hn rfl
theorem opD_is {B : Bs} : OpD B (fun x y H Q => y = .non ∧ Q (.bl (decide (x = .non))) H) (isN false) := by
  intro v u H O x y d Q hl hx hy hg hq
  unfold isN at hg
  split at hg
  · cases hg
    refine ⟨hy.non, ?_⟩
    rw [hx.non]
    exact hq _ H (.refl _) (.bl true)
  · cases hg
  · cases hg
    refine ⟨hy.non, ?_⟩
    rw [decide_eq_false (hx.none_iff (by assumption))]
    exact hq _ H (.refl _) (.bl false)
  · cases hg
theorem opD_isnt {B : Bs} : OpD B (fun x y H Q => y = .non ∧ Q (.bl (!decide (x = .non))) H) (isN true) := by
  intro v u H O x y d Q hl hx hy hg hq
  unfold isN at hg
  split at hg
  · cases hg
    refine ⟨hy.non, ?_⟩
    rw [hx.non]
    exact hq _ H (.refl _) (.bl false)
  · cases hg
  · cases hg
    refine ⟨hy.non, ?_⟩
    rw [decide_eq_false (hx.none_iff (by assumption))]
    exact hq _ H (.refl _) (.bl true)
  · cases hg
theorem dt_is (ha : DE X W a fa) (hb : DE X W b fb) : DT X W (.Compare a [.Is] [b] pos) (dT2 (isN false) fa fb) := dt_2 (pt_cmpR op_isN ha hb (nomark _)) opD_is
theorem dt_isnt (ha : DE X W a fa) (hb : DE X W b fb) : DT X W (.Compare a [.IsNot] [b] pos) (dT2 (isN true) fa fb) := dt_2 (pt_cmpR op_notN ha hb (nomark _)) opD_isnt
mutual
def toP : D → Option PyData
  | .non => some .none
  | .bl b => some (.bool b)
  | .int i => some (.int i)
  | .str s => some (.str s)
  | .tup xs => (toPs xs).map .tuple
  | .lst xs => (toPs xs).map .list
  | _ => none
def toPs : List D → Option (List PyData)
  | [] => some []
  | x :: xs => match toP x, toPs xs with
    | some p, some ps => some (p :: ps)
    | _, _ => none
end
mutual
theorem rep_dp {B : Bs} {H : Hp} : ∀ (d : D) (v : V) (p : PyData), Rep B H v d → toP d = some p → Dp B.K H v p
  | .non, v, p, h, e => by cases h; simp only [toP] at e; cases e; exact .non
  | .bl b, v, p, h, e => by cases h; simp only [toP] at e; cases e; exact .bl b
  | .int b, v, p, h, e => by cases h; simp only [toP] at e; cases e; exact .int b
  | .str b, v, p, h, e => by cases h; simp only [toP] at e; cases e; exact .str b
  | .tup xs, v, p, h, e => by
    cases h with
    | tup s r =>
    simp only [toP] at e
    cases hp : toPs xs with
    | none => rw [hp] at e; cases e
    | some ps =>
      rw [hp] at e
      cases e
      exact .tup s (repl_dp xs _ ps r hp)
  | .lst xs, v, p, h, e => by
    cases h with
    | lst s r =>
    simp only [toP] at e
    cases hp : toPs xs with
    | none => rw [hp] at e; cases e
    | some ps =>
      rw [hp] at e
      cases e
      exact .lst (.inl (.inl s)) (repl_dp xs _ ps r hp)
  | .dK _, v, p, h, e => by simp only [toP] at e; cases e
  | .dT _, v, p, h, e => by simp only [toP] at e; cases e
  | .kd _, v, p, h, e => by simp only [toP] at e; cases e
  | .ins _ _, v, p, h, e => by simp only [toP] at e; cases e
  | .scr _, v, p, h, e => by simp only [toP] at e; cases e
  | .ty _, v, p, h, e => by simp only [toP] at e; cases e
  | .cl _, v, p, h, e => by simp only [toP] at e; cases e
theorem repl_dp {B : Bs} {H : Hp} : ∀ (ds : List D) (vs : List V) (ps : List PyData), RepL B H vs ds → toPs ds = some ps → DpAll B.K H vs ps
  | [], vs, ps, h, e => by cases h; simp only [toPs] at e; cases e; exact .nil
  | d :: ds, vs, ps, h, e => by
    cases h with
    | cons h t =>
    simp only [toPs] at e
    cases h1 : toP d with
    | none => rw [h1] at e; cases e
    | some p =>
      cases h2 : toPs ds with
      | none => rw [h1, h2] at e; cases e
      | some qs =>
        rw [h1, h2] at e
        cases e
        exact .cons (rep_dp d _ p h h1) (repl_dp ds _ qs t h2)
end
def scalD : D → D → Bool
  | .non, .non => true | .non, .int _ => true | .int _, .non => true | .non, .bl _ => true | .bl _, .non => true | .non, .str _ => true | .str _, .non => true
  | .int _, .int _ => true | .bl _, .bl _ => true | .str _, .str _ => true | .int _, .str _ => true | .str _, .int _ => true | .bl _, .str _ => true | .str _, .bl _ => true
  | _, _ => false
def sameS : D → D → Bool
  | .non, .non => true
  | .int i, .int j => decide (i = j)
  | .bl i, .bl j => decide (i = j)
  | .str i, .str j => decide (i = j)
  | _, _ => false
def eqB (x y : D) : Option Bool := if scalD x y = true then some (sameS x y) else match toP x, toP y with
  | some p, some q => if SeqAt.shaped p = true ∧ SeqAt.shaped q = true then some (PyData.eqv p q) else none
  | _, _ => none
def eqD (x y : D) : Option D := (eqB x y).map .bl
def neD (x y : D) : Option D := (eqB x y).map fun b => .bl !b
theorem eqB_cases {x y : D} {b : Bool} (h : eqB x y = some b) : (scalD x y = true ∧ b = sameS x y) ∨ ∃ p q, toP x = some p ∧ toP y = some q ∧ SeqAt.shaped p = true ∧ SeqAt.shaped q = true ∧ b = PyData.eqv p q := by
  unfold eqB at h
  split at h
  · cases h
    exact .inl ⟨by assumption, rfl⟩
  · split at h
    · rename_i p q h1 h2
      obtain ⟨⟨h3, h4⟩, rfl⟩ := some_if h
      exact .inr ⟨p, q, h1, h2, h3, h4, rfl⟩
    · cases h
theorem scal_ok {B : Bs} {H : Hp} {O : List Addr} {v u : V} {x y : D} (hx : Vw B H O v x) (hy : Vw B H O u y) (h : scalD x y = true) : scal v u = true ∧ decide (v = u) = sameS x y := by
  have h1 := hx.full
  have h2 := hy.full
  cases x <;> cases y <;> simp only [scalD] at h <;> first | (cases h; done) | (cases h1; cases h2; refine ⟨rfl, ?_⟩; first | rfl | (simp [sameS]; done) | (exact decide_eq_false (by intro z; cases z)))
theorem opD_eq {B : Bs} : OpD B (fun x y H Q => rEq x y H Q ∨ rEqD B.K x y H Q) eqD := by
  intro v u H O x y d Q hl hx hy hg hq
  unfold eqD at hg
  cases he : eqB x y with
  | none => rw [he] at hg; cases hg
  | some b =>
    rw [he] at hg
    cases hg
    rcases eqB_cases he with ⟨h1, rfl⟩ | ⟨p, q, h1, h2, h3, h4, rfl⟩
    · obtain ⟨h2, h3⟩ := scal_ok hx hy h1
      refine .inl ⟨h2, ?_⟩
      rw [h3]
      exact hq _ H (.refl _) (.bl _)
    · exact .inr ⟨p, q, rep_dp x _ p hx.full h1, rep_dp y _ q hy.full h2, h3, h4, hq _ H (.refl _) (.bl _)⟩
theorem opD_ne {B : Bs} : OpD B (fun x y H Q => rNe x y H Q ∨ rNeD B.K x y H Q) neD := by
  intro v u H O x y d Q hl hx hy hg hq
  unfold neD at hg
  cases he : eqB x y with
  | none => rw [he] at hg; cases hg
  | some b =>
    rw [he] at hg
    cases hg
    rcases eqB_cases he with ⟨h1, rfl⟩ | ⟨p, q, h1, h2, h3, h4, rfl⟩
    · obtain ⟨h2, h3⟩ := scal_ok hx hy h1
      refine .inl ⟨h2, ?_⟩
      rw [h3]
      exact hq _ H (.refl _) (.bl _)
    · exact .inr ⟨p, q, rep_dp x _ p hx.full h1, rep_dp y _ q hy.full h2, h3, h4, hq _ H (.refl _) (.bl _)⟩
theorem RmG.u64 {k : Nat} {A : Around} (r : RmG k A) : A.units + 64 < cLine := by have := r.rm.un; omega
theorem RmG.u65 {k : Nat} {A : Around} (r : RmG k A) : A.units + 65 < cLine := by have := r.rm.un; omega
theorem RmG.u1 {k : Nat} {A : Around} (r : RmG k A) : A.units + 1 < cLine := by have := r.rm.un; omega
theorem de_eq {k : Nat} (hr : RmG k X.A) (ha : DE X W a fa) (hb : DE X W b fb) : DE X W (.Compare a [.Eq] [b] pos) (d2 eqD fa fb) := de_2 (pe_cmpR (op_eq.or (op_eqD hr.u64)) ha hb (nomark _)) opD_eq
theorem dt_eq {k : Nat} (hr : RmG k X.A) (ha : DE X W a fa) (hb : DE X W b fb) : DT X W (.Compare a [.Eq] [b] pos) (dT2 eqD fa fb) := dt_2 (pt_cmpR (op_eq.or (op_eqD hr.u64)) ha hb (nomark _)) opD_eq
theorem dt_ne {k : Nat} (hr : RmG k X.A) (ha : DE X W a fa) (hb : DE X W b fb) : DT X W (.Compare a [.NotEq] [b] pos) (dT2 neD fa fb) := dt_2 (pt_cmpR (op_ne.or (op_neD hr.u64)) ha hb (nomark _)) opD_ne
end
end Pu
namespace Pu
open PySem PySem.Spec PyProof.Rows L2 My
variable [Tbs] [Nls]
def keyD : D → Option Key
  | .int i => some (.inl i)
  | .str s => some (.inr s)
  | _ => none
def keysD : List D → Option (List Key)
  | [] => some []
  | d :: ds => match keyD d, keysD ds with
    | some k, some ks => some (k :: ks)
    | _, _ => none
def valD {κ : Type} [DecidableEq κ] (kvs : List (κ × D)) (k : κ) : Option D := match kvs with
  | [] => none
  | (k', d) :: r => if k' = k then some d else valD r k
def putD {κ : Type} [DecidableEq κ] (kvs : List (κ × D)) (k : κ) (d : D) : List (κ × D) :=
  if (kvs.any fun kv => decide (kv.1 = k)) = true then kvs.map (fun kv => if kv.1 = k then (kv.1, d) else kv) else kvs ++ [(k, d)]
section
variable {B : Bs} {G H : Hp} {O : List Addr}
theorem keyD_ok {v : V} {d : D} {k : Key} (h : Rep B G v d) (e : keyD d = some k) : v = kV k := by
  cases d <;> simp only [keyD] at e <;> first | (cases e; done) | (cases e; cases h; rfl)
theorem valD_ok {κ : Type} [DecidableEq κ] : ∀ {kvs : List (κ × V)} {ds : List (κ × D)} {k : κ} {d : D}, kvs.map (·.1) = ds.map (·.1) → RepL B G (kvs.map (·.2)) (ds.map (·.2)) → valD ds k = some d → ∃ v, valV kvs k = some v ∧ Rep B G v d
  | [], [], k, d, _, _, e => by simp [valD] at e
  | [], _ :: _, k, d, h, _, _ => by simp at h
  | _ :: _, [], k, d, h, _, _ => by simp at h
  | (k1, v1) :: kvs, (k2, d2) :: ds, k, d, h, r, e => by
    simp only [List.map_cons, List.cons.injEq] at h
    obtain ⟨rfl, h⟩ := h
    cases r with
    | cons r1 r2 =>
    simp only [valD] at e
    by_cases hk : k1 = k
    · rw [if_pos hk] at e
      cases e
      exact ⟨v1, valV_pos hk, r1⟩
    · rw [if_neg hk] at e
      obtain ⟨v, h1, h2⟩ := valD_ok h r2 e
      exact ⟨v, by simpa [valV, List.find?_cons, hk] using h1, h2⟩
theorem valD_none {κ : Type} [DecidableEq κ] : ∀ {kvs : List (κ × V)} {ds : List (κ × D)} {k : κ}, kvs.map (·.1) = ds.map (·.1) → valD ds k = none → valV kvs k = none
  | [], [], k, _, _ => rfl
  | [], _ :: _, k, h, _ => by simp at h
  | _ :: _, [], k, h, _ => by simp at h
  | (k1, v1) :: kvs, (k2, d2) :: ds, k, h, e => by
    simp only [List.map_cons, List.cons.injEq] at h
    obtain ⟨rfl, h⟩ := h
    simp only [valD] at e
    by_cases hk : k1 = k
    · rw [if_pos hk] at e; cases e
    · rw [if_neg hk] at e
      have := valD_none h e
      simpa [valV, List.find?_cons, hk] using this
theorem repl_mid {κ : Type} [DecidableEq κ] (k : κ) (v : V) (d : D) (r : Rep B G v d) : ∀ {kvs : List (κ × V)} {ds : List (κ × D)}, kvs.map (·.1) = ds.map (·.1) → RepL B G (kvs.map (·.2)) (ds.map (·.2)) →
    (kvs.map (fun kv => if kv.1 = k then (kv.1, v) else kv)).map (·.1) = (ds.map (fun kv => if kv.1 = k then (kv.1, d) else kv)).map (·.1) ∧ RepL B G ((kvs.map (fun kv => if kv.1 = k then (kv.1, v) else kv)).map (·.2)) ((ds.map (fun kv => if kv.1 = k then (kv.1, d) else kv)).map (·.2))
  | [], [], _, _ => ⟨rfl, .nil⟩
  | [], _ :: _, h, _ => by simp at h
  | _ :: _, [], h, _ => by simp at h
  | (k1, v1) :: kvs, (k2, d2) :: ds, h, hr => by
    simp only [List.map_cons, List.cons.injEq] at h
    obtain ⟨rfl, h⟩ := h
    cases hr with
    | cons r1 r2 =>
    obtain ⟨i1, i2⟩ := repl_mid k v d r h r2
    by_cases hk : k1 = k
    · simp only [List.map_cons, if_pos hk]
      exact ⟨by rw [i1], .cons r i2⟩
    · simp only [List.map_cons, if_neg hk]
      exact ⟨by rw [i1], .cons r1 i2⟩
theorem any_keys {κ : Type} [DecidableEq κ] {kvs : List (κ × V)} {ds : List (κ × D)} (k : κ) (h : kvs.map (·.1) = ds.map (·.1)) : (kvs.any fun kv => decide (kv.1 = k)) = (ds.any fun kv => decide (kv.1 = k)) := by
  have e1 : (kvs.any fun kv => decide (kv.1 = k)) = (kvs.map (·.1)).any fun z => decide (z = k) := by rw [List.any_map]; rfl
  have e2 : (ds.any fun kv => decide (kv.1 = k)) = (ds.map (·.1)).any fun z => decide (z = k) := by rw [List.any_map]; rfl
  rw [e1, e2, h]
theorem putK_map {κ : Type} [DecidableEq κ] (k : κ) (v : V) (d : D) (r : Rep B G v d) {kvs : List (κ × V)} {ds : List (κ × D)} (h : kvs.map (·.1) = ds.map (·.1)) (hr : RepL B G (kvs.map (·.2)) (ds.map (·.2))) :
    (putK kvs k v).map (·.1) = (putD ds k d).map (·.1) ∧ RepL B G ((putK kvs k v).map (·.2)) ((putD ds k d).map (·.2)) := by
  unfold putK putD
  rw [any_keys k h]
  split
  · exact repl_mid k v d r h hr
  · refine ⟨by simp [h], ?_⟩
    rw [List.map_append, List.map_append]
    exact hr.append (.cons r .nil)
theorem atI_ok {vs : List V} {ds : List D} {i : Int} {d : D} (r : RepL B G vs ds) (e : atI ds i = some d) : ∃ v, atI vs i = some v ∧ Rep B G v d := by
  unfold atI at e ⊢
  rw [r.length]
  cases h : ixN ds.length i with
  | none => rw [h] at e; cases e
  | some j =>
    rw [h] at e
    exact r.get e
end
def ixD : D → D → Option D
  | .lst xs, .int i => atI xs i
  | .tup xs, .int i => atI xs i
  | .str z, .int i => if z.length ≤ sizeLine then (atI z.cps.toList i).map fun c => .str ⟨#[c]⟩ else none
  | .dK kvs, k => match keyD k with
    | some k => valD kvs k
    | none => none
  | .kd kvs, k => match keyD k with
    | some k => valD kvs k
    | none => none
  | _, _ => none
section
variable {X : Cx} {W : WX} {a b e : Expr} {es : List Expr} {fa fb : M Rv} {fs : M (List Rv)} {pos p : Pos} {k : Nat}
theorem ix_dk (hu : X.A.units + 1 < cLine) : IxR X (fun x y H Q => ∃ a v, x = .ref a ∧ DGet H a y (some v) ∧ Q v H) := by
  intro value slice pins s σ H x y v u Q I rx ry h hs
  obtain ⟨a, r, rfl, g, q⟩ := h
  obtain rfl : v = Value.ref a := rx
  exact tail_any (dict_typeIs I g) PySem.F.slot_dict_getitem.lookup (d_getItem hu I g ry fun w' s3 I3 rw' => ⟨r, H, I3, rw', q⟩) hs
theorem de_ix (hr : RmG k X.A) (ha : DE X W a fa) (hb : DE X W b fb) (hs : PlainIx b := by exact fun _ _ => rfl) : DE X W (.Subscript a b pos) (d2 ixD fa fb) := de_2 (pe_ix ((((ix_list.or ix_tup).or ix_str).or ix_kd).or (ix_dk hr.u1)) ha hb hs) (by
  intro v u H O x y d Q hl hx hy hg hq
  unfold ixD at hg
  split at hg
  · obtain ⟨a1, xs, rfl, e1, r1⟩ := hx.lst
    obtain ⟨v, h1, h2⟩ := atI_ok r1 hg
    exact .inl (.inl (.inl (.inl ⟨_, _, _, _, rfl, hy.int, .inl (.inl e1), h1, hq _ H (.refl _) h2⟩)))
  · obtain ⟨a1, xs, rfl, e1, r1⟩ := hx.tup
    obtain ⟨v, h1, h2⟩ := atI_ok r1 hg
    exact .inl (.inl (.inl (.inr ⟨_, _, _, _, rfl, hy.int, e1, h1, hq _ H (.refl _) h2⟩)))
  · rename_i z i
    by_cases hz : z.length ≤ sizeLine
    · rw [if_pos hz] at hg
      cases hc : atI z.cps.toList i with
      | none => rw [hc] at hg; cases hg
      | some c =>
        rw [hc] at hg
        cases hg
        exact .inl (.inl (.inr ⟨_, _, _, hx.str, hy.int, hz, hc, hq _ H (.refl _) (.str _)⟩))
    · rw [if_neg hz] at hg; cases hg
  · obtain ⟨a1, kvs, rfl, e1, k1, r1⟩ := hx.dK
    split at hg
    · rename_i k hk
      obtain ⟨v, h1, h2⟩ := valD_ok k1 r1 hg
      refine .inr ⟨_, _, rfl, .inl ⟨kvs, k, e1, keyD_ok hy.full hk, h1.symm⟩, hq _ H (.refl _) h2⟩
    · cases hg
  · obtain ⟨a1, kvs, rfl, e1, k1, r1⟩ := hx.kd
    split at hg
    · rename_i k hk
      obtain ⟨v, h1, h2⟩ := valD_ok k1 r1 hg
      exact .inl (.inr ⟨_, _, k, _, rfl, e1, keyD_ok hy.full hk, h1, hq _ H (.refl _) h2⟩)
    · cases hg
  · cases hg)
def fldD (f : Str) : D → Option D
  | .ins _ fs => fs.lookup f
  | _ => none
theorem lookup_ok {B : Bs} {G : Hp} : ∀ {fs : List (Str × V)} {ds : List (Str × D)} {f : Str} {d : D}, fs.map (·.1) = ds.map (·.1) → RepL B G (fs.map (·.2)) (ds.map (·.2)) → ds.lookup f = some d → ∃ v, fs.lookup f = some v ∧ Rep B G v d
  | [], [], f, d, _, _, e => by simp at e
  | [], _ :: _, f, d, h, _, _ => by simp at h
  | _ :: _, [], f, d, h, _, _ => by simp at h
  | (k1, v1) :: kvs, (k2, d2) :: ds, f, d, h, r, e => by
    simp only [List.map_cons, List.cons.injEq] at h
    obtain ⟨rfl, h⟩ := h
    cases r with
    | cons r1 r2 =>
    rw [List.lookup_cons] at e ⊢
    cases hf : f == k1 with
    | true => rw [hf] at e; simp only at e ⊢; cases e; exact ⟨v1, rfl, r1⟩
    | false => rw [hf] at e; simp only at e ⊢; exact lookup_ok h r2 e
def FldOk (K : PySem.W.Frag) (mg : Str → Option Value) (cs : List Str) (f : Str) : Prop := ∀ c ∈ cs, Cls K (My.fa mg c) ∧ NoAttr K (My.fa mg c) f
def fldC (cs : List Str) (f : Str) : D → Option D
  | .ins c fs => if c ∈ cs then fs.lookup f else none
  | _ => none
theorem de_fld {f : Str} {cs : List Str} (hf : FldOk X.K X.mg cs f) (ha : DE X W a fa) (hb : attributeBase a f X.env (eval a X.env) = eval a X.env := by rfl) : DE X W (.Attribute a f pos) (d1 (fldC cs f) fa) := PE.le (pe_fld ha hb) fun σ H Q ⟨c, ρ, O, st, q⟩ => by
  unfold d1 at q
  refine tP.step st (Po.bind q) fun r1 ρ1 v H1 O1 st1 e1 hv q1 => ?_
  split at q1
  · rename_i x hx
    have hw := st1.vw hv hx
    cases x <;> simp only [fldC, out] at q1 <;> try (exact q1.elim)
    rename_i cn fs
    by_cases hc : cn ∈ cs
    · rw [if_pos hc] at q1
      obtain ⟨a1, dx, gs, rfl, hH, hk, hr⟩ := hw.ins
      cases hl : fs.lookup f with
      | none => rw [hl] at q1; exact q1.elim
      | some d =>
        rw [hl] at q1
        obtain ⟨v, h1, h2⟩ := lookup_ok hk hr hl
        exact ⟨a1, _, dx, gs, v, rfl, hH, (hf cn hc).1, (hf cn hc).2, h1, q1 H1 O1 st1 (.refl _) v h2⟩
    · rw [if_neg hc] at q1
      exact q1.elim
  · exact q1.elim
def putFD (f : Str) (d : D) : List (Str × D) → List (Str × D)
  | [] => [(f, d)]
  | (g, x) :: r => if g = f then (g, d) :: r else (g, x) :: putFD f d r
theorem putF_ok {B : Bs} {G : Hp} {f : Str} {v : V} {d : D} (r : Rep B G v d) : ∀ {fs : List (Str × V)} {ds : List (Str × D)}, fs.map (·.1) = ds.map (·.1) → RepL B G (fs.map (·.2)) (ds.map (·.2)) → (putF f v fs).map (·.1) = (putFD f d ds).map (·.1) ∧ RepL B G ((putF f v fs).map (·.2)) ((putFD f d ds).map (·.2))
  | [], [], _, _ => ⟨rfl, .cons r .nil⟩
  | [], _ :: _, h, _ => by simp at h
  | _ :: _, [], h, _ => by simp at h
  | (k1, v1) :: kvs, (k2, d2) :: ds, h, hr => by
    simp only [List.map_cons, List.cons.injEq] at h
    obtain ⟨rfl, h⟩ := h
    cases hr with
    | cons r1 r2 =>
    simp only [putF, putFD]
    by_cases hk : k1 = f
    · rw [if_pos hk, if_pos hk]
      exact ⟨by simp [h], .cons r r2⟩
    · rw [if_neg hk, if_neg hk]
      obtain ⟨h1, h2⟩ := putF_ok r h r2
      exact ⟨by simp [h1], .cons r1 h2⟩
def dFld (cn f : Str) (i : Nat) (fv : M Rv) : SM := fun ρ => (fv ρ).then fun r ρ1 => match esc ρ1 r with
  | some (d, ρ2) => match ρ2[i]? with
    | some (some (k, .ins c fs)) => if k ≠ .val ∧ c = cn ∧ fs.length < 1000 then .nx (ρ2.set i (some (k, .ins c (putFD f d fs)))) else .bad
    | _ => .bad
  | none => .bad
theorem ds_fld {cn f : Str} {i : Nat} {x : Str} {fv : M Rv} {pos' : Pos} {ps : Pos} {value : Expr} (hf : FldOk X.K X.mg [cn] f) (hx : PE X (.Name x ps) (tVar i)) (hv : DE X W value fv) (hs : swapsWith value (some (.Attribute (.Name x ps) f pos')) pos.line X.env = pure false := by rfl) : DS X W (.Assign [.Attribute (.Name x ps) f pos'] value pos) (dFld cn f i fv) := PS.le (ps_fld hx hv hs) fun E σ H ⟨c, ρ, O, st, q⟩ => by
  unfold dFld at q
  refine tP.step st (SPo.then q) fun r ρ1 v H1 O1 st1 e1 hvv q1 => ?_
  split at q1
  · rename_i d ρ2 he
    obtain ⟨O2, st2, e2, hr⟩ := st1.esc hvv he
    split at q1
    · rename_i k c' fs' hi
      split at q1
      · rename_i hc
        obtain ⟨hk, rfl, hlen⟩ := hc
        obtain ⟨p0, o0, z1, z2, z3, z4, z5⟩ := st2.own i k _ hi hk
        cases z5 with
        | ins kk rr =>
          rename_i dx gs
          refine ⟨_, z1, p0, _, dx, gs, rfl, z4, (hf c' (by simp)).1, (hf c' (by simp)).2, ?_, ?_⟩
          · have := congrArg List.length kk
            simp only [List.length_map] at this
            omega
          · obtain ⟨h1, h2⟩ := putF_ok (f := f) hr kk rr
            have s3 := st2.mut (o := .ins ((bs X).cls c') dx (putF f v gs)) hi hk z1 (.ins h1 h2)
            refine q1 σ _ O2 s3 ?_
            rw [hide_upd z2]
            exact e2
      · exact q1.elim
    · exact q1.elim
  · exact q1.elim
end
def one1 (g : D → Option D) : List D → Option D
  | [d] => g d
  | _ => none
def lenD : D → Option D
  | .lst xs => some (.int xs.length)
  | .tup xs => some (.int xs.length)
  | .str z => if z.length ≤ sizeLine then some (.int z.length) else none
  | .scr xs => some (.int xs.length)
  | .dK xs => some (.int xs.length)
  | _ => none
def intD : D → Option D
  | .int i => some (.int i)
  | .bl k => some (.int (if k then 1 else 0))
  | _ => none
def absD : D → Option D
  | .int i => some (.int (if i < 0 then -i else i))
  | _ => none
def listD : D → Option D
  | .lst xs => some (.lst xs)
  | .tup xs => some (.lst xs)
  | _ => none
def tupleD : D → Option D
  | .lst xs => some (.tup xs)
  | .tup xs => some (.tup xs)
  | _ => none
section
variable {X : Cx} {W : WX} {e : Expr} {es : List Expr} {fs : M (List Rv)} {pos p : Pos} {k : Nat}
theorem callD_1 {B : Bs} {r : List V → Hp → VK → Prop} {g : D → Option D} (h : ∀ v H O x d Q, Liv H O → Vw B H O v x → g x = some d → (∀ w H', Same H H' → Rep B (hide H' O) w d → Q w H') → r [v] H Q) : CallD B r (one1 g) := fun vs H O ds d Q hl hp hg hq => by
  cases hp with
  | nil => simp only [one1] at hg; cases hg
  | cons h1 t =>
    cases t with
    | nil => exact h _ H O _ d Q hl h1 hg hq
    | cons _ _ => simp only [one1] at hg; cases hg
theorem call_lenR : CallR X (.builtin "len") (fun xs H Q => ∃ a kvs, xs = [V.ref a] ∧ Rd H a (.dK kvs) ∧ Q (.int kvs.length) H) := by
  intro pins s σ H xs us Q I r h
  obtain ⟨a, kvs, rfl, hz, q⟩ := h
  obtain ⟨u, rfl, ru⟩ := vals1 r
  cases ru
  exact d_len I hz fun t s' I' => ⟨.int kvs.length, H, I', ⟨t, rfl⟩, q⟩
theorem de_len (hm : X.mg "len" = none) (ha : DA X W (e :: es) fs) (hg : Gl X "len" := by rfl) (he : starEach (e :: es) X.env = (false, eval e X.env) :: starEach es X.env := by rfl) (hpl : (backTo pos (starEach es X.env)).any (·.1) = false := by rfl) : DE X W (.Call (.Name "len" p) (e :: es) [] pos) (dN (one1 lenD) fs) :=
  de_N (pe_callB ((call_len_seq.or call_len_str).or call_lenR) hg hm PySem.boot_len ha (by decide) (by decide) he hpl) (callD_1 (by
    intro v H O x d Q hl hx hg hq
    unfold lenD at hg
    split at hg
    · cases hg
      obtain ⟨a1, xs, rfl, e1, r1⟩ := hx.lst
      refine .inl (.inl ⟨_, _, rfl, .inl (.inl (.inl e1)), ?_⟩)
      rw [r1.length]
      exact hq _ H (.refl _) (.int _)
    · cases hg
      obtain ⟨a1, xs, rfl, e1, r1⟩ := hx.tup
      refine .inl (.inl ⟨_, _, rfl, .inr e1, ?_⟩)
      rw [r1.length]
      exact hq _ H (.refl _) (.int _)
    · obtain ⟨h1, rfl⟩ := some_if hg
      exact .inl (.inr ⟨_, by rw [hx.str], h1, hq _ H (.refl _) (.int _)⟩)
    · cases hg
      obtain ⟨a1, rfl, e1⟩ := hx.scr
      refine .inl (.inl ⟨_, _, rfl, .inl e1, ?_⟩)
      rw [List.length_map]
      exact hq _ H (.refl _) (.int _)
    · rename_i kvs
      cases hg
      obtain ⟨a1, kvs', rfl, e1, k1, r1⟩ := hx.dK
      refine .inr ⟨_, _, rfl, e1, ?_⟩
      have : kvs'.length = kvs.length := by
        have := congrArg List.length k1
        simpa using this
      rw [this]
      exact hq _ H (.refl _) (.int _)
    · cases hg))
theorem de_int (hm : X.mg "int" = none) (ha : DA X W (e :: es) fs) (hg : Gl X "int" := by rfl) (he : starEach (e :: es) X.env = (false, eval e X.env) :: starEach es X.env := by rfl) (hpl : (backTo pos (starEach es X.env)).any (·.1) = false := by rfl) : DE X W (.Call (.Name "int" p) (e :: es) [] pos) (dN (one1 intD) fs) :=
  de_N (pe_callTy call_int1 hg hm (by decide +kernel) ha (by decide) (by decide) he hpl) (callD_1 (by
    intro v H O x d Q hl hx hg hq
    unfold intD at hg
    split at hg
    · cases hg
      exact .inl ⟨_, by rw [hx.int], hq _ H (.refl _) (.int _)⟩
    · cases hg
      exact .inr ⟨_, by rw [hx.bl], hq _ H (.refl _) (.int _)⟩
    · cases hg))
theorem de_abs (hm : X.mg "abs" = none) (ha : DA X W (e :: es) fs) (hg : Gl X "abs" := by rfl) (he : starEach (e :: es) X.env = (false, eval e X.env) :: starEach es X.env := by rfl) (hpl : (backTo pos (starEach es X.env)).any (·.1) = false := by rfl) : DE X W (.Call (.Name "abs" p) (e :: es) [] pos) (dN (one1 absD) fs) :=
  de_N (pe_callB call_abs hg hm (by decide +kernel) ha (by decide) (by decide) he hpl) (callD_1 (by
    intro v H O x d Q hl hx hg hq
    unfold absD at hg
    split at hg
    · cases hg
      exact ⟨_, by rw [hx.int], hq _ H (.refl _) (.int _)⟩
    · cases hg))
theorem de_tuple (hm : X.mg "tuple" = none) (ha : DA X W (e :: es) fs) (hg : Gl X "tuple" := by rfl) (he : starEach (e :: es) X.env = (false, eval e X.env) :: starEach es X.env := by rfl) (hpl : (backTo pos (starEach es X.env)).any (·.1) = false := by rfl) : DE X W (.Call (.Name "tuple" p) (e :: es) [] pos) (dN (one1 tupleD) fs) :=
  de_N (pe_callTy call_tuple_of hg hm (by decide +kernel) ha (by decide) (by decide) he hpl) (callD_1 (by
    intro v H O x d Q hl hx hg hq
    unfold tupleD at hg
    split at hg
    · cases hg
      obtain ⟨a1, xs, rfl, e1, r1⟩ := hx.lst
      exact ⟨_, _, rfl, .inl ⟨.inl (.inl e1), new_tup hl hq r1⟩⟩
    · cases hg
      have hx' := hx
      obtain ⟨a1, xs, rfl, e1, r1⟩ := hx.tup
      refine ⟨_, _, rfl, .inr ⟨e1, ?_⟩⟩
      rcases hx' with hx | ⟨p, o, z, _, q⟩
      · exact hq _ H (.refl _) hx
      · cases q
    · cases hg))
end
end Pu
namespace Pu
open PySem PySem.Spec PyProof.Rows L2 My
variable [Tbs] [Nls]
inductive Tag where
  | non | bl | int | str | tup | lst | dic
def Tag.name : Tag → String
  | .non => "NoneType" | .bl => "bool" | .int => "int" | .str => "str" | .tup => "tuple" | .lst => "list" | .dic => "dict"
def tagD : D → Option Tag
  | .non => some .non | .bl _ => some .bl | .int _ => some .int | .str _ => some .str | .tup _ => some .tup | .lst _ => some .lst | .dK _ => some .dic | .kd _ => some .dic | .scr _ => some .lst
  | _ => none
theorem tyX_of {B : Bs} {H : Hp} {v : V} {d : D} {t : Tag} (h : Rep B H v d) (e : tagD d = some t) : TyX B.K H v (.type t.name) := by
  cases h with
  | non => cases e; exact .base .non
  | bl b => cases e; exact .base (.bl b)
  | int b => cases e; exact .base (.int b)
  | str b => cases e; exact .base (.str b)
  | tup s r =>
    cases e
    rcases s with (s | ⟨o, s⟩) | ⟨o, its, n, hk, hc, _⟩
    · exact .base (.tup s)
    · exact .fTuple s
    · exact .kTuple hk hc
  | lst s r => cases e; exact .base (.lst s)
  | dK s k r =>
    cases e
    rcases s with s | ⟨_, o, s⟩
    · exact .base (.dK s)
    · exact .fDict s
  | kd s k r =>
    cases e
    obtain ⟨es, n, hk, _⟩ := s
    exact .kDict hk rfl
  | dT s k r => cases e
  | ins s k r => cases e
  | dN => cases e
  | scr s =>
    cases e
    rcases s with (s | ⟨o, s⟩) | ⟨o, its, n, hk, hc, _⟩
    · exact .base (.lst s)
    · exact .base (.frz s)
    · exact .kList hk hc
  | ty n => cases e
  | cl c => cases e
structure InsF (K : PySem.W.Frag) (C : Addr) : Prop where
  cl : Cls K C
  ha : PySem.W.findIn K (.ref C) "__class__" = some (some (.builtin "object.__class__"))
  hn : PySem.W.specialIn K (.builtin "object.__class__") "__get__" = some (some (.builtin "getset_descriptor.__get__"))
  ht : PySem.W.takesIn K (.builtin "object.__class__") = some true
  hm : PySem.W.mroIn K C (.type "object") = some true
def isG (g : Tag → Bool) (cs : List (Str × Bool)) : D → Option D
  | .ins c _ => (cs.lookup c).map .bl
  | d => (tagD d).map fun t => .bl (g t)
section
variable {X : Cx} {W : WX} {a b c e : Expr} {es : List Expr} {fa fb : M Rv} {fs : M (List Rv)} {pos p tpos : Pos} {k : Nat}
theorem isG_ok {B : Bs} {H : Hp} {O : List Addr} {v : V} {x d : D} {g : Tag → Bool} {cs : List (Str × Bool)} {kit : Value → Option Bool} (hk : ∀ t : Tag, kit (.type t.name) = some (g t)) (hI : ∀ q ∈ cs, InsF B.K (B.cls q.1) ∧ kit (.ref (B.cls q.1)) = some q.2) (hx : Vw B H O v x) (hg : isG g cs x = some d) : ∃ t bb, TyX B.K H v t ∧ kit t = some bb ∧ d = .bl bb := by
  have tagged : ∀ y : D, Vw B H O v y → (tagD y).map (fun t => D.bl (g t)) = some d → ∃ t bb, TyX B.K H v t ∧ kit t = some bb ∧ d = .bl bb := fun y hy e => by
    cases ht : tagD y with
    | none => rw [ht] at e; cases e
    | some t =>
      rw [ht] at e
      cases e
      exact ⟨_, _, tyX_of hy.full ht, hk t, rfl⟩
  unfold isG at hg
  split at hg
  · rename_i cn fs
    cases hl : cs.lookup cn with
    | none => rw [hl] at hg; cases hg
    | some bb =>
      rw [hl] at hg
      cases hg
      obtain ⟨a1, dx, gs, rfl, hH, _, _⟩ := hx.ins
      have hm : (cn, bb) ∈ cs := by
        clear hI hx tagged
        induction cs with
        | nil => simp at hl
        | cons q cs ih =>
          obtain ⟨q1, q2⟩ := q
          rw [List.lookup_cons] at hl
          cases hq : cn == q1 with
          | true =>
            rw [hq] at hl
            cases hl
            rw [beq_iff_eq] at hq
            subst hq
            exact List.mem_cons_self
          | false => rw [hq] at hl; exact .tail _ (ih hl)
      obtain ⟨F, e⟩ := hI _ hm
      exact ⟨_, bb, .base (.ins hH F.cl F.ha F.hn F.ht F.hm), e, rfl⟩
  · exact tagged x hx hg
theorem tCB1 {B : Bs} {r : List V → Hp → VK → Prop} {g : D → Option D} {tb : TE} {σ : L2.St} {H : Hp} {Q : VK} (hg : ∀ v H O x d Q, Liv H O → Vw B H O v x → g x = some d → (∀ w H', Same H H' → Rep B (hide H' O) w d → Q w H') → tb σ H fun u H1 => r [v, u] H1 Q)
    (h : tP B W (d1 g fa) σ H Q) : tCB r (tCons (tP B W fa) (tCons tb tNil)) σ H Q := by
  obtain ⟨c, ρ, O, st, q⟩ := h
  unfold d1 at q
  refine tP.step st (Po.bind q) fun r1 ρ1 v H1 O1 st1 e1 hv q1 => ?_
  split at q1
  · rename_i x hx
    cases hgg : g x with
    | none => rw [hgg] at q1; exact q1.elim
    | some d =>
      rw [hgg] at q1
      exact hg v H1 O1 x d Q st1.liv (st1.vw hv hx) hgg fun w H' e' hw => q1 H' O1 (st1.ext e') (same_hide e') w hw
  · exact q1.elim
theorem de_isi {cv : V} {u : Value} {g : Tag → Bool} {cs : List (Str × Bool)} (hm : X.mg "isinstance" = none) (ha : DE X W a fa) (hT : PE X b (tC cv)) (hc : ClsV cv u) (hk : ∀ t : Tag, PySem.W.kitOne X.K (.type t.name) u = some (g t)) (hI : ∀ q ∈ cs, InsF X.K ((bs X).cls q.1) ∧ PySem.W.kitOne X.K (.ref ((bs X).cls q.1)) u = some q.2) (hg : Gl X "isinstance" := by rfl)
    (h0 : starEach [b] X.env = (false, eval b X.env) :: starEach [] X.env := by rfl) (he : starEach [a, b] X.env = (false, eval a X.env) :: starEach [b] X.env := by rfl) (hpl : (backTo pos (starEach [b] X.env)).any (·.1) = false := by rfl) : DE X W (.Call (.Name "isinstance" p) [a, b] [] pos) (d1 (isG g cs) fa) :=
  PE.le (pe_callB call_isi hg hm (by decide +kernel) (pa_cons ha (pa_cons hT pa_nil h0) he) (by decide) (by decide) he hpl) fun σ H Q h => tCB1 (fun v H O x d Q hl hx hg hq => by
    obtain ⟨t, bb, h1, h2, rfl⟩ := isG_ok (kit := fun t => PySem.W.kitOne X.K t u) hk hI hx hg
    exact ⟨v, cv, t, u, bb, rfl, hc, h1, h2, hq _ H (.refl _) (.bl _)⟩) h
theorem de_isi2 {T U : String} {g : Tag → Bool} {cs : List (Str × Bool)} {x1} (hm : X.mg "isinstance" = none) (ha : DE X W a fa) (hT : PE X b (tC (.ty T))) (hU : PE X c (tC (.ty U))) (hk : ∀ t : Tag, PySem.W.kitAny X.K (.type t.name) [.type T, .type U] = some (g t)) (hI : ∀ q ∈ cs, InsF X.K ((bs X).cls q.1) ∧ PySem.W.kitAny X.K (.ref ((bs X).cls q.1)) [.type T, .type U] = some q.2) (hg : Gl X "isinstance" := by rfl)
    (hb1 : starEach [b, c] X.env = (false, eval b X.env) :: starEach [c] X.env := by rfl) (hb2 : starEach [c] X.env = (false, eval c X.env) :: starEach [] X.env := by rfl)
    (h0 : starEach [.Tuple [b, c] x1 tpos] X.env = (false, eval (.Tuple [b, c] x1 tpos) X.env) :: starEach [] X.env := by rfl) (he : starEach [a, .Tuple [b, c] x1 tpos] X.env = (false, eval a X.env) :: starEach [.Tuple [b, c] x1 tpos] X.env := by rfl) (hpl : (backTo pos (starEach [.Tuple [b, c] x1 tpos] X.env)).any (·.1) = false := by rfl) : DE X W (.Call (.Name "isinstance" p) [a, .Tuple [b, c] x1 tpos] [] pos) (d1 (isG g cs) fa) :=
  PE.le (pe_callB call_isiT hg hm (by decide +kernel) (pa_cons ha (pa_cons (pe_tup (pa_cons hT (pa_cons hU pa_nil hb2) hb1)) pa_nil h0) he) (by decide) (by decide) he hpl) fun σ H Q h => tCB1 (fun v H O x d Q hl hx hg hq => by
    refine ⟨by show 2 ≤ sizeLine; decide, fun p hp => ?_⟩
    have e := Same.new (o := .tup [.ty T, .ty U]) hp
    have hx' : Vw (bs X) (upd H p (.tup [.ty T, .ty U])) O v x := by
      rcases hx with hx | ⟨q, o, rfl, h1, h2⟩
      · exact .inl (hx.mono (same_hide e))
      · exact .inr ⟨q, o, rfl, e _ _ h1, h2.mono (same_hide e)⟩
    obtain ⟨t, bb, h1, h2, rfl⟩ := isG_ok (kit := fun t => PySem.W.kitAny X.K t [.type T, .type U]) hk hI hx' hg
    exact ⟨v, p, _, t, _, bb, rfl, upd_same, .cons (.ty T) (.cons (.ty U) .nil), h1, h2, hq _ _ e (.bl _)⟩) h
def inB (x : D) (s : D) : Option Bool := match s with
  | .lst ds => match toP x, toPs ds with
    | some p, some ps => if SeqAt.shaped p = true ∧ SeqAt.shaped (.list ps) = true then some (ps.any fun z => PyData.eqv z p) else none
    | _, _ => none
  | .tup ds => match toP x, toPs ds with
    | some p, some ps => if SeqAt.shaped p = true ∧ SeqAt.shaped (.tuple ps) = true then some (ps.any fun z => PyData.eqv z p) else none
    | _, _ => none
  | .str t => match x with
    | .str z => some (!(Builtin.Str.occurrences t z 0 t.length 1).isEmpty)
    | _ => none
  | .dK kvs => match keyD x with
    | some k => some (valD kvs k).isSome
    | none => none
  | .kd kvs => match keyD x with
    | some k => some (valD kvs k).isSome
    | none => none
  | _ => none
def inD (x s : D) : Option D := (inB x s).map .bl
def ninD (x s : D) : Option D := (inB x s).map fun b => .bl !b
def rInA (K : PySem.W.Frag) (w : World) (n : Bool) : R2 := fun x y H Q => ∃ b : Bool, Q (.bl (if n then !b else b)) H ∧
  ((∃ d ds, Dp K H x d ∧ Dp K H y (.list ds) ∧ SeqAt.shaped d = true ∧ SeqAt.shaped (.list ds) = true ∧ b = ds.any fun z => PyData.eqv z d) ∨
  (∃ d ds, Dp K H x d ∧ Dp K H y (.tuple ds) ∧ SeqAt.shaped d = true ∧ SeqAt.shaped (.tuple ds) = true ∧ b = ds.any fun z => PyData.eqv z d) ∨
  (∃ i j, x = .str i ∧ y = .str j ∧ b = !(Builtin.Str.occurrences j i 0 j.length 1).isEmpty) ∨
  (∃ a o, y = .ref a ∧ DGet H a x o ∧ b = o.isSome) ∨
  (∃ a kvs kk, y = .ref a ∧ KDo K w a kvs ∧ x = kV kk ∧ b = (valV kvs kk).isSome))
theorem op_inA (hu : X.A.units + 65 < cLine) : OpR X (compareOp .In) (rInA X.K X.w false) := by
  intro pins s σ H x y v u Q I rx ry h
  obtain ⟨b, q, h⟩ := h
  simp only [Bool.false_eq_true, if_false] at q
  rcases h with ⟨d, ds, h1, h2, h3, h4, rfl⟩ | ⟨d, ds, h1, h2, h3, h4, rfl⟩ | ⟨i, j, rfl, rfl, rfl⟩ | ⟨a, o, rfl, g, rfl⟩ | ⟨a, kvs, kk, rfl, g, rfl, rfl⟩
  · exact op_inD hu pins s σ H x y v u Q I rx ry ⟨d, ds, h1, h2, h3, h4, q⟩
  · obtain ⟨as, r1⟩ := Dp.reads I d x v h1 rx
    obtain ⟨bs, r2⟩ := Dp.reads I (.tuple ds) y u h2 ry
    refine SeqAt.in_tuple_reads r2 r1 (SeqAt.canLay_of_shaped h4) (SeqAt.canLay_of_shaped h3) ?_ ⟨.bl _, H, I, rfl, q⟩
    have := SeqAt.depth_of_shaped h3
    have : min (PyData.depthAll ds) d.depth ≤ d.depth := Nat.min_le_right _ _
    omega
  · exact op_in_str pins s σ H _ _ v u Q I rx ry ⟨i, j, rfl, rfl, q⟩
  · obtain rfl : u = Value.ref a := ry
    exact d_in (by omega) I g rx fun s3 I3 => ⟨.bl o.isSome, H, I3, rfl, q⟩
  · obtain rfl : u = Value.ref a := ry
    obtain ⟨_, hd, vs, rel, dd⟩ := kdo_at (P := X.prog) g I.kIn
    refine wpAny_in_of (kV_is rx) hd dd.mapOf ?_
    rw [← (rel.val kk).isSome_eq]
    exact ⟨.bl _, H, I.tok _, rfl, q⟩
theorem op_ninA (hu : X.A.units + 65 < cLine) : OpR X (compareOp .NotIn) (rInA X.K X.w true) := by
  intro pins s σ H x y v u Q I rx ry h
  obtain ⟨b, q, h⟩ := h
  simp only [if_true] at q
  rcases h with ⟨d, ds, h1, h2, h3, h4, rfl⟩ | ⟨d, ds, h1, h2, h3, h4, rfl⟩ | ⟨i, j, rfl, rfl, rfl⟩ | ⟨a, o, rfl, g, rfl⟩ | ⟨a, kvs, kk, rfl, g, rfl, rfl⟩
  · exact op_notInD hu pins s σ H x y v u Q I rx ry ⟨d, ds, h1, h2, h3, h4, q⟩
  · obtain ⟨as, r1⟩ := Dp.reads I d x v h1 rx
    obtain ⟨bs, r2⟩ := Dp.reads I (.tuple ds) y u h2 ry
    refine SeqAt.notIn_tuple_reads r2 r1 (SeqAt.canLay_of_shaped h4) (SeqAt.canLay_of_shaped h3) ?_ ⟨.bl _, H, I, rfl, q⟩
    have := SeqAt.depth_of_shaped h3
    have : min (PyData.depthAll ds) d.depth ≤ d.depth := Nat.min_le_right _ _
    omega
  · exact op_notin_str pins s σ H _ _ v u Q I rx ry ⟨i, j, rfl, rfl, q⟩
  · obtain rfl : u = Value.ref a := ry
    exact d_notIn (by omega) I g rx fun s3 I3 => ⟨.bl _, H, I3, rfl, q⟩
  · obtain rfl : u = Value.ref a := ry
    obtain ⟨_, hd, vs, rel, dd⟩ := kdo_at (P := X.prog) g I.kIn
    refine wpAny_notIn_of (kV_is rx) hd dd.mapOf ?_
    rw [← (rel.val kk).isSome_eq]
    exact ⟨.bl _, H, I.tok _, rfl, q⟩
theorem val_some {B : Bs} {G : Hp} {kvs : List (Key × V)} {ds : List (Key × D)} {kk : Key} (h : kvs.map (·.1) = ds.map (·.1)) (r : RepL B G (kvs.map (·.2)) (ds.map (·.2))) : (valD ds kk).isSome = (valV kvs kk).isSome := by
  cases hv : valD ds kk with
  | none => rw [valD_none h hv]; rfl
  | some d =>
    obtain ⟨v', h1, _⟩ := valD_ok h r hv
    rw [h1]
    rfl
theorem inB_ok {B : Bs} {H : Hp} {O : List Addr} {v u : V} {x y : D} {b : Bool} {n : Bool} {Q : VK} (hx : Vw B H O v x) (hy : Vw B H O u y) (h : inB x y = some b) (hq : Q (.bl (if n then !b else b)) H) : rInA B.K B.w n v u H Q := by
  refine ⟨b, hq, ?_⟩
  unfold inB at h
  split at h
  · rename_i ds
    split at h
    · rename_i p ps h1 h2
      obtain ⟨⟨h3, h4⟩, rfl⟩ := some_if h
      exact .inl ⟨p, ps, rep_dp x _ p hx.full h1, rep_dp (.lst ds) _ (.list ps) hy.full (by simp [toP, h2]), h3, h4, rfl⟩
    · cases h
  · rename_i ds
    split at h
    · rename_i p ps h1 h2
      obtain ⟨⟨h3, h4⟩, rfl⟩ := some_if h
      exact .inr (.inl ⟨p, ps, rep_dp x _ p hx.full h1, rep_dp (.tup ds) _ (.tuple ps) hy.full (by simp [toP, h2]), h3, h4, rfl⟩)
    · cases h
  · split at h
    · cases h
      exact .inr (.inr (.inl ⟨_, _, hx.str, hy.str, rfl⟩))
    · cases h
  · rename_i kvs
    split at h
    · rename_i kk hk
      cases h
      obtain ⟨a1, kvs', rfl, e1, k1, r1⟩ := hy.dK
      refine .inr (.inr (.inr (.inl ⟨a1, valV kvs' kk, rfl, .inl ⟨kvs', kk, e1, keyD_ok hx.full hk, rfl⟩, ?_⟩)))
      exact val_some k1 r1
    · cases h
  · rename_i kvs
    split at h
    · rename_i kk hk
      cases h
      obtain ⟨a1, kvs', rfl, e1, k1, r1⟩ := hy.kd
      refine .inr (.inr (.inr (.inr ⟨a1, kvs', kk, rfl, e1, keyD_ok hx.full hk, ?_⟩)))
      exact val_some k1 r1
    · cases h
  · cases h
theorem opD_in {B : Bs} : OpD B (rInA B.K B.w false) inD := by
  intro v u H O x y d Q hl hx hy hg hq
  unfold inD at hg
  cases he : inB x y with
  | none => rw [he] at hg; cases hg
  | some b => rw [he] at hg; cases hg; exact inB_ok hx hy he (hq _ H (.refl _) (.bl _))
theorem opD_nin {B : Bs} : OpD B (rInA B.K B.w true) ninD := by
  intro v u H O x y d Q hl hx hy hg hq
  unfold ninD at hg
  cases he : inB x y with
  | none => rw [he] at hg; cases hg
  | some b => rw [he] at hg; cases hg; exact inB_ok hx hy he (hq _ H (.refl _) (.bl _))
theorem de_in (hr : RmG k X.A) (ha : DE X W a fa) (hb : DE X W b fb) (hm : behindInMarks .In b = false := by rfl) : DE X W (.Compare a [.In] [b] pos) (d2 inD fa fb) := de_2 (pe_cmpR (op_inA hr.u65) ha hb hm) opD_in
theorem dt_in (hr : RmG k X.A) (ha : DE X W a fa) (hb : DE X W b fb) (hm : behindInMarks .In b = false := by rfl) : DT X W (.Compare a [.In] [b] pos) (dT2 inD fa fb) := dt_2 (pt_cmpR (op_inA hr.u65) ha hb hm) opD_in
theorem dt_nin (hr : RmG k X.A) (ha : DE X W a fa) (hb : DE X W b fb) (hm : behindInMarks .NotIn b = false := by rfl) : DT X W (.Compare a [.NotIn] [b] pos) (dT2 ninD fa fb) := dt_2 (pt_cmpR (op_ninA hr.u65) ha hb hm) opD_nin
end
end Pu
namespace Pu
open PySem PySem.Spec PyProof.Rows L2 My
variable [Tbs] [Nls]
def MutD (B : Bs) (r : V → List V → Hp → VK → Prop) (g : D → List D → Option (D × D)) : Prop :=
  ∀ p o vs H O d ds res d' Q, Liv H O → p ∈ O → H p = some o → RepO B (hide H O) p o d → RepL B (hide H O) vs ds → g d ds = some (res, d') →
    (∀ v o', RepO B (hide H O) p o' d' → Rep B (hide H O) v res → Q v (upd H p o')) → r (.ref p) vs H Q
def isLst : D → Bool
  | .lst _ => true
  | _ => false
def dMut (i : Nat) (g : D → List D → Option (D × D)) (fs : M (List Rv)) : M Rv := fun ρ => match ρ[i]? with
  | some (some (k0, d0)) => if k0 ≠ .val ∧ isLst d0 = true then (fs ρ).bind fun rs ρ1 => match escs ρ1 rs with
    | some (ds, ρ2) => match ρ2[i]? with
      | some (some (k, d)) => if k ≠ .val then (match g d ds with
        | some (res, d') => .ok (.val res) (ρ2.set i (some (k, d')))
        | none => .bad) else .bad
      | _ => .bad
    | none => .bad else .bad
  | _ => .bad
section
variable {X : Cx} {W : WX} {o e : Expr} {es : List Expr} {fs : M (List Rv)} {x name : Str} {ps apos cpos : Pos} {id : String} {i : Nat} {r : V → List V → Hp → VK → Prop} {g : D → List D → Option (D × D)}
theorem mut_end {c : Cst} {σ : L2.St} {H1 : Hp} {O1 : List Addr} {ρ1 : En} {rs : List Rv} {vs : List V} {p : Addr} {Q : VK} (hg : MutD (bs X) r g) (st1 : Stt (bs X) c ρ1 σ H1 O1) (hv : RvsOk (bs X) σ H1 O1 vs rs) (hs : σ[i]? = some (some (.ref p)))
    (q : Po (bs X) c W σ H1 O1 (fun r ρ' H' O' => ∀ v, RvOk (bs X) σ H' O' v r → Q v H') (match escs ρ1 rs with
    | some (ds, ρ2) => match ρ2[i]? with
      | some (some (k, d)) => if k ≠ .val then (match g d ds with
        | some (res, d') => .ok (.val res) (ρ2.set i (some (k, d')))
        | none => .bad) else .bad
      | _ => .bad
    | none => .bad)) : r (.ref p) vs H1 Q := by
  split at q
  · rename_i ds ρ2 hes
    obtain ⟨O2, st2, e2, hr⟩ := escs_ok st1 hv hes
    split at q
    · rename_i k d hi
      split at q
      · rename_i hk
        split at q
        · rename_i res d' hgg
          obtain ⟨p0, o0, z1, z2, z3, z4, z5⟩ := st2.own i k d hi hk
          rw [hs] at z1
          cases z1
          refine hg p o0 vs H1 O2 d ds res d' Q st2.liv z2 z4 z5 hr hgg fun v o' ho' hv' => ?_
          have s3 := st2.mut (o := o') hi hk hs ho'
          have eh : hide (upd H1 p o') O2 = hide H1 O2 := hide_upd z2
          refine q _ O2 s3 ?_ v ?_
          · rw [eh]; exact e2
          · show Rep (bs X) (hide (upd H1 p o') O2) v res
            rw [eh]; exact hv'
        · exact q.elim
      · exact q.elim
    · exact q.elim
  · exact q.elim
theorem lst_ty {B : Bs} {H : Hp} {G : Hp} {p : Addr} {o : HO} {d : D} (ho : H p = some o) (hr : RepO B G p o d) (hl : isLst d = true) : tyV B.K "list" (.ref p) H := by
  cases hr with
  | lst _ => exact .inl ⟨rfl, _, .inl (.inl ho)⟩
  | dK _ _ => cases hl
  | dT _ _ => cases hl
  | ins _ _ => cases hl
  | dN => cases hl
theorem de_mut (slot : Slot "list" name id) (hty : typeOf (.builtin id) = pure (.type "method_descriptor")) (hm : MtR X id r) (hg : MutD (bs X) r g) (hx : PE X (.Name x ps) (tVar i)) (ha : DA X W (e :: es) fs)
    (hbase : attributeBase (.Name x ps) name X.env (eval (.Name x ps) X.env) = eval (.Name x ps) X.env := by rfl)
    (hfew : ((backTo cpos (starEach (e :: es) X.env)).all (fun x => !x.1) && (backToKw cpos (keywordEach [] X.env)).all (fun x => x.1.isSome)
      && decide ((e :: es).length + ([] : List Keyword).length + (if ([] : List Keyword).isEmpty then 0 else 1) < 30)) = true := by rfl)
    (hline : (apos.endLine == cpos.line) = true := by rfl) (hs : starEach (e :: es) X.env = (false, eval e X.env) :: starEach es X.env := by rfl) (hplain : (backTo cpos (starEach es X.env)).any (·.1) = false := by rfl) :
    DE X W (.Call (.Attribute (.Name x ps) name apos) (e :: es) [] cpos) (dMut i g fs) := PE.le (pe_bm PySem.F.plainAttrs_list slot hty hm hx ha hbase hfew hline hs hplain) fun σ H Q ⟨c, ρ, O, st, q⟩ => by
  unfold dMut at q
  split at q
  · rename_i k0 d0 h0
    split at q
    · rename_i hk
      obtain ⟨p, o0, z1, z2, z3, z4, z5⟩ := st.own i k0 d0 h0 hk.1
      refine ⟨_, z1, lst_ty z4 z5 hk.2, ?_⟩
      refine tAs.step st (Po.bind q) fun rs ρ1 vs H1 O1 st1 e1 hvs q1 => ?_
      exact mut_end hg st1 hvs z1 q1
    · exact q.elim
  · exact q.elim
end
def appD : D → List D → Option (D × D)
  | .lst xs, [y] => if xs.length < sizeLine then some (.non, .lst (xs ++ [y])) else none
  | _, _ => none
def popD : D → List D → Option (D × D)
  | .lst xs, [] => match xs[xs.length - 1]? with
    | some y => some (y, .lst xs.dropLast)
    | none => none
  | _, _ => none
def clearD : D → List D → Option (D × D)
  | .lst _, [] => some (.non, .lst [])
  | _, _ => none
theorem RepO.lst_inv {B : Bs} {G : Hp} {p : Addr} {o : HO} {ds : List D} (h : RepO B G p o (.lst ds)) : ∃ xs, o = .lst xs ∧ RepL B G xs ds := by
  cases h with
  | lst r => exact ⟨_, rfl, r⟩
section
variable {X : Cx} {W : WX} {o e : Expr} {es : List Expr} {fs : M (List Rv)} {x name : Str} {ps apos cpos : Pos} {id : String} {i : Nat} {B : Bs}
theorem mutD_app : MutD B rAppend appD := by
  intro p o vs H O d ds res d' Q hl hp ho hr hv hg hq
  unfold appD at hg
  split at hg
  · obtain ⟨h1, h2⟩ := some_if hg
    cases h2
    obtain ⟨us, rfl, r⟩ := hr.lst_inv
    cases hv with
    | cons hy ht =>
      cases ht
      exact ⟨p, us, _, rfl, rfl, ho, by rw [r.length]; exact h1, hq _ _ (.lst (r.append (.cons hy .nil))) .non⟩
  · cases hg
def tyD (T : String) : D → Bool
  | .str _ => T = "str"
  | .lst _ => T = "list"
  | _ => false
def dBm (T : String) (g : D → List D → Option D) (fo : M Rv) (fs : M (List Rv)) : M Rv := fun ρ => (fo ρ).bind fun r ρ1 => match rd ρ1 r with
  | some d0 => if tyD T d0 = true then (fs ρ1).bind fun rs ρ2 => match rd ρ2 r, rds ρ2 rs with
    | some d, some ds => out ρ2 (g d ds)
    | _, _ => .bad else .bad
  | none => .bad
def dPut (i : Nat) (fk fv : M Rv) : SM := fun ρ => (fv ρ).then fun rv ρ1 => match ρ1[i]? with
  | some (some (k1, _)) => if k1 ≠ .val then (fk ρ1).then fun rk ρ2 => match esc ρ2 rv with
    | some (dv, ρ3) => match rd ρ3 rk with
      | some dk => match keyD dk, ρ3[i]? with
        | some k, some (some (kd, .dK kvs)) => if kd ≠ .val ∧ kvs.length < sizeLine then .nx (ρ3.set i (some (kd, .dK (putD kvs k dv)))) else .bad
        | _, _ => .bad
      | none => .bad
    | none => .bad else .bad
  | _ => .bad
theorem ds_put {value ki : Expr} {fk fv : M Rv} {pos pos' : Pos} {k : Nat} (hr : RmG k X.A) (hx : PE X (.Name x ps) (tVar i)) (hk : DE X W ki fk) (hv : DE X W value fv) (hs : swapsWith value (some (.Subscript (.Name x ps) ki pos')) pos.line X.env = pure false := by rfl) :
    DS X W (.Assign [.Subscript (.Name x ps) ki pos'] value pos) (dPut i fk fv) := PS.le (ps_dput hr.u1 hx hk hv hs) fun E σ H ⟨c, ρ, O, st, q⟩ => by
  unfold dPut at q
  refine tP.step st (SPo.then q) fun rv ρ1 v H1 O1 st1 e1 hvv q1 => ?_
  split at q1
  · rename_i k1 d1 h1
    split at q1
    · rename_i hk1
      obtain ⟨p, o0, z1, z2, z3, z4, z5⟩ := st1.own i k1 d1 h1 hk1
      refine ⟨_, z1, ?_⟩
      refine tP.step st1 (SPo.then q1) fun rk ρ2 y H2 O2 st2 e2 hy q2 => ?_
      split at q2
      · rename_i dv ρ3 hes
        obtain ⟨O3, st3, e3, hr3⟩ := st2.esc (hvv.ext e2) hes
        split at q2
        · rename_i dk hdk
          split at q2
          · rename_i kk kd kvs hkk hi
            split at q2
            · rename_i hc
              obtain ⟨p0, o0', y1, y2, y3, y4, y5⟩ := st3.own i kd _ hi hc.1
              rw [z1] at y1
              cases y1
              cases y5 with
              | dK kk2 rr =>
                rename_i kvs'
                have hyk : y = kV kk := keyD_ok (st3.vw (hy.ext e3) hdk).full hkk
                obtain ⟨m1, m2⟩ := putK_map kk v dv hr3 kk2 rr
                refine ⟨p, _, rfl, .inl ⟨kvs', kk, y4, hyk, ?_, rfl⟩, ?_⟩
                · have := congrArg List.length kk2
                  simp only [List.length_map] at this
                  omega
                · have s4 := st3.mut (o := .dK (putK kvs' kk v)) hi hc.1 z1 (.dK m1 m2)
                  refine q2 σ _ O3 s4 ?_
                  rw [hide_upd y2]
                  exact e3
            · exact q2.elim
          · exact q2.elim
        · exact q2.elim
      · exact q2.elim
    · exact q1.elim
  · exact q1.elim
def dPutT (i : Nat) (fk : M (List Rv)) (fv : M Rv) : SM := fun ρ => (fv ρ).then fun rv ρ1 => match ρ1[i]? with
  | some (some (k1, _)) => if k1 ≠ .val then (fk ρ1).then fun rk ρ2 => match esc ρ2 rv with
    | some (dv, ρ3) => match rds ρ3 rk with
      | some dks => match keysD dks, ρ3[i]? with
        | some k, some (some (kd, .dT kvs)) => if kd ≠ .val ∧ kvs.length < sizeLine ∧ rk.length ≤ sizeLine then .nx (ρ3.set i (some (kd, .dT (putD kvs k dv)))) else .bad
        | _, _ => .bad
      | none => .bad
    | none => .bad else .bad
  | _ => .bad
def ixT (ks : List D) : D → Option D
  | .dT kvs => match keysD ks with
    | some k => valD kvs k
    | none => none
  | _ => none
def getT (ks : List D) : D → Option D
  | .dT kvs => match keysD ks with
    | some k => some ((valD kvs k).getD .non)
    | none => none
  | _ => none
def dTk (g : List D → D → Option D) (fd : M Rv) (fk : M (List Rv)) : M Rv := fun ρ => (fd ρ).bind fun r ρ1 => (fk ρ1).bind fun rs ρ2 => match rd ρ2 r, rds ρ2 rs with
  | some d, some ks => if rs.length ≤ sizeLine then out ρ2 (g ks d) else .bad
  | _, _ => .bad
def dTkR (g : List D → D → Option D) (fk : M (List Rv)) (fd : M Rv) : M Rv := fun ρ => (fk ρ).bind fun rs ρ1 => if rs.length ≤ sizeLine then (fd ρ1).bind fun r ρ2 => match rd ρ2 r, rds ρ2 rs with
  | some d, some ks => out ρ2 (g ks d)
  | _, _ => .bad else .bad
theorem Vw.ext {H H' : Hp} {O : List Addr} {v : V} {d : D} (h : Vw B H O v d) (e : Same H H') : Vw B H' O v d := by
  rcases h with h | ⟨q, o, rfl, h1, h2⟩
  · exact .inl (h.mono (same_hide e))
  · exact .inr ⟨q, o, rfl, e _ _ h1, h2.mono (same_hide e)⟩
end
section
variable {X : Cx} {W : WX} {o e : Expr} {es kes : List Expr} {fs fk : M (List Rv)} {fd : M Rv} {pos tpos apos cpos : Pos} {k : Nat} {x1 : Nat}
end
end Pu
namespace Pu
open PySem PySem.Spec PyProof.Rows L2 My
variable [Tbs] [Nls]
section
variable {B : Bs} {c : Cst} {ρ ρ' : En} {σ : L2.St} {H H' : Hp} {O O' : List Addr} {v : V} {d : D} {a : Addr}
theorem walkD_list {xs : List V} {ds : List D} (h : SqL B.K (hide H O) a xs) (r : RepL B (hide H O) xs ds) : WalkD B (Itl B.K a) ds H O := by
  refine ⟨fun H => SqL B.K H a xs, YAt xs, ?_, ?_, ?_⟩
  · rw [← r.length]; exact walk_list
  · intro H' O' e _
    exact sqL_mono (hide_le H' O').ext (sqL_mono e h)
  · rintro i H' O' x H'' e _ hi ⟨rfl, hx⟩
    obtain ⟨d, h1, h2⟩ := (r.mono e).get' hx
    exact ⟨.refl _, d, h1, h2⟩
theorem walkD_tup {xs : List V} {ds : List D} (h : SqT B.K (hide H O) a xs) (r : RepL B (hide H O) xs ds) : WalkD B (Itt B.K a) ds H O := by
  refine ⟨fun H => SqT B.K H a xs, YAt xs, ?_, ?_, ?_⟩
  · rw [← r.length]; exact walk_tup
  · intro H' O' e _
    exact sqT_mono (hide_le H' O').ext (sqT_mono e h)
  · rintro i H' O' x H'' e _ hi ⟨rfl, hx⟩
    obtain ⟨d, h1, h2⟩ := (r.mono e).get' hx
    exact ⟨.refl _, d, h1, h2⟩
def rngD (lo : Int) : Nat → List D
  | 0 => []
  | n + 1 => .int lo :: rngD (lo + 1) n
theorem rngD_length : ∀ (n : Nat) (lo : Int), (rngD lo n).length = n
  | 0, _ => rfl
  | n + 1, lo => by simp [rngD, rngD_length n]
theorem rngD_get : ∀ (n : Nat) (lo : Int) (i : Nat), i < n → (rngD lo n)[i]? = some (.int (lo + i))
  | 0, _, _, h => by omega
  | n + 1, lo, 0, _ => by simp [rngD]
  | n + 1, lo, i + 1, h => by
    simp only [rngD, List.getElem?_cons_succ]
    rw [rngD_get n (lo + 1) i (by omega), show lo + 1 + (i : Int) = lo + ((i + 1 : Nat) : Int) by omega]
theorem walkD_range {lo : Int} {n : Nat} : WalkD B (Itr lo n) (rngD lo n) H O := by
  refine ⟨fun _ => True, YFn fun i => .int (lo + i), ?_, fun _ _ _ _ => trivial, ?_⟩
  · rw [rngD_length]; exact walk_range
  · rintro i H' O' x H'' e _ hi ⟨rfl, rfl⟩
    rw [rngD_length] at hi
    exact ⟨.refl _, _, rngD_get n lo i hi, .int _⟩
def chrs (z : Str) : List D := z.cps.toList.map fun c => .str ⟨#[c]⟩
theorem walkD_str {z : Str} : WalkD B (Its z) (chrs z) H O := by
  refine ⟨fun _ => True, fun i H v H' => H' = H ∧ ∃ c, z.cps[i]? = some c ∧ v = .str ⟨#[c]⟩, ?_, fun _ _ _ _ => trivial, ?_⟩
  · rw [show (chrs z).length = z.cps.size by simp [chrs]]
    exact walk_str
  · rintro i H' O' x H'' e _ hi ⟨rfl, c, hc, rfl⟩
    refine ⟨.refl _, .str ⟨#[c]⟩, ?_, .str _⟩
    simp only [chrs, List.getElem?_map, Array.getElem?_toList, hc, Option.map_some]
def keyV : Key → D
  | .inl i => .int i
  | .inr s => .str s
theorem rep_ints {G : Hp} : ∀ xs : List Int, RepL B G (xs.map V.int) (xs.map D.int)
  | [] => .nil
  | x :: xs => .cons (.int x) (rep_ints xs)
theorem rep_key {G : Hp} (k : Key) : Rep B G (kV k) (keyV k) := by
  cases k with
  | inl i => exact .int i
  | inr s => exact .str s
theorem walkD_keys {ob : Obj} {kvs : List (Key × V)} {ds : List (Key × D)} (h : hide H O a = some (.frz ob (.dK kvs))) (hk : kvs.map (·.1) = ds.map (·.1)) : WalkD B (Itk a ob kvs) (ds.map fun p => keyV p.1) H O := by
  have hl : kvs.length = ds.length := by simpa using congrArg List.length hk
  refine ⟨fun H => H a = some (.frz ob (.dK kvs)), fun i H x H' => H' = H ∧ ∃ k v, kvs[i]? = some (k, v) ∧ x = kV k, ?_, ?_, ?_⟩
  · rw [List.length_map, ← hl]; exact walk_keys
  · intro H' O' e _
    exact hide_le H' O' _ _ (e.get h)
  · rintro i H' O' x H'' e _ hi ⟨rfl, k, v, hx, rfl⟩
    refine ⟨.refl _, keyV k, ?_, rep_key k⟩
    have : (kvs.map (·.1))[i]? = some k := by rw [List.getElem?_map, hx]; rfl
    rw [hk, List.getElem?_map] at this
    rw [List.getElem?_map]
    cases hd : ds[i]? with
    | none => rw [hd] at this; cases this
    | some q => rw [hd] at this; cases this; rfl
theorem Stt.lock {u : HO} (st : Stt B c ρ σ H O) (h : H a = some u) (ha : a ∉ O) (hu : isDct u = true) (ob : Obj) : Stt B c ρ σ (upd H a (.frz ob u)) O ∧ Ext (hide H O) (hide (upd H a (.frz ob u)) O) := by
  have ex : Ext (hide H O) (hide (upd H a (.frz ob u)) O) := Ext.of2 fun b o e => by
    obtain ⟨m, q⟩ := hide_some e
    by_cases hb : b = a
    · subst hb
      rw [h] at q
      cases q
      exact .inr ⟨hu, ob, by rw [hide_out m, upd_same]⟩
    · exact .inl (by rw [hide_out m, upd_ne hb]; exact q)
  have ne : ∀ q ∈ O, q ≠ a := fun q hq e => ha (e ▸ hq)
  refine ⟨⟨st.len, ?_, ?_, st.sep, st.pin, ?_, ?_⟩, ex⟩
  · intro i d q
    obtain ⟨v, h1, h2⟩ := st.val i d q
    exact ⟨v, h1, h2.mono ex⟩
  · intro i k d q hk
    obtain ⟨p, o, h1, h2, h3, h4, h5⟩ := st.own i k d q hk
    exact ⟨p, o, h1, h2, h3, by rw [upd_ne (ne p h2)]; exact h4, h5.mono ex⟩
  · exact ⟨fun q hq => by rw [upd_ne (ne q hq)]; exact st.liv q hq, fun q hq o ho => by rw [upd_ne (ne q hq)] at ho; exact st.liv.notb q hq o ho, ex.2 st.liv.tab⟩
  · intro q hq
    obtain ⟨u1, u2⟩ := st.frm q hq
    exact ⟨u1, by rw [upd_ne (ne q u1)]; exact u2⟩
end
def iKeysL (td : TE) : TI := fun σ H R => td σ H fun x H1 => ∃ d kvs, x = .ref d ∧ ((∃ o, H1 d = some (.frz o (.dK kvs)) ∧ R (Itk d o kvs) H1) ∨ (H1 d = some (.dK kvs) ∧ ∀ o, R (Itk d o kvs) (upd H1 d (.frz o (.dK kvs)))))
theorem pi_keysL {X : Cx} {tg e : Expr} {td : TE} (he : PE X e td) : PI X tg e (iKeysL td) := by
  refine ⟨fun pins s σ H R I h => ?_⟩
  refine thn (he.run pins s σ H _ I h) fun u s1 ⟨x, H1, I1, rx, d, kvs, ex, hd⟩ => ?_
  subst ex
  obtain rfl : u = Value.ref d := rx
  have fin : ∀ (o : Obj) (H2 : Hp), Inv X pins σ H2 s1 → H2 d = some (.frz o (.dK kvs)) → R (Itk d o kvs) H2 → wpAny (model X.prog X.w) X.A (pyIter (.ref d)) (PIE X pins σ tg R) X.xe s1 := fun o H2 I2 hd2 q => by
    obtain ⟨hs, hgd, hx, es, ep, vs, hdt, hsz, kv, hm⟩ := I2.frzK hd2
    refine iter_keys hs hgd hx hdt (pi_one (tk := s1.toks) I2 _ (turn_keys _ hdt) ⟨_, Heap.get?_push_size _ rfl, rfl, ?_⟩ q)
    rw [hsz] <;> rfl
  rcases hd with ⟨o, hd, q⟩ | ⟨hd, q⟩
  · exact fin o H1 I1 hd q
  · obtain ⟨o, I2⟩ := I1.lock hd trivial
    exact fin o _ I2 upd_same (q o)
def itD : D → Option (List D)
  | .lst ds => some ds
  | .tup ds => some ds
  | .str z => some (chrs z)
  | .dK kvs => if Nls.nl (kvs.map (·.1)) = true then none else some (kvs.map fun p => keyV p.1)
  | .scr xs => some (xs.map .int)
  | _ => none
def itK (n : Nat) (d : D) : Option (List D) := match n, d with
  | 0, .lst ds => some ds
  | 0, .scr xs => some (xs.map .int)
  | 1, .tup ds => some ds
  | 2, .str z => some (chrs z)
  | 3, .dK kvs => if Nls.nl (kvs.map (·.1)) = true then none else some (kvs.map fun p => keyV p.1)
  | _, _ => none
def dIt (n : Nat) (fa : M Rv) : M (List D) := fun ρ => (fa ρ).bind fun r ρ1 => match esc ρ1 r with
  | some (d, ρ2) => match itK n d with
    | some ds => .ok ds ρ2
    | none => .bad
  | none => .bad
def dItA (fa : M Rv) : M (List D) := fun ρ => (fa ρ).bind fun r ρ1 => match esc ρ1 r with
  | some (d, ρ2) => match itD d with
    | some ds => .ok ds ρ2
    | none => .bad
  | none => .bad
theorem DI.or {X : Cx} {W : WX} {tg e : Expr} {f g : M (List D)} (h : DI X W tg e f) (h' : DI X W tg e g) : DI X W tg e (orF f g) := ⟨fun pins s σ H R I ⟨c, ρ, O, st, q⟩ => by
  unfold orF at q
  cases hf : f ρ with
  | bad => rw [hf] at q; exact h'.run pins s σ H R I ⟨c, ρ, O, st, q⟩
  | ok a ρ' => rw [hf] at q; exact h.run pins s σ H R I ⟨c, ρ, O, st, by rw [hf]; exact q⟩
  | ex x fs ρ' => rw [hf] at q; exact h.run pins s σ H R I ⟨c, ρ, O, st, by rw [hf]; exact q⟩⟩
theorem DI.eq {X : Cx} {W : WX} {tg e : Expr} {f g : M (List D)} (h : DI X W tg e f) (hg : ∀ ρ, g ρ ≠ .bad → f ρ = g ρ) : DI X W tg e g := ⟨fun pins s σ H R I ⟨c, ρ, O, st, q⟩ => h.run pins s σ H R I ⟨c, ρ, O, st, by
  rw [hg ρ fun z => by rw [z] at q; exact q]
  exact q⟩⟩
section
variable {X : Cx} {W : WX} {tg e : Expr} {es : List Expr} {fa : M Rv} {fs : M (List Rv)} {p pos : Pos}
theorem di_list (h : DE X W e fa) : DI X W tg e (dIt 0 fa) := PI.le (pi_list h) fun σ H R ⟨c, ρ, O, st, q⟩ => by
  unfold dIt at q
  refine tP.step st (Po.bind q) fun r ρ1 v H1 O1 st1 e1 hv q1 => ?_
  split at q1
  · rename_i d ρ2 hes
    obtain ⟨O2, st2, e2, hr⟩ := st1.esc hv hes
    cases d <;> simp only [itK] at q1 <;> try (exact q1.elim)
    · cases hr with
      | lst s r => exact ⟨_, rfl, ⟨_, .inl (.inl (hide_le _ _ _ _ s))⟩, q1 H1 O2 st2 e2 _ (walkD_list (B := bs X) (.inl (.inl s)) r)⟩
    · rename_i xs
      cases hr with
      | scr s =>
        refine ⟨_, rfl, ⟨_, sqL_mono (K := X.K) (hide_le _ _).ext s⟩, q1 H1 O2 st2 e2 _ (walkD_list (B := bs X) s (rep_ints xs))⟩
  · exact q1.elim
theorem di_tup (h : DE X W e fa) : DI X W tg e (dIt 1 fa) := PI.le (pi_tup h) fun σ H R ⟨c, ρ, O, st, q⟩ => by
  unfold dIt at q
  refine tP.step st (Po.bind q) fun r ρ1 v H1 O1 st1 e1 hv q1 => ?_
  split at q1
  · rename_i d ρ2 hes
    obtain ⟨O2, st2, e2, hr⟩ := st1.esc hv hes
    cases d <;> simp only [itK] at q1 <;> try (exact q1.elim)
    · cases hr with
      | tup s r => exact ⟨_, rfl, ⟨_, sqT_mono (hide_le _ _).ext s⟩, q1 H1 O2 st2 e2 _ (walkD_tup (B := bs X) s r)⟩
  · exact q1.elim
theorem di_str (h : DE X W e fa) : DI X W tg e (dIt 2 fa) := PI.le (pi_str h) fun σ H R ⟨c, ρ, O, st, q⟩ => by
  unfold dIt at q
  refine tP.step st (Po.bind q) fun r ρ1 v H1 O1 st1 e1 hv q1 => ?_
  split at q1
  · rename_i d ρ2 hes
    obtain ⟨O2, st2, e2, hr⟩ := st1.esc hv hes
    cases d <;> simp only [itK] at q1 <;> try (exact q1.elim)
    · cases hr with
      | str z => exact ⟨_, rfl, q1 H1 O2 st2 e2 _ walkD_str⟩
  · exact q1.elim
theorem di_keys (h : DE X W e fa) : DI X W tg e (dIt 3 fa) := PI.le (pi_keysL h) fun σ H R ⟨c, ρ, O, st, q⟩ => by
  unfold dIt at q
  refine tP.step st (Po.bind q) fun r ρ1 v H1 O1 st1 e1 hv q1 => ?_
  split at q1
  · rename_i d ρ2 hes
    obtain ⟨O2, st2, e2, hr⟩ := st1.esc hv hes
    cases d <;> simp only [itK] at q1 <;> try (exact q1.elim)
    · rename_i ds0
      cases hr with
      | @dK a kvs _ s k r =>
        by_cases hnl : Nls.nl (ds0.map (·.1)) = true
        · rw [if_pos hnl] at q1; exact q1.elim
        rw [if_neg hnl] at q1
        rcases s with s | ⟨_, ob, s⟩
        · obtain ⟨hO, hH⟩ := hide_some s
          refine ⟨a, kvs, rfl, .inr ⟨hH, fun ob => ?_⟩⟩
          obtain ⟨st3, e3⟩ := st2.lock hH hO (by rw [isDct, k]; simpa using hnl) ob
          exact q1 _ O2 st3 (e2.trans e3) _ (walkD_keys (by rw [hide_out hO, upd_same]) k)
        · exact ⟨a, kvs, rfl, .inl ⟨ob, hide_le _ _ _ _ s, q1 H1 O2 st2 e2 _ (walkD_keys s k)⟩⟩
  · exact q1.elim
theorem di_any (h : DE X W e fa) : DI X W tg e (dItA fa) := DI.eq (DI.or (DI.or (DI.or (di_list h) (di_tup h)) (di_str h)) (di_keys h)) fun ρ hn => by
  unfold orF dItA dIt at *
  cases hf : fa ρ with
  | bad => rfl
  | ex x fs ρ' => rfl
  | ok r ρ1 =>
    rw [hf] at hn
    simp only [bind_ok] at hn ⊢
    cases hes : esc ρ1 r with
    | none => rfl
    | some q =>
      obtain ⟨d, ρ2⟩ := q
      cases d <;> rfl
def dRg1 (fs : M (List Rv)) : M (List D) := fun ρ => (fs ρ).bind fun rs ρ1 => match rds ρ1 rs with
  | some [.int j] => if -(2 ^ 62) ≤ j ∧ j < 2 ^ 62 then .ok (rngD 0 j.toNat) ρ1 else .bad
  | _ => .bad
def dRg2 (fs : M (List Rv)) : M (List D) := fun ρ => (fs ρ).bind fun rs ρ1 => match rds ρ1 rs with
  | some [.int i, .int j] => if -(2 ^ 62) ≤ i ∧ i < 2 ^ 62 ∧ -(2 ^ 62) ≤ j ∧ j < 2 ^ 62 then .ok (rngD i (j - i).toNat) ρ1 else .bad
  | _ => .bad
theorem di_rg1 {a : Expr} (hm : X.mg "range" = none) (h : DA X W [a] fs) (hg : Gl X "range" := by rfl) (hs : starEach [a] X.env = [(false, eval a X.env)] := by rfl) : DI X W tg (.Call (.Name "range" p) [a] [] pos) (dRg1 fs) := PI.le (pi_range1 hg hm h hs) fun σ H R ⟨c, ρ, O, st, q⟩ => by
  unfold dRg1 at q
  refine tAs.step st (Po.bind q) fun rs ρ1 vs H1 O1 st1 e1 hvs q1 => ?_
  split at q1
  · rename_i j hj
    split at q1
    · rename_i hb
      have := st1.vws hvs hj
      cases this with
      | cons h1 t =>
        cases t
        exact ⟨j, by rw [h1.int], hb.1, hb.2, q1 H1 O1 st1 (.refl _) _ walkD_range⟩
    · exact q1.elim
  · exact q1.elim
end
end Pu
namespace Pu
open PySem PySem.Spec PyProof.Rows L2 My
variable [Tbs] [Nls]
def chk {α : Type} (i n : Nat) (ρ : En) (bad : α) (k : List D → α) : α := match ρ[i]? with
  | some (some (.pin, .lst ds)) => if ds.length = n then k ds else bad
  | _ => bad
def dForP (g : TM) (body : SM) (i n : Nat) : Nat → SM
  | 0 => fun ρ => chk i n ρ .bad fun _ => .nx ρ
  | m + 1 => fun ρ => chk i n ρ .bad fun ds => match ds[n - (m + 1)]? with
    | none => .bad
    | some d => match g d ρ with
      | none => .bad
      | some ρ1 => match body ρ1 with
        | .nx ρ2 => dForP g body i n m ρ2
        | .ct ρ2 => dForP g body i n m ρ2
        | .bk ρ2 => .nx ρ2
        | o => o
def unpin (i : Nat) (ρ : En) : En := match ρ[i]? with
  | some (some (.pin, d)) => ρ.set i (some (.own, d))
  | _ => ρ
def SOut.mapE (f : En → En) : SOut → SOut
  | .nx ρ => .nx (f ρ)
  | .rt d ρ => .rt d (f ρ)
  | .bk ρ => .bk (f ρ)
  | .ct ρ => .ct (f ρ)
  | .ex x fs ρ => .ex x fs (f ρ)
  | .rf d ρ => .rf d (f ρ)
  | .bad => .bad
def Out.mapE {α : Type} (f : En → En) : Out α → Out α
  | .ok a ρ => .ok a (f ρ)
  | .ex x fs ρ => .ex x fs (f ρ)
  | .bad => .bad
def dForO (i : Nat) (g : TM) (body : SM) : SM := fun ρ => match ρ[i]? with
  | some (some (.own, .lst ds)) => (dForP g body i ds.length ds.length (ρ.set i (some (.pin, .lst ds)))).mapE (unpin i)
  | some (some (.pin, .lst ds)) => dForP g body i ds.length ds.length ρ
  | _ => .bad
section
variable {B : Bs} {c : Cst} {ρ ρ' : En} {σ : L2.St} {H H' : Hp} {O O' : List Addr} {v : V} {d : D} {i : Nat} {p : Addr}
def pinC (c : Cst) (i : Nat) (p : Addr) : Cst := ⟨fun j => if j = i then p else c.pa j, c.F, c.H0⟩
theorem unpin_get {j : Nat} {x : Option (Kd × D)} (h : (unpin i ρ)[j]? = some x) : ρ[j]? = some x ∨ (j = i ∧ ∃ d, x = some (.own, d) ∧ ρ[i]? = some (some (.pin, d))) := by
  unfold unpin at h
  split at h
  · rename_i d hd
    rcases get_set h with ⟨rfl, _, z⟩ | ⟨_, q⟩
    · exact .inr ⟨rfl, d, z, hd⟩
    · exact .inl q
  · exact .inl h
theorem unpin_len : (unpin i ρ).length = ρ.length := by
  unfold unpin
  split <;> simp
theorem unpin_nopin {e : D} (h : (unpin i ρ)[i]? = some (some (.pin, e))) : False := by
  unfold unpin at h
  split at h
  · rename_i d hd
    rcases get_set h with ⟨_, _, z⟩ | ⟨z, _⟩
    · cases z
    · exact z rfl
  · rename_i hn
    exact hn e h
theorem Stt.unpin (st : Stt B (pinC c i p) ρ σ H O) : Stt B c (Pu.unpin i ρ) σ H O := by
  refine ⟨by rw [unpin_len]; exact st.len, ?_, ?_, ?_, ?_, st.liv, st.frm⟩
  · intro j e q
    rcases unpin_get q with q | ⟨rfl, d, z, hd⟩
    · exact st.val j e q
    · cases z
  · intro j k e q hk
    rcases unpin_get q with q | ⟨rfl, d, z, hd⟩
    · exact st.own j k e q hk
    · cases z
      exact st.own j .pin _ hd (by decide)
  · intro a b r k l x y qa qb hk hl sa sb
    have ea : ∃ k' x', ρ[a]? = some (some (k', x')) ∧ k' ≠ .val := by
      rcases unpin_get qa with qa | ⟨rfl, d, z, hd⟩
      · exact ⟨k, x, qa, hk⟩
      · exact ⟨.pin, _, hd, by decide⟩
    have eb : ∃ k' x', ρ[b]? = some (some (k', x')) ∧ k' ≠ .val := by
      rcases unpin_get qb with qb | ⟨rfl, d, z, hd⟩
      · exact ⟨l, y, qb, hl⟩
      · exact ⟨.pin, _, hd, by decide⟩
    obtain ⟨k1, x1, e1, n1⟩ := ea
    obtain ⟨k2, x2, e2, n2⟩ := eb
    exact st.sep a b r k1 k2 x1 x2 e1 e2 n1 n2 sa sb
  · intro j e q
    by_cases hj : j = i
    · subst hj
      exact (unpin_nopin q).elim
    · rcases unpin_get q with q | ⟨z, _⟩
      · have := st.pin j e q
        simpa [pinC, hj] using this
      · exact absurd z hj
theorem Free.unpin {q : Addr} (h : Free ρ σ q) : Free (Pu.unpin i ρ) σ q := fun j k e hj hk z => by
  rcases unpin_get hj with hj | ⟨rfl, d, zz, hd⟩
  · exact h j k e hj hk z
  · exact h j .pin d hd (by decide) z
theorem SPo.unpin {W : WX} {E : Ends} {o : SOut} (h : SPo B c W E H O (o.mapE (Pu.unpin i))) : SPo B (pinC c i p) W E H O o := by
  cases o with
  | nx ρ' => exact fun σ' H' O' st e => h σ' H' O' st.unpin e
  | rt d ρ' => exact fun v σ' H' O' st e => h v σ' H' O' st.unpin e
  | bk ρ' => exact fun σ' H' O' st e => h σ' H' O' st.unpin e
  | ct ρ' => exact fun σ' H' O' st e => h σ' H' O' st.unpin e
  | ex x fs ρ' => exact fun dd σ' H' O' st e => h dd σ' H' O' st.unpin e
  | rf d ρ' => exact fun q o σ' H' O' st e h1 h2 h3 h4 => h q o σ' H' O' st.unpin e h1 h2 h3.unpin h4
  | bad => exact h
theorem Po.unpin {α : Type} {W : WX} {R : α → En → Hp → List Addr → Prop} {o : Out α} (h : Po B c W σ H O (fun a ρ' H' O' => R a ρ' H' O') (o.mapE (Pu.unpin i))) : Po B (pinC c i p) W σ H O (fun a ρ' H' O' => R a (Pu.unpin i ρ') H' O') o := by
  cases o with
  | ok a ρ' => exact fun H' O' st e => h H' O' st.unpin e
  | ex x fs ρ' => exact fun dd H' O' st e => h dd H' O' st.unpin e
  | bad => exact h
end
section
variable {X : Cx} {W : WX} {tg : Expr} {b1 : List Stmt} {g : TM} {ws : List Nat} {fb : SM} {pos ps : Pos} {x : Str} {i : Nat}
end
def dLcPL (g : TM) (ct : M Bool) (fe : M Rv) (vs : List Nat) (i n : Nat) : Nat → List D → En → Out (List D)
  | 0, acc, ρ => chk i n (wipeE ρ vs) .bad fun _ => .ok acc ρ
  | m + 1, acc, ρ => chk i n (wipeE ρ vs) .bad fun ds => match ds[n - (m + 1)]? with
    | none => .bad
    | some d => match g d (wipeE ρ vs) with
      | none => .bad
      | some ρ1 => match ct ρ1 with
        | .ok true ρ2 => match fe ρ2 with
          | .ok r ρ3 => match esc ρ3 r with
            | some (y, ρ4) => if acc.length < sizeLine then dLcPL g ct fe vs i n m (acc ++ [y]) ρ4 else .bad
            | none => .bad
          | _ => .bad
        | .ok false ρ2 => dLcPL g ct fe vs i n m acc ρ2
        | _ => .bad
def dLcP (i n : Nat) (g : TM) (ct : M Bool) (fe : M Rv) (vs : List Nat) : M D := fun ρ => match dLcPL g ct fe vs i n n [] ρ with
  | .ok acc ρ2 => .ok (.lst acc) (wipeE ρ2 vs)
  | _ => .bad
def dLcO (i : Nat) (g : TM) (ct : M Bool) (fe : M Rv) (vs : List Nat) : M D := fun ρ => match ρ[i]? with
  | some (some (.own, .lst ds)) => (dLcP i ds.length g ct fe vs (ρ.set i (some (.pin, .lst ds)))).mapE (unpin i)
  | some (some (.pin, .lst ds)) => dLcP i ds.length g ct fe vs ρ
  | _ => .bad
section
variable {X : Cx} {W : WX} {elt tg iter e : Expr} {ifs : List Expr} {scope : Scope} {own : List (Str × Nat)} {pos : Pos} {g : TM} {ws vs : List Nat} {ct : M Bool} {fe : M Rv} {i : Nat}
end
end Pu
namespace Pu
open PySem PySem.Spec PyProof.Rows L2 My
variable [Tbs] [Nls]
inductive Src where
  | v (d : D) | o (d : D)
inductive SrcsOk (B : Bs) (c : Cst) (ρ : En) (σ : L2.St) (H : Hp) (O : List Addr) : List V → List Src → List Addr → Prop
  | nil : SrcsOk B c ρ σ H O [] [] []
  | v {u : V} {d : D} {vs : List V} {ss : List Src} {ps : List Addr} : Rep B (hide H O) u d → SrcsOk B c ρ σ H O vs ss ps → SrcsOk B c ρ σ H O (u :: vs) (.v d :: ss) ps
  | o {p : Addr} {ob : HO} {d : D} {vs : List V} {ss : List Src} {ps : List Addr} : H p = some ob → p ∈ O → Free ρ σ p → p ∉ c.F → RepO B (hide H O) p ob d → p ∉ ps → SrcsOk B c ρ σ H O vs ss ps → SrcsOk B c ρ σ H O (.ref p :: vs) (.o d :: ss) (p :: ps)
def tXs (B : Bs) (W : WX) (f : M (List Src)) : TA := fun σ H Q => ∃ c ρ O, Stt B c ρ σ H O ∧ Po B c W σ H O (fun ss ρ' H' O' => ∀ vs ps, SrcsOk B c ρ' σ H' O' vs ss ps → Q vs H') (f ρ)
abbrev DX (X : Cx) (W : WX) (es : List Expr) (f : M (List Src)) : Prop := PA X es (tXs (bs X) W f)
def xNil : M (List Src) := fun ρ => .ok [] ρ
def xV (fa : M Rv) (fs : M (List Src)) : M (List Src) := fun ρ => (fa ρ).bind fun r ρ1 => match esc ρ1 r with
  | some (d, ρ2) => (fs ρ2).bind fun ss ρ3 => .ok (.v d :: ss) ρ3
  | none => .bad
def xO (ff : M D) (fs : M (List Src)) : M (List Src) := fun ρ => (ff ρ).bind fun d ρ1 => (fs ρ1).bind fun ss ρ2 => .ok (.o d :: ss) ρ2
section
variable {B : Bs} {c : Cst} {ρ ρ' : En} {σ : L2.St} {H H' H1 : Hp} {O O' : List Addr} {p : Addr} {o0 : HO} {W : WX}
theorem Stt.unstill' (st : Stt B ⟨c.pa, p :: c.F, H1⟩ ρ σ H O) (hc : ∀ q ∈ c.F, H1 q = c.H0 q) (hF : p ∉ c.F) (hp : H1 p = some o0) : Stt B c ρ σ H O ∧ Free ρ σ p ∧ p ∈ O ∧ H p = some o0 := by
  have h0 : H p = some o0 := by rw [(st.frm p List.mem_cons_self).2]; exact hp
  obtain ⟨a, b, d, _⟩ := st.unstill (o := o0) hc hF (st.liv.notb p (st.frm p List.mem_cons_self).1 o0 h0)
  rw [upd_id h0] at a
  exact ⟨a, b, d, h0⟩
theorem Po.still {α : Type} {R : α → En → Hp → List Addr → Prop} {out : Out α} (h : Po B c W σ H O R out) (hc : ∀ q ∈ c.F, H1 q = c.H0 q) (hF : p ∉ c.F) (hp : H1 p = some o0) :
    Po B ⟨c.pa, p :: c.F, H1⟩ W σ H O (fun a ρ' H' O' => Stt B c ρ' σ H' O' ∧ Free ρ' σ p ∧ p ∈ O' ∧ H' p = some o0 ∧ R a ρ' H' O') out := by
  cases out with
  | ok a ρ' =>
    intro H' O' st e
    obtain ⟨s, f, m, z⟩ := st.unstill' hc hF hp
    exact ⟨s, f, m, z, h H' O' s e⟩
  | ex x fs ρ' => exact fun dd H' O' st e xa => h dd H' O' (st.unstill' hc hF hp).1 e xa
  | bad => exact h
end
section
variable {X : Cx} {W : WX} {e : Expr} {es : List Expr} {fa : M Rv} {ff : M D} {fs : M (List Src)}
theorem dx_nil : DX X W [] xNil := PA.le pa_nil fun σ H Q ⟨c, ρ, O, st, q⟩ => q H O st (.refl _) [] [] .nil
theorem dx_v (ha : DE X W e fa) (hr : DX X W es fs) (hs : starEach (e :: es) X.env = (false, eval e X.env) :: starEach es X.env := by rfl) : DX X W (e :: es) (xV fa fs) := PA.le (pa_cons ha hr hs) fun σ H Q ⟨c, ρ, O, st, q⟩ => by
  unfold xV at q
  refine tP.step st (Po.bind q) fun r ρ1 v H1 O1 st1 e1 hv q1 => ?_
  split at q1
  · rename_i d ρ2 hes
    obtain ⟨O2, st2, e2, hr2⟩ := st1.esc hv hes
    have q2 := Po.bind q1
    cases hf : fs ρ2 with
    | bad => rw [hf] at q2; exact q2.elim
    | ex x gs ρ3 => exact ⟨c, ρ2, O2, st2, by rw [hf] at q2 ⊢; exact fun dd H' O' s e => q2 dd H' O' s (e2.trans e)⟩
    | ok ss ρ3 =>
      refine ⟨c, ρ2, O2, st2, ?_⟩
      rw [hf] at q2 ⊢
      intro H3 O3 st3 e3 vs ps hvs
      exact q2 H3 O3 st3 (e2.trans e3) H3 O3 st3 (.refl _) (v :: vs) ps (.v (hr2.mono e3) hvs)
  · exact q1.elim
theorem dx_o (ha : DF X W e ff) (hr : DX X W es fs) (hs : starEach (e :: es) X.env = (false, eval e X.env) :: starEach es X.env := by rfl) : DX X W (e :: es) (xO ff fs) := PA.le (pa_cons ha hr hs) fun σ H Q ⟨c, ρ, O, st, q⟩ => by
  unfold xO at q
  have q0 := Po.bind q
  refine ⟨c, ρ, O, st, ?_⟩
  cases hff : ff ρ with
  | bad => rw [hff] at q0; exact q0
  | ex x gs ρ1 => rw [hff] at q0; exact q0
  | ok d ρ1 =>
    rw [hff] at q0
    intro H1 O1 st1 e1 p o ho hp hfr hF hro
    have q1 := Po.bind (q0 H1 O1 st1 e1)
    have q2 := Po.still q1 (fun q hq => (st1.frm q hq).2) hF ho
    refine ⟨_, ρ1, O1, st1.still ho hp hfr, ?_⟩
    cases hf : fs ρ1 with
    | bad => rw [hf] at q2; exact q2
    | ex x gs ρ2 => rw [hf] at q2; exact q2
    | ok ss ρ2 =>
      rw [hf] at q2
      intro H2 O2 st2 e2 vs ps hvs
      obtain ⟨s, f, m, z, q3⟩ := q2 H2 O2 st2 e2
      have hro2 := hro.mono e2
      have key : ∀ {vs : List V} {ss : List Src} {ps : List Addr}, SrcsOk (bs X) ⟨c.pa, p :: c.F, H1⟩ ρ2 σ H2 O2 vs ss ps → SrcsOk (bs X) c ρ2 σ H2 O2 vs ss ps ∧ p ∉ ps := by
        intro vs ss ps h
        induction h with
        | nil => exact ⟨.nil, by simp⟩
        | v r _ ih => exact ⟨.v r ih.1, ih.2⟩
        | o h1 h2 h3 h4 h5 h6 _ ih =>
          rw [List.mem_cons, not_or] at h4
          refine ⟨.o h1 h2 h3 h4.2 h5 h6 ih.1, ?_⟩
          rw [List.mem_cons, not_or]
          exact ⟨fun z => h4.1 z.symm, ih.2⟩
      obtain ⟨k1, k2⟩ := key hvs
      exact q3 H2 O2 s (.refl _) (.ref p :: vs) (p :: ps) (.o z m f hF hro2 k2 k1)
def putS (ρ : En) : List Nat → List Src → Option En
  | [], [] => some ρ
  | i :: is, .v d :: ss => putS (ρ.set i (some (.val, d))) is ss
  | i :: is, .o d :: ss => putS (ρ.set i (some (.own, d))) is ss
  | _, _ => none
def putV (σ : L2.St) : List Nat → List V → L2.St
  | i :: is, v :: vs => putV (σ.set i (some v)) is vs
  | _, _ => σ
theorem putS_ok {B : Bs} {c : Cst} {H : Hp} {O : List Addr} : ∀ {vs : List V} {ss : List Src} {ps : List Addr} {ρ ρ' : En} {σ : L2.St} (is : List Nat), Stt B c ρ σ H O → SrcsOk B c ρ σ H O vs ss ps → putS ρ is ss = some ρ' → Stt B c ρ' (putV σ is vs) H O := by
  have upd' : ∀ {vs : List V} {ss : List Src} {ps : List Addr} {ρ : En} {σ : L2.St} (i : Nat) (x : Option (Kd × D)) (u : V) (q : Option Addr), SrcsOk B c ρ σ H O vs ss ps → (∀ k d, x = some (k, d) → k ≠ .val → ∃ p, q = some p ∧ u = .ref p ∧ p ∉ ps) → ρ.length = σ.length → SrcsOk B c (ρ.set i x) (σ.set i (some u)) H O vs ss ps := by
    intro vs ss ps ρ σ i x u q h
    induction h with
    | nil => intro _ _; exact .nil
    | v r _ ih => intro a b; exact .v r (ih a b)
    | @o p ob d vs ss ps h1 h2 h3 h4 h5 h6 _ ih =>
      intro a b
      refine .o h1 h2 ?_ h4 h5 h6 (ih (fun k d e hk => ?_) b)
      · intro j k e hj hk z
        rcases get_set hj with ⟨rfl, hl, y⟩ | ⟨hji, hj⟩
        · obtain ⟨p', e1, e2, e3⟩ := a k e y.symm hk
          rw [List.getElem?_set_self (by omega)] at z
          rw [e2] at z
          cases z
          exact e3 List.mem_cons_self
        · rw [List.getElem?_set_ne (Ne.symm hji)] at z
          exact h3 j k e hj hk z
      · obtain ⟨p', e1, e2, e3⟩ := a k d e hk
        exact ⟨p', e1, e2, fun z => e3 (.tail _ z)⟩
  intro vs ss ps
  intro ρ ρ' σ is st h
  induction is generalizing vs ss ps ρ σ with
  | nil =>
    intro e
    cases h with
    | nil => simp only [putS] at e; cases e; exact st
    | v _ _ => simp only [putS] at e; cases e
    | o _ _ _ _ _ _ _ => simp only [putS] at e; cases e
  | cons i is ih =>
    intro e
    cases h with
    | nil => simp only [putS] at e; cases e
    | v r t =>
      simp only [putS] at e
      exact ih (st.set i r) (upd' i _ _ none t (fun k d z hk => by cases z; exact absurd rfl hk) st.len) e
    | o h1 h2 h3 h4 h5 h6 t =>
      simp only [putS] at e
      exact ih (st.setO i h1 h2 h4 h3 h5) (upd' i _ _ (some _) t (fun k d z hk => ⟨_, rfl, rfl, h6⟩) st.len) e
theorem SrcsOk.len {B : Bs} {c : Cst} {ρ : En} {σ : L2.St} {H : Hp} {O : List Addr} {vs : List V} {ss : List Src} {ps : List Addr} (h : SrcsOk B c ρ σ H O vs ss ps) : vs.length = ss.length := by
  induction h with
  | nil => rfl
  | v _ _ ih => simp [ih]
  | o _ _ _ _ _ _ _ ih => simp [ih]
theorem putS_len : ∀ {ss : List Src} {is : List Nat} {ρ ρ' : En}, putS ρ is ss = some ρ' → ss.length = is.length
  | [], [], _, _, _ => rfl
  | [], _ :: _, _, _, h => by simp only [putS] at h; cases h
  | .v _ :: _, [], _, _, h => by simp only [putS] at h; cases h
  | .o _ :: _, [], _, _, h => by simp only [putS] at h; cases h
  | .v _ :: ss, i :: is, _, _, h => by simp only [putS] at h; simp [putS_len h]
  | .o _ :: ss, i :: is, _, _, h => by simp only [putS] at h; simp [putS_len h]
def dPar (is : List Nat) (fs : M (List Src)) : SM := fun ρ => (fs ρ).then fun ss ρ1 => match putS ρ1 is ss with
  | some ρ2 => .nx ρ2
  | none => .bad
theorem par_le {E : Ends} {σ : L2.St} {H : Hp} {is : List Nat} (h : tS (bs X) W (dPar is fs) E σ H) : tXs (bs X) W fs σ H fun vs H1 => vs.length = is.length ∧ E.nx (putV σ is vs) H1 := by
  obtain ⟨c, ρ, O, st, q⟩ := h
  unfold dPar at q
  refine ⟨c, ρ, O, st, ?_⟩
  have q' := SPo.then (σ := σ) q
  cases hf : fs ρ with
  | bad => rw [hf] at q'; exact q'
  | ex x gs ρ1 => rw [hf] at q'; exact q'
  | ok ss ρ1 =>
    rw [hf] at q'
    intro H1 O1 st1 e1 vs ps hvs
    have q2 := q' H1 O1 st1 e1
    simp only at q2
    split at q2
    · rename_i ρ2 hp
      exact ⟨by rw [hvs.len, putS_len hp], q2 _ H1 O1 (putS_ok is st1 hvs hp) (.refl _)⟩
    · exact q2.elim
theorem ds_par2 {st : Stmt} {i j : Nat} (h : ∀ ta, PA X es ta → PS X st (tPar i j ta)) (hx : DX X W es fs) : DS X W st (dPar [i, j] fs) := PS.le (h _ hx) fun E σ H q => by
  obtain ⟨c, ρ, O, st, q⟩ := par_le q
  refine ⟨c, ρ, O, st, Po.mono q (.refl _) fun ss ρ' H' O' z vs ps hv => ?_⟩
  obtain ⟨h1, h2⟩ := z vs ps hv
  match vs, h1 with
  | [u, w], _ => exact ⟨u, w, rfl, h2⟩
theorem ds_par3 {st : Stmt} {i j l : Nat} (h : ∀ ta, PA X es ta → PS X st (tPar3 i j l ta)) (hx : DX X W es fs) : DS X W st (dPar [i, j, l] fs) := PS.le (h _ hx) fun E σ H q => by
  obtain ⟨c, ρ, O, st, q⟩ := par_le q
  refine ⟨c, ρ, O, st, Po.mono q (.refl _) fun ss ρ' H' O' z vs ps hv => ?_⟩
  obtain ⟨h1, h2⟩ := z vs ps hv
  match vs, h1 with
  | [u, w, y], _ => exact ⟨u, w, y, rfl, h2⟩
end
def dAug (i : Nat) (g : D → D → Option D) (fe : M Rv) : SM := fun ρ => match ρ[i]? with
  | some (some (.val, d)) => (fe ρ).then fun r ρ1 => match rd ρ1 r with
    | some y => match g d y with
      | some z => .nx (ρ1.set i (some (.val, z)))
      | none => .bad
    | none => .bad
  | _ => .bad
def addI : D → D → Option D
  | .int i, .int j => some (.int (i + j))
  | _, _ => none
def subI : D → D → Option D
  | .int i, .int j => some (.int (i - j))
  | _, _ => none
section
variable {X : Cx} {W : WX} {e a b c : Expr} {es : List Expr} {fa fb fc fe : M Rv} {fs : M (List Rv)} {st : Stmt} {i : Nat} {pos p pos2 : Pos} {k : Nat}
theorem aug_le {op : Int → Int → Int} {g : D → D → Option D} {E : Ends} {σ : L2.St} {H : Hp} (hg : ∀ x y z, g x y = some z → ∃ i j, x = .int i ∧ y = .int j ∧ z = .int (op i j)) (h : tS (bs X) W (dAug i g fe) E σ H) : tAug i (tP (bs X) W fe) (ipI op) E σ H := by
  obtain ⟨c, ρ, O, st, q⟩ := h
  unfold dAug at q
  split at q
  · rename_i d hd
    obtain ⟨v, h1, h2⟩ := st.val i d hd
    refine ⟨v, h1, ?_⟩
    refine tP.step st (SPo.then q) fun r ρ1 y H1 O1 st1 e1 hy q1 => ?_
    split at q1
    · rename_i dy hdy
      split at q1
      · rename_i z hz
        obtain ⟨x', y', rfl, rfl, rfl⟩ := hg _ _ _ hz
        refine ⟨x', y', h2.int_inv, (st1.vw hy hdy).int, ?_⟩
        exact q1 _ H1 O1 (st1.set i (.int _)) (.refl _)
      · exact q1.elim
    · exact q1.elim
  · exact q.elim
theorem ds_augAdd (h : ∀ te, PE X e te → PS X st (tAug i te (ipI fun i j => i + j))) (he : DE X W e fe) : DS X W st (dAug i addI fe) := PS.le (h _ he) fun E σ H q => aug_le (fun x y z h => by
  unfold addI at h
  split at h
  · cases h; exact ⟨_, _, rfl, rfl, rfl⟩
  · cases h) q
def dRaise (x : Str) (fn : List Str) (fs : M (List Rv)) : SM := fun ρ => (fs ρ).then fun rs ρ1 => match escs ρ1 rs with
  | some (ds, ρ2) => if ds.length = fn.length ∧ ds.length ≤ 1000 ∧ fn ≠ [] then .ex x (fn.zip ds).reverse ρ2 else .bad
  | none => .bad
def dRaise0 (x : Str) : SM := fun ρ => .ex x [] ρ
theorem zip_rep {B : Bs} {G : Hp} {vs : List V} {ds : List D} (fn : List Str) (r : RepL B G vs ds) (hl : ds.length = fn.length) : ((fn.zip vs).reverse.map (·.1)) = ((fn.zip ds).reverse.map (·.1)) ∧ RepL B G ((fn.zip vs).reverse.map (·.2)) ((fn.zip ds).reverse.map (·.2)) := by
  have l1 : vs.length = fn.length := r.length.trans hl
  rw [List.map_reverse, List.map_reverse, List.map_reverse, List.map_reverse]
  have e1 : (fn.zip vs).map (·.1) = fn := List.map_fst_zip (by omega)
  have e2 : (fn.zip ds).map (·.1) = fn := List.map_fst_zip (by omega)
  have e3 : (fn.zip vs).map (·.2) = vs := List.map_snd_zip (by omega)
  have e4 : (fn.zip ds).map (·.2) = ds := List.map_snd_zip (by omega)
  rw [e1, e2, e3, e4]
  exact ⟨rfl, r.reverse⟩
theorem ds_raise {x : Str} {sI : Stmt} {fn : List Str} (R : Ex X.prog X.K X.mg x sI fn) (hr : RmG k X.A) (hk : 1 ≤ k) (hc : X.calm = true) (tk : Takes X W) (ha : DA X W (e :: es) fs) (hg : Gl X x := by rfl)
    (hdb : (x == ("__debug__" : Str)) = false := by decide) (he : starEach (e :: es) X.env = (false, eval e X.env) :: starEach es X.env := by rfl) (hpl : (backTo pos (starEach es X.env)).any (·.1) = false := by rfl) :
    DS X W (.Raise (some (.Call (.Name x p) (e :: es) [] pos)) none pos2) (dRaise x fn fs) := PS.le (ps_err R (hr.rm.mono hk) hc tk ha hg hdb he hpl) fun E σ H ⟨c, ρ, O, st, q⟩ => by
  unfold dRaise at q
  refine tAs.step st (SPo.then q) fun rs ρ1 vs H1 O1 st1 e1 hvs q1 => ?_
  split at q1
  · rename_i ds ρ2 hes
    obtain ⟨O2, st2, e2, hr2⟩ := escs_ok st1 hvs hes
    split at q1
    · rename_i hc
      obtain ⟨h1, h2, h3⟩ := hc
      refine mk_ok (C := My.fa X.mg x) (H := H1) (Q := fun cls d H' => W cls d σ H') (by rw [hr2.length]; exact h1) (by rw [hr2.length]; exact h2) h3 fun d hd => ?_
      have en : Same H1 (upd H1 d (.xd (fn.zip vs).reverse)) := Same.new hd
      obtain ⟨z1, z2⟩ := zip_rep fn (hr2.mono (same_hide en)) h1
      exact q1 (some d) σ _ O2 (st2.ext en) (e2.trans (same_hide en)) ⟨_, hide_new st2.liv hd, z1, z2⟩
    · exact q1.elim
  · exact q1.elim
def dChain (g1 g2 : Int → Int → Bool) (fa fb fc : M Rv) : M Rv := fun ρ => (fa ρ).bind fun a ρ1 => (fb ρ1).bind fun b ρ2 => match rd ρ2 a, rd ρ2 b with
  | some (.int x), some (.int y) => if g1 x y = true then (fc ρ2).bind fun cc ρ3 => (match rd ρ3 cc with
      | some (.int z) => .ok (.val (.bl (g2 y z))) ρ3
      | _ => .bad) else .ok (.val (.bl false)) ρ2
  | _, _ => .bad
theorem dB_le {B : Bs} {f : M Rv} {σ : L2.St} {H : Hp} {Q : Bool → Hp → Prop} (h : tQ B W (dB f) σ H Q) : tP B W f σ H fun v H' => ∃ k, v = .bl k ∧ Q k H' := by
  obtain ⟨c, ρ, O, st, q⟩ := h
  unfold dB at q
  refine tP.step st (Po.bind q) fun r1 ρ1 v H1 O1 st1 e1 hv q1 => ?_
  split at q1
  · rename_i x hx
    cases x <;> simp only [bD, outB] at q1 <;> first | exact q1.elim | skip
    exact ⟨_, (st1.vw hv hx).bl, q1 H1 O1 st1 (.refl _)⟩
  · exact q1.elim
end
end Pu
namespace SrtK
open PySem PyProof.Rows SrtO
section
variable {α : Type} {lt : α → α → Bool}
def ins (lt : α → α → Bool) (x : α) : List α → List α
  | [] => [x]
  | y :: l => if lt y x = true then y :: ins lt x l else x :: y :: l
def isort (lt : α → α → Bool) : List α → List α
  | [] => []
  | x :: l => ins lt x (isort lt l)
theorem ins_perm (x : α) : ∀ l : List α, (ins lt x l).Perm (x :: l)
  | [] => .refl _
  | y :: l => by
    unfold ins
    split
    · exact ((ins_perm x l).cons y).trans (.swap x y l)
    · exact .refl _
theorem isort_perm : ∀ l : List α, (isort lt l).Perm l
  | [] => .refl _
  | x :: l => (ins_perm x _).trans ((isort_perm l).cons x)
theorem ins_srtd (O : Swo lt) (x : α) : ∀ l : List α, Srtd lt l → Srtd lt (ins lt x l)
  | [], _ => srtd_one x
  | y :: l, h => by
    unfold ins
    split
    · rename_i hl
      refine List.pairwise_cons.mpr ⟨fun z hz => ?_, ins_srtd O x l (List.pairwise_cons.mp h).2⟩
      rcases List.mem_cons.mp ((ins_perm x l).mem_iff.mp hz) with rfl | hz
      · exact O.asym _ _ hl
      · exact srtd_head h z hz
    · rename_i hl
      refine List.pairwise_cons.mpr ⟨fun z hz => ?_, h⟩
      exact O.le_all h (by cases e : lt y x with | true => exact absurd e hl | false => rfl) z hz
theorem isort_srtd (O : Swo lt) : ∀ l : List α, Srtd lt (isort lt l)
  | [] => .nil
  | x :: l => ins_srtd O x _ (isort_srtd O l)
theorem ins_cls (O : Swo lt) (x z : α) : ∀ l : List α, (ins lt x l).filter (eqv lt z) = (x :: l).filter (eqv lt z)
  | [] => rfl
  | y :: l => by
    unfold ins
    split
    · rename_i hl
      have ih := ins_cls O x z l
      rw [List.filter_cons, ih, List.filter_cons, List.filter_cons, List.filter_cons]
      cases hx : eqv lt z x with
      | false => simp
      | true =>
        cases hy : eqv lt z y with
        | false => simp
        | true =>
          obtain ⟨a, b⟩ := eqv_iff.mp hx
          obtain ⟨c, d⟩ := eqv_iff.mp hy
          have := O.tr x z y a d
          rw [hl] at this
          cases this
    · rfl
theorem isort_stb (O : Swo lt) : ∀ l : List α, Stb lt (isort lt l) l
  | [] => .refl _
  | x :: l => ⟨isort_perm _, fun z => by
    rw [show isort lt (x :: l) = ins lt x (isort lt l) from rfl, ins_cls O, List.filter_cons, List.filter_cons, (isort_stb O l).cls z]⟩
theorem uniq (O : Swo lt) : ∀ l m : List α, Srtd lt l → Srtd lt m → Stb lt l m → l = m
  | [], m, _, _, h => (List.nil_perm.mp h.perm).symm
  | x :: l, [], _, _, h => by have := h.perm.length_eq; simp at this
  | x :: l, y :: m, hl, hm, h => by
    have hy : y ∈ x :: l := h.perm.mem_iff.mpr List.mem_cons_self
    have hx : x ∈ y :: m := h.perm.mem_iff.mp List.mem_cons_self
    have h1 : lt y x = false := by
      rcases List.mem_cons.mp hy with e | q
      · rw [e]; exact O.refl x
      · exact srtd_head hl y q
    have h2 : lt x y = false := by
      rcases List.mem_cons.mp hx with e | q
      · rw [e]; exact O.refl y
      · exact srtd_head hm x q
    have c := h.cls x
    rw [List.filter_cons, List.filter_cons, if_pos (eqv_iff.mpr ⟨O.refl x, O.refl x⟩), if_pos (eqv_iff.mpr ⟨h2, h1⟩)] at c
    obtain ⟨rfl, _⟩ := List.cons.inj c
    rw [uniq O l m (List.pairwise_cons.mp hl).2 (List.pairwise_cons.mp hm).2 ⟨h.perm.cons_inv, fun z => ?_⟩]
    have c2 := h.cls z
    rw [List.filter_cons, List.filter_cons] at c2
    split at c2
    · exact (List.cons.inj c2).2
    · exact c2
theorem is_isort (O : Swo lt) {l m : List α} (h1 : Srtd lt l) (h2 : Stb lt l m) : l = isort lt m := by
  refine uniq O _ _ h1 (isort_srtd O m) (h2.trans ?_)
  have := isort_stb O m
  exact ⟨this.perm.symm, fun x => (this.cls x).symm⟩
end
theorem ins_rel {α β : Type} {R : α → β → Prop} {lt : α → α → Bool} {lt' : β → β → Bool} (hlt : ∀ x y u v, R x u → R y v → lt x y = lt' u v) {x : α} {u : β} (hx : R x u) : ∀ {l : List α} {m : List β}, Paired R l m → Paired R (ins lt x l) (ins lt' u m)
  | _, _, .nil => .cons hx .nil
  | _, _, .cons (a := y) (b := v) h t => by
    unfold ins
    rw [hlt _ _ _ _ h hx]
    split
    · exact .cons h (ins_rel hlt hx t)
    · exact .cons hx (.cons h t)
theorem isort_rel {α β : Type} {R : α → β → Prop} {lt : α → α → Bool} {lt' : β → β → Bool} (hlt : ∀ x y u v, R x u → R y v → lt x y = lt' u v) : ∀ {l : List α} {m : List β}, Paired R l m → Paired R (isort lt l) (isort lt' m)
  | _, _, .nil => .nil
  | _, _, .cons h t => ins_rel hlt h (isort_rel hlt t)
open PySem.Spec L2
section
variable {X : Cx} {pins : List (Addr × Obj)} {σ : L2.St} {H : Hp} {s : Shared} {A : Around} {E : Value → Shared → Prop} {a kS : Addr} {b : Bool} {vs : List Value} {keys : Array Value} {e e1 : Nat} {P : PySem.Fin → Shared → Prop} {ltv : Value → Value → Bool}
theorem _root_.L2.Inv.track {o : HO} (I : Inv X pins σ H s) (f : FpOk X pins H a) (new : ObjOk X.prog X.w (upd H a o) s.heap a o) : Inv X pins σ (upd H a o) s := by
  obtain ⟨f0, f1, f2, f3, f4, f5⟩ := f
  have ne : ∀ c u, H c = some u → c ≠ a := fun c u q z => by rw [z, f0] at q; cases q
  have := I.step (g' := s.gens) (d' := s.drawn) (t' := s.toks) (h' := s.heap) (H' := upd H a o) (ch := [a]) (fun c hc => by
      have : c = a := by simpa using hc
      subst this
      exact ⟨f3, f1, f4, f5⟩) (fun c u _ _ _ q _ => q) (fun c u _ _ _ q _ => ⟨u.slots, q⟩) (fun c u hc q n => by rw [upd_ne (by simpa using hc)]; exact n) (fun c u _ q => ⟨u, q⟩)
    (fun c xs q => by rw [upd_ne (ne _ _ q)]; exact q) (fun c u xs q => by rw [upd_ne (ne _ _ q)]; exact q) (fun c ps q => ⟨#[], by rw [upd_ne (ne _ _ q), q]; simp⟩) (fun m hm => hm) (I.hok.laidN (fun _ _ q => q) f0 new) I.bare
  exact this
def KeysOk (prog : Program) (w : World) (A : Around) (keys : List Value) (ltv : Value → Value → Bool) : Prop :=
  ∀ s : Shared, ∃ κ, (∀ (Q : SortKind → Shared → Prop) (E : Value → Shared → Prop), Q κ s → wpAny (model prog w) A (keyKind' keys.toArray) Q E s) ∧ Cmp prog w A s κ (fun p => p.1 ∈ keys) (lt2 ltv)
def outK (b : Bool) (ltv : Value → Value → Bool) (keys vs : List Value) : List Value := if b = true then ((isort (lt2 ltv) (keys.zip vs).reverse).map (·.2)).reverse else (isort (lt2 ltv) (keys.zip vs)).map (·.2)
theorem outK_len : (outK b ltv keys.toList vs).length = min keys.size vs.length := by
  unfold outK
  split
  · rw [List.length_reverse, List.length_map, (isort_perm _).length_eq, List.length_reverse, List.length_zip, Array.length_toList]
  · rw [List.length_map, (isort_perm _).length_eq, List.length_zip, Array.length_toList]
theorem key_end (O : Swo ltv) (nk : s.heap.get? kS = some (seqObj "list" keys e)) (na : s.heap.get? a = some (seqObj "list" #[] e1)) (hka : kS ≠ a) (hsz : keys.size = vs.length) (hz : vs.length ≤ sizeLine) (hK : 2 ≤ keys.size → KeysOk X.prog X.w A keys.toList ltv)
    (h : ∀ h' tk c c', h'.get? a = some (seqObj "list" (outK b ltv keys.toList vs).toArray c) → h'.get? kS = some (seqObj "list" #[] c') → (∀ x o, x ≠ a → x ≠ kS → s.heap.get? x = some o → h'.get? x = some o) → P (.done (.ret .none)) { s with heap := h', toks := tk }) :
    wpAny (model X.prog X.w) A (ksk_end a b vs.toArray e1 (.ref kS) keys) P E s := by
  have fin : ∀ st : SortSt, (arrOf st).toList = isort (lt2 ltv) (if b = true then (keys.zip vs.toArray).reverse else keys.zip vs.toArray).toList → failedOf st = none → wpAny (model X.prog X.w) A (ksk_tail a b e1 (.ref kS) st) P E s := by
    intro st hst hfl
    have hout : (if b then ((arrOf st).map (·.2)).reverse else (arrOf st).map (·.2)) = (outK b ltv keys.toList vs).toArray := by
      apply Array.toList_inj.mp
      unfold outK
      cases b with
      | false =>
        simp only [Bool.false_eq_true, if_false, Array.toList_map]
        rw [hst]
        simp only [Bool.false_eq_true, if_false]
        rw [ksk_zip]
      | true =>
        simp only [if_true, Array.toList_reverse, Array.toList_map]
        rw [hst]
        simp only [if_true, Array.toList_reverse]
        rw [ksk_zip]
    have s1 := Heap.SameBut.update s.heap kS (Obj.mapSeq fun _ => (#[] : Array Value))
    have na1 : (s.heap.update kS (Obj.mapSeq fun _ => (#[] : Array Value))).get? a = some (seqObj "list" #[] e1) := (s1.2 a hka.symm).trans na
    have hc1' := get?_update_seq nk (fun _ => (#[] : Array Value))
    obtain ⟨c1, hc1⟩ : ∃ c1, (s.heap.update kS (Obj.mapSeq fun _ => (#[] : Array Value))).get? kS = some (seqObj "list" #[] c1) := ⟨_, hc1'⟩
    have s2 := Heap.SameBut.update (s.heap.update kS (Obj.mapSeq fun _ => (#[] : Array Value))) a (Obj.mapSeq fun _ => if b then ((arrOf st).map (·.2)).reverse else (arrOf st).map (·.2))
    have hc2' := get?_update_seq na1 (fun _ => if b then ((arrOf st).map (·.2)).reverse else (arrOf st).map (·.2))
    obtain ⟨c2, hc2⟩ : ∃ c2, ((s.heap.update kS (Obj.mapSeq fun _ => (#[] : Array Value))).update a (Obj.mapSeq fun _ => if b then ((arrOf st).map (·.2)).reverse else (arrOf st).map (·.2))).get? a = some (seqObj "list" (if b then ((arrOf st).map (·.2)).reverse else (arrOf st).map (·.2)) c2) := ⟨_, hc2'⟩
    unfold ksk_tail
    try dsimp only
    refine wpAny_bind (listUpdate_at nk rfl ?_ (by rw [hsz]; exact hz) (Nat.zero_le _))
    refine wpAny_bind (wpAny_letGo ?_)
    refine wpAny_bind (seqEpoch_at na1 rfl ?_)
    refine wpAny_bind (listUpdate_at na1 rfl ?_ (Nat.zero_le _) ?_)
    · rw [hfl]
      simp only [bne_self_eq_false, Bool.false_eq_true, if_false]
      refine wpAny_pure (h _ _ c2 c1 ?_ ?_ ?_)
      · rw [hc2, hout]
      · exact (s2.2 kS hka).trans hc1
      · intro x o hxa hxk hx
        exact (s2.2 x hxa).trans ((s1.2 x hxk).trans hx)
    · rw [hout, List.size_toArray, outK_len, hsz, Nat.min_self]
      omega
  have step : ∀ t : Sem PySem.Fin, wpAny (model X.prog X.w) A t P E s → wpAny (model X.prog X.w) A (if b = true then (do let _ ← rule "list.sort.reverse"; t) else t) P E s := by
    intro t ht
    split
    · exact wpAny_bind (wpAny_rule ht)
    · exact ht
  unfold ksk_end
  try dsimp only
  refine step _ ?_
  have hzl : (if b = true then (keys.zip vs.toArray).reverse else keys.zip vs.toArray).toList.length = vs.length := by
    cases b with
    | false => simp [hsz]
    | true => simp [hsz]
  by_cases h2 : vs.toArray.size < 2
  · rw [if_pos h2, if_pos h2]
    refine wpAny_bind (wpAny_pure ?_)
    rw [StateT.run_pure]
    refine wpAny_bind (wpAny_pure ?_)
    try dsimp only
    refine fin (SortSt.mk' general' (if b = true then (keys.zip vs.toArray).reverse else keys.zip vs.toArray) #[] 7 none) ?_ rfl
    show (if b = true then (keys.zip vs.toArray).reverse else keys.zip vs.toArray).toList = _
    rw [List.size_toArray] at h2
    generalize (if b = true then (keys.zip vs.toArray).reverse else keys.zip vs.toArray).toList = l at hzl
    match l, hzl with
    | [], _ => rfl
    | [x], _ => rfl
    | _ :: _ :: _, q => simp at q; omega
  · rw [if_neg h2, if_neg h2]
    rw [List.size_toArray] at h2
    obtain ⟨κ, hkind, hT⟩ := hK (by omega) s
    rw [Array.toArray_toList] at hkind
    refine wpAny_bind (hkind _ _ ?_)
    have hall : AllL (fun p : Keyed => p.1 ∈ keys.toList) (if b = true then (keys.zip vs.toArray).reverse else keys.zip vs.toArray).toList := fun p hm => by
      have : p ∈ keys.toList.zip vs := by
        cases b with
        | false => simp only [Bool.false_eq_true, if_false] at hm; rw [ksk_zip] at hm; exact hm
        | true => simp only [if_true, Array.toList_reverse, List.mem_reverse] at hm; rw [ksk_zip] at hm; exact hm
      obtain ⟨p1, p2⟩ := p
      exact (List.of_mem_zip this).1
    refine wpAny_bind (wpAny_mono (wpS_sortO (st0 := SortSt.mk' κ (if b = true then (keys.zip vs.toArray).reverse else keys.zip vs.toArray) #[] 7 none)
      (Q := fun _ st' => Srtd (lt2 ltv) (arrOf st').toList ∧ Stb (lt2 ltv) (arrOf st').toList (if b = true then (keys.zip vs.toArray).reverse else keys.zip vs.toArray).toList ∧ failedOf st' = none) (swo2 O) hT rfl hall rfl rfl fun st' a1 a2 a3 => ⟨a1, a2, a3⟩) ?_ fun _ _ e => e)
    rintro ⟨⟨⟩, st'⟩ s' ⟨rfl, hp1, hp2, hf⟩
    try dsimp only
    exact fin st' (is_isort (swo2 O) hp1 hp2) hf
end
end SrtK
namespace SrtK
open PySem PyProof.Rows SrtO PySem.Spec L2
section
variable {X : Cx} {pins : List (Addr × Obj)} {σ : L2.St} {H : Hp} {s : Shared} {A : Around} {E : Value → Shared → Prop} {a kS : Addr} {b : Bool} {vs : List Value} {e e1 : Nat} {ltv : Value → Value → Bool} {f : Value}
def Turn (X : Cx) (σ : L2.St) (A : Around) (f : Value) (vs : List Value) (kvs : List V) (P : Nat → Hp → Prop) : Prop :=
  ∀ (i : Nat) (v : Value), vs[i]? = some v → ∀ (pins : List (Addr × Obj)) (s : Shared) (H : Hp), Inv X pins σ H s → P i H → wpAny (model X.prog X.w) A (call f [v]) (EP X pins σ fun k H' => kvs[i]? = some k ∧ P (i + 1) H') (fun _ _ => False) s
theorem key_rest {R : PySem.Fin → Shared → Prop} {kvs : List V} {P : Nat → Hp → Prop} (O : Swo ltv) (I : Inv X pins σ H s) (h0 : P 0 H) (nk : s.heap.get? kS = some (seqObj "list" #[] 0)) (na : s.heap.get? a = some (seqObj "list" #[] e1)) (hka : kS ≠ a) (fk : FpOk X pins H kS) (fa : FpOk X pins H a)
    (hlen : kvs.length = vs.length) (hz : vs.length ≤ sizeLine) (turn : Turn X σ A f vs kvs P) (hK : ∀ keys : List Value, Vals kvs keys → 2 ≤ keys.length → KeysOk X.prog X.w A keys ltv)
    (h : ∀ s' H' keys c, Inv X pins σ H' s' → P vs.length H' → Vals kvs keys → s'.heap.get? a = some (seqObj "list" (outK b ltv keys vs).toArray c) → FpOk X pins H' a → R (.done (.ret .none)) s') :
    wpAny (model X.prog X.w) A (ksk_rest a f b vs.toArray e1 (.ref kS)) R E s := by
  unfold ksk_rest
  refine wpAny_bind (wpAny_rule ?_)
  rw [List.forIn_toArray]
  refine wpAny_bind (ksk_fold (fun i s' => ∃ H' kA e, Inv X pins σ H' s' ∧ P i H' ∧ s'.heap.get? kS = some (seqObj "list" kA e) ∧ s'.heap.get? a = some (seqObj "list" #[] e1) ∧ Vals (kvs.take i) kA.toList ∧ FpOk X pins H' kS ∧ FpOk X pins H' a) vs 0 s
    ⟨H, #[], 0, I, h0, nk, na, (by rw [List.take_zero]; exact .nil), fk, fa⟩ ?step ?done)
  case step =>
    rintro j x s' hx ⟨H', kA, e, I', p', nk', na', hk, fk', fa'⟩
    simp only [Nat.zero_add] at hk p' ⊢
    have hj : j < vs.length := (List.getElem?_eq_some_iff.mp hx).1
    have hzA : kA.size ≤ j := by
      have h1 : (kvs.take j).length = kA.toList.length := hk.length
      have h2 : kA.toList.length = kA.size := Array.length_toList
      rw [List.length_take] at h1
      omega
    have ip : Inv X (pins ++ [(kS, seqObj "list" kA e), (a, seqObj "list" #[] e1)]) σ H' s' := I'.pins_of fun p hp => by
      rcases List.mem_append.mp hp with hp | hp
      · exact I'.pin p (List.mem_append_right _ hp)
      · rcases List.mem_cons.mp hp with rfl | hp
        · exact ⟨nk', fk'.1, fk'.2.1, fk'.2.2.1, fun v q => nomatch q⟩
        · rw [List.mem_singleton.mp hp]
          exact ⟨na', fa'.1, fa'.2.1, fa'.2.2.1, fun v q => nomatch q⟩
    refine wpAny_bind (wpAny_attempt (wpAny_mono (turn j x hx _ s' H' ip p') (fun v s'' he => ?_) fun _ _ hF => hF.elim))
    obtain ⟨k, H2, I2, rk, hkj, p2⟩ := he
    try dsimp only
    have pk := I2.pin (kS, seqObj "list" kA e) (List.mem_append_right _ (List.mem_append_right _ (.head _)))
    have pa := I2.pin (a, seqObj "list" #[] e1) (List.mem_append_right _ (List.mem_append_right _ (.tail _ (.head _))))
    have I3 : Inv X pins σ H2 s'' := I2.unpinned
    have s1 := Heap.SameBut.update s''.heap kS (Obj.mapSeq (·.push v))
    obtain ⟨c2, hc2⟩ : ∃ c2, (s''.heap.update kS (Obj.mapSeq (·.push v))).get? kS = some (seqObj "list" (kA.push v) c2) := ⟨_, get?_update_seq pk.1 (·.push v)⟩
    have fk2 : FpOk X pins H2 kS := ⟨pk.2.1, fk'.2⟩
    have fa2 : FpOk X pins H2 a := ⟨pa.2.1, fa'.2⟩
    have ea : (kA.push v).toList = kA.toList ++ [v] := by simp
    have ek : kvs.take (j + 1) = kvs.take j ++ [k] := by rw [List.take_add_one, hkj]; simp
    refine wpAny_bind (listUpdate_at pk.1 rfl ?_ (by omega) (Nat.le_trans (Nat.le_of_eq (Array.size_push ..)) (by omega)))
    refine wpAny_pure ⟨rfl, H2, kA.push v, c2, ?_, p2, hc2, (s1.2 a hka.symm).trans pa.1, ?_, fk2, fa2⟩
    · exact I3.turnedL (t' := s''.toks) (ch := [kS]) (fun b o hb q => (s1.2 b (by simpa using hb)).trans q) (fun b hb => by
        have : b = kS := by simpa using hb
        rw [this]; exact fk2)
    · rw [ea, ek]
      exact hk.append (.cons rk .nil)
  case done =>
    rintro s' ⟨H', kA, e, I', p', nk', na', hk, fk', fa'⟩
    have hk' : Vals kvs kA.toList := by
      have e3 : kvs.take (0 + vs.length) = kvs := List.take_of_length_le (by omega)
      rw [e3] at hk
      exact hk
    have hsz : kA.size = vs.length := by
      have h1 : kvs.length = kA.toList.length := hk'.length
      have h2 : kA.toList.length = kA.size := Array.length_toList
      omega
    simp only [Nat.zero_add] at p'
    try dsimp only
    refine wpAny_bind (listItems_at nk' rfl ?_)
    refine key_end O nk' na' hka hsz hz (fun h2 => hK _ hk' (by rw [Array.length_toList]; exact h2)) fun h' tk c c' ha hkk hkeep => ?_
    have I2 : Inv X pins σ H' { s' with heap := h', toks := tk } := I'.turnedL (t' := tk) (ch := [a, kS]) (fun b o hb q => hkeep b o (fun z => hb (by simp [z])) (fun z => hb (by simp [z])) q) (fun b hb => by
      have : b = a ∨ b = kS := by simpa using hb
      rcases this with z | z
      · rw [z]; exact fa'
      · rw [z]; exact fk')
    exact h _ H' kA.toList c I2 p' hk' ha fa'
theorem key_sort {R : PySem.Fin → Shared → Prop} {kvs : List V} {P : Nat → Hp → Prop} {n : Nat} (O : Swo ltv) (I : Inv X pins σ H s) (h0 : P 0 H) (ho : s.heap.get? a = some (seqObj "list" vs.toArray n)) (fa : FpOk X pins H a)
    (hlen : kvs.length = vs.length) (hz : vs.length ≤ sizeLine) (turn : Turn X σ A f vs kvs P) (hK : ∀ keys : List Value, Vals kvs keys → 2 ≤ keys.length → KeysOk X.prog X.w A keys ltv)
    (h : ∀ s' H' keys c, Inv X pins σ H' s' → P vs.length H' → Vals kvs keys → s'.heap.get? a = some (seqObj "list" (outK b ltv keys vs).toArray c) → FpOk X pins H' a → R (.done (.ret .none)) s') :
    wpAny (model X.prog X.w) A (ksk_tree a f b) R E s := by
  have ha : a < s.heap.objs.size := Heap.lt_size ho
  have s1 := Heap.SameBut.update s.heap a (Obj.mapSeq fun _ => (#[] : Array Value))
  obtain ⟨e1, ho1⟩ : ∃ e1, (s.heap.update a (Obj.mapSeq fun _ => (#[] : Array Value))).get? a = some (seqObj "list" #[] e1) := ⟨_, get?_update_seq ho fun _ => #[]⟩
  have hkS : ((s.heap.update a (Obj.mapSeq fun _ => (#[] : Array Value))).push (seqObj "tuple" vs.toArray 0)).objs.size = s.heap.objs.size + 1 := by rw [size_push', Heap.size_update]
  unfold ksk_tree
  refine wpAny_bind (listItems_at ho rfl ?_)
  refine wpAny_bind (listUpdate_at ho rfl ?_ (by rw [List.size_toArray]; exact hz) (Nat.zero_le _))
  refine wpAny_bind (seqEpoch_at ho1 rfl ?_)
  refine wpAny_bind (wpAny_newTuple ?_ (by show vs.length ≤ _; exact hz))
  refine wpAny_bind (wpAny_newList ?_ (Nat.zero_le _))
  refine wpAny_holding ?_
  have keep : ∀ c o, c ∉ [a] → s.heap.get? c = some o → (((s.heap.update a (Obj.mapSeq fun _ => (#[] : Array Value))).push (seqObj "tuple" vs.toArray 0)).push (seqObj "list" #[] 0)).get? c = some o := fun c o hc q =>
    Heap.get?_push_of_some _ (Heap.get?_push_of_some _ ((s1.2 c (by simpa using hc)).trans q))
  have I1 : Inv X pins σ H { s with heap := ((s.heap.update a (Obj.mapSeq fun _ => (#[] : Array Value))).push (seqObj "tuple" vs.toArray 0)).push (seqObj "list" #[] 0) } := I.turnedL (t' := s.toks) (ch := [a]) keep (fun c hc => by
    have : c = a := by simpa using hc
    rw [this]; exact fa)
  have hfk : FpOk X pins H ((s.heap.update a (Obj.mapSeq fun _ => (#[] : Array Value))).push (seqObj "tuple" vs.toArray 0)).objs.size := by
    rw [hkS]
    exact I.fpOk (Nat.le_succ _) (I.hok.fresh (Nat.le_succ _))
  exact key_rest (s := { s with heap := ((s.heap.update a (Obj.mapSeq fun _ => (#[] : Array Value))).push (seqObj "tuple" vs.toArray 0)).push (seqObj "list" #[] 0) }) (kS := ((s.heap.update a (Obj.mapSeq fun _ => (#[] : Array Value))).push (seqObj "tuple" vs.toArray 0)).objs.size)
    O I1 h0 (Heap.get?_push_size _ rfl) (Heap.get?_push_of_some _ (Heap.get?_push_of_some _ ho1)) (by rw [hkS]; exact Nat.ne_of_gt (Nat.lt_succ_of_lt ha)) hfk fa hlen hz turn hK h
end
end SrtK
namespace SrtK
open PySem PyProof.Rows SrtO PySem.Spec L2
section
variable {X : Cx} {pins : List (Addr × Obj)} {σ : L2.St} {H : Hp} {s : Shared} {A : Around} {b : Bool} {vs : List Value} {ltv : Value → Value → Bool} {f : Value} {kw : List (Str × Value)} {Q : VK} {l : Addr}
theorem sorted_tail {kvs : List V} {P : Nat → Hp → Prop} {h' : Heap} {tk : Nat} {acc : List Value} (O : Swo ltv) (I : Inv X pins σ H { s with heap := h', toks := tk }) (h0 : P 0 H) (hlen : kvs.length = acc.length) (hz : acc.length ≤ sizeLine)
    (ha2 : ∀ x, argsOk "list.sort" ⟨[.ref x], kw⟩) (ht : ∀ x, Builtin.«list.sort» ⟨[.ref x], kw⟩ = ksk_tree x f b) (turn : Turn X σ X.A.in1.in1 f acc kvs P) (hK : ∀ keys : List Value, Vals kvs keys → 2 ≤ keys.length → KeysOk X.prog X.w X.A.in1.in1 keys ltv)
    {outv : List V} (hout : ∀ keys, Vals kvs keys → Vals outv (outK b ltv keys acc))
    (q : ∀ H' p, P acc.length H' → H' p = none → Q (.ref p) (upd H' p (.lst outv))) {ρ : Value → Shared → Prop}
    (hρ : ∀ v s', EP X pins σ Q v s' → ρ v s') {E : Value → Shared → Prop} :
    wpAny (model X.prog X.w) X.A.in1 (holding [.ref h'.objs.size] (call (.builtin "list.sort") [.ref h'.objs.size] kw)) (fun _ s' => ρ (.ref h'.objs.size) s') E { s with heap := h'.push (seqObj "list" acc.toArray 0), toks := tk } := by
  have hoL : (h'.push (seqObj "list" acc.toArray 0)).get? h'.objs.size = some (seqObj "list" acc.toArray 0) := Heap.get?_push_size _ rfl
  refine wpAny_holding (wpAny_call_entry_kw slot_list_sort ⟨_, hoL, rfl⟩ entry_list_sort ?body (ha2 _))
  case body =>
    have ht' := ht h'.objs.size
    show wpAny (model X.prog X.w) X.A.in1.in1 (Builtin.«list.sort» ⟨[.ref h'.objs.size], kw⟩) _ _ _
    rw [ht']
    have I1 : Inv X pins σ H { s with heap := h'.push (seqObj "list" acc.toArray 0), toks := tk } := I.kept (t' := tk) fun c o e => Heap.get?_push_of_some _ e
    have fa : FpOk X pins H h'.objs.size := I.fpOk (s := { s with heap := h', toks := tk }) (Nat.le_refl _) (I.hok.fresh (Nat.le_refl _))
    refine key_sort (s := { s with heap := h'.push (seqObj "list" acc.toArray 0), toks := tk }) O I1 h0 hoL fa hlen hz turn hK fun s' H' keys c I' p' hk ha fa' => ⟨_, rfl, ?_⟩
    refine hρ _ _ ?_
    have hkl : keys.length = acc.length := by
      have h1 : kvs.length = keys.length := hk.length
      omega
    have hout' := hout keys hk
    have hol : outv.length ≤ sizeLine := by
      have h1 : outv.length = (outK b ltv keys acc).length := hout'.length
      have h2 : (outK b ltv keys acc).length = min keys.length acc.length := by
        have := outK_len (b := b) (ltv := ltv) (keys := keys.toArray) (vs := acc)
        simpa using this
      omega
    exact ⟨.ref h'.objs.size, _, I'.track fa' (show ObjOk X.prog X.w (upd H' h'.objs.size (.lst outv)) s'.heap h'.objs.size (.lst outv) from ⟨hol, _, c, hout', ha⟩), rfl, q H' _ p' fa'.1⟩
theorem sorted_list {kvs outv : List V} {P : Nat → Hp → Prop} {vs : List Value} (O : Swo ltv) (I : Inv X pins σ H s) (h0 : P 0 H) (hl : s.heap.IsList l vs.toArray) (hout : ∀ keys, Vals kvs keys → Vals outv (outK b ltv keys vs)) (hlen : kvs.length = vs.length) (hz : vs.length ≤ sizeLine) (ha1 : argsOk "sorted" ⟨[.ref l], kw⟩)
    (ha2 : ∀ x, argsOk "list.sort" ⟨[.ref x], kw⟩) (ht : ∀ x, Builtin.«list.sort» ⟨[.ref x], kw⟩ = ksk_tree x f b) (turn : Turn X σ X.A.in1.in1 f vs kvs P) (hK : ∀ keys : List Value, Vals kvs keys → 2 ≤ keys.length → KeysOk X.prog X.w X.A.in1.in1 keys ltv)
    (q : ∀ H' p, P vs.length H' → H' p = none → Q (.ref p) (upd H' p (.lst outv))) {E : Value → Shared → Prop} :
    wpAny (model X.prog X.w) X.A (call (.builtin "sorted") [.ref l] kw) (EP X pins σ Q) E s := by
  refine call_function_entry_kw kind_sorted plain_sorted entry_sorted ha1 ?_
  unfold Builtin.«sorted»
  refine wpAny_bind (m := checkCount "sorted" 1 1 _) (wpAny_pure ?_)
  refine wpAny_bind (collect_list hl ?_ hz)
  refine wpAny_bind (wpAny_newList ?_ hz)
  have I1 : Inv X pins σ H { s with heap := (s.heap.push (seqObj "list" #[] 0)).update s.heap.objs.size (Obj.mapSeq (· ++ vs.toArray)) } := I.kept (t' := s.toks) fun c o e => by
    rw [Heap.get?_update_ne _ _ _ _ (Nat.ne_of_lt (Heap.lt_size e))]
    exact Heap.get?_push_of_some _ e
  have := sorted_tail (s := s) (E := E) (tk := s.toks) (h' := (s.heap.push (seqObj "list" #[] 0)).update s.heap.objs.size (Obj.mapSeq (· ++ vs.toArray))) (Q := Q) O I1 h0 hlen hz ha2 ht turn hK hout q (ρ := fun v s' => EP X pins σ Q v s') (fun _ _ z => z)
  refine wpAny_bind (wpAny_mono this (fun _ s' h => ?_) fun _ _ z => z)
  exact wpAny_pure ⟨_, rfl, h⟩
theorem sorted_dict {kvs outv : List V} {P : Nat → Hp → Prop} {dvs : List (Key × V)} (hc : X.calm = true) (O : Swo ltv) (I : Inv X pins σ H s) (h0 : P 0 H) (hd : Rd H l (.dK dvs)) (hout : ∀ keys vs, Vals (dvs.map fun p => kV p.1) vs → Vals kvs keys → Vals outv (outK b ltv keys vs)) (hlen : kvs.length = dvs.length) (ha1 : argsOk "sorted" ⟨[.ref l], kw⟩)
    (ha2 : ∀ x, argsOk "list.sort" ⟨[.ref x], kw⟩) (ht : ∀ x, Builtin.«list.sort» ⟨[.ref x], kw⟩ = ksk_tree x f b) (turn : ∀ vs, Vals (dvs.map fun p => kV p.1) vs → Turn X σ X.A.in1.in1 f vs kvs P) (hK : ∀ keys : List Value, Vals kvs keys → 2 ≤ keys.length → KeysOk X.prog X.w X.A.in1.in1 keys ltv)
    (q : ∀ H' p, P dvs.length H' → H' p = none → Q (.ref p) (upd H' p (.lst outv))) {E : Value → Shared → Prop} :
    wpAny (model X.prog X.w) X.A (call (.builtin "sorted") [.ref l] kw) (EP X pins σ Q) E s := by
  obtain ⟨z, lo, vs, rel, dd⟩ := dk_rd I.hok hd
  obtain ⟨ep, hat⟩ := dd.dictAt
  have hl : dvs.length = vs.length := by
    have e := congrArg List.length rel.keys
    simpa using e
  refine call_function_entry_kw kind_sorted plain_sorted entry_sorted ha1 ?_
  unfold Builtin.«sorted»
  refine wpAny_bind (m := checkCount "sorted" 1 1 _) (wpAny_pure ?_)
  refine wpAny_bind (PySem.W.kdu_collect (A := X.A.in1) (PySem.W.kdl_dict (knd := mixKind X.prog X.w) (kvs := vs) (ep := ep) lo) (I.ok.hd hc) hat (by omega) fun h' tk acc hk hacc => ?_)
  have hal : acc.toList.length = vs.length := by rw [Array.length_toList, hacc.1]
  have hV : Vals (vs.map fun p => kV p.1) acc.toList := keys_at hal fun j v e => hacc.2 j v (by rw [← Array.getElem?_toList]; exact e)
  have hV' : Vals (dvs.map fun p => kV p.1) acc.toList := by
    have e : dvs.map (fun p => kV p.1) = vs.map fun p => kV p.1 := by
      have := congrArg (List.map kV) rel.keys
      simpa [List.map_map, Function.comp_def] using this
    rw [e]
    exact hV
  have I1 : Inv X pins σ H { s with heap := h', toks := tk } := I.kept hk
  refine wpAny_bind (wpAny_newList ?_ (by omega))
  have := sorted_tail (s := s) (E := E) (tk := tk) (h' := h') (acc := acc.toList) (Q := Q) O I1 h0 (by omega) (by omega) ha2 ht (turn _ hV') hK (fun keys hk => hout keys _ hV' hk) (fun H' p p' hn => q H' p (by rw [hal, ← hl] at p'; exact p') hn) (ρ := fun v s' => EP X pins σ Q v s') (fun _ _ z => z)
  refine wpAny_bind (wpAny_mono this (fun _ s' h => ?_) fun _ _ z => z)
  exact wpAny_pure ⟨_, rfl, h⟩
end
def sv : Value → List Nat
  | .str a _ => a.cps.toList
  | _ => []
def ltSv (x y : Value) : Bool := decide (sv x < sv y)
def ltLex (x y : List Nat) : Bool := decide (x < y)
theorem swo_lex : Swo ltLex := ⟨fun x y h => decide_eq_false (List.lt_asymm (of_decide_eq_true h)), fun x y z h1 h2 => decide_eq_false fun h => by
  have a : ¬ y < x := of_decide_eq_false h1
  have b : ¬ z < y := of_decide_eq_false h2
  exact List.not_lt.mpr (List.le_trans (List.not_lt.mp a) (List.not_lt.mp b)) h⟩
theorem swo_str : Swo ltSv := ⟨fun x y h => swo_lex.asym (sv x) (sv y) h, fun x y z h1 h2 => swo_lex.tr (sv x) (sv y) (sv z) h1 h2⟩
section
variable {prog : Program} {w : World} {A : Around}
theorem keys_ints {ks : List Int} {keys : List Value} (h : Vals (ks.map V.int) keys) (h2 : 2 ≤ keys.length) : KeysOk prog w A keys ltIv := fun s => by
  have hI := h.ints
  refine ⟨oneType', fun Q E hq => ?_, int_cmp hI⟩
  match keys, hI, h2 with
  | v1 :: v2 :: rest, hI, _ =>
    rw [keyKind_ints hI]
    exact wpAny_pure hq
  | [], _, h => exact absurd h (by decide)
  | [v], _, h => exact absurd h (by simp)
theorem strs_mem : ∀ {vs : List Value} {ns : List Str}, StrsAre vs ns → ∀ v ∈ vs, ∃ i t, v = Value.str i t
  | _, _, .nil, v, h => absurd h (by simp)
  | _, _, .cons n t r, v, h => by
    rcases List.mem_cons.mp h with e | h
    · exact ⟨n, t, e⟩
    · exact strs_mem r v h
theorem keys_strs {ks : List Str} {keys : List Value} (h : Vals (ks.map V.str) keys) (h2 : 2 ≤ keys.length) : KeysOk prog w A keys ltSv := fun s => by
  have hS := h.strs
  refine ⟨oneType', fun Q E hq => ?_, fun p q hp hq => ?_⟩
  · match keys, hS, h2 with
    | v1 :: v2 :: rest, hS, _ =>
      rw [keyKind_strs hS]
      exact wpAny_pure hq
    | [], _, h => exact absurd h (by decide)
    | [v], _, h => exact absurd h (by simp)
  · obtain ⟨a, t, e⟩ := strs_mem hS _ hp
    obtain ⟨b, u, e'⟩ := strs_mem hS _ hq
    show wpAny (model prog w) A (keyLt' oneType' p.1 q.1) (fun r s' => s' = s ∧ r = ltSv p.1 q.1) (fun _ _ => False) s
    rw [e, e']
    exact PySem.W.kas_lt_str ⟨rfl, rfl⟩
end
def ltV : V → V → Bool
  | .int i, .int j => decide (i < j)
  | .str x, .str y => decide (x.cps.toList < y.cps.toList)
  | _, _ => false
def outV (b : Bool) (kvs us : List V) : List V := if b = true then ((isort (fun p q : V × V => ltV p.1 q.1) (kvs.zip us).reverse).map (·.2)).reverse else (isort (fun p q : V × V => ltV p.1 q.1) (kvs.zip us)).map (·.2)
def PR (C : V → Prop) (p : V × V) (q : Value × Value) : Prop := C p.1 ∧ RelV p.1 q.1 ∧ RelV p.2 q.2
theorem zip_rel {C : V → Prop} : ∀ {kvs us : List V} {keys vs : List Value}, (∀ k ∈ kvs, C k) → Vals kvs keys → Vals us vs → Paired (PR C) (kvs.zip us) (keys.zip vs)
  | [], _, [], _, _, _, _ => .nil
  | _ :: _, [], _ :: _, [], _, _, _ => .nil
  | k :: kvs, u :: us, x :: keys, v :: vs, h, .cons r1 t1, .cons r2 t2 => .cons ⟨h _ List.mem_cons_self, r1, r2⟩ (zip_rel (fun k hk => h k (.tail _ hk)) t1 t2)
theorem paired_snd {C : V → Prop} : ∀ {l : List (V × V)} {m : List (Value × Value)}, Paired (PR C) l m → Vals (l.map (·.2)) (m.map (·.2))
  | _, _, .nil => .nil
  | _, _, .cons h t => .cons h.2.2 (paired_snd t)
theorem paired_rev {α β : Type} {R : α → β → Prop} : ∀ {l : List α} {m : List β}, Paired R l m → Paired R l.reverse m.reverse
  | _, _, .nil => .nil
  | _ :: _, _ :: _, .cons h t => by
    rw [List.reverse_cons, List.reverse_cons]
    have := paired_rev t
    have app : ∀ {a : List α} {b : List β} {c : List α} {d : List β}, Paired R a b → Paired R c d → Paired R (a ++ c) (b ++ d) := by
      intro a b c d h1 h2
      induction h1 with
      | nil => exact h2
      | cons r _ ih => exact .cons r ih
    exact app this (.cons h .nil)
theorem outV_ok {C : V → Prop} {ltv : Value → Value → Bool} {b : Bool} {kvs us : List V} {keys vs : List Value} (hC : ∀ k ∈ kvs, C k) (hlt : ∀ x y u v, C x → C y → RelV x u → RelV y v → ltV x y = ltv u v) (h1 : Vals kvs keys) (h2 : Vals us vs) : Vals (outV b kvs us) (outK b ltv keys vs) := by
  have z := zip_rel hC h1 h2
  have hl : ∀ (x y : V × V) (u v : Value × Value), PR C x u → PR C y v → ltV x.1 y.1 = lt2 ltv u v := fun x y u v a b => hlt _ _ _ _ a.1 b.1 a.2.1 b.2.1
  unfold outV outK
  cases b with
  | true =>
    rw [if_pos rfl, if_pos rfl]
    exact paired_rev (paired_snd (isort_rel hl (paired_rev z)))
  | false =>
    rw [if_neg (by decide), if_neg (by decide)]
    exact paired_snd (isort_rel hl z)
theorem lt_int (x y : V) (u v : Value) (hx : ∃ i, x = .int i) (hy : ∃ i, y = .int i) (r1 : RelV x u) (r2 : RelV y v) : ltV x y = ltIv u v := by
  obtain ⟨i, rfl⟩ := hx
  obtain ⟨j, rfl⟩ := hy
  obtain ⟨t, rfl⟩ := r1
  obtain ⟨t', rfl⟩ := r2
  rfl
theorem lt_str (x y : V) (u v : Value) (hx : ∃ i, x = .str i) (hy : ∃ i, y = .str i) (r1 : RelV x u) (r2 : RelV y v) : ltV x y = ltSv u v := by
  obtain ⟨i, rfl⟩ := hx
  obtain ⟨j, rfl⟩ := hy
  obtain ⟨t, rfl⟩ := r1
  obtain ⟨t', rfl⟩ := r2
  rfl
def KV1 (kvs : List V) : Prop := (∃ ns : List Int, kvs = ns.map V.int) ∨ ∃ ss : List Str, kvs = ss.map V.str
theorem KV1.use {kvs : List V} (h : KV1 kvs) (prog : Program) (w : World) (A : Around) : ∃ ltv, Swo ltv ∧ (∀ keys : List Value, Vals kvs keys → 2 ≤ keys.length → KeysOk prog w A keys ltv) ∧ ∀ (b : Bool) (us : List V) (keys vs : List Value), Vals kvs keys → Vals us vs → Vals (outV b kvs us) (outK b ltv keys vs) := by
  rcases h with ⟨ns, rfl⟩ | ⟨ss, rfl⟩
  · exact ⟨ltIv, swo_int, fun keys h h2 => keys_ints h h2, fun b us keys vs h1 h2 => outV_ok (C := fun k => ∃ i, k = .int i) (fun k hk => by
      obtain ⟨i, _, rfl⟩ := List.mem_map.mp hk
      exact ⟨i, rfl⟩) lt_int h1 h2⟩
  · exact ⟨ltSv, swo_str, fun keys h h2 => keys_strs h h2, fun b us keys vs h1 h2 => outV_ok (C := fun k => ∃ i, k = .str i) (fun k hk => by
      obtain ⟨i, _, rfl⟩ := List.mem_map.mp hk
      exact ⟨i, rfl⟩) lt_str h1 h2⟩
end SrtK
namespace Pu
open PySem PySem.Spec PyProof.Rows L2 My
variable [Tbs] [Nls]
structure PKF (X : Cx) (kws : List Keyword) (ws : List Value) : Prop where
  run : ∀ (pos : Pos) (pins : List (Addr × Obj)) (s : Shared) (σ : L2.St) (H : Hp) (Q : List Value → Shared → Prop), Inv X pins σ H s → (∀ s', Inv X pins σ H s' → Q ws s') → wpAny (model X.prog X.w) X.A (evalAll ((backToKw pos (keywordEach kws X.env)).map (·.2))) Q X.xe s
theorem pkf_nil {X : Cx} : PKF X [] [] := ⟨fun _ _ s _ H Q I h => wpAny_evalAll_nil (h s I)⟩
theorem pkf_cons {X : Cx} {e : Expr} {f : Value} {kws : List Keyword} {ws : List Value} {nm : Option Str} {kpos : Pos} (ha : PF X e f) (hr : PKF X kws ws) : PKF X (⟨nm, e, kpos⟩ :: kws) (f :: ws) := by
  refine ⟨fun pos pins s σ H Q I h => ?_⟩
  show wpAny _ _ (evalAll ((do let v ← eval e X.env; standAt pos; pure v) :: (backToKw pos (keywordEach kws X.env)).map (·.2))) _ _ s
  refine wpAny_evalAll_cons (wpAny_bind (ha.run pins s σ H _ I fun s1 I1 => wpAny_bind (wpAny_standAt (wpAny_pure ?_))))
  exact hr.run pos pins s1 σ H _ I1 fun s2 I2 => h s2 I2
theorem pf_bl {X : Cx} {b : Bool} {k : Nat} {p : Pos} : PF X (.Constant (.bool b) k p) (.bool b) := ⟨fun pins s σ H Q I h => thn (pe_bl.run pins s σ H (fun v H' => v = .bl b ∧ H' = H) I ⟨rfl, rfl⟩) fun u s1 ⟨x, H1, I1, r1, q1⟩ => by
  obtain ⟨rfl, rfl⟩ := q1
  obtain rfl : u = Value.bool b := r1
  exact h s1 I1⟩
def KeyF (X : Cx) (f : Value) (k : Hp → V → VK → Prop) : Prop := ∀ (pins : List (Addr × Obj)) (s : Shared) (σ : L2.St) (H : Hp) (u : V) (v : Value) (Q : VK), Inv X pins σ H s → RelV u v → k H u Q → wpAny (model X.prog X.w) X.A.in1.in1 (call f [v]) (EP X pins σ Q) (fun _ _ => False) s
def rSrtK (K : PySem.W.Frag) (k : Hp → V → VK → Prop) (b : Bool) (x : V) (H1 : Hp) (Q : VK) : Prop := ∃ l us kvs, ∃ P : Nat → Hp → Prop, x = .ref l ∧ (SqL K H1 l us ∨ ∃ dvs, Rd H1 l (.dK dvs) ∧ us = dvs.map fun p => kV p.1) ∧ kvs.length = us.length ∧ SrtK.KV1 kvs ∧ P 0 H1 ∧
  (∀ i u H, us[i]? = some u → P i H → k H u fun v H' => kvs[i]? = some v ∧ P (i + 1) H') ∧ ∀ H' p, P us.length H' → H' p = none → Q (.ref p) (upd H' p (.lst (SrtK.outV b kvs us)))
def tSrtK (K : PySem.W.Frag) (k : Hp → V → VK → Prop) (b : Bool) (te : TE) : TE := fun σ H Q => te σ H fun x H1 => rSrtK K k b x H1 Q
section
variable {X : Cx} {W : WX} {e fe : Expr} {te : TE} {k : Hp → V → VK → Prop} {f : Value} {b : Bool} {p pos kp : Pos} {kws : List Keyword} {ws : List Value} {ks : List Str}
theorem pe_srtK (hc : X.calm = true) (hk : KeyF X f k) (hkw : PKF X kws ws) (ht : ∀ x : Addr, Builtin.«list.sort» ⟨[.ref x], ks.zip ws⟩ = ksk_tree x f b) (ha1 : ∀ x, argsOk "sorted" ⟨[x], ks.zip ws⟩) (ha2 : ∀ x, argsOk "list.sort" ⟨[x], ks.zip ws⟩) (hm : X.mg "sorted" = none) (he : PE X e te) (hg : Gl X "sorted" := by rfl)
    (hs : backTo pos (starEach [e] X.env) = (false, eval e X.env) :: backTo pos (starEach [] X.env) := by rfl) (hs1 : starEach [e] X.env = (false, eval e X.env) :: starEach [] X.env := by rfl) (hpl : (backTo pos (starEach [e] X.env)).any (·.1) = false := by rfl)
    (hall : (backToKw pos (keywordEach kws X.env)).all (·.1.isSome) = true := by rfl) (hnone : (backToKw pos (keywordEach kws X.env)).any (·.1.isNone) = false := by rfl) (hks : (backToKw pos (keywordEach kws X.env)).filterMap (·.1) = ks := by rfl) :
    PE X (.Call (.Name "sorted" p) [e] kws pos) (tSrtK X.K k b te) := by
  refine ⟨fun pins s σ H Q I h => ?_⟩
  refine wpAny_Call_Name_kw (ld_blt I hg hm boot_sorted ?_)
  refine PyProof.Rows.callWith_kw (thn ((pa_cons he pa_nil hs1).run pos pins s σ H (fun vs H1 => match vs with | [x] => rSrtK X.K k b x H1 Q | _ => False) I ?_) fun us s1 ⟨vs, H1, I1, r1, q1⟩ => hkw.run pos pins s1 σ H1 _ I1 fun s2 I2 => ?_) hs hpl hall hnone
  · exact h
  · match vs, q1, r1 with
    | [x], ⟨l, uv, kvs, P, ex, hl, hlen, hK1, h0, hstep, hq⟩, r1 =>
    subst ex
    obtain rfl := Vals.ref1 r1
    simp only [hks]
    obtain ⟨ltv, O, hKO, hout⟩ := hK1.use X.prog X.w X.A.in1.in1
    have turn : ∀ vs, Vals uv vs → SrtK.Turn X σ X.A.in1.in1 f vs kvs P := fun vs hvs i v hv pins s H I hP => by
      have hi : i < uv.length := by
        have := hvs.length
        rw [this]
        exact (List.getElem?_eq_some_iff.mp hv).1
      obtain ⟨u, hu⟩ : ∃ u, uv[i]? = some u := ⟨_, List.getElem?_eq_getElem hi⟩
      obtain ⟨w, hw, r⟩ := hvs.get hu
      rw [hv] at hw
      cases hw
      exact hk pins s σ H u v _ I r (hstep i u H hu hP)
    rcases hl with hl | ⟨dvs, hd, rfl⟩
    · obtain ⟨its, rv, hls, hz⟩ := I2.list hl
      have hlv : uv.length = its.length := rv.length
      exact SrtK.sorted_list O I2 h0 hls.isList (fun keys hk => hout b uv keys its hk rv) (by omega) (by omega) (ha1 _) (fun x => ha2 _) ht (turn its rv) hKO (fun H' p hP hn => hq H' p (by rw [hlv]; exact hP) hn)
    · exact SrtK.sorted_dict hc O I2 h0 hd (fun keys vs hv hk => hout b _ keys vs hk hv) (by simpa using hlen) (ha1 _) (fun x => ha2 _) ht (fun vs hv => turn vs hv) hKO (fun H' p hP hn => hq H' p (by simpa using hP) hn)
end
def ltkD : D → D → Bool
  | .int i, .int j => decide (i < j)
  | .str x, .str y => decide (x.cps.toList < y.cps.toList)
  | _, _ => false
def isIntD : D → Bool
  | .int _ => true
  | _ => false
def isStrD : D → Bool
  | .str _ => true
  | _ => false
def oneKd (ks : List D) : Bool := ks.all isIntD || ks.all isStrD
def srtD (b : Bool) (ks ds : List D) : List D := if b = true then ((SrtK.isort (fun p q : D × D => ltkD p.1 q.1) (ks.zip ds).reverse).map (·.2)).reverse else (SrtK.isort (fun p q : D × D => ltkD p.1 q.1) (ks.zip ds)).map (·.2)
def itS : D → Option (List D)
  | .lst ds => some ds
  | .dK kvs => some (kvs.map fun p => keyV p.1)
  | _ => none
def mapO (f : D → Option D) : List D → Option (List D)
  | [] => some []
  | d :: ds => match f d, mapO f ds with
    | some k, some ks => some (k :: ks)
    | _, _ => none
def dSrt (b : Bool) (fk : D → Option D) (fa : M Rv) : M D := fun ρ => (fa ρ).bind fun r ρ1 => match esc ρ1 r with
  | some (d, ρ2) => match itS d with
    | some ds => match mapO fk ds with
      | some ks => if oneKd ks = true then .ok (.lst (srtD b ks ds)) ρ2 else .bad
      | none => .bad
    | none => .bad
  | none => .bad
def KeyD (B : Bs) (k : Hp → V → VK → Prop) (fk : D → Option D) : Prop := ∀ c ρ σ H O u d kd Q, Stt B c ρ σ H O → Rep B (hide H O) u d → fk d = some kd → (∀ v H' O', Stt B c ρ σ H' O' → Ext (hide H O) (hide H' O') → Rep B (hide H' O') v kd → Q v H') → k H u Q
section
variable {B : Bs} {G : Hp}
theorem mapO_get {f : D → Option D} : ∀ {ds ks : List D}, mapO f ds = some ks → ks.length = ds.length ∧ ∀ (i : Nat) (d : D), ds[i]? = some d → ∃ k, ks[i]? = some k ∧ f d = some k
  | [], ks, h => by simp only [mapO] at h; cases h; exact ⟨rfl, fun i d hd => by simp at hd⟩
  | d :: ds, ks, h => by
    simp only [mapO] at h
    cases h1 : f d with
    | none => rw [h1] at h; cases h
    | some k =>
      cases h2 : mapO f ds with
      | none => rw [h1, h2] at h; cases h
      | some ks' =>
        rw [h1, h2] at h
        cases h
        obtain ⟨i1, i2⟩ := mapO_get h2
        refine ⟨by simp [i1], fun i e he => ?_⟩
        cases i with
        | zero => simp at he; subst he; exact ⟨k, rfl, h1⟩
        | succ i => simpa using i2 i e (by simpa using he)
def vK : D → V
  | .int i => .int i
  | .str s => .str s
  | _ => .non
theorem vK_rep {v : V} {d : D} (h : Rep B G v d) (hk : isIntD d = true ∨ isStrD d = true) : v = vK d := by
  cases d <;> simp [isIntD, isStrD] at hk
  · exact h.int_inv
  · exact h.str_inv
theorem kv1_of : ∀ {ks : List D}, oneKd ks = true → SrtK.KV1 (ks.map vK) := fun {ks} h => by
  unfold oneKd at h
  rw [Bool.or_eq_true] at h
  rcases h with h | h
  · refine .inl ⟨ks.map fun d => match d with | .int i => i | _ => 0, ?_⟩
    rw [List.map_map]
    refine List.map_congr_left fun d hd => ?_
    have := List.all_eq_true.mp h d hd
    cases d <;> simp [isIntD] at this
    rfl
  · refine .inr ⟨ks.map fun d => match d with | .str i => i | _ => Str.empty, ?_⟩
    rw [List.map_map]
    refine List.map_congr_left fun d hd => ?_
    have := List.all_eq_true.mp h d hd
    cases d <;> simp [isStrD] at this
    rfl
theorem ltk_eq (x y : D) : SrtK.ltV (vK x) (vK y) = ltkD x y := by
  cases x <;> cases y <;> rfl
theorem zipK : ∀ {us : List V} {ks ds : List D}, RepL B G us ds → Paired (fun (p : V × V) (q : D × D) => p.1 = vK q.1 ∧ Rep B G p.2 q.2) ((ks.map vK).zip us) (ks.zip ds)
  | _, [], _, _ => by cases ‹RepL B G _ _› <;> exact .nil
  | _, _ :: _, _, .nil => .nil
  | _, k :: ks, _, .cons h t => .cons ⟨rfl, h⟩ (zipK t)
theorem pairedR : ∀ {l : List (V × V)} {m : List (D × D)}, Paired (fun (p : V × V) (q : D × D) => p.1 = vK q.1 ∧ Rep B G p.2 q.2) l m → RepL B G (l.map (·.2)) (m.map (·.2))
  | _, _, .nil => .nil
  | _, _, .cons h t => .cons h.2 (pairedR t)
theorem srt_rep {b : Bool} {us : List V} {ks ds : List D} (r : RepL B G us ds) : RepL B G (SrtK.outV b (ks.map vK) us) (srtD b ks ds) := by
  have z := zipK (ks := ks) r
  have hl : ∀ (x y : V × V) (u v : D × D), (x.1 = vK u.1 ∧ Rep B G x.2 u.2) → (y.1 = vK v.1 ∧ Rep B G y.2 v.2) → SrtK.ltV x.1 y.1 = ltkD u.1 v.1 := fun x y u v a b => by rw [a.1, b.1, ltk_eq]
  unfold SrtK.outV srtD
  cases b with
  | true =>
    rw [if_pos rfl, if_pos rfl]
    exact (pairedR (SrtK.isort_rel hl (SrtK.paired_rev z))).reverse
  | false =>
    rw [if_neg (by decide), if_neg (by decide)]
    exact pairedR (SrtK.isort_rel hl z)
theorem keys_rep : ∀ kvs : List (Key × D), RepL B G (kvs.map fun p => kV p.1) (kvs.map fun p => keyV p.1)
  | [] => .nil
  | p :: r => .cons (rep_key p.1) (keys_rep r)
end
section
variable {X : Cx} {W : WX} {e : Expr} {fa : M Rv} {k : Hp → V → VK → Prop} {fk : D → Option D} {b : Bool} {pos p : Pos}
theorem srt_le {σ : L2.St} {H : Hp} {Q : VK} (hk : KeyD (bs X) k fk) (h : tF (bs X) W (dSrt b fk fa) σ H Q) : tSrtK X.K k b (tP (bs X) W fa) σ H Q := by
  obtain ⟨c, ρ, O, st, q⟩ := h
  unfold dSrt at q
  refine tP.step st (Po.bind q) fun r ρ1 v H1 O1 st1 e1 hv q1 => ?_
  split at q1
  · rename_i d ρ2 hes
    obtain ⟨O2, st2, e2, hr⟩ := st1.esc hv hes
    split at q1
    · rename_i ds hds
      split at q1
      · rename_i ks hks
        split at q1
        · rename_i h1k
          obtain ⟨l1, l2⟩ := mapO_get hks
          have main : ∀ us : List V, RepL (bs X) (hide H1 O2) us ds → ∃ kvs, ∃ P : Nat → Hp → Prop, kvs.length = us.length ∧ SrtK.KV1 kvs ∧ P 0 H1 ∧ (∀ i u H, us[i]? = some u → P i H → k H u fun v H' => kvs[i]? = some v ∧ P (i + 1) H') ∧ ∀ H' p, P us.length H' → H' p = none → Q (.ref p) (upd H' p (.lst (SrtK.outV b kvs us))) := by
            intro us ru
            refine ⟨ks.map vK, fun _ H' => ∃ O', Stt (bs X) c ρ2 σ H' O' ∧ Ext (hide H1 O2) (hide H' O'), ?_, kv1_of h1k, ⟨O2, st2, .refl _⟩, ?_, ?_⟩
            · rw [List.length_map, l1, ru.length]
            · rintro i u H' hu ⟨O', st', e'⟩
              obtain ⟨d', hd', hrd⟩ := (ru.mono e').get' hu
              obtain ⟨kd, hkd, hf⟩ := l2 i d' hd'
              refine hk c ρ2 σ H' O' u d' kd _ st' hrd hf fun w H'' O'' st'' e'' hw => ⟨?_, O'', st'', e'.trans e''⟩
              rw [List.getElem?_map, hkd]
              have hm : kd ∈ ks := List.mem_of_getElem? hkd
              have : isIntD kd = true ∨ isStrD kd = true := by
                unfold oneKd at h1k
                rw [Bool.or_eq_true] at h1k
                exact h1k.imp (fun z => List.all_eq_true.mp z kd hm) (fun z => List.all_eq_true.mp z kd hm)
              rw [vK_rep hw this]
              rfl
            · rintro H' p ⟨O', st', e'⟩ hp
              obtain ⟨s3, e3, f3, n3⟩ := st'.newO (o := .lst (SrtK.outV b (ks.map vK) us)) hp
              exact q1 _ _ s3 (e2.trans (e'.trans e3)) p _ upd_same List.mem_cons_self f3 n3 (.lst (srt_rep ((ru.mono e').mono e3)))
          cases d <;> simp only [itS] at hds <;> cases hds
          · cases hr with
            | lst s r =>
              obtain ⟨kvs, P, a1, a2, a3, a4, a5⟩ := main _ r
              exact ⟨_, _, kvs, P, rfl, .inl (.inl (.inl (hide_le _ _ _ _ s))), a1, a2, a3, a4, a5⟩
          · cases hr with
            | dK s kk r =>
              rename_i ds' a kvs'
              have ek : kvs'.map (fun p => kV p.1) = ds'.map fun p => kV p.1 := by
                have := congrArg (List.map kV) kk
                simpa [List.map_map, Function.comp_def] using this
              obtain ⟨kvs, P, a1, a2, a3, a4, a5⟩ := main (kvs'.map fun p => kV p.1) (by rw [ek]; exact keys_rep ds')
              exact ⟨_, _, kvs, P, rfl, .inr ⟨kvs', rd_mono (hide_le _ _).ext s.rd, rfl⟩, a1, a2, a3, a4, a5⟩
        · exact q1.elim
      · exact q1.elim
    · exact q1.elim
  · exact q1.elim
def kLen : Hp → V → VK → Prop := fun H u Q => ∃ z, u = .str z ∧ z.length ≤ sizeLine ∧ Q (.int z.length) H
def fLen : D → Option D
  | .str z => if z.length ≤ sizeLine then some (.int z.length) else none
  | _ => none
theorem keyF_len : KeyF X (.builtin "len") kLen := fun pins s σ H u v Q I r h => by
  obtain ⟨z, rfl, hz, q⟩ := h
  obtain ⟨t, rfl⟩ := r
  have hn := line63
  exact len_str (by omega) ⟨.int z.length, H, I.tok _, ⟨_, rfl⟩, q⟩
theorem keyD_len {B : Bs} : KeyD B kLen fLen := fun c ρ σ H O u d kd Q st hr hf q => by
  cases d <;> simp only [fLen] at hf <;> try (cases hf; done)
  obtain ⟨h1, rfl⟩ := some_if hf
  exact ⟨_, hr.str_inv, h1, q _ H O st (.refl _) (.int _)⟩
def kFn (sp : Sp) : Hp → V → VK → Prop := fun H u Q => sp [u] H Q fun _ _ _ => False
def fFn (fn : List D → FOut) : D → Option D := fun d => match fn [d] with
  | .ok k _ => some k
  | _ => none
theorem keyF_fn {x : Str} {ps : List Str} {sp : Sp} {k : Nat} (hb : Binds X.K (fdOf X.K (My.fa X.mg x)) ps []) (G : FnG X.prog X.w X.K X.mg X.base k (My.fa X.mg x) (fdOf X.K (My.fa X.mg x)) ps sp) (hr : RmG (k + 2) X.A) (hp : ps.length = 1) : KeyF X (.ref (My.fa X.mg x)) (kFn sp) := fun pins s σ H u v Q I r h => by
  have rr : RmG k X.A.in1.in1 := ⟨hr.rm.in1.in1, hr.gd⟩
  refine wpAny_call (codeAny_mono (G.run X.A.in1.in1 X.stack s H ⟨[v], []⟩ [v] [u] Q (fun _ _ _ => False) rr I.env0.in1.in1 (by simpa using hb s [v] I.kIn (by simpa using hp.symm)) (.cons r .nil) h) fun res s' hq => ?_)
  cases res with
  | error e =>
    obtain ⟨_, _, _, _, _, _, _, _, _, _, _, _, z⟩ := hq
    exact z.elim
  | ok fl => cases fl <;> first | exact I.after hq | exact False.elim hq
theorem keyD_fn {B : Bs} {fn : List D → FOut} : KeyD B (kFn (spD B none 1 fn)) (fFn fn) := fun c ρ σ H O u d kd Q st hr hf q => by
  unfold fFn at hf
  refine ⟨rfl, O, [d], st.liv, ⟨rfl, fun i e _ he => ?_, fun j hj => by cases hj⟩, ?_⟩
  · cases i with
    | zero => simp at he; subst he; exact ⟨u, rfl, hr⟩
    | succ i => simp at he
  · split at hf
    · rename_i k io hfn
      cases hf
      rw [hfn]
      intro v H' O' f hv
      exact q v H' O' (st.behind (rs := [.val d]) (o := none) (.cons hr .nil) rfl f) f.same hv
    · cases hf
theorem df_srt {kws : List Keyword} (h : PE X (.Call (.Name "sorted" p) [e] kws pos) (tSrtK X.K k b (tP (bs X) W fa))) (hk : KeyD (bs X) k fk) : DF X W (.Call (.Name "sorted" p) [e] kws pos) (dSrt b fk fa) := PE.le h fun σ H Q q => srt_le hk q
end
end Pu
namespace MaxD
open PySem PySem.Spec PyProof.Rows L2
theorem args_maxD (a d : Value) : argsOk "max" ⟨[a], [(Str.ofString "default", d)]⟩ := by unfold argsOk; kernel_rfl
section
variable {prog : Program} {w : World} {A : Around} {R : Result → Shared → Prop} {I : Addr} {fp wr : List Addr} {n : Nat} {P : Nat → Value → Prop} {St : Nat → Heap → Prop} {kw : List (Str × Value)}
theorem loop_max (W : Walks prog w A.in1 I fp wr n P St) (bt : Nat → Nat → Bool) (hcmp : CmpOf prog w A.in1 .Gt P bt) (S : Addr) (hSf : S ∉ fp) :
    ∀ (k j : Nat) (s : Shared) (vb : Value) (c : Nat), n - (j + 1) = k → j + 1 ≤ n → St (j + 1) s.heap → P (argBest bt j) vb →
    s.heap.get? S = some { cls := .type "list", dict := none, data := .seq #[vb, vb] c, slots := #[] } →
    (∀ v h' tk, P (argBest bt (n - 1)) v → (∀ b o, b ∉ wr → b ≠ S → s.heap.get? b = some o → h'.get? b = some o) → R (.ok (.ret v)) { s with heap := h', toks := tk }) →
    codeAny (model prog w) A (.builtin "max.loop" ⟨[.ref I, .none, .ref S], kw⟩) R s := by
  have hSw : S ∉ wr := fun h => hSf (W.sub _ h)
  have hname : (toString "max" ++ toString ".loop" : String) = "max.loop" := by decide
  intro k
  induction k with
  | zero =>
    intro j s vb c hk hj hst hPb hS hR
    have hin : j + 1 = n := by omega
    refine codeAny_builtin F.entry_max_loop ?_
    rw [Around.under_plainId F.plain_max_loop _]
    show wpAny _ A.in1 (seqItems? (.ref S) >>= _) _ _ s
    refine wpAny_bind (wpAny_seqItems hS rfl ?_)
    show wpAny _ A.in1 (tryCatch (pyNext (.ref I)) _ >>= _) _ _ s
    refine wpAny_bind (wpAny_tryCatch (W.done s _ _ (hin ▸ hst) fun h' tk hk' => ?_))
    have hS' := hk' S _ hSw hS
    show wpAny _ A.in1 (updateSeq S (fun _ => #[]) >>= _) _ _ _
    refine wpAny_bind ?_
    refine wpAny_updateSeq hS' rfl (wpAny_bind (wpAny_letGo (wpAny_pure ?_)))
    refine hR vb _ tk (by rw [← hin]; exact hPb) fun b o hbw hbS e => (Heap.get?_update_other _ _ (Ne.symm hbS)).trans (hk' b o hbw e)
  | succ k ih =>
    intro j s vb c hk hj hst hPb hS hR
    have hlt : j + 1 < n := by omega
    refine codeAny_builtin F.entry_max_loop ?_
    rw [Around.under_plainId F.plain_max_loop _]
    show wpAny _ A.in1 (seqItems? (.ref S) >>= _) _ _ s
    refine wpAny_bind (wpAny_seqItems hS rfl ?_)
    show wpAny _ A.in1 (tryCatch (pyNext (.ref I)) _ >>= _) _ _ s
    refine wpAny_bind (wpAny_tryCatch (W.item (j + 1) s _ _ hlt hst fun v h' tk hP hst' hk' => ?_))
    have hS' := hk' S _ hSw hS
    show wpAny _ A.in1 (tryCatch (holding [v, v] (richCompare .Gt v vb >>= _)) _ >>= _) _ _ _
    refine wpAny_bind (wpAny_tryCatch (wpAny_holding (wpAny_bind (hcmp (j + 1) (argBest bt j) v vb _ _ _ hP hPb ?_))))
    refine wpAny_bind (wpAny_holding (wpAny_truthy_bool ?_))
    refine wpAny_bind (wpAny_letGo (wpAny_pure ?_))
    cases hb : bt (j + 1) (argBest bt j) with
    | true =>
      simp only [if_true]
      refine wpAny_bind ?_
      refine wpAny_updateSeq hS' rfl (wpAny_bind (wpAny_letGo ?_))
      rw [hname]
      refine wpAny_pure ⟨plainId_quiet F.plain_max_loop _, ih (j + 1) _ v _ (by omega) hlt (W.frame _ _ _ hst' fun b hbf o e => ?_) (by simp only [argBest, hb, if_true]; exact hP) (Heap.get?_update_self _ hS' rfl)
        fun v' h'' tk'' hP' hk'' => ?_⟩
      · exact (Heap.get?_update_other _ _ (fun h : S = b => hSf (by rw [h]; exact hbf))).trans e
      · exact hR v' h'' tk'' hP' fun b o hbw hbS e => hk'' b o hbw hbS ((Heap.get?_update_other _ _ (Ne.symm hbS)).trans (hk' b o hbw e))
    | false =>
      simp only [Bool.false_eq_true, if_false]
      refine wpAny_bind (wpAny_letGo ?_)
      rw [hname]
      refine wpAny_pure ⟨plainId_quiet F.plain_max_loop _, ih (j + 1) _ vb c (by omega) hlt hst' (by simp only [argBest, hb, Bool.false_eq_true, if_false]; exact hPb) hS' fun v' h'' tk'' hP' hk'' => ?_⟩
      exact hR v' h'' tk'' hP' fun b o hbw hbS e => hk'' b o hbw hbS (hk' b o hbw e)
theorem first_max (W : Walks prog w A.in1 I fp wr n P St) (bt : Nat → Nat → Bool) (hcmp : CmpOf prog w A.in1 .Gt P bt) (S : Addr) (hSf : S ∉ fp) (hn : 0 < n) {s : Shared} {c : Nat} (hst : St 0 s.heap)
    (hS : s.heap.get? S = some { cls := .type "list", dict := none, data := .seq #[] c, slots := #[] })
    (hR : ∀ v h' tk, P (argBest bt (n - 1)) v → (∀ b o, b ∉ wr → b ≠ S → s.heap.get? b = some o → h'.get? b = some o) → R (.ok (.ret v)) { s with heap := h', toks := tk }) :
    codeAny (model prog w) A (.builtin "max.loop" ⟨[.ref I, .none, .ref S], kw⟩) R s := by
  have hSw : S ∉ wr := fun h => hSf (W.sub _ h)
  have hname : (toString "max" ++ toString ".loop" : String) = "max.loop" := by decide
  refine codeAny_builtin F.entry_max_loop ?_
  rw [Around.under_plainId F.plain_max_loop _]
  show wpAny _ A.in1 (seqItems? (.ref S) >>= _) _ _ s
  refine wpAny_bind (wpAny_seqItems hS rfl ?_)
  show wpAny _ A.in1 (tryCatch (pyNext (.ref I)) _ >>= _) _ _ s
  refine wpAny_bind (wpAny_tryCatch (W.item 0 s _ _ hn hst fun v h' tk hP hst' hk' => ?_))
  have hS' := hk' S _ hSw hS
  show wpAny _ A.in1 (updateSeq S (fun _ => #[v, v]) >>= _) _ _ _
  refine wpAny_bind ?_
  refine wpAny_updateSeq hS' rfl ?_
  rw [hname]
  refine wpAny_pure ⟨plainId_quiet F.plain_max_loop _, loop_max W bt hcmp S hSf _ 0 _ v _ rfl hn (W.frame _ _ _ hst' fun b hbf o e => ?_) hP (Heap.get?_update_self _ hS' rfl) fun v' h'' tk'' hP' hk'' => ?_⟩
  · exact (Heap.get?_update_other _ _ (fun h : S = b => hSf (by rw [h]; exact hbf))).trans e
  · exact hR v' h'' tk'' hP' fun b o hbw hbS e => hk'' b o hbw hbS ((Heap.get?_update_other _ _ (Ne.symm hbS)).trans (hk' b o hbw e))
theorem none_max {d : Value} {nm : Str} (W : Walks prog w A.in1 I fp wr 0 P St) (S : Addr) {s : Shared} {c : Nat} (hst : St 0 s.heap)
    (hS : s.heap.get? S = some { cls := .type "list", dict := none, data := .seq #[] c, slots := #[] })
    (hR : ∀ h' tk, (∀ b o, b ∉ wr → s.heap.get? b = some o → h'.get? b = some o) → R (.ok (.ret d)) { s with heap := h', toks := tk }) :
    codeAny (model prog w) A (.builtin "max.loop" ⟨[.ref I, .none, .ref S], [(nm, d)]⟩) R s := by
  refine codeAny_builtin F.entry_max_loop ?_
  rw [Around.under_plainId F.plain_max_loop _]
  show wpAny _ A.in1 (seqItems? (.ref S) >>= _) _ _ s
  refine wpAny_bind (wpAny_seqItems hS rfl ?_)
  show wpAny _ A.in1 (tryCatch (pyNext (.ref I)) _ >>= _) _ _ s
  refine wpAny_bind (wpAny_tryCatch (W.done s _ _ hst fun h' tk hk' => ?_))
  show wpAny _ A.in1 (rule _ >>= _) _ _ _
  exact wpAny_bind (wpAny_rule (wpAny_pure (hR h' tk hk')))
end
section
variable {prog : Program} {w : World} {A : Around} {E : Value → Shared → Prop} {s : Shared} {l : Addr} {xs : Array (Int × Tok)} {d : Value}
theorem call_treeK {id : String} {b : Builtin} {args : List Value} {kw : List (Str × Value)} {Q : Value → Shared → Prop} (hk : builtinKind id = none) (hp : plainId id = true)
    (hb : entryFor table id = some b) (ha : argsOk id ⟨args, kw⟩)
    (hc : wpAny (model prog w) A.in1 (b ⟨args, kw⟩) (fun fin s' => match fin with
      | .done f => (match (Except.ok f : Result) with | .ok (.ret v) => Q v s' | .ok _ => False | .error e => E e s')
      | .again c' => c'.quiet = true ∧ codeAny (model prog w) A c' (fun r s' => match r with | .ok (.ret v) => Q v s' | .ok _ => False | .error e => E e s') s') E s) :
    wpAny (model prog w) A (call (.builtin id) args kw) Q E s := by
  refine wpAny_call (codeAny_call_builtin hp hb ?_)
  simp only [checkBuiltinCall, hk]
  cases hsig : Manifest.signature? id with
  | none => exact wpAny_pure hc
  | some sig =>
    have ha' : Bind.checkArgs id sig ⟨args, kw⟩ = pure () := by simpa only [argsOk, hsig] using ha
    simp only
    rw [ha']
    exact wpAny_pure hc
theorem call_maxD {x : Value} {Q : Value → Shared → Prop}
    (h : wpAny (model prog w) A.in1 (pyIter x) (fun it s₂ => ∃ I fp wr n P St bt, it = .ref I ∧ Walks prog w A.in1 I fp wr n P St ∧ St 0 s₂.heap ∧ (∀ b ∈ fp, b < s₂.heap.objs.size) ∧ CmpOf prog w A.in1 .Gt P bt ∧
      (0 < n → ∀ v h' tk, P (argBest bt (n - 1)) v → (∀ b o, b ∉ wr → s₂.heap.get? b = some o → h'.get? b = some o) → Q v { s₂ with heap := h', toks := tk }) ∧
      (n = 0 → ∀ h' tk, (∀ b o, b ∉ wr → s₂.heap.get? b = some o → h'.get? b = some o) → Q d { s₂ with heap := h', toks := tk })) E s) :
    wpAny (model prog w) A (call (.builtin "max") [x] [(Str.ofString "default", d)]) Q E s := by
  have hname : (toString "max" ++ toString ".loop" : String) = "max.loop" := by decide
  refine call_treeK F.kind_max F.plain_max F.entry_max (args_maxD _ _) ?_
  show wpAny _ A.in1 (Builtin.Builtins.bindParams "max" ["key", "default"] 0 ⟨[], [(Str.ofString "default", d)]⟩ >>= _) _ _ s
  refine wpAny_bind (wpAny_of_eq (show Builtin.Builtins.bindParams "max" ["key", "default"] 0 ⟨[], [(Str.ofString "default", d)]⟩ = pure [none, some d] from rfl) ?_)
  refine wpAny_bind (wpAny_pure ?_)
  refine wpAny_bind (wpAny_mono h (fun it s₂ h₂ => ?_) fun _ _ e => e)
  obtain ⟨I, fp, wr, n, P, St, bt, rfl, W, hst, hfp, hcmp, hQ, hQ0⟩ := h₂
  refine wpAny_bind (wpAny_newObj_type ?_)
  have hSf : s₂.heap.objs.size ∉ fp := fun hm => Nat.lt_irrefl _ (hfp _ hm)
  rw [hname]
  by_cases hn : 0 < n
  · refine wpAny_pure ⟨plainId_quiet F.plain_max_loop _, first_max W bt hcmp s₂.heap.objs.size hSf hn (W.frame _ _ _ hst fun b _ o e => Heap.get?_push_of_some _ e) (Heap.get?_push_size _ rfl) fun v h' tk hP hk => ?_⟩
    exact hQ hn v h' tk hP fun b o hbw e => hk b o hbw (Nat.ne_of_lt (Heap.lt_size e)) (Heap.get?_push_of_some _ e)
  · obtain rfl : n = 0 := by omega
    refine wpAny_pure ⟨plainId_quiet F.plain_max_loop _, none_max W s₂.heap.objs.size (W.frame _ _ _ hst fun b _ o e => Heap.get?_push_of_some _ e) (Heap.get?_push_size _ rfl) fun h' tk hk => ?_⟩
    exact hQ0 rfl h' tk fun b o hbw e => hk b o hbw (Heap.get?_push_of_some _ e)
theorem max_dflt {Q : Value → Shared → Prop} (hh : A.handled = none) (hl : s.heap.IsList l (intItems xs))
    (h : ∀ v h' tk, 0 < xs.size → (intItems xs)[argBest (fun i j => decide (numAt xs i > numAt xs j)) (xs.size - 1)]? = some v → (∀ b o, s.heap.get? b = some o → h'.get? b = some o) → Q v { s with heap := h', toks := tk })
    (h0 : xs.size = 0 → ∀ h' tk, (∀ b o, s.heap.get? b = some o → h'.get? b = some o) → Q d { s with heap := h', toks := tk }) :
    wpAny (model prog w) A (call (.builtin "max") [.ref l] [(Str.ofString "default", d)]) Q E s := by
  refine call_maxD (iter_intList hl fun s₂ e st hfp hlI => ?_)
  subst e
  refine ⟨_, _, _, _, _, _, _, rfl, Walks.list (A := A.in1) hh _ l hlI (intItems xs), st, hfp, CmpOf.ints_gt (numAt xs) (fun _ _ => intItems_at), fun hn v h' tk hP hk => ?_, fun hn h' tk hk => ?_⟩
  · exact h v h' tk (by simpa [intItems] using hn) (by simpa [intItems] using hP) (old_kept hk)
  · exact h0 (by simpa [intItems] using hn) h' tk (old_kept hk)
end
theorem max_rawD {prog : Program} {w : World} {A : Around} {E : Value → Shared → Prop} {s : Shared} {l : Addr} {its : List Value} {ns : List Int} {d : Value} {Q : Value → Shared → Prop} (hh : A.handled = none) (hl : s.heap.IsList l its.toArray) (hi : IntsAre its ns)
    (h : ∀ h' tk M t', (∀ b o, s.heap.get? b = some o → h'.get? b = some o) → M ∈ ns → (∀ a, a ∈ ns → a ≤ M) → Q (.int M t') { s with heap := h', toks := tk }) (h0 : ns = [] → ∀ h' tk, (∀ b o, s.heap.get? b = some o → h'.get? b = some o) → Q d { s with heap := h', toks := tk }) :
    wpAny (model prog w) A (call (.builtin "max") [.ref l] [(Str.ofString "default", d)]) Q E s := by
  obtain ⟨xs, e⟩ := hi.allInts.items
  have hn : numsOf (intItems xs).toList = ns := by rw [← e]; exact hi.numsOf
  rw [nums_intItems] at hn
  subst hn
  rw [e] at hl
  refine max_dflt hh hl (fun v h' tk hsz hv hk => ?_) fun hz h' tk hk => h0 (by simpa using hz) h' tk hk
  obtain ⟨t, rfl⟩ := intItems_at hv
  obtain ⟨h1, h2⟩ := argBest_gt (numAt xs) (xs.size - 1)
  refine h h' tk _ t hk ?_ fun a ha => ?_
  · rw [numAt_eq]; exact PySem.getD_mem (by rw [List.length_map, Array.length_toList]; omega)
  · obtain ⟨j, hj, rfl⟩ := mem_getD ha
    rw [List.length_map, Array.length_toList] at hj
    rw [← numAt_eq]; exact h2 j (by omega)
def rMaxD (K : PySem.W.Frag) : List V → List V → Hp → VK → Prop := fun vs zs H Q => ∃ (a : Addr) (ns : List Int) (d : V), vs = [V.ref a] ∧ zs = [d] ∧ SqL K H a (ns.map V.int) ∧ (∀ m, m ∈ ns → (∀ y, y ∈ ns → y ≤ m) → Q (.int m) H) ∧ (ns = [] → Q d H)
theorem cr_maxD {X : Cx} (hc : X.calm = true) : CallRK X (.builtin "max") [Str.ofString "default"] (rMaxD X.K) := by
  intro pins s σ H vs zs us ws Q I r rz h
  obtain ⟨a, ns, d, rfl, rfl, hs, q, q0⟩ := h
  obtain rfl := Vals.ref1 r
  obtain ⟨w1, rfl, e1⟩ := vals1 rz
  obtain ⟨its, rv, hl, _⟩ := I.list hs
  exact max_rawD (I.ok.hd hc) hl.isList rv.ints (fun h' tk m t' hk h1 h2 => ⟨.int _, H, I.kept hk, ⟨_, rfl⟩, q m h1 h2⟩) fun hn h' tk hk => ⟨d, H, I.kept hk, e1, q0 hn⟩
end MaxD
namespace Pu
open PySem PySem.Spec PyProof.Rows L2 My
variable [Tbs] [Nls]
def cutL {α : Type} (xs : List α) (lo hi : Option Int) : List α := (xs.drop (HT.sIx xs.length 0 lo)).take (HT.sIx xs.length xs.length hi - HT.sIx xs.length 0 lo)
def sliceD (lo hi : Option Int) : D → Option D
  | .lst xs => some (.lst (cutL xs lo hi))
  | .tup xs => some (.tup (cutL xs lo hi))
  | .str z => if z.length ≤ sizeLine then some (.str (cutS z lo hi)) else none
  | .scr xs => some (.lst (cutL (xs.map .int) lo hi))
  | _ => none
def sliceF (lo hi : Option Int) : D → Option D
  | .lst xs => some (.lst (cutL xs lo hi))
  | .scr xs => some (.lst (cutL (xs.map .int) lo hi))
  | _ => none
def pNone : M (Option Int) := fun ρ => .ok none ρ
def pSome (fa : M Rv) : M (Option Int) := fun ρ => (fa ρ).bind fun r ρ1 => match rd ρ1 r with
  | some (.int i) => .ok (some i) ρ1
  | _ => .bad
def dSl (fa : M Rv) (fl fh : M (Option Int)) : M Rv := fun ρ => (fa ρ).bind fun r ρ1 => (fl ρ1).bind fun lo ρ2 => (fh ρ2).bind fun hi ρ3 => match rd ρ3 r with
  | some d => out ρ3 (sliceD lo hi d)
  | none => .bad
def dSlF (fa : M Rv) (fl fh : M (Option Int)) : M D := fun ρ => (fa ρ).bind fun r ρ1 => (fl ρ1).bind fun lo ρ2 => (fh ρ2).bind fun hi ρ3 => match rd ρ3 r with
  | some d => match sliceF lo hi d with
    | some e => .ok e ρ3
    | none => .bad
  | none => .bad
def tO (B : Bs) (W : WX) (f : M (Option Int)) : TO := fun σ H Q => ∃ c ρ O, Stt B c ρ σ H O ∧ Po B c W σ H O (fun o ρ' H' O' => Q o H') (f ρ)
abbrev DO (X : Cx) (W : WX) (e : Option Expr) (f : M (Option Int)) : Prop := PO X e (tO (bs X) W f)
theorem PO.le {X : Cx} {e : Option Expr} {t t' : TO} (h : PO X e t) (i : ∀ σ H Q, t' σ H Q → t σ H Q) : PO X e t' := ⟨fun pins s σ H Q I q => h.run pins s σ H Q I (i σ H Q q)⟩
section
variable {X : Cx} {W : WX} {e : Expr} {lo hi : Option Expr} {fa : M Rv} {fl fh : M (Option Int)} {pos p2 p : Pos} {k : Nat}
theorem tO.step {B : Bs} {σ : L2.St} {H : Hp} {f : M (Option Int)} {Q1 : Option Int → Hp → Prop} {c : Cst} {ρ : En} {O : List Addr} {R : Option Int → En → Hp → List Addr → Prop} (st : Stt B c ρ σ H O) (h : Po B c W σ H O R (f ρ)) (hq : ∀ b ρ1 H1 O1, Stt B c ρ1 σ H1 O1 → Ext (hide H O) (hide H1 O1) → R b ρ1 H1 O1 → Q1 b H1) : tO B W f σ H Q1 := by
  refine ⟨c, ρ, O, st, ?_⟩
  cases hf : f ρ with
  | ok r ρ1 => rw [hf] at h; exact fun H' O' st' e' => hq r ρ1 H' O' st' e' (h H' O' st' e')
  | ex x fs ρ1 => rw [hf] at h; exact h
  | bad => rw [hf] at h; exact h.elim
theorem do_none : DO X W none pNone := PO.le po_none fun σ H Q ⟨c, ρ, O, st, q⟩ => q H O st (.refl _)
theorem do_some (h : DE X W e fa) : DO X W (some e) (pSome fa) := PO.le (po_some h) fun σ H Q ⟨c, ρ, O, st, q⟩ => by
  unfold pSome at q
  refine tP.step st (Po.bind q) fun r ρ1 v H1 O1 st1 e1 hv q1 => ?_
  split at q1
  · rename_i i hi
    exact ⟨i, (st1.vw hv hi).int, q1 H1 O1 st1 (.refl _)⟩
  · exact q1.elim
theorem cut_rep {B : Bs} {G : Hp} {xs : List V} {ds : List D} (r : RepL B G xs ds) (lo hi : Option Int) : RepL B G (cutV xs lo hi) (cutL ds lo hi) := by
  unfold cutV cutL
  rw [r.length]
  exact (r.drop _).take _
theorem cutL_all {α : Type} {xs : List α} {lo hi : Option Int} (h : HT.sIx xs.length 0 lo = 0 ∧ HT.sIx xs.length xs.length hi = xs.length) : cutL xs lo hi = xs := by
  unfold cutL
  rw [h.1, h.2]
  simp
theorem de_slice (ha : DE X W e fa) (hl : DO X W lo fl) (hh : DO X W hi fh) : DE X W (.Subscript e (.Slice lo hi none p2) pos) (dSl fa fl fh) := PE.le (pe_slice ((sl_list.or sl_tupA).or sl_str) ha hl hh) fun σ H Q ⟨c, ρ, O, st, q⟩ => by
  unfold dSl at q
  refine tP.step st (Po.bind q) fun r ρ1 v H1 O1 st1 e1 hv q1 => ?_
  refine tO.step st1 (Po.bind q1) fun l ρ2 H2 O2 st2 e2 q2 => ?_
  refine tO.step st2 (Po.bind q2) fun h ρ3 H3 O3 st3 e3 q3 => ?_
  have hv3 := (hv.ext e2).ext e3
  split at q3
  · rename_i d hd
    have hw := st3.vw hv3 hd
    have hq : ∀ dd, sliceD l h d = some dd → ∀ w H', Same H3 H' → Rep (bs X) (hide H' O3) w dd → Q w H' := fun dd hdd w H' e' hw => by
      rw [hdd] at q3
      exact q3 H' O3 (st3.ext e') (same_hide e') w hw
    cases d <;> simp only [sliceD, out] at q3 <;> try (exact q3.elim)
    · rename_i z
      split at q3
      · rename_i hz
        refine .inr ⟨z, hw.str, ?_, hq (.str (cutS z l h)) (by simp only [sliceD]; split <;> simp_all) _ H3 (.refl _) (.str _)⟩
        split at hz <;> simp_all
      · exact q3.elim
    · obtain ⟨a, xs, rfl, hs, rr⟩ := hw.tup
      have hw' := hw
      refine .inl (.inr ⟨a, xs, rfl, hs, fun hwh => ?_, fun _ => ?_⟩)
      · rw [rr.length] at hwh
        refine hq _ rfl _ H3 (.refl _) ?_
        rw [cutL_all hwh]
        rcases hw' with z | ⟨p, o, z, _, y⟩
        · exact z
        · cases y
      · exact new_tup st3.liv (hq _ rfl) (cut_rep rr l h)
    · obtain ⟨a, xs, rfl, hs, rr⟩ := hw.lst
      exact .inl (.inl ⟨a, xs, rfl, .inl (.inl hs), new_repL st3.liv (hq _ rfl) ((cut_rep rr l h))⟩)
    · obtain ⟨a, rfl, hs⟩ := hw.scr
      exact .inl (.inl ⟨a, _, rfl, hs, new_repL st3.liv (hq _ rfl) ((cut_rep (rep_ints _) l h))⟩)
  · exact q3.elim
theorem new_own {B : Bs} {c : Cst} {ρ : En} {σ : L2.St} {H : Hp} {O : List Addr} {Q : VK} {d : D} {o : HO} (st : Stt B c ρ σ H O) (hq : ∀ H' O', Stt B c ρ σ H' O' → Ext (hide H O) (hide H' O') → ∀ p o, H' p = some o → p ∈ O' → Free ρ σ p → p ∉ c.F → RepO B (hide H' O') p o d → Q (.ref p) H') (hr : ∀ p, RepO B (hide H O) p o d) : ∀ p, H p = none → Q (.ref p) (upd H p o) := fun p hp => by
  obtain ⟨s3, e3, f3, n3⟩ := st.newO (o := o) hp (hr p).notb
  exact hq _ _ s3 e3 p o upd_same List.mem_cons_self f3 n3 ((hr p).mono e3)
theorem new_ownL {B : Bs} {c : Cst} {ρ : En} {σ : L2.St} {H : Hp} {O : List Addr} {Q : VK} {ds : List D} {xs : List V} (st : Stt B c ρ σ H O) (hq : ∀ H' O', Stt B c ρ σ H' O' → Ext (hide H O) (hide H' O') → ∀ p o, H' p = some o → p ∈ O' → Free ρ σ p → p ∉ c.F → RepO B (hide H' O') p o (.lst ds) → Q (.ref p) H') (hr : RepL B (hide H O) xs ds) : ∀ p, H p = none → Q (.ref p) (upd H p (.lst xs)) := new_own st hq fun _ => .lst hr
def listFD : D → Option (List D)
  | .lst xs => some xs
  | .tup xs => some xs
  | .scr xs => some (xs.map .int)
  | _ => none
def dListF (fa : M Rv) : M D := fun ρ => (fa ρ).bind fun r ρ1 => match rd ρ1 r with
  | some d => match listFD d with
    | some xs => .ok (.lst xs) ρ1
    | none => .bad
  | none => .bad
theorem tCB_1 {B : Bs} {r : List V → Hp → VK → Prop} {σ : L2.St} {H : Hp} {Q : VK} {te : TE} (h : te σ H fun v H1 => r [v] H1 Q) : tCB r (tCons te tNil) σ H Q := h
theorem df_list (hm : X.mg "list" = none) (ha : DE X W e fa) (hg : Gl X "list" := by rfl) (he : starEach [e] X.env = (false, eval e X.env) :: starEach [] X.env := by rfl) (hpl : (backTo pos (starEach [] X.env)).any (·.1) = false := by rfl) : DF X W (.Call (.Name "list" p) [e] [] pos) (dListF fa) :=
  PE.le (pe_callTy call_list_of hg hm (by decide +kernel) (pa_cons ha pa_nil he) (by decide) (by decide) he hpl) fun σ H Q ⟨c, ρ, O, st, q⟩ => by
    unfold dListF at q
    refine tCB_1 (B := bs X) (tP.step st (Po.bind q) fun r ρ1 v H1 O1 st1 e1 hv q1 => ?_)
    split at q1
    · rename_i d hd
      have hw := st1.vw hv hd
      cases d <;> simp only [listFD] at q1 <;> try (exact q1.elim)
      · obtain ⟨a, xs, rfl, hs, rr⟩ := hw.tup
        exact ⟨a, xs, rfl, .inr hs, new_ownL st1 q1 (rr)⟩
      · obtain ⟨a, xs, rfl, hs, rr⟩ := hw.lst
        exact ⟨a, xs, rfl, .inl (.inl (.inl hs)), new_ownL st1 q1 (rr)⟩
      · obtain ⟨a, rfl, hs⟩ := hw.scr
        exact ⟨a, _, rfl, .inl hs, new_ownL st1 q1 ((rep_ints _))⟩
    · exact q1.elim
def d2F (g : D → D → Option D) (fa fb : M Rv) : M D := fun ρ => (fa ρ).bind fun a ρ1 => (fb ρ1).bind fun b ρ2 => match rd ρ2 a, rd ρ2 b with
  | some x, some y => match g x y with
    | some d => .ok d ρ2
    | none => .bad
  | _, _ => .bad
def dNewK : M D := fun ρ => .ok (.dK []) ρ
def dNewT : M D := fun ρ => .ok (.dT []) ρ
theorem df_newK : DF X W (.Dict [] [] pos) dNewK := PE.le pe_dnewK fun σ H Q ⟨c, ρ, O, st, q⟩ => new_own st q (fun _ => .dK rfl .nil)
end
end Pu
namespace Pu
open PySem PySem.Spec PyProof.Rows L2 My
variable [Tbs] [Nls]
def isD1 : D → Bool
  | .dK _ => true
  | .dT _ => true
  | _ => false
def getD1 : D → D → Option D
  | .dK kvs, k => match keyD k with
    | some k => some ((valD kvs k).getD .non)
    | none => none
  | _, _ => none
def dGet1 (fo fk : M Rv) : M Rv := fun ρ => (fo ρ).bind fun r ρ1 => match rd ρ1 r with
  | some d0 => if isD1 d0 = true then (fk ρ1).bind fun k ρ2 => (match rd ρ2 r, rd ρ2 k with
    | some d, some y => out ρ2 (getD1 d y)
    | _, _ => .bad) else .bad
  | none => .bad
def dGet2 (fo fk fx : M Rv) : M Rv := fun ρ => (fo ρ).bind fun r ρ1 => match rd ρ1 r with
  | some d0 => if isD1 d0 = true then (fk ρ1).bind fun k ρ2 => (fx ρ2).bind fun x ρ3 => (match esc ρ3 x with
    | some (dx, ρ4) => match rd ρ4 r, rd ρ4 k with
      | some (.dK kvs), some y => match keyD y with
        | some kk => .ok (.val ((valD kvs kk).getD dx)) ρ4
        | none => .bad
      | _, _ => .bad
    | none => .bad) else .bad
  | none => .bad
section
variable {X : Cx} {W : WX} {o e f a : Expr} {es : List Expr} {fo fk fx fa : M Rv} {fs : M (List Rv)} {pos p apos cpos tpos : Pos} {k : Nat} {x1 : Nat}
theorem isD_ok {B : Bs} {H : Hp} {O : List Addr} {v : V} {d : D} (h : Vw B H O v d) (e : isD1 d = true) : ∃ a, v = .ref a ∧ IsD H a := by
  cases d <;> simp only [isD1] at e <;> try (cases e; done)
  · obtain ⟨a, kvs, rfl, hr, _⟩ := h.dK
    exact ⟨a, rfl, .inl ⟨kvs, hr⟩⟩
  · obtain ⟨a, kvs, rfl, hr, _⟩ := h.dT
    exact ⟨a, rfl, .inr ⟨kvs, hr⟩⟩
theorem dget_k {B : Bs} {H : Hp} {O : List Addr} {v y : V} {kvs : List (Key × D)} {dy : D} {kk : Key} {a : Addr} (h : Vw B H O (.ref a) (.dK kvs)) (hy : Vw B H O y dy) (hk : keyD dy = some kk) : ∃ o, DGet H a y o ∧ (∀ d, valD kvs kk = some d → ∃ u, o = some u ∧ Rep B (hide H O) u d) ∧ (valD kvs kk = none → o = none) := by
  obtain ⟨a', kvs', e, hr, hkk, rr⟩ := h.dK
  cases e
  have := keyD_ok hy.full hk
  exact ⟨valV kvs' kk, .inl ⟨kvs', kk, hr, this, rfl⟩, fun d hd => valD_ok hkk rr hd, fun hn => valD_none hkk hn⟩
theorem de_get1 (hr : RmG k X.A) (ho : DE X W o fo) (he : DE X W e fk) (m : M1 X o "get" apos e cpos := by exact ⟨rfl, rfl, rfl, rfl⟩) : DE X W (.Call (.Attribute o "get" apos) [e] [] cpos) (dGet1 fo fk) := PE.le (pe_dget1 hr.u1 ho he m) fun σ H Q ⟨c, ρ, O, st, q⟩ => by
  unfold dGet1 at q
  refine tP.step st (Po.bind q) fun r ρ1 v H1 O1 st1 e1 hv q1 => ?_
  split at q1
  · rename_i d0 hd0
    split at q1
    · rename_i h0
      obtain ⟨a, rfl, hI⟩ := isD_ok (st1.vw hv hd0) h0
      refine ⟨a, rfl, hI, ?_⟩
      refine tP.step st1 (Po.bind q1) fun r2 ρ2 y H2 O2 st2 e2 hy q2 => ?_
      split at q2
      · rename_i d dy hd hdy
        have hw := st2.vw (hv.ext e2) hd
        cases d <;> simp only [getD1, out] at q2 <;> try (exact q2.elim)
        rename_i kvs
        cases hk : keyD dy with
        | none => simp only [hk] at q2; exact q2.elim
        | some kk =>
          simp only [hk] at q2
          obtain ⟨ov, g, g1, g2⟩ := dget_k (v := .non) hw (st2.vw hy hdy) hk
          refine ⟨ov, g, ?_⟩
          cases hval : valD kvs kk with
          | none =>
            rw [hval] at q2
            rw [g2 hval]
            exact q2 H2 O2 st2 (.refl _) _ .non
          | some d' =>
            rw [hval] at q2
            obtain ⟨u, rfl, hu⟩ := g1 d' hval
            exact q2 H2 O2 st2 (.refl _) u hu
      · exact q2.elim
    · exact q1.elim
  · exact q1.elim
def pairsD : List D → Option (List (Key × D))
  | [] => some []
  | k :: v :: r => match keyD k, pairsD r with
    | some kk, some ps => some ((kk, v) :: ps)
    | _, _ => none
  | [_] => none
def mergeD (kvs more : List (Key × D)) : List (Key × D) := more.foldl (fun acc kv => putD acc kv.1 kv.2) kvs
def dDisp (fs : M (List Rv)) : M D := fun ρ => (fs ρ).bind fun rs ρ1 => match escs ρ1 rs with
  | some (ds, ρ2) => match pairsD ds with
    | some ps => if ps.length ≤ 15 then .ok (.dK (mergeD [] ps)) ρ2 else .bad
    | none => .bad
  | none => .bad
def trsOf (B : Bs) (W : WX) : List (M Rv × M Rv) → List (TE × TE)
  | [] => []
  | (fk, fv) :: r => (tP B W fk, tP B W fv) :: trsOf B W r
def dPairs : List (M Rv × M Rv) → M (List Rv)
  | [] => dNil
  | (fk, fv) :: r => dCons fk (dCons fv (dPairs r))
abbrev DPs (X : Cx) (W : WX) (pos : Pos) (ks : List (Option Expr)) (vs : List Expr) (fs : List (M Rv × M Rv)) : Prop := PPs X pos ks vs (trsOf (bs X) W fs)
theorem dps_nil : DPs X W pos [] [] [] := pps_nil
theorem dps_cons {ks : List (Option Expr)} {vs : List Expr} {fr : List (M Rv × M Rv)} {e1 e2 : Expr} (hk : DE X W e1 fk) (hv : DE X W e2 fx) (hr : DPs X W pos ks vs fr) : DPs X W pos (some e1 :: ks) (e2 :: vs) ((fk, fx) :: fr) := pps_cons hk hv hr
theorem pairs_le {B : Bs} {σ : L2.St} : ∀ {fr : List (M Rv × M Rv)} {c : Cst} {ρ : En} {O : List Addr} {H : Hp} {R : List Rv → En → Hp → List Addr → Prop} {Q : List (V × V) → Hp → Prop}, Stt B c ρ σ H O → Po B c W σ H O R (dPairs fr ρ) →
    (∀ rs ρ1 vs H1 O1, Stt B c ρ1 σ H1 O1 → Ext (hide H O) (hide H1 O1) → RvsOk B σ H1 O1 (vs.flatMap fun p => [p.1, p.2]) rs → R rs ρ1 H1 O1 → Q vs H1) → tPairs (trsOf B W fr) σ H Q
  | [], c, ρ, O, H, R, Q, st, h, hq => hq [] ρ [] H O st (.refl _) .nil (h H O st (.refl _))
  | (fk, fv) :: fr, c, ρ, O, H, R, Q, st, h, hq => by
    show tP B W fk σ H fun x H1 => tP B W fv σ H1 fun y H2 => tPairs (trsOf B W fr) σ H2 fun ps H3 => Q ((x, y) :: ps) H3
    have h' : Po B c W σ H O R ((fk ρ).bind fun a ρ1 => ((fv ρ1).bind fun b ρ2 => (dPairs fr ρ2).bind fun as ρ3 => .ok (b :: as) ρ3).bind fun as ρ2 => .ok (a :: as) ρ2) := h
    refine tP.step st (Po.bind h') fun r1 ρ1 x H1 O1 st1 e1 hx q1 => ?_
    have q1' := Po.bind (Po.bind q1)
    refine tP.step st1 q1' fun r2 ρ2 y H2 O2 st2 e2 hy q2 => ?_
    have q2' := Po.bind q2
    refine pairs_le st2 q2' fun rs ρ3 vs H3 O3 st3 e3 hvs q3 => ?_
    have q4 := q3 H3 O3 st3 (.refl _)
    have q5 := q4 H3 O3 st3 (.refl _)
    exact hq _ ρ3 ((x, y) :: vs) H3 O3 st3 (e1.trans (e2.trans e3)) (.cons ((hx.ext e2).ext e3) (.cons (hy.ext e3) hvs)) q5
theorem pairsD_ok {B : Bs} {G : Hp} : ∀ {vs : List (V × V)} {ds : List D} {ps : List (Key × D)}, RepL B G (vs.flatMap fun p => [p.1, p.2]) ds → pairsD ds = some ps → ∃ kvs : List (Key × V), vs = kvs.map (fun kv => (kV kv.1, kv.2)) ∧ kvs.map (·.1) = ps.map (·.1) ∧ RepL B G (kvs.map (·.2)) (ps.map (·.2))
  | [], ds, ps, r, h => by
    cases r
    simp only [pairsD] at h
    cases h
    exact ⟨[], rfl, rfl, .nil⟩
  | (x, y) :: vs, ds, ps, r, h => by
    simp only [List.flatMap_cons, List.cons_append, List.nil_append] at r
    cases r with
    | @cons _ _ dk _ r1 r2 =>
    cases r2 with
    | @cons _ _ dv ds r2 r3 =>
    simp only [pairsD] at h
    cases hk : keyD dk with
    | none => simp only [hk] at h; cases h
    | some kk =>
      cases hp : pairsD ds with
      | none => simp only [hk, hp] at h; cases h
      | some ps' =>
        simp only [hk, hp] at h
        cases h
        obtain ⟨kvs, a1, a2, a3⟩ := pairsD_ok r3 hp
        exact ⟨(kk, y) :: kvs, by rw [List.map_cons, ← a1, keyD_ok r1 hk], by simp [a2], .cons r2 a3⟩
theorem mergeD_ok {B : Bs} {G : Hp} : ∀ {more : List (Key × V)} {md : List (Key × D)} {kvs : List (Key × V)} {kd : List (Key × D)}, more.map (·.1) = md.map (·.1) → RepL B G (more.map (·.2)) (md.map (·.2)) → kvs.map (·.1) = kd.map (·.1) → RepL B G (kvs.map (·.2)) (kd.map (·.2)) →
    (mergeK kvs more).map (·.1) = (mergeD kd md).map (·.1) ∧ RepL B G ((mergeK kvs more).map (·.2)) ((mergeD kd md).map (·.2))
  | [], [], _, _, _, _, h1, h2 => ⟨h1, h2⟩
  | [], _ :: _, _, _, h, _, _, _ => by simp at h
  | _ :: _, [], _, _, h, _, _, _ => by simp at h
  | (k1, v1) :: more, (k2, d2) :: md, kvs, kd, h, r, h1, h2 => by
    simp only [List.map_cons, List.cons.injEq] at h
    obtain ⟨rfl, h⟩ := h
    cases r with
    | cons r1 r2 =>
    obtain ⟨m1, m2⟩ := putK_map k1 v1 d2 r1 h1 h2
    have ih := mergeD_ok (kvs := putK kvs k1 v1) (kd := putD kd k1 d2) h r2 m1 m2
    exact ih
theorem df_disp {ks : List (Option Expr)} {vs : List Expr} {fr : List (M Rv × M Rv)} (h : DPs X W pos ks vs fr) (hall : ks.all (·.isSome) = true := by rfl) (hl : ks.length = vs.length := by rfl) (h0 : ks ≠ [] := by exact fun z => by cases z) (h15 : ks.length ≤ 15 := by decide) : DF X W (.Dict ks vs pos) (dDisp (dPairs fr)) := PE.le (pe_disp h hall hl h0 h15) fun σ H Q ⟨c, ρ, O, st, q⟩ => by
  intro p hp
  unfold dDisp at q
  obtain ⟨s1, e1, f1, n1⟩ := st.newO (o := .dK []) hp
  have q0 := Po.mono (Po.bind q) e1 (fun _ _ _ _ z => z)
  have q1 := Po.still q0 (fun q hq => (s1.frm q hq).2) n1 upd_same
  refine pairs_le (s1.still upd_same List.mem_cons_self f1) q1 fun rs ρ1 vs H1 O1 st1 e2 hvs q2 => ?_
  obtain ⟨_, _, _, hp1, q3⟩ := q2
  refine ⟨hp1, ?_⟩
  split at q3
  · rename_i ds ρ2 hes
    obtain ⟨O2, st2, e3, hr⟩ := escs_ok st1 hvs hes
    split at q3
    · rename_i ps hps
      split at q3
      · rename_i hl15
        obtain ⟨kvs, a1, a2, a3⟩ := pairsD_ok hr hps
        have hlen : kvs.length = ps.length := by simpa using congrArg List.length a2
        refine ⟨kvs, a1, by omega, ?_⟩
        obtain ⟨m1, m2⟩ := mergeD_ok (kvs := []) (kd := []) a2 a3 rfl .nil
        obtain ⟨s5, f5, m5, h5⟩ := st2.unstill (o := .dK (mergeK [] kvs)) (fun q hq => (s1.frm q hq).2) n1
        refine q3 _ _ s5 ?_ p _ upd_same m5 f5 n1 ?_
        · rw [h5]; exact e3
        · rw [h5]; exact .dK m1 m2
      · exact q3.elim
    · exact q3.elim
  · exact q3.elim
theorem de_glob {x : Str} {v : V} {u : Value} {d : D} (hm : X.mg x = some u) (hr : RelV v u) (hd : ∀ G, Rep (bs X) G v d) (hg : Gl X x := by rfl) (hdb : (x == ("__debug__" : Str)) = false := by decide) : DE X W (.Name x pos) (dC d) := de_c (pe_glob hg hm hr hdb) hd
def blsD : List D → Option (List Bool)
  | [] => some []
  | .bl b :: r => (blsD r).map (b :: ·)
  | _ :: _ => none
def intsD : List D → Option (List Int)
  | [] => some []
  | .int i :: r => (intsD r).map (i :: ·)
  | _ :: _ => none
theorem ints_ok {B : Bs} {G : Hp} : ∀ {vs : List V} {ds : List D} {bs : List Int}, RepL B G vs ds → intsD ds = some bs → vs = bs.map V.int
  | _, _, _, .nil, h => by simp only [intsD] at h; cases h; rfl
  | _, d :: ds, bs, .cons h t, e => by
    cases d <;> simp only [intsD] at e <;> try (cases e; done)
    cases hb : intsD ds with
    | none => rw [hb] at e; cases e
    | some bs' => rw [hb] at e; cases e; rw [ints_ok t hb, h.int_inv]; rfl
def anyD : D → Option D
  | .lst ds => (blsD ds).map fun bs => .bl (bs.any id)
  | _ => none
def maxL : List Int → Option Int
  | [] => none
  | x :: r => match maxL r with
    | none => some x
    | some m => some (if x < m then m else x)
theorem maxL_mem : ∀ {l : List Int} {m : Int}, maxL l = some m → m ∈ l ∧ ∀ y ∈ l, y ≤ m
  | [], m, h => by simp only [maxL] at h; cases h
  | x :: r, m, h => by
    simp only [maxL] at h
    cases hr : maxL r with
    | none =>
      rw [hr] at h
      cases h
      have : r = [] := by
        cases r with
        | nil => rfl
        | cons a b => simp only [maxL] at hr; split at hr <;> cases hr
      subst this
      simp
    | some m' =>
      rw [hr] at h
      cases h
      obtain ⟨h1, h2⟩ := maxL_mem hr
      split
      · rename_i hl
        refine ⟨.tail _ h1, fun y hy => ?_⟩
        rcases List.mem_cons.mp hy with rfl | hy
        · omega
        · exact h2 y hy
      · rename_i hl
        refine ⟨List.mem_cons_self, fun y hy => ?_⟩
        rcases List.mem_cons.mp hy with rfl | hy
        · exact Int.le_refl _
        · have := h2 y hy; omega
theorem maxL_none {l : List Int} (h : maxL l = none) : l = [] := by
  cases l with
  | nil => rfl
  | cons a b => simp only [maxL] at h; split at h <;> cases h
def maxD1 : D → Option D
  | .lst ds => match intsD ds with
    | some ns => (maxL ns).map .int
    | none => none
  | _ => none
theorem max_eq {ns : List Int} {m m' : Int} (h : maxL ns = some m) (h1 : m' ∈ ns) (h2 : ∀ y ∈ ns, y ≤ m') : m' = m := by
  obtain ⟨a, b⟩ := maxL_mem h
  have := b _ h1
  have := h2 _ a
  omega
theorem de_max1 (hm : X.mg "max" = none) (hc : X.calm = true) (ha : DA X W (e :: es) fs) (hg : Gl X "max" := by rfl) (he : starEach (e :: es) X.env = (false, eval e X.env) :: starEach es X.env := by rfl) (hpl : (backTo pos (starEach es X.env)).any (·.1) = false := by rfl) : DE X W (.Call (.Name "max" p) (e :: es) [] pos) (dN (one1 maxD1) fs) :=
  de_N (pe_callB (cr_max hc) hg hm (by decide +kernel) ha (by decide) (by decide) he hpl) (callD_1 (by
    intro v H O x d Q hl hx hg hq
    cases x <;> simp only [maxD1] at hg <;> try (cases hg; done)
    rename_i ds
    cases hb : intsD ds with
    | none => rw [hb] at hg; cases hg
    | some ns =>
      rw [hb] at hg
      cases hM : maxL ns with
      | none => simp only [hM] at hg; cases hg
      | some m =>
        simp only [hM] at hg
        cases hg
        obtain ⟨a, xs, rfl, hs, rr⟩ := hx.lst
        refine ⟨a, ns, rfl, by rw [← ints_ok rr hb]; exact .inl (.inl hs), List.length_pos_of_mem (maxL_mem hM).1, fun m' h1 h2 => ?_⟩
        rw [max_eq hM h1 h2]
        exact hq _ H (.refl _) (.int _)))
def maxDf (n : Int) : D → Option D
  | .lst ds => match intsD ds with
    | some ns => some (.int ((maxL ns).getD n))
    | none => none
  | _ => none
theorem de_maxD {n : Int} {ku : Nat} {kp cp : Pos} (hm : X.mg "max" = none) (hc : X.calm = true) (ha : DE X W e fa) (hg : Gl X "max" := by rfl) (hs : starEach [e] X.env = (false, eval e X.env) :: starEach [] X.env := by rfl)
    (he : backTo pos (starEach [e] X.env) = (false, eval e X.env) :: backTo pos (starEach [] X.env) := by rfl) (hpl : (backTo pos (starEach [e] X.env)).any (·.1) = false := by rfl)
    (hall : (backToKw pos (keywordEach [⟨some "default", .Constant (.int n) ku cp, kp⟩] X.env)).all (·.1.isSome) = true := by rfl) (hnone : (backToKw pos (keywordEach [⟨some "default", .Constant (.int n) ku cp, kp⟩] X.env)).any (·.1.isNone) = false := by rfl) (hks : (backToKw pos (keywordEach [⟨some "default", .Constant (.int n) ku cp, kp⟩] X.env)).filterMap (·.1) = [Str.ofString "default"] := by rfl) :
    DE X W (.Call (.Name "max" p) [e] [⟨some "default", .Constant (.int n) ku cp, kp⟩] pos) (d1 (maxDf n) fa) := PE.le (pe_callBK (MaxD.cr_maxD hc) hg hm (by decide +kernel) (pa_cons ha pa_nil hs) (pk_cons pe_int pk_nil) (by decide) (by decide) he hpl hall hnone hks) fun σ H Q ⟨c, ρ, O, st, q⟩ => by
  unfold d1 at q
  refine tP.step st (Po.bind q) fun r ρ1 v H1 O1 st1 e1 hv q1 => ?_
  split at q1
  · rename_i d hd
    have hw := st1.vw hv hd
    cases d <;> simp only [maxDf, out] at q1 <;> try (exact q1.elim)
    rename_i ds
    cases hb : intsD ds with
    | none => simp only [hb] at q1; exact q1.elim
    | some ns =>
      simp only [hb] at q1
      obtain ⟨a, xs, rfl, hs, rr⟩ := hw.lst
      refine ⟨a, ns, .int n, rfl, rfl, by rw [← ints_ok rr hb]; exact .inl (.inl hs), fun m h1 h2 => ?_, fun hn => ?_⟩
      · have : maxL ns = some m := by
          cases hM : maxL ns with
          | none => rw [maxL_none hM] at h1; cases h1
          | some m' => rw [max_eq hM h1 h2]
        rw [this] at q1
        exact q1 H1 O1 st1 (.refl _) _ (.int m)
      · subst hn
        exact q1 H1 O1 st1 (.refl _) _ (.int n)
  · exact q1.elim
end
end Pu
namespace Pu
open PySem PySem.Spec PyProof.Rows L2 My
variable [Tbs] [Nls]
def strsD : List D → Option (List Str)
  | [] => some []
  | .str s :: r => (strsD r).map (s :: ·)
  | _ :: _ => none
theorem strs_ok {B : Bs} {G : Hp} : ∀ {vs : List V} {ds : List D} {ss : List Str}, RepL B G vs ds → strsD ds = some ss → vs = ss.map V.str
  | _, _, _, .nil, h => by simp only [strsD] at h; cases h; rfl
  | _, d :: ds, bs, .cons h t, e => by
    cases d <;> simp only [strsD] at e <;> try (cases e; done)
    cases hb : strsD ds with
    | none => rw [hb] at e; cases e
    | some bs' => rw [hb] at e; cases e; rw [strs_ok t hb, h.str_inv]; rfl
def seqD : D → Option (List D)
  | .lst xs => some xs
  | .tup xs => some xs
  | _ => none
def joinD (a : Str) (d : D) : Option D := match seqD d with
  | some ds => match strsD ds with
    | some ss => if (ss.map (·.length)).sum + ss.length * a.length ≤ 16777216 then some (.str (Txt.join a ss)) else none
    | none => none
  | none => none
def dJoin (fo fa : M Rv) : M Rv := fun ρ => (fo ρ).bind fun r ρ1 => match rd ρ1 r with
  | some (.str a) => (fa ρ1).bind fun r2 ρ2 => match rd ρ2 r2 with
    | some d => out ρ2 (joinD a d)
    | none => .bad
  | _ => .bad
section
variable {X : Cx} {W : WX} {o e f a : Expr} {es : List Expr} {fo fk fx fa : M Rv} {fs : M (List Rv)} {pos p apos cpos tpos : Pos} {k : Nat} {x1 : Nat}
theorem de_join (ho : DE X W o fo) (he : DE X W e fa) (hs : starEach [e] X.env = [(false, eval e X.env)] := by rfl) (hbase : attributeBase o "join" X.env (eval o X.env) = eval o X.env := by rfl) (hline : (apos.endLine == pos.line) = true := by rfl) :
    DE X W (.Call (.Attribute o "join" apos) [e] [] pos) (dJoin fo fa) := PE.le (pe_join ho he hs hbase hline) fun σ H Q ⟨c, ρ, O, st, q⟩ => by
  unfold dJoin at q
  refine tP.step st (Po.bind q) fun r ρ1 v H1 O1 st1 e1 hv q1 => ?_
  split at q1
  · rename_i a ha
    have hva := (st1.vw hv ha).str
    refine ⟨⟨a, hva⟩, ?_⟩
    refine tP.step st1 (Po.bind q1) fun r2 ρ2 y H2 O2 st2 e2 hy q2 => ?_
    split at q2
    · rename_i d hd
      have hw := st2.vw hy hd
      cases hj : joinD a d with
      | none => rw [hj] at q2; exact q2.elim
      | some z =>
        rw [hj] at q2
        unfold joinD at hj
        split at hj
        · rename_i ds hds
          split at hj
          · rename_i ss hss
            obtain ⟨hb, rfl⟩ := some_if hj
            cases d <;> simp only [seqD] at hds <;> cases hds
            · obtain ⟨a1, xs, rfl, hs, rr⟩ := hw.tup
              exact ⟨a, a1, ss, hva, rfl, .inr (by rw [← strs_ok rr hss]; exact hs), hb, q2 H2 O2 st2 (.refl _) _ (.str _)⟩
            · obtain ⟨a1, xs, rfl, hs, rr⟩ := hw.lst
              exact ⟨a, a1, ss, hva, rfl, .inl (by rw [← strs_ok rr hss]; exact .inl (.inl hs)), hb, q2 H2 O2 st2 (.refl _) _ (.str _)⟩
          · cases hj
        · cases hj
    · exact q2.elim
  · exact q1.elim
mutual
theorem toP_nodict : ∀ (d : D) (q : PyData), toP d = some q → q.hasDict = false
  | .non, q, h => by simp only [toP] at h; cases h; rw [PyData.hasDict]
  | .bl b, q, h => by simp only [toP] at h; cases h; rw [PyData.hasDict]
  | .int b, q, h => by simp only [toP] at h; cases h; rw [PyData.hasDict]
  | .str b, q, h => by simp only [toP] at h; cases h; rw [PyData.hasDict]
  | .tup xs, q, h => by
    simp only [toP] at h
    cases hp : toPs xs with
    | none => rw [hp] at h; cases h
    | some ps => rw [hp] at h; cases h; rw [PyData.hasDict]; exact toPs_nodict xs ps hp
  | .lst xs, q, h => by
    simp only [toP] at h
    cases hp : toPs xs with
    | none => rw [hp] at h; cases h
    | some ps => rw [hp] at h; cases h; rw [PyData.hasDict]; exact toPs_nodict xs ps hp
  | .dK _, q, h => by simp only [toP] at h; cases h
  | .dT _, q, h => by simp only [toP] at h; cases h
  | .kd _, q, h => by simp only [toP] at h; cases h
  | .ins _ _, q, h => by simp only [toP] at h; cases h
  | .scr _, q, h => by simp only [toP] at h; cases h
  | .ty _, q, h => by simp only [toP] at h; cases h
  | .cl _, q, h => by simp only [toP] at h; cases h
theorem toPs_nodict : ∀ (ds : List D) (qs : List PyData), toPs ds = some qs → PyData.hasDictAll qs = false
  | [], qs, h => by simp only [toPs] at h; cases h; rw [PyData.hasDictAll]
  | d :: ds, qs, h => by
    simp only [toPs] at h
    cases h1 : toP d with
    | none => rw [h1] at h; cases h
    | some q =>
      cases h2 : toPs ds with
      | none => rw [h1, h2] at h; cases h
      | some qs' =>
        rw [h1, h2] at h
        cases h
        rw [PyData.hasDictAll, toP_nodict d q h1, toPs_nodict ds qs' h2]
        rfl
end
def dTupR (fa : M Rv) : M Rv := fun ρ => (fa ρ).bind fun r ρ1 => match rd ρ1 r with
  | some (.int n) => if -(2 ^ 62) ≤ n ∧ n ≤ 2 ^ 24 then .ok (.val (.tup (rngD 0 n.toNat))) ρ1 else .bad
  | _ => .bad
open SrtO in
def dSrt0 (fa : M Rv) : M D := fun ρ => (fa ρ).bind fun r ρ1 => match rd ρ1 r with
  | some (.lst ds) => if oneKd ds = true then .ok (.lst (SrtK.isort ltkD ds)) ρ1 else .bad
  | _ => .bad
end
end Pu
namespace Pu
open PySem PySem.Spec PyProof.Rows L2 My
variable [Tbs] [Nls]
abbrev GX := Str → List (Str × D) → Option D
abbrev GXs := Str → List (Str × D) → Option (List D)
structure SuAt (B : Bs) (i : Nat) (a : Addr) (cls : Value) (d : Option Addr) (x : Str) (fs : List (Str × D)) (c : Cst) (ρ : En) (O : List Addr) (σ : L2.St) (H : Hp) : Prop where
  cls : cls = .ref (B.cls x)
  st : Stt B c ρ σ H O
  ex : ExAt B (hide H O) fs d
  sl : σ[i]? = some (some (.ref a))
def tXp (B : Bs) (i : Nat) (a : Addr) (cls : Value) (d : Option Addr) (g : GX) : TE := fun σ H Q => ∃ x fs c ρ O, SuAt B i a cls d x fs c ρ O σ H ∧ ∃ dd, g x fs = some dd ∧ ∀ v, Rep B (hide H O) v dd → Q v H
def tXps (B : Bs) (i : Nat) (a : Addr) (cls : Value) (d : Option Addr) (g : GXs) : TA := fun σ H Q => ∃ x fs c ρ O, SuAt B i a cls d x fs c ρ O σ H ∧ ∃ dd, g x fs = some dd ∧ ∀ v, RepL B (hide H O) v dd → Q v H
def gStr (z : Str) : GX := fun _ _ => some (.str z)
def gFld (cn f : Str) : GX := fun x fs => if x = cn then fs.lookup f else none
def gIs (cn : Str) (b : Bool) : GX := fun x _ => if x = cn then some (.bl b) else none
def gNil : GXs := fun _ _ => some []
def gCons (g : GX) (gs : GXs) : GXs := fun x fs => match g x fs, gs x fs with
  | some d, some ds => some (d :: ds)
  | _, _ => none
section
variable {X : Cx} {i : Nat} {a : Addr} {cls : Value} {d : Option Addr} {oe : Obj} {pn : List (Addr × Obj)} {e : Expr} {es : List Expr} {g : GX} {gs : GXs} {pos p tpos : Pos} {x1 : Nat}
theorem xp_str {z : Str} {ku : Nat} : PE (X.suite a ((a, oe) :: pn)) (.Constant (.str z) ku pos) (tXp (bs X) i a cls d (gStr z)) := PE.le pe_str fun σ H Q ⟨x, fs, c, ρ, O, su, dd, hg, q⟩ => by
  cases hg
  exact q _ (.str z)
theorem xp_fld {cn f n : Str} {sI : Stmt} {fn : List Str} {ps : Pos} (R : Ex X.prog X.K X.mg cn sI fn) (hf : f ∈ fn) (hz : Zc cls d oe) (hv : ∃ vs, oe.data = .fields vs) (hn : PE (X.suite a ((a, oe) :: pn)) (.Name n ps) (tVar i)) (hb : attributeBase (.Name n ps) f X.env (eval (.Name n ps) X.env) = eval (.Name n ps) X.env := by rfl) :
    PE (X.suite a ((a, oe) :: pn)) (.Attribute (.Name n ps) f pos) (tXp (bs X) i a cls d (gFld cn f)) := PE.le (pe_xf R.xf (R.T.nf _ hf) hz hv hn hb) fun σ H Q ⟨x, fs, c, ρ, O, su, dd, hg, q⟩ => by
  unfold gFld at hg
  split at hg
  · rename_i hx
    subst hx
    refine ⟨_, su.sl, rfl, su.cls, ?_⟩
    have hE := su.ex
    cases d with
    | none => unfold ExAt at hE; subst hE; cases hg
    | some d' =>
      obtain ⟨gs, h1, h2, h3⟩ := hE
      obtain ⟨v, l1, l2⟩ := lookup_ok h2 h3 hg
      exact ⟨d', gs, v, rfl, hide_le _ _ _ _ h1, l1, q v l2⟩
  · cases hg
theorem xp_is {cn n : Str} {T : String} {b : Bool} {ps : Pos} {eT : Expr} (C : ExcC X.K ((bs X).cls cn)) (hk : PySem.W.kitOne X.K (.ref ((bs X).cls cn)) (.type T) = some b) (hm : X.mg "isinstance" = none) (hz : Zc cls d oe) (hv : ∃ vs, oe.data = .fields vs) (hn : PE (X.suite a ((a, oe) :: pn)) (.Name n ps) (tVar i)) (hT : PE (X.suite a ((a, oe) :: pn)) eT (tC (.ty T))) (hg : Gl (X.suite a ((a, oe) :: pn)) "isinstance" := by rfl)
    (h0 : starEach [eT] X.env = (false, eval eT X.env) :: starEach [] X.env := by rfl) (he : starEach [.Name n ps, eT] X.env = (false, eval (.Name n ps) X.env) :: starEach [eT] X.env := by rfl) (hpl : (backTo pos (starEach [eT] X.env)).any (·.1) = false := by rfl) :
    PE (X.suite a ((a, oe) :: pn)) (.Call (.Name "isinstance" p) [.Name n ps, eT] [] pos) (tXp (bs X) i a cls d (gIs cn b)) := PE.le (pe_callB (call_isX C hz hv) hg hm (by decide +kernel) (pa_cons hn (pa_cons hT pa_nil h0) he) (by decide) (by decide) he hpl) fun σ H Q ⟨x, fs, c, ρ, O, su, dd, hgg, q⟩ => by
  unfold gIs at hgg
  split at hgg
  · rename_i hx
    subst hx
    cases hgg
    refine ⟨_, su.sl, .ty T, .type T, b, su.cls, rfl, fun u hu => hu, hk, ?_, q _ (.bl b)⟩
    have hE := su.ex
    cases d with
    | none => exact .inl rfl
    | some d' =>
      obtain ⟨gs, h1, _⟩ := hE
      exact .inr ⟨d', gs, rfl, hide_le _ _ _ _ h1⟩
  · cases hgg
theorem xps_nil : PA (X.suite a ((a, oe) :: pn)) [] (tXps (bs X) i a cls d gNil) := PA.le pa_nil fun σ H Q ⟨x, fs, c, ρ, O, su, dd, hg, q⟩ => by
  cases hg
  exact q [] .nil
theorem xps_cons (h : PE (X.suite a ((a, oe) :: pn)) e (tXp (bs X) i a cls d g)) (hr : PA (X.suite a ((a, oe) :: pn)) es (tXps (bs X) i a cls d gs)) (hs : starEach (e :: es) X.env = (false, eval e X.env) :: starEach es X.env := by rfl) :
    PA (X.suite a ((a, oe) :: pn)) (e :: es) (tXps (bs X) i a cls d (gCons g gs)) := PA.le (pa_cons h hr hs) fun σ H Q ⟨x, fs, c, ρ, O, su, dd, hg, q⟩ => by
  unfold gCons at hg
  split at hg
  · rename_i d1 ds h1 h2
    cases hg
    exact ⟨x, fs, c, ρ, O, su, d1, h1, fun v hv => ⟨x, fs, c, ρ, O, su, ds, h2, fun vs hvs => q (v :: vs) (.cons hv hvs)⟩⟩
  · cases hg
def suF (gs : GXs) (x : Str) (fs : List (Str × D)) : SM := fun ρ => match gs x fs with
  | some ds => if ds.length ≤ sizeLine then .rt (.tup ds) ρ else .bad
  | none => .bad
def tSu (B : Bs) (W : WX) (i : Nat) (gs : GXs) (a : Addr) (cls : Value) (d : Option Addr) : TS := fun E σ H => ∃ x fs c ρ O, SuAt B i a cls d x fs c ρ O σ H ∧ SPo B c W E H O (suF gs x fs ρ)
theorem su_ret {W : WX} (h : PA (X.suite a ((a, oe) :: pn)) es (tXps (bs X) i a cls d gs)) : PSs (X.suite a ((a, oe) :: pn)) [.Return (some (.Tuple es x1 tpos)) pos] (tSu (bs X) W i gs a cls d) := PSs.le (pss_one (ps_ret (pe_tup h))) fun E σ H ⟨x, fs, c, ρ, O, su, q⟩ => by
  unfold suF at q
  split at q
  · rename_i ds hg
    split at q
    · rename_i hl
      refine ⟨x, fs, c, ρ, O, su, ds, hg, fun vs hvs => ⟨by rw [hvs.length]; exact hl, fun t ht => ?_⟩⟩
      have en : Same H (upd H t (.tup vs)) := Same.new ht
      exact q _ σ _ O (su.st.ext en) (same_hide en) (.tup (.inl (.inl (hide_new su.st.liv ht))) (hvs.mono (same_hide en)))
    · exact q.elim
  · exact q.elim
end
def catchD (ca : Str → Str → Option Bool) (x : Str) (fs : List (Str × D)) : List (Str × Nat × GXs) → SM
  | [] => fun ρ => .ex x fs ρ
  | (cn, i, gs) :: more => fun ρ => match ca x cn with
    | some true => suF gs x fs (ρ.set i none)
    | some false => catchD ca x fs more ρ
    | none => .bad
inductive ClD (X : Cx) (W : WX) : List ExceptHandler → List (Str × Nat × GXs) → List Clause → Prop
  | nil : ClD X W [] [] []
  | cons {cn n : Str} {i : Nat} {gs : GXs} {s0 : Stmt} {suite : List Stmt} {p1 p2 : Pos} {hds : List ExceptHandler} {cl : List (Str × Nat × GXs)} {l : List Clause} (hi : X.N[i]? = some n) (hl : X.env.kindOf n = some .local) (hc : Names X cn (.ref ((bs X).cls cn)))
      (hsu : ∀ (a : Addr) (oe : Obj) (cls : Value) (d : Option Addr) (pn : List (Addr × Obj)), Zc cls d oe → (∃ vs, oe.data = .fields vs) → PSs (X.suite a ((a, oe) :: pn)) (s0 :: suite) (tSu (bs X) W i gs a cls d)) (r : ClD X W hds cl l) :
      ClD X W (.ExceptHandler (some (.Name cn p1)) (some n) (s0 :: suite) p2 :: hds) ((cn, i, gs) :: cl) ((.ref ((bs X).cls cn), i, fun a cls d => tSu (bs X) W i gs a cls d) :: l)
theorem ClD.ok {X : Cx} {W : WX} {hds : List ExceptHandler} {cl : List (Str × Nat × GXs)} {l : List Clause} (h : ClD X W hds cl l) : ClausesOk X hds l := by
  induction h with
  | nil => exact .nil
  | cons hi hl hc hsu _ ih => exact .cons hi hl hc hsu ih
theorem catch_le {X : Cx} {W : WX} {hds : List ExceptHandler} {cl : List (Str × Nat × GXs)} {l : List Clause} (h : ClD X W hds cl l) {ca : Str → Str → Option Bool} (hca : ∀ x y b, ca x y = some b → PySem.W.exmOne X.K (.ref ((bs X).cls x)) (.ref ((bs X).cls y)) = some b) {E : Ends} {x : Str} {fs : List (Str × D)} {c : Cst} {ρ : En} {O : List Addr} {σ : L2.St} {H : Hp} {dd : Option Addr} (st : Stt (bs X) c ρ σ H O) (hx : ExAt (bs X) (hide H O) fs dd) (hlen : σ.length = X.N.length)
    (q : SPo (bs X) c W E H O (catchD ca x fs cl ρ)) : wAsMany X.K W E l (.ref ((bs X).cls x)) dd σ H := by
  induction h with
  | nil => exact q dd σ H O st (.refl _) hx
  | @cons cn n i gs s0 suite p1 p2 hds cl l hi hl hc hsu _ ih =>
    unfold catchD at q
    split at q
    · rename_i hb
      refine ⟨true, hca _ _ _ hb, fun _ a ha => ?_, fun z => by cases z⟩
      have hlt : i < σ.length := by
        rw [hlen]
        rcases Nat.lt_or_ge i X.N.length with z | z
        · exact z
        · rw [List.getElem?_eq_none z] at hi; cases hi
      refine ⟨x, fs, c, ρ.set i none, O, ⟨rfl, st.drop i _, hx, List.getElem?_set_self hlt⟩, ?_⟩
      have key : ∀ o : SOut, (∀ d r, o = .rt d r ∨ o = .bad ∨ True) → (∃ d r, o = .rt d r) ∨ o = .bad → SPo (bs X) c W E H O o → SPo (bs X) c W (wiped i E) H O o := by
        rintro o _ (⟨d, r, rfl⟩ | rfl) h
        · exact fun v σ' H' O' s' e' hr => h v σ' H' O' s' e' hr
        · exact h
      refine key _ (fun _ _ => .inr (.inr trivial)) ?_ q
      unfold suF
      cases gs x fs with
      | none => exact .inr rfl
      | some ds =>
        by_cases hl : ds.length ≤ sizeLine
        · exact .inl ⟨_, _, by simp only [if_pos hl]; rfl⟩
        · exact .inr (by simp only [if_neg hl])
    · rename_i hb
      exact ⟨false, hca _ _ _ hb, fun z => (by cases z), fun _ => ih q⟩
    · exact q.elim
section
variable {X : Cx} {W : WX}
end
end Pu
namespace Pu
open PySem PySem.Spec PyProof.Rows L2 My
variable [Tbs] [Nls]
def srcD (j : Nat) : Nat → List Src → Option (List D)
  | _, [] => some []
  | i, .v d :: ss => if i = j then none else (srcD j (i + 1) ss).map (d :: ·)
  | i, .o d :: ss => if i = j then (srcD j (i + 1) ss).map (d :: ·) else none
def fcallX (j : Nat) (fn : List D → FOut) (ss : List Src) (ρ : En) : Out Rv := match srcD j 0 ss with
  | some ds => if j < ss.length then (match fn ds with
    | .ok d _ => .ok (.val d) ρ
    | .ex x fs _ => .ex x fs ρ
    | .bad => .bad) else .bad
  | none => .bad
def dCallX (t : Bool) (j m : Nat) (fn : List D → FOut) (fs : M (List Src)) : M Rv := fun ρ => (fs ρ).bind fun ss ρ1 => if ss.length = m then (if t = true then fcallX j fn ss ρ1 else noX (fcallX j fn ss ρ1)) else .bad
section
variable {B : Bs} {c : Cst} {ρ : En} {σ : L2.St} {H H' : Hp} {O O' : List Addr} {vs : List V} {io : D} {j : Nat}
end
section
variable {X : Cx} {W : WX} {x : Str} {st : Stmt} {ps : List Str} {k : Nat} {e : Expr} {es : List Expr} {fs : M (List Src)} {p pos : Pos} {fn : List D → FOut} {t : Bool} {j : Nat}
end
theorem fn_bad {P : Program} {w : World} {K : PySem.W.Frag} {mg : Str → Option Value} {base : Heap} {k : Nat} {f : Addr} {fd : FuncData} {ps : List Str} {B : Bs} {pin : Option Nat} : FnG P w K mg base k f fd ps (spD B pin ps.length fun _ => .bad) :=
  ⟨fun vs H Q E h => h.1, fun A outer s H args us vs Q E _ _ _ _ h => by
    obtain ⟨_, O, ds, _, _, z⟩ := h
    exact z.elim⟩
end Pu
namespace Pu
open PySem PySem.Spec PyProof.Rows L2 My
variable [Tbs] [Nls]
def gInt : Tag → Bool
  | .int => true
  | .bl => true
  | _ => false
def gBool : Tag → Bool
  | .bl => true
  | _ => false
def gStrT : Tag → Bool
  | .str => true
  | _ => false
def gLst : Tag → Bool
  | .lst => true
  | _ => false
def gTupT : Tag → Bool
  | .tup => true
  | _ => false
def gRow : Tag → Bool
  | .tup => true
  | .lst => true
  | _ => false
def NotIn (K : PySem.W.Frag) (mg : Str → Option Value) (cs : List Str) : Prop := ∀ c ∈ cs, InsF K (My.fa mg c) ∧ ∀ T : String, T ∈ ["int", "bool", "str", "list", "tuple", "dict"] → PySem.W.kitOne K (.ref (My.fa mg c)) (.type T) = some false
section
variable {X : Cx} {W : WX} {a b c : Expr} {fa : M Rv} {pos p p2 p3 tpos : Pos} {cs : List Str} {x1 : Nat}
theorem notIn_nil {K : PySem.W.Frag} {mg : Str → Option Value} : NotIn K mg [] := fun _ h => by cases h
theorem is_ty {T : String} {g : Tag → Bool} (hN : NotIn X.K X.mg cs) (hT : T ∈ ["int", "bool", "str", "list", "tuple", "dict"]) (hk : ∀ t : Tag, kitB t.name T = some (g t)) (hm : X.mg "isinstance" = none) (ha : DE X W a fa) (hT2 : PE X b (tC (.ty T))) (hg : Gl X "isinstance" := by rfl)
    (h0 : starEach [b] X.env = (false, eval b X.env) :: starEach [] X.env := by rfl) (he : starEach [a, b] X.env = (false, eval a X.env) :: starEach [b] X.env := by rfl) (hpl : (backTo pos (starEach [b] X.env)).any (·.1) = false := by rfl) : DE X W (.Call (.Name "isinstance" p) [a, b] [] pos) (d1 (isG g (cs.map fun c => (c, false))) fa) :=
  de_isi hm ha hT2 (.ty T) (fun t => kit_ty (hk t)) (fun q hq => by
    obtain ⟨c, hc, rfl⟩ := List.mem_map.mp hq
    exact ⟨(hN c hc).1, (hN c hc).2 T hT⟩) hg h0 he hpl
theorem k_int : ∀ t : Tag, kitB t.name "int" = some (gInt t) := by intro t; cases t <;> decide +kernel
theorem k_bool : ∀ t : Tag, kitB t.name "bool" = some (gBool t) := by intro t; cases t <;> decide +kernel
theorem k_str : ∀ t : Tag, kitB t.name "str" = some (gStrT t) := by intro t; cases t <;> decide +kernel
theorem k_lst : ∀ t : Tag, kitB t.name "list" = some (gLst t) := by intro t; cases t <;> decide +kernel
theorem k_tup : ∀ t : Tag, kitB t.name "tuple" = some (gTupT t) := by intro t; cases t <;> decide +kernel
theorem k_row {K : PySem.W.Frag} : ∀ t : Tag, PySem.W.kitAny K (.type t.name) [.type "tuple", .type "list"] = some (gRow t) := by
  intro t
  have h1 := kit_ty (K := K) (k_tup t)
  have h2 := kit_ty (K := K) (k_lst t)
  refine kitAny_cons h1 (fun z => kitAny_cons h2 (fun z2 => ?_) fun z2 => ?_) fun z => ?_
  · cases t <;> first | rfl | (cases z; done) | (cases z2; done)
  · cases t <;> first | rfl | (cases z; done) | (cases z2; done)
  · cases t <;> first | rfl | (cases z; done)
theorem de_isInt (hN : NotIn X.K X.mg cs) (hm : X.mg "isinstance" = none) (hi : X.mg "int" = none) (ha : DE X W a fa) (hg : Gl X "isinstance" := by rfl) (hg2 : Gl X "int" := by rfl)
    (h0 : starEach [.Name "int" p2] X.env = (false, eval (.Name "int" p2) X.env) :: starEach [] X.env := by rfl) (he : starEach [a, .Name "int" p2] X.env = (false, eval a X.env) :: starEach [.Name "int" p2] X.env := by rfl) (hpl : (backTo pos (starEach [.Name "int" p2] X.env)).any (·.1) = false := by rfl) : DE X W (.Call (.Name "isinstance" p) [a, .Name "int" p2] [] pos) (d1 (isG gInt (cs.map fun c => (c, false))) fa) :=
  is_ty hN (by simp) k_int hm ha (pe_bltn (v := .ty "int") hg2 hi PyProof.Rows.Boot.«int» rfl) hg h0 he hpl
theorem de_isBool (hN : NotIn X.K X.mg cs) (hm : X.mg "isinstance" = none) (hi : X.mg "bool" = none) (ha : DE X W a fa) (hg : Gl X "isinstance" := by rfl) (hg2 : Gl X "bool" := by rfl)
    (h0 : starEach [.Name "bool" p2] X.env = (false, eval (.Name "bool" p2) X.env) :: starEach [] X.env := by rfl) (he : starEach [a, .Name "bool" p2] X.env = (false, eval a X.env) :: starEach [.Name "bool" p2] X.env := by rfl) (hpl : (backTo pos (starEach [.Name "bool" p2] X.env)).any (·.1) = false := by rfl) : DE X W (.Call (.Name "isinstance" p) [a, .Name "bool" p2] [] pos) (d1 (isG gBool (cs.map fun c => (c, false))) fa) :=
  is_ty hN (by simp) k_bool hm ha (pe_bltn (v := .ty "bool") hg2 hi PyProof.Rows.Boot.«bool» rfl) hg h0 he hpl
theorem de_isStr (hN : NotIn X.K X.mg cs) (hm : X.mg "isinstance" = none) (hi : X.mg "str" = none) (ha : DE X W a fa) (hg : Gl X "isinstance" := by rfl) (hg2 : Gl X "str" := by rfl)
    (h0 : starEach [.Name "str" p2] X.env = (false, eval (.Name "str" p2) X.env) :: starEach [] X.env := by rfl) (he : starEach [a, .Name "str" p2] X.env = (false, eval a X.env) :: starEach [.Name "str" p2] X.env := by rfl) (hpl : (backTo pos (starEach [.Name "str" p2] X.env)).any (·.1) = false := by rfl) : DE X W (.Call (.Name "isinstance" p) [a, .Name "str" p2] [] pos) (d1 (isG gStrT (cs.map fun c => (c, false))) fa) :=
  is_ty hN (by simp) k_str hm ha (pe_bltn (v := .ty "str") hg2 hi PyProof.Rows.Boot.«str» rfl) hg h0 he hpl
theorem de_isLst (hN : NotIn X.K X.mg cs) (hm : X.mg "isinstance" = none) (hi : X.mg "list" = none) (ha : DE X W a fa) (hg : Gl X "isinstance" := by rfl) (hg2 : Gl X "list" := by rfl)
    (h0 : starEach [.Name "list" p2] X.env = (false, eval (.Name "list" p2) X.env) :: starEach [] X.env := by rfl) (he : starEach [a, .Name "list" p2] X.env = (false, eval a X.env) :: starEach [.Name "list" p2] X.env := by rfl) (hpl : (backTo pos (starEach [.Name "list" p2] X.env)).any (·.1) = false := by rfl) : DE X W (.Call (.Name "isinstance" p) [a, .Name "list" p2] [] pos) (d1 (isG gLst (cs.map fun c => (c, false))) fa) :=
  is_ty hN (by simp) k_lst hm ha (pe_bltn (v := .ty "list") hg2 hi PyProof.Rows.Boot.«list» rfl) hg h0 he hpl
theorem notAny {K : PySem.W.Frag} {C : Addr} (h : ∀ T : String, T ∈ ["int", "bool", "str", "list", "tuple", "dict"] → PySem.W.kitOne K (.ref C) (.type T) = some false) : PySem.W.kitAny K (.ref C) [.type "tuple", .type "list"] = some false :=
  kitAny_cons (h "tuple" (by simp)) (fun _ => kitAny_cons (h "list" (by simp)) (fun _ => rfl) fun z => by cases z) fun z => by cases z
theorem de_isRow (hN : NotIn X.K X.mg cs) (hm : X.mg "isinstance" = none) (ht : X.mg "tuple" = none) (hl : X.mg "list" = none) (ha : DE X W a fa) (hg : Gl X "isinstance" := by rfl) (hg2 : Gl X "tuple" := by rfl) (hg3 : Gl X "list" := by rfl)
    (hb1 : starEach [.Name "tuple" p2, .Name "list" p3] X.env = (false, eval (.Name "tuple" p2) X.env) :: starEach [.Name "list" p3] X.env := by rfl) (hb2 : starEach [.Name "list" p3] X.env = (false, eval (.Name "list" p3) X.env) :: starEach [] X.env := by rfl)
    (h0 : starEach [.Tuple [.Name "tuple" p2, .Name "list" p3] x1 tpos] X.env = (false, eval (.Tuple [.Name "tuple" p2, .Name "list" p3] x1 tpos) X.env) :: starEach [] X.env := by rfl) (he : starEach [a, .Tuple [.Name "tuple" p2, .Name "list" p3] x1 tpos] X.env = (false, eval a X.env) :: starEach [.Tuple [.Name "tuple" p2, .Name "list" p3] x1 tpos] X.env := by rfl) (hpl : (backTo pos (starEach [.Tuple [.Name "tuple" p2, .Name "list" p3] x1 tpos] X.env)).any (·.1) = false := by rfl) :
    DE X W (.Call (.Name "isinstance" p) [a, .Tuple [.Name "tuple" p2, .Name "list" p3] x1 tpos] [] pos) (d1 (isG gRow (cs.map fun c => (c, false))) fa) :=
  de_isi2 hm ha (pe_bltn (v := .ty "tuple") hg2 ht PyProof.Rows.Boot.«tuple» rfl) (pe_bltn (v := .ty "list") hg3 hl PyProof.Rows.Boot.«list» rfl) k_row (fun q hq => by
    obtain ⟨c, hc, rfl⟩ := List.mem_map.mp hq
    exact ⟨(hN c hc).1, notAny (hN c hc).2⟩) hg hb1 hb2 h0 he hpl
end
def rankS (z : Str) : Str := Txt.replace (Txt.replace z "l" "0") "r" "2" ++ "1"
def fnRank : List D → FOut := fun ds => match ds with
  | [.str z] => if z.length ≤ 3000 ∧ (Txt.replace z "l" "0").length ≤ 9000 ∧ (Txt.replace (Txt.replace z "l" "0") "r" "2").length ≤ 30000 then .ok (.str (rankS z)) .non else .bad
  | _ => .bad
end Pu
namespace Pu
open PySem PySem.Spec PyProof.Rows L2 My
variable [Tbs] [Nls]
section
variable {X : Cx} {pins : List (Addr × Obj)} {σ : L2.St} {H : Hp} {s : Shared}
theorem rc_tups (I : Inv X pins σ H s) {A : Around} {F : V → V → Prop} (hu : A.units < cLine) (ih : ∀ x y v u, F x y → RelV x v → RelV y u → SeqAt.EqP X.prog X.w A.in1 s v u true) {a b : Addr} {xs ys : List V} (ha : SqT X.K H a xs) (hb : SqT X.K H b ys) (hp : Paired F xs ys)
    (E Q : Value → Shared → Prop) (q : Q (.bool true) s) : wpAny (model X.prog X.w) A (richCompare .Eq (.ref a) (.ref b)) Q E s := by
  obtain ⟨us, r1, p1, _⟩ := I.tuple ha
  obtain ⟨ws, r2, p2, _⟩ := I.tuple hb
  have hsz : us.length = ws.length := by rw [← r1.length, ← r2.length]; exact Paired.length hp
  refine SeqAt.rcIn_tuples (e := fun _ => true) p1 p2 hu (fun j h1 h2 => ?_) ?_
  · have k := items_run ih hp r1 r2 j (by simpa using h1) (by simpa using h2)
    intro E' Q' hq
    have := k E' Q' hq
    simpa using this
  · have e : ((List.range (min us.toArray.size ws.toArray.size)).all (fun _ => true) && us.toArray.size == ws.toArray.size) = true := by simp [hsz]
    rw [e]
    exact q
theorem rc_lsts (I : Inv X pins σ H s) {A : Around} {F : V → V → Prop} (hu : A.units < cLine) (ih : ∀ x y v u, F x y → RelV x v → RelV y u → SeqAt.EqP X.prog X.w A.in1 s v u true) {a b : Addr} {xs ys : List V} (ha : SqL X.K H a xs) (hb : SqL X.K H b ys) (hp : Paired F xs ys)
    (E Q : Value → Shared → Prop) (q : Q (.bool true) s) : wpAny (model X.prog X.w) A (richCompare .Eq (.ref a) (.ref b)) Q E s :=
  eqR_run I hu ih (.inl ⟨a, b, xs, ys, rfl, rfl, ha, hb, hp⟩) rfl rfl E Q q
end
def all2 {α : Type} (f : α → α → Bool) : List α → List α → Bool
  | [], [] => true
  | x :: xs, y :: ys => f x y && all2 f xs ys
  | _, _ => false
theorem same_flat {B : Bs} {H : Hp} {v u : V} {x y : D} (hx : Rep B H v x) (hy : Rep B H u y) (h : (scalD x y && sameS x y) = true) : v = u ∧ flatB v = true := by
  cases x <;> cases y <;> simp [scalD, sameS] at h <;> (cases hx; cases hy; first | exact ⟨rfl, rfl⟩ | (subst h; exact ⟨rfl, rfl⟩))
theorem all2_paired {B : Bs} {H : Hp} {f : D → D → Bool} {F : V → V → Prop} (hf : ∀ v u x y, Rep B H v x → Rep B H u y → f x y = true → F v u) : ∀ {vs us : List V} {xs ys : List D}, RepL B H vs xs → RepL B H us ys → all2 f xs ys = true → Paired F vs us
  | _, _, [], [], hx, hy, _ => by cases hx; cases hy; exact .nil
  | _, _, x :: xs, y :: ys, hx, hy, h => by
    cases hx with
    | cons a as =>
      cases hy with
      | cons b bs =>
        have h := Bool.and_eq_true_iff.mp h
        exact .cons (hf _ _ _ _ a b h.1) (all2_paired hf as bs h.2)
  | _, _, [], _ :: _, _, _, h => by cases h
  | _, _, _ :: _, [], _, _, h => by cases h
section
variable {X : Cx} {W : WX} {a b e : Expr} {fa fb : M Rv} {pos : Pos}
end
end Pu
namespace Pu
open PySem PySem.Spec PyProof.Rows L2 My
variable [Tbs] [Nls]
section
variable {X : Cx} {W : WX} {k x1 : Nat} {kes : List Expr} {o : Expr} {fk : M (List Rv)} {fd : M Rv} {pos tpos : Pos}
end
section
variable {X : Cx} {W : WX} {x m : Str} {st : Stmt} {ps : List Str} {dsv : List Value} {k n : Nat} {pin : Option Nat} {fn : List D → FOut} {t : Bool} {dvs : List V} {dds : List D} {e o : Expr} {es : List Expr} {fs : M (List Rv)} {fo : M Rv} {f : Addr} {fd : FuncData} {p pos apos : Pos}
theorem de_callN (Dx : Dg X.K X.mg x st) (hb : Binds X.K (fdOf X.K (My.fa X.mg x)) ps dsv) (G : FnG X.prog X.w X.K X.mg X.base k (My.fa X.mg x) (fdOf X.K (My.fa X.mg x)) ps (spD (bs X) pin n fn)) (hr : RmG k X.A) (hx : ErrOk X W t) (hd : Vals dvs dsv) (hdd : ∀ G, RepL (bs X) G dvs dds) (ha : DA X W (e :: es) fs) (hg : Gl X x := by rfl)
    (hdb : (x == ("__debug__" : Str)) = false := by decide) (he : starEach (e :: es) X.env = (false, eval e X.env) :: starEach es X.env := by rfl) (hpl : (backTo pos (starEach es X.env)).any (·.1) = false := by rfl) (hn : ps.length = n := by rfl) :
    DE X W (.Call (.Name x p) (e :: es) [] pos) (dCall t pin n dds fn fs) := by
  subst hn
  exact de_call Dx hb G hr hx hd hdd ha hg hdb he hpl
theorem de_methN {cn : Str} {pl : Sem Bool} (ho : DE X W o fo) (cl : Cls X.K ((bs X).cls cn)) (hm : Meth X.K ((bs X).cls cn) m f) (hb : Binds X.K fd ps dsv) (G : FnG X.prog X.w X.K X.mg X.base k f fd ps (spD (bs X) pin (n + 1) fn)) (hr : RmG k X.A) (hx : ErrOk X W t) (hd : Vals dvs dsv) (hdd : ∀ G, RepL (bs X) G dvs dds) (ha : DA X W (e :: es) fs) (hn : ps.length = n + 1 := by rfl)
    (hst : starEach (e :: es) X.env = (false, eval e X.env) :: starEach es X.env := by rfl) (hpl : (backTo pos (starEach es X.env)).any (·.1) = false := by rfl)
    (ht : eval (.Call (.Attribute o m apos) (e :: es) [] pos) X.env = (do
      let w ← eval o X.env
      standAt apos.atName
      let (g, hd) ← holding [w] (getMethod w m pl)
      callWith pos g hd (backTo pos (starEach (e :: es) X.env)) (backToKw pos (keywordEach [] X.env))) := by rfl) :
    DE X W (.Call (.Attribute o m apos) (e :: es) [] pos) (dMeth cn m t pin n dds fn fo fs) := by
  have e2 : n = ps.length - 1 := by omega
  rw [e2]
  rw [← hn] at G
  exact de_meth ho cl hm hb G hr hx hd hdd ha (by omega) hst hpl ht
theorem de_meth0N {cn : Str} {pl : Sem Bool} (ho : DE X W o fo) (cl : Cls X.K ((bs X).cls cn)) (hm : Meth X.K ((bs X).cls cn) m f) (hb : Binds X.K fd ps dsv) (G : FnG X.prog X.w X.K X.mg X.base k f fd ps (spD (bs X) pin (n + 1) fn)) (hr : RmG k X.A) (hx : ErrOk X W t) (hd : Vals dvs dsv) (hdd : ∀ G, RepL (bs X) G dvs dds) (hn : ps.length = n + 1 := by rfl)
    (ht : eval (.Call (.Attribute o m apos) [] [] pos) X.env = (do
      let w ← eval o X.env
      standAt apos.atName
      let (g, hd) ← holding [w] (getMethod w m pl)
      callWith pos g hd (backTo pos (starEach [] X.env)) (backToKw pos (keywordEach [] X.env))) := by rfl) :
    DE X W (.Call (.Attribute o m apos) [] [] pos) (dMeth cn m t pin n dds fn fo dNil) := by
  have e2 : n = ps.length - 1 := by omega
  rw [e2]
  rw [← hn] at G
  exact de_meth0 ho cl hm hb G hr hx hd hdd (by omega) ht
end
end Pu
namespace Pu
open PySem PySem.Spec PyProof.Rows L2 My
variable [Tbs] [Nls]
def revS : D → Option D
  | .lst xs => some (.lst xs.reverse)
  | _ => none
section
variable {X : Cx} {W : WX} {e : Expr} {fa : M Rv} {k : Nat} {p1 p2 p3 pos : Pos}
end
def isBD (neg : Bool) : D → D → Option D
  | .bl a, .bl b => some (.bl (if neg then !decide (a = b) else decide (a = b)))
  | _, _ => none
section
variable {X : Cx} {W : WX} {a b : Expr} {fa fb : M Rv} {pos : Pos}
theorem opD_ntB {B : Bs} : OpD B rNotB (isBD true) := by
  intro v u H O x y d Q hl hx hy hg hq
  unfold isBD at hg
  split at hg
  · cases hg
    exact ⟨_, _, hx.bl, hy.bl, hq _ H (.refl _) (.bl _)⟩
  · cases hg
theorem dt_ntB (ha : DE X W a fa) (hb : DE X W b fb) : DT X W (.Compare a [.IsNot] [b] pos) (dT2 (isBD true) fa fb) := dt_2 (pt_cmpR op_notBl ha hb (nomark _)) opD_ntB
end
section
variable {X : Cx} {es : List Expr} {pos : Pos} {k n : Nat} {gs : TMs} {ws : List Nat}
end
section
variable {X : Cx} {W : WX} {a b : Expr} {fa fb : M Rv} {pos : Pos}
end
def neW (x y : D) : Option D := match neD x y with
  | some d => some d
  | none => match x, y with
    | .lst xs, .lst ys => if xs.length ≠ ys.length then some (.bl true) else none
    | _, _ => none
def rNeLen (K : PySem.W.Frag) : R2 := fun x y H Q => ∃ (a b : Addr) (xs ys : List V), x = .ref a ∧ y = .ref b ∧ SqL K H a xs ∧ SqL K H b ys ∧ xs.length ≠ ys.length ∧ Q (.bl true) H
section
variable {X : Cx} {W : WX} {a b : Expr} {fa fb : M Rv} {pos : Pos}
theorem op_neLen (hu : X.A.units < cLine) : OpR X (compareOp .NotEq) (rNeLen X.K) := by
  intro pins s σ H x y v u Q I rx ry h
  obtain ⟨p, q, xs, ys, rfl, rfl, hp, hq, hl, hQ⟩ := h
  cases (show v = Value.ref p from rx)
  cases (show u = Value.ref q from ry)
  obtain ⟨us, ru, tp, _⟩ := I.list hp
  obtain ⟨vs, rv, tq, _⟩ := I.list hq
  have e := SeqAt.RcNeAt.lists_lengths (A := X.A) (s := s) tp.isList tq.isList (by
    rw [bne_iff_ne]
    intro z
    apply hl
    rw [ru.length, rv.length]
    simpa using z) hu
  exact e X.prog X.w _ _ ⟨.bl true, H, I, rfl, hQ⟩
theorem opD_neW {B : Bs} : OpD B (fun x y H Q => (rNe x y H Q ∨ rNeD B.K x y H Q) ∨ rNeLen B.K x y H Q) neW := by
  intro v u H O x y d Q hl hx hy hg hq
  unfold neW at hg
  split at hg
  · rename_i d' he
    cases hg
    exact .inl (opD_ne v u H O x y _ Q hl hx hy he hq)
  · split at hg
    · obtain ⟨h1, rfl⟩ := some_if hg
      obtain ⟨a1, xs, rfl, e1, r1⟩ := hx.lst
      obtain ⟨a2, ys, rfl, e2, r2⟩ := hy.lst
      exact .inr ⟨_, _, _, _, rfl, rfl, .inl (.inl e1), .inl (.inl e2), by rw [r1.length, r2.length]; exact h1, hq _ H (.refl _) (.bl _)⟩
    · cases hg
theorem dt_neW {k : Nat} (hr : RmG k X.A) (ha : DE X W a fa) (hb : DE X W b fb) : DT X W (.Compare a [.NotEq] [b] pos) (dT2 neW fa fb) := dt_2 (pt_cmpR ((op_ne.or (op_neD hr.u64)).or (op_neLen (by have := hr.u1; omega))) ha hb (nomark _)) opD_neW
end
end Pu
namespace RZ
open PySem PySem.Spec PyProof.Rows L2
open PySem.Sem (wp)
inductive Zs where
  | list (a : Addr) | tup (a : Addr) | txt (x : Str)
def Zst (it : Addr) : Zs → Nat → Heap → Prop
  | .list a, i, h => h.IsListIter it a i
  | .tup a, i, h => h.IsTupleIter it a i
  | .txt x, i, h => ∃ t, h.IsStrIter it (strIterType x) x t i
theorem Zst.at {it : Addr} {z : Zs} {i : Nat} {h h' : Heap} (st : Zst it z i h) (k : ∀ o, h.get? it = some o → h'.get? it = some o) : Zst it z i h' := by
  cases z with
  | list a => exact Heap.IsListIter.at st k
  | tup a => exact Heap.IsTupleIter.at st k
  | txt x => obtain ⟨t, o, e, r⟩ := st; exact ⟨t, o, k o e, r⟩
section
variable {X : Cx} {pins : List (Addr × Obj)} {σ : L2.St} {H : Hp} {s : Shared}
end
end RZ
namespace RZ
open PySem PySem.Spec PyProof.Rows L2
open PySem.Sem (wp)
end RZ
namespace Pu
open PySem PySem.Spec PyProof.Rows L2 My
variable [Tbs] [Nls]
section
variable {X : Cx} {W : WX} {e : Expr} {fa : M Rv} {k : Nat} {p1 p2 p3 pos : Pos}
end
section
variable {B : Bs} {G : Hp} {H : Hp} {O : List Addr}
end
section
variable {X : Cx} {W : WX} {e e2 : Expr} {fs : M (List Rv)} {p pos tpos : Pos} {elts : List Expr} {kk : Nat}
end
end Pu
namespace Pu
open PySem PySem.Spec PyProof.Rows L2 My
variable [Tbs] [Nls]
section
variable {X : Cx} {W : WX} {i : Nat} {a : Addr} {cls : Value} {d : Option Addr} {oe : Obj} {pn : List (Addr × Obj)} {p pos : Pos}
end
section
variable {X : Cx} {pins : List (Addr × Obj)} {σ : L2.St} {H : Hp} {s : Shared}
end
end Pu
namespace RZ
open PySem PySem.Spec PyProof.Rows L2
open PySem.Sem (wp)
section
variable {prog : Program} {w : World} {A : Around} {E : Value → Shared → Prop} {s : Shared}
end
end RZ
namespace Pu
open PySem PySem.Spec PyProof.Rows L2 My
variable [Tbs] [Nls]
section
variable {B : Bs} {G : Hp} {H : Hp} {O : List Addr}
end
section
variable {X : Cx} {W : WX} {e : Expr} {fa : M Rv} {p pos tpos : Pos} {elts : List Expr} {kk : Nat}
end
end Pu
namespace Pu
open PySem PySem.Spec PyProof.Rows L2 My
variable [Tbs] [Nls]
section
variable {X : Cx} {W : WX} {e : Expr} {fa : M Rv} {p pos p2 pos2 : Pos}
end
end Pu
namespace Pu
open PySem PySem.Spec PyProof.Rows L2 My
variable [Tbs] [Nls]
def gNo : Tag → Bool := fun _ => false
def IsOwn (K : PySem.W.Frag) (mg : Str → Option Value) (cs : List Str) (C : Str) : Prop :=
  (∀ t : Tag, PySem.W.kitOne K (.type t.name) (.ref (My.fa mg C)) = some false) ∧ ∀ c ∈ cs, InsF K (My.fa mg c) ∧ PySem.W.kitOne K (.ref (My.fa mg c)) (.ref (My.fa mg C)) = some (decide (c = C))
section
variable {X : Cx} {W : WX} {a b : Expr} {fa : M Rv} {pos p p2 : Pos} {cs : List Str} {C : Str}
theorem de_isOwn (hd : (C == Str.ofString "__debug__") = false) (h : IsOwn X.K X.mg cs C) (hm : X.mg "isinstance" = none) (hC : X.mg C = some (.ref (My.fa X.mg C))) (ha : DE X W a fa) (hg : Gl X "isinstance" := by rfl) (hgC : Gl X C := by rfl)
    (h0 : starEach [.Name C p2] X.env = (false, eval (.Name C p2) X.env) :: starEach [] X.env := by rfl) (he : starEach [a, .Name C p2] X.env = (false, eval a X.env) :: starEach [.Name C p2] X.env := by rfl) (hpl : (backTo pos (starEach [.Name C p2] X.env)).any (·.1) = false := by rfl) : DE X W (.Call (.Name "isinstance" p) [a, .Name C p2] [] pos) (d1 (isG gNo (cs.map fun c => (c, decide (c = C)))) fa) :=
  de_isi hm ha (pe_glob (v := .ref (My.fa X.mg C)) hgC hC rfl hd) (.own _) h.1 (fun q hq => by
    obtain ⟨c, hc, rfl⟩ := List.mem_map.mp hq
    exact h.2 c hc) hg h0 he hpl
end
end Pu
namespace ON
open PySem PySem.Spec PyProof.Rows Builtin PySem.W
section
variable {M : Model} {prog : Program} {w : World} {A : Around} {E : Value → Shared → Prop} {s : Shared} {K : PySem.W.Frag} {x C f : Addr} {b tb : Value} {ox : Obj} {od : Option Obj}
theorem entry_ne (X : K.In s.heap) (I : PySem.W.InstAt s.heap x ox C od) (hs : PySem.W.findIn K (.ref C) "__eq__" = some (some (.ref f))) (hf : PySem.W.isFn K (.ref f) = true) (hu : A.units < cLine) {Q : Fin → Shared → Prop}
    (h : wpAny (model prog w) A (call (.ref f) [.ref x, b]) (fun v s' => ∃ r, v = .bool r ∧ Q (.done (.ret (.bool (!r)))) s') E s) :
    wpAny (model prog w) A (Builtin.«object.__ne__» ⟨[.ref x, b], []⟩) Q E s := by
  unfold Builtin.«object.__ne__»
  repeat (first
    | with_reducible refine wpAny_cRoomFor hu ?_
    | (refine wpAny_bind (m := callSpecialIfBound? (.ref x) (Str.ofString "__eq__") [b])
        (PySem.W.ifBound_K X I hs hf (wpAny_mono h (fun r s' hr => by
          obtain ⟨b, rfl, hq⟩ := hr
          repeat (first | exact hq | exact wpAny_pure hq | exact wpAny_truthy_bool hq | (refine wpAny_bind (m := truthy (.bool _)) (wpAny_truthy_bool ?_)) | wp_step)) fun _ _ e => e)))
    | wp_step)
theorem call_ne (X : K.In s.heap) (I : PySem.W.InstAt s.heap x ox C od) (hm : PySem.W.mroIn K C (.type "object") = some true) (hs : PySem.W.findIn K (.ref C) "__eq__" = some (some (.ref f))) (hf : PySem.W.isFn K (.ref f) = true) (hu : A.units + 1 < cLine) {Q : Value → Shared → Prop}
    (h : wpAny (model prog w) A.in1 (call (.ref f) [.ref x, b]) (fun v s' => ∃ r, v = .bool r ∧ Q (.bool (!r)) s') E s) :
    wpAny (model prog w) A (call (.builtin "object.__ne__") [.ref x, b]) Q E s :=
  wpAny_call (codeAny_call_builtin F.cmp_object.ne.plain F.cmpEntry_ne (PySem.W.check_slot F.cmpKind_ne F.cmpSplit_ne (I.type.andThen (PySem.W.looks_mroIn X hm)) (F.cmpArgs_ne _ _)
    (entry_ne (A := A.in1) X I hs hf hu (wpAny_mono h (fun v s' hv => by
      obtain ⟨r, e, q⟩ := hv
      exact ⟨r, e, q⟩) fun _ _ e => e))))
theorem ifBound_ne {args : List Value} {Q : Option Value → Shared → Prop} (X : K.In s.heap) (I : PySem.W.InstAt s.heap x ox C od) (hs : PySem.W.findIn K (.ref C) "__ne__" = some (some (.builtin "object.__ne__")))
    (h : wpAny M A (call (.builtin "object.__ne__") (.ref x :: args)) (fun v => Q (some v)) E s) : wpAny M A (callSpecialIfBound? (.ref x) "__ne__" args) Q E s := by
  simp only [callSpecialIfBound?, bindSpecialIfBound?]
  refine wpAny_holding (wpAny_bind (wpAny_bind (wpAny_bind (I.type.here ((PySem.W.looks_findIn X hs).here ?_)))))
  refine wpAny_bind (wpAny_askSetting (wpAny_ite ?_))
  have fin : wpAny M A (call (.builtin "object.__ne__") ([.ref x] ++ args) >>= fun v => pure (some v)) Q E s := wpAny_bind (wpAny_mono h (fun v s' h' => wpAny_pure h') fun _ _ h' => h')
  split
  · exact wpAny_bind (wpAny_of_eq (F.cmp_object.ne.bind _) (wpAny_pure (by exact fin)))
  · exact wpAny_tryCatch (wpAny_bind (wpAny_of_eq (F.cmp_object.ne.bind _) (wpAny_pure (by exact fin))))
theorem rc_ne {Q : Value → Shared → Prop} (hu : A.units + 1 < cLine) (X : K.In s.heap) (I : PySem.W.InstAt s.heap x ox C od) (hb : Looks (model prog w) s.heap (typeOf b) tb) (hn : PySem.W.notFirst K C tb = true)
    (hm : PySem.W.mroIn K C (.type "object") = some true) (hne : PySem.W.findIn K (.ref C) "__ne__" = some (some (.builtin "object.__ne__"))) (hs : PySem.W.findIn K (.ref C) "__eq__" = some (some (.ref f))) (hf : PySem.W.isFn K (.ref f) = true)
    (h : wpAny (model prog w) A.in1 (call (.ref f) [.ref x, b]) (fun v s' => ∃ r, v = .bool r ∧ Q (.bool (!r)) s') E s) : wpAny (model prog w) A (richCompare .NotEq (.ref x) b) Q E s := by
  have one : wpAny (model prog w) A (tryCompare (.ref x) "__ne__" b) (fun r s' => ∃ v, r = some (.bool v) ∧ Q (.bool v) s') E s := by
    unfold tryCompare
    refine wpAny_bind (ifBound_ne X I hne (call_ne X I hm hs hf hu (wpAny_mono h (fun v s' hv => ?_) fun _ _ e => e)))
    obtain ⟨r, rfl, q⟩ := hv
    exact ⟨r, rfl, wpAny_pure ⟨_, rfl, q⟩⟩
  unfold richCompare
  simp only [oneThing_ref]
  refine wpAny_holding (wpAny_bind (wpAny_cRoomFor (Nat.lt_of_succ_lt hu) ?_))
  rw [cmpInfo_NotEq]
  dsimp only
  refine wpAny_bind (I.type.here (wpAny_bind (hb.here ?_)))
  split
  · rename_i q
    have e : PySem.W.subIn K tb (.ref C) = some false := by
      rcases Bool.or_eq_true_iff.mp hn with e | e
      · rw [beq_iff_eq.mp e] at q; simp at q
      · exact beq_iff_eq.mp e
    refine wpAny_bind ((PySem.W.looks_subIn X e).here ?_)
    simp only [Bool.false_eq_true, if_false]
    refine wpAny_bind (wpAny_mono one (fun r s' z => ?_) fun _ _ e => e)
    obtain ⟨v, rfl, hq⟩ := z
    exact wpAny_pure hq
  · refine wpAny_bind (wpAny_pure ?_)
    simp only [Bool.false_eq_true, if_false]
    refine wpAny_bind (wpAny_mono one (fun r s' z => ?_) fun _ _ e => e)
    obtain ⟨v, rfl, hq⟩ := z
    exact wpAny_pure hq
end
end ON
namespace Pu
open PySem PySem.Spec PyProof.Rows L2 My
variable [Tbs] [Nls]
theorem RmG.in1 {k : Nat} {A : Around} (r : RmG (k + 1) A) : RmG k A.in1 := ⟨r.rm.in1, by
  have h := r.gd
  simpa [Around.in1] using h⟩
structure EqM (K : PySem.W.Frag) (mg : Str → Option Value) (cn : Str) (f : Addr) : Prop where
  cl : Cls K (My.fa mg cn)
  ob : PySem.W.mroIn K (My.fa mg cn) (.type "object") = some true
  eq : PySem.W.findIn K (.ref (My.fa mg cn)) "__eq__" = some (some (.ref f))
  fn : PySem.W.isFn K (.ref f) = true
  ne : PySem.W.findIn K (.ref (My.fa mg cn)) "__ne__" = some (some (.builtin "object.__ne__"))
def NoSub (K : PySem.W.Frag) (mg : Str → Option Value) (cn : Str) (cs : List Str) : Prop :=
  (∀ t : Tag, PySem.W.notFirst K (My.fa mg cn) (.type t.name) = true) ∧ ∀ c ∈ cs, InsF K (My.fa mg c) ∧ PySem.W.notFirst K (My.fa mg cn) (.ref (My.fa mg c)) = true
def rOwn (K : PySem.W.Frag) (C : Addr) (sp : Sp) (neg : Bool) : R2 := fun x y H Q => ∃ a dx fs tb, x = .ref a ∧ H a = some (.ins C dx fs) ∧ TyX K H y tb ∧ PySem.W.notFirst K C tb = true ∧ sp [x, y] H (fun v H' => ∃ b, v = .bl b ∧ Q (.bl (if neg then !b else b)) H') (fun _ _ _ => False)
section
variable {X : Cx} {W : WX} {a b : Expr} {fa fb : M Rv} {pos : Pos} {k : Nat} {f : Addr} {fd : FuncData} {ps : List Str} {sp : Sp} {C : Addr}
theorem looks_ty {pins : List (Addr × Obj)} {σ : L2.St} {H : Hp} {s : Shared} {M : Model} {x : V} {u t : Value} (I : Inv X pins σ H s) (rx : RelV x u) (ty : TyX X.K H x t) : PySem.W.Looks M s.heap (typeOf u) t := by
  obtain ⟨P, Z, p, _⟩ := kit_of I rx ty
  exact Z.ty M s.heap I.kIn p
theorem op_own {neg : Bool} {cn : Str} (Em : EqM X.K X.mg cn f) (F : FnG X.prog X.w X.K X.mg X.base k f fd ps sp) (hb : Binds X.K fd ps []) (hr : RmG (k + 1) X.A) :
    OpR X (compareOp (if neg then .NotEq else .Eq)) (rOwn X.K (My.fa X.mg cn) sp neg) := by
  intro pins s σ H x y v u Q I rx ry h
  obtain ⟨a, dx, fs, tb, rfl, ha, ty, hn, hsp⟩ := h
  cases rx
  obtain ⟨mA, J, _⟩ := ins_get I.hok ha
  obtain ⟨od, J, _⟩ := J.look
  have hl := F.len _ _ _ _ hsp
  have r2 : Vals [V.ref a, y] [Value.ref a, u] := .cons rfl (.cons ry .nil)
  have go : ∀ (A' : Around), RmG k A' → A'.frames = X.A.frames → wpAny (model X.prog X.w) A' (call (.ref f) [.ref a, u]) (fun v s' => ∃ b, v = .bool b ∧ EP X pins σ Q (.bool (if neg then !b else b)) s') X.xe s := fun A' hr' hf' => by
    have e0 : Env0 X.prog X.w X.K X.mg X.base A' X.stack s H := by
      have e := I.env0
      exact ⟨by rw [hf']; exact e.frames, e.mod, e.bs, e.bsz, e.funs, e.frf, e.hok, e.bare⟩
    refine wpAny_call (codeAny_mono (F.run A' X.stack s H ⟨[.ref a, u], []⟩ [.ref a, u] [.ref a, y] _ (fun _ _ _ => False) hr' e0 (by
      have := hb s [.ref a, u] I.kIn (by simpa using hl)
      simpa using this) r2 hsp) fun r s' hq => ?_)
    cases r with
    | error e => exact pass_no σ pins H s e s' I hq
    | ok fl =>
      cases fl with
      | ret w =>
        obtain ⟨z, H', I', rz, bb, ez, q⟩ := I.after hq
        subst ez
        cases rz
        exact ⟨bb, rfl, .bl (if neg then !bb else bb), H', I', rfl, q⟩
      | next => exact False.elim hq
      | brk => exact False.elim hq
      | cont => exact False.elim hq
  obtain ⟨m, hF⟩ := I.fr
  cases neg with
  | false =>
    refine PySem.W.cmp_K (op := .Eq) (tb := tb) hr.rm.units0 hF I.ok.mod.kin J (looks_ty I ry ty) hn Em.eq Em.fn (wpAny_mono (go X.A (hr.mono (by omega)) rfl) (fun v s' z => ?_) fun _ _ e => e)
    obtain ⟨bb, rfl, q⟩ := z
    exact q
  | true =>
    exact ON.rc_ne (tb := tb) hr.u1 I.kIn J (looks_ty I ry ty) hn Em.ob Em.ne Em.eq Em.fn (go X.A.in1 hr.in1 rfl)
def gYes : Tag → Bool := fun _ => true
def okOwn (cn : Str) (cs : List Str) : Option D → Option D → Bool
  | some (.ins c _), some y => decide (c = cn) && (isG gYes (cs.map fun c => (c, true)) y).isSome
  | _, _ => false
def xorR (neg : Bool) : Out Rv → Out Rv
  | .ok (.val (.bl b)) ρ => .ok (.val (.bl (if neg then !b else b))) ρ
  | _ => .bad
def dOwn (neg : Bool) (cn : Str) (cs : List Str) (fn : List D → FOut) (fa fb : M Rv) : M Rv := fun ρ => (fa ρ).bind fun r1 ρ1 => (fb ρ1).bind fun r2 ρ2 =>
  if okOwn cn cs (rd ρ2 r1) (rd ρ2 r2) = true then xorR neg (fcall none fn [r1, r2] ρ2) else .bad
theorem own_le {neg : Bool} {cn : Str} {cs : List Str} {fn : List D → FOut} (hN : NoSub X.K X.mg cn cs) {σ : L2.St} {H : Hp} {Q : VK} (h : tP (bs X) W (dOwn neg cn cs fn fa fb) σ H Q) :
    tOp (rOwn X.K (My.fa X.mg cn) (spD (bs X) none 2 fn) neg) (tP (bs X) W fa) (tP (bs X) W fb) σ H Q := by
  obtain ⟨c, ρ, O, st, q⟩ := h
  unfold dOwn at q
  refine tP.step st (Po.bind q) fun r1 ρ1 v H1 O1 st1 e1 hv q1 => ?_
  refine tP.step st1 (Po.bind q1) fun r2 ρ2 u H2 O2 st2 e2 hu q2 => ?_
  split at q2
  · rename_i hok
    unfold okOwn at hok
    split at hok
    · rename_i c' fs' y hx hy
      simp only [Bool.and_eq_true, decide_eq_true_eq] at hok
      obtain ⟨rfl, hi⟩ := hok
      obtain ⟨a, dx, gs, rfl, hH, _⟩ := (st2.vw (hv.ext e2) hx).ins
      obtain ⟨d, hd⟩ := Option.isSome_iff_exists.mp hi
      obtain ⟨t, bb, ty, hk, _⟩ := isG_ok (B := bs X) (kit := fun t => if PySem.W.notFirst X.K (My.fa X.mg c') t = true then some true else none) (g := gYes)
        (fun t => by rw [if_pos (hN.1 t)]; rfl) (fun q hq => by
          obtain ⟨c1, hc1, rfl⟩ := List.mem_map.mp hq
          exact ⟨(hN.2 c1 hc1).1, by rw [if_pos]; exact (hN.2 c1 hc1).2⟩) (st2.vw hu hy) hd
      have hnf : PySem.W.notFirst X.K (My.fa X.mg c') t = true := by
        by_cases z : PySem.W.notFirst X.K (My.fa X.mg c') t = true
        · exact z
        · rw [if_neg z] at hk; cases hk
      refine ⟨a, dx, gs, t, rfl, hH, ty, hnf, ?_⟩
      refine fcall_sp (c := c) (ρ := ρ2) (O := O2) (σ := σ) (W := fun _ _ _ _ => False) (rs := [r1, r2]) (R := fun r ρ' H' O' => ∃ b, r = .val (.bl b) ∧ Q (.bl (if neg then !b else b)) H') rfl st2 (.cons (hv.ext e2) (.cons hu .nil)) ?_ (fun r ρ' H' O' v _ _ hv' z => ?_)
      · cases hf : fcall none fn [r1, r2] ρ2 with
        | ok r ρ3 =>
          rw [hf] at q2
          intro H' O' st' e'
          unfold xorR at q2
          split at q2
          · rename_i b _ he
            cases he
            exact ⟨b, rfl, q2 H' O' st' e' _ (.bl _)⟩
          · exact q2.elim
        | ex x fs ρ3 => rw [hf] at q2; exact q2.elim
        | bad => rw [hf] at q2; exact q2.elim
      · obtain ⟨b, rfl, q⟩ := z
        have e : v = .bl b := Rep.bl_inv hv'
        exact ⟨b, e, q⟩
    · cases hok
  · exact q2.elim
theorem de_ownEq {cn : Str} {cs : List Str} {fn : List D → FOut} (Em : EqM X.K X.mg cn f) (hN : NoSub X.K X.mg cn cs) (F : FnG X.prog X.w X.K X.mg X.base k f fd ps (spD (bs X) none 2 fn)) (hb : Binds X.K fd ps []) (hr : RmG (k + 1) X.A) (ha : DE X W a fa) (hb' : DE X W b fb) :
    DE X W (.Compare a [.Eq] [b] pos) (dOwn false cn cs fn fa fb) := PE.le (pe_cmpR (op_own (neg := false) Em F hb hr) ha hb' (nomark _)) fun _ _ _ h => own_le hN h
theorem de_ownNe {cn : Str} {cs : List Str} {fn : List D → FOut} (Em : EqM X.K X.mg cn f) (hN : NoSub X.K X.mg cn cs) (F : FnG X.prog X.w X.K X.mg X.base k f fd ps (spD (bs X) none 2 fn)) (hb : Binds X.K fd ps []) (hr : RmG (k + 1) X.A) (ha : DE X W a fa) (hb' : DE X W b fb) :
    DE X W (.Compare a [.NotEq] [b] pos) (dOwn true cn cs fn fa fb) := PE.le (pe_cmpR (op_own (neg := true) Em F hb hr) ha hb' (nomark _)) fun _ _ _ h => own_le hN h
theorem dt_ownEq {cn : Str} {cs : List Str} {fn : List D → FOut} (Em : EqM X.K X.mg cn f) (hN : NoSub X.K X.mg cn cs) (F : FnG X.prog X.w X.K X.mg X.base k f fd ps (spD (bs X) none 2 fn)) (hb : Binds X.K fd ps []) (hr : RmG (k + 1) X.A) (ha : DE X W a fa) (hb' : DE X W b fb) :
    DT X W (.Compare a [.Eq] [b] pos) (dB (dOwn false cn cs fn fa fb)) := PT.le (pt_cmpR (op_own (neg := false) Em F hb hr) ha hb' (nomark _)) fun σ H Q ⟨c, ρ, O, st, q⟩ => own_le hN (dB_le ⟨c, ρ, O, st, q⟩)
end
end Pu
namespace Pu
open PySem PySem.Spec PyProof.Rows L2 My
variable [Tbs] [Nls]
section
variable {X : Cx} {W : WX} {e : Expr} {fa : M Rv} {pos p : Pos}
end
end Pu
namespace Pu
open PySem PySem.Spec PyProof.Rows L2 My
variable [Tbs] [Nls]
section
variable {X : Cx} {W : WX} {o e f : Expr} {fo fk fx : M Rv} {apos cpos : Pos}
end
end Pu
namespace Pu
open PySem PySem.Spec PyProof.Rows L2 My
variable [Tbs] [Nls]
section
variable {X : Cx} {W : WX} {e : Expr} {fa : M Rv} {pos p : Pos}
end
end Pu
namespace Pu
open PySem PySem.Spec PyProof.Rows L2 My
variable [Tbs] [Nls]
section
variable {X : Cx} {W : WX} {a b : Expr} {fa fb : M Rv} {pos : Pos} {k : Nat} {f : Addr} {fd : FuncData} {ps : List Str} {sp : Sp} {C : Addr}
end
end Pu
namespace Pu
open PySem PySem.Spec PyProof.Rows L2 My
variable [Tbs] [Nls]
end Pu
namespace GQ
open PySem PySem.SeqAt
open AutoSeq1 (wpAny_loadPart')
open MeetsSeq MeetsSeq2 MeetsSeq3 SeqRoads2
section
variable {prog : Program} {w : World} {A : Around} {R : Result → Shared → Prop}
theorem tuple_neG (l b : Addr) (items items2 : Array Value) (n n2 : Nat) (dd dd2 : Option Addr) (sl sl2 : Array (Option Value)) (hsz : items.size = items2.size) (I : Nat → Shared → Prop)
    (turn : ∀ i (h1 : i < items.size) (h2 : i < items2.size) s, I i s → wpAny (model prog w) A.in1 (eqBool items[i] items2[i]) (fun r s' => r = true ∧ I (i + 1) s') (fun e s' => R (.error e) s') s)
    (fin : ∀ s, I items.size s → R (.ok (.ret (.bool false))) s) {s : Shared} (hl1 : s.heap.get? l = some { cls := .type "tuple", dict := dd, data := .seq items n, slots := sl }) (hb1 : s.heap.get? b = some { cls := .type "tuple", dict := dd2, data := .seq items2 n2, slots := sl2 }) (h : I 0 s) :
    wpAny (model prog w) A.in1 (Builtin.«tuple.__ne__» ⟨[.ref l, .ref b], []⟩) (FinOf prog w A R) (fun e s' => R (.error e) s') s := by
  have f2 := AutoSeq1.sub_tuple_tuple
  have hZ : (items.toList.zip items2.toList).length = items.size := by simp [hsz]
  have h0 := h
  obtain ⟨hp, g, d, tk, os⟩ := s
  wp_walk using wpAny_loadPart' hl1, wpAny_loadPart' hb1, wpAny_forIn_list _ (fun rest b s' => b.1 = none ∧ ∃ i, rest = (items.toList.zip items2.toList).drop i ∧ i ≤ items.size ∧ I i s') _
  case turn =>
    rintro ⟨y, x⟩ rest b s' ⟨hb', i, hz, hi, hI⟩
    have hlt : i < (items.toList.zip items2.toList).length := by
      rcases Nat.lt_or_ge i (items.toList.zip items2.toList).length with h' | h'
      · exact h'
      · rw [List.drop_of_length_le h'] at hz; cases hz
    have h1 : i < items.size := hZ ▸ hlt
    have h2 : i < items2.size := hsz ▸ h1
    rw [List.drop_eq_getElem_cons hlt] at hz
    injection hz with hyx hrest
    have hy : y = items[i] := by have := congrArg Prod.fst hyx; simpa using this
    have hx : x = items2[i] := by have := congrArg Prod.snd hyx; simpa using this
    subst hy hx
    refine wpAny_bind (wpAny_mono (turn i h1 h2 s' hI) (fun r s2 q2 => ?_) fun _ _ x => x)
    obtain ⟨hr, q2⟩ := q2
    subst hr
    wp_walk
    exact ⟨rfl, i + 1, hrest, h1, q2⟩
  case fin =>
    rintro ⟨b1, b2⟩ s' ⟨hb', i, hz, hi, hI⟩
    simp only at hb'
    subst hb'
    have hge : items.size ≤ i := by
      rcases Nat.lt_or_ge i (items.toList.zip items2.toList).length with h' | h'
      · rw [List.drop_eq_getElem_cons h'] at hz; cases hz
      · exact hZ ▸ h'
    have hi' : i = items.size := by omega
    have hR : R (.ok (.ret (.bool false))) s' := fin s' (hi' ▸ hI)
    wp_walk
    simpa [Builtin.Tuple.tupleCompareSizes, hsz] using hR
  case h =>
    exact ⟨rfl, 0, rfl, Nat.zero_le _, h0⟩
end
section
variable {prog : Program} {w : World} {A : Around} {E : Value → Shared → Prop} {s : Shared}
theorem rc_tupNeG {l b : Addr} {items items2 : Array Value} {Q : Value → Shared → Prop} (hsz : items.size = items2.size) (hu : A.units < cLine) (I : Nat → Shared → Prop)
    (hl : s.heap.IsTuple l items) (hb : s.heap.IsTuple b items2)
    (turn : ∀ i (h1 : i < items.size) (h2 : i < items2.size) s, I i s → wpAny (model prog w) A.in1 (eqBool items[i] items2[i]) (fun r s' => r = true ∧ I (i + 1) s') E s)
    (fin : ∀ s, I items.size s → Q (.bool false) s) (h : I 0 s) : wpAny (model prog w) A (richCompare .NotEq (.ref l) (.ref b)) Q E s := by
  obtain ⟨⟨cls, dd, data, sl⟩, ho, hc, n, hd⟩ := id hl
  obtain ⟨⟨cls2, dd2, data2, sl2⟩, ho2, hc2, n2, hd2⟩ := id hb
  simp only at hc hd hc2 hd2
  subst hc hd hc2 hd2
  refine wpAny_richCompare_same_room (op := .NotEq) ⟨_, ho, rfl⟩ ⟨_, ho2, rfl⟩ F.slot_tuple_ne (call_here F.slot_tuple_ne ⟨_, ho, rfl⟩ F.entry_tuple_ne (F.args_tuple_ne_2 _ _) ?_) hu
  exact tuple_neG (R := wants (fun v s' => v ≠ .notImplemented ∧ Q v s') E) l b items items2 n n2 dd dd2 sl sl2 hsz I turn (fun s' q => ⟨(fun x => nomatch x), fin s' q⟩) ho ho2 h
end
end GQ
namespace RZ
open PySem PySem.Spec PyProof.Rows L2
section
variable {prog : Program} {w : World} {A : Around} {E : Value → Shared → Prop} {s : Shared}
end
section
variable {X : Cx}
end
end RZ
namespace Pu
open PySem PySem.Spec PyProof.Rows L2 My
variable [Tbs] [Nls]
section
variable {X : Cx} {W : WX} {a b : Expr} {fa fb : M Rv} {pos : Pos} {k : Nat} {f : Addr} {fd : FuncData} {ps : List Str} {sp : Sp} {C : Addr}
end
section
variable {X : Cx} {W : WX} {e : Expr} {fa : M Rv} {k : Nat} {p1 p2 p3 pos : Pos}
end
section
variable {X : Cx} {W : WX} {x : Str} {ps : Pos} {i : Nat}
end
end Pu
namespace Pu
open PySem PySem.Spec PyProof.Rows L2 My
variable [Tbs] [Nls]
section
variable {X : Cx} {W : WX} {e : Expr} {fa : M Rv} {pos p : Pos}
end
end Pu
namespace Pu
open PySem PySem.Spec PyProof.Rows L2 My
variable [Tbs] [Nls]
open PySem.W (alike alikeAll AllAlike Sortable EachIs dataLt dataLe keyToks sortLe sameRank)
def encD (d : D) : PyData := (toP d).getD .none
def ltG (x y : D) : Bool := dataLt (encD x) (encD y)
def pairsOk (ps : List PyData) : Bool := ps.all fun p => ps.all fun q => alike p q
theorem le_total {β : Type} (enc : β → PyData) : PySem.W.TotalLe (dataLe false enc) := PySem.W.sortLe_total _ _ _
section
variable {X : Cx} {W : WX} {e : Expr} {fa : M Rv} {pos p : Pos} {k : Nat}
end
end Pu
namespace Pu
open PySem PySem.Spec PyProof.Rows L2 My
variable [Tbs] [Nls]
section
variable {B : Bs} {W : WX} {g : TM} {ws vs : List Nat} {ct : M Bool} {fe : M Rv}
variable {fi fi1 : M (List D)} {g1 : TM} {ct1 : M Bool} {ws1 vs1 : List Nat}
end
section
variable {X : Cx} {W : WX} {e : Expr} {fi fi1 : M (List D)} {g g1 : TM} {ws vs ws1 vs1 : List Nat} {ct ct1 : M Bool} {fe : M Rv}
end
end Pu
namespace Pu
open PySem PySem.Spec PyProof.Rows L2 My
variable [Tbs] [Nls]
section
variable {X : Cx} {W : WX} {e a b : Expr} {ca : M Bool} {fa fb : M D} {pos : Pos}
end
end Pu
namespace Pu
open PySem PySem.Spec PyProof.Rows L2 My
variable [Tbs] [Nls]
def dMethF (cn m : Str) (t : Bool) (pin : Option Nat) (n : Nat) (dds : List D) (fn : List D → FOut) (fo : M Rv) (fa : M (List Rv)) : M D := fun ρ => (fo ρ).bind fun r ρ1 => if selfR cn m (rd ρ1 r) = true then
  (fa ρ1).bind fun rs ρ2 => if rs.length + dds.length = n then (if t = true then fcallF pin fn (r :: (rs ++ dds.map .val)) ρ2 else noX (fcallF pin fn (r :: (rs ++ dds.map .val)) ρ2)) else .bad else .bad
section
variable {X : Cx} {W : WX} {x m : Str} {st : Stmt} {ps : List Str} {k : Nat} {e o : Expr} {es : List Expr} {fo : M Rv} {fs : M (List Rv)} {p pos apos : Pos} {pin : Option Nat} {fn : List D → FOut} {t : Bool} {dds : List D} {dvs : List V} {dsv : List Value} {f C : Addr} {fd : FuncData}
theorem methF_le {σ : L2.St} {H : Hp} {Q : VK} {cn : Str} {n : Nat} (hdd : ∀ G, RepL (bs X) G dvs dds) (h : tF (bs X) W (dMethF cn m t pin (n - 1) dds fn fo fs) σ H Q) (hn : 1 ≤ n) : tMethG ((bs X).cls cn) m (spF (bs X) pin n fn) dvs (wE W t) (tP (bs X) W fo) (tAs (bs X) W fs) σ H Q := by
  obtain ⟨c, ρ, O, st, q⟩ := h
  unfold dMethF at q
  refine tP.step st (Po.bind q) fun r ρ1 v H1 O1 st1 e1 hv q1 => ?_
  split at q1
  · rename_i hs
    cases hrd : rd ρ1 r with
    | none => rw [hrd] at hs; cases hs
    | some d =>
      rw [hrd] at hs
      obtain ⟨a, dx, gs, rfl, hH, hl⟩ := self_ins (st1.vw hv hrd) hs
      refine ⟨a, dx, gs, rfl, hH, hl, ?_⟩
      refine tAs.step st1 (Po.bind q1) fun rs ρ2 vs H2 O2 st2 e2 hvs q2 => ?_
      split at q2
      · rename_i hlen
        have hm : (r :: (rs ++ dds.map Rv.val)).length = n := by simp; omega
        have hv2 : RvsOk (bs X) σ H2 O2 (V.ref a :: (vs ++ dvs)) (r :: (rs ++ dds.map Rv.val)) := .cons (hv.ext e2) (Paired.app hvs (rvs_dflt hdd))
        have fin : ∀ {W' : WX}, Po (bs X) c W' σ H2 O2 (fun d ρ' H' O' => ∀ p o, H' p = some o → p ∈ O' → Free ρ' σ p → p ∉ c.F → RepO (bs X) (hide H' O') p o d → Q (.ref p) H') (fcallF pin fn (r :: (rs ++ dds.map .val)) ρ2) → spF (bs X) pin n fn (V.ref a :: (vs ++ dvs)) H2 Q (fun cls d H' => W' cls d σ H') := fun {W'} z =>
          fcall_spF hm st2 hv2 z fun d ρ' H' O' p o st' e' h1 h2 h3 h4 h5 q => q p o h1 h2 h3 h4 h5
        unfold wE
        cases t with
        | true =>
          rw [if_pos rfl] at q2
          rw [if_pos rfl]
          exact fin q2
        | false =>
          rw [if_neg (by decide)] at q2
          rw [if_neg (by decide)]
          exact fin (W' := fun _ _ _ _ => False) (noX_po q2)
      · exact q2.elim
  · exact q1.elim
end
end Pu
namespace SrtO
open PySem PySem.Spec PyProof.Rows PySem.Calls
section
variable {prog : Program} {w : World} {A : Around} {E : Value → Shared → Prop} {s : Shared}
end
end SrtO
namespace Pu
open PySem PySem.Spec PyProof.Rows L2 My
variable [Tbs] [Nls]
section
variable {X : Cx} {W : WX} {e : Expr} {fa : M Rv} {pos p : Pos}
end
end Pu
namespace Pu
open PySem PySem.Spec PyProof.Rows L2 My
variable [Tbs] [Nls]
theorem ExAt.mono {B : Bs} {G G' : Hp} {fs : List (Str × D)} {d : Option Addr} (h : ExAt B G fs d) (e : Ext G G') (s : ∀ a u, G a = some u → G' a = some u) : ExAt B G' fs d := by
  cases d with
  | none => exact h
  | some d' =>
    obtain ⟨gs, h1, h2, h3⟩ := h
    exact ⟨gs, s _ _ h1, h2, h3.mono e⟩
theorem SuAt.ext {B : Bs} {i : Nat} {a : Addr} {cls : Value} {d : Option Addr} {x : Str} {fs : List (Str × D)} {c : Cst} {ρ : En} {O : List Addr} {σ : L2.St} {H H' : Hp} (su : SuAt B i a cls d x fs c ρ O σ H) (e : Same H H') : SuAt B i a cls d x fs c ρ O σ H' :=
  ⟨su.cls, su.st.ext e, su.ex.mono (same_hide e) (fun q u h => by
    obtain ⟨m, z⟩ := hide_some h
    rw [hide_out m]
    exact e q u z), su.sl⟩
def gTup (gs : GXs) : GX := fun x fs => match gs x fs with
  | some ds => if ds.length ≤ sizeLine then some (.tup ds) else none
  | none => none
section
variable {X : Cx} {i : Nat} {a : Addr} {cls : Value} {d : Option Addr} {oe : Obj} {pn : List (Addr × Obj)} {e : Expr} {es : List Expr} {g : GX} {gs : GXs} {pos p tpos : Pos} {x1 : Nat}
end
abbrev HF := Str → List (Str × D) → SM
def HOk (i : Nat) (F : HF) : Prop := ∀ (x : Str) (fs : List (Str × D)) (ρ : En), (∃ d r, F x fs (ρ.set i none) = .rt d r) ∨ F x fs (ρ.set i none) = .bad ∨ ∃ ρ', F x fs (ρ.set i none) = .nx ρ' ∧ ρ'.set i none = ρ'
def tSuG (B : Bs) (W : WX) (i : Nat) (F : HF) (a : Addr) (cls : Value) (d : Option Addr) : TS := fun E σ H => ∃ x fs c ρ O, SuAt B i a cls d x fs c ρ O σ H ∧ SPo B c W E H O (F x fs ρ)
section
variable {X : Cx} {W : WX} {i : Nat} {a : Addr} {cls : Value} {d : Option Addr} {oe : Obj} {pn : List (Addr × Obj)} {e : Expr} {es : List Expr} {g : GX} {gs : GXs} {pos p tpos : Pos} {x1 : Nat} {st : Stmt}
end
inductive ClG (X : Cx) (W : WX) : List ExceptHandler → List (Str × Nat × HF) → List Clause → Prop
  | nil : ClG X W [] [] []
  | cons {cn n : Str} {i : Nat} {F : HF} {s0 : Stmt} {suite : List Stmt} {p1 p2 : Pos} {hds : List ExceptHandler} {cl : List (Str × Nat × HF)} {l : List Clause} (hi : X.N[i]? = some n) (hl : X.env.kindOf n = some .local) (hc : Names X cn (.ref ((bs X).cls cn))) (hk : HOk i F)
      (hsu : ∀ (a : Addr) (oe : Obj) (cls : Value) (d : Option Addr) (pn : List (Addr × Obj)), Zc cls d oe → (∃ vs, oe.data = .fields vs) → PSs (X.suite a ((a, oe) :: pn)) (s0 :: suite) (tSuG (bs X) W i F a cls d)) (r : ClG X W hds cl l) :
      ClG X W (.ExceptHandler (some (.Name cn p1)) (some n) (s0 :: suite) p2 :: hds) ((cn, i, F) :: cl) ((.ref ((bs X).cls cn), i, fun a cls d => tSuG (bs X) W i F a cls d) :: l)
section
variable {X : Cx} {W : WX}
end
end Pu
namespace Pu
open PySem PySem.Spec PyProof.Rows L2 My
variable [Tbs] [Nls]
section
variable {X : Cx} {pins : List (Addr × Obj)} {σ : L2.St} {H : Hp} {s : Shared}
end
end Pu
namespace PySem.SeqAt
open PySem
section
variable {A : Around} {s : Shared}
end
end PySem.SeqAt
namespace Pu
open PySem PySem.Spec PyProof.Rows L2 My
variable [Tbs] [Nls]
section
variable {X : Cx} {pins : List (Addr × Obj)} {σ : L2.St} {H : Hp} {s : Shared}
end
section
variable {X : Cx} {W : WX} {a b : Expr} {fa fb : M Rv} {pos : Pos} {k : Nat}
end
end Pu
namespace Pu
open PySem PySem.Spec PyProof.Rows L2 My
variable [Tbs] [Nls]
open PySem.W (alike alikeAll AllAlike EachIs AlikeAll)
def minOf {α : Type} (lt : α → α → Bool) (x : α) (xs : List α) : α := xs.foldl (fun a y => if lt y a = true then y else a) x
def isNoneP : PyData → Bool
  | .none => true
  | _ => false
def minG : D → Option D
  | .lst (d :: ds) => match toPs (d :: ds) with
    | some ps => if (pairsOk ps && (ps.all (fun p => !isNoneP p) && decide (PyData.depthAll ps ≤ 60))) = true then some (minOf ltG d ds) else none
    | none => none
  | _ => none
section
variable {X : Cx} {W : WX} {e : Expr} {es : List Expr} {fs : M (List Rv)} {pos p : Pos} {k : Nat}
end
section
variable {X : Cx} {W : WX} {x : Str} {ps1 ps2 : Pos} {i : Nat}
def dPutK2 (i : Nat) (k1 k2 : Str) (fv : M (List Rv)) : SM := fun ρ => (fv ρ).then fun rs ρ1 => match escs ρ1 rs with
  | some ([d1, d2], ρ2) => match ρ2[i]? with
    | some (some (kd, .dK kvs)) => if kd ≠ .val ∧ kvs.length + 1 < sizeLine then .nx (ρ2.set i (some (kd, .dK (putD (putD kvs (.inr k1) d1) (.inr k2) d2)))) else .bad
    | _ => .bad
  | _ => .bad
end
end Pu
namespace Pu
open PySem PySem.Spec PyProof.Rows L2 My
variable [Tbs] [Nls]
section
variable {X : Cx} {W : WX} {x : Str} {ps1 ps2 : Pos} {i : Nat}
end
end Pu
namespace Pu
open PySem PySem.Spec PyProof.Rows L2 My
variable [Tbs] [Nls]
section
variable {X : Cx} {k n : Nat} {f : Addr} {fd : FuncData} {ps ks : List Str} {sp : Sp} {E : L2.St → XK} {x : Str} {p pos : Pos} {e : Expr} {es : List Expr} {kws : List Keyword} {t tk : TA}
end
def dApp (n m : Nat) (fa fb : M (List Rv)) : M (List Rv) := fun ρ => (fa ρ).bind fun as ρ1 => (fb ρ1).bind fun bs ρ2 => if as.length = n ∧ bs.length = m then .ok (as ++ bs) ρ2 else .bad
section
variable {X : Cx} {W : WX} {x : Str} {st : Stmt} {ps ks : List Str} {k n m : Nat} {e : Expr} {es : List Expr} {nm : Str} {kws : List Keyword} {fa : M Rv} {fs fk : M (List Rv)} {p pos kpos : Pos} {pin : Option Nat} {fn : List D → FOut} {t : Bool}
end
end Pu
namespace Pu
open PySem PySem.Spec PyProof.Rows L2 My
variable [Tbs] [Nls]
section
variable {X : Cx} {W : WX} {c a b : Expr} {pos : Pos}
def dIfT (fc fa fb : M Bool) : M Bool := fun ρ => (fc ρ).bind fun d ρ1 => if d = true then fa ρ1 else fb ρ1
end
end Pu
namespace Pu
open PySem PySem.Spec PyProof.Rows L2 My
variable [Tbs] [Nls]
inductive F2 where
  | ok (d a b : D) | ex (x : Str) (fs : List (Str × D)) (a b : D) | bad
structure Fin2 (B : Bs) (p0 p1 : Addr) (H : Hp) (O : List Addr) (a b : D) (H' : Hp) (O' : List Addr) : Prop where
  liv : Liv H' O'
  same : Ext (hide H O) (hide H' O')
  frm : ∀ q ∈ O, q ≠ p0 → q ≠ p1 → q ∈ O' ∧ H' q = H q
  own0 : p0 ∈ O' ∧ ∃ o, H' p0 = some o ∧ RepO B (hide H' O') p0 o a
  own1 : p1 ∈ O' ∧ ∃ o, H' p1 = some o ∧ RepO B (hide H' O') p1 o b
structure Args2 (B : Bs) (vs : List V) (p0 p1 : Addr) (d0 d1 : D) (ds : List D) (H : Hp) (O : List Addr) : Prop where
  ex : ∃ us, vs = .ref p0 :: .ref p1 :: us ∧ RepL B (hide H O) us ds
  ne : p0 ≠ p1
  own0 : p0 ∈ O ∧ ∃ o, H p0 = some o ∧ RepO B (hide H O) p0 o d0
  own1 : p1 ∈ O ∧ ∃ o, H p1 = some o ∧ RepO B (hide H O) p1 o d1
section
variable {B : Bs} {c : Cst} {ρ ρ' : En} {σ σ' : L2.St} {H H' : Hp} {O O' : List Addr} {vs : List V} {ds : List D} {p0 p1 : Addr} {d0 d1 a b : D}
end
section
variable {P : Program} {w : World} {K : PySem.W.Frag} {mg : Str → Option Value} {base : Heap} {x qual : Str} {st : Stmt} {f : Addr} {fd : FuncData} {N ps : List Str} {k : Nat} {fb : SM}
end
section
variable {B : Bs} {c : Cst} {ρ ρ' : En} {σ σ' : L2.St} {H H' : Hp} {O O' : List Addr} {vs : List V} {ds : List D} {p0 p1 : Addr} {d0 d1 a b : D}
end
section
variable {X : Cx} {W : WX} {x : Str} {st : Stmt} {ps : List Str} {k : Nat} {e : Expr} {es : List Expr} {fs : M (List Rv)} {p pos : Pos} {fn : List D → F2} {t : Bool}
end
section
variable {B : Bs} {c : Cst} {ρ ρ' : En} {σ σ' : L2.St} {H H' : Hp} {O O' : List Addr} {vs : List V} {ds : List D} {p0 p1 : Addr} {d0 d1 a b : D}
end
section
variable {X : Cx} {W : WX} {x : Str} {st : Stmt} {ps : List Str} {k i : Nat} {e e0 e1 : Expr} {es : List Expr} {ff : M D} {fs : M (List Rv)} {p pos : Pos} {fn : List D → F2} {t : Bool}
end
end Pu
namespace Pu
open PySem PySem.Spec PyProof.Rows L2 My
variable [Tbs] [Nls]
section
variable {X : Cx} {W : WX} {a b : Expr} {fa fb : M Rv} {pos : Pos}
end
end Pu
namespace SF
open PySem PySem.Calls PyProof.Rows PyProof.Rows.G PySem.W
def PairAt (h : Heap) (v : Value) (n : Int) (r : Addr) : Prop := ∃ a o t k, v = .ref a ∧ h.get? a = some o ∧ o.cls = .type "tuple" ∧ o.data = .seq #[.int n t, .ref r] k
theorem PairAt.keep {h h' : Heap} {v : Value} {n : Int} {r : Addr} (k : KeepsTups h h') (p : PairAt h v n r) : PairAt h' v n r := by
  obtain ⟨a, o, t, m, e, ho, hc, hd⟩ := p
  exact ⟨a, o, t, m, e, k a o ho hc, hc, hd⟩
open Classical in
section
variable {prog : Program} {w : World} {A : Around} {E : Value → Shared → Prop} {s : Shared}
end
end SF
namespace Pu
open PySem PySem.Spec PyProof.Rows L2 My
variable [Tbs] [Nls]
section
variable {X : Cx} {W : WX} {e : Expr} {fa : M Rv} {pos p : Pos}
end
end Pu
namespace RZ
open PySem PySem.Spec PyProof.Rows L2
open PySem.Sem (wp)
section held
variable {prog : Program} {w : World} {A : Around} {E : Value → Shared → Prop} {s : Shared} {z TI TO i1 i2 : Addr} {fp1 fp2 : List Addr} {n1 n2 i : Nat} {P1 P2 : Nat → Value → Prop} {St1 St2 : Nat → Heap → Prop}
end held
section
variable {X : Cx} {pins : List (Addr × Obj)} {σ : L2.St} {H : Hp} {s : Shared}
structure ZAt (S z TI TO i1 i2 : Addr) (z1 z2 : Zs) (i : Nat) (h : Heap) : Prop where
  ti : IsTupOf2 h TI (.ref i1) (.ref i2)
  a1 : Zst i1 z1 i h
  a2 : Zst i2 z2 i h
  to : ∃ x y, IsTupOf2 h TO x y
  at' : IsZip h z TI TO .none ∨ ∃ (T : Addr) (f : Bool) (oT : Obj), IsZipHeld h z TI TO T f ∧ h.get? T = some oT ∧ T ∉ [S, z, TO, i1, i2]
theorem ZAt.keep {S z TI TO i1 i2 : Addr} {z1 z2 : Zs} {i : Nat} {h h' : Heap} (st : ZAt S z TI TO i1 i2 z1 z2 i h) (hS : S ∉ [z, TI, TO, i1, i2]) (k : ∀ b o, b ≠ S → h.get? b = some o → h'.get? b = some o) : ZAt S z TI TO i1 i2 z1 z2 i h' := by
  simp only [List.mem_cons, List.not_mem_nil, or_false, not_or] at hS
  obtain ⟨s1, s2, s3, s4, s5⟩ := hS
  obtain ⟨h1, h2, h3, ⟨x, y, hO⟩, h4⟩ := st
  refine ⟨k _ _ (Ne.symm s2) h1, h2.at fun o q => k _ o (Ne.symm s4) q, h3.at fun o q => k _ o (Ne.symm s5) q, ⟨x, y, k _ _ (Ne.symm s3) hO⟩, ?_⟩
  rcases h4 with hz | ⟨T, f, oT, hz, hT, hn⟩
  · exact .inl (k _ _ (Ne.symm s1) hz)
  · exact .inr ⟨T, f, oT, k _ _ (Ne.symm s1) hz, k _ _ (fun e => hn (by simp [e])) hT, hn⟩
end
section
variable {X : Cx} {pins : List (Addr × Obj)} {σ : L2.St}
end
section
variable {prog : Program} {w : World} {A : Around} {E : Value → Shared → Prop} {s : Shared}
end
end RZ
namespace Pu
open PySem PySem.Spec PyProof.Rows L2 My
variable [Tbs] [Nls]
section
variable {X : Cx} {W : WX} {e e2 : Expr} {fs : M (List Rv)} {p p2 pos pos2 : Pos}
end
end Pu
namespace RZ
open PySem PySem.Spec PyProof.Rows L2
open PySem.Sem (wp)
section
variable {prog : Program} {w : World}
end
end RZ
namespace Pu
open PySem PySem.Spec PyProof.Rows L2 My
variable [Tbs] [Nls]
section
variable {X : Cx} {W : WX} {e e2 : Expr} {fs : M (List Rv)} {p p2 pos pos2 : Pos}
end
section
variable {X : Cx} {W : WX} {e : Expr} {fa : M Rv} {p pos : Pos}
end
section
variable {X : Cx} {W : WX} {o e : Expr} {fo fa : M Rv} {apos cpos : Pos}
end
section
variable {X : Cx} {W : WX} {e : Expr} {fa : M Rv} {p pos p2 pos2 : Pos}
end
end Pu
namespace Pu
open PySem PySem.Spec PyProof.Rows L2 My
variable [Tbs] [Nls]
section
variable {X : Cx} {W : WX} {a b e : Expr} {fa fb : M Rv} {p pos : Pos}
end
end Pu
namespace Pu
open PySem PySem.Spec PyProof.Rows L2 My
variable [Tbs] [Nls]
def eqE (x y : D) : Option D := match eqD x y with
  | some d => some d
  | none => match x, y with
    | .dK xs, .dK [] => some (.bl xs.isEmpty)
    | _, _ => none
def rEqE : R2 := fun x y H Q => ∃ (a b : Addr) (xs : List (Key × V)), x = .ref a ∧ y = .ref b ∧ Rd H a (.dK xs) ∧ Rd H b (.dK []) ∧ Q (.bl xs.isEmpty) H
section
variable {X : Cx} {W : WX} {a b : Expr} {fa fb : M Rv} {pos : Pos}
theorem op_eqE (hu : X.A.units < cLine) : OpR X (compareOp .Eq) rEqE := by
  intro pins s σ H x y v u Q I rx ry h
  obtain ⟨p, q, xs, rfl, rfl, hp, hq, hQ⟩ := h
  cases (show v = Value.ref p from rx)
  cases (show u = Value.ref q from ry)
  obtain ⟨_, ya, va, ra, da⟩ := dk_rd I.hok hp
  obtain ⟨_, yb, vb, rb, db⟩ := dk_rd I.hok hq
  cases rb
  have hl : va.length = xs.length := ra.length.symm
  refine PySem.W.keq_eq (knd := mixKind X.prog X.w) (r := true) ya yb da db hu (fun e => ?_) ⟨.bl xs.isEmpty, H, I, ?_, hQ⟩
  · have e0 : va = [] := List.length_eq_zero_iff.mp (by simpa using e)
    subst e0
    exact .nil
  · show Value.bool _ = Value.bool _
    rw [hl]
    cases xs <;> simp
theorem opD_eqE {B : Bs} : OpD B (fun x y H Q => (rEq x y H Q ∨ rEqD B.K x y H Q) ∨ rEqE x y H Q) eqE := by
  intro v u H O x y d Q hl hx hy hg hq
  unfold eqE at hg
  split at hg
  · rename_i d' he
    cases hg
    exact .inl (opD_eq v u H O x y _ Q hl hx hy he hq)
  · split at hg
    · cases hg
      obtain ⟨a1, xs, rfl, e1, k1, r1⟩ := hx.dK
      obtain ⟨a2, ys, rfl, e2, k2, r2⟩ := hy.dK
      cases ys with
      | cons y ys => cases k2
      | nil =>
        rename_i ds _
        have e : xs.isEmpty = ds.isEmpty := by cases xs <;> cases ds <;> first | rfl | cases k1
        exact .inr ⟨_, _, _, rfl, rfl, e1, e2, by rw [e]; exact hq _ H (.refl _) (.bl _)⟩
    · cases hg
theorem dt_eqE {k : Nat} (hr : RmG k X.A) (ha : DE X W a fa) (hb : DE X W b fb) : DT X W (.Compare a [.Eq] [b] pos) (dT2 eqE fa fb) := dt_2 (pt_cmpR ((op_eq.or (op_eqD hr.u64)).or (op_eqE (by have := hr.u1; omega))) ha hb (nomark _)) opD_eqE
end
end Pu
namespace Pu
open PySem PySem.Spec PyProof.Rows L2 My
variable [Tbs] [Nls]
def cand (ok : Str → Bool) : List V → Bool
  | .ref _ :: _ => true
  | .str w :: _ => !ok w
  | .non :: _ => !ok (Str.ofString "None")
  | _ => false
def hdOk (ok : Str → Bool) : List D → Bool
  | [] => true
  | .int _ :: _ => true
  | .bl _ :: _ => true
  | .non :: _ => ok (Str.ofString "None")
  | .str w :: _ => ok w
  | _ => false
mutual
def safe (ok : Str → Bool) : D → Bool
  | .lst ds => hdOk ok ds && safeL ok ds
  | .tup ds => safeL ok ds
  | .dK kvs => safeK ok kvs
  | .kd kvs => safeK ok kvs
  | .dT kvs => safeT ok kvs
  | .ins _ fs => safeF ok fs
  | .dN kvs => safeN ok kvs
  | _ => true
def safeL (ok : Str → Bool) : List D → Bool
  | [] => true
  | d :: ds => safe ok d && safeL ok ds
def safeK (ok : Str → Bool) : List (Key × D) → Bool
  | [] => true
  | (_, d) :: ds => safe ok d && safeK ok ds
def safeT (ok : Str → Bool) : List (List Key × D) → Bool
  | [] => true
  | (_, d) :: ds => safe ok d && safeT ok ds
def safeF (ok : Str → Bool) : List (Str × D) → Bool
  | [] => true
  | (_, d) :: ds => safe ok d && safeF ok ds
def safeN (ok : Str → Bool) : List (D × D) → Bool
  | [] => true
  | (k, d) :: ds => safe ok k && safe ok d && safeN ok ds
end
theorem safeN_map {ok : Str → Bool} : ∀ {kvs : List (D × D)}, safeN ok kvs = true → safeL ok (kvs.map (·.1)) = true ∧ safeL ok (kvs.map (·.2)) = true
  | [], _ => by simp [safeL]
  | (_, d) :: ds, h => by
    simp only [safeN, Bool.and_eq_true] at h
    obtain ⟨a, b⟩ := safeN_map h.2
    simp only [List.map_cons, safeL, Bool.and_eq_true]
    exact ⟨⟨h.1.1, a⟩, h.1.2, b⟩
theorem safeK_map {ok : Str → Bool} : ∀ {kvs : List (Key × D)}, safeK ok kvs = safeL ok (kvs.map (·.2))
  | [] => by simp [safeK, safeL]
  | (_, d) :: ds => by rw [safeK, List.map_cons, safeL, safeK_map]
theorem safeT_map {ok : Str → Bool} : ∀ {kvs : List (List Key × D)}, safeT ok kvs = safeL ok (kvs.map (·.2))
  | [] => by simp [safeT, safeL]
  | (_, d) :: ds => by rw [safeT, List.map_cons, safeL, safeT_map]
theorem safeF_map {ok : Str → Bool} : ∀ {kvs : List (Str × D)}, safeF ok kvs = safeL ok (kvs.map (·.2))
  | [] => by simp [safeF, safeL]
  | (_, d) :: ds => by rw [safeF, List.map_cons, safeL, safeF_map]
section
variable {ok : Str → Bool} {B : Bs} {G : Hp} {L : List Addr}
def OnlyC (ok : Str → Bool) (G : Hp) (L : List Addr) : Prop := ∀ a ∈ L, ∀ o, G a = some o → ∃ xs, o = .lst xs ∧ cand ok xs = true
theorem OnlyC.keep (h : OnlyC ok G L) {a : Addr} {o : HO} (e : G a = some o) (hn : ∀ xs, o = .lst xs → cand ok xs = false) : hide G L a = some o := by
  rw [hide_out]
  · exact e
  · intro m
    obtain ⟨xs, rfl, hc⟩ := h a m o e
    rw [hn xs rfl] at hc
    cases hc
theorem OnlyC.rd (h : OnlyC ok G L) {a : Addr} {u : HO} (e : Rd G a u) (hn : ∀ xs, u = .lst xs → cand ok xs = false) : Rd (hide G L) a u := by
  rcases e with e | ⟨o, e⟩
  · exact .inl (h.keep e hn)
  · exact .inr ⟨o, h.keep e fun xs z => by cases z⟩
theorem hd_no {xs : List V} {ds : List D} (r : RepL B G xs ds) (h : hdOk ok ds = true) : cand ok xs = false := by
  cases r with
  | nil => rfl
  | cons q _ =>
    cases q <;> simp only [hdOk] at h <;> first | rfl | (cases h; done) | simp [cand, h]
mutual
theorem Rep.hideL (hL : OnlyC ok G L) {v : V} : ∀ {d : D}, safe ok d = true → Rep B G v d → Rep B (hide G L) v d
  | _, _, .non => .non
  | _, _, .bl b => .bl b
  | _, _, .int i => .int i
  | _, _, .str s => .str s
  | _, h, .tup s r => .tup (s.imp (fun z => hL.rd z fun xs e => by cases e) id) (RepL.hideL hL (by simpa [safe] using h) r)
  | _, h, .lst s r => by
    simp only [safe, Bool.and_eq_true] at h
    exact .lst (hL.keep s fun xs e => by cases e; exact hd_no r h.1) (RepL.hideL hL h.2 r)
  | _, h, .dK s k r => .dK (s.imp (fun z => hL.keep z fun xs e => by cases e) (fun z => ⟨z.1, z.2.imp fun o q => hL.keep q fun xs e => by cases e⟩)) k (RepL.hideL hL (by simpa [safe, safeK_map] using h) r)
  | _, h, .kd s k r => .kd s k (RepL.hideL hL (by simpa [safe, safeK_map] using h) r)
  | _, h, .dT s k r => .dT (hL.rd s fun xs e => by cases e) k (RepL.hideL hL (by simpa [safe, safeT_map] using h) r)
  | _, h, .ins s k r => .ins (hL.keep s fun xs e => by cases e) k (RepL.hideL hL (by simpa [safe, safeF_map] using h) r)
  | _, _, .scr (xs := xs) s => .scr (s.imp (fun z => hL.rd z fun ys e => by
      cases e
      cases xs <;> rfl) id)
  | _, _, .ty n => .ty n
  | _, _, .cl c => .cl c
  | _, h, .dN s k1 k2 r1 k3 r2 => .dN (hL.keep s fun xs e => by cases e) k1 k2 (RepL.hideL hL (safeN_map (by simpa [safe] using h)).1 r1) k3 (RepL.hideL hL (safeN_map (by simpa [safe] using h)).2 r2)
theorem RepL.hideL (hL : OnlyC ok G L) {vs : List V} : ∀ {ds : List D}, safeL ok ds = true → RepL B G vs ds → RepL B (hide G L) vs ds
  | _, _, .nil => .nil
  | _, h, .cons q r => by
    simp only [safeL, Bool.and_eq_true] at h
    exact .cons (Rep.hideL hL h.1 q) (RepL.hideL hL h.2 r)
end
end
theorem hide_app (H : Hp) (O L : List Addr) : hide H (O ++ L) = hide (hide H O) L := by
  funext a
  by_cases h1 : a ∈ L
  · rw [hide_in (by simp [h1]), hide_in h1]
  · rw [hide_out (H := hide H O) h1]
    by_cases h2 : a ∈ O
    · rw [hide_in (by simp [h2]), hide_in h2]
    · rw [hide_out (by simp [h1, h2]), hide_out h2]
section
variable {ok : Str → Bool} {B : Bs} {G : Hp} {L : List Addr}
theorem RepO.hideL (hL : OnlyC ok G L) {p : Addr} {o : HO} {d : D} (h : safe ok d = true) (r : RepO B G p o d) : RepO B (hide G L) p o d := by
  cases r with
  | lst r =>
    simp only [safe, Bool.and_eq_true] at h
    exact .lst (r.hideL hL h.2)
  | dK k r => exact .dK k (r.hideL hL (by simpa [safe, safeK_map] using h))
  | dT k r => exact .dT k (r.hideL hL (by simpa [safe, safeT_map] using h))
  | ins k r => exact .ins k (r.hideL hL (by simpa [safe, safeF_map] using h))
  | dN k1 k2 r1 k3 r2 => exact .dN k1 k2 (r1.hideL hL (safeN_map (by simpa [safe] using h)).1) k3 (r2.hideL hL (safeN_map (by simpa [safe] using h)).2)
theorem OnlyC.tabs (hL : OnlyC ok G L) (t : LamX.Tabs Tbs.T G) : LamX.Tabs Tbs.T (hide G L) := fun p hp => by
  obtain ⟨ps, h1, h2, h3⟩ := t p hp
  refine ⟨ps, hL.keep h1 (fun xs e => by cases e), h2, fun pos cv hc => ?_⟩
  obtain ⟨c, e1, e2⟩ := h3 pos cv hc
  exact ⟨c, e1, hL.keep e2 fun xs e => by cases e⟩
def safeE (ok : Str → Bool) (ρ : En) : Bool := ρ.all fun x => match x with
  | some (_, d) => safe ok d
  | none => true
theorem safeE_get {ρ : En} {i : Nat} {k : Kd} {d : D} (h : safeE ok ρ = true) (e : ρ[i]? = some (some (k, d))) : safe ok d = true :=
  List.all_eq_true.mp h _ (List.mem_of_getElem? e)
theorem Stt.hideL {c : Cst} {ρ : En} {σ : L2.St} {H : Hp} {O : List Addr} (st : Stt B c ρ σ H O) (hs : safeE ok ρ = true) (hL : ∀ a ∈ L, ∃ xs, hide H O a = some (.lst xs) ∧ cand ok xs = true) : Stt B ⟨c.pa, c.F ++ L, H⟩ ρ σ H (O ++ L) := by
  have oc : OnlyC ok (hide H O) L := fun a ha o e => by
    obtain ⟨xs, h1, h2⟩ := hL a ha
    rw [h1] at e
    cases e
    exact ⟨xs, rfl, h2⟩
  have out : ∀ a ∈ L, a ∉ O := fun a ha => by
    obtain ⟨xs, h1, _⟩ := hL a ha
    exact (hide_some h1).1
  refine ⟨st.len, fun i d h => ?_, fun i k d h hk => ?_, st.sep, st.pin, ⟨fun p hp => ?_, fun p hp o ho => ?_, ?_⟩, fun q hq => ?_⟩
  · obtain ⟨v, h1, h2⟩ := st.val i d h
    exact ⟨v, h1, by rw [hide_app]; exact h2.hideL oc (safeE_get hs h)⟩
  · obtain ⟨p, o, h1, h2, h3, h4, h5⟩ := st.own i k d h hk
    refine ⟨p, o, h1, by simp [h2], ?_, h4, by rw [hide_app]; exact h5.hideL oc (safeE_get hs h)⟩
    show p ∉ c.F ++ L
    rw [List.mem_append, not_or]
    exact ⟨h3, fun m => out p m h2⟩
  · rcases List.mem_append.mp hp with hp | hp
    · exact st.liv.liv p hp
    · obtain ⟨xs, h1, _⟩ := hL p hp
      exact ⟨_, (hide_some h1).2⟩
  · rcases List.mem_append.mp hp with hp | hp
    · exact st.liv.notb p hp o ho
    · obtain ⟨xs, h1, _⟩ := hL p hp
      rw [(hide_some h1).2] at ho
      cases ho
      exact .inl rfl
  · rw [hide_app]
    exact oc.tabs st.liv.tab
  · show q ∈ O ++ L ∧ H q = H q
    have hq : q ∈ c.F ++ L := hq
    rcases List.mem_append.mp hq with hq | hq
    · exact ⟨by simp [(st.frm q hq).1], rfl⟩
    · exact ⟨by simp [hq], rfl⟩
end
section
variable {X : Cx} {W : WX} {x w : Str} {i : Nat} {k : Nat} {ps apos cpos p1 pos spos : Pos}
end
theorem PSs.fin {X : Cx} {sts : List Stmt} {t : TS} (h : PSs X sts t) : PSs X sts fun D σ H => ∀ N, (∀ a, N ≤ a → H a = none) → t D σ H :=
  ⟨fun pins s σ H D I q => h.run pins s σ H D I (q s.heap.objs.size fun a ha => I.hok.fresh ha)⟩
end Pu
namespace Pu
open PySem PySem.Spec PyProof.Rows L2 My
variable [Tbs] [Nls]
open Classical in
noncomputable def candL (ok : Str → Bool) (G : Hp) (N : Nat) : List Addr := (List.range N).filter fun a => decide (∃ xs, G a = some (.lst xs) ∧ cand ok xs = true)
theorem candL_in {ok : Str → Bool} {G : Hp} {N : Nat} {a : Addr} (h : a ∈ candL ok G N) : ∃ xs, G a = some (.lst xs) ∧ cand ok xs = true := by
  unfold candL at h
  simpa using (List.mem_filter.mp h).2
theorem candL_all {ok : Str → Bool} {G : Hp} {N : Nat} {a : Addr} {xs : List V} (hN : ∀ a, N ≤ a → G a = none) (h : G a = some (.lst xs)) (hc : cand ok xs = true) : a ∈ candL ok G N := by
  unfold candL
  refine List.mem_filter.mpr ⟨?_, by simpa using ⟨xs, h, hc⟩⟩
  rw [List.mem_range]
  rcases Nat.lt_or_ge a N with z | z
  · exact z
  · rw [hN a z] at h
    cases h
theorem set_none {ρ : En} {i j : Nat} {k : Kd} {d : D} (h : (ρ.set i none)[j]? = some (some (k, d))) : j ≠ i ∧ ρ[j]? = some (some (k, d)) := by
  rw [List.getElem?_set] at h
  split at h
  · split at h <;> cases h
  · rename_i ne
    exact ⟨fun e => ne e.symm, h⟩
end Pu
namespace Pu
open PySem PySem.Spec PyProof.Rows L2 My
variable [Tbs] [Nls]
def tSt3 (i : Nat) (n : Int) : TS := fun D σ H => ∃ a xs, σ[i]? = some (some (.ref a)) ∧ H a = some (.lst xs) ∧ xs.length = 3 ∧
  ∀ p1 p2, H p1 = none → H p2 = none → p1 ≠ p2 → D.nx σ (upd (upd (upd (upd H p1 (.tup [.non, .int n, .non])) p2 (.tup [.non, .ref p1])) a (.lst (xs.set 0 .non))) a (.lst ((xs.set 0 .non).set 2 (.ref p1))))
section
variable {X : Cx} {W : WX} {x : Str} {ps1 ps2 : Pos} {i : Nat}
theorem ps_st3 {n : Int} {kt kv kw : Nat} {pk1 pk2 t1 t2 pt pv pw pos c1 c2 c3 c4 : Pos} {j1 j2 m1 m2 m3 m4 : Nat} (hc : X.calm = true) (hx1 : PE X (.Name x ps1) (tVar i)) (hx2 : PE X (.Name x ps2) (tVar i))
    (hs : swapsWithSole [.Tuple [.Subscript (.Name x ps1) (.Constant (.int 0) j1 pk1) t1, .Subscript (.Name x ps2) (.Constant (.int 2) j2 pk2) t2] kt pt] (.Tuple [.Constant .none m1 c1, .Tuple [.Constant .none m2 c2, .Constant (.int n) m3 c3, .Constant .none m4 c4] kw pw] kv pv) pos.line X.env = pure false := by rfl)
    (hw : swappedStores [.Tuple [.Subscript (.Name x ps1) (.Constant (.int 0) j1 pk1) t1, .Subscript (.Name x ps2) (.Constant (.int 2) j2 pk2) t2] kt pt] (.Tuple [.Constant .none m1 c1, .Tuple [.Constant .none m2 c2, .Constant (.int n) m3 c3, .Constant .none m4 c4] kw pw] kv pv) X.env = pure none := by rfl)
    (hA : ∀ q, (assignEach [.Tuple [.Subscript (.Name x ps1) (.Constant (.int 0) j1 pk1) t1, .Subscript (.Name x ps2) (.Constant (.int 2) j2 pk2) t2] kt q] X.env).map (·.2) = [assign (.Tuple [.Subscript (.Name x ps1) (.Constant (.int 0) j1 pk1) t1, .Subscript (.Name x ps2) (.Constant (.int 2) j2 pk2) t2] kt q) X.env] := by intro _; rfl)
    (ha1 : ∀ v, assign (.Subscript (.Name x ps1) (.Constant (.int 0) j1 pk1) t1) X.env v = (do
      let ov ← holding [v] (eval (.Name x ps1) X.env)
      let iv ← holding [v, ov] (eval (.Constant (.int 0) j1 pk1) X.env)
      standAt t1
      holding [v, ov, iv] (setItem ov iv v)
      release [v, ov, iv] []) := by intro _; rfl)
    (ha2 : ∀ v, assign (.Subscript (.Name x ps2) (.Constant (.int 2) j2 pk2) t2) X.env v = (do
      let ov ← holding [v] (eval (.Name x ps2) X.env)
      let iv ← holding [v, ov] (eval (.Constant (.int 2) j2 pk2) X.env)
      standAt t2
      holding [v, ov, iv] (setItem ov iv v)
      release [v, ov, iv] []) := by intro _; rfl) :
    PS X (.Assign [.Tuple [.Subscript (.Name x ps1) (.Constant (.int 0) j1 pk1) t1, .Subscript (.Name x ps2) (.Constant (.int 2) j2 pk2) t2] kt pt] (.Tuple [.Constant .none m1 c1, .Tuple [.Constant .none m2 c2, .Constant (.int n) m3 c3, .Constant .none m4 c4] kw pw] kv pv) pos) (tSt3 i n) := by
  refine PS.le (ps_asg (pe_tup (pa_cons pe_non (pa_cons (pe_tup (pa_cons pe_non (pa_cons pe_int (pa_cons pe_non pa_nil)))) pa_nil))) (pg_tup hc (pgs_cons (pg_sub hx1 pe_int set_list ha1) (pgs_cons (pg_sub hx2 pe_int set_list ha2) pgs_nil (by rfl)) (by rfl)) (by rfl) (by rfl)) hs hw (hA _)) fun D σ H ⟨a, xs, h1, h2, h3, q⟩ => ?_
  have hz : 3 ≤ sizeLine := by decide
  have hz2 : 2 ≤ sizeLine := by decide
  refine ⟨hz, fun p1 hp1 => ⟨hz2, fun p2 hp2 => ?_⟩⟩
  have n12 : p2 ≠ p1 := fun z => by rw [z, upd_same] at hp2; cases hp2
  have hp2' : H p2 = none := by rwa [upd_ne n12] at hp2
  have na1 : a ≠ p1 := fun z => by rw [z, hp1] at h2; cases h2
  have na2 : a ≠ p2 := fun z => by rw [z, hp2'] at h2; cases h2
  have e2 : (upd (upd H p1 (.tup [.non, .int n, .non])) p2 (.tup [.non, .ref p1])) a = some (.lst xs) := by rw [upd_ne na2, upd_ne na1]; exact h2
  have gp : (upd (upd H p1 (.tup [.non, .int n, .non])) p2 (.tup [.non, .ref p1])) p2 = some (.tup [.non, .ref p1]) := upd_same
  have fin := q p1 p2 hp1 hp2' (fun z => n12 z.symm)
  generalize upd (upd H p1 (.tup [.non, .int n, .non])) p2 (.tup [.non, .ref p1]) = G at *
  have e3 : (upd G a (.lst (xs.set 0 .non))) a = some (.lst (xs.set 0 .non)) := upd_same
  refine ⟨p2, [.non, .ref p1], rfl, SqT.of gp, rfl, .non, [.ref p1], rfl, .ref a, h1, a, xs, 0, 0, rfl, rfl, e2, by rw [h3]; rfl, .ref p1, [], rfl, .ref a, h1, a, xs.set 0 .non, 2, 2, rfl, rfl, e3, by rw [List.length_set, h3]; rfl, rfl, fin⟩
theorem scope_end {ok : Str → Bool} {B : Bs} {c : Cst} {ρ ρ2 : En} {σ σ2 : L2.St} {H H2 H3 : Hp} {O O2 L A : List Addr} {i : Nat} (st : Stt B c ρ σ H O) (hLall : ∀ a xs, hide H O a = some (.lst xs) → cand ok xs = true → a ∈ L) (hLO : ∀ a ∈ L, a ∉ O)
    (st2 : Stt B ⟨c.pa, c.F ++ L, H⟩ ρ2 σ2 H2 O2) (x : Ext (hide H (O ++ L)) (hide H2 O2)) (hs2 : safeE ok (ρ2.set i none) = true)
    (hA : ∀ a ∈ A, ∃ zs, hide H2 O2 a = some (.lst zs) ∧ cand ok zs = true) (H3A : ∀ a ∈ A, ∃ zs, H3 a = some (.lst zs)) (H3ne : ∀ b, b ∉ A → H3 b = H2 b) :
    ∃ O3, Stt B c (ρ2.set i none) σ2 H3 O3 ∧ Ext (hide H O) (hide H3 O3) := by
  have nA : ∀ a ∈ A, a ∉ O2 := fun a ha => by
    obtain ⟨zs, h1, _⟩ := hA a ha
    exact (hide_some h1).1
  have frm2 : ∀ b, b ∈ c.F ++ L → b ∈ O2 ∧ H2 b = H b := fun b hb => st2.frm b hb
  have fresh : ∀ b o, b ∈ A → hide H O b = some o → isT o = false → False := fun b o hbA ho ht => by
    obtain ⟨zs, hb, hc⟩ := hA b hbA
    obtain ⟨m, hm⟩ := hide_some hb
    by_cases hbL : b ∈ L
    · exact m (frm2 b (by simp [hbL])).1
    · have hb' : hide H (O ++ L) b = some o := by
        rw [hide_app, hide_out hbL]
        exact ho
      rcases x.1 b o hb' ht with z | ⟨_, ob, z⟩
      · rw [hb] at z
        cases z
        exact hbL (hLall b zs ho hc)
      · rw [hb] at z
        cases z
  have oc : OnlyC ok (hide H2 O2) A := fun b hb o e => by
    obtain ⟨zs, h1, h2⟩ := hA b hb
    rw [h1] at e
    cases e
    exact ⟨_, rfl, h2⟩
  generalize hO3 : O2.filter (fun b => decide (b ∉ L)) ++ A = O3
  have O3in : ∀ b, b ∈ O3 ↔ (b ∈ O2 ∧ b ∉ L) ∨ b ∈ A := fun b => by rw [← hO3]; simp
  have no3 : ∀ b, (b ∉ O2 ∨ b ∈ L) → b ∉ A → b ∉ O3 := fun b h z hm => by
    rcases (O3in b).mp hm with y | y
    · exact h.elim (fun k => k y.1) fun k => y.2 k
    · exact z y
  have same : Same (hide (hide H2 O2) A) (hide H3 O3) := fun b o hb => by
    obtain ⟨m, hb⟩ := hide_some hb
    obtain ⟨m2, hb⟩ := hide_some hb
    rw [hide_out (no3 b (.inl m2) m), H3ne b m]
    exact hb
  have tab3 : LamX.Tabs Tbs.T (hide H3 O3) := same.ext.2 (oc.tabs st2.liv.tab)
  refine ⟨O3, ⟨by rw [List.length_set]; exact st2.len, fun j d h => ?_, fun j k d h hk => ?_, fun j l p k k' d d' h h' hk hk' hp hp' => ?_, fun j d h => ?_, ⟨fun p hp => ?_, fun p hp o ho => ?_, tab3⟩, fun b hb => ?_⟩, ⟨fun b o hb ht => ?_, fun _ => tab3⟩⟩
  · obtain ⟨u, u1, u2⟩ := st2.val j d (set_none h).2
    exact ⟨u, u1, (u2.hideL oc (safeE_get hs2 h)).mono same.ext⟩
  · obtain ⟨p, o, u1, u2, u3, u4, u5⟩ := st2.own j k d (set_none h).2 hk
    have u3 : p ∉ c.F ++ L := u3
    rw [List.mem_append, not_or] at u3
    refine ⟨p, o, u1, (O3in p).mpr (.inl ⟨u2, u3.2⟩), u3.1, ?_, (u5.hideL oc (safeE_get hs2 h)).mono same.ext⟩
    rw [H3ne p (fun z => nA p z u2)]
    exact u4
  · exact st2.sep j l p k k' d d' (set_none h).2 (set_none h').2 hk hk' hp hp'
  · exact st2.pin j d (set_none h).2
  · rcases (O3in p).mp hp with z | z
    · rw [H3ne p (fun y => nA p y z.1)]
      exact st2.liv.liv p z.1
    · obtain ⟨zs, h⟩ := H3A p z
      exact ⟨_, h⟩
  · rcases (O3in p).mp hp with z | z
    · rw [H3ne p (fun y => nA p y z.1)] at ho
      exact st2.liv.notb p z.1 o ho
    · obtain ⟨zs, h⟩ := H3A p z
      rw [h] at ho; cases ho; exact .inl rfl
  · obtain ⟨b1, b2⟩ := frm2 b (by simp [hb])
    obtain ⟨b3, b4⟩ := st.frm b hb
    refine ⟨(O3in b).mpr (.inl ⟨b1, fun z => hLO b z b3⟩), ?_⟩
    rw [H3ne b (fun y => nA b y b1), b2, b4]
  · have nba : b ∉ A := fun z => fresh b o z hb ht
    obtain ⟨m, hb0⟩ := hide_some hb
    by_cases hbL : b ∈ L
    · obtain ⟨b1, b2⟩ := frm2 b (by simp [hbL])
      left
      rw [hide_out (no3 b (.inr hbL) nba), H3ne b nba, b2]
      exact hb0
    · have hb' : hide H (O ++ L) b = some o := by
        rw [hide_app, hide_out hbL]
        exact hb
      have up : ∀ u, hide H2 O2 b = some u → hide H3 O3 b = some u := fun u hu => by
        obtain ⟨m2, hu⟩ := hide_some hu
        rw [hide_out (no3 b (.inl m2) nba), H3ne b nba]
        exact hu
      rcases x.1 b o hb' ht with z | ⟨y, ob, z⟩
      · exact .inl (up _ z)
      · exact .inr ⟨y, ob, up _ z⟩
end
def hd3 (ok : Str → Bool) : D → Bool
  | .non => !ok (Str.ofString "None")
  | .lst _ => true
  | .tup _ => true
  | _ => false
theorem cand3 {ok : Str → Bool} {B : Bs} {G : Hp} {v : V} {d : D} {vs : List V} (r : Rep B G v d) (h : hd3 ok d = true) : cand ok (v :: vs) = true := by
  cases r <;> simp only [hd3] at h <;> first | rfl | exact h | (cases h; done) | simp_all [cand]
def sc3 (ok : Str → Bool) (b : Bool) (x : Option (Option (Kd × D))) : Bool := match b, x with
  | false, _ => true
  | true, some (some (.val, .lst [d0, _, _])) => hd3 ok d0
  | _, _ => false
def dScoped3 (ok : Str → Bool) (i : Nat) (f1 f2 : SM) (ft : M Bool) : SM := fun ρ => if safeE ok ρ = true then (match dSeq f1 f2 ρ with
  | .nx ρ2 => (match ft ρ2 with
    | .ok b ρ3 => if sc3 ok b ρ3[i]? = true ∧ safeE ok (ρ3.set i none) = true then .nx (ρ3.set i none) else .bad
    | _ => .bad)
  | _ => .bad) else .bad
theorem scoped3_nx {ok : Str → Bool} {i : Nat} {f1 f2 : SM} {ft : M Bool} {ρ : En} : dScoped3 ok i f1 f2 ft ρ = .bad ∨ ∃ ρ1 ρ2 b ρ3, safeE ok ρ = true ∧ f1 ρ = .nx ρ1 ∧ f2 ρ1 = .nx ρ2 ∧ ft ρ2 = .ok b ρ3 ∧ sc3 ok b ρ3[i]? = true ∧ safeE ok (ρ3.set i none) = true ∧ dScoped3 ok i f1 f2 ft ρ = .nx (ρ3.set i none) := by
  unfold dScoped3
  split
  · rename_i hs
    split
    · rename_i ρ2 h2
      split
      · rename_i b ρ3 h3
        split
        · rename_i hc
          unfold dSeq at h2
          cases e1 : f1 ρ with
          | nx ρ1 =>
            rw [e1] at h2
            exact .inr ⟨ρ1, ρ2, b, ρ3, hs, rfl, h2, h3, hc.1, hc.2, rfl⟩
          | _ => rw [e1] at h2; cases h2
        · exact .inl rfl
      · exact .inl rfl
    · exact .inl rfl
  · exact .inl rfl
theorem dss_scoped3 {X : Cx} {W : WX} {ok : Str → Bool} {i : Nat} {n : Int} {s1 s2 s3 : Stmt} {e : Expr} {rest : List Stmt} {f1 f2 g : SM} {ft : M Bool} {pos : Pos} (h1 : DS X W s1 f1) (h2 : DS X W s2 f2) (ht : DT X W e ft) (h3 : PS X s3 (tSt3 i n)) (hr : DSs X W rest g) :
    DSs X W (s1 :: s2 :: .If e [s3] [] pos :: rest) (dSeq (dScoped3 ok i f1 f2 ft) g) :=
  PSs.le (PSs.fin (pss_cons h1 (pss_cons h2 (pss_cons (ps_if ht (pss_one h3) pss_nil) hr)))) fun E σ H ⟨c, ρ, O, st, q⟩ N hN => by
    rcases scoped3_nx (ok := ok) (i := i) (f1 := f1) (f2 := f2) (ft := ft) (ρ := ρ) with hsc | ⟨ρ1, ρ2, b, ρ3, hs, e1, e2, e3, hsc3, hs2, hsc⟩
    · unfold dSeq at q
      rw [hsc] at q
      exact q.elim
    have q : SPo (bs X) c W E H O (g (ρ3.set i none)) := by
      unfold dSeq at q
      rw [hsc] at q
      exact q
    have hN' : ∀ a, N ≤ a → hide H O a = none := fun a ha => by
      by_cases m : a ∈ O
      · exact hide_in m
      · rw [hide_out m]; exact hN a ha
    generalize hL : candL ok (hide H O) N = L
    have hLin : ∀ a ∈ L, ∃ xs, hide H O a = some (.lst xs) ∧ cand ok xs = true := fun a ha => candL_in (N := N) (by rw [hL]; exact ha)
    have hLall : ∀ a xs, hide H O a = some (.lst xs) → cand ok xs = true → a ∈ L := fun a xs h hc => by rw [← hL]; exact candL_all hN' h hc
    have hLO : ∀ a ∈ L, a ∉ O := fun a ha => by
      obtain ⟨xs, h, _⟩ := hLin a ha
      exact (hide_some h).1
    have st' := st.hideL hs hLin
    refine ⟨_, ρ, O ++ L, st', ?_⟩
    rw [e1]
    intro σ1 H1 O1 st1 x1
    refine ⟨_, ρ1, O1, st1, ?_⟩
    rw [e2]
    intro σ2 H2 O2 st2 x2
    have x := x1.trans x2
    refine tQ.step (R := fun b' ρ' H' O' => b' = b ∧ ρ' = ρ3) st2 (by rw [e3]; exact fun H' O' _ _ => ⟨rfl, rfl⟩) fun b' ρ' H3 O3 st3 x3 hb => ?_
    obtain ⟨rfl, rfl⟩ := hb
    have x := x.trans x3
    cases b' with
    | false =>
      rw [if_neg (by decide)]
      obtain ⟨O4, s4, x4⟩ := scope_end (i := i) (A := []) (H3 := H3) st hLall hLO st3 x hs2 (fun _ h => nomatch h) (fun _ h => nomatch h) (fun _ _ => rfl)
      exact ⟨c, _, O4, s4, SPo.mono q x4⟩
    | true =>
      rw [if_pos rfl]
      unfold sc3 at hsc3
      split at hsc3
      · rename_i hh; cases hh
      · rename_i d0 d1 d2 _ hi
        obtain ⟨v, hv1, hv2⟩ := st3.val i _ hi
        cases hv2 with
        | @lst a xs _ s r =>
          match xs, r with
          | [v0, v1, v2], .cons r0 (.cons _ (.cons _ .nil)) =>
            have ca := cand3 (vs := [v1, v2]) r0 hsc3
            obtain ⟨na, ha⟩ := hide_some s
            refine ⟨a, _, hv1, ha, rfl, fun p1 p2 hp1 hp2 n12 => ?_⟩
            have na1 : a ≠ p1 := fun z => by rw [z, hp1] at ha; cases ha
            have na2 : a ≠ p2 := fun z => by rw [z, hp2] at ha; cases ha
            have en1 : Same H3 (upd H3 p1 (.tup [.non, .int n, .non])) := Same.new hp1
            have en2 : Same (upd H3 p1 (.tup [.non, .int n, .non])) (upd (upd H3 p1 (.tup [.non, .int n, .non])) p2 (.tup [.non, .ref p1])) := Same.new (by rw [upd_ne (fun z => n12 z.symm)]; exact hp2)
            have st5 := (st3.ext en1).ext en2
            have x5 := (x.trans (same_hide (O := O3) en1)).trans (same_hide (O := O3) en2)
            have sa : (hide (upd (upd H3 p1 (.tup [.non, .int n, .non])) p2 (.tup [.non, .ref p1])) O3) a = some (.lst [v0, v1, v2]) := by rw [hide_out na, upd_ne na2, upd_ne na1]; exact ha
            generalize upd (upd H3 p1 (.tup [.non, .int n, .non])) p2 (.tup [.non, .ref p1]) = G at *
            obtain ⟨O4, s4, x4⟩ := scope_end (i := i) (A := [a]) (H3 := upd (upd G a (.lst ([v0, v1, v2].set 0 .non))) a (.lst (([v0, v1, v2].set 0 .non).set 2 (.ref p1)))) st hLall hLO st5 x5 hs2
              (fun b hb => by rw [List.mem_singleton.mp hb]; exact ⟨_, sa, ca⟩) (fun b hb => by rw [List.mem_singleton.mp hb]; exact ⟨_, upd_same⟩)
              (fun b hb => by rw [upd_ne (fun z => hb (List.mem_singleton.mpr z)), upd_ne (fun z => hb (List.mem_singleton.mpr z))])
            exact ⟨c, _, O4, s4, SPo.mono q x4⟩
      · cases hsc3
def okNone (w : Str) : Bool := !decide (w = Str.ofString "None")
end Pu
namespace Pu
open PySem PySem.Spec PyProof.Rows L2 My
variable [Tbs] [Nls]
abbrev kk2 (k1 k2 : Str) : List Key := [.inr k1, .inr k2]
section
variable {B : Bs} {c c1 : Cst} {ρ ρ1 : En} {σ : L2.St} {H H1 : Hp} {O : List Addr}
structure Nst (B : Bs) (c : Cst) (F : List Addr) (H0 : Hp) (i : Nat) (kk : List Key) (kvs : List (List Key × D)) (p p0 : Addr) (ds : List D) (ρ : En) (σ : L2.St) (H : Hp) (O : List Addr) : Prop where
  st : Stt B ⟨c.pa, p :: p0 :: F, H⟩ ρ σ H O
  nF : p ∉ F ∧ p0 ∉ F ∧ p ≠ p0
  old : ∀ q ∈ F, H q = H0 q
  at_ : σ[i]? = some (some (.ref p))
  ob : ∃ kvs' : List (List Key × V), H p = some (.dT (putK kvs' kk (.ref p0))) ∧ kvs'.map (·.1) = kvs.map (·.1) ∧ RepL B (hide H O) (kvs'.map (·.2)) (kvs.map (·.2))
  ls : ∃ xs, H p0 = some (.lst xs) ∧ RepL B (hide H O) xs ds
theorem Nst.ext {F : List Addr} {H0 : Hp} {i : Nat} {kk : List Key} {kvs : List (List Key × D)} {p p0 : Addr} {ds : List D} (n : Nst B c F H0 i kk kvs p p0 ds ρ σ H O) (e : Same H H1) : Nst B c F H0 i kk kvs p p0 ds ρ σ H1 O ∧ Ext (hide H O) (hide H1 O) := by
  have e1 := same_hide (O := O) e
  have al : ∀ q ∈ p :: p0 :: F, H1 q = H q := fun q hq => by
    obtain ⟨o, ho⟩ := n.st.liv.liv q (n.st.frm q hq).1
    rw [ho]
    exact e q o ho
  have s1 := n.st.ext e
  obtain ⟨kvs', k1, k2, k3⟩ := n.ob
  obtain ⟨xs, l1, l2⟩ := n.ls
  refine ⟨⟨?_, n.nF, fun q hq => by rw [al q (by simp [hq])]; exact n.old q hq, n.at_, ⟨kvs', by rw [al p (by simp)]; exact k1, k2, k3.mono e1⟩, ⟨xs, by rw [al p0 (by simp)]; exact l1, l2.mono e1⟩⟩, e1⟩
  exact ⟨s1.len, s1.val, s1.own, s1.sep, s1.pin, s1.liv, fun q hq => ⟨(s1.frm q hq).1, rfl⟩⟩
end
section
variable {X : Cx} {W : WX} {x k1 k2 : Str} {i : Nat}
end
end Pu
namespace Pu
open PySem PySem.Spec PyProof.Rows L2 My PySem.W PySem.Calls
variable [Tbs] [Nls]
section
variable {X : Cx}
end
section
variable {X : Cx} {W : WX} {x : Str} {i : Nat}
end
end Pu
namespace Pu
open PySem PySem.Spec PyProof.Rows L2 My
section
variable {X : Cx} {k v : Expr} {pos : Pos} {tk tv : TE}
end
section
variable [Tbs] [Nls]
variable {X : Cx} {W : WX} {v : Expr} {kes : List Expr} {fk : M (List Rv)} {fv : M Rv} {x1 k : Nat} {pos tpos : Pos}
end
end Pu
namespace Pu
open PySem PySem.Spec PyProof.Rows L2 My
variable [Tbs] [Nls]
open LamX (TabB Tabs CodeO LamS lamCx lamEnv ExtN)
section
variable {B : Bs} {c : Cst} {ρ : En} {σ : L2.St} {H H' : Hp} {O O' : List Addr}
theorem Stt.extN (st : Stt B c ρ σ H O) (e : ExtN H H') (t : Tabs Tbs.T H') : Stt B c ρ σ H' O ∧ Ext (hide H O) (hide H' O) := by
  have stay : ∀ a ∈ O, ∃ o, H a = some o ∧ NoTb o ∧ H' a = some o := fun a ha => by
    obtain ⟨o, ho⟩ := st.liv.liv a ha
    have nb := st.liv.notb a ha o ho
    exact ⟨o, ho, nb, e a o ho fun ps z => nb.noT ps z⟩
  have out : ∀ a o, H' a = some o → ((∃ ps, o = .tbl ps) ∨ ∃ c q, o = CodeO c q) → a ∉ O := fun a o h h2 ha => by
    obtain ⟨o', _, nb, h3⟩ := stay a ha
    rw [h] at h3
    cases h3
    rcases h2 with ⟨ps, h2⟩ | ⟨c, q, h2⟩
    · exact nb.noT ps h2
    · exact nb.noC c q h2
  have tb : Tabs Tbs.T (hide H' O) := fun p hp => by
    obtain ⟨ps, h1, h2, h3⟩ := t p hp
    refine ⟨ps, by rw [hide_out (out _ _ h1 (.inl ⟨_, rfl⟩))]; exact h1, h2, fun pos cv hc => ?_⟩
    obtain ⟨a, e1, e2⟩ := h3 pos cv hc
    exact ⟨a, e1, by rw [hide_out (out _ _ e2 (.inr ⟨_, _, rfl⟩))]; exact e2⟩
  have ex : Ext (hide H O) (hide H' O) := ⟨fun a o h hT => .inl (by
    obtain ⟨m, q⟩ := hide_some h
    rw [hide_out m]
    exact e a o q fun ps z => by rw [z] at hT; cases hT), fun _ => tb⟩
  have at_ : ∀ a ∈ O, H' a = H a := fun a ha => by
    obtain ⟨o, h1, _, h2⟩ := stay a ha
    rw [h1, h2]
  refine ⟨⟨st.len, fun i d h => ?_, fun i k d h hk => ?_, st.sep, st.pin, ⟨fun p hp => ?_, fun p hp o ho => ?_, tb⟩, fun q hq => ?_⟩, ex⟩
  · obtain ⟨v, h1, h2⟩ := st.val i d h
    exact ⟨v, h1, h2.mono ex⟩
  · obtain ⟨p, o, h1, h2, h3, h4, h5⟩ := st.own i k d h hk
    exact ⟨p, o, h1, h2, h3, by rw [at_ p h2]; exact h4, h5.mono ex⟩
  · rw [at_ p hp]; exact st.liv.liv p hp
  · rw [at_ p hp] at ho; exact st.liv.notb p hp o ho
  · obtain ⟨u1, u2⟩ := st.frm q hq
    exact ⟨u1, by rw [at_ q u1]; exact u2⟩
theorem Stt.blank (st : Stt B c ρ σ H O) (n : Nat) {τ : L2.St} (hτ : τ.length = n) : Stt B ⟨c.pa, O, H⟩ (List.replicate n none) τ H O := by
  have no : ∀ (i : Nat) (x : Kd × D), (List.replicate n (none : Option (Kd × D)))[i]? ≠ some (some x) := fun i x z => by
    rw [List.getElem?_replicate] at z
    split at z <;> simp at z
  exact ⟨by simp [hτ], fun i d h => absurd h (no i _), fun i k d h _ => absurd h (no i _), fun i j p k l d e h => absurd h (no i _), fun i d h => absurd h (no i _), st.liv, fun q hq => ⟨hq, rfl⟩⟩
theorem Stt.after (st : Stt B c ρ σ H O) (e : Ext (hide H O) (hide H' O')) (l : Liv H' O') (fr : ∀ q ∈ O, q ∈ O' ∧ H' q = H q) : Stt B c ρ σ H' O' := by
  refine ⟨st.len, fun i d h => ?_, fun i k d h hk => ?_, st.sep, st.pin, l, fun q hq => ?_⟩
  · obtain ⟨v, h1, h2⟩ := st.val i d h
    exact ⟨v, h1, h2.mono e⟩
  · obtain ⟨p, o, h1, h2, h3, h4, h5⟩ := st.own i k d h hk
    obtain ⟨u1, u2⟩ := fr p h2
    exact ⟨p, o, h1, u1, h3, by rw [u2]; exact h4, h5.mono e⟩
  · obtain ⟨u1, u2⟩ := st.frm q hq
    obtain ⟨v1, v2⟩ := fr q u1
    exact ⟨v1, by rw [v2]; exact u2⟩
end
section
variable {X : Cx} {pins : List (Addr × Obj)} {σ : L2.St} {H : Hp} {s : Shared}
theorem act_guarded {CG : CXT} {EG : XK} {NG : List Str} {qG aN : Str} {sG : Scope} {gA lf lc : Addr} {cdG pmV ctV : Value} {prm : Arguments} {bd : Expr} {sc : Scope} {n i : Nat} {pn : List (Addr × Obj)} {xe : Value → Shared → Prop} {W : WX} {E : XK} {tb : TE} {p1 p2 : Pos}
    (hI : Inv X pins σ H s) (hL : LamS X.env.scope sc)
    (ho : s.heap.get? lf = some (PySem.W.kla_obj "<lambda>" (X.env.qual ++ "<lambda>") prm bd sc (cloFrom X.env.cells sc.names []) pmV lc ctV))
    (hn : H lf = none) (hs : lf ∉ frs X.stack)
    (hb : bindArgs (PySem.W.kla_fn "<lambda>" (X.env.qual ++ "<lambda>") prm bd sc (cloFrom X.env.cells sc.names []) pmV (.ref lc) ctV) ⟨[], []⟩ = pure [])
    (tk : Takes ((cxOf CG X.prog X.w X.K X.mg X.base NG qG sG gA cdG X.A X.stack s H EG).tr pn xe) W) (hW : ∀ cls d τ G, E cls d G → W cls d τ G)
    (hr : RmG (n + 1) (X.A.deeper (envOfC qG sG s.heap.objs.size gA cdG)))
    (hB : ∀ (A1 : Around) (out1 : List PySem.Env) (s1 : Shared) (G1 : Hp), RmG n (A1.deeper (lamEnv X sc s1.heap.objs.size lf lc)) → PE (lamCx X A1 out1 s1 G1 E sc lf lc) bd tb)
    (hN : NG[i]? = some aN) (hv : Vis sG aN) (d1 : (aN == ("__debug__" : Str)) = false := by decide) (d2 : (aN == ("__classdict__" : Str)) = false := by decide) :
    PE ((cxOf CG X.prog X.w X.K X.mg X.base NG qG sG gA cdG X.A X.stack s H EG).tr pn xe) (.Call (.Name aN p1) [] [] p2)
      (fun τ G Q => τ[i]? = some (some (.ref lf)) ∧ G lc = some (CodeO lc (X.env.qual ++ "<lambda>")) ∧ tb σ G Q) := by
  constructor
  rintro pinsZ sZ τ G Q hZ ⟨z1, z2, z3⟩
  have hx := passes_call tk hW
  refine wpAny_Call_Name_kw (thn ((pe_var (pos := p1) (i := i) hN hv d1 d2).run pinsZ sZ τ G (fun v G1 => v = .ref lf ∧ G1 = G) hZ ⟨.ref lf, z1, rfl, rfl⟩) ?_)
  rintro u sA ⟨v, G1, hA, rA, rfl, rfl⟩
  obtain rfl : u = Value.ref lf := rA
  have un : Un (frs X.stack) [] H G1 s.heap sA.heap := hA.base
  have oA := un.keep lf _ ho hn hs (fun z => nomatch (show lf ∈ ([] : List Addr) from z))
  refine PySem.W.callWith_F0 ⟨_, _, _, _, oA⟩ (wpAny_call (codeAny_mono (R := CR (L2.CX X.prog X.w) (envOfC qG sG s.heap.objs.size gA cdG :: X.stack) X.prog X.w G1 sA Q E) ?_ ?_))
  · show codeAny (model X.prog X.w) (X.A.deeper (envOfC qG sG s.heap.objs.size gA cdG)) (.call (.ref lf) ⟨[], []⟩) _ sA
    obtain ⟨⟨oc, fv, tk0, w1, w2, w3⟩, _, _⟩ := hA.hok lc _ z2
    refine PySem.W.kla_callFunE hr.rm.depth oA rfl hL.co hL.gen rfl ⟨lc, oc, fv, tk0, rfl, w1, w2, w3⟩ ?_
    rw [hb]
    refine wpAny_pure (wpAny_newFunctionEnv (fun y hy => (hL.own y hy).2) (fun y hy => absurd hy (by simp)) (fun hp1 hns hsb => ?_) hL.kind)
    refine ⟨hA.nolimit.fresh _ hsb, ?_⟩
    show codeAny _ _ (.expr bd (lamEnv X sc sA.heap.objs.size lf lc)) _ _
    have kp : ∀ b ob, sA.heap.get? b = some ob → hp1.get? b = some ob := fun b ob eo => hsb.extBut b ob (Nat.ne_of_lt (Heap.lt_size eo)) (Heap.get?_push_of_some _ eo)
    have J := LamX.lam_start2 (E := E) (c' := lc) (f := lf) (tk := sA.toks + ([] : List (Str × Value)).length) (A := X.A.deeper (envOfC qG sG s.heap.objs.size gA cdG)) (outer := envOfC qG sG s.heap.objs.size gA cdG :: X.stack) hI hL hA.env0 hr.rm.hd un hns kp
    refine PySem.W.kla_codeExpr (wpAny_mono ((hB _ _ sA G1 ⟨hr.rm.deeper _, hr.gd⟩).run [] _ _ G1 Q J z3) ?_ fun _ _ hq => hq)
    rintro v1 sB ⟨v2, G2, J2, rv, q⟩
    exact ⟨v2, G2, J2.os, J2.bare, J2.base, J2.hok, rv, q⟩
  · intro r sB hq
    cases r with
    | error er => exact hx pinsZ τ G1 sA er sB hA hq
    | ok fl => cases fl <;> first | exact hA.after hq | exact False.elim hq
end
def Gives (X : Cx) (NG : List Str) (x : Str) (sG : Scope) (gA : Addr) (cdG : Value) (bG : List Stmt) (aN q : Str) (TT : (XK → Hp → VK → Prop) → Hp → VK → Prop) : Prop :=
  ∀ (lf lc : Addr) (s : Shared) (H : Hp) (Q : VK) (tl : XK → Hp → VK → Prop), RmG 0 (X.A.deeper (envOfC x sG s.heap.objs.size gA cdG)) →
    (∀ (W : WX) (pn : List (Addr × Obj)) (xe : Value → Shared → Prop) (E : XK) (p1 p2 : Pos), Takes ((cxOf C8.CX0 X.prog X.w X.K X.mg X.base NG x sG gA cdG X.A X.stack s H C8.E0).tr pn xe) W → (∀ cls d τ G, E cls d G → W cls d τ G) →
      PE ((cxOf C8.CX0 X.prog X.w X.K X.mg X.base NG x sG gA cdG X.A X.stack s H C8.E0).tr pn xe) (.Call (.Name aN p1) [] [] p2) (fun τ G Q => τ[0]? = some (some (.ref lf)) ∧ G lc = some (CodeO lc q) ∧ tl E G Q)) →
    H lc = some (CodeO lc q) → TT tl H Q →
    ∃ t, PSs (cxOf C8.CX0 X.prog X.w X.K X.mg X.base NG x sG gA cdG X.A X.stack s H C8.E0).nox bG t ∧ t { nx := fun _ G => Q .non G, rt := Q } (L2.start NG [.ref lf]) H
section
variable {X : Cx}
theorem pe_lamG {TT : (XK → Hp → VK → Prop) → Hp → VK → Prop} {x aN : Str} {gA lc0 P0 : Addr} {n : Nat} {pG : Arguments} {bG : List Stmt} {sG : Scope} {dV kV doc pm cdv ct oc : Value} {an od : Option Addr} {osl : Array (Option Value)} {NG : List Str}
    {prm : Arguments} {bd : Expr} {sc : Scope} {t : XK → TE} {p lpos pos : Pos} (hg : Gl X x) (hm : X.mg x = some (.ref gA)) (hk : PySem.W.keepIn X.K (.ref gA) = true)
    (lk : X.K.lookup gA = some ⟨oc, od, .func (PySem.W.fnOf x x pG bG sG dV kV doc pm an cdv ct), osl⟩) (hcG : PySem.W.codeIn X.K cdv x = true) (hB : L2.Binds X.K (PySem.W.fnOf x x pG bG sG dV kV doc pm an cdv ct) [aN] []) (Sg : FnScope NG [aN] sG)
    (hNg : NG[0]? = some aN) (hva : Vis sG aN) (hG : Gives X NG x sG gA cdv bG aN (X.env.qual ++ "<lambda>") TT)
    (TB : TabB X.base X.mg lc0 P0) (hcode : X.env.code = .ref lc0) (hmT : (P0, X.env.qual ++ "<lambda>") ∈ Tbs.T) (hu : ∀ p ∈ Tbs.T, p.1 = P0 → p.2 = X.env.qual ++ "<lambda>") (hr : RmG (n + 2) X.A) (hL : LamS X.env.scope sc) (hdef : defaultsOf prm X.env = ([], []))
    (hbind : ∀ (q : Str) (cl : List (Str × Addr)) (pm cv ctv : Value), bindArgs (PySem.W.kla_fn "<lambda>" q prm bd sc cl pm cv ctv) ⟨[], []⟩ = pure [])
    (hbody : ∀ (A1 : Around) (out1 : List PySem.Env) (s1 : Shared) (G1 : Hp) (E : XK) (lf lc : Addr), RmG n (A1.deeper (lamEnv X sc s1.heap.objs.size lf lc)) → PE (lamCx X A1 out1 s1 G1 E sc lf lc) bd (t E))
    (hdb : (x == ("__debug__" : Str)) = false := by decide) (d1 : (aN == ("__debug__" : Str)) = false := by decide) (d2 : (aN == ("__classdict__" : Str)) = false := by decide) :
    PE X (.Call (.Name x p) [.Lambda prm bd sc lpos] [] pos) (LamX.tLam Tbs.T TT t) := by
  constructor
  rintro pins s σ H Q hI ⟨hT, hq⟩
  refine wpAny_Call_Name_kw (ld_glob hI hg hm (PySem.W.callWith_K (h₀ := X.base) hI.ok.mod.kin hk ?_ (by rfl) (by rfl)) hdb)
  show wpAny _ _ (spliced ((false, eval (.Lambda prm bd sc lpos) X.env) :: backTo pos (starEach [] X.env))) _ _ s
  refine Calls.spliced_cons (LamX.lam_make2 hI TB hcode hmT hu hT hdef (hL.has hI.ok) ?_)
  intro lf lc pm' ctv G1 s1 I1 eN T1 hf hfn hfr hco
  refine Calls.spliced_nil ⟨I1.kIn, wpAny_call (codeAny_mono (R := CR C8.CX0 X.stack X.prog X.w G1 s1 Q C8.E0) ?_ ?_)⟩
  · refine LamX.run_ofS (N := NG) (ps := [aN]) (us := [.ref lf]) (vs := [.ref lf]) lk hcG Sg hr.rm I1.env0 (hB s1 [.ref lf] I1.kIn rfl) (.cons rfl .nil) rfl fun hr1 => ?_
    have hrG : RmG (n + 1) (X.A.deeper (envOfC x sG s1.heap.objs.size gA cdv)) := ⟨hr1, hr.gd⟩
    obtain ⟨t', ht', hq'⟩ := hG lf lc s1 G1 Q (fun E H' Q' => t E σ H' Q') (hrG.mono (Nat.zero_le _)) (fun W pn xe E p1 p2 tk hW => act_guarded (i := 0) I1 hL hf hfn hfr (hbind _ _ _ _ _) tk hW hrG (fun A1 out1 s2 G2 hr2 => hbody A1 out1 s2 G2 E lf lc hr2) hNg hva d1 d2) hco (hq G1 eN T1)
    exact ⟨t', ht'.nox, hq'⟩
  · intro r s2 hr2
    cases r with
    | error er => exact (show False from hr2).elim
    | ok fl => cases fl <;> first | exact I1.after hr2 | exact False.elim hr2
end
end Pu
namespace Pu
open PySem PySem.Spec PyProof.Rows L2 My
variable [Tbs] [Nls]
open LamX (TabB Tabs CodeO LamS lamCx lamEnv ExtN)
def dMet (ca : Str → Str → Option Bool) (n : Nat) (cl : List (Str × Nat × GXs)) (f : M Rv) : M Rv := fun ρ => match f ρ with
  | .ok _ ρ1 => .ok (.val (.tup [])) ρ1
  | .ex x fs ρ1 => match catchD ca x fs cl (List.replicate n none) with
    | .rt d _ => .ok (.val d) ρ1
    | _ => .bad
  | .bad => .bad
abbrev noW : WX := fun _ _ _ _ => False
def TMet (B : Bs) (ca : Str → Str → Option Bool) (n : Nat) (cl : List (Str × Nat × GXs)) : (XK → Hp → VK → Prop) → Hp → VK → Prop := fun tl H Q => ∃ Ech : XK,
  tl Ech H (fun _ G => ([] : List V).length ≤ sizeLine ∧ ∀ p, G p = none → Q (.ref p) (upd G p (.tup []))) ∧
  ∀ cls dd G, Ech cls dd G → ∃ (x : Str) (fs : List (Str × D)) (c : Cst) (O : List Addr), cls = .ref (B.cls x) ∧ (∀ τ : L2.St, τ.length = n → Stt B c (List.replicate n none) τ G O) ∧ ExAt B (hide G O) fs dd ∧
    ∀ E : Ends, E.rt = Q → SPo B c noW E G O (catchD ca x fs cl (List.replicate n none))
section
variable {X : Cx}
theorem met_gives {NG : List Str} {x aN q : Str} {sG : Scope} {gA : Addr} {cdG : Value} {h0 : ExceptHandler} {hds : List ExceptHandler} {cl : List (Str × Nat × GXs)} {ca : Str → Str → Option Bool} {n k5 : Nat} {p1 p2 p3 p4 p5 p6 : Pos} (hnd : NG.Nodup) (hn : NG.length = n) (h0s : ∀ lf : Addr, (L2.start NG [V.ref lf])[0]? = some (some (V.ref lf)))
    (hca : ∀ x y b, ca x y = some b → PySem.W.exmOne X.K (.ref ((bs X).cls x)) (.ref ((bs X).cls y)) = some b)
    (ck : ∀ (s : Shared) (H : Hp), RmG 0 (X.A.deeper (envOfC x sG s.heap.objs.size gA cdG)) → ∃ l, ClD (cxOf C8.CX0 X.prog X.w X.K X.mg X.base NG x sG gA cdG X.A X.stack s H C8.E0).nox noW (h0 :: hds) cl l) :
    Gives X NG x sG gA cdG [.Try [.Expr (.Call (.Name aN p1) [] [] p2) p3] (h0 :: hds) [] [] p4, .Return (some (.Tuple [] k5 p5)) p6] aN q (TMet (bs X) ca n cl) := by
  rintro lf lc s H Q tl hr act hc ⟨Ech, w1, w2⟩
  obtain ⟨l, ck⟩ := ck s H hr
  refine ⟨_, pss_cons (ps_tryAs (Wo := noW) (tb := fun W Dn τ G => ∃ Ech : XK, (∀ cls d τ' G', Ech cls d G' → W cls d τ' G') ∧ τ[0]? = some (some (V.ref lf)) ∧ G lc = some (CodeO lc q) ∧ tl Ech G (fun _ G' => Dn.nx τ G')) rfl rfl hnd LamX.takes0 (fun W pn xe tk _ => ?_) ck.ok)
    (pss_one (ps_ret (pe_tup pa_nil))), ?_⟩
  · refine ⟨fun pins s' τ G Dn I hh => ?_⟩
    obtain ⟨Ech2, a1, a2, a3, a4⟩ := hh
    exact (pss_one (ps_expr (act W pn xe Ech2 _ _ tk a1))).run pins s' τ G Dn I ⟨a2, a3, a4⟩
  · refine ⟨Ech, fun cls d τ' G' he hl => ?_, h0s lf, hc, w1⟩
    obtain ⟨x', fs, c, O, rfl, st, hx, sp⟩ := w2 cls d G' he
    have hl2 : τ'.length = n := hl.trans hn
    exact catch_le (X := (cxOf C8.CX0 X.prog X.w X.K X.mg X.base NG x sG gA cdG X.A X.stack s H C8.E0).nox) ck hca (st τ' hl2) hx hl (sp _ rfl)
theorem met_le {W : WX} {f : M Rv} {ca : Str → Str → Option Bool} {n : Nat} {cl : List (Str × Nat × GXs)} {B : Bs} {σ : L2.St} {H : Hp} {Q : VK} (h : tP B W (dMet ca n cl f) σ H Q) :
    LamX.tLam Tbs.T (TMet B ca n cl) (fun E => tP B (fun cls d _ G => E cls d G) f) σ H Q := by
  obtain ⟨c, ρ, O, st, q⟩ := h
  refine ⟨st.liv.tab.ext (hide_le H O), fun H1 eN T1 => ?_⟩
  obtain ⟨st1, e1⟩ := st.extN eN T1
  refine ⟨fun cls dd G => ∃ x fs ρ1 O2, f ρ = .ex x fs ρ1 ∧ cls = .ref (B.cls x) ∧ Stt B c ρ1 σ G O2 ∧ Ext (hide H O) (hide G O2) ∧ ExAt B (hide G O2) fs dd, ⟨c, ρ, O, st1, ?_⟩, ?_⟩
  · unfold dMet at q
    cases hf : f ρ with
    | ok r ρ1 =>
      rw [hf] at q
      intro H' O' st' e' v hv
      refine ⟨by decide, fun p hp => ?_⟩
      have en : Same H' (upd H' p (.tup [])) := Same.new hp
      exact q _ O' (st'.ext en) (e1.trans (e'.trans (same_hide en))) _ (.tup (.inl (.inl (hide_new st'.liv hp))) .nil)
    | ex x fs ρ1 =>
      intro dd H' O' st' e' hx
      exact ⟨x, fs, ρ1, O', rfl, rfl, st', e1.trans e', hx⟩
    | bad => rw [hf] at q; exact q
  · rintro cls dd G ⟨x, fs, ρ1, O2, hf, rfl, st2, e2, hx⟩
    refine ⟨x, fs, ⟨c.pa, O2, G⟩, O2, rfl, fun τ hτ => st2.blank n hτ, hx, fun E hE => ?_⟩
    unfold dMet at q
    rw [hf] at q
    simp only at q
    split at q
    · rename_i d ρz hcd
      rw [hcd]
      intro v σ' H' O' stz ez hr
      rw [hE]
      exact q H' O' (st2.after ez stz.liv fun p hp => stz.frm p hp) (e2.trans ez) v hr
    · exact q.elim
end
end Pu
namespace Pu
open PySem PySem.Spec PyProof.Rows L2 My
variable [Tbs] [Nls]
open LamX (TabB Tabs CodeO LamS lamCx lamEnv ExtN)
section
variable {X : Cx} {W : WX}
theorem de_met {x aN : Str} {st : Stmt} {lc0 P0 : Addr} {n k5 m : Nat} {NG : List Str} {h0 : ExceptHandler} {hds : List ExceptHandler} {cl : List (Str × Nat × GXs)} {ca : Str → Str → Option Bool} {p1 p2 p3 p4 p5 p6 : Pos}
    {prm : Arguments} {bd : Expr} {sc : Scope} {f : M Rv} {p lpos pos : Pos} (Dx : Dg X.K X.mg x st) (hB : Binds X.K (fdOf X.K (My.fa X.mg x)) [aN] []) (Sg : FnScope NG [aN] (defScope st))
    (hbd : defBody st = [.Try [.Expr (.Call (.Name aN p1) [] [] p2) p3] (h0 :: hds) [] [] p4, .Return (some (.Tuple [] k5 p5)) p6])
    (hn : NG.length = m) (h0s : ∀ lf : Addr, (L2.start NG [V.ref lf])[0]? = some (some (V.ref lf))) (hNg : NG[0]? = some aN) (hva : Vis (defScope st) aN)
    (hca : ∀ x y b, ca x y = some b → PySem.W.exmOne X.K (.ref ((bs X).cls x)) (.ref ((bs X).cls y)) = some b)
    (ck : ∀ (cdG : Value) (s : Shared) (H : Hp), RmG 0 (X.A.deeper (envOfC x (defScope st) s.heap.objs.size (My.fa X.mg x) cdG)) → ∃ l, ClD (cxOf C8.CX0 X.prog X.w X.K X.mg X.base NG x (defScope st) (My.fa X.mg x) cdG X.A X.stack s H C8.E0).nox noW (h0 :: hds) cl l)
    (TB : TabB X.base X.mg lc0 P0) (hcode : X.env.code = .ref lc0) (hmT : (P0, X.env.qual ++ "<lambda>") ∈ Tbs.T) (hu : ∀ p ∈ Tbs.T, p.1 = P0 → p.2 = X.env.qual ++ "<lambda>") (hr : RmG (n + 2) X.A) (hL : LamS X.env.scope sc)
    (hbody : ∀ (A1 : Around) (out1 : List PySem.Env) (s1 : Shared) (G1 : Hp) (E : XK) (lf lc : Addr), RmG n (A1.deeper (lamEnv X sc s1.heap.objs.size lf lc)) → DE (lamCx X A1 out1 s1 G1 E sc lf lc) (fun cls d _ G => E cls d G) bd f)
    (hg : Gl X x := by rfl) (hdef : defaultsOf prm X.env = ([], []) := by rfl)
    (hbind : ∀ (q : Str) (cl : List (Str × Addr)) (pm cv ctv : Value), bindArgs (PySem.W.kla_fn "<lambda>" q prm bd sc cl pm cv ctv) ⟨[], []⟩ = pure [] := by intro _ _ _ _ _; rfl)
    (hdb : (x == ("__debug__" : Str)) = false := by decide) (d1 : (aN == ("__debug__" : Str)) = false := by decide) (d2 : (aN == ("__classdict__" : Str)) = false := by decide) :
    DE X W (.Call (.Name x p) [.Lambda prm bd sc lpos] [] pos) (dMet ca m cl f) := by
  obtain ⟨oc, od, dV, kV, doc, pm, an, cdv, ct, osl, e, lk, hcd⟩ := Dx.F.ex
  rw [e] at lk hB
  refine PE.le (pe_lamG (t := fun E => tP (bs X) (fun cls d _ G => E cls d G) f) (TT := TMet (bs X) ca m cl) hg Dx.g Dx.F.kp lk hcd hB Sg hNg hva ?_ TB hcode hmT hu hr hL hdef hbind hbody hdb d1 d2) fun σ H Q h => met_le h
  rw [hbd]
  exact met_gives Sg.nd hn h0s hca fun s H h => ck cdv s H h
end
section
variable {P : Program} {w : World} {K : PySem.W.Frag} {mg : Str → Option Value} {base : Heap} {x qual : Str} {st : Stmt} {f : Addr} {fd : FuncData} {N ps : List Str} {k : Nat} {fb : SM} {sp : Sp}
theorem fun_okC (F : Fg K x qual st f fd) (S : FnScope N ps (defScope st)) (len : ∀ vs H Q E, sp vs H Q E → vs.length = ps.length)
    (hbody : ∀ (cdv : Value) (A : Around) (outer : List PySem.Env) (s : Shared) (H : Hp) (vs : List V) (Q : VK) (E : XK), fd.code = cdv → RmG k (A.deeper (envOfC qual (defScope st) s.heap.objs.size f cdv)) → sp vs H Q E →
      ∃ t, PSs (cxOf (L2.CX P w) P w K mg base N qual (defScope st) f cdv A outer s H E) (defBody st) t ∧ t { nx := fun _ G => Q .non G, rt := Q } (start N vs) H) : FnG P w K mg base (k + 1) f fd ps sp := by
  obtain ⟨oc, od, dV, kV, doc, pm, an, cdv, ct, osl, rfl, lk, hcd⟩ := F.ex
  exact fnG_of lk hcd S len fun A outer s H vs Q E h1 h2 => hbody cdv A outer s H vs Q E rfl h1 h2
def BdyC (P : Program) (w : World) (K : PySem.W.Frag) (mg : Str → Option Value) (base : Heap) (N : List Str) (qual : Str) (st : Stmt) (f : Addr) (k : Nat) (fb : SM) : Prop :=
  ∀ (cdv : Value) (A : Around) (outer : List PySem.Env) (s : Shared) (H : Hp) (E : XK), (fdOf K f).code = cdv → RmG k (A.deeper (envOfC qual (defScope st) s.heap.objs.size f cdv)) →
    Takes (cxOf (L2.CX P w) P w K mg base N qual (defScope st) f cdv A outer s H E) (fun cls d _ H => E cls d H) →
    PassesOwn (model P w) (cxOf (L2.CX P w) P w K mg base N qual (defScope st) f cdv A outer s H E).A (cxOf (L2.CX P w) P w K mg base N qual (defScope st) f cdv A outer s H E).env (cxOf (L2.CX P w) P w K mg base N qual (defScope st) f cdv A outer s H E).xe →
    DSs (cxOf (L2.CX P w) P w K mg base N qual (defScope st) f cdv A outer s H E) (fun cls d _ H => E cls d H) (defBody st) fb
theorem fn_bodyC (pin : Option Nat) (F : Fg K x qual st f (fdOf K f)) (S : FnScope N ps (defScope st)) (hn : ps.length ≤ N.length) (hb : BdyC P w K mg base N qual st f k fb) :
    FnG P w K mg base (k + 1) f (fdOf K f) ps (spD ⟨K, w, mg⟩ pin ps.length (runF pin N.length ps.length fb)) := by
  refine fun_okC F S (fun vs H Q E h => h.1) fun cdv A outer s H vs Q E hcd hr hsp => ?_
  refine ⟨_, hb cdv A outer s H E hcd hr (takes_of rfl rfl rfl rfl) (passes_of rfl), ?_⟩
  obtain ⟨hlen, O, ds, hl, ha, hp⟩ := hsp
  unfold runF at hp
  have hld : ds.length = ps.length := by rw [← ha.len]; exact hlen
  rw [if_pos hld] at hp
  have st0 := args_stt (N := N) ha hl (by omega)
  refine ⟨_, _, O, st0, ?_⟩
  cases hf : fb (initE pin N.length ds) with
  | nx ρ' =>
    rw [hf] at hp
    simp only at hp
    split at hp
    · rename_i io hio
      exact fun σ' H' O' st' e' => hp .non H' O' (fin_of (N := N) ha st' e' hio) .non
    · exact hp.elim
  | rt d ρ' =>
    rw [hf] at hp
    simp only at hp
    split at hp
    · rename_i io hio
      exact fun v σ' H' O' st' e' hr => hp v H' O' (fin_of (N := N) ha st' e' hio) hr
    · exact hp.elim
  | bk ρ' => rw [hf] at hp; exact hp.elim
  | ct ρ' => rw [hf] at hp; exact hp.elim
  | ex x fs ρ' =>
    rw [hf] at hp
    simp only at hp
    split at hp
    · rename_i io hio
      exact fun dd σ' H' O' st' e' hr => hp dd H' O' (fin_of (N := N) ha st' e' hio) hr
    · exact hp.elim
  | rf d ρ' =>
    rw [hf] at hp
    simp only at hp
    split at hp
    · rename_i io hio
      intro p o σ' H' O' st' e' ho hm hfr hF hr
      obtain ⟨O2, s2, e2, r2⟩ := st'.thaw ho hfr hF hr
      exact hp _ H' O2 (fin_of (N := N) ha s2 (e'.trans e2) hio) r2
    · exact hp.elim
  | bad => rw [hf] at hp; exact hp.elim
end
end Pu
namespace Pu
open PySem PySem.Spec PyProof.Rows L2 My
variable [Tbs] [Nls]
open LamX (TabB Tabs CodeO LamS lamCx lamEnv ExtN)
def LamF (K : PySem.W.Frag) (mg : Str → Option Value) (base : Heap) (x : Str) : Prop :=
  ∃ lc0 P0 : Addr, TabB base mg lc0 P0 ∧ (fdOf K (My.fa mg x)).code = .ref lc0 ∧ (P0, (x ++ ".<locals>.") ++ "<lambda>") ∈ Tbs.T ∧ ∀ p ∈ Tbs.T, p.1 = P0 → p.2 = (x ++ ".<locals>.") ++ "<lambda>"
section
variable {X : Cx} {W : WX}
theorem de_metL {y x aN : Str} {st : Stmt} {n k5 m : Nat} {NG : List Str} {h0 : ExceptHandler} {hds : List ExceptHandler} {cl : List (Str × Nat × GXs)} {ca : Str → Str → Option Bool} {p1 p2 p3 p4 p5 p6 : Pos}
    {prm : Arguments} {bd : Expr} {sc : Scope} {f : M Rv} {p lpos pos : Pos} (L : LamF X.K X.mg X.base y) (hcd : (fdOf X.K (My.fa X.mg y)).code = X.env.code) (hq : X.env.qual = y ++ ".<locals>.")
    (Dx : Dg X.K X.mg x st) (hB : Binds X.K (fdOf X.K (My.fa X.mg x)) [aN] []) (Sg : FnScope NG [aN] (defScope st))
    (hbd : defBody st = [.Try [.Expr (.Call (.Name aN p1) [] [] p2) p3] (h0 :: hds) [] [] p4, .Return (some (.Tuple [] k5 p5)) p6])
    (hn : NG.length = m) (h0s : ∀ lf : Addr, (L2.start NG [V.ref lf])[0]? = some (some (V.ref lf))) (hNg : NG[0]? = some aN) (hva : Vis (defScope st) aN)
    (hca : ∀ x y b, ca x y = some b → PySem.W.exmOne X.K (.ref ((bs X).cls x)) (.ref ((bs X).cls y)) = some b)
    (ck : ∀ (cdG : Value) (s : Shared) (H : Hp), RmG 0 (X.A.deeper (envOfC x (defScope st) s.heap.objs.size (My.fa X.mg x) cdG)) → ∃ l, ClD (cxOf C8.CX0 X.prog X.w X.K X.mg X.base NG x (defScope st) (My.fa X.mg x) cdG X.A X.stack s H C8.E0).nox noW (h0 :: hds) cl l)
    (hr : RmG (n + 2) X.A) (hL : LamS X.env.scope sc)
    (hbody : ∀ (A1 : Around) (out1 : List PySem.Env) (s1 : Shared) (G1 : Hp) (E : XK) (lf lc : Addr), RmG n (A1.deeper (lamEnv X sc s1.heap.objs.size lf lc)) → DE (lamCx X A1 out1 s1 G1 E sc lf lc) (fun cls d _ G => E cls d G) bd f)
    (hg : Gl X x := by rfl) (hdef : defaultsOf prm X.env = ([], []) := by rfl)
    (hbind : ∀ (q : Str) (cl : List (Str × Addr)) (pm cv ctv : Value), bindArgs (PySem.W.kla_fn "<lambda>" q prm bd sc cl pm cv ctv) ⟨[], []⟩ = pure [] := by intro _ _ _ _ _; rfl)
    (hdb : (x == ("__debug__" : Str)) = false := by decide) (d1 : (aN == ("__debug__" : Str)) = false := by decide) (d2 : (aN == ("__classdict__" : Str)) = false := by decide) :
    DE X W (.Call (.Name x p) [.Lambda prm bd sc lpos] [] pos) (dMet ca m cl f) := by
  obtain ⟨lc0, P0, TB, hc, hm, hu⟩ := L
  rw [hcd] at hc
  rw [← hq] at hm hu
  exact de_met Dx hB Sg hbd hn h0s hNg hva hca ck TB hc hm hu hr hL hbody hg hdef hbind hdb d1 d2
end
end Pu
namespace My
open PySem PySem.Spec PyProof.Rows L2
section plain
end plain
section table
end table
section
variable {P : Program} {w : World} {A : Around} {E : Value → Shared → Prop} {s : Shared}
end
section
variable {X : Cx}
end
end My
namespace Pu
open PySem PySem.Spec PyProof.Rows L2 My
variable [Tbs] [Nls]
section
variable {X : Cx} {W : WX} {e : Expr} {fa : M Rv} {p pos p2 pos2 : Pos}
end
end Pu
namespace Pu
open PySem PySem.Spec PyProof.Rows L2 My
variable [Tbs] [Nls]
section
variable {X : Cx} {pins : List (Addr × Obj)} {σ : L2.St} {H G : Hp} {s : Shared}
mutual
theorem nk_is (I : Inv X pins σ H s) (hG : Same G H) {v : V} : ∀ {d : D} {k : NestedKey} {u : Value}, Rep (bs X) G v d → nkD d = some k → RelV v u → NestedIs s.heap k u
  | _, _, u, .non, hk, hu => by
    cases hk
    rw [show u = Value.none from hu]
    exact .none
  | _, _, u, .bl b, hk, hu => by
    cases hk
    rw [show u = Value.bool b from hu]
    exact .bool rfl
  | _, _, u, .int i, hk, hu => by
    cases hk
    obtain ⟨t, rfl⟩ := hu
    exact .int _ _
  | _, _, u, .str z, hk, hu => by
    cases hk
    obtain ⟨t, rfl⟩ := hu
    exact .text _ _
  | _, _, u, .tup (a := a) sq r, hk, hu => by
    simp only [nkD, Option.map_eq_some_iff] at hk
    obtain ⟨ks, hk, rfl⟩ := hk
    rw [show u = Value.ref a from hu]
    obtain ⟨its, hv, ⟨o, h1, h2, n, h3⟩, _⟩ := I.tuple (sqT_mono hG.ext sq)
    exact .tup h1 h2 h3 (by simpa using nk_all I hG r hk hv)
  | _, _, _, .lst _ _, hk, _ => by cases hk
  | _, _, _, .dK _ _ _, hk, _ => by cases hk
  | _, _, _, .kd _ _ _, hk, _ => by cases hk
  | _, _, _, .dT _ _ _, hk, _ => by cases hk
  | _, _, _, .ins _ _ _, hk, _ => by cases hk
  | _, _, _, .scr _, hk, _ => by cases hk
  | _, _, _, .ty _, hk, _ => by cases hk
  | _, _, _, .cl _, hk, _ => by cases hk
  | _, _, _, .dN _ _ _ _ _ _, hk, _ => by cases hk
theorem nk_all (I : Inv X pins σ H s) (hG : Same G H) {vs : List V} : ∀ {ds : List D} {ks : List NestedKey} {us : List Value}, RepL (bs X) G vs ds → nkL ds = some ks → Vals vs us → NestedAll s.heap ks us
  | _, _, _, .nil, hk, hu => by
    cases hk
    cases hu
    exact .nil
  | _, _, _, .cons r rs, hk, hu => by
    cases hu with
    | cons hu hus =>
    simp only [nkL] at hk
    split at hk
    · rename_i k ks e1 e2
      cases hk
      exact .cons (nk_is I hG r e1 hu) (nk_all I hG rs e2 hus)
    · cases hk
end
end
structure NDat (B : Bs) (G H : Hp) (a : Addr) (xs : List (NestedKey × Addr × Value)) (vs : List V) (kvs : List (D × D)) : Prop where
  sm : Same G H
  ob : H a = some (NDo B.w a xs)
  k1 : kvs.map (fun p => nkD p.1) = xs.map (fun x => some x.1)
  k2 : ∀ x ∈ xs, x.1.depth ≤ 8
  r1 : RepL B G (xs.map fun x => V.ref x.2.1) (kvs.map (·.1))
  k3 : Vals vs (xs.map (·.2.2))
  r2 : RepL B G vs (kvs.map (·.2))
theorem Vw.dN {B : Bs} {H : Hp} {O : List Addr} {v : V} {kvs : List (D × D)} (h : Vw B H O v (.dN kvs)) : ∃ a xs vs, v = .ref a ∧ NDat B (hide H O) H a xs vs kvs := by
  rcases h with h | ⟨p, o, rfl, e, q⟩
  · cases h with
    | dN s k1 k2 r1 k3 r2 => exact ⟨_, _, _, rfl, hide_le H O, hide_le H O _ _ s, k1, k2, r1, k3, r2⟩
  · cases q with
    | dN k1 k2 r1 k3 r2 => exact ⟨_, _, _, rfl, hide_le H O, e, k1, k2, r1, k3, r2⟩
section
variable {X : Cx} {pins : List (Addr × Obj)} {σ : L2.St} {H G : Hp} {s : Shared} {a b : Addr} {xs : List (NestedKey × Addr × Value)} {vs : List V} {kvs : List (D × D)}
end
def ndGet (kvs : List (D × D)) (k : NestedKey) : Option D := (kvs.find? fun p => decide (nkD p.1 = some k)).map (·.2)
def isTp : D → Bool
  | .tup _ => true
  | _ => false
def keyN (d : D) : Option NestedKey := if isTp d = true then (match nkD d with | some k => if k.depth ≤ 8 then some k else none | none => none) else none
section
variable {X : Cx}
end
def inN : D → D → Option D := fun x y => match y with
  | .dN kvs => (keyN x).map fun k => .bl (ndGet kvs k).isSome
  | _ => none
def ixN : D → D → Option D := fun x y => match x with
  | .dN kvs => (keyN y).bind fun k => ndGet kvs k
  | _ => none
section
variable {X : Cx} {W : WX} {a b e : Expr} {fa fb : M Rv} {pos : Pos} {k : Nat}
end
section
variable {X : Cx} {W : WX} {x : Str} {i : Nat} {ps : Pos}
end
end Pu
namespace Pu
open PySem PySem.Spec PyProof.Rows L2 My
variable [Tbs] [Nls]
structure MC where
  pl : List V → Bool
  pk : List Key → Bool
  hl : List D → Bool
  lst : ∀ {B : Bs} {G : Hp} {xs : List V} {ds : List D}, RepL B G xs ds → hl ds = true → pl xs = false
  nl : ∀ ks, pk ks = true → Nls.nl ks = true
variable (C : MC)
def MC.ca : HO → Bool
  | .lst xs => C.pl xs
  | .dK kvs => C.pk (kvs.map (·.1))
  | _ => false
mutual
/-- data that hold nothing of these looks -/
def MC.sf : D → Bool
  | .lst ds => C.hl ds && MC.sfL ds
  | .tup ds => MC.sfL ds
  | .dK kvs => !C.pk (kvs.map (·.1)) && MC.sfK kvs
  | .kd kvs => MC.sfK kvs
  | .dT kvs => MC.sfT kvs
  | .ins _ fs => MC.sfF fs
  | .dN kvs => MC.sfN kvs
  | .scr _ => false
  | _ => true
def MC.sfL : List D → Bool
  | [] => true
  | d :: ds => MC.sf d && MC.sfL ds
def MC.sfK : List (Key × D) → Bool
  | [] => true
  | (_, d) :: ds => MC.sf d && MC.sfK ds
def MC.sfT : List (List Key × D) → Bool
  | [] => true
  | (_, d) :: ds => MC.sf d && MC.sfT ds
def MC.sfF : List (Str × D) → Bool
  | [] => true
  | (_, d) :: ds => MC.sf d && MC.sfF ds
def MC.sfN : List (D × D) → Bool
  | [] => true
  | (k, d) :: ds => MC.sf k && MC.sf d && MC.sfN ds
end
theorem MC.sfK_map : ∀ {kvs : List (Key × D)}, C.sfK kvs = C.sfL (kvs.map (·.2))
  | [] => by simp [MC.sfK, MC.sfL]
  | (_, d) :: ds => by rw [MC.sfK, List.map_cons, MC.sfL, MC.sfK_map]
theorem MC.sfT_map : ∀ {kvs : List (List Key × D)}, C.sfT kvs = C.sfL (kvs.map (·.2))
  | [] => by simp [MC.sfT, MC.sfL]
  | (_, d) :: ds => by rw [MC.sfT, List.map_cons, MC.sfL, MC.sfT_map]
theorem MC.sfF_map : ∀ {kvs : List (Str × D)}, C.sfF kvs = C.sfL (kvs.map (·.2))
  | [] => by simp [MC.sfF, MC.sfL]
  | (_, d) :: ds => by rw [MC.sfF, List.map_cons, MC.sfL, MC.sfF_map]
theorem MC.sfN_map : ∀ {kvs : List (D × D)}, C.sfN kvs = true → C.sfL (kvs.map (·.1)) = true ∧ C.sfL (kvs.map (·.2)) = true
  | [], _ => by simp [MC.sfL]
  | (_, d) :: ds, h => by
    simp only [MC.sfN, Bool.and_eq_true] at h
    obtain ⟨a, b⟩ := MC.sfN_map h.2
    simp only [List.map_cons, MC.sfL, Bool.and_eq_true]
    exact ⟨⟨h.1.1, a⟩, h.1.2, b⟩
def ExtM (G G' : Hp) : Prop := (∀ a o, G a = some o → isT o = false → C.ca o = false → G' a = some o ∨ (isDct o = true ∧ ∃ ob, G' a = some (.frz ob o))) ∧ (LamX.Tabs Tbs.T G → LamX.Tabs Tbs.T G')
section
variable {C} {G G' G1 G2 G3 : Hp} {B : Bs}
theorem Ext.m (e : Ext G G') : ExtM C G G' := ⟨fun a o h ht _ => e.1 a o h ht, e.2⟩
theorem ExtM.trans (a : ExtM C G1 G2) (b : ExtM C G2 G3) : ExtM C G1 G3 := ⟨fun p o h ht hc => by
  rcases a.1 p o h ht hc with h1 | ⟨hd, ob, h1⟩
  · exact b.1 p o h1 ht hc
  · rcases b.1 p _ h1 rfl rfl with h2 | ⟨z, _⟩
    · exact .inr ⟨hd, ob, h2⟩
    · exact (Bool.false_ne_true z).elim, fun t => b.2 (a.2 t)⟩
theorem ExtM.get {a : Addr} {o : HO} (e : ExtM C G G') (h : G a = some o) (hc : C.ca o = false := by rfl) (hd : isDct o = false := by rfl) (ht : isT o = false := by rfl) : G' a = some o := by
  rcases e.1 a o h ht hc with h | ⟨z, _⟩
  · exact h
  · rw [hd] at z; cases z
theorem ExtM.rd {a : Addr} {u : HO} (e : ExtM C G G') (h : Rd G a u) (hc : C.ca u = false := by rfl) (ht : isT u = false := by rfl) : Rd G' a u := h.elim (fun h => (e.1 _ _ h ht hc).elim .inl fun ⟨_, ob, q⟩ => .inr ⟨ob, q⟩) fun ⟨o, h⟩ => .inr ⟨o, e.get h⟩
theorem ExtM.rdK {a : Addr} {kvs : List (Key × V)} (e : ExtM C G G') (h : RdK G a kvs) (hc : C.pk (kvs.map (·.1)) = false) : RdK G' a kvs := by
  rcases h with h | ⟨hn, o, h⟩
  · rcases e.1 _ _ h rfl hc with h | ⟨hd, ob, q⟩
    · exact .inl h
    · exact .inr ⟨by simpa [isDct] using hd, ob, q⟩
  · exact .inr ⟨hn, o, e.get h⟩
mutual
theorem Rep.m (e : ExtM C G G') {v : V} : ∀ {d : D}, C.sf d = true → Rep B G v d → Rep B G' v d
  | _, _, .non => .non
  | _, _, .bl b => .bl b
  | _, _, .int i => .int i
  | _, _, .str s => .str s
  | _, h, .tup s r => .tup (s.imp (fun z => e.rd z) id) (RepL.m e (by simpa [MC.sf] using h) r)
  | _, h, .lst s r => by
    simp only [MC.sf, Bool.and_eq_true] at h
    exact .lst (e.get s (C.lst r h.1)) (RepL.m e h.2 r)
  | _, h, .dK s k r => by
    simp only [MC.sf, Bool.and_eq_true, Bool.not_eq_eq_eq_not, Bool.not_true] at h
    exact .dK (e.rdK s (by rw [k]; exact h.1)) k (RepL.m e (by rw [← C.sfK_map]; exact h.2) r)
  | _, h, .kd s k r => .kd s k (RepL.m e (by simpa [MC.sf, C.sfK_map] using h) r)
  | _, h, .dT s k r => .dT (e.rd s) k (RepL.m e (by simpa [MC.sf, C.sfT_map] using h) r)
  | _, h, .ins s k r => .ins (e.get s) k (RepL.m e (by simpa [MC.sf, C.sfF_map] using h) r)
  | _, h, .scr s => by simp [MC.sf] at h
  | _, _, .ty n => .ty n
  | _, _, .cl c => .cl c
  | _, h, .dN s k1 k2 r1 k3 r2 => .dN (e.get s) k1 k2 (RepL.m e (C.sfN_map (by simpa [MC.sf] using h)).1 r1) k3 (RepL.m e (C.sfN_map (by simpa [MC.sf] using h)).2 r2)
theorem RepL.m (e : ExtM C G G') {vs : List V} : ∀ {ds : List D}, C.sfL ds = true → RepL B G vs ds → RepL B G' vs ds
  | _, _, .nil => .nil
  | _, h, .cons q r => by
    simp only [MC.sfL, Bool.and_eq_true] at h
    exact .cons (Rep.m e h.1 q) (RepL.m e h.2 r)
end
end
def MC.sfO : D → Bool
  | .lst ds => C.sfL ds
  | .dK kvs => C.sfK kvs
  | d => C.sf d
def MC.sfX (x : Option (Kd × D)) : Bool := match x with
  | some (.val, d) => C.sf d
  | some (_, d) => C.sfO d
  | none => true
def MC.sfE (ρ : En) : Bool := ρ.all C.sfX
section
variable {C} {B : Bs} {c : Cst} {ρ : En} {σ : L2.St} {H H' : Hp} {O O' : List Addr} {G G' : Hp}
theorem RepO.m (e : ExtM C G G') {p : Addr} {o : HO} {d : D} (h : C.sfO d = true) (r : RepO B G p o d) : RepO B G' p o d := by
  cases r with
  | lst r => exact .lst (r.m e h)
  | dK k r => exact .dK k (r.m e (by rw [← C.sfK_map]; exact h))
  | dT k r => exact .dT k (r.m e (by simpa [MC.sfO, MC.sf, C.sfT_map] using h))
  | ins k r => exact .ins k (r.m e (by simpa [MC.sfO, MC.sf, C.sfF_map] using h))
  | dN k1 k2 r1 k3 r2 => exact .dN k1 k2 (r1.m e (C.sfN_map (by simpa [MC.sfO, MC.sf] using h)).1) k3 (r2.m e (C.sfN_map (by simpa [MC.sfO, MC.sf] using h)).2)
theorem MC.sfE_val {i : Nat} {d : D} (h : C.sfE ρ = true) (e : ρ[i]? = some (some (.val, d))) : C.sf d = true := List.all_eq_true.mp h _ (List.mem_of_getElem? e)
theorem MC.sfE_own {i : Nat} {k : Kd} {d : D} (h : C.sfE ρ = true) (e : ρ[i]? = some (some (k, d))) (hk : k ≠ .val) : C.sfO d = true := by
  have := List.all_eq_true.mp h _ (List.mem_of_getElem? e)
  cases k
  · exact absurd rfl hk
  · exact this
  · exact this
theorem Stt.m (st : Stt B c ρ σ H O) (hs : C.sfE ρ = true) (e : ExtM C (hide H O) (hide H' O')) (l : Liv H' O') (fr : ∀ q ∈ O, q ∈ O' ∧ H' q = H q) : Stt B c ρ σ H' O' := by
  refine ⟨st.len, fun i d h => ?_, fun i k d h hk => ?_, st.sep, st.pin, l, fun q hq => ?_⟩
  · obtain ⟨v, h1, h2⟩ := st.val i d h
    exact ⟨v, h1, h2.m e (C.sfE_val hs h)⟩
  · obtain ⟨p, o, h1, h2, h3, h4, h5⟩ := st.own i k d h hk
    obtain ⟨u1, u2⟩ := fr p h2
    exact ⟨p, o, h1, u1, h3, by rw [u2]; exact h4, h5.m e (C.sfE_own hs h hk)⟩
  · obtain ⟨u1, u2⟩ := st.frm q hq
    obtain ⟨w1, w2⟩ := fr q u1
    exact ⟨w1, by rw [w2]; exact u2⟩
end
def SPoM (B : Bs) (c : Cst) (W : WX) (E : Ends) (H : Hp) (O : List Addr) : SOut → Prop
  | .nx ρ' => ∀ σ' H' O', Stt B c ρ' σ' H' O' → ExtM C (hide H O) (hide H' O') → E.nx σ' H'
  | .rt d ρ' => ∀ v σ' H' O', Stt B c ρ' σ' H' O' → ExtM C (hide H O) (hide H' O') → Rep B (hide H' O') v d → E.rt v H'
  | .bk ρ' => ∀ σ' H' O', Stt B c ρ' σ' H' O' → ExtM C (hide H O) (hide H' O') → E.bk σ' H'
  | .ct ρ' => ∀ σ' H' O', Stt B c ρ' σ' H' O' → ExtM C (hide H O) (hide H' O') → E.ct σ' H'
  | .ex x fs ρ' => ∀ dd σ' H' O', Stt B c ρ' σ' H' O' → ExtM C (hide H O) (hide H' O') → ExAt B (hide H' O') fs dd → W (.ref (B.cls x)) dd σ' H'
  | .rf _ _ => False
  | .bad => False
def PoM {α : Type} (B : Bs) (c : Cst) (W : WX) (σ : L2.St) (H : Hp) (O : List Addr) (R : α → En → Hp → List Addr → Prop) : Out α → Prop
  | .ok a ρ' => ∀ H' O', Stt B c ρ' σ H' O' → ExtM C (hide H O) (hide H' O') → R a ρ' H' O'
  | .ex x fs ρ' => ∀ dd H' O', Stt B c ρ' σ H' O' → ExtM C (hide H O) (hide H' O') → ExAt B (hide H' O') fs dd → W (.ref (B.cls x)) dd σ H'
  | .bad => False
section
variable {C} {B : Bs} {c : Cst} {W : WX} {E : Ends} {H H1 : Hp} {O O1 : List Addr} {σ : L2.St}
theorem SPoM.mono {o : SOut} (h : SPoM C B c W E H O o) (e : ExtM C (hide H O) (hide H1 O1)) : SPoM C B c W E H1 O1 o := by
  cases o with
  | nx ρ' => exact fun σ' H' O' st e' => h σ' H' O' st (e.trans e')
  | rt d ρ' => exact fun v σ' H' O' st e' => h v σ' H' O' st (e.trans e')
  | bk ρ' => exact fun σ' H' O' st e' => h σ' H' O' st (e.trans e')
  | ct ρ' => exact fun σ' H' O' st e' => h σ' H' O' st (e.trans e')
  | ex x fs ρ' => exact fun dd σ' H' O' st e' => h dd σ' H' O' st (e.trans e')
  | rf d ρ' => exact h
  | bad => exact h
theorem PoM.mono {α : Type} {R R' : α → En → Hp → List Addr → Prop} {o : Out α} (h : PoM C B c W σ H O R o) (e : ExtM C (hide H O) (hide H1 O1)) (hR : ∀ a ρ' H' O', R a ρ' H' O' → R' a ρ' H' O') : PoM C B c W σ H1 O1 R' o := by
  cases o with
  | ok a ρ' => exact fun H' O' st e' => hR _ _ _ _ (h H' O' st (e.trans e'))
  | ex x fs ρ' => exact fun dd H' O' st e' xa => h dd H' O' st (e.trans e') xa
  | bad => exact h
end
section
variable {C} {X : Cx} {W : WX} {st : Stmt} {rest b1 b2 : List Stmt} {f g : SM} {e tg : Expr} {fa : M Rv} {ca : M Bool} {fi : M (List D)} {gt : TM} {ws : List Nat} {fb : SM} {pos : Pos}
end
end Pu
namespace Pu
open PySem PySem.Spec PyProof.Rows L2 My
variable [Tbs] [Nls]
section
variable {C : MC} {X : Cx} {W : WX} {e tg : Expr} {b1 : List Stmt} {fi : M Rv} {g : TM} {ws : List Nat} {fb : SM} {pos : Pos}
end
structure FinM (C : MC) (B : Bs) (pin : Option Nat) (vs : List V) (H : Hp) (O : List Addr) (io : D) (H' : Hp) (O' : List Addr) : Prop where
  liv : Liv H' O'
  same : ExtM C (hide H O) (hide H' O')
  frm : ∀ q ∈ O, (∀ j, pin = some j → vs[j]? ≠ some (.ref q)) → q ∈ O' ∧ H' q = H q
  own : ∀ j : Nat, pin = some j → ∃ p o, vs[j]? = some (.ref p) ∧ p ∈ O' ∧ H' p = some o ∧ RepO B (hide H' O') p o io
section
variable {C : MC} {B : Bs} {c : Cst} {ρ ρ' : En} {σ σ' : L2.St} {H H' : Hp} {O O' : List Addr} {pin : Option Nat} {vs : List V} {ds : List D}
end
section
variable {C : MC} {X : Cx} {W : WX} {o e : Expr} {es : List Expr} {fo : M Rv} {fs : M (List Rv)} {pos apos : Pos} {cn m : Str} {f : Addr} {fd : FuncData} {ps : List Str} {k : Nat} {pin : Option Nat} {fn : List D → FOut}
end
section
variable {C : MC} {P : Program} {w : World} {K : PySem.W.Frag} {mg : Str → Option Value} {base : Heap} {x qual : Str} {st : Stmt} {f : Addr} {fd : FuncData} {N ps : List Str} {k : Nat} {fb : SM}
open Classical in
noncomputable def MC.candL (C : MC) (G : Hp) (N : Nat) : List Addr := (List.range N).filter fun a => decide (∃ o, G a = some o ∧ C.ca o = true)
theorem MC.candL_in {G : Hp} {N : Nat} {a : Addr} (h : a ∈ C.candL G N) : ∃ o, G a = some o ∧ C.ca o = true := by
  unfold MC.candL at h
  simpa using (List.mem_filter.mp h).2
theorem MC.candL_all {G : Hp} {N : Nat} {a : Addr} {o : HO} (hN : ∀ a, N ≤ a → G a = none) (h : G a = some o) (hc : C.ca o = true) : a ∈ C.candL G N := by
  unfold MC.candL
  refine List.mem_filter.mpr ⟨?_, by simpa using ⟨o, h, hc⟩⟩
  rw [List.mem_range]
  rcases Nat.lt_or_ge a N with z | z
  · exact z
  · rw [hN a z] at h
    cases h
end
end Pu
namespace Pu
open PySem PySem.Spec PyProof.Rows L2 My
variable [Tbs] [Nls]
section
variable {X : Cx} {W : WX} {e o a : Expr} {x : Str} {i j : Nat} {ps pos apos p1 : Pos} {fo fa : En → Option D}
end
section
variable {C : MC} {B : Bs} {c : Cst} {ρ : En} {σ : L2.St} {H : Hp} {O : List Addr}
end
def MC.apK (C : MC) (x : D) : Bool := C.sf x || match x with
  | .lst ds => C.sfL ds
  | _ => false
section
variable {C : MC} {X : Cx} {W : WX} {x : Str} {i k : Nat} {ps pos pos' apos : Pos}
end
section
variable {X : Cx} {W : WX} {e : Expr} {es : List Expr} {fs : M (List Rv)} {p pos : Pos} {ps : List Str} {k : Nat} {fn : List D → FOut}
end
end Pu
namespace Pu
open PySem PySem.Spec PyProof.Rows L2 My
variable [Tbs] [Nls]
section
variable {X : Cx} {W : WX} {es ts : List Expr} {fs : M (List Src)} {pos p1 p2 : Pos} {k1 k2 : Nat}
theorem par_le4 {E : Ends} {σ : L2.St} {H : Hp} {is : List Nat} (h : tS (bs X) W (dPar is fs) E σ H) : tXs (bs X) W fs σ H fun vs H1 => vs.length = is.length ∧ ∀ t, H1 t = none → E.nx (putV σ is vs) (upd H1 t (.tup vs)) := by
  obtain ⟨c, ρ, O, st, q⟩ := h
  unfold dPar at q
  refine ⟨c, ρ, O, st, ?_⟩
  have q' := SPo.then (σ := σ) q
  cases hf : fs ρ with
  | bad => rw [hf] at q'; exact q'
  | ex x gs ρ1 => rw [hf] at q'; exact q'
  | ok ss ρ1 =>
    rw [hf] at q'
    intro H1 O1 st1 e1 vs ps hvs
    have q2 := q' H1 O1 st1 e1
    simp only at q2
    split at q2
    · rename_i ρ2 hp
      refine ⟨by rw [hvs.len, putS_len hp], fun t ht => ?_⟩
      have en : Same H1 (upd H1 t (.tup vs)) := Same.new ht
      exact q2 _ _ O1 ((putS_ok is st1 hvs hp).ext en) (same_hide en)
    · exact q2.elim
end
section
variable {X : Cx} {W : WX} {o e : Expr} {fo fa : M Rv} {apos cpos : Pos} {k : Nat}
end
section
variable {X : Cx} {W : WX} {a b : Expr} {fa fb : M Rv} {pos : Pos}
end
def pqK (ks : List Key) : Bool := decide (ks = [Sum.inr (Str.ofString "p"), Sum.inr (Str.ofString "q")])
end Pu
namespace Pu
open PySem PySem.Spec PyProof.Rows L2 My
variable [Tbs] [Nls]
section
variable {X : Cx} {W : WX} {tg a b : Expr} {fa fb : M Rv} {fs : M (List Rv)} {p pos : Pos}
def dListR (fa fb : M Rv) : M D := fun ρ => (fa ρ).bind fun r ρ1 => (fb ρ1).bind fun u ρ2 => match rd ρ2 r, rd ρ2 u with
  | some (.int i), some (.int j) => if -(2 ^ 62) ≤ i ∧ i < 2 ^ 62 ∧ -(2 ^ 62) ≤ j ∧ j < 2 ^ 62 ∧ (j - i).toNat ≤ 2 ^ 24 then .ok (.lst (rngD i (j - i).toNat)) ρ2 else .bad
  | _, _ => .bad
def rngC (lo c : Int) : Nat → List D
  | 0 => []
  | n + 1 => .int lo :: rngC (lo + c) c n
def rgN (i j c : Int) : Nat := (Builtin.Range.rangeSize i j c).toNat
def dRg3 (fs : M (List Rv)) : M (List D) := fun ρ => (fs ρ).bind fun rs ρ1 => match rds ρ1 rs with
  | some [.int i, .int j, .int c] => if c ≠ 0 ∧ c.natAbs < 1073741824 ∧ Builtin.Range.small i j c = true ∧ 0 ≤ Builtin.Range.rangeSize i j c then .ok (rngC i c (rgN i j c)) ρ1 else .bad
  | _ => .bad
end
@[simp] theorem dListR_e (fa fb : M Rv) (x0 : Option (Kd × D)) (ρ : En) : dListR fa fb (x0 :: ρ) = ((fa (x0 :: ρ)).bind fun r ρ1 => (fb ρ1).bind fun u ρ2 => match rd ρ2 r, rd ρ2 u with
  | some (.int i), some (.int j) => if -(2 ^ 62) ≤ i ∧ i < 2 ^ 62 ∧ -(2 ^ 62) ≤ j ∧ j < 2 ^ 62 ∧ (j - i).toNat ≤ 2 ^ 24 then .ok (.lst (rngD i (j - i).toNat)) ρ2 else .bad
  | _, _ => .bad) := rfl
@[simp] theorem dRg3_e (fs : M (List Rv)) (x0 : Option (Kd × D)) (ρ : En) : dRg3 fs (x0 :: ρ) = ((fs (x0 :: ρ)).bind fun rs ρ1 => match rds ρ1 rs with
  | some [.int i, .int j, .int c] => if c ≠ 0 ∧ c.natAbs < 1073741824 ∧ Builtin.Range.small i j c = true ∧ 0 ≤ Builtin.Range.rangeSize i j c then .ok (rngC i c (rgN i j c)) ρ1 else .bad
  | _ => .bad) := rfl
end Pu
namespace Pu
open PySem PySem.Spec PyProof.Rows L2 My
variable [Tbs] [Nls]
section
variable {X : Cx} {W : WX} {i : Nat} {a : Addr} {cls : Value} {d : Option Addr} {oe : Obj} {pn : List (Addr × Obj)} {e : Expr} {g : GX} {pos : Pos}
end
end Pu
namespace Pu
open PySem PySem.Spec PyProof.Rows L2 My
variable [Tbs] [Nls]
section
variable {X : Cx} {W : WX} {es ts : List Expr} {fs : M (List Src)} {pos p1 p2 : Pos} {k1 k2 : Nat}
theorem ds_par2g {i j : Nat} (hg : PG X (.Tuple ts k1 p1) (L2.gTup X.K 2 (L2.gCons (L2.gName i) (L2.gCons (L2.gName j) L2.gNil)))) (hx : DX X W es fs)
    (hs : swapsWithSole [(.Tuple ts k1 p1)] (.Tuple es k2 p2) pos.line X.env = pure false := by rfl) (hw : swappedStores [(.Tuple ts k1 p1)] (.Tuple es k2 p2) X.env = pure none := by rfl)
    (h1 : (assignEach [(.Tuple ts k1 p1)] X.env).map (·.2) = [assign (.Tuple ts k1 p1) X.env] := by rfl) :
    DS X W (.Assign [.Tuple ts k1 p1] (.Tuple es k2 p2) pos) (dPar [i, j] fs) := PS.le (ps_asg (pe_tup hx) hg hs hw h1) fun E σ H q => by
  obtain ⟨c, ρ, O, st, q⟩ := par_le4 q
  refine ⟨c, ρ, O, st, Po.mono q (.refl _) fun ss ρ' H' O' z vs ps hv => ?_⟩
  obtain ⟨h1, h2⟩ := z vs ps hv
  refine ⟨by rw [h1, sizeLine_eq]; show 2 ≤ 16777216; decide, fun t ht => ⟨t, vs, rfl, .inl (.inl upd_same), h1, ?_⟩⟩
  match vs, h1 with
  | [u, w], _ => exact ⟨u, _, rfl, w, _, rfl, rfl, h2 t ht⟩
end
end Pu
namespace Pu
open PySem PySem.Spec PyProof.Rows L2 My
variable [Tbs] [Nls]
@[simp] theorem nl0 (x : List Key) : @Nls.nl nls0 x = false := rfl
@[simp] theorem dC_e (d : D) (x0 : Option (Kd × D)) (ρ : En) : dC d (x0 :: ρ) = (.ok (.val d) (x0 :: ρ)) := rfl
@[simp] theorem dVar_e (i : Nat) (x0 : Option (Kd × D)) (ρ : En) : dVar i (x0 :: ρ) = (match (x0 :: ρ)[i]? with
  | some (some (k, d)) => .ok (rvOf i k d) (x0 :: ρ)
  | _ => .bad) := rfl
@[simp] theorem d1_e (g : D → Option D) (fa : M Rv) (x0 : Option (Kd × D)) (ρ : En) : d1 g fa (x0 :: ρ) = ((fa (x0 :: ρ)).bind fun a ρ1 => match rd ρ1 a with
  | some x => out ρ1 (g x)
  | none => .bad) := rfl
@[simp] theorem d2_e (g : D → D → Option D) (fa fb : M Rv) (x0 : Option (Kd × D)) (ρ : En) : d2 g fa fb (x0 :: ρ) = ((fa (x0 :: ρ)).bind fun a ρ1 => (fb ρ1).bind fun b ρ2 => match rd ρ2 a, rd ρ2 b with
  | some x, some y => out ρ2 (g x y)
  | _, _ => .bad) := rfl
@[simp] theorem dN_e (g : List D → Option D) (fa : M (List Rv)) (x0 : Option (Kd × D)) (ρ : En) : dN g fa (x0 :: ρ) = ((fa (x0 :: ρ)).bind fun rs ρ1 => match rds ρ1 rs with
  | some ds => out ρ1 (g ds)
  | none => .bad) := rfl
@[simp] theorem dNil_e  (x0 : Option (Kd × D)) (ρ : En) : dNil  (x0 :: ρ) = (.ok [] (x0 :: ρ)) := rfl
@[simp] theorem dCons_e (fa : M Rv) (fs : M (List Rv)) (x0 : Option (Kd × D)) (ρ : En) : dCons fa fs (x0 :: ρ) = ((fa (x0 :: ρ)).bind fun a ρ1 => (fs ρ1).bind fun as ρ2 => .ok (a :: as) ρ2) := rfl
@[simp] theorem dTup_e (fa : M (List Rv)) (x0 : Option (Kd × D)) (ρ : En) : dTup fa (x0 :: ρ) = ((fa (x0 :: ρ)).bind fun rs ρ1 => match escs ρ1 rs with
  | some (ds, ρ2) => if ds.length ≤ sizeLine then .ok (.val (.tup ds)) ρ2 else .bad
  | none => .bad) := rfl
@[simp] theorem dLst_e (fa : M (List Rv)) (x0 : Option (Kd × D)) (ρ : En) : dLst fa (x0 :: ρ) = ((fa (x0 :: ρ)).bind fun rs ρ1 => match escs ρ1 rs with
  | some (ds, ρ2) => if ds.length ≤ sizeLine then .ok (.val (.lst ds)) ρ2 else .bad
  | none => .bad) := rfl
@[simp] theorem dFr_e (f : M D) (x0 : Option (Kd × D)) (ρ : En) : dFr f (x0 :: ρ) = ((f (x0 :: ρ)).bind fun d ρ1 => .ok (.val d) ρ1) := rfl
@[simp] theorem dLstF_e (fa : M (List Rv)) (x0 : Option (Kd × D)) (ρ : En) : dLstF fa (x0 :: ρ) = ((fa (x0 :: ρ)).bind fun rs ρ1 => match escs ρ1 rs with
  | some (ds, ρ2) => if ds.length ≤ sizeLine then .ok (.lst ds) ρ2 else .bad
  | none => .bad) := rfl
@[simp] theorem dTru_e (fa : M Rv) (x0 : Option (Kd × D)) (ρ : En) : dTru fa (x0 :: ρ) = ((fa (x0 :: ρ)).bind fun a ρ1 => match rd ρ1 a with
  | some d => outB ρ1 (truD d)
  | none => .bad) := rfl
@[simp] theorem dB_e (fa : M Rv) (x0 : Option (Kd × D)) (ρ : En) : dB fa (x0 :: ρ) = ((fa (x0 :: ρ)).bind fun a ρ1 => match rd ρ1 a with
  | some d => outB ρ1 (bD d)
  | none => .bad) := rfl
@[simp] theorem dAnd_e (c1 c2 : M Bool) (x0 : Option (Kd × D)) (ρ : En) : dAnd c1 c2 (x0 :: ρ) = ((c1 (x0 :: ρ)).bind fun b ρ1 => if b = true then c2 ρ1 else .ok false ρ1) := rfl
@[simp] theorem dOr_e (c1 c2 : M Bool) (x0 : Option (Kd × D)) (ρ : En) : dOr c1 c2 (x0 :: ρ) = ((c1 (x0 :: ρ)).bind fun b ρ1 => if b = true then .ok true ρ1 else c2 ρ1) := rfl
@[simp] theorem dNot_e (c1 : M Bool) (x0 : Option (Kd × D)) (ρ : En) : dNot c1 (x0 :: ρ) = ((c1 (x0 :: ρ)).bind fun b ρ1 => .ok (!b) ρ1) := rfl
@[simp] theorem dAndV_e (fa fb : M Rv) (x0 : Option (Kd × D)) (ρ : En) : dAndV fa fb (x0 :: ρ) = ((fa (x0 :: ρ)).bind fun a ρ1 => match rd ρ1 a with
  | some (.bl true) => fb ρ1
  | some (.bl false) => .ok (.val (.bl false)) ρ1
  | _ => .bad) := rfl
@[simp] theorem dOrV_e (fa fb : M Rv) (x0 : Option (Kd × D)) (ρ : En) : dOrV fa fb (x0 :: ρ) = ((fa (x0 :: ρ)).bind fun a ρ1 => match rd ρ1 a with
  | some (.bl true) => .ok (.val (.bl true)) ρ1
  | some (.bl false) => fb ρ1
  | _ => .bad) := rfl
@[simp] theorem dIfE_e (c : M Bool) (fa fb : M Rv) (x0 : Option (Kd × D)) (ρ : En) : dIfE c fa fb (x0 :: ρ) = ((c (x0 :: ρ)).bind fun b ρ1 => if b = true then fa ρ1 else fb ρ1) := rfl
@[simp] theorem dNx_e  (x0 : Option (Kd × D)) (ρ : En) : dNx  (x0 :: ρ) = (.nx (x0 :: ρ)) := rfl
@[simp] theorem dSeq_e (f g : SM) (x0 : Option (Kd × D)) (ρ : En) : dSeq f g (x0 :: ρ) = (match f (x0 :: ρ) with
  | .nx ρ1 => g ρ1
  | o => o) := rfl
@[simp] theorem dIf_e (c : M Bool) (f g : SM) (x0 : Option (Kd × D)) (ρ : En) : dIf c f g (x0 :: ρ) = ((c (x0 :: ρ)).then fun b ρ1 => if b = true then f ρ1 else g ρ1) := rfl
@[simp] theorem dDrop_e (fa : M Rv) (x0 : Option (Kd × D)) (ρ : En) : dDrop fa (x0 :: ρ) = ((fa (x0 :: ρ)).then fun _ ρ1 => .nx ρ1) := rfl
@[simp] theorem dRet_e (fa : M Rv) (x0 : Option (Kd × D)) (ρ : En) : dRet fa (x0 :: ρ) = ((fa (x0 :: ρ)).then fun r ρ1 => match esc ρ1 r with
  | some (d, ρ2) => .rt d ρ2
  | none => .bad) := rfl
@[simp] theorem dRetN_e  (x0 : Option (Kd × D)) (ρ : En) : dRetN  (x0 :: ρ) = (.rt .non (x0 :: ρ)) := rfl
@[simp] theorem dBk_e  (x0 : Option (Kd × D)) (ρ : En) : dBk  (x0 :: ρ) = (.bk (x0 :: ρ)) := rfl
@[simp] theorem dCt_e  (x0 : Option (Kd × D)) (ρ : En) : dCt  (x0 :: ρ) = (.ct (x0 :: ρ)) := rfl
@[simp] theorem dRetO_e (i : Nat) (x0 : Option (Kd × D)) (ρ : En) : dRetO i (x0 :: ρ) = (match (x0 :: ρ)[i]? with
  | some (some (.own, d)) => .rf d ((x0 :: ρ).set i none)
  | _ => .bad) := rfl
@[simp] theorem dRetF_e (f : M D) (x0 : Option (Kd × D)) (ρ : En) : dRetF f (x0 :: ρ) = ((f (x0 :: ρ)).then fun d ρ1 => .rf d ρ1) := rfl
@[simp] theorem dAsg_e (fa : M Rv) (g : TM) (x0 : Option (Kd × D)) (ρ : En) : dAsg fa g (x0 :: ρ) = ((fa (x0 :: ρ)).then fun r ρ1 => match esc ρ1 r with
  | some (d, ρ2) => match g d ρ2 with
    | some ρ3 => .nx ρ3
    | none => .bad
  | none => .bad) := rfl
@[simp] theorem dSetO_e (i : Nat) (f : M D) (x0 : Option (Kd × D)) (ρ : En) : dSetO i f (x0 :: ρ) = ((f (x0 :: ρ)).then fun d ρ1 => .nx (ρ1.set i (some (.own, d)))) := rfl
@[simp] theorem dWhile_e (n : En → Nat) (c : M Bool) (body : SM) (x0 : Option (Kd × D)) (ρ : En) : dWhile n c body (x0 :: ρ) = (dWh c body (n (x0 :: ρ)) (x0 :: ρ)) := rfl
@[simp] theorem dFor_e (fi : M (List D)) (g : TM) (body : SM) (x0 : Option (Kd × D)) (ρ : En) : dFor fi g body (x0 :: ρ) = ((fi (x0 :: ρ)).then fun ds ρ1 => dForL g body ds ρ1) := rfl
@[simp] theorem dLc_e (fi : M (List D)) (g : TM) (ct : M Bool) (fe : M Rv) (vs : List Nat) (x0 : Option (Kd × D)) (ρ : En) : dLc fi g ct fe vs (x0 :: ρ) = ((fi (x0 :: ρ)).bind fun ds ρ1 => match dLcL g ct fe vs ds [] ρ1 with
  | .ok acc ρ2 => .ok (.lst acc) (wipeE ρ2 vs)
  | _ => .bad) := rfl
@[simp] theorem dYes_e  (x0 : Option (Kd × D)) (ρ : En) : dYes  (x0 :: ρ) = (.ok true (x0 :: ρ)) := rfl
@[simp] theorem dArgs_e (m : Nat) (dds : List D) (fa : M (List Rv)) (x0 : Option (Kd × D)) (ρ : En) : dArgs m dds fa (x0 :: ρ) = ((fa (x0 :: ρ)).bind fun rs ρ' => if rs.length + dds.length = m then .ok (rs ++ dds.map .val) ρ' else .bad) := rfl
@[simp] theorem dCall_e (t : Bool) (pin : Option Nat) (m : Nat) (dds : List D) (fn : List D → FOut) (fa : M (List Rv)) (x0 : Option (Kd × D)) (ρ : En) : dCall t pin m dds fn fa (x0 :: ρ) = ((dArgs m dds fa (x0 :: ρ)).bind fun rs ρ1 => if t = true then fcall pin fn rs ρ1 else noX (fcall pin fn rs ρ1)) := rfl
@[simp] theorem dCallF_e (t : Bool) (pin : Option Nat) (m : Nat) (dds : List D) (fn : List D → FOut) (fa : M (List Rv)) (x0 : Option (Kd × D)) (ρ : En) : dCallF t pin m dds fn fa (x0 :: ρ) = ((dArgs m dds fa (x0 :: ρ)).bind fun rs ρ1 => if t = true then fcallF pin fn rs ρ1 else noX (fcallF pin fn rs ρ1)) := rfl
@[simp] theorem dMeth_e (cn m : Str) (t : Bool) (pin : Option Nat) (n : Nat) (dds : List D) (fn : List D → FOut) (fo : M Rv) (fa : M (List Rv)) (x0 : Option (Kd × D)) (ρ : En) : dMeth cn m t pin n dds fn fo fa (x0 :: ρ) = ((fo (x0 :: ρ)).bind fun r ρ1 => if selfR cn m (rd ρ1 r) = true then
  (fa ρ1).bind fun rs ρ2 => if rs.length + dds.length = n then (if t = true then fcall pin fn (r :: (rs ++ dds.map .val)) ρ2 else noX (fcall pin fn (r :: (rs ++ dds.map .val)) ρ2)) else .bad else .bad) := rfl
@[simp] theorem dMake_e (cn : Str) (t : Bool) (m : Nat) (dds : List D) (fn : List D → FOut) (fa : M (List Rv)) (x0 : Option (Kd × D)) (ρ : En) : dMake cn t m dds fn fa (x0 :: ρ) = ((dArgs m dds fa (x0 :: ρ)).bind fun rs ρ1 => if t = true then fmake cn fn rs ρ1 else noX (fmake cn fn rs ρ1)) := rfl
@[simp] theorem dFld_e (cn f : Str) (i : Nat) (fv : M Rv) (x0 : Option (Kd × D)) (ρ : En) : dFld cn f i fv (x0 :: ρ) = ((fv (x0 :: ρ)).then fun r ρ1 => match esc ρ1 r with
  | some (d, ρ2) => match ρ2[i]? with
    | some (some (k, .ins c fs)) => if k ≠ .val ∧ c = cn ∧ fs.length < 1000 then .nx (ρ2.set i (some (k, .ins c (putFD f d fs)))) else .bad
    | _ => .bad
  | none => .bad) := rfl
@[simp] theorem dMut_e (i : Nat) (g : D → List D → Option (D × D)) (fs : M (List Rv)) (x0 : Option (Kd × D)) (ρ : En) : dMut i g fs (x0 :: ρ) = (match (x0 :: ρ)[i]? with
  | some (some (k0, d0)) => if k0 ≠ .val ∧ isLst d0 = true then (fs (x0 :: ρ)).bind fun rs ρ1 => match escs ρ1 rs with
    | some (ds, ρ2) => match ρ2[i]? with
      | some (some (k, d)) => if k ≠ .val then (match g d ds with
        | some (res, d') => .ok (.val res) (ρ2.set i (some (k, d')))
        | none => .bad) else .bad
      | _ => .bad
    | none => .bad else .bad
  | _ => .bad) := rfl
@[simp] theorem dPut_e (i : Nat) (fk fv : M Rv) (x0 : Option (Kd × D)) (ρ : En) : dPut i fk fv (x0 :: ρ) = ((fv (x0 :: ρ)).then fun rv ρ1 => match ρ1[i]? with
  | some (some (k1, _)) => if k1 ≠ .val then (fk ρ1).then fun rk ρ2 => match esc ρ2 rv with
    | some (dv, ρ3) => match rd ρ3 rk with
      | some dk => match keyD dk, ρ3[i]? with
        | some k, some (some (kd, .dK kvs)) => if kd ≠ .val ∧ kvs.length < sizeLine then .nx (ρ3.set i (some (kd, .dK (putD kvs k dv)))) else .bad
        | _, _ => .bad
      | none => .bad
    | none => .bad else .bad
  | _ => .bad) := rfl
@[simp] theorem dPutT_e (i : Nat) (fk : M (List Rv)) (fv : M Rv) (x0 : Option (Kd × D)) (ρ : En) : dPutT i fk fv (x0 :: ρ) = ((fv (x0 :: ρ)).then fun rv ρ1 => match ρ1[i]? with
  | some (some (k1, _)) => if k1 ≠ .val then (fk ρ1).then fun rk ρ2 => match esc ρ2 rv with
    | some (dv, ρ3) => match rds ρ3 rk with
      | some dks => match keysD dks, ρ3[i]? with
        | some k, some (some (kd, .dT kvs)) => if kd ≠ .val ∧ kvs.length < sizeLine ∧ rk.length ≤ sizeLine then .nx (ρ3.set i (some (kd, .dT (putD kvs k dv)))) else .bad
        | _, _ => .bad
      | none => .bad
    | none => .bad else .bad
  | _ => .bad) := rfl
@[simp] theorem dTk_e (g : List D → D → Option D) (fd : M Rv) (fk : M (List Rv)) (x0 : Option (Kd × D)) (ρ : En) : dTk g fd fk (x0 :: ρ) = ((fd (x0 :: ρ)).bind fun r ρ1 => (fk ρ1).bind fun rs ρ2 => match rd ρ2 r, rds ρ2 rs with
  | some d, some ks => if rs.length ≤ sizeLine then out ρ2 (g ks d) else .bad
  | _, _ => .bad) := rfl
@[simp] theorem dTkR_e (g : List D → D → Option D) (fk : M (List Rv)) (fd : M Rv) (x0 : Option (Kd × D)) (ρ : En) : dTkR g fk fd (x0 :: ρ) = ((fk (x0 :: ρ)).bind fun rs ρ1 => if rs.length ≤ sizeLine then (fd ρ1).bind fun r ρ2 => match rd ρ2 r, rds ρ2 rs with
  | some d, some ks => out ρ2 (g ks d)
  | _, _ => .bad else .bad) := rfl
@[simp] theorem dItA_e (fa : M Rv) (x0 : Option (Kd × D)) (ρ : En) : dItA fa (x0 :: ρ) = ((fa (x0 :: ρ)).bind fun r ρ1 => match esc ρ1 r with
  | some (d, ρ2) => match itD d with
    | some ds => .ok ds ρ2
    | none => .bad
  | none => .bad) := rfl
@[simp] theorem dRg1_e (fs : M (List Rv)) (x0 : Option (Kd × D)) (ρ : En) : dRg1 fs (x0 :: ρ) = ((fs (x0 :: ρ)).bind fun rs ρ1 => match rds ρ1 rs with
  | some [.int j] => if -(2 ^ 62) ≤ j ∧ j < 2 ^ 62 then .ok (rngD 0 j.toNat) ρ1 else .bad
  | _ => .bad) := rfl
@[simp] theorem dRg2_e (fs : M (List Rv)) (x0 : Option (Kd × D)) (ρ : En) : dRg2 fs (x0 :: ρ) = ((fs (x0 :: ρ)).bind fun rs ρ1 => match rds ρ1 rs with
  | some [.int i, .int j] => if -(2 ^ 62) ≤ i ∧ i < 2 ^ 62 ∧ -(2 ^ 62) ≤ j ∧ j < 2 ^ 62 then .ok (rngD i (j - i).toNat) ρ1 else .bad
  | _ => .bad) := rfl
@[simp] theorem dForO_e (i : Nat) (g : TM) (body : SM) (x0 : Option (Kd × D)) (ρ : En) : dForO i g body (x0 :: ρ) = (match (x0 :: ρ)[i]? with
  | some (some (.own, .lst ds)) => (dForP g body i ds.length ds.length ((x0 :: ρ).set i (some (.pin, .lst ds)))).mapE (unpin i)
  | some (some (.pin, .lst ds)) => dForP g body i ds.length ds.length (x0 :: ρ)
  | _ => .bad) := rfl
@[simp] theorem dLcP_e (i n : Nat) (g : TM) (ct : M Bool) (fe : M Rv) (vs : List Nat) (x0 : Option (Kd × D)) (ρ : En) : dLcP i n g ct fe vs (x0 :: ρ) = (match dLcPL g ct fe vs i n n [] (x0 :: ρ) with
  | .ok acc ρ2 => .ok (.lst acc) (wipeE ρ2 vs)
  | _ => .bad) := rfl
@[simp] theorem dLcO_e (i : Nat) (g : TM) (ct : M Bool) (fe : M Rv) (vs : List Nat) (x0 : Option (Kd × D)) (ρ : En) : dLcO i g ct fe vs (x0 :: ρ) = (match (x0 :: ρ)[i]? with
  | some (some (.own, .lst ds)) => (dLcP i ds.length g ct fe vs ((x0 :: ρ).set i (some (.pin, .lst ds)))).mapE (unpin i)
  | some (some (.pin, .lst ds)) => dLcP i ds.length g ct fe vs (x0 :: ρ)
  | _ => .bad) := rfl
@[simp] theorem xNil_e  (x0 : Option (Kd × D)) (ρ : En) : xNil  (x0 :: ρ) = (.ok [] (x0 :: ρ)) := rfl
@[simp] theorem xV_e (fa : M Rv) (fs : M (List Src)) (x0 : Option (Kd × D)) (ρ : En) : xV fa fs (x0 :: ρ) = ((fa (x0 :: ρ)).bind fun r ρ1 => match esc ρ1 r with
  | some (d, ρ2) => (fs ρ2).bind fun ss ρ3 => .ok (.v d :: ss) ρ3
  | none => .bad) := rfl
@[simp] theorem xO_e (ff : M D) (fs : M (List Src)) (x0 : Option (Kd × D)) (ρ : En) : xO ff fs (x0 :: ρ) = ((ff (x0 :: ρ)).bind fun d ρ1 => (fs ρ1).bind fun ss ρ2 => .ok (.o d :: ss) ρ2) := rfl
@[simp] theorem dPar_e (is : List Nat) (fs : M (List Src)) (x0 : Option (Kd × D)) (ρ : En) : dPar is fs (x0 :: ρ) = ((fs (x0 :: ρ)).then fun ss ρ1 => match putS ρ1 is ss with
  | some ρ2 => .nx ρ2
  | none => .bad) := rfl
@[simp] theorem dAug_e (i : Nat) (g : D → D → Option D) (fe : M Rv) (x0 : Option (Kd × D)) (ρ : En) : dAug i g fe (x0 :: ρ) = (match (x0 :: ρ)[i]? with
  | some (some (.val, d)) => (fe (x0 :: ρ)).then fun r ρ1 => match rd ρ1 r with
    | some y => match g d y with
      | some z => .nx (ρ1.set i (some (.val, z)))
      | none => .bad
    | none => .bad
  | _ => .bad) := rfl
@[simp] theorem dRaise_e (x : Str) (fn : List Str) (fs : M (List Rv)) (x0 : Option (Kd × D)) (ρ : En) : dRaise x fn fs (x0 :: ρ) = ((fs (x0 :: ρ)).then fun rs ρ1 => match escs ρ1 rs with
  | some (ds, ρ2) => if ds.length = fn.length ∧ ds.length ≤ 1000 ∧ fn ≠ [] then .ex x (fn.zip ds).reverse ρ2 else .bad
  | none => .bad) := rfl
@[simp] theorem dRaise0_e (x : Str) (x0 : Option (Kd × D)) (ρ : En) : dRaise0 x (x0 :: ρ) = (.ex x [] (x0 :: ρ)) := rfl
@[simp] theorem dChain_e (g1 g2 : Int → Int → Bool) (fa fb fc : M Rv) (x0 : Option (Kd × D)) (ρ : En) : dChain g1 g2 fa fb fc (x0 :: ρ) = ((fa (x0 :: ρ)).bind fun a ρ1 => (fb ρ1).bind fun b ρ2 => match rd ρ2 a, rd ρ2 b with
  | some (.int x), some (.int y) => if g1 x y = true then (fc ρ2).bind fun cc ρ3 => (match rd ρ3 cc with
      | some (.int z) => .ok (.val (.bl (g2 y z))) ρ3
      | _ => .bad) else .ok (.val (.bl false)) ρ2
  | _, _ => .bad) := rfl
@[simp] theorem dSrt_e (b : Bool) (fk : D → Option D) (fa : M Rv) (x0 : Option (Kd × D)) (ρ : En) : dSrt b fk fa (x0 :: ρ) = ((fa (x0 :: ρ)).bind fun r ρ1 => match esc ρ1 r with
  | some (d, ρ2) => match itS d with
    | some ds => match mapO fk ds with
      | some ks => if oneKd ks = true then .ok (.lst (srtD b ks ds)) ρ2 else .bad
      | none => .bad
    | none => .bad
  | none => .bad) := rfl
@[simp] theorem pNone_e  (x0 : Option (Kd × D)) (ρ : En) : pNone  (x0 :: ρ) = (.ok none (x0 :: ρ)) := rfl
@[simp] theorem pSome_e (fa : M Rv) (x0 : Option (Kd × D)) (ρ : En) : pSome fa (x0 :: ρ) = ((fa (x0 :: ρ)).bind fun r ρ1 => match rd ρ1 r with
  | some (.int i) => .ok (some i) ρ1
  | _ => .bad) := rfl
@[simp] theorem dSl_e (fa : M Rv) (fl fh : M (Option Int)) (x0 : Option (Kd × D)) (ρ : En) : dSl fa fl fh (x0 :: ρ) = ((fa (x0 :: ρ)).bind fun r ρ1 => (fl ρ1).bind fun lo ρ2 => (fh ρ2).bind fun hi ρ3 => match rd ρ3 r with
  | some d => out ρ3 (sliceD lo hi d)
  | none => .bad) := rfl
@[simp] theorem dSlF_e (fa : M Rv) (fl fh : M (Option Int)) (x0 : Option (Kd × D)) (ρ : En) : dSlF fa fl fh (x0 :: ρ) = ((fa (x0 :: ρ)).bind fun r ρ1 => (fl ρ1).bind fun lo ρ2 => (fh ρ2).bind fun hi ρ3 => match rd ρ3 r with
  | some d => match sliceF lo hi d with
    | some e => .ok e ρ3
    | none => .bad
  | none => .bad) := rfl
@[simp] theorem dListF_e (fa : M Rv) (x0 : Option (Kd × D)) (ρ : En) : dListF fa (x0 :: ρ) = ((fa (x0 :: ρ)).bind fun r ρ1 => match rd ρ1 r with
  | some d => match listFD d with
    | some xs => .ok (.lst xs) ρ1
    | none => .bad
  | none => .bad) := rfl
@[simp] theorem d2F_e (g : D → D → Option D) (fa fb : M Rv) (x0 : Option (Kd × D)) (ρ : En) : d2F g fa fb (x0 :: ρ) = ((fa (x0 :: ρ)).bind fun a ρ1 => (fb ρ1).bind fun b ρ2 => match rd ρ2 a, rd ρ2 b with
  | some x, some y => match g x y with
    | some d => .ok d ρ2
    | none => .bad
  | _, _ => .bad) := rfl
@[simp] theorem dNewK_e  (x0 : Option (Kd × D)) (ρ : En) : dNewK  (x0 :: ρ) = (.ok (.dK []) (x0 :: ρ)) := rfl
@[simp] theorem dNewT_e  (x0 : Option (Kd × D)) (ρ : En) : dNewT  (x0 :: ρ) = (.ok (.dT []) (x0 :: ρ)) := rfl
@[simp] theorem dGet1_e (fo fk : M Rv) (x0 : Option (Kd × D)) (ρ : En) : dGet1 fo fk (x0 :: ρ) = ((fo (x0 :: ρ)).bind fun r ρ1 => match rd ρ1 r with
  | some d0 => if isD1 d0 = true then (fk ρ1).bind fun k ρ2 => (match rd ρ2 r, rd ρ2 k with
    | some d, some y => out ρ2 (getD1 d y)
    | _, _ => .bad) else .bad
  | none => .bad) := rfl
@[simp] theorem dGet2_e (fo fk fx : M Rv) (x0 : Option (Kd × D)) (ρ : En) : dGet2 fo fk fx (x0 :: ρ) = ((fo (x0 :: ρ)).bind fun r ρ1 => match rd ρ1 r with
  | some d0 => if isD1 d0 = true then (fk ρ1).bind fun k ρ2 => (fx ρ2).bind fun x ρ3 => (match esc ρ3 x with
    | some (dx, ρ4) => match rd ρ4 r, rd ρ4 k with
      | some (.dK kvs), some y => match keyD y with
        | some kk => .ok (.val ((valD kvs kk).getD dx)) ρ4
        | none => .bad
      | _, _ => .bad
    | none => .bad) else .bad
  | none => .bad) := rfl
@[simp] theorem dDisp_e (fs : M (List Rv)) (x0 : Option (Kd × D)) (ρ : En) : dDisp fs (x0 :: ρ) = ((fs (x0 :: ρ)).bind fun rs ρ1 => match escs ρ1 rs with
  | some (ds, ρ2) => match pairsD ds with
    | some ps => if ps.length ≤ 15 then .ok (.dK (mergeD [] ps)) ρ2 else .bad
    | none => .bad
  | none => .bad) := rfl
@[simp] theorem dJoin_e (fo fa : M Rv) (x0 : Option (Kd × D)) (ρ : En) : dJoin fo fa (x0 :: ρ) = ((fo (x0 :: ρ)).bind fun r ρ1 => match rd ρ1 r with
  | some (.str a) => (fa ρ1).bind fun r2 ρ2 => match rd ρ2 r2 with
    | some d => out ρ2 (joinD a d)
    | none => .bad
  | _ => .bad) := rfl
@[simp] theorem dTupR_e (fa : M Rv) (x0 : Option (Kd × D)) (ρ : En) : dTupR fa (x0 :: ρ) = ((fa (x0 :: ρ)).bind fun r ρ1 => match rd ρ1 r with
  | some (.int n) => if -(2 ^ 62) ≤ n ∧ n ≤ 2 ^ 24 then .ok (.val (.tup (rngD 0 n.toNat))) ρ1 else .bad
  | _ => .bad) := rfl
@[simp] theorem dSrt0_e (fa : M Rv) (x0 : Option (Kd × D)) (ρ : En) : dSrt0 fa (x0 :: ρ) = ((fa (x0 :: ρ)).bind fun r ρ1 => match rd ρ1 r with
  | some (.lst ds) => if oneKd ds = true then .ok (.lst (SrtK.isort ltkD ds)) ρ1 else .bad
  | _ => .bad) := rfl
@[simp] theorem dCallX_e (t : Bool) (j m : Nat) (fn : List D → FOut) (fs : M (List Src)) (x0 : Option (Kd × D)) (ρ : En) : dCallX t j m fn fs (x0 :: ρ) = ((fs (x0 :: ρ)).bind fun ss ρ1 => if ss.length = m then (if t = true then fcallX j fn ss ρ1 else noX (fcallX j fn ss ρ1)) else .bad) := rfl
@[simp] theorem rd_u : type_of% @rd.eq_def := @rd.eq_def
@[simp] theorem esc_u : type_of% @esc.eq_def := @esc.eq_def
@[simp] theorem rvOf_u : type_of% @rvOf.eq_def := @rvOf.eq_def
@[simp] theorem bD_u : type_of% @bD.eq_def := @bD.eq_def
@[simp] theorem dT2_u : type_of% @dT2.eq_def := @dT2.eq_def
@[simp] theorem notD_u : type_of% @notD.eq_def := @notD.eq_def
@[simp] theorem gN_u : type_of% @gN.eq_def := @gN.eq_def
@[simp] theorem gsNil_u : type_of% @gsNil.eq_def := @gsNil.eq_def
@[simp] theorem gsCons_u : type_of% @gsCons.eq_def := @gsCons.eq_def
@[simp] theorem gT_u : type_of% @gT.eq_def := @gT.eq_def
@[simp] theorem dSet_u : type_of% @dSet.eq_def := @dSet.eq_def
@[simp] theorem kdAt_u : type_of% @kdAt.eq_def := @kdAt.eq_def
@[simp] theorem initE_u : type_of% @initE.eq_def := @initE.eq_def
@[simp] theorem ioE_u : type_of% @ioE.eq_def := @ioE.eq_def
@[simp] theorem pinR_u : type_of% @pinR.eq_def := @pinR.eq_def
@[simp] theorem putR_u : type_of% @putR.eq_def := @putR.eq_def
@[simp] theorem backR_u : type_of% @backR.eq_def := @backR.eq_def
@[simp] theorem fcall_u : type_of% @fcall.eq_def := @fcall.eq_def
@[simp] theorem fcallF_u : type_of% @fcallF.eq_def := @fcallF.eq_def
@[simp] theorem noX_u : type_of% @noX.eq_def := @noX.eq_def
@[simp] theorem selfR_u : type_of% @selfR.eq_def := @selfR.eq_def
@[simp] theorem fmake_u : type_of% @fmake.eq_def := @fmake.eq_def
@[simp] theorem addD_u : type_of% @addD.eq_def := @addD.eq_def
@[simp] theorem subD_u : type_of% @subD.eq_def := @subD.eq_def
@[simp] theorem fdivD_u : type_of% @fdivD.eq_def := @fdivD.eq_def
@[simp] theorem modD_u : type_of% @modD.eq_def := @modD.eq_def
@[simp] theorem negD_u : type_of% @negD.eq_def := @negD.eq_def
@[simp] theorem ltI_u : type_of% @ltI.eq_def := @ltI.eq_def
@[simp] theorem isN_u : type_of% @isN.eq_def := @isN.eq_def
@[simp] theorem keyD_u : type_of% @keyD.eq_def := @keyD.eq_def
@[simp] theorem fldC_u : type_of% @fldC.eq_def := @fldC.eq_def
@[simp] theorem one1_u : type_of% @one1.eq_def := @one1.eq_def
@[simp] theorem lenD_u : type_of% @lenD.eq_def := @lenD.eq_def
@[simp] theorem intD_u : type_of% @intD.eq_def := @intD.eq_def
@[simp] theorem absD_u : type_of% @absD.eq_def := @absD.eq_def
@[simp] theorem tupleD_u : type_of% @tupleD.eq_def := @tupleD.eq_def
@[simp] theorem tagD_u : type_of% @tagD.eq_def := @tagD.eq_def
@[simp] theorem isG_u : type_of% @isG.eq_def := @isG.eq_def
@[simp] theorem isLst_u : type_of% @isLst.eq_def := @isLst.eq_def
@[simp] theorem appD_u : type_of% @appD.eq_def := @appD.eq_def
@[simp] theorem clearD_u : type_of% @clearD.eq_def := @clearD.eq_def
@[simp] theorem itD_u : type_of% @itD.eq_def := @itD.eq_def
@[simp] theorem addI_u : type_of% @addI.eq_def := @addI.eq_def
@[simp] theorem subI_u : type_of% @subI.eq_def := @subI.eq_def
@[simp] theorem itS_u : type_of% @itS.eq_def := @itS.eq_def
@[simp] theorem listFD_u : type_of% @listFD.eq_def := @listFD.eq_def
@[simp] theorem isD1_u : type_of% @isD1.eq_def := @isD1.eq_def
@[simp] theorem getD1_u : type_of% @getD1.eq_def := @getD1.eq_def
@[simp] theorem joinD_u : type_of% @joinD.eq_def := @joinD.eq_def
@[simp] theorem seqD_u : type_of% @seqD.eq_def := @seqD.eq_def
@[simp] theorem maxDf_u : type_of% @maxDf.eq_def := @maxDf.eq_def
@[simp] theorem fcallX_u : type_of% @fcallX.eq_def := @fcallX.eq_def
@[simp] theorem runF_u : type_of% @runF.eq_def := @runF.eq_def
@[simp] theorem runFF_u : type_of% @runFF.eq_def := @runFF.eq_def
@[simp] theorem rds_u1 : type_of% @rds.eq_1 := @rds.eq_1
@[simp] theorem rds_u2 : type_of% @rds.eq_2 := @rds.eq_2
@[simp] theorem escs_u1 : type_of% @escs.eq_1 := @escs.eq_1
@[simp] theorem escs_u2 : type_of% @escs.eq_2 := @escs.eq_2
@[simp] theorem initAt_u1 : type_of% @initAt.eq_1 := @initAt.eq_1
@[simp] theorem initAt_u2 : type_of% @initAt.eq_2 := @initAt.eq_2
@[simp] theorem escJ_u1 : type_of% @escJ.eq_1 := @escJ.eq_1
@[simp] theorem escJ_u2 : type_of% @escJ.eq_2 := @escJ.eq_2
@[simp] theorem keysD_u1 : type_of% @keysD.eq_1 := @keysD.eq_1
@[simp] theorem keysD_u2 : type_of% @keysD.eq_2 := @keysD.eq_2
@[simp] theorem putFD_u1 : type_of% @putFD.eq_1 := @putFD.eq_1
@[simp] theorem putFD_u2 : type_of% @putFD.eq_2 := @putFD.eq_2
@[simp] theorem pairsD_u1 : type_of% @pairsD.eq_1 := @pairsD.eq_1
@[simp] theorem pairsD_u2 : type_of% @pairsD.eq_2 := @pairsD.eq_2
@[simp] theorem pairsD_u3 : type_of% @pairsD.eq_3 := @pairsD.eq_3
@[simp] theorem srcD_u1 : type_of% @srcD.eq_1 := @srcD.eq_1
@[simp] theorem srcD_u2 : type_of% @srcD.eq_2 := @srcD.eq_2
@[simp] theorem srcD_u3 : type_of% @srcD.eq_3 := @srcD.eq_3
@[simp] theorem wipeE_u1 : type_of% @wipeE.eq_1 := @wipeE.eq_1
@[simp] theorem wipeE_u2 : type_of% @wipeE.eq_2 := @wipeE.eq_2
@[simp] theorem dPairs_u1 : type_of% @dPairs.eq_1 := @dPairs.eq_1
@[simp] theorem dPairs_u2 : type_of% @dPairs.eq_2 := @dPairs.eq_2
@[simp] theorem putS_u1 : type_of% @putS.eq_1 := @putS.eq_1
@[simp] theorem putS_u2 : type_of% @putS.eq_2 := @putS.eq_2
@[simp] theorem putS_u3 : type_of% @putS.eq_3 := @putS.eq_3
@[simp] theorem putS_u4 : type_of% @putS.eq_4 := @putS.eq_4
theorem atI_nat {α : Type} (xs : List α) (i : Nat) : atI xs (i : Int) = xs[i]? := by
  unfold atI L2.ixN
  by_cases h : i < xs.length
  · have h0 : (0 : Int) ≤ i := Int.ofNat_nonneg i
    have h1 : (i : Int) < xs.length := by omega
    simp [h0, h1]
  · have h0 : (0 : Int) ≤ i := Int.ofNat_nonneg i
    have h1 : ¬ (i : Int) < xs.length := by omega
    rw [if_pos h0, if_neg h1]
    simp
    omega
theorem atI_pos {α : Type} (xs : List α) (i : Int) (h : 0 ≤ i) : atI xs i = xs[i.toNat]? := by
  obtain ⟨n, rfl⟩ : ∃ n : Nat, i = n := ⟨i.toNat, by omega⟩
  rw [atI_nat]
  rfl
theorem dWh_nx {c : M Bool} {b : SM} {k : Nat} {ρ ρ1 ρ2 : En} (hc : c ρ = .ok true ρ1) (hb : b ρ1 = .nx ρ2) : dWh c b (k + 1) ρ = dWh c b k ρ2 := by
  show (c ρ).then _ = _
  rw [hc]
  simp [hb]
theorem dWh_ct {c : M Bool} {b : SM} {k : Nat} {ρ ρ1 ρ2 : En} (hc : c ρ = .ok true ρ1) (hb : b ρ1 = .ct ρ2) : dWh c b (k + 1) ρ = dWh c b k ρ2 := by
  show (c ρ).then _ = _
  rw [hc]
  simp [hb]
theorem dWh_rt {c : M Bool} {b : SM} {k : Nat} {ρ ρ1 ρ2 : En} {d : D} (hc : c ρ = .ok true ρ1) (hb : b ρ1 = .rt d ρ2) : dWh c b (k + 1) ρ = .rt d ρ2 := by
  show (c ρ).then _ = _
  rw [hc]
  simp [hb]
theorem dWh_end {c : M Bool} {b : SM} {k : Nat} {ρ ρ1 : En} (hc : c ρ = .ok false ρ1) : dWh c b (k + 1) ρ = .nx ρ1 := by
  show (c ρ).then _ = _
  rw [hc]
  simp
end Pu
namespace Pu
open PySem PySem.Spec PyProof.Rows L2 My
variable [Tbs] [Nls]
section
variable {α : Type} (u w : α → D)
theorem lcL_all (i : Nat) (ρ0 : En) (fe : M Rv) : ∀ (as : List α) (acc : List D) (x : Option (Kd × D)), (∀ a ∈ as, fe (ρ0.set i (some (.val, u a))) = .ok (.val (w a)) (ρ0.set i (some (.val, u a)))) → acc.length + as.length ≤ sizeLine →
    ∃ y, dLcL (gN i) dYes fe [i] (as.map u) acc (ρ0.set i x) = .ok (acc ++ as.map w) (ρ0.set i y)
  | [], acc, x, _, _ => ⟨x, by simp [dLcL]⟩
  | a :: as, acc, x, h, hl => by
    have h1 := h a List.mem_cons_self
    obtain ⟨y, e⟩ := lcL_all i ρ0 fe as (acc ++ [w a]) (some (.val, u a)) (fun a' hd => h a' (List.mem_cons_of_mem _ hd)) (by simp at hl ⊢; omega)
    refine ⟨y, ?_⟩
    have hlt : acc.length < sizeLine := by simp at hl; omega
    rw [List.map_cons]
    unfold dLcL
    simp only [gN, wipeE, List.set_set, dYes, h1, esc, if_pos hlt, e]
    simp
theorem dLc_all {i : Nat} {fi : M (List D)} {fe : M Rv} {ρ ρ1 : En} (as : List α) (h1 : fi ρ = .ok (as.map u) ρ1) (h2 : ∀ a ∈ as, fe (ρ1.set i (some (.val, u a))) = .ok (.val (w a)) (ρ1.set i (some (.val, u a)))) (hl : as.length ≤ sizeLine) (hi : i < ρ1.length) :
    dLc fi (gN i) dYes fe [i] ρ = .ok (.lst (as.map w)) (ρ1.set i none) := by
  have e0 : ρ1 = ρ1.set i (ρ1[i]) := by simp
  obtain ⟨y, e⟩ := lcL_all u w i ρ1 fe as [] (ρ1[i]) h2 (by simpa using hl)
  rw [← e0] at e
  unfold dLc
  simp [h1, e, wipeE, List.set_set]
end
end Pu
namespace Pu
open PySem PySem.Spec PyProof.Rows L2 My
variable [Tbs] [Nls]
@[simp] theorem dIfT_e (fc fa fb : M Bool) (x0 : Option (Kd × D)) (ρ : En) : dIfT fc fa fb (x0 :: ρ) = ((fc (x0 :: ρ)).bind fun d ρ1 => if d = true then fa ρ1 else fb ρ1) := rfl
@[simp] theorem dApp_e (n m : Nat) (fa fb : M (List Rv)) (x0 : Option (Kd × D)) (ρ : En) : dApp n m fa fb (x0 :: ρ) = ((fa (x0 :: ρ)).bind fun as ρ1 => (fb ρ1).bind fun bs ρ2 => if as.length = n ∧ bs.length = m then .ok (as ++ bs) ρ2 else .bad) := rfl
@[simp] theorem dPutK2_e (i : Nat) (k1 k2 : Str) (fv : M (List Rv)) (x0 : Option (Kd × D)) (ρ : En) : dPutK2 i k1 k2 fv (x0 :: ρ) = ((fv (x0 :: ρ)).then fun rs ρ1 => match escs ρ1 rs with
  | some ([d1, d2], ρ2) => match ρ2[i]? with
    | some (some (kd, .dK kvs)) => if kd ≠ .val ∧ kvs.length + 1 < sizeLine then .nx (ρ2.set i (some (kd, .dK (putD (putD kvs (.inr k1) d1) (.inr k2) d2)))) else .bad
    | _ => .bad
  | _ => .bad) := rfl
end Pu
namespace Pu
open PySem PySem.Spec PyProof.Rows L2 My
variable [Tbs] [Nls]
section
variable {X : Cx} {W : WX} {o : Expr} {kes : List Expr} {fk : M (List Rv)} {fd : M Rv} {x1 k : Nat} {tpos apos cpos : Pos}
end
end Pu
namespace Pu
open PySem PySem.Spec PyProof.Rows L2 My
variable [Tbs] [Nls]
def EqU (K : PySem.W.Frag) (H : Hp) : Nat → V → V → Prop
  | 0 => fun _ _ => False
  | n + 1 => fun x y => (x = y ∧ flatB x = true) ∨ (∃ a b xs ys, x = .ref a ∧ y = .ref b ∧ SqT K H a xs ∧ SqT K H b ys ∧ Paired (EqU K H n) xs ys) ∨
      (∃ a b xs ys, x = .ref a ∧ y = .ref b ∧ SqL K H a xs ∧ SqL K H b ys ∧ Paired (EqU K H n) xs ys) ∨
      ∃ a b kvs, x = .ref a ∧ y = .ref b ∧ Rd H a (.dK kvs) ∧ Rd H b (.dK kvs) ∧ ∀ p ∈ kvs, flatB p.2 = true
section
variable {X : Cx} {pins : List (Addr × Obj)} {σ : L2.St} {H : Hp} {s : Shared}
theorem hits_flat {A : Around} {va vb : List (Key × Value)} (hn : (vb.map (·.1)).Nodup) : ∀ {kvs : List (Key × V)} {ra rb : List (Key × Value)}, KV kvs ra → KV kvs rb → (∀ p ∈ kvs, flatB p.2 = true) → (∀ p ∈ rb, p ∈ vb) → PySem.W.KeqHitsP X.prog X.w A s vb ra true
  | [], _, _, h1, _, _, _ => by
    cases h1
    exact .nil
  | p :: kvs, _, _, h1, h2, hf, hm => by
    cases h1 with
    | @cons _ q1 _ r1 g1 t1 =>
      cases h2 with
      | @cons _ q2 _ r2 g2 t2 =>
        obtain ⟨k1, v1⟩ := q1
        obtain ⟨k2, v2⟩ := q2
        obtain ⟨e1, w1⟩ := g1
        obtain ⟨e2, w2⟩ := g2
        simp only at e1 e2 w1 w2
        have hv : valueAt vb k1 = some v2 := by
          refine valueAt_of_mem hn ?_
          have := hm (k2, v2) List.mem_cons_self
          rw [← e1, e2]
          exact this
        have ih := hits_flat (A := A) (va := va) hn t1 t2 (fun p hp => hf p (List.mem_cons_of_mem _ hp)) fun p hp => hm p (List.mem_cons_of_mem _ hp)
        exact .hit (e := true) (b := true) hv (eqAt_same w1 w2 (hf _ List.mem_cons_self)).eqP ih
theorem rc_dicts (I : Inv X pins σ H s) {A : Around} (hu : A.units < cLine) {a b : Addr} {kvs : List (Key × V)} (ha : Rd H a (.dK kvs)) (hb : Rd H b (.dK kvs)) (hf : ∀ p ∈ kvs, flatB p.2 = true) (E Q : Value → Shared → Prop) (q : Q (.bool true) s) :
    wpAny (model X.prog X.w) A (richCompare .Eq (.ref a) (.ref b)) Q E s := by
  obtain ⟨_, ya, va, ra, da⟩ := dk_rd I.hok ha
  obtain ⟨_, yb, vb, rb, db⟩ := dk_rd I.hok hb
  have hl : va.length = vb.length := by rw [← ra.length, ← rb.length]
  have hn : (vb.map (·.1)).Nodup := by
    obtain ⟨_, _, _, _, _, _, _, _, h⟩ := db
    exact h
  refine PySem.W.rcP_dicts (knd := mixKind X.prog X.w) (r := true) ya yb da db hu (fun _ => hits_flat (va := va) hn ra rb hf fun p hp => hp) E Q ?_
  rw [hl]
  simpa using q
theorem eqU_run (I : Inv X pins σ H s) : ∀ (n : Nat) (A : Around), A.units + n < cLine → ∀ (x y : V) (v u : Value), EqU X.K H n x y → RelV x v → RelV y u → SeqAt.EqP X.prog X.w A s v u true
  | 0, _, _, _, _, _, _, h, _, _ => (show False from h).elim
  | n + 1, A, hu, x, y, v, u, h, rx, ry => by
    rcases h with ⟨rfl, f⟩ | h
    · exact (eqAt_same rx ry f).eqP
    · have hA : A.units < cLine := by omega
      have ih := eqU_run I n A.in1 (by show A.units + 1 + n < cLine; omega)
      have two : ∀ {a b : Addr}, v = .ref a → u = .ref b → (∀ (E Q : Value → Shared → Prop), Q (.bool true) s → wpAny (model X.prog X.w) A (richCompare .Eq (.ref a) (.ref b)) Q E s) → SeqAt.EqP X.prog X.w A s v u true := fun {a b} e1 e2 st => by
        subst e1 e2
        by_cases e : a = b
        · subst e
          exact (SeqAt.EqAt.same _).eqP
        · exact SeqAt.eqP_refs e st
      rcases h with ⟨a, b, xs, ys, rfl, rfl, ha, hb, hp⟩ | ⟨a, b, xs, ys, rfl, rfl, ha, hb, hp⟩ | ⟨a, b, kvs, rfl, rfl, ha, hb, hf⟩
      · exact two rx ry (rc_tups I hA ih ha hb hp)
      · exact two rx ry (rc_lsts I hA ih ha hb hp)
      · exact two rx ry (rc_dicts I hA ha hb hf)
end
def rNeU (K : PySem.W.Frag) : R2 := fun x y H Q => ∃ n a b xs ys, n ≤ 40 ∧ x = .ref a ∧ y = .ref b ∧ SqT K H a xs ∧ SqT K H b ys ∧ Paired (EqU K H n) xs ys ∧ Q (.bl false) H
theorem op_neU {X : Cx} (hu : X.A.units + 64 < cLine) : OpR X (compareOp .NotEq) (rNeU X.K) := by
  intro pins s σ H x y v u Q I rx ry h
  obtain ⟨n, a, b, xs, ys, hn, rfl, rfl, ha, hb, hp, q⟩ := h
  cases (show v = Value.ref a from rx)
  cases (show u = Value.ref b from ry)
  obtain ⟨us, r1, p1, _⟩ := I.tuple ha
  obtain ⟨ws, r2, p2, _⟩ := I.tuple hb
  have hsz : us.length = ws.length := by rw [← r1.length, ← r2.length]; exact Paired.length hp
  have ih := eqU_run I n X.A.in1 (by show X.A.units + 1 + n < cLine; omega)
  refine GQ.rc_tupNeG (by simpa using hsz) (by omega) (fun _ s' => s' = s) p1 p2 (fun i h1 h2 s' e => ?_) (fun s' e => ?_) rfl
  · subst e
    have k := items_run ih hp r1 r2 i (by simpa using h1) (by simpa using h2)
    refine k _ _ ?_
    exact ⟨rfl, rfl⟩
  · subst e
    exact ⟨.bl false, H, I, rfl, q⟩
def eqSU : Nat → D → D → Bool
  | 0, _, _ => false
  | n + 1, x, y => (scalD x y && sameS x y) || (match x, y with
    | .tup xs, .tup ys => all2 (eqSU n) xs ys
    | .lst xs, .lst ys => all2 (eqSU n) xs ys
    | .dK xs, .dK ys => decide (xs.map (·.1) = ys.map (·.1)) && all2 (fun p q => scalD p q && sameS p q) (xs.map (·.2)) (ys.map (·.2))
    | _, _ => false)
def neU (x y : D) : Option D := match neD x y with
  | some d => some d
  | none => match x, y with
    | .tup xs, .tup ys => if all2 (eqSU 40) xs ys = true then some (.bl false) else none
    | _, _ => none
theorem flats_eq {B : Bs} {H : Hp} : ∀ {vs us : List V} {xs ys : List D}, RepL B H vs xs → RepL B H us ys → all2 (fun p q => scalD p q && sameS p q) xs ys = true → vs = us ∧ ∀ v ∈ vs, flatB v = true
  | _, _, [], [], hx, hy, _ => by cases hx; cases hy; exact ⟨rfl, fun v hv => by cases hv⟩
  | _, _, x :: xs, y :: ys, hx, hy, h => by
    cases hx with
    | cons a as =>
      cases hy with
      | cons b bs =>
        have h := Bool.and_eq_true_iff.mp h
        obtain ⟨e1, e2⟩ := same_flat a b h.1
        obtain ⟨e3, e4⟩ := flats_eq as bs h.2
        exact ⟨by rw [e1, e3], fun v hv => by
          rcases List.mem_cons.mp hv with rfl | hv
          · exact e2
          · exact e4 v hv⟩
  | _, _, [], _ :: _, _, _, h => by cases h
  | _, _, _ :: _, [], _, _, h => by cases h
theorem eqSU_ok {B : Bs} {H : Hp} : ∀ (n : Nat) (v u : V) (x y : D), Rep B H v x → Rep B H u y → eqSU n x y = true → EqU B.K H n v u
  | 0, _, _, _, _, _, _, h => by cases h
  | n + 1, v, u, x, y, hx, hy, h => by
    unfold eqSU at h
    rw [Bool.or_eq_true] at h
    rcases h with h | h
    · exact .inl (same_flat hx hy h)
    · split at h
      · cases hx with
        | tup a1 a2 =>
          cases hy with
          | tup b1 b2 => exact .inr (.inl ⟨_, _, _, _, rfl, rfl, a1, b1, all2_paired (eqSU_ok n) a2 b2 h⟩)
      · cases hx with
        | lst a1 a2 =>
          cases hy with
          | lst b1 b2 => exact .inr (.inr (.inl ⟨_, _, _, _, rfl, rfl, .inl (.inl a1), .inl (.inl b1), all2_paired (eqSU_ok n) a2 b2 h⟩))
      · rw [Bool.and_eq_true, decide_eq_true_eq] at h
        cases hx with
        | @dK a ks ds h1 h2 h3 =>
          cases hy with
          | @dK b ls es g1 g2 g3 =>
            obtain ⟨e1, e2⟩ := flats_eq h3 g3 h.2
            have ek : ks.map (·.1) = ls.map (·.1) := by rw [h2, g2, h.1]
            have e : ks = ls := by
              have z1 : ks = (ks.map (·.1)).zip (ks.map (·.2)) := List.zip_of_prod rfl rfl
              have z2 : ls = (ls.map (·.1)).zip (ls.map (·.2)) := List.zip_of_prod rfl rfl
              rw [z1, z2, ek, e1]
            subst e
            exact .inr (.inr (.inr ⟨a, b, ks, rfl, rfl, h1.rd, g1.rd, fun p hp => e2 p.2 (List.mem_map_of_mem hp)⟩))
      · cases h
theorem opD_neU {B : Bs} : OpD B (fun x y H Q => (rNe x y H Q ∨ rNeD B.K x y H Q) ∨ rNeU B.K x y H Q) neU := by
  intro v u H O x y d Q hl hx hy hg hq
  unfold neU at hg
  split at hg
  · rename_i d' he
    cases hg
    exact .inl (opD_ne v u H O x y _ Q hl hx hy he hq)
  · split at hg
    · obtain ⟨h1, rfl⟩ := some_if hg
      have hx' := hx.full
      have hy' := hy.full
      cases hx' with
      | tup a1 a2 =>
        cases hy' with
        | tup b1 b2 => exact .inr ⟨40, _, _, _, _, Nat.le_refl _, rfl, rfl, a1, b1, all2_paired (eqSU_ok 40) a2 b2 h1, hq _ H (.refl _) (.bl _)⟩
    · cases hg
section
variable {X : Cx} {W : WX} {a b e : Expr} {fa fb : M Rv} {pos : Pos}
theorem dt_neU {k : Nat} (hr : RmG k X.A) (ha : DE X W a fa) (hb : DE X W b fb) : DT X W (.Compare a [.NotEq] [b] pos) (dT2 neU fa fb) := dt_2 (pt_cmpR ((op_ne.or (op_neD hr.u64)).or (op_neU hr.u64)) ha hb (nomark _)) opD_neU
end
end Pu
namespace GQ
open PySem PySem.SeqAt
open AutoSeq1 (wpAny_loadPart')
open MeetsSeq MeetsSeq2 MeetsSeq3 SeqRoads2
section
variable {prog : Program} {w : World} {A : Around} {R : Result → Shared → Prop}
end
section
variable {prog : Program} {w : World} {A : Around} {E : Value → Shared → Prop} {s : Shared}
end
end GQ
namespace Pu
open PySem PySem.Spec PyProof.Rows L2 My
variable [Tbs] [Nls]
section
variable {X : Cx} {pins : List (Addr × Obj)} {σ : L2.St} {H : Hp} {s : Shared}
end
section
variable {X : Cx} {W : WX} {a b : Expr} {fa fb : M Rv} {pos : Pos} {k : Nat} {f : Addr} {fd : FuncData} {ps : List Str} {sp : Sp} {C : Addr}
end
end Pu
namespace Pu
open PySem PySem.Spec PyProof.Rows L2 My
variable [Tbs] [Nls]
section
variable {X : Cx} {W : WX} {ok : Str → Bool} {i : Nat} {s : Stmt} {rest : List Stmt} {f g : SM} {t : TS}
end
end Pu
namespace Pu
open PySem PySem.Spec PyProof.Rows L2 My
variable [Tbs] [Nls]
def apK (d : D) (ρ1 : En) : SOut := match d with
  | .lst ds => if ds.length < sizeLine then .nx ρ1 else .bad
  | _ => .bad
def dAppT (f : M D) : SM := fun ρ => (f ρ).then apK
section
variable {X : Cx} {W : WX} {e : Expr} {w : Str} {k : Nat} {apos cpos p1 pos : Pos} {f : M D}
theorem ds_appT (hx : DF X W e f) (hbase : attributeBase e "append" X.env (eval e X.env) = eval e X.env := by rfl)
    (hfew : ((backTo cpos (starEach [.Constant (.str w) k p1] X.env)).all (fun x => !x.1) && (backToKw cpos (keywordEach [] X.env)).all (fun x => x.1.isSome)
      && decide (([.Constant (.str w) k p1] : List Expr).length + ([] : List Keyword).length + (if ([] : List Keyword).isEmpty then 0 else 1) < 30)) = true := by rfl)
    (hline : (apos.endLine == cpos.line) = true := by rfl) (hs : starEach [.Constant (.str w) k p1] X.env = (false, eval (.Constant (.str w) k p1) X.env) :: starEach [] X.env := by rfl) (hplain : (backTo cpos (starEach [] X.env)).any (·.1) = false := by rfl)
    (hsw : swapsWith (.Call (.Attribute e "append" apos) [.Constant (.str w) k p1] [] cpos) none pos.line X.env = pure false := by rfl) :
    DS X W (.Expr (.Call (.Attribute e "append" apos) [.Constant (.str w) k p1] [] cpos) pos) (dAppT f) :=
  PS.le (ps_expr (pe_bm PySem.F.plainAttrs_list PySem.F.slot_list_append PySem.F.type_list_append mt_append hx (pa_cons pe_str pa_nil hs) hbase hfew hline hs hplain) hsw) fun E σ H ⟨c, ρ, O, st, q⟩ => by
    unfold dAppT at q
    refine ⟨c, ρ, O, st, ?_⟩
    cases hf : f ρ with
    | ok d ρ1 =>
      rw [hf] at q
      intro H1 O1 st1 e1 p o hp hpO hfr hpF hro
      have q : SPo (bs X) c W E H O (apK d ρ1) := q
      unfold apK at q
      clear hf
      split at q
      · rename_i ds
        split at q
        · rename_i hl
          cases hro with
          | @lst xs _ rr =>
            refine ⟨.inl ⟨rfl, xs, .inl (.inl hp)⟩, p, xs, _, rfl, rfl, hp, by rw [rr.length]; exact hl, ?_⟩
            have s2 := st1.still hp hpO hfr
            obtain ⟨s3, _, _, he⟩ := s2.unstill (o := .lst (xs ++ [.str w])) (fun q hq => (st1.frm q hq).2) hpF
            refine q σ _ O1 s3 ?_
            rw [he]
            exact e1
        · exact q.elim
      · exact q.elim
    | ex x fs ρ1 =>
      rw [hf] at q
      exact fun dd H1 O1 st1 e1 xa => q dd σ H1 O1 st1 e1 xa
    | bad =>
      rw [hf] at q
      exact q
end
section
variable {X : Cx} {W : WX} {x m : Str} {st : Stmt} {ps : List Str} {k : Nat} {e o : Expr} {es : List Expr} {fo : M Rv} {fs : M (List Rv)} {p pos apos : Pos} {pin : Option Nat} {fn : List D → FOut} {t : Bool} {dds : List D} {dvs : List V} {dsv : List Value} {f C : Addr} {fd : FuncData}
theorem df_meth0 {cn : Str} {pl : Sem Bool} (ho : DE X W o fo) (cl : Cls X.K ((bs X).cls cn)) (hm : Meth X.K ((bs X).cls cn) m f) (hb : Binds X.K fd ps dsv) (G : FnG X.prog X.w X.K X.mg X.base k f fd ps (spF (bs X) pin ps.length fn)) (hr : RmG k X.A) (hx : ErrOk X W t) (hd : Vals dvs dsv) (hdd : ∀ G, RepL (bs X) G dvs dds) (hn : 1 ≤ ps.length := by decide)
    (ht : eval (.Call (.Attribute o m apos) [] [] pos) X.env = (do
      let w ← eval o X.env
      standAt apos.atName
      let (g, hd) ← holding [w] (getMethod w m pl)
      callWith pos g hd (backTo pos (starEach [] X.env)) (backToKw pos (keywordEach [] X.env))) := by rfl) :
    DF X W (.Call (.Attribute o m apos) [] [] pos) (dMethF cn m t pin (ps.length - 1) dds fn fo dNil) := PE.le (pe_meth0G ho cl hm G hr hb hd (pass_t hx) ht) fun σ H Q h => by
  obtain ⟨c, ρ, O, st, q⟩ := methF_le hdd h hn
  refine ⟨c, ρ, O, st, Po.mono q (.refl _) fun r ρ' H' O' z v hv => ?_⟩
  obtain ⟨a, dx, gs, e1, e2, e3, e4⟩ := z v hv
  exact ⟨a, dx, gs, e1, e2, e3, tNil_le e4⟩
end
end Pu
namespace Pu
open PySem PySem.Spec PyProof.Rows L2 My
theorem sc_law_pen_of : FnScope ["_law_script"] ["_law_script"] (defScope s_law_pen_of) := ⟨rfl, rfl, rfl, by decide +kernel, rfl, by decide +kernel, by decide +kernel⟩
theorem sc_law_draw : FnScope ["_law_pen", "_law_many", "_law_digit", "_law_index", "_law_cell", "_law_mixed"] ["_law_pen", "_law_many"] (defScope s_law_draw) := ⟨rfl, rfl, rfl, by decide +kernel, rfl, by decide +kernel, by decide +kernel⟩
theorem sc_law_pick : FnScope ["_law_pen", "_law_items"] ["_law_pen", "_law_items"] (defScope s_law_pick) := ⟨rfl, rfl, rfl, by decide +kernel, rfl, by decide +kernel, by decide +kernel⟩
theorem sc_law_some_numbers : FnScope ["_law_pen", "_law_many", "_law_number", "_law_found", "_law_k"] ["_law_pen", "_law_many"] (defScope s_law_some_numbers) := ⟨rfl, rfl, rfl, by decide +kernel, rfl, by decide +kernel, by decide +kernel⟩
theorem sc_law_some_told : FnScope ["_law_pen", "_law_numbers", "_law_at"] ["_law_pen", "_law_numbers"] (defScope s_law_some_told) := ⟨rfl, rfl, rfl, by decide +kernel, rfl, by decide +kernel, by decide +kernel⟩
theorem sc_is_row : FnScope ["value", "size"] ["value", "size"] (defScope s_is_row) := ⟨rfl, rfl, rfl, by decide +kernel, rfl, by decide +kernel, by decide +kernel⟩
theorem sc_is_integer : FnScope ["value"] ["value"] (defScope s_is_integer) := ⟨rfl, rfl, rfl, by decide +kernel, rfl, by decide +kernel, by decide +kernel⟩
theorem sc_spots_of : FnScope ["told", "found", "waiting", "at", "place", "here"] ["told"] (defScope s_spots_of) := ⟨rfl, rfl, rfl, by decide +kernel, rfl, by decide +kernel, by decide +kernel⟩
theorem sc_rank_text : FnScope ["place"] ["place"] (defScope s_rank_text) := ⟨rfl, rfl, rfl, by decide +kernel, rfl, by decide +kernel, by decide +kernel⟩
theorem sc_in_order : FnScope ["spots"] ["spots"] (defScope s_in_order) := ⟨rfl, rfl, rfl, by decide +kernel, rfl, by decide +kernel, by decide +kernel⟩
theorem sc_first_fall : FnScope ["spots", "last", "place"] ["spots"] (defScope s_first_fall) := ⟨rfl, rfl, rfl, by decide +kernel, rfl, by decide +kernel, by decide +kernel⟩
theorem sc_told_of : FnScope ["spots", "built", "place"] ["spots"] (defScope s_told_of) := ⟨rfl, rfl, rfl, by decide +kernel, rfl, by decide +kernel, by decide +kernel⟩
theorem sc_height_of : FnScope ["spots", "place"] ["spots"] (defScope s_height_of) := ⟨rfl, rfl, rfl, by decide +kernel, rfl, by decide +kernel, by decide +kernel⟩
theorem sc_Tree_init : FnScope ["self", "told", "spots", "wrong", "fall"] ["self", "told"] (defScope s_Tree_init) := ⟨rfl, rfl, rfl, by decide +kernel, rfl, by decide +kernel, by decide +kernel⟩
theorem sc_law_numbers_by : FnScope ["_law_pen", "_law_numbers", "_law_found", "_law_number"] ["_law_pen", "_law_numbers"] (defScope s_law_numbers_by) := ⟨rfl, rfl, rfl, by decide +kernel, rfl, by decide +kernel, by decide +kernel⟩
theorem sc_law_spots : FnScope ["_law_told", "_law_found", "_law_row", "_law_later", "_law_place", "_law_here"] ["_law_told"] (defScope s_law_spots) := ⟨rfl, rfl, rfl, by decide +kernel, rfl, by decide +kernel, by decide +kernel⟩
theorem sc_law_lists : FnScope ["_law_pen", "_law_told", "_law_parts"] ["_law_pen", "_law_told"] (defScope s_law_lists) := ⟨rfl, rfl, rfl, by decide +kernel, rfl, by decide +kernel, by decide +kernel⟩
theorem sc_law_row_of : FnScope ["_law_spots_here", "_law_place"] ["_law_spots_here", "_law_place"] (defScope s_law_row_of) := ⟨rfl, rfl, rfl, by decide +kernel, rfl, by decide +kernel, by decide +kernel⟩
theorem sc_Tree_places : FnScope ["self"] ["self"] (defScope s_Tree_places) := ⟨rfl, rfl, rfl, by decide +kernel, rfl, by decide +kernel, by decide +kernel⟩
theorem sc_Tree_row : FnScope ["self", "place"] ["self"] (defScope s_Tree_row) := ⟨rfl, rfl, rfl, by decide +kernel, rfl, by decide +kernel, by decide +kernel⟩
theorem sc_Tree_has : FnScope ["self", "place"] ["self", "place"] (defScope s_Tree_has) := ⟨rfl, rfl, rfl, by decide +kernel, rfl, by decide +kernel, by decide +kernel⟩
theorem sc_Tree_need : FnScope ["self", "place"] ["self", "place"] (defScope s_Tree_need) := ⟨rfl, rfl, rfl, by decide +kernel, rfl, by decide +kernel, by decide +kernel⟩
theorem sc_Tree_value : FnScope ["self", "place"] ["self", "place"] (defScope s_Tree_value) := ⟨rfl, rfl, rfl, by decide +kernel, rfl, by decide +kernel, by decide +kernel⟩
theorem sc_Tree_sides : FnScope ["self", "place", "sign"] ["self", "place"] (defScope s_Tree_sides) := ⟨rfl, rfl, rfl, by decide +kernel, rfl, by decide +kernel, by decide +kernel⟩
theorem sc_law_is_read : FnScope ["_law_tree", "_law_spots_here", "_law_told", "_law_places", "_law_place", "_law_due", "_law_sign"] ["_law_tree", "_law_spots_here", "_law_told"] (defScope s_law_is_read) := ⟨rfl, rfl, rfl, by decide +kernel, rfl, by decide +kernel, by decide +kernel⟩
theorem sc_Tree_eq : FnScope ["self", "other"] ["self", "other"] (defScope s_Tree_eq) := ⟨rfl, rfl, rfl, by decide +kernel, rfl, by decide +kernel, by decide +kernel⟩
theorem sc_law_search : FnScope ["_law_spots_here", "_law_number", "_law_place", "_law_side"] ["_law_spots_here", "_law_number"] (defScope s_law_search) := ⟨rfl, rfl, rfl, by decide +kernel, rfl, by decide +kernel, by decide +kernel⟩
theorem sc_law_met : FnScope ["_law_call", "e"] ["_law_call"] (defScope s_law_met) := ⟨rfl, rfl, rfl, by decide +kernel, rfl, by decide +kernel, by decide +kernel⟩
theorem sc_Tree_search : FnScope ["self", "number", "place"] ["self", "number"] (defScope s_Tree_search) := ⟨rfl, rfl, rfl, by decide +kernel, rfl, by decide +kernel, by decide +kernel⟩
theorem sc_Tree_find : FnScope ["self", "number", "place", "sign"] ["self", "number"] (defScope s_Tree_find) := ⟨rfl, rfl, rfl, by decide +kernel, rfl, by decide +kernel, by decide +kernel⟩
theorem sc_Tree_gap : FnScope ["self", "number", "place", "sign"] ["self", "number"] (defScope s_Tree_gap) := ⟨rfl, rfl, rfl, by decide +kernel, rfl, by decide +kernel, by decide +kernel⟩
theorem sc_law : FnScope ["_law_script", "_law_pen", "_law_turn", "_law_numbers", "_law_told", "_law_spots_here", "_law_handed", "_law_tree", "_law_number", "_law_near", "_law_place", "_law_lacking", "_law_odd", "_law_other"] ["_law_script"] (defScope s_law) := ⟨rfl, rfl, rfl, by decide +kernel, rfl, by decide +kernel, by decide +kernel⟩
def caD (x y : Str) : Option Bool := if x ∈ erL ∧ y ∈ chL then some (decide (x = y)) else none
variable [Tbs]
structure Txt (P : Program) (w : World) (K : PySem.W.Frag) (mg : Str → Option Value) : Prop where
  n_list : mg "list" = none
  n_int : mg "int" = none
  n_len : mg "len" = none
  n_abs : mg "abs" = none
  n_range : mg "range" = none
  n_isinstance : mg "isinstance" = none
  n_tuple : mg "tuple" = none
  n_bool : mg "bool" = none
  n_sorted : mg "sorted" = none
  n_max : mg "max" = none
  n_str : mg "str" = none
  n_ValueError : mg "ValueError" = none
  n_super : mg "super" = none
  law_pen_of : Dg K mg "_law_pen_of" s_law_pen_of
  b_law_pen_of : Binds K (fdOf K (My.fa mg "_law_pen_of")) ["_law_script"] []
  law_draw : Dg K mg "_law_draw" s_law_draw
  b_law_draw : Binds K (fdOf K (My.fa mg "_law_draw")) ["_law_pen", "_law_many"] []
  law_pick : Dg K mg "_law_pick" s_law_pick
  b_law_pick : Binds K (fdOf K (My.fa mg "_law_pick")) ["_law_pen", "_law_items"] []
  law_some_numbers : Dg K mg "_law_some_numbers" s_law_some_numbers
  b_law_some_numbers : Binds K (fdOf K (My.fa mg "_law_some_numbers")) ["_law_pen", "_law_many"] []
  law_some_told : Dg K mg "_law_some_told" s_law_some_told
  b_law_some_told : Binds K (fdOf K (My.fa mg "_law_some_told")) ["_law_pen", "_law_numbers"] []
  is_row : Dg K mg "is_row" s_is_row
  b_is_row : Binds K (fdOf K (My.fa mg "is_row")) ["value", "size"] []
  is_integer : Dg K mg "is_integer" s_is_integer
  b_is_integer : Binds K (fdOf K (My.fa mg "is_integer")) ["value"] []
  spots_of : Dg K mg "spots_of" s_spots_of
  b_spots_of : Binds K (fdOf K (My.fa mg "spots_of")) ["told"] []
  rank_text : Dg K mg "rank_text" s_rank_text
  b_rank_text : Binds K (fdOf K (My.fa mg "rank_text")) ["place"] []
  in_order : Dg K mg "in_order" s_in_order
  b_in_order : Binds K (fdOf K (My.fa mg "in_order")) ["spots"] []
  first_fall : Dg K mg "first_fall" s_first_fall
  b_first_fall : Binds K (fdOf K (My.fa mg "first_fall")) ["spots"] []
  told_of : Dg K mg "told_of" s_told_of
  b_told_of : Binds K (fdOf K (My.fa mg "told_of")) ["spots"] []
  height_of : Dg K mg "height_of" s_height_of
  b_height_of : Binds K (fdOf K (My.fa mg "height_of")) ["spots"] []
  Tree_init : Mg K mg "Tree" "__init__" "Tree.__init__" s_Tree_init
  b_Tree_init : Binds K (fdOf K (mf K (My.fa mg "Tree") "__init__")) ["self", "told"] []
  law_numbers_by : Dg K mg "_law_numbers_by" s_law_numbers_by
  b_law_numbers_by : Binds K (fdOf K (My.fa mg "_law_numbers_by")) ["_law_pen", "_law_numbers"] []
  law_spots : Dg K mg "_law_spots" s_law_spots
  b_law_spots : Binds K (fdOf K (My.fa mg "_law_spots")) ["_law_told"] []
  law_lists : Dg K mg "_law_lists" s_law_lists
  b_law_lists : Binds K (fdOf K (My.fa mg "_law_lists")) ["_law_pen", "_law_told"] []
  law_row_of : Dg K mg "_law_row_of" s_law_row_of
  b_law_row_of : Binds K (fdOf K (My.fa mg "_law_row_of")) ["_law_spots_here", "_law_place"] []
  Tree_places : Mg K mg "Tree" "places" "Tree.places" s_Tree_places
  b_Tree_places : Binds K (fdOf K (mf K (My.fa mg "Tree") "places")) ["self"] []
  Tree_row : Mg K mg "Tree" "row" "Tree.row" s_Tree_row
  b_Tree_row : Binds K (fdOf K (mf K (My.fa mg "Tree") "row")) ["self"] []
  Tree_has : Mg K mg "Tree" "has" "Tree.has" s_Tree_has
  b_Tree_has : Binds K (fdOf K (mf K (My.fa mg "Tree") "has")) ["self", "place"] []
  Tree_need : Mg K mg "Tree" "need" "Tree.need" s_Tree_need
  b_Tree_need : Binds K (fdOf K (mf K (My.fa mg "Tree") "need")) ["self", "place"] []
  Tree_value : Mg K mg "Tree" "value" "Tree.value" s_Tree_value
  b_Tree_value : Binds K (fdOf K (mf K (My.fa mg "Tree") "value")) ["self", "place"] []
  Tree_sides : Mg K mg "Tree" "sides" "Tree.sides" s_Tree_sides
  b_Tree_sides : Binds K (fdOf K (mf K (My.fa mg "Tree") "sides")) ["self", "place"] []
  law_is_read : Dg K mg "_law_is_read" s_law_is_read
  b_law_is_read : Binds K (fdOf K (My.fa mg "_law_is_read")) ["_law_tree", "_law_spots_here", "_law_told"] []
  Tree_eq : Mg K mg "Tree" "__eq__" "Tree.__eq__" s_Tree_eq
  b_Tree_eq : Binds K (fdOf K (mf K (My.fa mg "Tree") "__eq__")) ["self", "other"] []
  law_search : Dg K mg "_law_search" s_law_search
  b_law_search : Binds K (fdOf K (My.fa mg "_law_search")) ["_law_spots_here", "_law_number"] []
  law_met : Dg K mg "_law_met" s_law_met
  b_law_met : Binds K (fdOf K (My.fa mg "_law_met")) ["_law_call"] []
  Tree_search : Mg K mg "Tree" "search" "Tree.search" s_Tree_search
  b_Tree_search : Binds K (fdOf K (mf K (My.fa mg "Tree") "search")) ["self", "number"] []
  Tree_find : Mg K mg "Tree" "find" "Tree.find" s_Tree_find
  b_Tree_find : Binds K (fdOf K (mf K (My.fa mg "Tree") "find")) ["self", "number"] []
  Tree_gap : Mg K mg "Tree" "gap" "Tree.gap" s_Tree_gap
  b_Tree_gap : Binds K (fdOf K (mf K (My.fa mg "Tree") "gap")) ["self", "number"] []
  law : Dg K mg "law" s_law
  b_law : Binds K (fdOf K (My.fa mg "law")) ["_law_script"] []
  c_MOST_PLACES : ∃ t, mg "MOST_PLACES" = some (.int 2000 t)
  c_MOST_LEVELS : ∃ t, mg "MOST_LEVELS" = some (.int 200 t)
  iso_Tree : IsOwn K mg ["Tree"] "Tree"
  eqm_Tree : EqM K mg "Tree" (mf K (My.fa mg "Tree") "__eq__")
  nos_Tree : NoSub K mg "Tree" ["Tree"]
  c_Tree : mg "Tree" = some (.ref (My.fa mg "Tree"))
  k_Tree : Mk K (My.fa mg "Tree") (mf K (My.fa mg "Tree") "__init__")
  f_own_spots : FldOk K mg ["Tree"] "own_spots"
  f_Tree_own_spots : FldOk K mg ["Tree"] "own_spots"
  f_told : FldOk K mg ["Tree"] "told"
  f_Tree_told : FldOk K mg ["Tree"] "told"
  f_size : FldOk K mg ["Tree"] "size"
  f_Tree_size : FldOk K mg ["Tree"] "size"
  f_height : FldOk K mg ["Tree"] "height"
  f_Tree_height : FldOk K mg ["Tree"] "height"
  e_BadTold : Ex P K mg "BadTold" s_BadTold_init ["place"]
  x_BadTold : ExcC K (My.fa mg "BadTold")
  v_BadTold : PySem.W.kitOne K (.ref (My.fa mg "BadTold")) (.type "ValueError") = some true
  e_TooMany : Ex P K mg "TooMany" s_TooMany_init ["what", "many", "most"]
  x_TooMany : ExcC K (My.fa mg "TooMany")
  v_TooMany : PySem.W.kitOne K (.ref (My.fa mg "TooMany")) (.type "ValueError") = some true
  e_BadValue : Ex P K mg "BadValue" s_BadValue_init ["place"]
  x_BadValue : ExcC K (My.fa mg "BadValue")
  v_BadValue : PySem.W.kitOne K (.ref (My.fa mg "BadValue")) (.type "ValueError") = some true
  e_NoPlace : Ex P K mg "NoPlace" s_NoPlace_init ["place"]
  x_NoPlace : ExcC K (My.fa mg "NoPlace")
  v_NoPlace : PySem.W.kitOne K (.ref (My.fa mg "NoPlace")) (.type "ValueError") = some true
  ca : ∀ x y b, caD x y = some b → PySem.W.exmOne K (.ref (My.fa mg x)) (.ref (My.fa mg y)) = some b
  ins : NotIn K mg ["Tree"]
end Pu
namespace Pu
open PySem PySem.Spec PyProof.Rows L2 My CwR
variable [Tbs] [Nls]
variable {P : Program} {w : World} {K : PySem.W.Frag} {mg : Str → Option Value} {base : Heap}
theorem ok_rank_text (T : Txt P w K mg) : FnG P w K mg base 1 (My.fa mg "rank_text") (fdOf K (My.fa mg "rank_text")) ["place"] (spD ⟨K, w, mg⟩ none 1 fnRank) := by
  obtain ⟨oc, od, dV, kV, doc, pm, an, cdv, ct, osl, e, lk, hcd⟩ := T.rank_text.F.ex
  rw [e] at lk ⊢
  refine FnG.of_ok (fn_ofT lk hcd sc_rank_text (by decide +kernel) (by decide) (fun vs H Q E h => h.1) fun A outer s H vs Q E hr h => ?_)
  obtain ⟨hl, O, ds, liv, ha, q⟩ := h
  unfold fnRank at q
  split at q
  · rename_i z
    split at q
    · rename_i hc
      obtain ⟨c1, c2, c3⟩ := hc
      obtain ⟨v, e1, r1⟩ := ha.val 0 (.str z) (by simp) rfl
      cases r1
      obtain ⟨u, rfl⟩ : ∃ u, vs = [u] := by
        match vs, hl with
        | [u], _ => exact ⟨u, rfl⟩
      obtain rfl : u = .str z := by simpa using e1
      refine ⟨_, psst_one (pst_ret (pet_op op_add_str (pet_replT (pet_replC (pv 0))) (PET.of pe_str))), ?_⟩
      refine ⟨V.str z, rfl, z, rfl, ?_, Txt.replace z "l" "0", rfl, ?_, _, _, rfl, rfl, ?_, ?_⟩
      · have : ("0" : Str).length = 1 := by decide
        rw [this]; omega
      · have : ("2" : Str).length = 1 := by decide
        rw [this]; omega
      · have : ("1" : Str).length = 1 := by decide
        rw [this]
        have : sizeLine = 16777216 := by rfl
        omega
      · exact q _ H O ⟨liv, .refl _, fun q hq _ => ⟨hq, rfl⟩, fun j hj => by cases hj⟩ (.str _)
    · exact q.elim
  · exact q.elim
end Pu
namespace Pu
open PySem PySem.Spec PyProof.Rows L2 My
variable [Tbs]
variable {P : Program} {w : World} {K : PySem.W.Frag} {mg : Str → Option Value} {base : Heap}
def b_law_pen_of : SM := (dRetF (dDisp (dPairs [((dC (.str "cells")), (dFr (dListF (dSl (dVar 0) pNone (pSome (dC (.int 63))))))), ((dC (.str "next")), (dC (.int 0))), ((dC (.str "left")), (dC (.int 0)))])))
def fn_law_pen_of : List D → FOut := runFF none 1 1 b_law_pen_of
theorem bd_law_pen_of (T : Txt P w K mg) : Bdy P w K mg base ["_law_script"] "_law_pen_of" s_law_pen_of (My.fa mg "_law_pen_of") 0 b_law_pen_of := fun cdv A outer s H E hr tk hp => (ds_one (ds_retF (df_disp (dps_cons (de_c pe_str (fun _ => .str _)) (DF.de (df_list T.n_list (de_slice (de_var 0 (pv 0)) do_none (do_some (de_c pe_int (fun _ => .int _)))))) (dps_cons (de_c pe_str (fun _ => .str _)) (de_c pe_int (fun _ => .int _)) (dps_cons (de_c pe_str (fun _ => .str _)) (de_c pe_int (fun _ => .int _)) dps_nil))))))
theorem ok_law_pen_of (T : Txt P w K mg) : FnG P w K mg base 1 (My.fa mg "_law_pen_of") (fdOf K (My.fa mg "_law_pen_of")) ["_law_script"] (spF ⟨K, w, mg⟩ none 1 fn_law_pen_of) := fn_bodyF none T.law_pen_of.F sc_law_pen_of (by decide) (bd_law_pen_of T)
def b_law_draw : SM := (dSeq (dIf (dT2 gtD (d2 ixD (dVar 0) (dC (.str "left"))) (dC (.int 0)))
  (dSeq (dSet 2 (d2 modD (dN (one1 intD) (dCons (d2 ixD (dVar 0) (dC (.str "left"))) dNil)) (dVar 1)))
  (dSeq (dPut 0 (dC (.str "left")) (d2 fdivD (d2 ixD (dVar 0) (dC (.str "left"))) (dVar 1)))
  (dRet (dVar 2))))
  dNx)
  (dSeq (dSet 3 (d2 ixD (dVar 0) (dC (.str "next"))))
  (dSeq (dPut 0 (dC (.str "next")) (d2 addD (dVar 3) (dC (.int 1))))
  (dSeq (dSet 4 (d2 addD (d2 mulD (dC (.int 83)) (dVar 3)) (dC (.int 41))))
  (dSeq (dIf (dT2 neD (d2 ixD (dVar 0) (dC (.str "cells"))) (dLst dNil))
  (dSet 4 (d2 ixD (d2 ixD (dVar 0) (dC (.str "cells"))) (d2 modD (dN (one1 intD) (dCons (dVar 3) dNil)) (dN (one1 lenD) (dCons (d2 ixD (dVar 0) (dC (.str "cells"))) dNil)))))
  dNx)
  (dSeq (dIf (dAnd (dT2 ltD (dVar 3) (dN (one1 lenD) (dCons (d2 ixD (dVar 0) (dC (.str "cells"))) dNil))) (dT2 geD (dN (one1 absD) (dCons (dVar 4) dNil)) (d2 powD (dC (.int 10)) (dC (.int 18)))))
  (dSeq (dPut 0 (dC (.str "left")) (d2 fdivD (d2 subD (dN (one1 absD) (dCons (dVar 4) dNil)) (d2 powD (dC (.int 10)) (dC (.int 18)))) (dVar 1)))
  (dRet (d2 modD (dN (one1 intD) (dCons (d2 subD (dN (one1 absD) (dCons (dVar 4) dNil)) (d2 powD (dC (.int 10)) (dC (.int 18)))) dNil)) (dVar 1))))
  dNx)
  (dSeq (dSet 5 (d2 addD (d2 mulD (d2 modD (dN (one1 intD) (dCons (dVar 4) dNil)) (dC (.int 4294967197))) (dC (.int 52711))) (d2 mulD (d2 mulD (dC (.int 20353)) (dVar 3)) (dVar 3))))
  (dSeq (dSet 5 (d2 modD (dN (one1 intD) (dCons (d2 addD (d2 addD (dVar 5) (d2 mulD (dC (.int 1531)) (dVar 3))) (dC (.int 11))) dNil)) (dC (.int 4294967189))))
  (dSeq (dSet 5 (d2 modD (dN (one1 intD) (dCons (d2 addD (d2 addD (d2 addD (d2 mulD (dVar 5) (dVar 5)) (d2 mulD (dC (.int 68903)) (dVar 5))) (d2 mulD (dC (.int 23)) (dVar 3))) (dC (.int 7))) dNil)) (dC (.int 4294967161))))
  (dRet (d2 modD (dN (one1 intD) (dCons (d2 fdivD (d2 modD (dN (one1 intD) (dCons (d2 mulD (dVar 5) (d2 addD (dVar 5) (dC (.int 57037)))) dNil)) (dC (.int 4294967143))) (dC (.int 64))) dNil)) (dVar 1))))))))))))
def fn_law_draw : List D → FOut := runF (some 0) 6 2 b_law_draw
theorem bd_law_draw (T : Txt P w K mg) : Bdy P w K mg base ["_law_pen", "_law_many", "_law_digit", "_law_index", "_law_cell", "_law_mixed"] "_law_draw" s_law_draw (My.fa mg "_law_draw") 0 b_law_draw := fun cdv A outer s H E hr tk hp => (ds_cons (ds_if (dt_gt (de_ix hr (de_var 0 (pv 0)) (de_c pe_str (fun _ => .str _))) (de_c pe_int (fun _ => .int _)))
  (ds_cons (ds_set (fun te he => ps_set (i := 2) sc_law_draw.nd rfl (Or.inl rfl) he) (de_mod (de_int T.n_int (da_cons (de_ix hr (de_var 0 (pv 0)) (de_c pe_str (fun _ => .str _))) da_nil)) (de_var 1 (pv 1))))
  (ds_cons (ds_put hr (pv 0) (de_c pe_str (fun _ => .str _)) (de_fdiv (de_ix hr (de_var 0 (pv 0)) (de_c pe_str (fun _ => .str _))) (de_var 1 (pv 1))))
  (ds_one (ds_ret (de_var 2 (pv 2))))))
  ds_nil)
  (ds_cons (ds_set (fun te he => ps_set (i := 3) sc_law_draw.nd rfl (Or.inl rfl) he) (de_ix hr (de_var 0 (pv 0)) (de_c pe_str (fun _ => .str _))))
  (ds_cons (ds_put hr (pv 0) (de_c pe_str (fun _ => .str _)) (de_add (de_var 3 (pv 3)) (de_c pe_int (fun _ => .int _))))
  (ds_cons (ds_set (fun te he => ps_set (i := 4) sc_law_draw.nd rfl (Or.inl rfl) he) (de_add (de_mul (de_c pe_int (fun _ => .int _)) (de_var 3 (pv 3))) (de_c pe_int (fun _ => .int _))))
  (ds_cons (ds_if (dt_ne hr (de_ix hr (de_var 0 (pv 0)) (de_c pe_str (fun _ => .str _))) (de_lst da_nil))
  (ds_one (ds_set (fun te he => ps_set (i := 4) sc_law_draw.nd rfl (Or.inl rfl) he) (de_ix hr (de_ix hr (de_var 0 (pv 0)) (de_c pe_str (fun _ => .str _))) (de_mod (de_int T.n_int (da_cons (de_var 3 (pv 3)) da_nil)) (de_len T.n_len (da_cons (de_ix hr (de_var 0 (pv 0)) (de_c pe_str (fun _ => .str _))) da_nil))))))
  ds_nil)
  (ds_cons (ds_if (PW.pt (dw_and (dt_lt (de_var 3 (pv 3)) (de_len T.n_len (da_cons (de_ix hr (de_var 0 (pv 0)) (de_c pe_str (fun _ => .str _))) da_nil))) (dw_and1 (dt_ge (de_abs T.n_abs (da_cons (de_var 4 (pv 4)) da_nil)) (de_pow (de_c pe_int (fun _ => .int _)) (de_c pe_int (fun _ => .int _)))))))
  (ds_cons (ds_put hr (pv 0) (de_c pe_str (fun _ => .str _)) (de_fdiv (de_sub (de_abs T.n_abs (da_cons (de_var 4 (pv 4)) da_nil)) (de_pow (de_c pe_int (fun _ => .int _)) (de_c pe_int (fun _ => .int _)))) (de_var 1 (pv 1))))
  (ds_one (ds_ret (de_mod (de_int T.n_int (da_cons (de_sub (de_abs T.n_abs (da_cons (de_var 4 (pv 4)) da_nil)) (de_pow (de_c pe_int (fun _ => .int _)) (de_c pe_int (fun _ => .int _)))) da_nil)) (de_var 1 (pv 1))))))
  ds_nil)
  (ds_cons (ds_set (fun te he => ps_set (i := 5) sc_law_draw.nd rfl (Or.inl rfl) he) (de_add (de_mul (de_mod (de_int T.n_int (da_cons (de_var 4 (pv 4)) da_nil)) (de_c pe_int (fun _ => .int _))) (de_c pe_int (fun _ => .int _))) (de_mul (de_mul (de_c pe_int (fun _ => .int _)) (de_var 3 (pv 3))) (de_var 3 (pv 3)))))
  (ds_cons (ds_set (fun te he => ps_set (i := 5) sc_law_draw.nd rfl (Or.inl rfl) he) (de_mod (de_int T.n_int (da_cons (de_add (de_add (de_var 5 (pv 5)) (de_mul (de_c pe_int (fun _ => .int _)) (de_var 3 (pv 3)))) (de_c pe_int (fun _ => .int _))) da_nil)) (de_c pe_int (fun _ => .int _))))
  (ds_cons (ds_set (fun te he => ps_set (i := 5) sc_law_draw.nd rfl (Or.inl rfl) he) (de_mod (de_int T.n_int (da_cons (de_add (de_add (de_add (de_mul (de_var 5 (pv 5)) (de_var 5 (pv 5))) (de_mul (de_c pe_int (fun _ => .int _)) (de_var 5 (pv 5)))) (de_mul (de_c pe_int (fun _ => .int _)) (de_var 3 (pv 3)))) (de_c pe_int (fun _ => .int _))) da_nil)) (de_c pe_int (fun _ => .int _))))
  (ds_one (ds_ret (de_mod (de_int T.n_int (da_cons (de_fdiv (de_mod (de_int T.n_int (da_cons (de_mul (de_var 5 (pv 5)) (de_add (de_var 5 (pv 5)) (de_c pe_int (fun _ => .int _)))) da_nil)) (de_c pe_int (fun _ => .int _))) (de_c pe_int (fun _ => .int _))) da_nil)) (de_var 1 (pv 1))))))))))))))
theorem ok_law_draw (T : Txt P w K mg) : FnG P w K mg base 1 (My.fa mg "_law_draw") (fdOf K (My.fa mg "_law_draw")) ["_law_pen", "_law_many"] (spD ⟨K, w, mg⟩ (some 0) 2 fn_law_draw) := fn_body (some 0) T.law_draw.F sc_law_draw (by decide) (bd_law_draw T)
def b_law_pick : SM := (dRet (d2 ixD (dVar 1) (dCall true (some 0) 2 [] fn_law_draw (dCons (dVar 0) (dCons (dN (one1 lenD) (dCons (dVar 1) dNil)) dNil)))))
def fn_law_pick : List D → FOut := runF (some 0) 2 2 b_law_pick
theorem bd_law_pick (T : Txt P w K mg) : Bdy P w K mg base ["_law_pen", "_law_items"] "_law_pick" s_law_pick (My.fa mg "_law_pick") 1 b_law_pick := fun cdv A outer s H E hr tk hp => (ds_one (ds_ret (de_ix hr (de_var 1 (pv 1)) (de_callN T.law_draw T.b_law_draw (ok_law_draw T) (hr.mono (by decide)) (errTk tk) .nil (fun _ => .nil) (da_cons (de_var 0 (pv 0)) (da_cons (de_len T.n_len (da_cons (de_var 1 (pv 1)) da_nil)) da_nil))))))
theorem ok_law_pick (T : Txt P w K mg) : FnG P w K mg base 2 (My.fa mg "_law_pick") (fdOf K (My.fa mg "_law_pick")) ["_law_pen", "_law_items"] (spD ⟨K, w, mg⟩ (some 0) 2 fn_law_pick) := fn_body (some 0) T.law_pick.F sc_law_pick (by decide) (bd_law_pick T)
def l0_law_some_numbers : SM := (dSeq (dDrop (dMut 3 appD (dCons (dVar 2) dNil)))
  (dSet 2 (d2 addD (dVar 2) (dCall true (some 0) 2 [] fn_law_pick (dCons (dVar 0) (dCons (dLst (dCons (dC (.int 1)) (dCons (dC (.int 1)) (dCons (dC (.int 2)) (dCons (dC (.int 3)) (dCons (d2 powD (dC (.int 10)) (dC (.int 9))) dNil)))))) dNil))))))
def b_law_some_numbers : SM := (dSeq (dPar [2, 3] (xV (d2 addD (dCall true (some 0) 2 [] fn_law_pick (dCons (dVar 0) (dCons (dLst (dCons (dC (.int 0)) (dCons (d1 negD (dC (.int 3))) (dCons (dC (.int 7)) (dCons (d1 negD (d2 powD (dC (.int 10)) (dC (.int 20)))) (dCons (d2 powD (dC (.int 10)) (dC (.int 30))) dNil)))))) dNil))) (dCall true (some 0) 2 [] fn_law_draw (dCons (dVar 0) (dCons (dC (.int 5)) dNil)))) (xO (dLstF dNil) xNil)))
  (dSeq (dFor (dRg1 (dCons (dVar 1) dNil)) (gN 4)
  l0_law_some_numbers)
  (dRet (dVar 3))))
def fn_law_some_numbers : List D → FOut := runF (some 0) 5 2 b_law_some_numbers
theorem bd_law_some_numbers (T : Txt P w K mg) : Bdy P w K mg base ["_law_pen", "_law_many", "_law_number", "_law_found", "_law_k"] "_law_some_numbers" s_law_some_numbers (My.fa mg "_law_some_numbers") 2 b_law_some_numbers := fun cdv A outer s H E hr tk hp => (ds_cons (ds_par2 (fun ta ha => ps_par (by rfl) sc_law_some_numbers.nd (i := 2) (j := 3) rfl rfl (by decide) rfl rfl ha (by rfl)) (dx_v (de_add (de_callN T.law_pick T.b_law_pick (ok_law_pick T) (hr.mono (by decide)) (errTk tk) .nil (fun _ => .nil) (da_cons (de_var 0 (pv 0)) (da_cons (de_lst (da_cons (de_c pe_int (fun _ => .int _)) (da_cons (de_neg (de_c pe_int (fun _ => .int _))) (da_cons (de_c pe_int (fun _ => .int _)) (da_cons (de_neg (de_pow (de_c pe_int (fun _ => .int _)) (de_c pe_int (fun _ => .int _)))) (da_cons (de_pow (de_c pe_int (fun _ => .int _)) (de_c pe_int (fun _ => .int _))) da_nil)))))) da_nil))) (de_callN T.law_draw T.b_law_draw (ok_law_draw T) (hr.mono (by decide)) (errTk tk) .nil (fun _ => .nil) (da_cons (de_var 0 (pv 0)) (da_cons (de_c pe_int (fun _ => .int _)) da_nil)))) (dx_o (df_lst da_nil) dx_nil)))
  (ds_cons (ds_for hp (by rfl) (di_rg1 T.n_range (da_cons (de_var 1 (pv 1)) da_nil)) (dg_name (pg_name (i := 4) sc_law_some_numbers.nd rfl (Or.inl rfl)))
  (ds_cons (ds_expr (de_mut PySem.F.slot_list_append PySem.F.type_list_append mt_append mutD_app (pv 3) (da_cons (de_var 2 (pv 2)) da_nil)))
  (ds_one (ds_set (fun te he => ps_set (i := 2) sc_law_some_numbers.nd rfl (Or.inl rfl) he) (de_add (de_var 2 (pv 2)) (de_callN T.law_pick T.b_law_pick (ok_law_pick T) (hr.mono (by decide)) (errTk tk) .nil (fun _ => .nil) (da_cons (de_var 0 (pv 0)) (da_cons (de_lst (da_cons (de_c pe_int (fun _ => .int _)) (da_cons (de_c pe_int (fun _ => .int _)) (da_cons (de_c pe_int (fun _ => .int _)) (da_cons (de_c pe_int (fun _ => .int _)) (da_cons (de_pow (de_c pe_int (fun _ => .int _)) (de_c pe_int (fun _ => .int _))) da_nil)))))) da_nil))))))))
  (ds_one (ds_ret (de_var 3 (pv 3))))))
theorem ok_law_some_numbers (T : Txt P w K mg) : FnG P w K mg base 3 (My.fa mg "_law_some_numbers") (fdOf K (My.fa mg "_law_some_numbers")) ["_law_pen", "_law_many"] (spD ⟨K, w, mg⟩ (some 0) 2 fn_law_some_numbers) := fn_body (some 0) T.law_some_numbers.F sc_law_some_numbers (by decide) (bd_law_some_numbers T)
def b_law_some_told (rec : List D → FOut) : SM := (dSeq (dIf (dT2 eqD (dVar 1) (dLst dNil))
  (dRet (dC .non))
  dNx)
  (dSeq (dSet 2 (dCall true (some 0) 2 [] fn_law_draw (dCons (dVar 0) (dCons (dN (one1 lenD) (dCons (dVar 1) dNil)) dNil))))
  (dSeq (dIf (dT2 eqD (dCall true (some 0) 2 [] fn_law_draw (dCons (dVar 0) (dCons (dC (.int 4)) dNil))) (dC (.int 0)))
  (dSet 2 (dCall true (some 0) 2 [] fn_law_pick (dCons (dVar 0) (dCons (dLst (dCons (dC (.int 0)) (dCons (d2 subD (dN (one1 lenD) (dCons (dVar 1) dNil)) (dC (.int 1))) dNil))) dNil))))
  dNx)
  (dRet (dTup (dCons (dCall true (some 0) 2 [] rec (dCons (dVar 0) (dCons (dSl (dVar 1) pNone (pSome (dVar 2))) dNil))) (dCons (d2 ixD (dVar 1) (dVar 2)) (dCons (dCall true (some 0) 2 [] rec (dCons (dVar 0) (dCons (dSl (dVar 1) (pSome (d2 addD (dVar 2) (dC (.int 1)))) pNone) dNil))) dNil))))))))
def fn_law_some_told : Nat → List D → FOut
  | 0 => fun _ => .bad
  | n + 1 => runF (some 0) 3 2 (b_law_some_told (fn_law_some_told n))
theorem bd_law_some_told (T : Txt P w K mg) {n : Nat} {rec : List D → FOut} (hrec : FnG P w K mg base (2 + n) (My.fa mg "_law_some_told") (fdOf K (My.fa mg "_law_some_told")) ["_law_pen", "_law_numbers"] (spD ⟨K, w, mg⟩ (some 0) 2 rec)) : Bdy P w K mg base ["_law_pen", "_law_numbers", "_law_at"] "_law_some_told" s_law_some_told (My.fa mg "_law_some_told") (2 + n) (b_law_some_told rec) := fun cdv A outer s H E hr tk hp => (ds_cons (ds_if (dt_eq hr (de_var 1 (pv 1)) (de_lst da_nil))
  (ds_one (ds_ret (de_c pe_non (fun _ => .non))))
  ds_nil)
  (ds_cons (ds_set (fun te he => ps_set (i := 2) sc_law_some_told.nd rfl (Or.inl rfl) he) (de_callN T.law_draw T.b_law_draw (ok_law_draw T) (hr.mono (by omega)) (errTk tk) .nil (fun _ => .nil) (da_cons (de_var 0 (pv 0)) (da_cons (de_len T.n_len (da_cons (de_var 1 (pv 1)) da_nil)) da_nil))))
  (ds_cons (ds_if (dt_eq hr (de_callN T.law_draw T.b_law_draw (ok_law_draw T) (hr.mono (by omega)) (errTk tk) .nil (fun _ => .nil) (da_cons (de_var 0 (pv 0)) (da_cons (de_c pe_int (fun _ => .int _)) da_nil))) (de_c pe_int (fun _ => .int _)))
  (ds_one (ds_set (fun te he => ps_set (i := 2) sc_law_some_told.nd rfl (Or.inl rfl) he) (de_callN T.law_pick T.b_law_pick (ok_law_pick T) (hr.mono (by omega)) (errTk tk) .nil (fun _ => .nil) (da_cons (de_var 0 (pv 0)) (da_cons (de_lst (da_cons (de_c pe_int (fun _ => .int _)) (da_cons (de_sub (de_len T.n_len (da_cons (de_var 1 (pv 1)) da_nil)) (de_c pe_int (fun _ => .int _))) da_nil))) da_nil)))))
  ds_nil)
  (ds_one (ds_ret (de_tup (da_cons (de_callN T.law_some_told T.b_law_some_told hrec hr (errTk tk) .nil (fun _ => .nil) (da_cons (de_var 0 (pv 0)) (da_cons (de_slice (de_var 1 (pv 1)) do_none (do_some (de_var 2 (pv 2)))) da_nil))) (da_cons (de_ix hr (de_var 1 (pv 1)) (de_var 2 (pv 2))) (da_cons (de_callN T.law_some_told T.b_law_some_told hrec hr (errTk tk) .nil (fun _ => .nil) (da_cons (de_var 0 (pv 0)) (da_cons (de_slice (de_var 1 (pv 1)) (do_some (de_add (de_var 2 (pv 2)) (de_c pe_int (fun _ => .int _)))) do_none) da_nil))) da_nil)))))))))
theorem ok_law_some_told (T : Txt P w K mg) : ∀ n, FnG P w K mg base (2 + n) (My.fa mg "_law_some_told") (fdOf K (My.fa mg "_law_some_told")) ["_law_pen", "_law_numbers"] (spD ⟨K, w, mg⟩ (some 0) 2 (fn_law_some_told n))
  | 0 => fn_bad
  | n + 1 => fn_body (some 0) T.law_some_told.F sc_law_some_told (by decide) (bd_law_some_told T (ok_law_some_told T n))
def b_is_row : SM := (dRet (dAndV (d1 (isG gRow ((["Tree"] : List Str).map fun c => (c, false))) (dVar 0)) (d2 eqD (dN (one1 lenD) (dCons (dVar 0) dNil)) (dVar 1))))
def fn_is_row : List D → FOut := runF none 2 2 b_is_row
theorem bd_is_row (T : Txt P w K mg) : Bdy P w K mg base ["value", "size"] "is_row" s_is_row (My.fa mg "is_row") 0 b_is_row := fun cdv A outer s H E hr tk hp => (ds_one (ds_ret (de_and (de_isRow (cs := ["Tree"]) T.ins T.n_isinstance T.n_tuple T.n_list (de_var 0 (pv 0))) (de_one (de_eq hr (de_len T.n_len (da_cons (de_var 0 (pv 0)) da_nil)) (de_var 1 (pv 1)))))))
theorem ok_is_row (T : Txt P w K mg) : FnG P w K mg base 1 (My.fa mg "is_row") (fdOf K (My.fa mg "is_row")) ["value", "size"] (spD ⟨K, w, mg⟩ none 2 fn_is_row) := fn_body none T.is_row.F sc_is_row (by decide) (bd_is_row T)
def b_is_integer : SM := (dRet (dAndV (d1 (isG gInt ((["Tree"] : List Str).map fun c => (c, false))) (dVar 0)) (d1 notD (d1 (isG gBool ((["Tree"] : List Str).map fun c => (c, false))) (dVar 0)))))
def fn_is_integer : List D → FOut := runF none 1 1 b_is_integer
theorem bd_is_integer (T : Txt P w K mg) : Bdy P w K mg base ["value"] "is_integer" s_is_integer (My.fa mg "is_integer") 0 b_is_integer := fun cdv A outer s H E hr tk hp => (ds_one (ds_ret (de_and (de_isInt (cs := ["Tree"]) T.ins T.n_isinstance T.n_int (de_var 0 (pv 0))) (de_one (de_not (de_isBool (cs := ["Tree"]) T.ins T.n_isinstance T.n_bool (de_var 0 (pv 0))))))))
theorem ok_is_integer (T : Txt P w K mg) : FnG P w K mg base 1 (My.fa mg "is_integer") (fdOf K (My.fa mg "is_integer")) ["value"] (spD ⟨K, w, mg⟩ none 1 fn_is_integer) := fn_body none T.is_integer.F sc_is_integer (by decide) (bd_is_integer T)
def c0_spots_of : M Bool := (dT2 ltD (dVar 3) (dN (one1 lenD) (dCons (dVar 2) dNil)))
def l1_spots_of : SM := (dSeq (dAsg (d2 ixD (dVar 2) (dVar 3)) (gT 2 (gsCons (gN 4) (gsCons (gN 5) gsNil))))
  (dSeq (dAug 3 addI (dC (.int 1)))
  (dSeq (dIf (dT2 (isN false) (dVar 5) (dC .non))
  dCt
  dNx)
  (dSeq (dIf (dOr (dNot (dB (dCall true none 2 [] fn_is_row (dCons (dVar 5) (dCons (dC (.int 3)) dNil))))) (dNot (dB (dCall true none 1 [] fn_is_integer (dCons (d2 ixD (dVar 5) (dC (.int 1))) dNil)))))
  (dRet (dTup (dCons (dVar 1) (dCons (dVar 4) dNil))))
  dNx)
  (dSeq (dPut 1 (dVar 4) (d2 ixD (dVar 5) (dC (.int 1))))
  (dSeq (dDrop (dMut 2 appD (dCons (dTup (dCons (d2 addD (dVar 4) (dC (.str "l"))) (dCons (d2 ixD (dVar 5) (dC (.int 0))) dNil))) dNil)))
  (dDrop (dMut 2 appD (dCons (dTup (dCons (d2 addD (dVar 4) (dC (.str "r"))) (dCons (d2 ixD (dVar 5) (dC (.int 2))) dNil))) dNil)))))))))
def b_spots_of : SM := (dSeq (dPar [1, 2, 3] (xO dNewK (xO (dLstF (dCons (dTup (dCons (dC (.str "")) (dCons (dVar 0) dNil))) dNil)) (xV (dC (.int 0)) xNil))))
  (dSeq (dWhile (fun _ => 100000) c0_spots_of
  l1_spots_of)
  (dRet (dTup (dCons (dVar 1) (dCons (dC .non) dNil))))))
def fn_spots_of : List D → FOut := runF none 6 1 b_spots_of
theorem bd_spots_of (T : Txt P w K mg) : Bdy P w K mg base ["told", "found", "waiting", "at", "place", "here"] "spots_of" s_spots_of (My.fa mg "spots_of") 1 b_spots_of := fun cdv A outer s H E hr tk hp => (ds_cons (ds_par3 (fun ta ha => ps_par3 (by rfl) sc_spots_of.nd (i := 1) (j := 2) (l := 3) rfl rfl rfl (by decide) (by decide) (by decide) rfl rfl rfl ha (by rfl)) (dx_o df_newK (dx_o (df_lst (da_cons (de_tup (da_cons (de_c pe_str (fun _ => .str _)) (da_cons (de_var 0 (pv 0)) da_nil))) da_nil)) (dx_v (de_c pe_int (fun _ => .int _)) dx_nil))))
  (ds_cons (ds_while (fun _ => 100000) hp (dt_lt (de_var 3 (pv 3)) (de_len T.n_len (da_cons (de_var 2 (pv 2)) da_nil)))
  (ds_cons (ds_asg (de_ix hr (de_var 2 (pv 2)) (de_var 3 (pv 3))) (dg_tup (by rfl) (dgs_cons (dg_name (pg_name (i := 4) sc_spots_of.nd rfl (Or.inl rfl))) (dgs_cons (dg_name (pg_name (i := 5) sc_spots_of.nd rfl (Or.inl rfl))) dgs_nil))))
  (ds_cons (ds_augAdd (fun te he => ps_aug (i := 3) sc_spots_of.nd rfl (Or.inl rfl) he ip_add) (de_c pe_int (fun _ => .int _)))
  (ds_cons (ds_if (dt_is (de_var 5 (pv 5)) (de_c pe_non (fun _ => .non)))
  (ds_one ds_ct)
  ds_nil)
  (ds_cons (ds_if (PW.pt (dw_or (dt_not (dt_b (de_callN T.is_row T.b_is_row (ok_is_row T) (hr.mono (by decide)) (errTk tk) .nil (fun _ => .nil) (da_cons (de_var 5 (pv 5)) (da_cons (de_c pe_int (fun _ => .int _)) da_nil))))) (dw_or1 (dt_not (dt_b (de_callN T.is_integer T.b_is_integer (ok_is_integer T) (hr.mono (by decide)) (errTk tk) .nil (fun _ => .nil) (da_cons (de_ix hr (de_var 5 (pv 5)) (de_c pe_int (fun _ => .int _))) da_nil)))))))
  (ds_one (ds_ret (de_tup (da_cons (de_var 1 (pv 1)) (da_cons (de_var 4 (pv 4)) da_nil)))))
  ds_nil)
  (ds_cons (ds_put hr (pv 1) (de_var 4 (pv 4)) (de_ix hr (de_var 5 (pv 5)) (de_c pe_int (fun _ => .int _))))
  (ds_cons (ds_expr (de_mut PySem.F.slot_list_append PySem.F.type_list_append mt_append mutD_app (pv 2) (da_cons (de_tup (da_cons (de_add (de_var 4 (pv 4)) (de_c pe_str (fun _ => .str _))) (da_cons (de_ix hr (de_var 5 (pv 5)) (de_c pe_int (fun _ => .int _))) da_nil))) da_nil)))
  (ds_one (ds_expr (de_mut PySem.F.slot_list_append PySem.F.type_list_append mt_append mutD_app (pv 2) (da_cons (de_tup (da_cons (de_add (de_var 4 (pv 4)) (de_c pe_str (fun _ => .str _))) (da_cons (de_ix hr (de_var 5 (pv 5)) (de_c pe_int (fun _ => .int _))) da_nil))) da_nil)))))))))))
  (ds_one (ds_ret (de_tup (da_cons (de_var 1 (pv 1)) (da_cons (de_c pe_non (fun _ => .non)) da_nil)))))))
theorem ok_spots_of (T : Txt P w K mg) : FnG P w K mg base 2 (My.fa mg "spots_of") (fdOf K (My.fa mg "spots_of")) ["told"] (spD ⟨K, w, mg⟩ none 1 fn_spots_of) := fn_body none T.spots_of.F sc_spots_of (by decide) (bd_spots_of T)
def b_in_order : SM := (dRetF (dSrt false (fFn fnRank) (dVar 0)))
def fn_in_order : List D → FOut := runFF none 1 1 b_in_order
theorem bd_in_order (T : Txt P w K mg) : Bdy P w K mg base ["spots"] "in_order" s_in_order (My.fa mg "in_order") 3 b_in_order := fun cdv A outer s H E hr tk hp => (ds_one (ds_retF (df_srt (pe_srtK (ks := ["key"]) (by rfl) (keyF_fn T.b_rank_text (ok_rank_text T) (hr.mono (by decide)) rfl) (pkf_cons (pf_glob (by rfl) T.rank_text.g) pkf_nil) (fun x => PyProof.Rows.ksk_t1 _ x) (fun _ => PyProof.Rows.ksk_s1 _ _) (fun _ => PyProof.Rows.ksk_l1 _ _) T.n_sorted (de_var 0 (pv 0))) keyD_fn)))
theorem ok_in_order (T : Txt P w K mg) : FnG P w K mg base 4 (My.fa mg "in_order") (fdOf K (My.fa mg "in_order")) ["spots"] (spF ⟨K, w, mg⟩ none 1 fn_in_order) := fn_bodyF none T.in_order.F sc_in_order (by decide) (bd_in_order T)
def l0_first_fall : SM := (dSeq (dIf (dAnd (dT2 (isN true) (dVar 1) (dC .non)) (dT2 leD (d2 ixD (dVar 0) (dVar 2)) (dVar 1)))
  (dRet (dVar 2))
  dNx)
  (dSet 1 (d2 ixD (dVar 0) (dVar 2))))
def b_first_fall : SM := (dSeq (dSet 1 (dC .non))
  (dSeq (dFor (dItA (dFr (dCallF true none 1 [] fn_in_order (dCons (dVar 0) dNil)))) (gN 2)
  l0_first_fall)
  (dRet (dC .non))))
def fn_first_fall : List D → FOut := runF none 3 1 b_first_fall
theorem bd_first_fall (T : Txt P w K mg) : Bdy P w K mg base ["spots", "last", "place"] "first_fall" s_first_fall (My.fa mg "first_fall") 4 b_first_fall := fun cdv A outer s H E hr tk hp => (ds_cons (ds_set (fun te he => ps_set (i := 1) sc_first_fall.nd rfl (Or.inl rfl) he) (de_c pe_non (fun _ => .non)))
  (ds_cons (ds_for hp (by rfl) (di_any (DF.de (df_call T.in_order T.b_in_order (ok_in_order T) (hr.mono (by decide)) (errTk tk) .nil (fun _ => .nil) (da_cons (de_var 0 (pv 0)) da_nil)))) (dg_name (pg_name (i := 2) sc_first_fall.nd rfl (Or.inl rfl)))
  (ds_cons (ds_if (PW.pt (dw_and (dt_isnt (de_var 1 (pv 1)) (de_c pe_non (fun _ => .non))) (dw_and1 (dt_le (de_ix hr (de_var 0 (pv 0)) (de_var 2 (pv 2))) (de_var 1 (pv 1))))))
  (ds_one (ds_ret (de_var 2 (pv 2))))
  ds_nil)
  (ds_one (ds_set (fun te he => ps_set (i := 1) sc_first_fall.nd rfl (Or.inl rfl) he) (de_ix hr (de_var 0 (pv 0)) (de_var 2 (pv 2)))))))
  (ds_one (ds_ret (de_c pe_non (fun _ => .non))))))
theorem ok_first_fall (T : Txt P w K mg) : FnG P w K mg base 5 (My.fa mg "first_fall") (fdOf K (My.fa mg "first_fall")) ["spots"] (spD ⟨K, w, mg⟩ none 1 fn_first_fall) := fn_body none T.first_fall.F sc_first_fall (by decide) (bd_first_fall T)
def l0_told_of : SM := (dPut 1 (dVar 2) (dTup (dCons (dGet1 (dVar 1) (d2 addD (dVar 2) (dC (.str "l")))) (dCons (d2 ixD (dVar 0) (dVar 2)) (dCons (dGet1 (dVar 1) (d2 addD (dVar 2) (dC (.str "r")))) dNil)))))
def b_told_of : SM := (dSeq (dSetO 1 dNewK)
  (dSeq (dFor (dItA (dFr (dSrt true fLen (dVar 0)))) (gN 2)
  l0_told_of)
  (dRet (dGet1 (dVar 1) (dC (.str ""))))))
def fn_told_of : List D → FOut := runF none 3 1 b_told_of
theorem bd_told_of (T : Txt P w K mg) : Bdy P w K mg base ["spots", "built", "place"] "told_of" s_told_of (My.fa mg "told_of") 0 b_told_of := fun cdv A outer s H E hr tk hp => (ds_cons (ds_setO (fun te he => ps_set (i := 1) sc_told_of.nd rfl (Or.inl rfl) he) df_newK)
  (ds_cons (ds_for hp (by rfl) (di_any (DF.de (df_srt (pe_srtK (ks := ["key", "reverse"]) (by rfl) keyF_len (pkf_cons (pf_bltn (by rfl) T.n_len PySem.boot_len) (pkf_cons pf_bl pkf_nil)) (fun x => PyProof.Rows.ksk_t5 _ x true) (fun _ => PyProof.Rows.ksk_s2 _ _ _) (fun _ => PyProof.Rows.ksk_l2 _ _ _) T.n_sorted (de_var 0 (pv 0))) keyD_len))) (dg_name (pg_name (i := 2) sc_told_of.nd rfl (Or.inl rfl)))
  (ds_one (ds_put hr (pv 1) (de_var 2 (pv 2)) (de_tup (da_cons (de_get1 hr (de_var 1 (pv 1)) (de_add (de_var 2 (pv 2)) (de_c pe_str (fun _ => .str _)))) (da_cons (de_ix hr (de_var 0 (pv 0)) (de_var 2 (pv 2))) (da_cons (de_get1 hr (de_var 1 (pv 1)) (de_add (de_var 2 (pv 2)) (de_c pe_str (fun _ => .str _)))) da_nil)))))))
  (ds_one (ds_ret (de_get1 hr (de_var 1 (pv 1)) (de_c pe_str (fun _ => .str _)))))))
theorem ok_told_of (T : Txt P w K mg) : FnG P w K mg base 1 (My.fa mg "told_of") (fdOf K (My.fa mg "told_of")) ["spots"] (spD ⟨K, w, mg⟩ none 1 fn_told_of) := fn_body none T.told_of.F sc_told_of (by decide) (bd_told_of T)
def b_height_of : SM := (dRet (d1 (maxDf 0) (dFr (dLc (dItA (dVar 0)) (gN 1) dYes (d2 addD (dN (one1 lenD) (dCons (dVar 1) dNil)) (dC (.int 1))) [1]))))
def fn_height_of : List D → FOut := runF none 2 1 b_height_of
theorem bd_height_of (T : Txt P w K mg) : Bdy P w K mg base ["spots", "place"] "height_of" s_height_of (My.fa mg "height_of") 0 b_height_of := fun cdv A outer s H E hr tk hp => (ds_one (ds_ret (de_maxD T.n_max (by rfl) (DF.de (df_lc (pe_lc (own := [("place", 1)]) (g := tG ⟨K, w, mg⟩ (gN 1) [1]) (tt := tQ ⟨K, w, mg⟩ (fun cls d _ H => E cls d H) dYes) (te := tP ⟨K, w, mg⟩ (fun cls d _ H => E cls d H) (d2 addD (dN (one1 lenD) (dCons (dVar 1) dNil)) (dC (.int 1)))) (by rfl) sc_height_of.nd (di_any (de_var 0 (pv 0))) (blkOk_by (own := [("place", 1)]) (N := ["spots", "place"]) (sc := defScope s_height_of) (by decide +kernel)) (fun _ _ _ _ _ => (dg_name (pg_name (i := 1) sc_height_of.nd rfl (Or.inl rfl)))) (fun _ _ _ _ _ => dts_nil) (fun _ _ _ _ _ => (de_add (de_len T.n_len (da_cons (de_var 1 (pv 1)) da_nil)) (de_c pe_int (fun _ => .int _))))))))))
theorem ok_height_of (T : Txt P w K mg) : FnG P w K mg base 1 (My.fa mg "height_of") (fdOf K (My.fa mg "height_of")) ["spots"] (spD ⟨K, w, mg⟩ none 1 fn_height_of) := fn_body none T.height_of.F sc_height_of (by decide) (bd_height_of T)
def b_Tree_init : SM := (dSeq (dAsg (dCall true none 1 [] fn_spots_of (dCons (dVar 1) dNil)) (gT 2 (gsCons (gN 2) (gsCons (gN 3) gsNil))))
  (dSeq (dIf (dT2 (isN true) (dVar 3) (dC .non))
  (dRaise "BadTold" ["place"] (dCons (dVar 3) dNil))
  dNx)
  (dSeq (dIf (dT2 gtD (dN (one1 lenD) (dCons (dVar 2) dNil)) (dC (.int 2000)))
  (dRaise "TooMany" ["what", "many", "most"] (dCons (dC (.str "places")) (dCons (dN (one1 lenD) (dCons (dVar 2) dNil)) (dCons (dC (.int 2000)) dNil))))
  dNx)
  (dSeq (dIf (dT2 gtD (dCall true none 1 [] fn_height_of (dCons (dVar 2) dNil)) (dC (.int 200)))
  (dRaise "TooMany" ["what", "many", "most"] (dCons (dC (.str "levels")) (dCons (dCall true none 1 [] fn_height_of (dCons (dVar 2) dNil)) (dCons (dC (.int 200)) dNil))))
  dNx)
  (dSeq (dSet 4 (dCall true none 1 [] fn_first_fall (dCons (dVar 2) dNil)))
  (dSeq (dIf (dT2 (isN true) (dVar 4) (dC .non))
  (dRaise "BadValue" ["place"] (dCons (dVar 4) dNil))
  dNx)
  (dSeq (dFld "Tree" "own_spots" 0 (dVar 2))
  (dSeq (dFld "Tree" "told" 0 (dCall true none 1 [] fn_told_of (dCons (dVar 2) dNil)))
  (dSeq (dFld "Tree" "size" 0 (dN (one1 lenD) (dCons (dVar 2) dNil)))
  (dFld "Tree" "height" 0 (dCall true none 1 [] fn_height_of (dCons (dVar 2) dNil))))))))))))
def fn_Tree_init : List D → FOut := runF (some 0) 5 2 b_Tree_init
theorem bd_Tree_init (T : Txt P w K mg) : Bdy P w K mg base ["self", "told", "spots", "wrong", "fall"] "Tree.__init__" s_Tree_init (mf K (My.fa mg "Tree") "__init__") 5 b_Tree_init := fun cdv A outer s H E hr tk hp => (ds_cons (ds_asg (de_callN T.spots_of T.b_spots_of (ok_spots_of T) (hr.mono (by decide)) (errTk tk) .nil (fun _ => .nil) (da_cons (de_var 1 (pv 1)) da_nil)) (dg_tup (by rfl) (dgs_cons (dg_name (pg_name (i := 2) sc_Tree_init.nd rfl (Or.inl rfl))) (dgs_cons (dg_name (pg_name (i := 3) sc_Tree_init.nd rfl (Or.inl rfl))) dgs_nil))))
  (ds_cons (ds_if (dt_isnt (de_var 3 (pv 3)) (de_c pe_non (fun _ => .non)))
  (ds_one (ds_raise T.e_BadTold hr (by decide) (by rfl) tk (da_cons (de_var 3 (pv 3)) da_nil)))
  ds_nil)
  (ds_cons (ds_if (dt_gt (de_len T.n_len (da_cons (de_var 2 (pv 2)) da_nil)) (let ⟨_, h⟩ := T.c_MOST_PLACES; de_glob (v := .int 2000) h ⟨_, rfl⟩ (fun _ => .int _)))
  (ds_one (ds_raise T.e_TooMany hr (by decide) (by rfl) tk (da_cons (de_c pe_str (fun _ => .str _)) (da_cons (de_len T.n_len (da_cons (de_var 2 (pv 2)) da_nil)) (da_cons (let ⟨_, h⟩ := T.c_MOST_PLACES; de_glob (v := .int 2000) h ⟨_, rfl⟩ (fun _ => .int _)) da_nil)))))
  ds_nil)
  (ds_cons (ds_if (dt_gt (de_callN T.height_of T.b_height_of (ok_height_of T) (hr.mono (by decide)) (errTk tk) .nil (fun _ => .nil) (da_cons (de_var 2 (pv 2)) da_nil)) (let ⟨_, h⟩ := T.c_MOST_LEVELS; de_glob (v := .int 200) h ⟨_, rfl⟩ (fun _ => .int _)))
  (ds_one (ds_raise T.e_TooMany hr (by decide) (by rfl) tk (da_cons (de_c pe_str (fun _ => .str _)) (da_cons (de_callN T.height_of T.b_height_of (ok_height_of T) (hr.mono (by decide)) (errTk tk) .nil (fun _ => .nil) (da_cons (de_var 2 (pv 2)) da_nil)) (da_cons (let ⟨_, h⟩ := T.c_MOST_LEVELS; de_glob (v := .int 200) h ⟨_, rfl⟩ (fun _ => .int _)) da_nil)))))
  ds_nil)
  (ds_cons (ds_set (fun te he => ps_set (i := 4) sc_Tree_init.nd rfl (Or.inl rfl) he) (de_callN T.first_fall T.b_first_fall (ok_first_fall T) (hr.mono (by decide)) (errTk tk) .nil (fun _ => .nil) (da_cons (de_var 2 (pv 2)) da_nil)))
  (ds_cons (ds_if (dt_isnt (de_var 4 (pv 4)) (de_c pe_non (fun _ => .non)))
  (ds_one (ds_raise T.e_BadValue hr (by decide) (by rfl) tk (da_cons (de_var 4 (pv 4)) da_nil)))
  ds_nil)
  (ds_cons (ds_fld T.f_Tree_own_spots (pv 0) (de_var 2 (pv 2)))
  (ds_cons (ds_fld T.f_Tree_told (pv 0) (de_callN T.told_of T.b_told_of (ok_told_of T) (hr.mono (by decide)) (errTk tk) .nil (fun _ => .nil) (da_cons (de_var 2 (pv 2)) da_nil)))
  (ds_cons (ds_fld T.f_Tree_size (pv 0) (de_len T.n_len (da_cons (de_var 2 (pv 2)) da_nil)))
  (ds_one (ds_fld T.f_Tree_height (pv 0) (de_callN T.height_of T.b_height_of (ok_height_of T) (hr.mono (by decide)) (errTk tk) .nil (fun _ => .nil) (da_cons (de_var 2 (pv 2)) da_nil)))))))))))))
theorem ok_Tree_init (T : Txt P w K mg) : FnG P w K mg base 6 (mf K (My.fa mg "Tree") "__init__") (fdOf K (mf K (My.fa mg "Tree") "__init__")) ["self", "told"] (spD ⟨K, w, mg⟩ (some 0) 2 fn_Tree_init) := fn_body (some 0) T.Tree_init.F sc_Tree_init (by decide) (bd_Tree_init T)
def l0_law_numbers_by : SM := (dSet 2 (d2 addD (dVar 2) (dLst (dCons (dVar 3) (dCons (d2 addD (dVar 3) (dC (.int 1))) (dCons (d2 subD (dVar 3) (dC (.int 1))) dNil))))))
def b_law_numbers_by : SM := (dSeq (dSet 2 (dLst (dCons (dCall true (some 0) 2 [] fn_law_pick (dCons (dVar 0) (dCons (dLst (dCons (dC (.int 0)) (dCons (dC (.int 1)) (dCons (d1 negD (dC (.int 1))) dNil)))) dNil))) (dCons (d2 powD (dC (.int 10)) (dC (.int 39))) (dCons (d1 negD (d2 powD (dC (.int 10)) (dC (.int 39)))) dNil)))))
  (dSeq (dFor (dItA (dVar 1)) (gN 3)
  l0_law_numbers_by)
  (dRet (dVar 2))))
def fn_law_numbers_by : List D → FOut := runF (some 0) 4 2 b_law_numbers_by
theorem bd_law_numbers_by (T : Txt P w K mg) : Bdy P w K mg base ["_law_pen", "_law_numbers", "_law_found", "_law_number"] "_law_numbers_by" s_law_numbers_by (My.fa mg "_law_numbers_by") 2 b_law_numbers_by := fun cdv A outer s H E hr tk hp => (ds_cons (ds_set (fun te he => ps_set (i := 2) sc_law_numbers_by.nd rfl (Or.inl rfl) he) (de_lst (da_cons (de_callN T.law_pick T.b_law_pick (ok_law_pick T) (hr.mono (by decide)) (errTk tk) .nil (fun _ => .nil) (da_cons (de_var 0 (pv 0)) (da_cons (de_lst (da_cons (de_c pe_int (fun _ => .int _)) (da_cons (de_c pe_int (fun _ => .int _)) (da_cons (de_neg (de_c pe_int (fun _ => .int _))) da_nil)))) da_nil))) (da_cons (de_pow (de_c pe_int (fun _ => .int _)) (de_c pe_int (fun _ => .int _))) (da_cons (de_neg (de_pow (de_c pe_int (fun _ => .int _)) (de_c pe_int (fun _ => .int _)))) da_nil)))))
  (ds_cons (ds_for hp (by rfl) (di_any (de_var 1 (pv 1))) (dg_name (pg_name (i := 3) sc_law_numbers_by.nd rfl (Or.inl rfl)))
  (ds_one (ds_set (fun te he => ps_set (i := 2) sc_law_numbers_by.nd rfl (Or.inl rfl) he) (de_add (de_var 2 (pv 2)) (de_lst (da_cons (de_var 3 (pv 3)) (da_cons (de_add (de_var 3 (pv 3)) (de_c pe_int (fun _ => .int _))) (da_cons (de_sub (de_var 3 (pv 3)) (de_c pe_int (fun _ => .int _))) da_nil))))))))
  (ds_one (ds_ret (de_var 2 (pv 2))))))
theorem ok_law_numbers_by (T : Txt P w K mg) : FnG P w K mg base 3 (My.fa mg "_law_numbers_by") (fdOf K (My.fa mg "_law_numbers_by")) ["_law_pen", "_law_numbers"] (spD ⟨K, w, mg⟩ (some 0) 2 fn_law_numbers_by) := fn_body (some 0) T.law_numbers_by.F sc_law_numbers_by (by decide) (bd_law_numbers_by T)
def l0_law_spots : SM := (dIf (dT2 (isN true) (dVar 5) (dC .non))
  (dSeq (dPut 1 (dVar 4) (d2 ixD (dVar 5) (dC (.int 1))))
  (dSet 3 (d2 addD (dVar 3) (dLst (dCons (dTup (dCons (d2 addD (dVar 4) (dC (.str "l"))) (dCons (d2 ixD (dVar 5) (dC (.int 0))) dNil))) (dCons (dTup (dCons (d2 addD (dVar 4) (dC (.str "r"))) (dCons (d2 ixD (dVar 5) (dC (.int 2))) dNil))) dNil))))))
  dNx)
def c1_law_spots : M Bool := (dT2 neW (dVar 2) (dLst dNil))
def l2_law_spots : SM := (dSeq (dSet 3 (dLst dNil))
  (dSeq (dFor (dItA (dVar 2)) (gT 2 (gsCons (gN 4) (gsCons (gN 5) gsNil)))
  l0_law_spots)
  (dSet 2 (dVar 3))))
def b_law_spots : SM := (dSeq (dPar [1, 2] (xO dNewK (xV (dLst (dCons (dTup (dCons (dC (.str "")) (dCons (dVar 0) dNil))) dNil)) xNil)))
  (dSeq (dWhile (fun _ => 1000) c1_law_spots
  l2_law_spots)
  (dRet (dVar 1))))
def fn_law_spots : List D → FOut := runF none 6 1 b_law_spots
theorem bd_law_spots (T : Txt P w K mg) : Bdy P w K mg base ["_law_told", "_law_found", "_law_row", "_law_later", "_law_place", "_law_here"] "_law_spots" s_law_spots (My.fa mg "_law_spots") 0 b_law_spots := fun cdv A outer s H E hr tk hp => (ds_cons (ds_par2 (fun ta ha => ps_par (by rfl) sc_law_spots.nd (i := 1) (j := 2) rfl rfl (by decide) rfl rfl ha (by rfl)) (dx_o df_newK (dx_v (de_lst (da_cons (de_tup (da_cons (de_c pe_str (fun _ => .str _)) (da_cons (de_var 0 (pv 0)) da_nil))) da_nil)) dx_nil)))
  (ds_cons (ds_while (fun _ => 1000) hp (dt_neW hr (de_var 2 (pv 2)) (de_lst da_nil))
  (ds_cons (ds_set (fun te he => ps_set (i := 3) sc_law_spots.nd rfl (Or.inl rfl) he) (de_lst da_nil))
  (ds_cons (ds_for hp (by rfl) (di_any (de_var 2 (pv 2))) (dg_tup (by rfl) (dgs_cons (dg_name (pg_name (i := 4) sc_law_spots.nd rfl (Or.inl rfl))) (dgs_cons (dg_name (pg_name (i := 5) sc_law_spots.nd rfl (Or.inl rfl))) dgs_nil)))
  (ds_one (ds_if (dt_isnt (de_var 5 (pv 5)) (de_c pe_non (fun _ => .non)))
  (ds_cons (ds_put hr (pv 1) (de_var 4 (pv 4)) (de_ix hr (de_var 5 (pv 5)) (de_c pe_int (fun _ => .int _))))
  (ds_one (ds_set (fun te he => ps_set (i := 3) sc_law_spots.nd rfl (Or.inl rfl) he) (de_add (de_var 3 (pv 3)) (de_lst (da_cons (de_tup (da_cons (de_add (de_var 4 (pv 4)) (de_c pe_str (fun _ => .str _))) (da_cons (de_ix hr (de_var 5 (pv 5)) (de_c pe_int (fun _ => .int _))) da_nil))) (da_cons (de_tup (da_cons (de_add (de_var 4 (pv 4)) (de_c pe_str (fun _ => .str _))) (da_cons (de_ix hr (de_var 5 (pv 5)) (de_c pe_int (fun _ => .int _))) da_nil))) da_nil)))))))
  ds_nil)))
  (ds_one (ds_set (fun te he => ps_set (i := 2) sc_law_spots.nd rfl (Or.inl rfl) he) (de_var 3 (pv 3)))))))
  (ds_one (ds_ret (de_var 1 (pv 1))))))
theorem ok_law_spots (T : Txt P w K mg) : FnG P w K mg base 1 (My.fa mg "_law_spots") (fdOf K (My.fa mg "_law_spots")) ["_law_told"] (spD ⟨K, w, mg⟩ none 1 fn_law_spots) := fn_body none T.law_spots.F sc_law_spots (by decide) (bd_law_spots T)
def b_law_lists (rec : List D → FOut) : SM := (dSeq (dIf (dT2 (isN false) (dVar 1) (dC .non))
  (dRet (dC .non))
  dNx)
  (dSeq (dSet 2 (dLst (dCons (dCall true (some 0) 2 [] rec (dCons (dVar 0) (dCons (d2 ixD (dVar 1) (dC (.int 0))) dNil))) (dCons (d2 ixD (dVar 1) (dC (.int 1))) (dCons (dCall true (some 0) 2 [] rec (dCons (dVar 0) (dCons (d2 ixD (dVar 1) (dC (.int 2))) dNil))) dNil)))))
  (dRet (dIfE (dT2 eqD (dCall true (some 0) 2 [] fn_law_draw (dCons (dVar 0) (dCons (dC (.int 2)) dNil))) (dC (.int 0))) (dVar 2) (dN (one1 tupleD) (dCons (dVar 2) dNil))))))
def fn_law_lists : Nat → List D → FOut
  | 0 => fun _ => .bad
  | n + 1 => runF (some 0) 3 2 (b_law_lists (fn_law_lists n))
theorem bd_law_lists (T : Txt P w K mg) {n : Nat} {rec : List D → FOut} (hrec : FnG P w K mg base (1 + n) (My.fa mg "_law_lists") (fdOf K (My.fa mg "_law_lists")) ["_law_pen", "_law_told"] (spD ⟨K, w, mg⟩ (some 0) 2 rec)) : Bdy P w K mg base ["_law_pen", "_law_told", "_law_parts"] "_law_lists" s_law_lists (My.fa mg "_law_lists") (1 + n) (b_law_lists rec) := fun cdv A outer s H E hr tk hp => (ds_cons (ds_if (dt_is (de_var 1 (pv 1)) (de_c pe_non (fun _ => .non)))
  (ds_one (ds_ret (de_c pe_non (fun _ => .non))))
  ds_nil)
  (ds_cons (ds_set (fun te he => ps_set (i := 2) sc_law_lists.nd rfl (Or.inl rfl) he) (de_lst (da_cons (de_callN T.law_lists T.b_law_lists hrec hr (errTk tk) .nil (fun _ => .nil) (da_cons (de_var 0 (pv 0)) (da_cons (de_ix hr (de_var 1 (pv 1)) (de_c pe_int (fun _ => .int _))) da_nil))) (da_cons (de_ix hr (de_var 1 (pv 1)) (de_c pe_int (fun _ => .int _))) (da_cons (de_callN T.law_lists T.b_law_lists hrec hr (errTk tk) .nil (fun _ => .nil) (da_cons (de_var 0 (pv 0)) (da_cons (de_ix hr (de_var 1 (pv 1)) (de_c pe_int (fun _ => .int _))) da_nil))) da_nil)))))
  (ds_one (ds_ret (de_if (dt_eq hr (de_callN T.law_draw T.b_law_draw (ok_law_draw T) (hr.mono (by omega)) (errTk tk) .nil (fun _ => .nil) (da_cons (de_var 0 (pv 0)) (da_cons (de_c pe_int (fun _ => .int _)) da_nil))) (de_c pe_int (fun _ => .int _))) (de_var 2 (pv 2)) (de_tuple T.n_tuple (da_cons (de_var 2 (pv 2)) da_nil)))))))
theorem ok_law_lists (T : Txt P w K mg) : ∀ n, FnG P w K mg base (1 + n) (My.fa mg "_law_lists") (fdOf K (My.fa mg "_law_lists")) ["_law_pen", "_law_told"] (spD ⟨K, w, mg⟩ (some 0) 2 (fn_law_lists n))
  | 0 => fn_bad
  | n + 1 => fn_body (some 0) T.law_lists.F sc_law_lists (by decide) (bd_law_lists T (ok_law_lists T n))
def b_law_row_of (rec : List D → FOut) : SM := (dSeq (dIf (dT2 ninD (dVar 1) (dVar 0))
  (dRet (dLst dNil))
  dNx)
  (dRet (d2 addD (d2 addD (dCall true none 2 [] rec (dCons (dVar 0) (dCons (d2 addD (dVar 1) (dC (.str "l"))) dNil))) (dLst (dCons (dVar 1) dNil))) (dCall true none 2 [] rec (dCons (dVar 0) (dCons (d2 addD (dVar 1) (dC (.str "r"))) dNil))))))
def fn_law_row_of : Nat → List D → FOut
  | 0 => fun _ => .bad
  | n + 1 => runF none 2 2 (b_law_row_of (fn_law_row_of n))
theorem bd_law_row_of (T : Txt P w K mg) {n : Nat} {rec : List D → FOut} (hrec : FnG P w K mg base (1 + n) (My.fa mg "_law_row_of") (fdOf K (My.fa mg "_law_row_of")) ["_law_spots_here", "_law_place"] (spD ⟨K, w, mg⟩ none 2 rec)) : Bdy P w K mg base ["_law_spots_here", "_law_place"] "_law_row_of" s_law_row_of (My.fa mg "_law_row_of") (1 + n) (b_law_row_of rec) := fun cdv A outer s H E hr tk hp => (ds_cons (ds_if (dt_nin hr (de_var 1 (pv 1)) (de_var 0 (pv 0)))
  (ds_one (ds_ret (de_lst da_nil)))
  ds_nil)
  (ds_one (ds_ret (de_add (de_add (de_callN T.law_row_of T.b_law_row_of hrec hr (errTk tk) .nil (fun _ => .nil) (da_cons (de_var 0 (pv 0)) (da_cons (de_add (de_var 1 (pv 1)) (de_c pe_str (fun _ => .str _))) da_nil))) (de_lst (da_cons (de_var 1 (pv 1)) da_nil))) (de_callN T.law_row_of T.b_law_row_of hrec hr (errTk tk) .nil (fun _ => .nil) (da_cons (de_var 0 (pv 0)) (da_cons (de_add (de_var 1 (pv 1)) (de_c pe_str (fun _ => .str _))) da_nil)))))))
theorem ok_law_row_of (T : Txt P w K mg) : ∀ n, FnG P w K mg base (1 + n) (My.fa mg "_law_row_of") (fdOf K (My.fa mg "_law_row_of")) ["_law_spots_here", "_law_place"] (spD ⟨K, w, mg⟩ none 2 (fn_law_row_of n))
  | 0 => fn_bad
  | n + 1 => fn_body none T.law_row_of.F sc_law_row_of (by decide) (bd_law_row_of T (ok_law_row_of T n))
def b_Tree_places : SM := (dRetF (dCallF true none 1 [] fn_in_order (dCons (d1 (fldC ["Tree"] "own_spots") (dVar 0)) dNil)))
def fn_Tree_places : List D → FOut := runFF none 1 1 b_Tree_places
theorem bd_Tree_places (T : Txt P w K mg) : Bdy P w K mg base ["self"] "Tree.places" s_Tree_places (mf K (My.fa mg "Tree") "places") 4 b_Tree_places := fun cdv A outer s H E hr tk hp => (ds_one (ds_retF (df_call T.in_order T.b_in_order (ok_in_order T) (hr.mono (by decide)) (errTk tk) .nil (fun _ => .nil) (da_cons (de_fld T.f_own_spots (de_var 0 (pv 0))) da_nil))))
theorem ok_Tree_places (T : Txt P w K mg) : FnG P w K mg base 5 (mf K (My.fa mg "Tree") "places") (fdOf K (mf K (My.fa mg "Tree") "places")) ["self"] (spF ⟨K, w, mg⟩ none 1 fn_Tree_places) := fn_bodyF none T.Tree_places.F sc_Tree_places (by decide) (bd_Tree_places T)
def b_Tree_row : SM := (dRet (dN (one1 tupleD) (dCons (dFr (dLc (dItA (dFr (dMethF "Tree" "places" true none 0 [] fn_Tree_places (dVar 0) dNil))) (gN 1) dYes (d2 ixD (d1 (fldC ["Tree"] "own_spots") (dVar 0)) (dVar 1)) [1])) dNil)))
def fn_Tree_row : List D → FOut := runF none 2 1 b_Tree_row
theorem bd_Tree_row (T : Txt P w K mg) : Bdy P w K mg base ["self", "place"] "Tree.row" s_Tree_row (mf K (My.fa mg "Tree") "row") 5 b_Tree_row := fun cdv A outer s H E hr tk hp => (ds_one (ds_ret (de_tuple T.n_tuple (da_cons (DF.de (df_lc (pe_lc (own := [("place", 1)]) (g := tG ⟨K, w, mg⟩ (gN 1) [1]) (tt := tQ ⟨K, w, mg⟩ (fun cls d _ H => E cls d H) dYes) (te := tP ⟨K, w, mg⟩ (fun cls d _ H => E cls d H) (d2 ixD (d1 (fldC ["Tree"] "own_spots") (dVar 0)) (dVar 1))) (by rfl) sc_Tree_row.nd (di_any (DF.de (df_meth0 (pl := _) (de_var 0 (pv 0)) T.Tree_places.cl T.Tree_places.me T.b_Tree_places (ok_Tree_places T) (hr.mono (by decide)) (errTk tk) .nil (fun _ => .nil)))) (blkOk_by (own := [("place", 1)]) (N := ["self", "place"]) (sc := defScope s_Tree_row) (by decide +kernel)) (fun _ _ _ _ _ => (dg_name (pg_name (i := 1) sc_Tree_row.nd rfl (Or.inl rfl)))) (fun _ _ _ _ _ => dts_nil) (fun _ _ _ _ _ => (de_ix hr (de_fld T.f_own_spots (de_var 0 (pv 0))) (de_var 1 (pv 1))))))) da_nil))))
theorem ok_Tree_row (T : Txt P w K mg) : FnG P w K mg base 6 (mf K (My.fa mg "Tree") "row") (fdOf K (mf K (My.fa mg "Tree") "row")) ["self"] (spD ⟨K, w, mg⟩ none 1 fn_Tree_row) := fn_body none T.Tree_row.F sc_Tree_row (by decide) (bd_Tree_row T)
def b_Tree_has : SM := (dRet (dAndV (d1 (isG gStrT ((["Tree"] : List Str).map fun c => (c, false))) (dVar 1)) (d2 inD (dVar 1) (d1 (fldC ["Tree"] "own_spots") (dVar 0)))))
def fn_Tree_has : List D → FOut := runF none 2 2 b_Tree_has
theorem bd_Tree_has (T : Txt P w K mg) : Bdy P w K mg base ["self", "place"] "Tree.has" s_Tree_has (mf K (My.fa mg "Tree") "has") 0 b_Tree_has := fun cdv A outer s H E hr tk hp => (ds_one (ds_ret (de_and (de_isStr (cs := ["Tree"]) T.ins T.n_isinstance T.n_str (de_var 1 (pv 1))) (de_one (de_in hr (de_var 1 (pv 1)) (de_fld T.f_own_spots (de_var 0 (pv 0))))))))
theorem ok_Tree_has (T : Txt P w K mg) : FnG P w K mg base 1 (mf K (My.fa mg "Tree") "has") (fdOf K (mf K (My.fa mg "Tree") "has")) ["self", "place"] (spD ⟨K, w, mg⟩ none 2 fn_Tree_has) := fn_body none T.Tree_has.F sc_Tree_has (by decide) (bd_Tree_has T)
def b_Tree_need : SM := (dIf (dNot (dB (dMeth "Tree" "has" true none 1 [] fn_Tree_has (dVar 0) (dCons (dVar 1) dNil))))
  (dRaise "NoPlace" ["place"] (dCons (dVar 1) dNil))
  dNx)
def fn_Tree_need : List D → FOut := runF none 2 2 b_Tree_need
theorem bd_Tree_need (T : Txt P w K mg) : Bdy P w K mg base ["self", "place"] "Tree.need" s_Tree_need (mf K (My.fa mg "Tree") "need") 1 b_Tree_need := fun cdv A outer s H E hr tk hp => (ds_one (ds_if (dt_not (dt_b (de_methN (pl := _) (de_var 0 (pv 0)) T.Tree_has.cl T.Tree_has.me T.b_Tree_has (ok_Tree_has T) (hr.mono (by decide)) (errTk tk) .nil (fun _ => .nil) (da_cons (de_var 1 (pv 1)) da_nil))))
  (ds_one (ds_raise T.e_NoPlace hr (by decide) (by rfl) tk (da_cons (de_var 1 (pv 1)) da_nil)))
  ds_nil))
theorem ok_Tree_need (T : Txt P w K mg) : FnG P w K mg base 2 (mf K (My.fa mg "Tree") "need") (fdOf K (mf K (My.fa mg "Tree") "need")) ["self", "place"] (spD ⟨K, w, mg⟩ none 2 fn_Tree_need) := fn_body none T.Tree_need.F sc_Tree_need (by decide) (bd_Tree_need T)
def b_Tree_value : SM := (dSeq (dDrop (dMeth "Tree" "need" true none 1 [] fn_Tree_need (dVar 0) (dCons (dVar 1) dNil)))
  (dRet (d2 ixD (d1 (fldC ["Tree"] "own_spots") (dVar 0)) (dVar 1))))
def fn_Tree_value : List D → FOut := runF none 2 2 b_Tree_value
theorem bd_Tree_value (T : Txt P w K mg) : Bdy P w K mg base ["self", "place"] "Tree.value" s_Tree_value (mf K (My.fa mg "Tree") "value") 2 b_Tree_value := fun cdv A outer s H E hr tk hp => (ds_cons (ds_expr (de_methN (pl := _) (de_var 0 (pv 0)) T.Tree_need.cl T.Tree_need.me T.b_Tree_need (ok_Tree_need T) (hr.mono (by decide)) (errTk tk) .nil (fun _ => .nil) (da_cons (de_var 1 (pv 1)) da_nil)))
  (ds_one (ds_ret (de_ix hr (de_fld T.f_own_spots (de_var 0 (pv 0))) (de_var 1 (pv 1))))))
theorem ok_Tree_value (T : Txt P w K mg) : FnG P w K mg base 3 (mf K (My.fa mg "Tree") "value") (fdOf K (mf K (My.fa mg "Tree") "value")) ["self", "place"] (spD ⟨K, w, mg⟩ none 2 fn_Tree_value) := fn_body none T.Tree_value.F sc_Tree_value (by decide) (bd_Tree_value T)
def b_Tree_sides : SM := (dSeq (dDrop (dMeth "Tree" "need" true none 1 [] fn_Tree_need (dVar 0) (dCons (dVar 1) dNil)))
  (dRet (dJoin (dC (.str "")) (dFr (dLc (dItA (dC (.str "lr"))) (gN 2) (dT2 inD (d2 addD (dVar 1) (dVar 2)) (d1 (fldC ["Tree"] "own_spots") (dVar 0))) (dVar 2) [2])))))
def fn_Tree_sides : List D → FOut := runF none 3 2 b_Tree_sides
theorem bd_Tree_sides (T : Txt P w K mg) : Bdy P w K mg base ["self", "place", "sign"] "Tree.sides" s_Tree_sides (mf K (My.fa mg "Tree") "sides") 2 b_Tree_sides := fun cdv A outer s H E hr tk hp => (ds_cons (ds_expr (de_methN (pl := _) (de_var 0 (pv 0)) T.Tree_need.cl T.Tree_need.me T.b_Tree_need (ok_Tree_need T) (hr.mono (by decide)) (errTk tk) .nil (fun _ => .nil) (da_cons (de_var 1 (pv 1)) da_nil)))
  (ds_one (ds_ret (de_join (de_c pe_str (fun _ => .str _)) (DF.de (df_lc (pe_lc (own := [("sign", 2)]) (g := tG ⟨K, w, mg⟩ (gN 2) [2]) (tt := tQ ⟨K, w, mg⟩ (fun cls d _ H => E cls d H) (dT2 inD (d2 addD (dVar 1) (dVar 2)) (d1 (fldC ["Tree"] "own_spots") (dVar 0)))) (te := tP ⟨K, w, mg⟩ (fun cls d _ H => E cls d H) (dVar 2)) (by rfl) sc_Tree_sides.nd (di_any (de_c pe_str (fun _ => .str _))) (blkOk_by (own := [("sign", 2)]) (N := ["self", "place", "sign"]) (sc := defScope s_Tree_sides) (by decide +kernel)) (fun _ _ _ _ _ => (dg_name (pg_name (i := 2) sc_Tree_sides.nd rfl (Or.inl rfl)))) (fun _ _ _ _ _ => (dts_one (dt_in hr (de_add (de_var 1 (pv 1)) (de_var 2 (pv 2))) (de_fld T.f_own_spots (de_var 0 (pv 0)))))) (fun _ _ _ _ _ => (de_var 2 (pv 2))))))))))
theorem ok_Tree_sides (T : Txt P w K mg) : FnG P w K mg base 3 (mf K (My.fa mg "Tree") "sides") (fdOf K (mf K (My.fa mg "Tree") "sides")) ["self", "place"] (spD ⟨K, w, mg⟩ none 2 fn_Tree_sides) := fn_body none T.Tree_sides.F sc_Tree_sides (by decide) (bd_Tree_sides T)
def l0_law_is_read : SM := (dSeq (dSet 5 (dJoin (dC (.str "")) (dFr (dLc (dItA (dC (.str "lr"))) (gN 6) (dT2 inD (d2 addD (dVar 4) (dVar 6)) (dVar 1)) (dVar 6) [6]))))
  (dIf (dOr (dT2 neD (dMeth "Tree" "value" true none 1 [] fn_Tree_value (dVar 0) (dCons (dVar 4) dNil)) (d2 ixD (dVar 1) (dVar 4))) (dOr (dT2 neD (dMeth "Tree" "sides" true none 1 [] fn_Tree_sides (dVar 0) (dCons (dVar 4) dNil)) (dVar 5)) (dT2 (isBD true) (dMeth "Tree" "has" true none 1 [] fn_Tree_has (dVar 0) (dCons (dVar 4) dNil)) (dC (.bl true)))))
  (dRet (dC (.bl false)))
  dNx))
def b_law_is_read : SM := (dSeq (dSet 3 (dCall true none 2 [] (fn_law_row_of 14) (dCons (dVar 1) (dCons (dC (.str "")) dNil))))
  (dSeq (dIf (dOr (dT2 neD (d1 (fldC ["Tree"] "told") (dVar 0)) (dVar 2)) (dOr (dT2 neD (d1 (fldC ["Tree"] "size") (dVar 0)) (dN (one1 lenD) (dCons (dVar 3) dNil))) (dT2 neD (dFr (dMethF "Tree" "places" true none 0 [] fn_Tree_places (dVar 0) dNil)) (dVar 3))))
  (dRet (dC (.bl false)))
  dNx)
  (dSeq (dIf (dT2 neD (dMeth "Tree" "row" true none 0 [] fn_Tree_row (dVar 0) dNil) (dN (one1 tupleD) (dCons (dFr (dLc (dItA (dVar 3)) (gN 4) dYes (d2 ixD (dVar 1) (dVar 4)) [4])) dNil)))
  (dRet (dC (.bl false)))
  dNx)
  (dSeq (dIf (dT2 neD (d1 (fldC ["Tree"] "height") (dVar 0)) (dN (one1 maxD1) (dCons (d2 addD (dFr (dLc (dItA (dVar 3)) (gN 4) dYes (d2 addD (dN (one1 lenD) (dCons (dVar 4) dNil)) (dC (.int 1))) [4])) (dLst (dCons (dC (.int 0)) dNil))) dNil)))
  (dRet (dC (.bl false)))
  dNx)
  (dSeq (dFor (dItA (dVar 3)) (gN 4)
  l0_law_is_read)
  (dRet (dC (.bl true))))))))
def fn_law_is_read : List D → FOut := runF none 7 3 b_law_is_read
theorem bd_law_is_read (T : Txt P w K mg) : Bdy P w K mg base ["_law_tree", "_law_spots_here", "_law_told", "_law_places", "_law_place", "_law_due", "_law_sign"] "_law_is_read" s_law_is_read (My.fa mg "_law_is_read") 15 b_law_is_read := fun cdv A outer s H E hr tk hp => (ds_cons (ds_set (fun te he => ps_set (i := 3) sc_law_is_read.nd rfl (Or.inl rfl) he) (de_callN T.law_row_of T.b_law_row_of (ok_law_row_of T 14) (hr.mono (by decide)) (errTk tk) .nil (fun _ => .nil) (da_cons (de_var 1 (pv 1)) (da_cons (de_c pe_str (fun _ => .str _)) da_nil))))
  (ds_cons (ds_if (PW.pt (dw_or (dt_ne hr (de_fld T.f_told (de_var 0 (pv 0))) (de_var 2 (pv 2))) (dw_or (dt_ne hr (de_fld T.f_size (de_var 0 (pv 0))) (de_len T.n_len (da_cons (de_var 3 (pv 3)) da_nil))) (dw_or1 (dt_ne hr (DF.de (df_meth0 (pl := _) (de_var 0 (pv 0)) T.Tree_places.cl T.Tree_places.me T.b_Tree_places (ok_Tree_places T) (hr.mono (by decide)) (errTk tk) .nil (fun _ => .nil))) (de_var 3 (pv 3)))))))
  (ds_one (ds_ret (de_c pe_bl (fun _ => .bl _))))
  ds_nil)
  (ds_cons (ds_if (dt_ne hr (de_meth0N (pl := _) (de_var 0 (pv 0)) T.Tree_row.cl T.Tree_row.me T.b_Tree_row (ok_Tree_row T) (hr.mono (by decide)) (errTk tk) .nil (fun _ => .nil)) (de_tuple T.n_tuple (da_cons (DF.de (df_lc (pe_lc (own := [("_law_place", 4)]) (g := tG ⟨K, w, mg⟩ (gN 4) [4]) (tt := tQ ⟨K, w, mg⟩ (fun cls d _ H => E cls d H) dYes) (te := tP ⟨K, w, mg⟩ (fun cls d _ H => E cls d H) (d2 ixD (dVar 1) (dVar 4))) (by rfl) sc_law_is_read.nd (di_any (de_var 3 (pv 3))) (blkOk_by (own := [("_law_place", 4)]) (N := ["_law_tree", "_law_spots_here", "_law_told", "_law_places", "_law_place", "_law_due", "_law_sign"]) (sc := defScope s_law_is_read) (by decide +kernel)) (fun _ _ _ _ _ => (dg_name (pg_name (i := 4) sc_law_is_read.nd rfl (Or.inl rfl)))) (fun _ _ _ _ _ => dts_nil) (fun _ _ _ _ _ => (de_ix hr (de_var 1 (pv 1)) (de_var 4 (pv 4))))))) da_nil)))
  (ds_one (ds_ret (de_c pe_bl (fun _ => .bl _))))
  ds_nil)
  (ds_cons (ds_if (dt_ne hr (de_fld T.f_height (de_var 0 (pv 0))) (de_max1 T.n_max (by rfl) (da_cons (de_add (DF.de (df_lc (pe_lc (own := [("_law_place", 4)]) (g := tG ⟨K, w, mg⟩ (gN 4) [4]) (tt := tQ ⟨K, w, mg⟩ (fun cls d _ H => E cls d H) dYes) (te := tP ⟨K, w, mg⟩ (fun cls d _ H => E cls d H) (d2 addD (dN (one1 lenD) (dCons (dVar 4) dNil)) (dC (.int 1)))) (by rfl) sc_law_is_read.nd (di_any (de_var 3 (pv 3))) (blkOk_by (own := [("_law_place", 4)]) (N := ["_law_tree", "_law_spots_here", "_law_told", "_law_places", "_law_place", "_law_due", "_law_sign"]) (sc := defScope s_law_is_read) (by decide +kernel)) (fun _ _ _ _ _ => (dg_name (pg_name (i := 4) sc_law_is_read.nd rfl (Or.inl rfl)))) (fun _ _ _ _ _ => dts_nil) (fun _ _ _ _ _ => (de_add (de_len T.n_len (da_cons (de_var 4 (pv 4)) da_nil)) (de_c pe_int (fun _ => .int _))))))) (de_lst (da_cons (de_c pe_int (fun _ => .int _)) da_nil))) da_nil)))
  (ds_one (ds_ret (de_c pe_bl (fun _ => .bl _))))
  ds_nil)
  (ds_cons (ds_for hp (by rfl) (di_any (de_var 3 (pv 3))) (dg_name (pg_name (i := 4) sc_law_is_read.nd rfl (Or.inr rfl)))
  (ds_cons (ds_set (fun te he => ps_set (i := 5) sc_law_is_read.nd rfl (Or.inl rfl) he) (de_join (de_c pe_str (fun _ => .str _)) (DF.de (df_lc (pe_lc (own := [("_law_sign", 6)]) (g := tG ⟨K, w, mg⟩ (gN 6) [6]) (tt := tQ ⟨K, w, mg⟩ (fun cls d _ H => E cls d H) (dT2 inD (d2 addD (dVar 4) (dVar 6)) (dVar 1))) (te := tP ⟨K, w, mg⟩ (fun cls d _ H => E cls d H) (dVar 6)) (by rfl) sc_law_is_read.nd (di_any (de_c pe_str (fun _ => .str _))) (blkOk_by (own := [("_law_sign", 6)]) (N := ["_law_tree", "_law_spots_here", "_law_told", "_law_places", "_law_place", "_law_due", "_law_sign"]) (sc := defScope s_law_is_read) (by decide +kernel)) (fun _ _ _ _ _ => (dg_name (pg_name (i := 6) sc_law_is_read.nd rfl (Or.inl rfl)))) (fun _ _ _ _ _ => (dts_one (dt_in hr (de_add (de_var 4 (pv 4)) (de_var 6 (pv 6))) (de_var 1 (pv 1))))) (fun _ _ _ _ _ => (de_var 6 (pv 6))))))))
  (ds_one (ds_if (PW.pt (dw_or (dt_ne hr (de_methN (pl := _) (de_var 0 (pv 0)) T.Tree_value.cl T.Tree_value.me T.b_Tree_value (ok_Tree_value T) (hr.mono (by decide)) (errTk tk) .nil (fun _ => .nil) (da_cons (de_var 4 (pv 4)) da_nil)) (de_ix hr (de_var 1 (pv 1)) (de_var 4 (pv 4)))) (dw_or (dt_ne hr (de_methN (pl := _) (de_var 0 (pv 0)) T.Tree_sides.cl T.Tree_sides.me T.b_Tree_sides (ok_Tree_sides T) (hr.mono (by decide)) (errTk tk) .nil (fun _ => .nil) (da_cons (de_var 4 (pv 4)) da_nil)) (de_var 5 (pv 5))) (dw_or1 (dt_ntB (de_methN (pl := _) (de_var 0 (pv 0)) T.Tree_has.cl T.Tree_has.me T.b_Tree_has (ok_Tree_has T) (hr.mono (by decide)) (errTk tk) .nil (fun _ => .nil) (da_cons (de_var 4 (pv 4)) da_nil)) (de_c pe_bl (fun _ => .bl _)))))))
  (ds_one (ds_ret (de_c pe_bl (fun _ => .bl _))))
  ds_nil))))
  (ds_one (ds_ret (de_c pe_bl (fun _ => .bl _)))))))))
theorem ok_law_is_read (T : Txt P w K mg) : FnG P w K mg base 16 (My.fa mg "_law_is_read") (fdOf K (My.fa mg "_law_is_read")) ["_law_tree", "_law_spots_here", "_law_told"] (spD ⟨K, w, mg⟩ none 3 fn_law_is_read) := fn_body none T.law_is_read.F sc_law_is_read (by decide) (bd_law_is_read T)
def b_Tree_eq : SM := (dRet (dAndV (d1 (isG gNo ((["Tree"] : List Str).map fun c => (c, decide (c = "Tree")))) (dVar 1)) (d2 eqD (d1 (fldC ["Tree"] "told") (dVar 0)) (d1 (fldC ["Tree"] "told") (dVar 1)))))
def fn_Tree_eq : List D → FOut := runF none 2 2 b_Tree_eq
theorem bd_Tree_eq (T : Txt P w K mg) : Bdy P w K mg base ["self", "other"] "Tree.__eq__" s_Tree_eq (mf K (My.fa mg "Tree") "__eq__") 0 b_Tree_eq := fun cdv A outer s H E hr tk hp => (ds_one (ds_ret (de_and (de_isOwn (by decide) T.iso_Tree T.n_isinstance T.c_Tree (de_var 1 (pv 1))) (de_one (de_eq hr (de_fld T.f_told (de_var 0 (pv 0))) (de_fld T.f_told (de_var 1 (pv 1))))))))
theorem ok_Tree_eq (T : Txt P w K mg) : FnG P w K mg base 1 (mf K (My.fa mg "Tree") "__eq__") (fdOf K (mf K (My.fa mg "Tree") "__eq__")) ["self", "other"] (spD ⟨K, w, mg⟩ none 2 fn_Tree_eq) := fn_body none T.Tree_eq.F sc_Tree_eq (by decide) (bd_Tree_eq T)
def c0_law_search : M Bool := (dT2 inD (dVar 2) (dVar 0))
def l1_law_search : SM := (dSeq (dIf (dT2 eqD (d2 ixD (dVar 0) (dVar 2)) (dVar 1))
  (dRet (dTup (dCons (dVar 2) (dCons (dC .non) dNil))))
  dNx)
  (dSeq (dSet 3 (dIfE (dT2 ltD (dVar 1) (d2 ixD (dVar 0) (dVar 2))) (dC (.str "left")) (dC (.str "right"))))
  (dSet 2 (d2 addD (dVar 2) (d2 ixD (dVar 3) (dC (.int 0)))))))
def b_law_search : SM := (dSeq (dAsg (dTup (dCons (dC (.str "")) (dCons (dC .non) dNil))) (gT 2 (gsCons (gN 2) (gsCons (gN 3) gsNil))))
  (dSeq (dWhile (fun _ => 1000) c0_law_search
  l1_law_search)
  (dRet (dTup (dCons (dC .non) (dCons (dIfE (dT2 (isN false) (dVar 3) (dC .non)) (dC .non) (dTup (dCons (dSl (dVar 2) pNone (pSome (d1 negD (dC (.int 1))))) (dCons (dVar 3) dNil)))) dNil))))))
def fn_law_search : List D → FOut := runF none 4 2 b_law_search
theorem bd_law_search (T : Txt P w K mg) : Bdy P w K mg base ["_law_spots_here", "_law_number", "_law_place", "_law_side"] "_law_search" s_law_search (My.fa mg "_law_search") 0 b_law_search := fun cdv A outer s H E hr tk hp => (ds_cons (ds_asg (de_tup (da_cons (de_c pe_str (fun _ => .str _)) (da_cons (de_c pe_non (fun _ => .non)) da_nil))) (dg_tup (by rfl) (dgs_cons (dg_name (pg_name (i := 2) sc_law_search.nd rfl (Or.inl rfl))) (dgs_cons (dg_name (pg_name (i := 3) sc_law_search.nd rfl (Or.inl rfl))) dgs_nil))))
  (ds_cons (ds_while (fun _ => 1000) hp (dt_in hr (de_var 2 (pv 2)) (de_var 0 (pv 0)))
  (ds_cons (ds_if (dt_eq hr (de_ix hr (de_var 0 (pv 0)) (de_var 2 (pv 2))) (de_var 1 (pv 1)))
  (ds_one (ds_ret (de_tup (da_cons (de_var 2 (pv 2)) (da_cons (de_c pe_non (fun _ => .non)) da_nil)))))
  ds_nil)
  (ds_cons (ds_set (fun te he => ps_set (i := 3) sc_law_search.nd rfl (Or.inl rfl) he) (de_if (dt_lt (de_var 1 (pv 1)) (de_ix hr (de_var 0 (pv 0)) (de_var 2 (pv 2)))) (de_c pe_str (fun _ => .str _)) (de_c pe_str (fun _ => .str _))))
  (ds_one (ds_set (fun te he => ps_set (i := 2) sc_law_search.nd rfl (Or.inl rfl) he) (de_add (de_var 2 (pv 2)) (de_ix hr (de_var 3 (pv 3)) (de_c pe_int (fun _ => .int _)))))))))
  (ds_one (ds_ret (de_tup (da_cons (de_c pe_non (fun _ => .non)) (da_cons (de_if (dt_is (de_var 3 (pv 3)) (de_c pe_non (fun _ => .non))) (de_c pe_non (fun _ => .non)) (de_tup (da_cons (de_slice (de_var 2 (pv 2)) do_none (do_some (de_neg (de_c pe_int (fun _ => .int _))))) (da_cons (de_var 3 (pv 3)) da_nil)))) da_nil)))))))
theorem ok_law_search (T : Txt P w K mg) : FnG P w K mg base 1 (My.fa mg "_law_search") (fdOf K (My.fa mg "_law_search")) ["_law_spots_here", "_law_number"] (spD ⟨K, w, mg⟩ none 2 fn_law_search) := fn_body none T.law_search.F sc_law_search (by decide) (bd_law_search T)
def c0_Tree_search : M Bool := (dT2 inD (dVar 2) (d1 (fldC ["Tree"] "own_spots") (dVar 0)))
def l1_Tree_search : SM := (dSeq (dIf (dT2 eqD (d2 ixD (d1 (fldC ["Tree"] "own_spots") (dVar 0)) (dVar 2)) (dVar 1))
  (dRet (dTup (dCons (dVar 2) (dCons (dC .non) dNil))))
  dNx)
  (dSet 2 (d2 addD (dVar 2) (dIfE (dT2 ltD (dVar 1) (d2 ixD (d1 (fldC ["Tree"] "own_spots") (dVar 0)) (dVar 2))) (dC (.str "l")) (dC (.str "r"))))))
def b_Tree_search : SM := (dSeq (dSet 2 (dC (.str "")))
  (dSeq (dWhile (fun _ => 100000) c0_Tree_search
  l1_Tree_search)
  (dRet (dTup (dCons (dSl (dVar 2) pNone (pSome (d1 negD (dC (.int 1))))) (dCons (dSl (dVar 2) (pSome (d1 negD (dC (.int 1)))) pNone) dNil))))))
def fn_Tree_search : List D → FOut := runF none 3 2 b_Tree_search
theorem bd_Tree_search (T : Txt P w K mg) : Bdy P w K mg base ["self", "number", "place"] "Tree.search" s_Tree_search (mf K (My.fa mg "Tree") "search") 0 b_Tree_search := fun cdv A outer s H E hr tk hp => (ds_cons (ds_set (fun te he => ps_set (i := 2) sc_Tree_search.nd rfl (Or.inl rfl) he) (de_c pe_str (fun _ => .str _)))
  (ds_cons (ds_while (fun _ => 100000) hp (dt_in hr (de_var 2 (pv 2)) (de_fld T.f_own_spots (de_var 0 (pv 0))))
  (ds_cons (ds_if (dt_eq hr (de_ix hr (de_fld T.f_own_spots (de_var 0 (pv 0))) (de_var 2 (pv 2))) (de_var 1 (pv 1)))
  (ds_one (ds_ret (de_tup (da_cons (de_var 2 (pv 2)) (da_cons (de_c pe_non (fun _ => .non)) da_nil)))))
  ds_nil)
  (ds_one (ds_set (fun te he => ps_set (i := 2) sc_Tree_search.nd rfl (Or.inl rfl) he) (de_add (de_var 2 (pv 2)) (de_if (dt_lt (de_var 1 (pv 1)) (de_ix hr (de_fld T.f_own_spots (de_var 0 (pv 0))) (de_var 2 (pv 2)))) (de_c pe_str (fun _ => .str _)) (de_c pe_str (fun _ => .str _))))))))
  (ds_one (ds_ret (de_tup (da_cons (de_slice (de_var 2 (pv 2)) do_none (do_some (de_neg (de_c pe_int (fun _ => .int _))))) (da_cons (de_slice (de_var 2 (pv 2)) (do_some (de_neg (de_c pe_int (fun _ => .int _)))) do_none) da_nil)))))))
theorem ok_Tree_search (T : Txt P w K mg) : FnG P w K mg base 1 (mf K (My.fa mg "Tree") "search") (fdOf K (mf K (My.fa mg "Tree") "search")) ["self", "number"] (spD ⟨K, w, mg⟩ none 2 fn_Tree_search) := fn_body none T.Tree_search.F sc_Tree_search (by decide) (bd_Tree_search T)
def b_Tree_find : SM := (dSeq (dAsg (dMeth "Tree" "search" true none 1 [] fn_Tree_search (dVar 0) (dCons (dVar 1) dNil)) (gT 2 (gsCons (gN 2) (gsCons (gN 3) gsNil))))
  (dRet (dIfE (dT2 (isN false) (dVar 3) (dC .non)) (dVar 2) (dC .non))))
def fn_Tree_find : List D → FOut := runF none 4 2 b_Tree_find
theorem bd_Tree_find (T : Txt P w K mg) : Bdy P w K mg base ["self", "number", "place", "sign"] "Tree.find" s_Tree_find (mf K (My.fa mg "Tree") "find") 1 b_Tree_find := fun cdv A outer s H E hr tk hp => (ds_cons (ds_asg (de_methN (pl := _) (de_var 0 (pv 0)) T.Tree_search.cl T.Tree_search.me T.b_Tree_search (ok_Tree_search T) (hr.mono (by decide)) (errTk tk) .nil (fun _ => .nil) (da_cons (de_var 1 (pv 1)) da_nil)) (dg_tup (by rfl) (dgs_cons (dg_name (pg_name (i := 2) sc_Tree_find.nd rfl (Or.inl rfl))) (dgs_cons (dg_name (pg_name (i := 3) sc_Tree_find.nd rfl (Or.inl rfl))) dgs_nil))))
  (ds_one (ds_ret (de_if (dt_is (de_var 3 (pv 3)) (de_c pe_non (fun _ => .non))) (de_var 2 (pv 2)) (de_c pe_non (fun _ => .non))))))
theorem ok_Tree_find (T : Txt P w K mg) : FnG P w K mg base 2 (mf K (My.fa mg "Tree") "find") (fdOf K (mf K (My.fa mg "Tree") "find")) ["self", "number"] (spD ⟨K, w, mg⟩ none 2 fn_Tree_find) := fn_body none T.Tree_find.F sc_Tree_find (by decide) (bd_Tree_find T)
def b_Tree_gap : SM := (dSeq (dAsg (dMeth "Tree" "search" true none 1 [] fn_Tree_search (dVar 0) (dCons (dVar 1) dNil)) (gT 2 (gsCons (gN 2) (gsCons (gN 3) gsNil))))
  (dSeq (dIf (dOr (dT2 eqD (d1 (fldC ["Tree"] "size") (dVar 0)) (dC (.int 0))) (dT2 (isN false) (dVar 3) (dC .non)))
  (dRet (dC .non))
  dNx)
  (dRet (dTup (dCons (dVar 2) (dCons (dIfE (dT2 eqD (dVar 3) (dC (.str "l"))) (dC (.str "left")) (dC (.str "right"))) dNil))))))
def fn_Tree_gap : List D → FOut := runF none 4 2 b_Tree_gap
theorem bd_Tree_gap (T : Txt P w K mg) : Bdy P w K mg base ["self", "number", "place", "sign"] "Tree.gap" s_Tree_gap (mf K (My.fa mg "Tree") "gap") 1 b_Tree_gap := fun cdv A outer s H E hr tk hp => (ds_cons (ds_asg (de_methN (pl := _) (de_var 0 (pv 0)) T.Tree_search.cl T.Tree_search.me T.b_Tree_search (ok_Tree_search T) (hr.mono (by decide)) (errTk tk) .nil (fun _ => .nil) (da_cons (de_var 1 (pv 1)) da_nil)) (dg_tup (by rfl) (dgs_cons (dg_name (pg_name (i := 2) sc_Tree_gap.nd rfl (Or.inl rfl))) (dgs_cons (dg_name (pg_name (i := 3) sc_Tree_gap.nd rfl (Or.inl rfl))) dgs_nil))))
  (ds_cons (ds_if (PW.pt (dw_or (dt_eq hr (de_fld T.f_size (de_var 0 (pv 0))) (de_c pe_int (fun _ => .int _))) (dw_or1 (dt_is (de_var 3 (pv 3)) (de_c pe_non (fun _ => .non))))))
  (ds_one (ds_ret (de_c pe_non (fun _ => .non))))
  ds_nil)
  (ds_one (ds_ret (de_tup (da_cons (de_var 2 (pv 2)) (da_cons (de_if (dt_eq hr (de_var 3 (pv 3)) (de_c pe_str (fun _ => .str _))) (de_c pe_str (fun _ => .str _)) (de_c pe_str (fun _ => .str _))) da_nil)))))))
theorem ok_Tree_gap (T : Txt P w K mg) : FnG P w K mg base 2 (mf K (My.fa mg "Tree") "gap") (fdOf K (mf K (My.fa mg "Tree") "gap")) ["self", "number"] (spD ⟨K, w, mg⟩ none 2 fn_Tree_gap) := fn_body none T.Tree_gap.F sc_Tree_gap (by decide) (bd_Tree_gap T)
end Pu
namespace Pu
open PySem PySem.Spec PyProof.Rows L2 My
inductive Tr where
  | e | n (l : Tr) (v : Int) (r : Tr)
  deriving DecidableEq
def Tr.told : Tr → D
  | .e => .non
  | .n l v r => .tup [l.told, .int v, r.told]
abbrev Pa := List Bool
def chB (b : Bool) : Nat := if b then 114 else 108
def pl (p : Pa) : Str := ⟨(p.map chB).toArray⟩
theorem strS_eta (s t : Str) (h : s.cps.toList = t.cps.toList) : s = t := by
  cases s; cases t
  simp only [Str.mk.injEq]
  exact Array.toList_inj.mp h
theorem pl_toList (p : Pa) : (pl p).cps.toList = p.map chB := by simp [pl]
theorem chB_inj {a b : Bool} (h : chB a = chB b) : a = b := by cases a <;> cases b <;> simp [chB] at h <;> rfl
theorem pl_inj {p q : Pa} (h : pl p = pl q) : p = q := by
  have h2 := congrArg (fun s : Str => s.cps.toList) h
  simp only [pl_toList] at h2
  exact (List.map_inj_right (fun a b => chB_inj)).mp h2
theorem pl_eq (p q : Pa) : (pl p = pl q) = (p = q) := propext ⟨pl_inj, fun h => by rw [h]⟩
theorem pl_nil : Str.ofString "" = pl [] := by decide +kernel
theorem str_append (s t : Str) : (s ++ t).cps.toList = s.cps.toList ++ t.cps.toList := by
  show (s.cps ++ t.cps).toList = _
  simp
theorem l_toList : (Str.ofString "l").cps.toList = [108] := by decide +kernel
theorem r_toList : (Str.ofString "r").cps.toList = [114] := by decide +kernel
theorem pl_l (p : Pa) : pl p ++ Str.ofString "l" = pl (p ++ [false]) := strS_eta _ _ (by rw [str_append, l_toList, pl_toList, pl_toList]; simp [chB])
theorem pl_r (p : Pa) : pl p ++ Str.ofString "r" = pl (p ++ [true]) := strS_eta _ _ (by rw [str_append, r_toList, pl_toList, pl_toList]; simp [chB])
theorem pl_len (p : Pa) : (pl p).length = p.length := by
  show (pl p).cps.size = _
  simp [pl]
theorem l_len : (Str.ofString "l").length = 1 := by decide +kernel
theorem r_len : (Str.ofString "r").length = 1 := by decide +kernel
def Tr.pre : Tr → Pa → List (Pa × Int)
  | .e, _ => []
  | .n l v r, p => (p, v) :: (l.pre (p ++ [false]) ++ r.pre (p ++ [true]))
def Tr.size : Tr → Nat
  | .e => 0
  | .n l _ r => l.size + r.size + 1
def Tr.ht : Tr → Nat
  | .e => 0
  | .n l _ r => max l.ht r.ht + 1
theorem pre_len (t : Tr) : ∀ p, (t.pre p).length = t.size := by
  induction t with
  | e => intro p; rfl
  | n l v r il ir => intro p; simp [Tr.pre, Tr.size, il, ir]
theorem ht_le (t : Tr) : t.ht ≤ t.size := by
  induction t with
  | e => simp [Tr.ht]
  | n l v r il ir => simp [Tr.ht, Tr.size]; omega
theorem pre_pfx (t : Tr) : ∀ p, ∀ x ∈ t.pre p, ∃ s, x.1 = p ++ s ∧ s.length < t.ht := by
  induction t with
  | e => intro p x hx; simp [Tr.pre] at hx
  | n l v r il ir =>
    intro p x hx
    simp only [Tr.pre, List.mem_cons, List.mem_append] at hx
    rcases hx with rfl | hx | hx
    · exact ⟨[], by simp, by simp [Tr.ht]⟩
    · obtain ⟨s, e, h⟩ := il _ x hx
      exact ⟨false :: s, by rw [e]; simp, by simp [Tr.ht]; omega⟩
    · obtain ⟨s, e, h⟩ := ir _ x hx
      exact ⟨true :: s, by rw [e]; simp, by simp [Tr.ht]; omega⟩
theorem pre_nodup (t : Tr) : ∀ p, ((t.pre p).map (·.1)).Nodup := by
  induction t with
  | e => intro p; simp [Tr.pre]
  | n l v r il ir =>
    intro p
    simp only [Tr.pre, List.map_cons, List.map_append, List.nodup_cons, List.nodup_append, List.mem_append, List.mem_map]
    refine ⟨?_, il _, ir _, ?_⟩
    · rintro (⟨x, hx, e⟩ | ⟨x, hx, e⟩)
      · obtain ⟨s, e2, _⟩ := pre_pfx l _ x hx
        rw [e] at e2
        have := congrArg List.length e2
        simp at this
      · obtain ⟨s, e2, _⟩ := pre_pfx r _ x hx
        rw [e] at e2
        have := congrArg List.length e2
        simp at this
    · rintro a ⟨x, hx, rfl⟩ b ⟨y, hy, rfl⟩ e
      obtain ⟨s, e2, _⟩ := pre_pfx l _ x hx
      obtain ⟨s', e3, _⟩ := pre_pfx r _ y hy
      rw [e2, e3] at e
      simp at e
def spt (l : List (Pa × Int)) : List (Key × D) := l.map fun x => (Sum.inr (pl x.1), D.int x.2)
theorem spt_any (l : List (Pa × Int)) (p : Pa) : ((spt l).any fun kv => decide (kv.1 = (Sum.inr (pl p) : Key))) = decide (p ∈ l.map (·.1)) := by
  induction l with
  | nil => simp [spt]
  | cons x l ih =>
    simp only [spt] at ih ⊢
    simp only [List.map_cons, List.any_cons, ih, Sum.inr.injEq, pl_eq, List.mem_cons, Bool.decide_or]
    congr 1
    exact decide_eq_decide.mpr ⟨Eq.symm, Eq.symm⟩
theorem spt_put (l : List (Pa × Int)) (p : Pa) (v : Int) (h : p ∉ l.map (·.1)) : putD (spt l) (Sum.inr (pl p)) (.int v) = spt (l ++ [(p, v)]) := by
  unfold putD
  rw [spt_any, if_neg (by simpa using h)]
  simp [spt]
theorem spt_val (l : List (Pa × Int)) (p : Pa) (v : Int) (hn : (l.map (·.1)).Nodup) (h : (p, v) ∈ l) : valD (spt l) (Sum.inr (pl p) : Key) = some (.int v) := by
  induction l with
  | nil => simp at h
  | cons x l ih =>
    simp only [List.map_cons, List.nodup_cons] at hn
    simp only [spt, List.map_cons, valD, Sum.inr.injEq, pl_eq]
    rcases List.mem_cons.mp h with rfl | h
    · simp
    · rw [if_neg]
      · exact ih hn.2 h
      · intro e
        exact hn.1 (List.mem_map.mpr ⟨_, h, e.symm⟩)
def wl (q : List (Pa × Tr)) : List D := q.map fun x => .tup [.str (pl x.1), x.2.told]
def stepsQ (q : List (Pa × Tr)) : Nat := (q.map fun x => 2 * x.2.size + 1).sum
def allQ (q : List (Pa × Tr)) : List (Pa × Int) := q.flatMap fun x => x.2.pre x.1
theorem told_row (l : Tr) (v : Int) (r : Tr) : fn_is_row [(Tr.n l v r).told, .int 3] = .ok (.bl true) .non := by
  simp [fn_is_row, b_is_row, Tr.told, gRow, eqD, eqB, scalD, sameS]
theorem int_is (v : Int) : fn_is_integer [.int v] = .ok (.bl true) .non := by
  simp [fn_is_integer, b_is_integer, gInt, gBool]
theorem len_steps (q : List (Pa × Tr)) : q.length ≤ stepsQ q := by
  induction q with
  | nil => simp
  | cons x q ih => simp [stepsQ] at ih ⊢; omega
theorem szl' : sizeLine = 16777216 := rfl
theorem step_e (d0 x4 x5 : Option (Kd × D)) (F : D) (ws : List D) (i : Int) (z : Str) (h : atI ws i = some (.tup [.str z, .non])) :
    l1_spots_of [d0, some (.own, F), some (.own, .lst ws), some (.val, .int i), x4, x5] = .ct [d0, some (.own, F), some (.own, .lst ws), some (.val, .int (i + 1)), some (.val, .str z), some (.val, .non)] := by
  simp [l1_spots_of, ixD, h]
theorem step_n (d0 x4 x5 : Option (Kd × D)) (kvs : List (Key × D)) (ws : List D) (i : Int) (z : Str) (l r : Tr) (v : Int) (h : atI ws i = some (.tup [.str z, (Tr.n l v r).told])) (h1 : kvs.length < 1000000) (h2 : ws.length < 1000000) (h3 : z.length < 1000000) :
    l1_spots_of [d0, some (.own, .dK kvs), some (.own, .lst ws), some (.val, .int i), x4, x5] = .nx [d0, some (.own, .dK (putD kvs (Sum.inr z) (.int v))), some (.own, .lst (ws ++ [.tup [.str (z ++ Str.ofString "l"), l.told], .tup [.str (z ++ Str.ofString "r"), r.told]])), some (.val, .int (i + 1)), some (.val, .str z), some (.val, (Tr.n l v r).told)] := by
  have hr := told_row l v r
  have hi := int_is v
  have a0 : atI [l.told, D.int v, r.told] 0 = some l.told := rfl
  have a1 : atI [l.told, D.int v, r.told] 1 = some (.int v) := rfl
  have a2 : atI [l.told, D.int v, r.told] 2 = some r.told := rfl
  have b1 : kvs.length < 16777216 := by omega
  have b2 : ws.length < 16777216 := by omega
  have b3 : ws.length + 1 < 16777216 := by omega
  have b4 : z.length + 1 ≤ 16777216 := by omega
  simp only [Tr.told] at h hr ⊢
  simp [l1_spots_of, ixD, h, hr, hi, a0, a1, a2, b1, b2, b3, b4, szl', l_len, r_len]
theorem spots_loop (d0 : Option (Kd × D)) : ∀ (k : Nat) (q : List (Pa × Tr)) (done : List D) (fs : List (Pa × Int)) (x4 x5 : Option (Kd × D)), stepsQ q < k → (∀ x ∈ q, x.1.length + x.2.ht < 10000) → done.length + stepsQ q < 100000 → fs.length + (allQ q).length < 100000 → ((fs ++ allQ q).map (·.1)).Nodup →
    ∃ gs ws i y4 y5, dWh c0_spots_of l1_spots_of k [d0, some (.own, .dK (spt fs)), some (.own, .lst (done ++ wl q)), some (.val, .int done.length), x4, x5] = .nx [d0, some (.own, .dK (spt gs)), some (.own, .lst ws), some (.val, .int i), y4, y5] ∧ gs.Perm (fs ++ allQ q) := by
  intro k
  induction k with
  | zero => intro q done fs x4 x5 h; omega
  | succ k ih =>
    intro q done fs x4 x5 hk hq hd hf hn
    cases q with
    | nil =>
      refine ⟨fs, done, done.length, x4, x5, ?_, by simp [allQ]⟩
      simp [dWh, c0_spots_of, wl]
    | cons x q =>
      obtain ⟨p, t⟩ := x
      have hlt : (done.length : Int) < ((done ++ wl ((p, t) :: q)).length : Int) := by simp [wl]; omega
      have hat : atI (done ++ wl ((p, t) :: q)) (done.length : Int) = some (.tup [.str (pl p), t.told]) := by
        rw [atI_nat]
        simp [wl]
      have hc : c0_spots_of [d0, some (.own, .dK (spt fs)), some (.own, .lst (done ++ wl ((p, t) :: q))), some (.val, .int done.length), x4, x5] = .ok true [d0, some (.own, .dK (spt fs)), some (.own, .lst (done ++ wl ((p, t) :: q))), some (.val, .int done.length), x4, x5] := by
        simp [c0_spots_of, wl]
        omega
      cases t with
      | e =>
        rw [dWh_ct hc (step_e d0 x4 x5 _ _ _ _ hat)]
        have e1 : done ++ wl ((p, Tr.e) :: q) = (done ++ [D.tup [.str (pl p), .non]]) ++ wl q := by simp [wl, Tr.told]
        have e2 : (done.length : Int) + 1 = ((done ++ [D.tup [.str (pl p), .non]]).length : Int) := by simp
        have e3 : allQ ((p, Tr.e) :: q) = allQ q := by simp [allQ, Tr.pre]
        have e4 : stepsQ ((p, Tr.e) :: q) = stepsQ q + 1 := by simp [stepsQ, Tr.size]; omega
        rw [e1, e2]
        rw [e3] at hf hn ⊢
        rw [e4] at hk hd
        exact ih q _ fs _ _ (by omega) (fun x hx => hq x (List.mem_cons_of_mem _ hx)) (by simp; omega) hf hn
      | n l v r =>
        have hz : (pl p).length < 1000000 := by
          rw [pl_len]
          have := hq _ List.mem_cons_self
          simp at this
          omega
        have hw : (done ++ wl ((p, Tr.n l v r) :: q)).length < 1000000 := by
          have := len_steps ((p, Tr.n l v r) :: q)
          simp [wl] at this ⊢
          omega
        have hs : (spt fs).length < 1000000 := by simp [spt]; omega
        rw [dWh_nx hc (step_n d0 x4 x5 _ _ _ _ l r v hat hs hw hz)]
        have hp : p ∉ fs.map (·.1) := by
          intro hm
          have h2 := hn
          rw [List.map_append, List.nodup_append] at h2
          exact h2.2.2 p hm p (by simp [allQ, Tr.pre]) rfl
        rw [spt_put fs p v hp, pl_l, pl_r]
        have e1 : done ++ wl ((p, Tr.n l v r) :: q) ++ [D.tup [.str (pl (p ++ [false])), l.told], .tup [.str (pl (p ++ [true])), r.told]] = (done ++ [D.tup [.str (pl p), (Tr.n l v r).told]]) ++ wl (q ++ [(p ++ [false], l), (p ++ [true], r)]) := by simp [wl]
        have e2 : (done.length : Int) + 1 = ((done ++ [D.tup [.str (pl p), (Tr.n l v r).told]]).length : Int) := by simp
        have e4 : stepsQ ((p, Tr.n l v r) :: q) = stepsQ (q ++ [(p ++ [false], l), (p ++ [true], r)]) + 1 := by simp [stepsQ, Tr.size]; omega
        have pq : ((fs ++ [(p, v)]) ++ allQ (q ++ [(p ++ [false], l), (p ++ [true], r)])).Perm (fs ++ allQ ((p, Tr.n l v r) :: q)) := by
          have a1 : allQ (q ++ [(p ++ [false], l), (p ++ [true], r)]) = allQ q ++ (l.pre (p ++ [false]) ++ r.pre (p ++ [true])) := by simp [allQ]
          have a2 : allQ ((p, Tr.n l v r) :: q) = (p, v) :: ((l.pre (p ++ [false]) ++ r.pre (p ++ [true])) ++ allQ q) := by simp [allQ, Tr.pre]
          rw [a1, a2, List.append_assoc]
          refine List.Perm.append_left fs ?_
          simp only [List.singleton_append]
          exact List.Perm.cons _ List.perm_append_comm
        rw [e1, e2]
        rw [e4] at hk hd
        obtain ⟨gs, ws, i, y4, y5, h1, h2⟩ := ih (q ++ [(p ++ [false], l), (p ++ [true], r)]) (done ++ [D.tup [.str (pl p), (Tr.n l v r).told]]) (fs ++ [(p, v)]) (some (.val, .str (pl p))) (some (.val, (Tr.n l v r).told)) (by omega) (fun x hx => by
            rcases List.mem_append.mp hx with hx | hx
            · exact hq x (List.mem_cons_of_mem _ hx)
            · have h0 := hq _ List.mem_cons_self
              simp [Tr.ht] at h0
              simp at hx
              rcases hx with rfl | rfl <;> simp <;> omega) (by simp; omega) (by have := pq.length_eq; simp at this hf ⊢; omega) ((pq.map _).nodup_iff.mpr hn)
        exact ⟨gs, ws, i, y4, y5, h1, h2.trans pq⟩
end Pu
namespace Pu
open PySem PySem.Spec PyProof.Rows L2 My PySem.StrLaws
theorem spots_ok (t : Tr) (h1 : t.size < 40000) (h2 : t.ht < 9000) : ∃ gs, fn_spots_of [t.told] = .ok (.tup [.dK (spt gs), .non]) .non ∧ gs.Perm (t.pre []) := by
  have e0 : stepsQ [(([] : Pa), t)] = 2 * t.size + 1 := by simp [stepsQ]
  have e1 : allQ [(([] : Pa), t)] = t.pre [] := by simp [allQ]
  obtain ⟨gs, ws, i, y4, y5, h3, h4⟩ := spots_loop (some (.val, t.told)) 100000 [([], t)] [] [] none none (by rw [e0]; omega) (fun x hx => by simp at hx; subst hx; simp; omega) (by rw [e0]; simp; omega) (by rw [e1, pre_len]; simp; omega) (by rw [e1]; exact pre_nodup t [])
  rw [e1, List.nil_append] at h4
  refine ⟨gs, ?_, h4⟩
  have h5 : dWh c0_spots_of l1_spots_of 100000 [some (.val, t.told), some (.own, .dK []), some (.own, .lst [.tup [.str (Str.ofString ""), t.told]]), some (.val, .int 0), none, none] = .nx [some (.val, t.told), some (.own, .dK (spt gs)), some (.own, .lst ws), some (.val, .int i), y4, y5] := by
    have e : ([] : List D) ++ wl [(([] : Pa), t)] = [.tup [.str (Str.ofString ""), t.told]] := by rw [pl_nil]; rfl
    rw [← e]
    exact h3
  simp [fn_spots_of, b_spots_of, szl', h5]
def Tr.ino : Tr → Pa → List (Pa × Int)
  | .e, _ => []
  | .n l v r, p => l.ino (p ++ [false]) ++ (p, v) :: r.ino (p ++ [true])
theorem ino_perm (t : Tr) : ∀ p, (t.ino p).Perm (t.pre p) := by
  induction t with
  | e => intro p; exact .refl _
  | n l v r il ir =>
    intro p
    simp only [Tr.ino, Tr.pre]
    exact (List.perm_middle).trans (List.Perm.cons _ ((il _).append (ir _)))
def rb (b : Bool) : Nat := if b then 50 else 48
def rk (p : Pa) : List Nat := p.map rb ++ [49]
theorem repl_one {a b : Nat} : ∀ l : List Nat, replL [a] [b] l = l.map fun c => if c = a then b else c
  | [] => replL_nil
  | c :: l => by
    by_cases h : c = a
    · subst h
      rw [replL_hit (by simp) (by simp)]
      simp [repl_one l]
    · rw [replL_miss (by simpa using h)]
      simp [repl_one l, h]
theorem one_toList : (Str.ofString "1").cps.toList = [49] := by decide +kernel
theorem zero_toList : (Str.ofString "0").cps.toList = [48] := by decide +kernel
theorem two_toList : (Str.ofString "2").cps.toList = [50] := by decide +kernel
theorem rank_toList (p : Pa) : (rankS (pl p)).cps.toList = rk p := by
  unfold rankS
  rw [str_append, replace_list (by decide +kernel), replace_list (by decide +kernel)]
  show replL (Str.ofString "r").cps.toList (Str.ofString "2").cps.toList (replL (Str.ofString "l").cps.toList (Str.ofString "0").cps.toList (pl p).cps.toList) ++ (Str.ofString "1").cps.toList = _
  rw [l_toList, r_toList, zero_toList, one_toList, two_toList, pl_toList, repl_one, repl_one, rk]
  simp only [List.map_map]
  congr 1
  refine List.map_congr_left fun b _ => ?_
  cases b <;> simp [chB, rb]
theorem repl_len1 (x y z : Str) (hy : y.cps.toList.length = 1) (hz : z.cps.toList.length = 1) : (Txt.replace x y z).length = x.length := by
  have hy1 : 1 ≤ y.length := by
    have : y.length = y.cps.toList.length := by simp [Str.length]
    omega
  have h := replace_list (x := x) (y := y) (z := z) hy1
  obtain ⟨a, ha⟩ := List.length_eq_one_iff.mp hy
  obtain ⟨b, hb⟩ := List.length_eq_one_iff.mp hz
  rw [ha, hb, repl_one] at h
  have h2 := congrArg List.length h
  simpa [Str.length] using h2
theorem rank_ok (p : Pa) (h : p.length ≤ 3000) : fFn fnRank (.str (pl p)) = some (.str (rankS (pl p))) := by
  have h1 : (Txt.replace (pl p) (Str.ofString "l") (Str.ofString "0")).length = p.length := by rw [repl_len1 _ _ _ (by rw [l_toList]; rfl) (by rw [zero_toList]; rfl), pl_len]
  have h2 : (Txt.replace (Txt.replace (pl p) (Str.ofString "l") (Str.ofString "0")) (Str.ofString "r") (Str.ofString "2")).length = p.length := by rw [repl_len1 _ _ _ (by rw [r_toList]; rfl) (by rw [two_toList]; rfl), h1]
  have h3 : (pl p).length ≤ 3000 := by rw [pl_len]; exact h
  unfold fFn fnRank
  simp only
  rw [if_pos ⟨h3, by rw [h1]; omega, by rw [h2]; omega⟩]
theorem lex_app (P : List Nat) {a b : Nat} (u v : List Nat) (h : a < b) : P ++ a :: u < P ++ b :: v := by
  induction P with
  | nil => exact List.Lex.rel h
  | cons c P ih => exact List.Lex.cons ih
theorem ino_pfx (t : Tr) (p : Pa) (x : Pa × Int) (hx : x ∈ t.ino p) : ∃ s, x.1 = p ++ s ∧ s.length < t.ht := pre_pfx t p x ((ino_perm t p).mem_iff.mp hx)
theorem ino_srt (t : Tr) : ∀ p, (t.ino p).Pairwise fun a b => rk a.1 < rk b.1 := by
  induction t with
  | e => intro p; exact .nil
  | n l v r il ir =>
    intro p
    have L : ∀ x ∈ l.ino (p ++ [false]), ∃ u, rk x.1 = p.map rb ++ 48 :: u := fun x hx => by
      obtain ⟨s, e, _⟩ := ino_pfx l _ x hx
      exact ⟨s.map rb ++ [49], by rw [e, rk]; simp [rb]⟩
    have R : ∀ x ∈ r.ino (p ++ [true]), ∃ u, rk x.1 = p.map rb ++ 50 :: u := fun x hx => by
      obtain ⟨s, e, _⟩ := ino_pfx r _ x hx
      exact ⟨s.map rb ++ [49], by rw [e, rk]; simp [rb]⟩
    simp only [Tr.ino, List.pairwise_append, List.pairwise_cons, List.mem_cons]
    refine ⟨il _, ⟨fun y hy => ?_, ir _⟩, fun x hx y hy => ?_⟩
    · obtain ⟨u, e⟩ := R y hy
      rw [e]
      exact lex_app _ [] u (by omega)
    · obtain ⟨u, e⟩ := L x hx
      rw [e]
      rcases hy with rfl | hy
      · exact lex_app _ u [] (by omega)
      · obtain ⟨u', e'⟩ := R y hy
        rw [e']
        exact lex_app _ u u' (by omega)
theorem srt_uniq {α : Type} {lt : α → α → Bool} : ∀ l m : List α, SrtO.Srtd lt l → m.Pairwise (fun a b => lt a b = true) → l.Perm m → l = m
  | [], m, _, _, h => (List.nil_perm.mp h).symm
  | x :: l, [], _, _, h => by have := h.length_eq; simp at this
  | x :: l, y :: m, hl, hm, h => by
    by_cases e : x = y
    · subst e
      rw [srt_uniq l m (List.pairwise_cons.mp hl).2 (List.pairwise_cons.mp hm).2 h.cons_inv]
    · exfalso
      have hy : y ∈ l := by
        rcases List.mem_cons.mp (h.mem_iff.mpr (List.mem_cons_self (a := y) (l := m))) with e2 | e2
        · exact absurd e2.symm e
        · exact e2
      have hx : x ∈ m := by
        rcases List.mem_cons.mp (h.mem_iff.mp (List.mem_cons_self (a := x) (l := l))) with e2 | e2
        · exact absurd e2 e
        · exact e2
      have h1 := SrtO.srtd_head hl y hy
      have h2 := (List.pairwise_cons.mp hm).1 x hx
      rw [h2] at h1
      cases h1
def ltR (a b : Pa × Int) : Bool := decide (rk a.1 < rk b.1)
theorem swo_R : SrtO.Swo ltR := ⟨fun x y h => decide_eq_false (List.lt_asymm (of_decide_eq_true h)), fun x y z h1 h2 => decide_eq_false fun h => by
  have a : ¬ rk y.1 < rk x.1 := of_decide_eq_false h1
  have b : ¬ rk z.1 < rk y.1 := of_decide_eq_false h2
  exact List.not_lt.mpr (List.le_trans (List.not_lt.mp a) (List.not_lt.mp b)) h⟩
theorem mapO_eq (f : D → Option D) (g : Pa × Int → D) (k : Pa × Int → D) : ∀ l : List (Pa × Int), (∀ x ∈ l, f (g x) = some (k x)) → mapO f (l.map g) = some (l.map k)
  | [], _ => rfl
  | x :: l, h => by simp [mapO, h x List.mem_cons_self, mapO_eq f g k l fun y hy => h y (List.mem_cons_of_mem _ hy)]
theorem paired_map {α β γ : Type} {R : β → γ → Prop} (f : α → β) (g : α → γ) (h : ∀ a, R (f a) (g a)) : ∀ l : List α, Paired R (l.map f) (l.map g)
  | [] => .nil
  | a :: l => .cons (h a) (paired_map f g h l)
theorem paired_eq {α β : Type} {f : β → α} : ∀ {l : List α} {m : List β}, Paired (fun x u => x = f u) l m → l = m.map f
  | _, _, .nil => rfl
  | _, _, .cons h t => by rw [List.map_cons, ← h, paired_eq t]
theorem zip_map2 {α β γ : Type} (f : α → β) (g : α → γ) : ∀ l : List α, (l.map f).zip (l.map g) = l.map fun a => (f a, g a)
  | [] => rfl
  | a :: l => by simp [zip_map2 f g l]
def plS (l : List (Pa × Int)) : List D := l.map fun x => .str (pl x.1)
theorem keys_spt (gs : List (Pa × Int)) : (spt gs).map (fun p => keyV p.1) = plS gs := by
  simp [spt, plS, keyV, Function.comp_def]
theorem oneKd_S {l : List (Pa × Int)} (f : Pa × Int → Str) : oneKd (l.map fun x => .str (f x)) = true := by
  unfold oneKd
  rw [Bool.or_eq_true]
  right
  rw [List.all_eq_true]
  intro x hx
  obtain ⟨y, _, rfl⟩ := List.mem_map.mp hx
  rfl
theorem in_order_ok (t : Tr) (gs : List (Pa × Int)) (hp : gs.Perm (t.pre [])) (h2 : t.ht ≤ 3000) : fn_in_order [.dK (spt gs)] = .ok (.lst (plS (t.ino []))) .non := by
  have hm : mapO (fFn fnRank) (plS gs) = some (gs.map fun x => .str (rankS (pl x.1))) := mapO_eq _ _ _ gs fun x hx => by
    obtain ⟨s, e, h⟩ := pre_pfx t [] x (hp.mem_iff.mp hx)
    exact rank_ok x.1 (by rw [e]; simp; omega)
  have hs : srtD false (gs.map fun x => .str (rankS (pl x.1))) (plS gs) = plS (t.ino []) := by
    unfold srtD plS
    rw [if_neg (by decide), zip_map2]
    have q := SrtK.isort_rel (R := fun (x : D × D) (u : Pa × Int) => x = (.str (rankS (pl u.1)), .str (pl u.1))) (lt := fun p q : D × D => ltkD p.1 q.1) (lt' := ltR) (fun x y u v hx hy => by
      subst hx hy
      simp only [ltkD, rank_toList, ltR]) (paired_map (fun a : Pa × Int => (D.str (rankS (pl a.1)), D.str (pl a.1))) (fun a => a) (fun a => rfl) gs)
    rw [paired_eq q, List.map_id']
    have e : SrtK.isort ltR gs = t.ino [] := srt_uniq _ _ (SrtK.isort_srtd swo_R gs) ((ino_srt t []).imp fun h => decide_eq_true h) ((SrtK.isort_perm gs).trans (hp.trans (ino_perm t []).symm))
    rw [e, List.map_map]
    rfl
  have hk : (spt gs).map (fun p => keyV p.1) = plS gs := keys_spt gs
  simp only [fn_in_order, b_in_order, runF, List.length_cons, List.length_nil, initE, initAt, kdAt, List.replicate, dRet_e, dFr_e, dSrt_e, dVar_e]
  simp [hk, hm, hs, oneKd_S fun x : Pa × Int => rankS (pl x.1)]
end Pu
namespace Pu
open PySem PySem.Spec PyProof.Rows L2 My
theorem pl_neP (p : Pa) : pl p ≠ Str.ofString "p" := by
  cases p with
  | nil => decide
  | cons b p =>
    intro h
    have h2 : (Str.ofString "p").cps.toList = [112] := by decide +kernel
    rw [← h, pl_toList] at h2
    cases b <;> simp [chB] at h2
@[simp] theorem nl_spt (gs : List (Pa × Int)) : pqK ((spt gs).map (·.1)) = false := by
  cases gs with
  | nil => rfl
  | cons x gs => simp [pqK, spt, pl_neP]
theorem lcL_gen (i : Nat) (ρ0 : En) (fe : M Rv) (f : D → D) : ∀ (ds acc : List D) (x : Option (Kd × D)), (∀ d ∈ ds, fe (ρ0.set i (some (.val, d))) = .ok (.val (f d)) (ρ0.set i (some (.val, d)))) → acc.length + ds.length ≤ sizeLine →
    ∃ y, dLcL (gN i) dYes fe [i] ds acc (ρ0.set i x) = .ok (acc ++ ds.map f) (ρ0.set i y)
  | [], acc, x, _, _ => ⟨x, by simp [dLcL]⟩
  | d :: ds, acc, x, h, hl => by
    have h1 := h d List.mem_cons_self
    obtain ⟨y, e⟩ := lcL_gen i ρ0 fe f ds (acc ++ [f d]) (some (.val, d)) (fun d' hd => h d' (List.mem_cons_of_mem _ hd)) (by simp at hl ⊢; omega)
    refine ⟨y, ?_⟩
    have hlt : acc.length < sizeLine := by simp at hl; omega
    unfold dLcL
    simp only [gN, wipeE, List.set_set, dYes, h1, esc, if_pos hlt, e]
    simp
theorem dLc_gen {i : Nat} {fi : M (List D)} {fe : M Rv} {ρ ρ1 : En} {ds : List D} (f : D → D) (h1 : fi ρ = .ok ds ρ1) (h2 : ∀ d ∈ ds, fe (ρ1.set i (some (.val, d))) = .ok (.val (f d)) (ρ1.set i (some (.val, d)))) (hl : ds.length ≤ sizeLine) (hi : i < ρ1.length) :
    dLc fi (gN i) dYes fe [i] ρ = .ok (.lst (ds.map f)) (ρ1.set i none) := by
  have e0 : ρ1 = ρ1.set i (ρ1[i]) := by simp
  obtain ⟨y, e⟩ := lcL_gen i ρ1 fe f ds [] (ρ1[i]) h2 (by simpa using hl)
  rw [← e0] at e
  unfold dLc
  simp [h1, e, wipeE, List.set_set]
theorem maxL_spec : ∀ l : List Int, (l = [] ∧ maxL l = none) ∨ ∃ m, maxL l = some m ∧ m ∈ l ∧ ∀ x ∈ l, x ≤ m
  | [] => .inl ⟨rfl, rfl⟩
  | x :: r => by
    right
    rcases maxL_spec r with ⟨e, h⟩ | ⟨m, h, hm, hx⟩
    · subst e
      exact ⟨x, by simp [maxL], by simp, by simp⟩
    · refine ⟨if x < m then m else x, by simp [maxL, h], ?_, ?_⟩
      · split
        · exact List.mem_cons_of_mem _ hm
        · exact List.mem_cons_self
      · intro y hy
        rcases List.mem_cons.mp hy with rfl | hy
        · split <;> omega
        · have := hx y hy
          split <;> omega
theorem ht_mem (t : Tr) : ∀ p, t ≠ .e → ∃ x ∈ t.pre p, x.1.length + 1 = p.length + t.ht := by
  induction t with
  | e => intro p h; exact absurd rfl h
  | n l v r il ir =>
    intro p _
    by_cases hl : l.ht = 0 ∧ r.ht = 0
    · exact ⟨(p, v), by simp [Tr.pre], by simp [Tr.ht, hl.1, hl.2]⟩
    · by_cases hc : r.ht ≤ l.ht
      · have : l ≠ .e := fun e => by subst e; simp [Tr.ht] at hl hc; omega
        obtain ⟨x, hx, e⟩ := il (p ++ [false]) this
        refine ⟨x, by simp [Tr.pre, hx], ?_⟩
        simp [Tr.ht] at e ⊢
        omega
      · have : r ≠ .e := fun e => by subst e; simp [Tr.ht] at hc
        obtain ⟨x, hx, e⟩ := ir (p ++ [true]) this
        refine ⟨x, by simp [Tr.pre, hx], ?_⟩
        simp [Tr.ht] at e ⊢
        omega
def lenP : D → D
  | .str z => .int (z.length + 1)
  | _ => .non
theorem ints_len (gs : List (Pa × Int)) : intsD ((plS gs).map lenP) = some (gs.map fun x => ((x.1.length : Int) + 1)) := by
  induction gs with
  | nil => rfl
  | cons x gs ih =>
    simp only [plS, List.map_map] at ih
    simp [plS, lenP, intsD, ih, pl_len]
theorem pre_short {t : Tr} {x : Pa × Int} (h : x ∈ t.pre []) : x.1.length < t.ht := by
  obtain ⟨s, e, h⟩ := pre_pfx t [] x h
  rw [e]; simpa using h
theorem max_ht (t : Tr) (gs : List (Pa × Int)) (hp : gs.Perm (t.pre [])) : (maxL (gs.map fun x => ((x.1.length : Int) + 1))).getD 0 = (t.ht : Int) := by
  rcases maxL_spec (gs.map fun x => ((x.1.length : Int) + 1)) with ⟨e, h⟩ | ⟨m, h, hm, hx⟩
  · rw [h]
    have : gs = [] := by simpa using e
    subst this
    have := hp.length_eq
    rw [pre_len] at this
    have h3 := ht_le t
    simp at this ⊢
    omega
  · rw [h]
    simp only [Option.getD_some]
    obtain ⟨x, hxm, e⟩ := List.mem_map.mp hm
    have h1 := pre_short (hp.mem_iff.mp hxm)
    have hne : t ≠ .e := fun z => by subst z; simp [Tr.ht] at h1
    obtain ⟨y, hy, ey⟩ := ht_mem t [] hne
    have h2 := hx _ (List.mem_map.mpr ⟨y, hp.mem_iff.mpr hy, rfl⟩)
    simp at ey
    omega
theorem height_ok (t : Tr) (gs : List (Pa × Int)) (hp : gs.Perm (t.pre [])) (h1 : t.size < 40000) (h2 : t.ht ≤ 3000) : fn_height_of [.dK (spt gs)] = .ok (.int t.ht) .non := by
  have hl : gs.length = t.size := by rw [hp.length_eq, pre_len]
  have hc : dLc (dItA (dVar 0)) (gN 1) dYes (d2 addD (dN (one1 lenD) (dCons (dVar 1) dNil)) (dC (.int 1))) [1] [some (.val, .dK (spt gs)), none] = .ok (.lst ((plS gs).map lenP)) [some (.val, .dK (spt gs)), none] := by
    refine dLc_gen (ρ1 := [some (.val, .dK (spt gs)), none]) (ds := plS gs) lenP ?_ ?_ (by simp [plS, hl, szl']; omega) (by simp)
    · simp [keys_spt gs]
    · intro d hd
      obtain ⟨x, hx, rfl⟩ := List.mem_map.mp hd
      have := pre_short (hp.mem_iff.mp hx)
      have h3 : (pl x.1).length ≤ 16777216 := by rw [pl_len]; omega
      simp [lenP, szl', h3]
  simp only [fn_height_of, b_height_of, runF, List.length_cons, List.length_nil, initE, initAt, kdAt, List.replicate]
  simp [dLc_e, hc, -dLc_e, ints_len, max_ht t gs hp]
theorem fall_loop (fs : List (Pa × Int)) (hn : (fs.map (·.1)).Nodup) : ∀ (l : List (Pa × Int)) (last : D) (x2 : Option (Kd × D)), (∀ x ∈ l, x ∈ fs) → (l.map (·.2)).Pairwise (· < ·) → (last = .non ∨ ∃ m, last = .int m ∧ ∀ x ∈ l, m < x.2) →
    ∃ last' y2, dForL (gN 2) l0_first_fall (plS l) [some (.val, .dK (spt fs)), some (.val, last), x2] = .nx [some (.val, .dK (spt fs)), some (.val, last'), y2]
  | [], last, x2, _, _, _ => ⟨last, x2, rfl⟩
  | x :: l, last, x2, hm, hs, hl => by
    have hv := spt_val fs x.1 x.2 hn (hm x List.mem_cons_self)
    have step : l0_first_fall [some (.val, .dK (spt fs)), some (.val, last), some (.val, .str (pl x.1))] = .nx [some (.val, .dK (spt fs)), some (.val, .int x.2), some (.val, .str (pl x.1))] := by
      rcases hl with rfl | ⟨m, rfl, hx⟩
      · simp [l0_first_fall, ixD, hv]
      · have := hx x List.mem_cons_self
        have h2 : ¬ x.2 ≤ m := by omega
        simp [l0_first_fall, ixD, hv, h2]
    obtain ⟨last', y2, e⟩ := fall_loop fs hn l (.int x.2) (some (.val, .str (pl x.1))) (fun y hy => hm y (List.mem_cons_of_mem _ hy)) (List.pairwise_cons.mp hs).2 (.inr ⟨x.2, rfl, fun y hy => (List.pairwise_cons.mp hs).1 y.2 (List.mem_map.mpr ⟨y, hy, rfl⟩)⟩)
    refine ⟨last', y2, ?_⟩
    rw [← e]
    simp only [plS, List.map_cons, dForL, gN, List.set, step]
def Tr.vals (t : Tr) : List Int := (t.ino []).map (·.2)
theorem fall_ok (t : Tr) (gs : List (Pa × Int)) (hp : gs.Perm (t.pre [])) (h2 : t.ht ≤ 3000) (hs : t.vals.Pairwise (· < ·)) : fn_first_fall [.dK (spt gs)] = .ok .non .non := by
  have hn : (gs.map (·.1)).Nodup := (hp.map _).nodup_iff.mpr (pre_nodup t [])
  obtain ⟨last', y2, e⟩ := fall_loop gs hn (t.ino []) .non none (fun x hx => hp.mem_iff.mpr ((ino_perm t []).mem_iff.mp hx)) hs (.inl rfl)
  simp [fn_first_fall, b_first_fall, in_order_ok t gs hp h2, e]
end Pu
namespace Pu
open PySem PySem.Spec PyProof.Rows L2 My
def Tr.sub : Tr → Pa → Tr
  | t, [] => t
  | .e, _ :: _ => .e
  | .n l _ r, b :: p => (if b then r else l).sub p
theorem sub_e (p : Pa) : Tr.e.sub p = .e := by cases p <;> rfl
theorem sub_app (q : Pa) : ∀ (p : Pa) (t : Tr), t.sub (p ++ q) = (t.sub p).sub q
  | [], t => by simp [Tr.sub]
  | b :: p, .e => by rw [sub_e, sub_e, sub_e]
  | b :: p, .n l v r => by simp only [List.cons_append, Tr.sub]; exact sub_app q p _
theorem mem_sub (t : Tr) : ∀ (p : Pa) (x : Pa × Int), x ∈ t.pre p → ∃ s l r, x.1 = p ++ s ∧ t.sub s = .n l x.2 r := by
  induction t with
  | e => intro p x h; simp [Tr.pre] at h
  | n l v r il ir =>
    intro p x h
    simp only [Tr.pre, List.mem_cons, List.mem_append] at h
    rcases h with rfl | h | h
    · exact ⟨[], l, r, by simp, rfl⟩
    · obtain ⟨s, l', r', e, h⟩ := il _ x h
      exact ⟨false :: s, l', r', by rw [e]; simp, by simpa [Tr.sub] using h⟩
    · obtain ⟨s, l', r', e, h⟩ := ir _ x h
      exact ⟨true :: s, l', r', by rw [e]; simp, by simpa [Tr.sub] using h⟩
theorem sub_mem (t : Tr) : ∀ (s p : Pa) (l : Tr) (v : Int) (r : Tr), t.sub s = .n l v r → (p ++ s, v) ∈ t.pre p := by
  induction t with
  | e => intro s p l v r h; rw [sub_e] at h; cases h
  | n l0 v0 r0 il ir =>
    intro s p l v r h
    cases s with
    | nil =>
      cases h
      simp [Tr.pre]
    | cons b s =>
      cases b with
      | false =>
        have := il s (p ++ [false]) l v r (by simpa [Tr.sub] using h)
        simp [Tr.pre] at this ⊢
        exact .inl this
      | true =>
        have := ir s (p ++ [true]) l v r (by simpa [Tr.sub] using h)
        simp [Tr.pre] at this ⊢
        exact .inr this
def blt (t : Tr) (os : List (Pa × Int)) : List (Key × D) := os.map fun x => (Sum.inr (pl x.1), (t.sub x.1).told)
theorem blt_any (t : Tr) (l : List (Pa × Int)) (p : Pa) : ((blt t l).any fun kv => decide (kv.1 = (Sum.inr (pl p) : Key))) = decide (p ∈ l.map (·.1)) := by
  induction l with
  | nil => simp [blt]
  | cons x l ih =>
    simp only [blt] at ih ⊢
    simp only [List.map_cons, List.any_cons, ih, Sum.inr.injEq, pl_eq, List.mem_cons, Bool.decide_or]
    congr 1
    exact decide_eq_decide.mpr ⟨Eq.symm, Eq.symm⟩
theorem blt_put (t : Tr) (l : List (Pa × Int)) (x : Pa × Int) (h : x.1 ∉ l.map (·.1)) : putD (blt t l) (Sum.inr (pl x.1)) (t.sub x.1).told = blt t (l ++ [x]) := by
  unfold putD
  rw [blt_any, if_neg (by simpa using h)]
  simp [blt]
theorem blt_val (t : Tr) (p : Pa) : ∀ l : List (Pa × Int), valD (blt t l) (Sum.inr (pl p) : Key) = if p ∈ l.map (·.1) then some (t.sub p).told else none
  | [] => by simp [blt, valD]
  | x :: l => by
    have ih := blt_val t p l
    simp only [blt] at ih
    simp only [blt, List.map_cons, valD, Sum.inr.injEq, pl_eq, ih, List.mem_cons]
    by_cases h : x.1 = p
    · simp [h]
    · have h2 : ¬ p = x.1 := fun e => h e.symm
      rw [if_neg h]
      by_cases h3 : p ∈ l.map (·.1)
      · rw [if_pos h3, if_pos (.inr h3)]
      · rw [if_neg h3, if_neg (fun z => z.elim h2 h3)]
theorem told_loop (t : Tr) (gs os : List (Pa × Int)) (hn : (gs.map (·.1)).Nodup) (hp : gs.Perm (t.pre [])) (ho : os.Perm gs) (hd : os.Pairwise fun a b => b.1.length ≤ a.1.length) (h1 : t.size < 40000) (h2 : t.ht ≤ 3000) :
    ∀ (todo done : List (Pa × Int)) (x2 : Option (Kd × D)), os = done ++ todo →
      ∃ y2, dForL (gN 2) l0_told_of (plS todo) [some (.val, .dK (spt gs)), some (.own, .dK (blt t done)), x2] = .nx [some (.val, .dK (spt gs)), some (.own, .dK (blt t os)), y2]
  | [], done, x2, e => ⟨x2, by rw [e]; simp [plS, dForL]⟩
  | x :: todo, done, x2, e => by
    have hos : (os.map (·.1)).Nodup := (ho.map _).nodup_iff.mpr hn
    have hx : x ∈ os := by rw [e]; simp
    have hxg : x ∈ gs := ho.mem_iff.mp hx
    have hv := spt_val gs x.1 x.2 hn hxg
    have hxp := hp.mem_iff.mp hxg
    obtain ⟨s, l, r, es, hs⟩ := mem_sub t [] x hxp
    rw [List.nil_append] at es
    subst es
    have hsh := pre_short hxp
    have hnd : x.1 ∉ done.map (·.1) := by
      intro hm
      have h3 := hos
      rw [e, List.map_append, List.nodup_append] at h3
      exact h3.2.2 x.1 hm x.1 (by simp) rfl
    have child : ∀ b : Bool, ((valD (blt t done) (Sum.inr (pl (x.1 ++ [b])) : Key)).getD .non) = (t.sub (x.1 ++ [b])).told := by
      intro b
      rw [blt_val]
      by_cases hm : x.1 ++ [b] ∈ done.map (·.1)
      · rw [if_pos hm]; rfl
      · rw [if_neg hm]
        cases hc : t.sub (x.1 ++ [b]) with
        | e => rfl
        | n l' v' r' =>
          exfalso
          have h3 := sub_mem t (x.1 ++ [b]) [] l' v' r' hc
          rw [List.nil_append] at h3
          have h4 : (x.1 ++ [b], v') ∈ os := ho.mem_iff.mpr (hp.mem_iff.mpr h3)
          rw [e] at h4
          rcases List.mem_append.mp h4 with h4 | h4
          · exact hm (List.mem_map.mpr ⟨_, h4, rfl⟩)
          · rcases List.mem_cons.mp h4 with h4 | h4
            · have := congrArg (fun z : Pa × Int => z.1.length) h4
              simp at this
            · have h5 := hd
              rw [e, List.pairwise_append] at h5
              have := (List.pairwise_cons.mp h5.2.1).1 _ h4
              simp at this
              omega
    have cl := child false
    have cr := child true
    rw [sub_app, hs] at cl cr
    simp only [Tr.sub, if_true, if_false, Bool.false_eq_true] at cl cr
    have hb : (pl x.1).length + 1 ≤ 16777216 := by rw [pl_len]; omega
    have hbl : (blt t done).length < 16777216 := by
      have h6 : os.length = t.size := by rw [ho.length_eq, hp.length_eq, pre_len]
      have h7 : done.length ≤ os.length := by rw [e]; simp
      simp [blt]
      omega
    have step : l0_told_of [some (.val, .dK (spt gs)), some (.own, .dK (blt t done)), some (.val, .str (pl x.1))] = .nx [some (.val, .dK (spt gs)), some (.own, .dK (blt t (done ++ [x]))), some (.val, .str (pl x.1))] := by
      have hpu := blt_put t done x hnd
      rw [hs, Tr.told] at hpu
      simp [l0_told_of, ixD, hv, szl', l_len, r_len, hb, hbl, pl_l, pl_r, cl, cr, hpu]
    obtain ⟨y2, e2⟩ := told_loop t gs os hn hp ho hd h1 h2 todo (done ++ [x]) (some (.val, .str (pl x.1))) (by rw [e]; simp)
    refine ⟨y2, ?_⟩
    rw [← e2]
    simp only [plS, List.map_cons, dForL, gN, List.set, step]
def ltL (a b : Pa × Int) : Bool := decide (a.1.length < b.1.length)
theorem swo_L : SrtO.Swo ltL := ⟨fun x y h => by simp [ltL] at h ⊢; omega, fun x y z h1 h2 => by simp [ltL] at h1 h2 ⊢; omega⟩
theorem told_ok (t : Tr) (gs : List (Pa × Int)) (hp : gs.Perm (t.pre [])) (h1 : t.size < 40000) (h2 : t.ht ≤ 3000) : fn_told_of [.dK (spt gs)] = .ok t.told .non := by
  have hn : (gs.map (·.1)).Nodup := (hp.map _).nodup_iff.mpr (pre_nodup t [])
  have hm : mapO fLen (plS gs) = some (gs.map fun x => .int x.1.length) := mapO_eq _ _ _ gs fun x hx => by
    have h3 := pre_short (hp.mem_iff.mp hx)
    have h4 : (pl x.1).length ≤ sizeLine := by rw [pl_len, szl']; omega
    show (if (pl x.1).length ≤ sizeLine then some (D.int (pl x.1).length) else none) = _
    rw [if_pos h4, pl_len]
  have hok : oneKd (gs.map fun x => D.int x.1.length) = true := by
    unfold oneKd
    rw [Bool.or_eq_true]
    left
    rw [List.all_eq_true]
    intro x hx
    obtain ⟨y, _, rfl⟩ := List.mem_map.mp hx
    rfl
  have hs : srtD true (gs.map fun x => .int x.1.length) (plS gs) = plS (SrtK.isort ltL gs.reverse).reverse := by
    unfold srtD plS
    rw [if_pos rfl, zip_map2, ← List.map_reverse (l := gs)]
    have q := SrtK.isort_rel (R := fun (x : D × D) (u : Pa × Int) => x = (.int u.1.length, .str (pl u.1))) (lt := fun p q : D × D => ltkD p.1 q.1) (lt' := ltL) (fun x y u v hx hy => by
      subst hx hy
      simp [ltkD, ltL]) (paired_map (fun a : Pa × Int => (D.int a.1.length, D.str (pl a.1))) (fun a => a) (fun a => rfl) gs.reverse)
    rw [paired_eq q, List.map_id', List.map_map, ← List.map_reverse]
    rfl
  have ho : (SrtK.isort ltL gs.reverse).reverse.Perm gs := (List.reverse_perm _).trans ((SrtK.isort_perm _).trans (List.reverse_perm _))
  have hd : (SrtK.isort ltL gs.reverse).reverse.Pairwise fun a b => b.1.length ≤ a.1.length := by
    rw [List.pairwise_reverse]
    exact (SrtK.isort_srtd swo_L gs.reverse).imp fun h => by simpa [ltL] using h
  obtain ⟨y2, e⟩ := told_loop t gs _ hn hp ho hd h1 h2 _ [] none rfl
  have e' : dForL (gN 2) l0_told_of (plS (SrtK.isort ltL gs.reverse).reverse) [some (.val, .dK (spt gs)), some (.own, .dK []), none] = .nx [some (.val, .dK (spt gs)), some (.own, .dK (blt t (SrtK.isort ltL gs.reverse).reverse)), y2] := e
  have fin : (valD (blt t (SrtK.isort ltL gs.reverse).reverse) (Sum.inr (pl []) : Key)).getD .non = t.told := by
    rw [blt_val]
    by_cases hm : ([] : Pa) ∈ (SrtK.isort ltL gs.reverse).reverse.map (·.1)
    · rw [if_pos hm]; rfl
    · rw [if_neg hm]
      cases t with
      | e => rfl
      | n l v r =>
        exfalso
        refine hm (List.mem_map.mpr ⟨([], v), ho.mem_iff.mpr (hp.mem_iff.mpr (by simp [Tr.pre])), rfl⟩)
  simp only [fn_told_of, b_told_of, runF, List.length_cons, List.length_nil, initE, initAt, kdAt, List.replicate]
  simp [keys_spt gs, hm, hok, hs, e', pl_nil, fin]
def Tr.ins (t : Tr) (gs : List (Pa × Int)) : D := .ins "Tree" [("own_spots", .dK (spt gs)), ("told", t.told), ("size", .int t.size), ("height", .int t.ht)]
theorem init_ok (t : Tr) (h1 : t.size ≤ 2000) (h2 : t.ht ≤ 200) (hs : t.vals.Pairwise (· < ·)) : ∃ gs, gs.Perm (t.pre []) ∧ fn_Tree_init [.ins "Tree" [], t.told] = .ok .non (t.ins gs) := by
  obtain ⟨gs, e, hp⟩ := spots_ok t (by omega) (by omega)
  refine ⟨gs, hp, ?_⟩
  have a1 := height_ok t gs hp (by omega) (by omega)
  have a2 := fall_ok t gs hp (by omega) hs
  have a3 := told_ok t gs hp (by omega) (by omega)
  have hl : (spt gs).length = t.size := by simp [spt, hp.length_eq, pre_len]
  have b1 : ¬ (2000 : Int) < (t.size : Int) := by omega
  have b2 : ¬ (200 : Int) < (t.ht : Int) := by omega
  have k1 : (Str.ofString "own_spots" = Str.ofString "told") = False := eq_false (by decide +kernel)
  have k2 : (Str.ofString "own_spots" = Str.ofString "size") = False := eq_false (by decide +kernel)
  have k3 : (Str.ofString "told" = Str.ofString "size") = False := eq_false (by decide +kernel)
  have k4 : (Str.ofString "own_spots" = Str.ofString "height") = False := eq_false (by decide +kernel)
  have k5 : (Str.ofString "told" = Str.ofString "height") = False := eq_false (by decide +kernel)
  have k6 : (Str.ofString "size" = Str.ofString "height") = False := eq_false (by decide +kernel)
  simp [fn_Tree_init, b_Tree_init, e, a1, a2, a3, hl, b1, b2, k1, k2, k3, k4, k5, k6, Tr.ins]
end Pu
namespace Pu
open PySem PySem.Spec PyProof.Rows L2 My
variable [Tbs] [Nls]
theorem seq_go {f g : SM} {ρ ρ1 : En} {o : SOut} (h : f ρ = .nx ρ1) (h2 : g ρ1 = o) : dSeq f g ρ = o := by
  unfold dSeq
  rw [h]
  exact h2
theorem for_go {fi : M (List D)} {g : TM} {body : SM} {ρ ρ1 : En} {ds : List D} {o : SOut} (h : fi ρ = .ok ds ρ1) (h2 : dForL g body ds ρ1 = o) : dFor fi g body ρ = o := by
  unfold dFor
  rw [h]
  exact h2
theorem forL_nx {g : TM} {body : SM} {d : D} {ds : List D} {ρ ρ1 ρ2 : En} (h1 : g d ρ = some ρ1) (h2 : body ρ1 = .nx ρ2) : dForL g body (d :: ds) ρ = dForL g body ds ρ2 := by
  conv => lhs; unfold dForL
  simp only [h1, h2]
theorem eqI (a b : Int) : eqD (.int a) (.int b) = some (.bl (decide (a = b))) := by simp [eqD, eqB, scalD, sameS]
theorem eqS (a b : Str) : eqD (.str a) (.str b) = some (.bl (decide (a = b))) := by simp [eqD, eqB, scalD, sameS]
theorem ofS_inj (a b : String) : (Str.ofString a = Str.ofString b) = (a = b) := by
  apply propext
  constructor
  · intro h
    rw [Str.ofString_eq_toList, Str.ofString_eq_toList] at h
    have h1 : (a.toList.map Char.toNat) = (b.toList.map Char.toNat) := by simpa using congrArg (fun s : Str => s.cps.toList) h
    have inj : Function.Injective Char.toNat := fun x y hxy => by
      have : x.val = y.val := UInt32.toNat_inj.mp hxy
      exact Char.ext this
    have go : ∀ x y : List Char, x.map Char.toNat = y.map Char.toNat → x = y := fun x => by
      induction x with
      | nil => intro y h; cases y with
        | nil => rfl
        | cons c y => simp at h
      | cons c x ih => intro y h; cases y with
        | nil => simp at h
        | cons d y =>
          simp only [List.map_cons, List.cons.injEq] at h
          rw [inj h.1, ih y h.2]
    have h2 : a.toList = b.toList := go _ _ h1
    exact String.toList_inj.mp h2
  · rintro rfl; rfl
theorem strOk_of (s : String) : PyData.strOk (Str.ofString s) = true := by
  rw [Str.ofString_eq_toList]
  unfold PyData.strOk
  simp [Array.all_eq_true]
  intro c _
  have := c.valid
  have h : c.toNat = c.val.toNat := rfl
  rcases this with h1 | ⟨_, h2⟩ <;> omega
theorem cut_to {α : Type} (xs : List α) (i : Int) (h : 0 ≤ i) : cutL xs none (some i) = xs.take i.toNat := by
  obtain ⟨n, rfl⟩ : ∃ n : Nat, i = n := ⟨i.toNat, by omega⟩
  unfold cutL
  have e1 : HT.sIx xs.length 0 none = 0 := rfl
  rw [e1, HT.sIx_nat, List.drop_zero]
  simp
theorem cut_from {α : Type} (xs : List α) (i : Int) (h : 0 ≤ i) : cutL xs (some i) none = xs.drop i.toNat := by
  obtain ⟨n, rfl⟩ : ∃ n : Nat, i = n := ⟨i.toNat, by omega⟩
  unfold cutL
  have e1 : HT.sIx xs.length xs.length none = xs.length := rfl
  rw [e1, HT.sIx_nat]
  have : (xs.drop (min n xs.length)).length ≤ xs.length - min n xs.length := by simp
  rw [List.take_of_length_le this]
  rcases Nat.le_total n xs.length with h | h
  · rw [Nat.min_eq_left h]; rfl
  · rw [Nat.min_eq_right h, List.drop_length]
    exact (List.drop_of_length_le (by omega)).symm
def Sh (n : Nat) (d : D) : Prop := ∃ p, toP d = some p ∧ PyData.canLay0 p = true ∧ p.depth ≤ n
theorem Sh.mono {n m : Nat} {d : D} (h : Sh n d) (hn : n ≤ m) : Sh m d := by
  obtain ⟨p, e, c, l⟩ := h
  exact ⟨p, e, c, by omega⟩
theorem sh_non : Sh 0 .non := ⟨_, rfl, rfl, by simp [PyData.depth]⟩
theorem sh_int (i : Int) : Sh 0 (.int i) := ⟨_, rfl, rfl, by simp [PyData.depth]⟩
theorem sh_bl (b : Bool) : Sh 0 (.bl b) := ⟨_, rfl, rfl, by simp [PyData.depth]⟩
theorem sh_str {s : Str} (h : PyData.strOk s = true) : Sh 0 (.str s) := ⟨_, rfl, by simpa [PyData.canLay0] using h, by simp [PyData.depth]⟩
theorem sh_S (s : String) : Sh 0 (.str (Str.ofString s)) := sh_str (strOk_of s)
theorem sh_all {n : Nat} : ∀ {xs : List D}, (∀ d ∈ xs, Sh n d) → ∃ ps, toPs xs = some ps ∧ PyData.canLayAll0 ps = true ∧ PyData.depthAll ps ≤ n ∧ ps.length = xs.length
  | [], _ => ⟨[], rfl, rfl, by simp [PyData.depthAll], rfl⟩
  | d :: xs, h => by
    obtain ⟨p, e, c, l⟩ := h d List.mem_cons_self
    obtain ⟨ps, e2, c2, l2, n2⟩ := sh_all fun y hy => h y (List.mem_cons_of_mem _ hy)
    refine ⟨p :: ps, by simp [toPs, e, e2], by simp [PyData.canLayAll0, c, c2], ?_, by simp [n2]⟩
    simp only [PyData.depthAll]
    omega
theorem sh_tup {n : Nat} {xs : List D} (h : ∀ d ∈ xs, Sh n d) : Sh (n + 1) (.tup xs) := by
  obtain ⟨ps, e, c, l, _⟩ := sh_all h
  exact ⟨.tuple ps, by simp [toP, e], by simpa [PyData.canLay0] using c, by simp only [PyData.depth]; omega⟩
theorem sh_lst {n : Nat} {xs : List D} (h : ∀ d ∈ xs, Sh n d) : Sh (n + 1) (.lst xs) := by
  obtain ⟨ps, e, c, l, _⟩ := sh_all h
  exact ⟨.list ps, by simp [toP, e], by simpa [PyData.canLay0] using c, by simp only [PyData.depth]; omega⟩
theorem Sh.shaped {n : Nat} {d : D} (h : Sh n d) (hn : n ≤ 64) : ∃ p, toP d = some p ∧ SeqAt.shaped p = true ∧ PyData.canLay0 p = true := by
  obtain ⟨p, e, c, l⟩ := h
  refine ⟨p, e, ?_, c⟩
  unfold SeqAt.shaped
  rw [Bool.and_eq_true, decide_eq_true_eq]
  exact ⟨c, by omega⟩
theorem eqB_same {n : Nat} {d : D} (h : Sh n d) (hn : n ≤ 64) : eqB d d = some true := by
  obtain ⟨p, e, s, c⟩ := h.shaped hn
  unfold eqB
  split
  · rename_i hs
    cases d <;> simp [scalD, sameS] at hs ⊢
  · rw [e]
    simp only
    rw [if_pos ⟨s, s⟩, SeqAt.eqv_refl p c]
theorem neD_same {n : Nat} {d : D} (h : Sh n d) (hn : n ≤ 64) : neD d d = some (.bl false) := by simp [neD, eqB_same h hn]
section
variable {α : Type} (u w : α → D) (c : α → Bool)
end
end Pu
namespace Pu
open PySem PySem.Spec PyProof.Rows L2 My
theorem chrs_pl (p : Pa) : chrs (pl p) = p.map fun b => .str (pl [b]) := by
  unfold chrs
  rw [pl_toList, List.map_map]
  apply List.map_congr_left
  intro b _
  cases b <;> rfl
theorem l_eq : Str.ofString "l" = pl [false] := by decide +kernel
theorem r_eq : Str.ofString "r" = pl [true] := by decide +kernel
end Pu
namespace Pu
open PySem PySem.Spec PyProof.Rows L2 My
theorem strOk_pl (p : Pa) : PyData.strOk (pl p) = true := by
  simp [PyData.strOk, pl, Array.all_eq_true]
  exact ⟨fun _ => by decide, fun _ => by decide⟩
theorem sub_in (t : Tr) (gs : List (Pa × Int)) (hp : gs.Perm (t.pre [])) (p : Pa) : (p ∈ gs.map (·.1)) ↔ t.sub p ≠ .e := by
  constructor
  · intro h
    obtain ⟨x, hx, rfl⟩ := List.mem_map.mp h
    obtain ⟨s, l, r, e, hs⟩ := mem_sub t [] x (hp.mem_iff.mp hx)
    rw [List.nil_append] at e
    rw [e, hs]
    simp
  · intro h
    cases hs : t.sub p with
    | e => exact absurd hs h
    | n l v r =>
      have := sub_mem t p [] l v r hs
      exact List.mem_map.mpr ⟨(p, v), hp.mem_iff.mpr (by simpa using this), rfl⟩
theorem spt_has (gs : List (Pa × Int)) (p : Pa) : (valD (spt gs) (Sum.inr (pl p) : Key)).isSome = decide (p ∈ gs.map (·.1)) := by
  induction gs with
  | nil => rfl
  | cons x gs ih =>
    simp only [spt, List.map_cons, valD, Sum.inr.injEq, pl_eq] at ih ⊢
    by_cases h : x.1 = p
    · simp [h]
    · rw [if_neg h, ih]
      have h2 : ¬ p = x.1 := fun e => h e.symm
      simp [h2]
def Tr.isE : Tr → Bool
  | .e => true
  | _ => false
theorem isE_iff (t : Tr) : (t ≠ .e) = (t.isE = false) := by cases t <;> simp [Tr.isE]
theorem in_spots (t : Tr) (gs : List (Pa × Int)) (hp : gs.Perm (t.pre [])) (p : Pa) : inD (.str (pl p)) (.dK (spt gs)) = some (.bl (!(t.sub p).isE)) := by
  have h := spt_has gs p
  have h2 := sub_in t gs hp p
  unfold inD inB
  simp only [keyD_u] at *
  have : (valD (spt gs) (Sum.inr (pl p) : Key)).isSome = !(t.sub p).isE := by
    rw [h]
    rw [isE_iff] at h2
    cases hb : (t.sub p).isE with
    | false => rw [decide_eq_true (h2.mpr hb)]; rfl
    | true => rw [decide_eq_false (fun z => by rw [h2.mp z] at hb; cases hb)]; rfl
  simp [this]
theorem fld_spots (t : Tr) (gs : List (Pa × Int)) : fldC ["Tree"] "own_spots" (t.ins gs) = some (.dK (spt gs)) := by
  simp [Tr.ins, List.lookup]
theorem fld_told (t : Tr) (gs : List (Pa × Int)) : fldC ["Tree"] "told" (t.ins gs) = some t.told := by
  have : (Str.ofString "told" == Str.ofString "own_spots") = false := by decide +kernel
  simp [Tr.ins, List.lookup, this]
theorem self_any (m : Str) (t : Tr) (gs : List (Pa × Int)) (h1 : (m == Str.ofString "own_spots") = false) (h2 : (m == Str.ofString "told") = false) (h3 : (m == Str.ofString "size") = false) (h4 : (m == Str.ofString "height") = false) : selfR "Tree" m (some (t.ins gs)) = true := by
  simp [Tr.ins, selfR, List.lookup, h1, h2, h3, h4]
theorem self_has (t : Tr) (gs : List (Pa × Int)) : selfR "Tree" (Str.ofString "has") (some (t.ins gs)) = true := self_any _ t gs (by decide +kernel) (by decide +kernel) (by decide +kernel) (by decide +kernel)
theorem self_need (t : Tr) (gs : List (Pa × Int)) : selfR "Tree" (Str.ofString "need") (some (t.ins gs)) = true := self_any _ t gs (by decide +kernel) (by decide +kernel) (by decide +kernel) (by decide +kernel)
section
variable {t : Tr} {gs : List (Pa × Int)}
theorem has_ok (hp : gs.Perm (t.pre [])) (p : Pa) : fn_Tree_has [t.ins gs, .str (pl p)] = .ok (.bl (!(t.sub p).isE)) .non := by
  have h := in_spots t gs hp p
  have f := fld_spots t gs
  simp [fn_Tree_has, b_Tree_has, f, h, gStrT, -fldC_u]
theorem need_ok (hp : gs.Perm (t.pre [])) (p : Pa) (hs : (t.sub p).isE = false) : fn_Tree_need [t.ins gs, .str (pl p)] = .ok .non .non := by
  have h := has_ok hp p
  have s := self_has t gs
  rw [hs] at h
  simp [fn_Tree_need, b_Tree_need, h, s, -selfR_u]
end
end Pu
namespace Pu
open PySem PySem.Spec PyProof.Rows L2 My
theorem cut_pl (p : Pa) (lo hi : Option Int) : cutS (pl p) lo hi = pl (cutL p lo hi) := by
  unfold cutS cutL
  rw [pl_len, pl_toList]
  unfold pl
  simp [List.map_take, List.map_drop]
theorem sl_pl (p : Pa) (lo hi : Option Int) (h : p.length < 10000) : sliceD lo hi (.str (pl p)) = some (.str (pl (cutL p lo hi))) := by
  have hb : (pl p).length ≤ sizeLine := by rw [pl_len, szl']; omega
  show (if (pl p).length ≤ sizeLine then some (D.str (cutS (pl p) lo hi)) else none) = _
  rw [if_pos hb, cut_pl]
theorem sIx_m1 (n d : Nat) (h : 1 ≤ n) : HT.sIx n d (some (-1)) = n - 1 := by
  have e : HT.sIx n d (some (-1)) = ((-1 : Int) + (n : Int)).toNat := rfl
  rw [e]
  omega
theorem cutL_init (p : Pa) (b : Bool) : cutL (p ++ [b]) none (some (-1)) = p := by
  unfold cutL
  have e1 : HT.sIx (p ++ [b]).length 0 none = 0 := rfl
  rw [e1, sIx_m1 _ _ (by simp)]
  simp
theorem cutL_last (p : Pa) (b : Bool) : cutL (p ++ [b]) (some (-1)) none = [b] := by
  unfold cutL
  have e1 : HT.sIx (p ++ [b]).length (p ++ [b]).length none = (p ++ [b]).length := rfl
  rw [e1, sIx_m1 _ _ (by simp)]
  simp
theorem slm1_pl (p : Pa) (b : Bool) (h : p.length < 9000) : sliceD none (some (-1)) (.str (pl (p ++ [b]))) = some (.str (pl p)) := by
  rw [sl_pl _ _ _ (by simp; omega), cutL_init]
theorem sle1_pl (p : Pa) (b : Bool) (h : p.length < 9000) : sliceD (some (-1)) none (.str (pl (p ++ [b]))) = some (.str (pl [b])) := by
  rw [sl_pl _ _ _ (by simp; omega), cutL_last]
theorem sle1_nil : sliceD (some (-1)) none (.str (pl [])) = some (.str (pl [])) := by kernel_rfl
theorem eq_pl (p q : Pa) : eqD (.str (pl p)) (.str (pl q)) = some (.bl (decide (p = q))) := by
  rw [eqS]
  simp only [pl_eq]
end Pu
namespace Pu
open PySem PySem.Spec PyProof.Rows L2 My
theorem self_m (m : String) (t : Tr) (gs : List (Pa × Int)) (h : m ∉ ["own_spots", "told", "size", "height"]) : selfR "Tree" (Str.ofString m) (some (t.ins gs)) = true := by
  have key : ∀ x : String, x ∈ ["own_spots", "told", "size", "height"] → (Str.ofString m == Str.ofString x) = false := fun x hx => by
    refine beq_eq_false_iff_ne.mpr fun e => ?_
    rw [ofS_inj] at e
    exact h (e ▸ hx)
  exact self_any _ t gs (key _ (by simp)) (key _ (by simp)) (key _ (by simp)) (key _ (by simp))
section
variable {t : Tr} {gs : List (Pa × Int)}
def sdS (l r : Bool) : Str := if l then (if r then Str.ofString "lr" else Str.ofString "l") else (if r then Str.ofString "r" else Str.ofString "")
theorem sides_ok (hp : gs.Perm (t.pre [])) (p : Pa) (hl : p.length < 10000) {l r : Tr} {v : Int} (hs : t.sub p = .n l v r) : fn_Tree_sides [t.ins gs, .str (pl p)] = .ok (.str (sdS (!l.isE) (!r.isE))) .non := by
  have h := need_ok hp p (by rw [hs]; rfl)
  have s := self_need t gs
  have f := fld_spots t gs
  have h1 := in_spots t gs hp (p ++ [false])
  have h2 := in_spots t gs hp (p ++ [true])
  have el : t.sub (p ++ [false]) = l := by rw [sub_app, hs]; rfl
  have er : t.sub (p ++ [true]) = r := by rw [sub_app, hs]; rfl
  rw [el] at h1
  rw [er] at h2
  have hlr : chrs (Str.ofString "lr") = [.str (Str.ofString "l"), .str (Str.ofString "r")] := by
    have : Str.ofString "lr" = pl [false, true] := by decide +kernel
    rw [this, chrs_pl, l_eq, r_eq]
    rfl
  have b4 : (pl p).length + 1 ≤ 16777216 := by rw [pl_len]; omega
  have hll : (Str.ofString "l").length = 1 := l_len
  have j0 : joinD (Str.ofString "") (.lst []) = some (.str (Str.ofString "")) := by rfl
  have j1 : joinD (Str.ofString "") (.lst [.str (Str.ofString "l")]) = some (.str (Str.ofString "l")) := by rfl
  have j2 : joinD (Str.ofString "") (.lst [.str (Str.ofString "r")]) = some (.str (Str.ofString "r")) := by rfl
  have j3 : joinD (Str.ofString "") (.lst [.str (Str.ofString "l"), .str (Str.ofString "r")]) = some (.str (Str.ofString "lr")) := by rfl
  cases ha : l.isE <;> cases hb : r.isE <;> rw [ha] at h1 <;> rw [hb] at h2 <;>
    simp [fn_Tree_sides, b_Tree_sides, h, s, f, dLc, dLcL, hlr, wipeE, b4, l_len, r_len, pl_l, pl_r, h1, h2, j0, j1, j2, j3, szl', sdS, -selfR_u, -fldC_u, -joinD_u]
theorem spot_val (hp : gs.Perm (t.pre [])) {q : Pa} {l r : Tr} {w : Int} (h : t.sub q = .n l w r) : ixD (.dK (spt gs)) (.str (pl q)) = some (.int w) := by
  have hn : (gs.map (·.1)).Nodup := (hp.map _).nodup_iff.mpr (pre_nodup t [])
  have hv := spt_val gs q w hn (hp.mem_iff.mpr (by have := sub_mem t q [] l w r h; simpa using this))
  simp [ixD, hv]
theorem value_ok (hp : gs.Perm (t.pre [])) {p : Pa} {l r : Tr} {v : Int} (hs : t.sub p = .n l v r) : fn_Tree_value [t.ins gs, .str (pl p)] = .ok (.int v) .non := by
  have e := need_ok hp p (by rw [hs]; rfl)
  have f := self_m "need" t gs (by simp)
  have g := fld_spots t gs
  have h := spot_val hp hs
  simp [fn_Tree_value, b_Tree_value, e, f, g, h, -selfR_u, -fldC_u]
end
end Pu
namespace Pu
open PySem PySem.Spec PyProof.Rows L2 My
def viewD : D → Option (D × Int × D)
  | .tup [a, .int v, b] => some (a, v, b)
  | .lst [a, .int v, b] => some (a, v, b)
  | _ => none
mutual
def dz : D → Nat
  | .tup xs => dzs xs + 1
  | .lst xs => dzs xs + 1
  | _ => 1
def dzs : List D → Nat
  | [] => 0
  | x :: xs => dz x + dzs xs
end
mutual
def dp : D → Nat
  | .tup xs => dps xs + 1
  | .lst xs => dps xs + 1
  | _ => 0
def dps : List D → Nat
  | [] => 0
  | x :: xs => max (dp x) (dps xs)
end
mutual
/-- plain data -/
def plain : D → Bool
  | .non => true
  | .bl _ => true
  | .int _ => true
  | .str z => decide (z.length ≤ 1000)
  | .tup xs => plains xs
  | .lst xs => plains xs
  | .dK [] => true
  | _ => false
def plains : List D → Bool
  | [] => true
  | x :: xs => plain x && plains xs
end
theorem dz_pos (d : D) : 1 ≤ dz d := by cases d <;> simp [dz]
theorem view_ok {d a b : D} {v : Int} (h : viewD d = some (a, v, b)) : (d = .tup [a, .int v, b] ∨ d = .lst [a, .int v, b]) := by
  unfold viewD at h
  split at h
  · cases h; exact .inl rfl
  · cases h; exact .inr rfl
  · cases h
theorem view_dz {d a b : D} {v : Int} (h : viewD d = some (a, v, b)) : dz d = dz a + dz b + 2 := by
  rcases view_ok h with rfl | rfl <;> simp [dz, dzs] <;> omega
theorem view_dp {d a b : D} {v : Int} (h : viewD d = some (a, v, b)) : dp a < dp d ∧ dp b < dp d := by
  rcases view_ok h with rfl | rfl <;> simp [dp, dps] <;> omega
theorem view_plain {d a b : D} {v : Int} (h : viewD d = some (a, v, b)) (hp : plain d = true) : plain a = true ∧ plain b = true := by
  rcases view_ok h with rfl | rfl <;> simp [plain, plains] at hp <;> exact hp
abbrev Q1 := List (Pa × D)
inductive Run : Q1 → List (Pa × Int) → Option Pa → List (Pa × Int) → Prop
  | done {fs : List (Pa × Int)} : Run [] fs none fs
  | nil {p : Pa} {q : Q1} {fs gs : List (Pa × Int)} {w : Option Pa} : Run q fs w gs → Run ((p, .non) :: q) fs w gs
  | node {p : Pa} {d a b : D} {v : Int} {q : Q1} {fs gs : List (Pa × Int)} {w : Option Pa} : viewD d = some (a, v, b) → Run (q ++ [(p ++ [false], a), (p ++ [true], b)]) (fs ++ [(p, v)]) w gs → Run ((p, d) :: q) fs w gs
  | bad {p : Pa} {d : D} {q : Q1} {fs : List (Pa × Int)} : d ≠ .non → viewD d = none → Run ((p, d) :: q) fs (some p) fs
def szQ (q : Q1) : Nat := (q.map fun x => dz x.2).sum
theorem run_ex : ∀ (n : Nat) (q : Q1) (fs : List (Pa × Int)), szQ q ≤ n → ∃ w gs, Run q fs w gs
  | n, [], fs, _ => ⟨none, fs, .done⟩
  | 0, x :: q, fs, h => by have := dz_pos x.2; simp [szQ] at h; omega
  | n + 1, (p, d) :: q, fs, h => by
    have hd := dz_pos d
    cases hv : viewD d with
    | some abv =>
      obtain ⟨a, v, b⟩ := abv
      have e := view_dz hv
      obtain ⟨w, gs, r⟩ := run_ex n (q ++ [(p ++ [false], a), (p ++ [true], b)]) (fs ++ [(p, v)]) (by simp [szQ] at h ⊢; omega)
      exact ⟨w, gs, .node hv r⟩
    | none =>
      by_cases hn : d = .non
      · subst hn
        obtain ⟨w, gs, r⟩ := run_ex n q fs (by simp [szQ] at h ⊢; omega)
        exact ⟨w, gs, .nil r⟩
      · exact ⟨some p, fs, .bad hn hv⟩
structure Apart (q : Q1) (fs : List (Pa × Int)) : Prop where
  nd : (fs.map (·.1)).Nodup
  fr : ∀ x ∈ q, ∀ f ∈ fs, ¬ x.1 <+: f.1
  pw : q.Pairwise fun x y => ¬ x.1 <+: y.1 ∧ ¬ y.1 <+: x.1
theorem Apart.tail {x : Pa × D} {q : Q1} {fs : List (Pa × Int)} (h : Apart (x :: q) fs) : Apart q fs := ⟨h.nd, fun y hy => h.fr y (List.mem_cons_of_mem _ hy), (List.pairwise_cons.mp h.pw).2⟩
theorem Apart.new {p : Pa} {d : D} {q : Q1} {fs : List (Pa × Int)} (h : Apart ((p, d) :: q) fs) : p ∉ fs.map (·.1) := fun hm => by
  obtain ⟨f, hf, e⟩ := List.mem_map.mp hm
  exact h.fr (p, d) List.mem_cons_self f hf (by rw [e]; exact List.prefix_refl _)
theorem pfx_snoc {x p : Pa} {b : Bool} (h : x <+: p ++ [b]) : x <+: p ∨ x = p ++ [b] := by
  rcases List.prefix_concat_iff.mp h with h | h
  · exact .inr h
  · exact .inl h
theorem snoc_pfx {x p : Pa} {b : Bool} (h : p ++ [b] <+: x) : p <+: x := (List.prefix_append p [b]).trans h
theorem snoc_not (p : Pa) (b : Bool) : ¬ p ++ [b] <+: p := fun h => by have := h.length_le; simp at this; omega
theorem Apart.node {p : Pa} {d a b : D} {v : Int} {q : Q1} {fs : List (Pa × Int)} (h : Apart ((p, d) :: q) fs) : Apart (q ++ [(p ++ [false], a), (p ++ [true], b)]) (fs ++ [(p, v)]) := by
  have hq := (List.pairwise_cons.mp h.pw).1
  refine ⟨?_, ?_, ?_⟩
  · rw [List.map_append, List.nodup_append]
    refine ⟨h.nd, by simp, fun x hx y hy e => ?_⟩
    simp at hy
    subst hy
    subst e
    exact h.new hx
  · intro x hx f hf hpf
    rcases List.mem_append.mp hx with hx | hx
    · rcases List.mem_append.mp hf with hf | hf
      · exact h.fr x (List.mem_cons_of_mem _ hx) f hf hpf
      · simp at hf
        subst hf
        exact (hq x hx).2 hpf
    · have hx' : ∃ c, x.1 = p ++ [c] := by
        simp at hx
        rcases hx with rfl | rfl
        · exact ⟨false, rfl⟩
        · exact ⟨true, rfl⟩
      obtain ⟨c, ec⟩ := hx'
      rw [ec] at hpf
      rcases List.mem_append.mp hf with hf | hf
      · exact h.fr (p, d) List.mem_cons_self f hf (snoc_pfx hpf)
      · simp at hf
        subst hf
        exact snoc_not p c hpf
  · rw [List.pairwise_append]
    refine ⟨(List.pairwise_cons.mp h.pw).2, ?_, ?_⟩
    · simp only [List.pairwise_cons, List.mem_singleton, List.not_mem_nil, false_implies, implies_true, List.Pairwise.nil, and_true]
      intro y hy
      subst hy
      constructor
      · intro z
        have := z.eq_of_length (by simp)
        simp at this
      · intro z
        have := z.eq_of_length (by simp)
        simp at this
    · intro x hx y hy
      have hy' : ∃ c, y.1 = p ++ [c] := by
        simp at hy
        rcases hy with rfl | rfl
        · exact ⟨false, rfl⟩
        · exact ⟨true, rfl⟩
      obtain ⟨c, ec⟩ := hy'
      have := hq x hx
      rw [ec]
      constructor
      · intro z
        rcases pfx_snoc z with z | z
        · exact this.2 z
        · exact this.1 (by rw [z]; exact List.prefix_append _ _)
      · intro z
        exact this.1 (snoc_pfx z)
def rowB : D → Bool
  | .tup xs => decide (xs.length = 3)
  | .lst xs => decide (xs.length = 3)
  | _ => false
def intB : D → Bool
  | .int _ => true
  | _ => false
theorem isrow_D {d : D} (h : plain d = true) : fn_is_row [d, .int 3] = .ok (.bl (rowB d)) .non := by
  cases d with
  | tup xs =>
    by_cases hl : xs.length = 3
    · have : ((xs.length : Int) = 3) := by omega
      simp [fn_is_row, b_is_row, gRow, eqD, eqB, scalD, sameS, rowB, hl]
    · have : ¬ ((xs.length : Int) = 3) := by omega
      simp [fn_is_row, b_is_row, gRow, eqD, eqB, scalD, sameS, rowB, hl, this]
  | lst xs =>
    by_cases hl : xs.length = 3
    · have : ((xs.length : Int) = 3) := by omega
      simp [fn_is_row, b_is_row, gRow, eqD, eqB, scalD, sameS, rowB, hl]
    · have : ¬ ((xs.length : Int) = 3) := by omega
      simp [fn_is_row, b_is_row, gRow, eqD, eqB, scalD, sameS, rowB, hl, this]
  | dK kvs => simp [fn_is_row, b_is_row, gRow, rowB]
  | non => simp [fn_is_row, b_is_row, gRow, rowB]
  | bl b => simp [fn_is_row, b_is_row, gRow, rowB]
  | int i => simp [fn_is_row, b_is_row, gRow, rowB]
  | str z => simp [fn_is_row, b_is_row, gRow, rowB]
  | dT _ => simp [plain] at h
  | kd _ => simp [plain] at h
  | ins _ _ => simp [plain] at h
  | scr _ => simp [plain] at h
  | ty _ => simp [plain] at h
  | cl _ => simp [plain] at h
  | dN _ => simp [plain] at h
theorem isint_D {d : D} (h : plain d = true) : fn_is_integer [d] = .ok (.bl (intB d)) .non := by
  cases d with
  | dT _ => simp [plain] at h
  | kd _ => simp [plain] at h
  | ins _ _ => simp [plain] at h
  | scr _ => simp [plain] at h
  | ty _ => simp [plain] at h
  | cl _ => simp [plain] at h
  | dN _ => simp [plain] at h
  | _ => simp [fn_is_integer, b_is_integer, gInt, gBool, intB]
theorem view_row {d a b : D} {v : Int} (h : viewD d = some (a, v, b)) : rowB d = true ∧ ixD d (.int 0) = some a ∧ ixD d (.int 1) = some (.int v) ∧ ixD d (.int 2) = some b ∧ (∀ x, isN false d .non = some x → x = .bl false) ∧ isN false d .non = some (.bl false) := by
  rcases view_ok h with rfl | rfl <;> exact ⟨rfl, rfl, rfl, rfl, fun x hx => by cases hx; rfl, rfl⟩
theorem step_v (d0 x4 x5 : Option (Kd × D)) (kvs : List (Key × D)) (ws : List D) (i : Int) (z : Str) (d a b : D) (v : Int) (hv : viewD d = some (a, v, b)) (hp : plain d = true) (h : atI ws i = some (.tup [.str z, d])) (h1 : kvs.length < 1000000) (h2 : ws.length < 1000000) (h3 : z.length < 1000000) :
    l1_spots_of [d0, some (.own, .dK kvs), some (.own, .lst ws), some (.val, .int i), x4, x5] = .nx [d0, some (.own, .dK (putD kvs (Sum.inr z) (.int v))), some (.own, .lst (ws ++ [.tup [.str (z ++ Str.ofString "l"), a], .tup [.str (z ++ Str.ofString "r"), b]])), some (.val, .int (i + 1)), some (.val, .str z), some (.val, d)] := by
  have hr := isrow_D hp
  obtain ⟨r0, a0, a1, a2, _, r1⟩ := view_row hv
  rw [r0] at hr
  have hi := int_is v
  have b1 : kvs.length < 16777216 := by omega
  have b2 : ws.length < 16777216 := by omega
  have b3 : ws.length + 1 < 16777216 := by omega
  have b4 : z.length + 1 ≤ 16777216 := by omega
  have hx : ixD (.lst ws) (.int i) = some (.tup [.str z, d]) := h
  simp [l1_spots_of, hx, hr, hi, a0, a1, a2, r1, b1, b2, b3, b4, szl', l_len, r_len, -isN_u]
theorem step_x (d0 x4 x5 : Option (Kd × D)) (kvs : List (Key × D)) (ws : List D) (i : Int) (z : Str) (d : D) (hn : d ≠ .non) (hv : viewD d = none) (hp : plain d = true) (h : atI ws i = some (.tup [.str z, d])) :
    ∃ ρ', l1_spots_of [d0, some (.own, .dK kvs), some (.own, .lst ws), some (.val, .int i), x4, x5] = .rt (.tup [.dK kvs, .str z]) ρ' := by
  have hr := isrow_D hp
  have hx : ixD (.lst ws) (.int i) = some (.tup [.str z, d]) := h
  have r1 : isN false d .non = some (.bl false) := by
    cases d with
    | non => exact absurd rfl hn
    | ty _ => simp [plain] at hp
    | _ => rfl
  cases hb : rowB d with
  | false =>
    rw [hb] at hr
    exact ⟨_, by simp [l1_spots_of, hx, hr, r1, szl', -isN_u]; rfl⟩
  | true =>
    rw [hb] at hr
    have key : ∃ y, ixD d (.int 1) = some y ∧ plain y = true ∧ intB y = false := by
      cases d with
      | tup xs =>
        match xs, hb, hv, hp with
        | [a, y, b], _, hv, hp =>
          simp [plain, plains] at hp
          refine ⟨y, rfl, hp.2.1, ?_⟩
          cases y <;> first | rfl | simp [viewD] at hv
      | lst xs =>
        match xs, hb, hv, hp with
        | [a, y, b], _, hv, hp =>
          simp [plain, plains] at hp
          refine ⟨y, rfl, hp.2.1, ?_⟩
          cases y <;> first | rfl | simp [viewD] at hv
      | _ => simp [rowB] at hb
    obtain ⟨y, a1, py, iy⟩ := key
    have hi := isint_D py
    rw [iy] at hi
    exact ⟨_, by simp [l1_spots_of, hx, hr, r1, a1, hi, szl', -isN_u]; rfl⟩
end Pu
namespace Pu
open PySem PySem.Spec PyProof.Rows L2 My
def wq (q : Q1) : List D := q.map fun x => .tup [.str (pl x.1), x.2]
theorem len_szQ (q : Q1) : q.length ≤ szQ q := by
  induction q with
  | nil => simp
  | cons x q ih => have := dz_pos x.2; simp [szQ] at ih ⊢; omega
theorem szQ_cons (x : Pa × D) (q : Q1) : szQ (x :: q) = dz x.2 + szQ q := by simp [szQ]
theorem szQ_node {p : Pa} {d a b : D} {v : Int} (q : Q1) (h : viewD d = some (a, v, b)) : szQ (q ++ [(p ++ [false], a), (p ++ [true], b)]) + 2 = szQ ((p, d) :: q) := by
  have := view_dz h
  simp [szQ]
  omega
def okQ (q : Q1) : Prop := ∀ x ∈ q, x.1.length + dp x.2 < 10000 ∧ plain x.2 = true
theorem okQ.node {p : Pa} {d a b : D} {v : Int} {q : Q1} (h : okQ ((p, d) :: q)) (hv : viewD d = some (a, v, b)) : okQ (q ++ [(p ++ [false], a), (p ++ [true], b)]) := fun x hx => by
  have h0 := h _ List.mem_cons_self
  have h1 := view_dp hv
  have h2 := view_plain hv h0.2
  rcases List.mem_append.mp hx with hx | hx
  · exact h x (List.mem_cons_of_mem _ hx)
  · simp at hx
    rcases hx with rfl | rfl
    · exact ⟨by simp at h0 ⊢; omega, h2.1⟩
    · exact ⟨by simp at h0 ⊢; omega, h2.2⟩
theorem okQ.tail {x : Pa × D} {q : Q1} (h : okQ (x :: q)) : okQ q := fun y hy => h y (List.mem_cons_of_mem _ hy)
def QRes (d0 : Option (Kd × D)) (w : Option Pa) (gs : List (Pa × Int)) (o : SOut) : Prop := match w with
  | none => ∃ ws i y4 y5, o = .nx [d0, some (.own, .dK (spt gs)), some (.own, .lst ws), some (.val, .int i), y4, y5]
  | some p => ∃ ρ', o = .rt (.tup [.dK (spt gs), .str (pl p)]) ρ'
theorem q_loop (d0 : Option (Kd × D)) {q : Q1} {fs gs : List (Pa × Int)} {w : Option Pa} (r : Run q fs w gs) : ∀ (k : Nat) (done : List D) (x4 x5 : Option (Kd × D)), szQ q < k → okQ q → done.length + szQ q < 100000 → fs.length + szQ q < 100000 → Apart q fs →
    QRes d0 w gs (dWh c0_spots_of l1_spots_of k [d0, some (.own, .dK (spt fs)), some (.own, .lst (done ++ wq q)), some (.val, .int done.length), x4, x5]) := by
  have hcond : ∀ (x : Pa × D) (q : Q1) (done : List D) (F : D) (x4 x5 : Option (Kd × D)), c0_spots_of [d0, some (.own, F), some (.own, .lst (done ++ wq (x :: q))), some (.val, .int done.length), x4, x5] = .ok true [d0, some (.own, F), some (.own, .lst (done ++ wq (x :: q))), some (.val, .int done.length), x4, x5] := by
    intro x q done F x4 x5
    simp [c0_spots_of, wq]
    omega
  have hat : ∀ (x : Pa × D) (q : Q1) (done : List D), atI (done ++ wq (x :: q)) (done.length : Int) = some (.tup [.str (pl x.1), x.2]) := by
    intro x q done
    rw [atI_nat]
    simp [wq]
  have hlen : ∀ (x : Pa × D) (q : Q1) (done : List D), ((done ++ [D.tup [.str (pl x.1), x.2]]).length : Int) = (done.length : Int) + 1 := by intro x q done; simp
  induction r with
  | done =>
    intro k done x4 x5 hk _ _ _ _
    obtain ⟨k, rfl⟩ : ∃ j, k = j + 1 := ⟨k - 1, by omega⟩
    refine ⟨done, done.length, x4, x5, ?_⟩
    simp [dWh, c0_spots_of, wq]
  | @nil p q fs gs w r ih =>
    intro k done x4 x5 hk hok hd hf ap
    rw [szQ_cons] at hk hd hf
    simp [dz] at hk hd hf
    obtain ⟨k, rfl⟩ : ∃ j, k = j + 1 := ⟨k - 1, by omega⟩
    rw [dWh_ct (hcond _ _ _ _ _ _) (step_e d0 x4 x5 _ _ _ _ (hat (p, .non) q done))]
    have e1 : done ++ wq ((p, D.non) :: q) = (done ++ [D.tup [.str (pl p), .non]]) ++ wq q := by simp [wq]
    rw [e1, ← hlen (p, .non) q done]
    exact ih k _ _ _ (by omega) hok.tail (by simp; omega) (by omega) ap.tail
  | @node p d a b v q fs gs w hv r ih =>
    intro k done x4 x5 hk hok hd hf ap
    have hs := szQ_node (p := p) q hv
    obtain ⟨k, rfl⟩ : ∃ j, k = j + 1 := ⟨k - 1, by omega⟩
    have h0 := hok _ List.mem_cons_self
    have hw : (done ++ wq ((p, d) :: q)).length < 1000000 := by
      have := len_szQ ((p, d) :: q)
      simp [wq] at this ⊢
      omega
    rw [dWh_nx (hcond _ _ _ _ _ _) (step_v d0 x4 x5 _ _ _ _ d a b v hv h0.2 (hat (p, d) q done) (by simp [spt]; omega) hw (by rw [pl_len]; have := h0.1; simp at this ⊢; omega)), spt_put fs p v ap.new, pl_l, pl_r]
    have e1 : done ++ wq ((p, d) :: q) ++ [D.tup [.str (pl (p ++ [false])), a], .tup [.str (pl (p ++ [true])), b]] = (done ++ [D.tup [.str (pl p), d]]) ++ wq (q ++ [(p ++ [false], a), (p ++ [true], b)]) := by simp [wq]
    rw [e1, ← hlen (p, d) q done]
    exact ih k _ _ _ (by omega) (hok.node hv) (by simp; omega) (by simp; omega) ap.node
  | @bad p d q fs hn hv =>
    intro k done x4 x5 hk hok hd hf ap
    obtain ⟨k, rfl⟩ : ∃ j, k = j + 1 := ⟨k - 1, by omega⟩
    have h0 := hok _ List.mem_cons_self
    obtain ⟨ρ', e⟩ := step_x d0 x4 x5 (spt fs) _ _ _ d hn hv h0.2 (hat (p, d) q done)
    refine ⟨ρ', ?_⟩
    rw [dWh_rt (hcond _ _ _ _ _ _) e]
def wrongD : Option Pa → D
  | none => .non
  | some p => .str (pl p)
theorem spots_D {d : D} {w : Option Pa} {gs : List (Pa × Int)} (r : Run [([], d)] [] w gs) (hp : plain d = true) (h1 : dz d < 40000) (h2 : dp d < 9000) : fn_spots_of [d] = .ok (.tup [.dK (spt gs), wrongD w]) .non := by
  have h := q_loop (some (.val, d)) r 100000 [] none none (by simp [szQ]; omega) (fun x hx => by simp at hx; subst hx; simp; exact ⟨by omega, hp⟩) (by simp [szQ]; omega) (by simp [szQ]; omega) ⟨by simp, by simp, by simp⟩
  have e : ([] : List D) ++ wq [(([] : Pa), d)] = [.tup [.str (Str.ofString ""), d]] := by rw [pl_nil]; rfl
  rw [e] at h
  cases w with
  | none =>
    obtain ⟨ws, i, y4, y5, h⟩ := h
    have h' : dWh c0_spots_of l1_spots_of 100000 [some (.val, d), some (.own, .dK []), some (.own, .lst [.tup [.str (Str.ofString ""), d]]), some (.val, .int 0), none, none] = _ := h
    simp [fn_spots_of, b_spots_of, szl', h', wrongD]
  | some p =>
    obtain ⟨ρ', h⟩ := h
    have h' : dWh c0_spots_of l1_spots_of 100000 [some (.val, d), some (.own, .dK []), some (.own, .lst [.tup [.str (Str.ofString ""), d]]), some (.val, .int 0), none, none] = _ := h
    simp [fn_spots_of, b_spots_of, szl', h', wrongD]
end Pu
namespace Pu
open PySem PySem.Spec PyProof.Rows L2 My
def PT (x : Pa × D) (y : Pa × Tr) : Prop := y.1 = x.1 ∧ y.2.size ≤ dz x.2 ∧ y.2.ht ≤ dp x.2
theorem sub_n (t : Tr) (gs : List (Pa × Int)) (hp : gs.Perm (t.pre [])) (p : Pa) : (p ∈ gs.map (·.1)) ↔ ∃ l v r, t.sub p = .n l v r := by
  constructor
  · intro h
    obtain ⟨x, hx, rfl⟩ := List.mem_map.mp h
    obtain ⟨s, l, r, e, hs⟩ := mem_sub t [] x (hp.mem_iff.mp hx)
    rw [List.nil_append] at e
    exact ⟨l, x.2, r, by rw [e]; exact hs⟩
  · rintro ⟨l, v, r, h⟩
    have := sub_mem t p [] l v r h
    exact List.mem_map.mpr ⟨(p, v), hp.mem_iff.mpr (by simpa using this), rfl⟩
theorem row_of_ok (t : Tr) (gs : List (Pa × Int)) (hp : gs.Perm (t.pre [])) (h1 : t.size < 10000) : ∀ (k : Nat) (p : Pa), (t.sub p).ht < k → p.length + (t.sub p).ht < 9000 → (t.sub p).size < 10000 → fn_law_row_of k [.dK (spt gs), .str (pl p)] = .ok (.lst (plS ((t.sub p).ino p))) .non := by
  intro k
  induction k with
  | zero => intro p h; omega
  | succ k ih =>
    intro p hk hb hz
    have hin := spt_has gs p
    cases hs : t.sub p with
    | e =>
      have hno : ¬ p ∈ gs.map (·.1) := fun h => by
        obtain ⟨l, v, r, e⟩ := (sub_n t gs hp p).mp h
        rw [hs] at e
        cases e
      rw [decide_eq_false hno] at hin
      have hni : ninD (.str (pl p)) (.dK (spt gs)) = some (.bl true) := by simp [ninD, inB, hin]
      simp [fn_law_row_of, b_law_row_of, hni, szl', plS, Tr.ino]
    | n l v r =>
      have hyes : p ∈ gs.map (·.1) := (sub_n t gs hp p).mpr ⟨l, v, r, hs⟩
      rw [decide_eq_true hyes] at hin
      have hni : ninD (.str (pl p)) (.dK (spt gs)) = some (.bl false) := by simp [ninD, inB, hin]
      have el : t.sub (p ++ [false]) = l := by rw [sub_app, hs]; rfl
      have er : t.sub (p ++ [true]) = r := by rw [sub_app, hs]; rfl
      rw [hs] at hk hb hz
      simp [Tr.ht] at hk hb
      simp [Tr.size] at hz
      have il := ih (p ++ [false]) (by rw [el]; omega) (by rw [el]; simp; omega) (by rw [el]; omega)
      have ir := ih (p ++ [true]) (by rw [er]; omega) (by rw [er]; simp; omega) (by rw [er]; omega)
      rw [el] at il
      rw [er] at ir
      have b4 : (pl p).length + 1 ≤ 16777216 := by rw [pl_len]; omega
      have ll : (plS (l.ino (p ++ [false]))).length = l.size := by simp [plS, (ino_perm l _).length_eq, pre_len]
      have lr : (plS (r.ino (p ++ [true]))).length = r.size := by simp [plS, (ino_perm r _).length_eq, pre_len]
      have b5 : l.size + 1 ≤ 16777216 := by omega
      have b6 : l.size + 1 + r.size ≤ 16777216 := by omega
      simp [fn_law_row_of, b_law_row_of, hni, szl', l_len, r_len, b4, pl_l, pl_r, il, ir, ll, lr, b5, b6]
      simp [plS, Tr.ino]
end Pu
namespace Pu
open PySem PySem.Spec PyProof.Rows L2 My
variable [Tbs]
def pen (cs : List Int) (n l : Int) : D := .dK [(Sum.inr "cells", .lst (cs.map D.int)), (Sum.inr "next", .int n), (Sum.inr "left", .int l)]
theorem toPs_ints (cs : List Int) : toPs (cs.map D.int) = some (cs.map PyData.int) := by
  induction cs with
  | nil => rfl
  | cons c cs ih => simp [toPs, toP, ih]
theorem canLay_ints (cs : List Int) : PyData.canLayAll0 (cs.map PyData.int) = true := by
  induction cs with
  | nil => rfl
  | cons c cs ih => simp [PyData.canLayAll0, PyData.canLay0, ih]
theorem depth_ints (cs : List Int) : PyData.depthAll (cs.map PyData.int) ≤ 1 := by
  induction cs with
  | nil => simp [PyData.depthAll]
  | cons c cs ih => simp [PyData.depthAll, PyData.depth]; omega
theorem ne_cells (cs : List Int) : neD (.lst (cs.map D.int)) (.lst []) = some (.bl (!cs.isEmpty)) := by
  have h1 : SeqAt.shaped (.list (cs.map PyData.int)) = true := by
    unfold SeqAt.shaped
    rw [Bool.and_eq_true]
    refine ⟨by rw [PyData.canLay0]; exact canLay_ints cs, ?_⟩
    have := depth_ints cs
    rw [decide_eq_true_eq, PyData.depth]
    omega
  have h2 : SeqAt.shaped (.list []) = true := by decide +kernel
  unfold neD eqB
  simp [scalD, toP, toPs_ints, toPs, h1, h2]
  cases cs <;> simp [PyData.eqv, PyData.eqvAll]
theorem ne_nil : neD (.lst []) (.lst []) = some (.bl false) := ne_cells []
theorem ks1 : (Str.ofString "cells" = Str.ofString "left") = False := eq_false (by decide +kernel)
theorem ks2 : (Str.ofString "next" = Str.ofString "left") = False := eq_false (by decide +kernel)
theorem ks3 : (Str.ofString "cells" = Str.ofString "next") = False := eq_false (by decide +kernel)
theorem ks4 : (Str.ofString "left" = Str.ofString "next") = False := eq_false (by decide +kernel)
theorem int_mod_lt (a m : Int) (h : 0 < m) : 0 ≤ a % m ∧ a % m < m := ⟨Int.emod_nonneg _ (by omega), Int.emod_lt_of_pos _ h⟩
theorem szl : sizeLine = 16777216 := rfl
theorem log_ok (m : Int) (h : 0 < m ∧ m < 2 ^ 60) : m.natAbs.log2 < 9000 := by
  have h1 : m.natAbs < 2 ^ 60 := by omega
  have h2 : m.natAbs ≠ 0 := by omega
  have := (Nat.log2_lt h2).mpr h1
  omega
theorem mul_ok (i j : Int) (h : -(2 ^ 64) < i ∧ i < 2 ^ 64) : mulD (.int i) (.int j) = some (.int (i * j)) := by
  show (if (-(2 ^ 64) < i ∧ i < 2 ^ 64) ∨ (-(2 ^ 64) < j ∧ j < 2 ^ 64) then some (D.int (i * j)) else none) = _
  rw [if_pos (.inl h)]
theorem mul_ok2 (i j : Int) (h : -(2 ^ 64) < j ∧ j < 2 ^ 64) : mulD (.int i) (.int j) = some (.int (i * j)) := by
  show (if (-(2 ^ 64) < i ∧ i < 2 ^ 64) ∨ (-(2 ^ 64) < j ∧ j < 2 ^ 64) then some (D.int (i * j)) else none) = _
  rw [if_pos (.inr h)]
theorem pow18 : powD (.int 10) (.int 18) = some (.int 1000000000000000000) := rfl
theorem draw_ok (cs : List Int) (n l many : Int) (hn : 0 ≤ n ∧ n < 2 ^ 60) (hl : 0 ≤ l) (hm : 0 < many ∧ many < 2 ^ 60) :
    ∃ v n' l', fn_law_draw [pen cs n l, .int many] = .ok (.int v) (pen cs n' l') ∧ 0 ≤ v ∧ v < many ∧ 0 ≤ l' ∧ 0 ≤ n' ∧ n' ≤ n + 1 := by
  unfold fn_law_draw b_law_draw pen
  have lg := log_ok many hm
  by_cases h1 : 0 < l
  · simp [ixD, valD, putD, h1, hm.1, ks1, ks2, ks3, ks4, lg, szl]
    first | exact ⟨_, _, _, ⟨rfl, rfl, rfl⟩, (int_mod_lt _ _ hm.1).1, (int_mod_lt _ _ hm.1).2, Int.ediv_nonneg hl (by omega), hn.1, by omega⟩ | exact ⟨_, _, _, rfl, (int_mod_lt _ _ hm.1).1, (int_mod_lt _ _ hm.1).2, Int.ediv_nonneg hl (by omega), hn.1, by omega⟩ | exact ⟨_, _, _, ⟨rfl, rfl⟩, (int_mod_lt _ _ hm.1).1, (int_mod_lt _ _ hm.1).2, Int.ediv_nonneg hl (by omega), hn.1, by omega⟩
  · have m1 : mulD (.int 83) (.int n) = some (.int (83 * n)) := mul_ok _ _ (by omega)
    have m2 : mulD (.int 20353) (.int n) = some (.int (20353 * n)) := mul_ok _ _ (by omega)
    have m3 : mulD (.int (20353 * n)) (.int n) = some (.int (20353 * n * n)) := mul_ok2 _ _ (by omega)
    have m4 : mulD (.int 1531) (.int n) = some (.int (1531 * n)) := mul_ok _ _ (by omega)
    have m5 : mulD (.int 23) (.int n) = some (.int (23 * n)) := mul_ok _ _ (by omega)
    have m6 : ∀ a : Int, mulD (.int a) (.int 52711) = some (.int (a * 52711)) := fun a => mul_ok2 _ _ (by omega)
    have m7 : ∀ a : Int, mulD (.int 68903) (.int a) = some (.int (68903 * a)) := fun a => mul_ok _ _ (by omega)
    have m8 : ∀ a b : Int, mulD (.int (a % 4294967189)) (.int b) = some (.int (a % 4294967189 * b)) := fun a b => mul_ok _ _ (by have := int_mod_lt a 4294967189 (by omega); omega)
    have m9 : ∀ a b : Int, mulD (.int (a % 4294967161)) (.int b) = some (.int (a % 4294967161 * b)) := fun a b => mul_ok _ _ (by have := int_mod_lt a 4294967161 (by omega); omega)
    have lg128 : Nat.log2 64 < 9000 := by decide
    have fin : ∀ (a : Int), 0 ≤ a % many ∧ a % many < many := fun a => int_mod_lt a many hm.1
    rcases List.eq_nil_or_concat cs with rfl | hcs
    · simp [ixD, valD, putD, h1, hm.1, ks1, ks2, ks3, ks4, lg, szl, ne_cells, ne_nil, m1, m2, m3, m4, m5, m6, m7, m8, m9, pow18, Int.not_lt.mpr hn.1, lg128]
      first | exact ⟨_, _, _, ⟨rfl, rfl, rfl⟩, (fin _).1, (fin _).2, hl, by omega, by omega⟩ | exact ⟨_, _, _, rfl, (fin _).1, (fin _).2, hl, by omega, by omega⟩ | exact ⟨_, _, _, ⟨rfl, rfl⟩, (fin _).1, (fin _).2, hl, by omega, by omega⟩
    · have hne : cs ≠ [] := by obtain ⟨x, y, rfl⟩ := hcs; simp
      have hpos : 0 < (cs.length : Int) := by have := List.length_pos_iff.mpr hne; omega
      obtain ⟨c, hc⟩ : ∃ c : Int, atI (cs.map D.int) (n % (cs.length : Int)) = some (.int c) := by
        have := int_mod_lt n cs.length hpos
        rw [atI_pos _ _ this.1]
        have h2 : (n % (cs.length : Int)).toNat < cs.length := by omega
        exact ⟨cs[(n % (cs.length : Int)).toNat], by simp [List.getElem?_eq_getElem h2]⟩
      have hpN : 0 < cs.length := List.length_pos_iff.mpr hne
      have hie : cs.isEmpty = false := by simp [hne]
      by_cases h2 : n < cs.length
      · by_cases h3 : (1000000000000000000 : Int) ≤ (if c < 0 then -c else c)
        · simp [ixD, valD, putD, h1, hm.1, ks1, ks2, ks3, ks4, lg, szl, ne_cells, hie, hne, m1, m2, m3, m4, m5, m6, m7, m8, m9, pow18, hpos, hpN, hc, h2, h3]
          first | exact ⟨_, _, _, ⟨rfl, rfl, rfl⟩, (fin _).1, (fin _).2, Int.ediv_nonneg (by omega) (by omega), by omega, by omega⟩ | exact ⟨_, _, _, rfl, (fin _).1, (fin _).2, Int.ediv_nonneg (by omega) (by omega), by omega, by omega⟩ | exact ⟨_, _, _, ⟨rfl, rfl⟩, (fin _).1, (fin _).2, Int.ediv_nonneg (by omega) (by omega), by omega, by omega⟩
        · simp [ixD, valD, putD, h1, hm.1, ks1, ks2, ks3, ks4, lg, szl, ne_cells, hie, hne, m1, m2, m3, m4, m5, m6, m7, m8, m9, pow18, hpos, hpN, hc, h2, h3, lg128]
          first | exact ⟨_, _, _, ⟨rfl, rfl, rfl⟩, (fin _).1, (fin _).2, hl, by omega, by omega⟩ | exact ⟨_, _, _, rfl, (fin _).1, (fin _).2, hl, by omega, by omega⟩ | exact ⟨_, _, _, ⟨rfl, rfl⟩, (fin _).1, (fin _).2, hl, by omega, by omega⟩
      · simp [ixD, valD, putD, h1, hm.1, ks1, ks2, ks3, ks4, lg, szl, ne_cells, hie, hne, m1, m2, m3, m4, m5, m6, m7, m8, m9, pow18, hpos, hpN, hc, h2, lg128]
        first | exact ⟨_, _, _, ⟨rfl, rfl, rfl⟩, (fin _).1, (fin _).2, hl, by omega, by omega⟩ | exact ⟨_, _, _, rfl, (fin _).1, (fin _).2, hl, by omega, by omega⟩ | exact ⟨_, _, _, ⟨rfl, rfl⟩, (fin _).1, (fin _).2, hl, by omega, by omega⟩
theorem pen_ok (ns : List Int) (h : ns.length ≤ 63) : fn_law_pen_of [.scr ns] = .ok (pen ns 0 0) .non := by
  have hc : cutL (ns.map D.int) none (some 63) = ns.map D.int := by
    unfold cutL
    have e1 : HT.sIx (ns.map D.int).length 0 none = 0 := rfl
    have e2 : HT.sIx (ns.map D.int).length (ns.map D.int).length (some 63) = min 63 (ns.map D.int).length := HT.sIx_nat _ _ 63
    rw [e1, e2, List.drop_zero]
    exact List.take_of_length_le (by simp; omega)
  simp [fn_law_pen_of, b_law_pen_of, sliceD, hc, mergeD, putD, pen, ks1, ks2, ks3, ks4]
def Pn (cs : List Int) (k : Nat) (p : D) : Prop := ∃ n l : Int, p = pen cs n l ∧ 0 ≤ n ∧ n ≤ k ∧ 0 ≤ l
theorem Pn.mono {cs : List Int} {k k' : Nat} {p : D} (h : Pn cs k p) (hk : k ≤ k') : Pn cs k' p := by
  obtain ⟨n, l, e, h1, h2, h3⟩ := h
  exact ⟨n, l, e, h1, by omega, h3⟩
theorem draw_P {cs : List Int} {k : Nat} {p : D} (h : Pn cs k p) (hk : k < 10000000) (many : Int) (hm : 0 < many ∧ many < 100000) : ∃ v p', fn_law_draw [p, .int many] = .ok (.int v) p' ∧ Pn cs (k + 1) p' ∧ 0 ≤ v ∧ v < many := by
  obtain ⟨n, l, rfl, h1, h2, h3⟩ := h
  obtain ⟨v, n', l', e, a1, a2, a3, a4, a5⟩ := draw_ok cs n l many (by omega) h3 (by omega)
  exact ⟨v, _, e, ⟨n', l', rfl, a4, by omega, a3⟩, a1, a2⟩
theorem pick_P {cs : List Int} {k : Nat} {p : D} (h : Pn cs k p) (hk : k < 10000000) (items : List D) (hi : 0 < items.length ∧ items.length < 1000) : ∃ d p', d ∈ items ∧ fn_law_pick [p, .lst items] = .ok d p' ∧ Pn cs (k + 1) p' := by
  obtain ⟨v, p', e, hp, h1, h2⟩ := draw_P h hk items.length (by omega)
  have hv : v.toNat < items.length := by omega
  refine ⟨items[v.toNat], p', List.getElem_mem hv, ?_, hp⟩
  have hat : atI items v = some items[v.toNat] := by rw [atI_pos _ _ h1, List.getElem?_eq_getElem hv]
  simp [fn_law_pick, b_law_pick, e, ixD, hat]
end Pu
namespace Pu
open PySem PySem.Spec PyProof.Rows L2 My
def incL : List D := [.int 1, .int 1, .int 2, .int 3, .int 1000000000]
theorem incL_ok {d : D} (h : d ∈ incL) : ∃ i : Int, d = .int i ∧ 0 < i := by
  simp [incL] at h
  rcases h with rfl | rfl | rfl | rfl
  · exact ⟨1, rfl, by omega⟩
  · exact ⟨2, rfl, by omega⟩
  · exact ⟨3, rfl, by omega⟩
  · exact ⟨1000000000, rfl, by omega⟩
theorem pow9 : powD (.int 10) (.int 9) = some (.int 1000000000) := rfl
theorem num_turn {cs : List Int} {k : Nat} {p : D} (h : Pn cs k p) (hk : k < 9000000) (x1 x4 : Option (Kd × D)) (x : Int) (found : List D) (hf : found.length < 9000000) :
    ∃ p' y, x < y ∧ l0_law_some_numbers [some (.pin, p), x1, some (.val, .int x), some (.own, .lst found), x4] = .nx [some (.pin, p'), x1, some (.val, .int y), some (.own, .lst (found ++ [.int x])), x4] ∧ Pn cs (k + 1) p' := by
  obtain ⟨d, p', hd, e, hp⟩ := pick_P h (by omega) incL (by decide)
  obtain ⟨i, rfl, hi⟩ := incL_ok hd
  simp only [incL] at e
  have b : found.length < 16777216 := by omega
  refine ⟨p', x + i, by omega, ?_, hp⟩
  simp [l0_law_some_numbers, e, pow9, szl', b]
theorem nums_loop {cs : List Int} (x1 : Option (Kd × D)) : ∀ (ks : List D) (k : Nat) (p : D) (found : List Int) (x : Int) (x4 : Option (Kd × D)), Pn cs k p → k + ks.length < 9000000 → found.length + ks.length < 100000 → (found ++ [x]).Pairwise (· < ·) →
    ∃ p' ns y y4, dForL (gN 4) l0_law_some_numbers ks [some (.pin, p), x1, some (.val, .int x), some (.own, .lst (found.map .int)), x4] = .nx [some (.pin, p'), x1, some (.val, .int y), some (.own, .lst (ns.map .int)), y4] ∧ Pn cs (k + ks.length) p' ∧ ns.length = found.length + ks.length ∧ (ns ++ [y]).Pairwise (· < ·)
  | [], k, p, found, x, x4, hp, _, _, ha => ⟨p, found, x, x4, rfl, hp, by simp, ha⟩
  | d :: ks, k, p, found, x, x4, hp, h1, h2, ha => by
    simp only [List.length_cons] at h1 h2
    obtain ⟨p', y, hy, e, hp'⟩ := num_turn hp (by omega) x1 (some (.val, d)) x (found.map .int) (by simp; omega)
    have ha' : ((found ++ [x]) ++ [y]).Pairwise (· < ·) := by
      rw [List.pairwise_append]
      refine ⟨ha, by simp, fun a hm b hb => ?_⟩
      simp at hb
      subst hb
      rcases List.mem_append.mp hm with hm | hm
      · have := (List.pairwise_append.mp ha).2.2 a hm x (by simp)
        omega
      · simp at hm; omega
    obtain ⟨p2, ns, y2, y4, e2, q1, q2, q3⟩ := nums_loop x1 ks (k + 1) p' (found ++ [x]) y (some (.val, d)) hp' (by omega) (by simp; omega) ha'
    refine ⟨p2, ns, y2, y4, ?_, q1.mono (by simp; omega), by rw [q2]; simp; omega, q3⟩
    rw [forL_nx (ρ1 := [some (.pin, p), x1, some (.val, .int x), some (.own, .lst (found.map .int)), some (.val, d)]) rfl e]
    have em : found.map D.int ++ [D.int x] = (found ++ [x]).map D.int := by simp
    rw [em]
    exact e2
def firL : List D := [.int 0, .int (-3), .int 7, .int (-100000000000000000000), .int 1000000000000000000000000000000]
theorem firL_ok {d : D} (h : d ∈ firL) : ∃ i : Int, d = .int i := by
  simp [firL] at h
  rcases h with rfl | rfl | rfl | rfl | rfl <;> exact ⟨_, rfl⟩
theorem pow20 : powD (.int 10) (.int 20) = some (.int 100000000000000000000) := rfl
theorem pow30 : powD (.int 10) (.int 30) = some (.int 1000000000000000000000000000000) := rfl
theorem nums_ok {cs : List Int} {k : Nat} {p : D} (h : Pn cs k p) (many : Nat) (hm : many < 1000) (hk : k + many + 2 < 9000000) :
    ∃ (ns : List Int) (p' : D), fn_law_some_numbers [p, .int many] = .ok (.lst (ns.map .int)) p' ∧ Pn cs (k + many + 2) p' ∧ ns.length = many ∧ ns.Pairwise (· < ·) := by
  obtain ⟨d, p1, hd, e1, q1⟩ := pick_P h (by omega) firL (by decide)
  obtain ⟨i, rfl⟩ := firL_ok hd
  obtain ⟨v, p2, e2, q2, _, _⟩ := draw_P q1 (by omega) 5 (by omega)
  obtain ⟨p3, ns, y, y4, e3, q3, q4, q5⟩ := nums_loop (some (.val, .int many)) (rngD 0 many) (k + 1 + 1) p2 [] (i + v) none q2 (by rw [rngD_length]; omega) (by rw [rngD_length]; simp; omega) (by simp)
  rw [rngD_length] at q3 q4
  simp only [firL] at e1
  refine ⟨ns, p3, ?_, q3.mono (by omega), by simpa using q4, (List.pairwise_append.mp q5).1⟩
  obtain ⟨m, hmm⟩ : ∃ m : Int, (many : Int) = m := ⟨_, rfl⟩
  have hm1 : m.toNat = many := by omega
  rw [hmm] at e3 ⊢
  have b1 : m < 4611686018427387904 := by omega
  have b2 : (-4611686018427387904 : Int) ≤ m := by omega
  simp only [List.map_nil] at e3
  simp [fn_law_some_numbers, b_law_some_numbers, e1, e2, e3, pow20, pow30, szl', hm1, b1, b2]
theorem ino_shift (t : Tr) : ∀ p q : Pa, (t.ino p).map (·.2) = (t.ino q).map (·.2) := by
  induction t with
  | e => intro p q; rfl
  | n l v r il ir => intro p q; simp [Tr.ino, il (p ++ [false]) (q ++ [false]), ir (p ++ [true]) (q ++ [true])]
theorem vals_n (l : Tr) (v : Int) (r : Tr) : (Tr.n l v r).vals = l.vals ++ v :: r.vals := by
  unfold Tr.vals
  simp [Tr.ino, ino_shift l ([] ++ [false]) [], ino_shift r ([] ++ [true]) [], ino_shift l [false] [], ino_shift r [true] []]
theorem vals_len (t : Tr) : t.vals.length = t.size := by
  unfold Tr.vals
  rw [List.length_map, (ino_perm t []).length_eq, pre_len]
theorem eq_cells (cs : List Int) : eqD (.lst (cs.map D.int)) (.lst []) = some (.bl cs.isEmpty) := by
  have h1 : SeqAt.shaped (.list (cs.map PyData.int)) = true := by
    unfold SeqAt.shaped
    rw [Bool.and_eq_true]
    refine ⟨by rw [PyData.canLay0]; exact canLay_ints cs, ?_⟩
    have := depth_ints cs
    rw [decide_eq_true_eq, PyData.depth]
    omega
  have h2 : SeqAt.shaped (.list []) = true := by decide +kernel
  unfold eqD eqB
  simp [scalD, toP, toPs_ints, toPs, h1, h2]
  cases cs <;> simp [PyData.eqv, PyData.eqvAll]
theorem eq_int (a b : Int) : eqD (.int a) (.int b) = some (.bl (decide (a = b))) := by
  simp [eqD, eqB, scalD, sameS]
theorem told_draw {cs : List Int} : ∀ (f : Nat) (ns : List Int) (k : Nat) (p : D), Pn cs k p → ns.length < f → ns.length < 1000 → k + 3 * ns.length < 9000000 →
    ∃ (t : Tr) (p' : D), fn_law_some_told f [p, .lst (ns.map .int)] = .ok t.told p' ∧ Pn cs (k + 3 * ns.length) p' ∧ t.vals = ns
  | 0, ns, k, p, hp, hf, _, _ => by omega
  | f + 1, [], k, p, hp, hf, _, _ => by
    refine ⟨.e, p, ?_, hp, rfl⟩
    have e := eq_cells []
    simp only [List.map_nil] at e
    simp [fn_law_some_told, b_law_some_told, szl', e, Tr.told]
  | f + 1, x :: xs, k, p, hp, hf, h1, h2 => by
    have hlen : (((x :: xs).map D.int).length : Int) = ((x :: xs).length : Int) := by simp
    have hl0 : (0 : Int) < ((x :: xs).length : Int) := by simp
    generalize hns : x :: xs = ns at *
    have hne : ns.isEmpty = false := by subst hns; rfl
    obtain ⟨v, p1, e1, q1, a1, a2⟩ := draw_P hp (by omega) ns.length (by omega)
    obtain ⟨v2, p2, e2, q2, _, _⟩ := draw_P q1 (by omega) 4 (by omega)
    have ec := eq_cells ns
    rw [hne] at ec
    have ei := eq_int v2 0
    have key : ∃ (at_ : Int) (p3 : D), 0 ≤ at_ ∧ at_ < ns.length ∧ Pn cs (k + 3) p3 ∧ ∀ g : SM, dSeq (dIf (dT2 eqD (dCall true (some 0) 2 [] fn_law_draw (dCons (dVar 0) (dCons (dC (.int 4)) dNil))) (dC (.int 0)))
        (dSet 2 (dCall true (some 0) 2 [] fn_law_pick (dCons (dVar 0) (dCons (dLst (dCons (dC (.int 0)) (dCons (d2 subD (dN (one1 lenD) (dCons (dVar 1) dNil)) (dC (.int 1))) dNil))) dNil)))) dNx) g [some (.pin, p1), some (.val, .lst (ns.map .int)), some (.val, .int v)] = g [some (.pin, p3), some (.val, .lst (ns.map .int)), some (.val, .int at_)] := by
      by_cases hz : v2 = 0
      · subst hz
        obtain ⟨d, p3, hd, e3, q3⟩ := pick_P q2 (by omega) [.int 0, .int ((ns.length : Int) - 1)] ⟨by simp, by simp⟩
        rw [decide_eq_true rfl] at ei
        simp at hd
        rcases hd with rfl | rfl
        · refine ⟨0, p3, by omega, by omega, q3.mono (by omega), fun g => ?_⟩
          simp [e2, ei, e3, szl']
        · refine ⟨(ns.length : Int) - 1, p3, by omega, by omega, q3.mono (by omega), fun g => ?_⟩
          simp [e2, ei, e3, szl']
      · rw [decide_eq_false hz] at ei
        refine ⟨v, p2, a1, a2, q2.mono (by omega), fun g => ?_⟩
        simp [e2, ei]
    obtain ⟨at_, p3, b1, b2, q3, key⟩ := key
    have hlt : at_.toNat < ns.length := by omega
    obtain ⟨tl, p4, e4, q4, w4⟩ := told_draw f (ns.take at_.toNat) (k + 3) p3 q3 (by rw [List.length_take]; omega) (by rw [List.length_take]; omega) (by rw [List.length_take]; omega)
    obtain ⟨tr, p5, e5, q5, w5⟩ := told_draw f (ns.drop (at_.toNat + 1)) _ p4 q4 (by rw [List.length_drop]; omega) (by rw [List.length_drop]; omega) (by rw [List.length_drop, List.length_take]; omega)
    refine ⟨.n tl ns[at_.toNat] tr, p5, ?_, q5.mono (by rw [List.length_drop, List.length_take]; omega), ?_⟩
    · have c1 : cutL (ns.map D.int) none (some at_) = (ns.map D.int).take at_.toNat := cut_to _ _ b1
      have c2 : cutL (ns.map D.int) (some (at_ + 1)) none = (ns.map D.int).drop (at_.toNat + 1) := by
        rw [cut_from _ _ (by omega)]
        have : (at_ + 1).toNat = at_.toNat + 1 := by omega
        rw [this]
      have hat : ixD (.lst (ns.map D.int)) (.int at_) = some (.int ns[at_.toNat]) := by
        show atI _ _ = _
        rw [atI_pos _ _ b1]
        simp [List.getElem?_eq_getElem hlt]
      rw [List.map_take] at e4
      rw [List.map_drop] at e5
      have fin : ∃ ρ', b_law_some_told (fn_law_some_told f) [some (.pin, p), some (.val, .lst (ns.map .int)), none] = .rt (Tr.n tl ns[at_.toNat] tr).told ρ' ∧ ρ'[0]? = some (some (.pin, p5)) := by
        unfold b_law_some_told
        refine ⟨[some (.pin, p5), some (.val, .lst (ns.map .int)), some (.val, .int at_)], ?_, rfl⟩
        refine seq_go (ρ1 := [some (.pin, p), some (.val, .lst (ns.map .int)), none]) (by simp [ec, szl']) ?_
        refine seq_go (ρ1 := [some (.pin, p1), some (.val, .lst (ns.map .int)), some (.val, .int v)]) (by simp [e1]) ?_
        rw [key]
        simp [sliceD, c1, c2, e4, e5, hat, szl', Tr.told]
      obtain ⟨ρ', fin, fp⟩ := fin
      simp only [fn_law_some_told, runF, List.length_cons, List.length_nil, initE, initAt, kdAt, List.replicate]
      simp [fin, fp]
    · rw [vals_n, w4, w5]
      rw [← List.drop_eq_getElem_cons hlt, List.take_append_drop]
end Pu
namespace Pu
open PySem PySem.Spec PyProof.Rows L2 My
def roots (q : List (Pa × Tr)) : List (Pa × Int) := q.flatMap fun x => match x.2 with
  | .e => []
  | .n _ v _ => [(x.1, v)]
def nextQ (q : List (Pa × Tr)) : List (Pa × Tr) := q.flatMap fun x => match x.2 with
  | .e => []
  | .n l _ r => [(x.1 ++ [false], l), (x.1 ++ [true], r)]
theorem ne_more (y : D) (ys : List D) : neW (.lst (y :: ys)) (.lst []) = some (.bl true) := by
  have e0 : toP (.lst []) = some (.list []) := rfl
  have hs : SeqAt.shaped (.list []) = true := by decide +kernel
  cases ht : toPs (y :: ys) with
  | none =>
    have h1 : toP (.lst (y :: ys)) = none := by simp [toP, ht]
    simp [neW, neD, eqB, scalD, h1]
  | some l =>
    have h1 : toP (.lst (y :: ys)) = some (.list l) := by simp [toP, ht]
    obtain ⟨z, zs, rfl⟩ : ∃ z zs, l = z :: zs := by
      unfold toPs at ht
      split at ht
      · cases ht; exact ⟨_, _, rfl⟩
      · cases ht
    by_cases hc : SeqAt.shaped (.list (z :: zs)) = true
    · simp [neW, neD, eqB, scalD, h1, e0, hc, hs, PyData.eqv, PyData.eqvAll]
    · simp [neW, neD, eqB, scalD, h1, e0, hc]
theorem ne_done : neW (.lst []) (.lst []) = some (.bl false) := by
  have e : neD (.lst []) (.lst []) = some (.bl false) := by
    have h2 : SeqAt.shaped (.list []) = true := by decide +kernel
    simp [neD, eqB, scalD, toP, toPs, h2, PyData.eqv, PyData.eqvAll]
  unfold neW
  rw [e]
theorem allQ_cons (x : Pa × Tr) (q : List (Pa × Tr)) : allQ (x :: q) = x.2.pre x.1 ++ allQ q := by simp [allQ]
theorem lev_perm : ∀ q : List (Pa × Tr), (roots q ++ allQ (nextQ q)).Perm (allQ q)
  | [] => by simp [roots, nextQ, allQ]
  | (p, .e) :: q => by
    have ih := lev_perm q
    have e1 : roots ((p, Tr.e) :: q) = roots q := by simp [roots]
    have e2 : nextQ ((p, Tr.e) :: q) = nextQ q := by simp [nextQ]
    rw [e1, e2, allQ_cons]
    simpa [Tr.pre] using ih
  | (p, .n l v r) :: q => by
    have ih := lev_perm q
    have e1 : roots ((p, Tr.n l v r) :: q) = (p, v) :: roots q := by simp [roots]
    have e2 : nextQ ((p, Tr.n l v r) :: q) = (p ++ [false], l) :: (p ++ [true], r) :: nextQ q := by simp [nextQ]
    rw [e1, e2, allQ_cons, allQ_cons, allQ_cons]
    simp only [Tr.pre, List.cons_append]
    refine List.Perm.cons _ ?_
    have h1 : (roots q ++ (l.pre (p ++ [false]) ++ (r.pre (p ++ [true]) ++ allQ (nextQ q)))).Perm ((l.pre (p ++ [false]) ++ r.pre (p ++ [true])) ++ (roots q ++ allQ (nextQ q))) := by
      have : (l.pre (p ++ [false]) ++ (r.pre (p ++ [true]) ++ allQ (nextQ q))) = (l.pre (p ++ [false]) ++ r.pre (p ++ [true])) ++ allQ (nextQ q) := by simp
      rw [this]
      have h := List.perm_append_comm (l₁ := roots q) (l₂ := l.pre (p ++ [false]) ++ r.pre (p ++ [true]))
      have h2 := h.append_right (allQ (nextQ q))
      simpa using h2
    exact h1.trans (List.Perm.append_left _ ih)
abbrev gP : TM := gT 2 (gsCons (gN 4) (gsCons (gN 5) gsNil))
def okW (q : List (Pa × Tr)) : Prop := ∀ x ∈ q, x.1.length + x.2.ht < 9000
theorem okW.next {q : List (Pa × Tr)} (h : okW q) : okW (nextQ q) := fun x hx => by
  obtain ⟨y, hy, hm⟩ := List.mem_flatMap.mp hx
  obtain ⟨p, t⟩ := y
  have := h _ hy
  cases t with
  | e => simp at hm
  | n l v r =>
    simp [Tr.ht] at this
    simp at hm
    rcases hm with rfl | rfl
    · simp; omega
    · simp; omega
theorem lev_loop (d0 x2 : Option (Kd × D)) : ∀ (q : List (Pa × Tr)) (fs : List (Pa × Int)) (acc : List D) (y4 y5 : Option (Kd × D)), okW q → ((fs ++ allQ q).map (·.1)).Nodup → fs.length + q.length < 100000 → acc.length + 2 * q.length < 100000 →
    ∃ z4 z5, dForL gP l0_law_spots (wl q) [d0, some (.own, .dK (spt fs)), x2, some (.val, .lst acc), y4, y5] = .nx [d0, some (.own, .dK (spt (fs ++ roots q))), x2, some (.val, .lst (acc ++ wl (nextQ q))), z4, z5]
  | [], fs, acc, y4, y5, _, _, _, _ => ⟨y4, y5, by simp [wl, roots, nextQ, dForL]⟩
  | (p, .e) :: q, fs, acc, y4, y5, ok, nd, h1, h2 => by
    have e1 : roots ((p, Tr.e) :: q) = roots q := by simp [roots]
    have e2 : nextQ ((p, Tr.e) :: q) = nextQ q := by simp [nextQ]
    have e3 : allQ ((p, Tr.e) :: q) = allQ q := by simp [allQ, Tr.pre]
    rw [e3] at nd
    simp only [List.length_cons] at h1 h2
    obtain ⟨z4, z5, e⟩ := lev_loop d0 x2 q fs acc (some (.val, .str (pl p))) (some (.val, .non)) (fun x hx => ok x (List.mem_cons_of_mem _ hx)) nd (by omega) (by omega)
    refine ⟨z4, z5, ?_⟩
    rw [e1, e2]
    have hw : wl ((p, Tr.e) :: q) = .tup [.str (pl p), .non] :: wl q := by simp [wl, Tr.told]
    rw [hw, forL_nx (ρ1 := [d0, some (.own, .dK (spt fs)), x2, some (.val, .lst acc), some (.val, .str (pl p)), some (.val, .non)]) (ρ2 := [d0, some (.own, .dK (spt fs)), x2, some (.val, .lst acc), some (.val, .str (pl p)), some (.val, .non)]) (by simp [gP]) (by simp [l0_law_spots])]
    exact e
  | (p, .n l v r) :: q, fs, acc, y4, y5, ok, nd, h1, h2 => by
    have e1 : roots ((p, Tr.n l v r) :: q) = (p, v) :: roots q := by simp [roots]
    have e2 : nextQ ((p, Tr.n l v r) :: q) = (p ++ [false], l) :: (p ++ [true], r) :: nextQ q := by simp [nextQ]
    have hfresh : p ∉ fs.map (·.1) := fun hm => by
      rw [allQ_cons, List.map_append, List.nodup_append] at nd
      exact nd.2.2 p hm p (by simp [Tr.pre]) rfl
    have nd2 : (((fs ++ [(p, v)]) ++ allQ q).map (·.1)).Nodup := by
      rw [allQ_cons] at nd
      refine nd.sublist (List.Sublist.map _ ?_)
      rw [List.append_assoc]
      refine List.Sublist.append_left ?_ fs
      refine List.Sublist.append_right ?_ (allQ q)
      simp only [Tr.pre]
      exact List.singleton_sublist.mpr List.mem_cons_self
    have hb := ok _ List.mem_cons_self
    simp only [Tr.ht] at hb
    simp only [List.length_cons] at h1 h2
    obtain ⟨z4, z5, e⟩ := lev_loop d0 x2 q (fs ++ [(p, v)]) (acc ++ [.tup [.str (pl (p ++ [false])), l.told], .tup [.str (pl (p ++ [true])), r.told]]) (some (.val, .str (pl p))) (some (.val, (Tr.n l v r).told)) (fun x hx => ok x (List.mem_cons_of_mem _ hx)) nd2 (by simp; omega) (by simp; omega)
    refine ⟨z4, z5, ?_⟩
    rw [e1, e2]
    have hw : wl ((p, Tr.n l v r) :: q) = .tup [.str (pl p), (Tr.n l v r).told] :: wl q := by simp [wl]
    have i0 : ixD (Tr.n l v r).told (.int 0) = some l.told := rfl
    have i1 : ixD (Tr.n l v r).told (.int 1) = some (.int v) := rfl
    have i2 : ixD (Tr.n l v r).told (.int 2) = some r.told := rfl
    have n1 : isN true (Tr.n l v r).told .non = some (.bl true) := rfl
    have b1 : (spt fs).length < 16777216 := by simp [spt]; omega
    have b2 : acc.length + 2 ≤ 16777216 := by omega
    have b3 : (pl p).length + 1 ≤ 16777216 := by rw [pl_len]; omega
    have hp := spt_put fs p v hfresh
    have body : l0_law_spots [d0, some (.own, .dK (spt fs)), x2, some (.val, .lst acc), some (.val, .str (pl p)), some (.val, (Tr.n l v r).told)] = .nx [d0, some (.own, .dK (spt (fs ++ [(p, v)]))), x2, some (.val, .lst (acc ++ [.tup [.str (pl (p ++ [false])), l.told], .tup [.str (pl (p ++ [true])), r.told]])), some (.val, .str (pl p)), some (.val, (Tr.n l v r).told)] := by
      generalize (Tr.n l v r).told = T at i0 i1 i2 n1 ⊢
      simp [l0_law_spots, i0, i1, i2, n1, b1, b2, b3, hp, szl', l_len, r_len, pl_l, pl_r, -isN_u]
    rw [hw, forL_nx (ρ1 := [d0, some (.own, .dK (spt fs)), x2, some (.val, .lst acc), some (.val, .str (pl p)), some (.val, (Tr.n l v r).told)]) (by simp [gP]) body, e]
    simp [wl]
theorem nextQ_ht : ∀ (q : List (Pa × Tr)) (n : Nat), (∀ x ∈ q, x.2.ht < n + 1) → ∀ x ∈ nextQ q, x.2.ht < n := fun q n h x hx => by
  obtain ⟨y, hy, hm⟩ := List.mem_flatMap.mp hx
  obtain ⟨p, t⟩ := y
  have := h _ hy
  cases t with
  | e => simp at hm
  | n l v r =>
    simp [Tr.ht] at this
    simp at hm
    rcases hm with rfl | rfl
    · simp; omega
    · simp; omega
theorem nextQ_len : ∀ q : List (Pa × Tr), (nextQ q).length ≤ 2 * (allQ q).length
  | [] => by simp [nextQ, allQ]
  | (p, .e) :: q => by
    have := nextQ_len q
    have e2 : nextQ ((p, Tr.e) :: q) = nextQ q := by simp [nextQ]
    rw [e2, allQ_cons]
    simp [Tr.pre]
    omega
  | (p, .n l v r) :: q => by
    have := nextQ_len q
    have e2 : nextQ ((p, Tr.n l v r) :: q) = (p ++ [false], l) :: (p ++ [true], r) :: nextQ q := by simp [nextQ]
    rw [e2, allQ_cons]
    simp [Tr.pre]
    omega
theorem lspots_loop (d0 : Option (Kd × D)) : ∀ (k : Nat) (q : List (Pa × Tr)) (fs : List (Pa × Int)) (y3 y4 y5 : Option (Kd × D)), (∀ x ∈ q, x.2.ht < k) → okW q → ((fs ++ allQ q).map (·.1)).Nodup → fs.length + (allQ q).length < 1000 → q.length < 3000 →
    ∃ gs z2 z3 z4 z5, gs.Perm (fs ++ allQ q) ∧ dWh c1_law_spots l2_law_spots (k + 1) [d0, some (.own, .dK (spt fs)), some (.val, .lst (wl q)), y3, y4, y5] = .nx [d0, some (.own, .dK (spt gs)), z2, z3, z4, z5]
  | k, [], fs, y3, y4, y5, _, _, _, _, _ => by
    refine ⟨fs, some (.val, .lst []), y3, y4, y5, by simp [allQ], ?_⟩
    have h := ne_done
    exact dWh_end (by simp [c1_law_spots, wl, szl', h])
  | 0, x :: q, fs, y3, y4, y5, h, _, _, _, _ => by have := h x List.mem_cons_self; omega
  | k + 1, x :: q, fs, y3, y4, y5, h, ok, nd, h1, h2 => by
    have hp := lev_perm (x :: q)
    have hpl : (fs ++ roots (x :: q) ++ allQ (nextQ (x :: q))).Perm (fs ++ allQ (x :: q)) := by
      rw [List.append_assoc]
      exact List.Perm.append_left _ hp
    have hne : wl (x :: q) = .tup [.str (pl x.1), x.2.told] :: wl q := by simp [wl]
    have hm := ne_more (.tup [.str (pl x.1), x.2.told]) (wl q)
    rw [← hne] at hm
    obtain ⟨z4, z5, e⟩ := lev_loop d0 (some (.val, .lst (wl (x :: q)))) (x :: q) fs [] y4 y5 ok nd (by omega) (by simp; simp at h2; omega)
    have hlen := hp.length_eq
    rw [List.length_append] at hlen
    obtain ⟨gs, w2, w3, w4, w5, p1, e1⟩ := lspots_loop d0 k (nextQ (x :: q)) (fs ++ roots (x :: q)) (some (.val, .lst (wl (nextQ (x :: q))))) z4 z5 (nextQ_ht _ _ h) ok.next ((hpl.map _).nodup_iff.mpr nd) (by rw [List.length_append]; omega) (by have := nextQ_len (x :: q); omega)
    refine ⟨gs, w2, w3, w4, w5, p1.trans hpl, ?_⟩
    generalize wl (x :: q) = WL at *
    generalize wl (nextQ (x :: q)) = WN at *
    simp only [List.nil_append] at e
    rw [dWh_nx (ρ1 := [d0, some (.own, .dK (spt fs)), some (.val, .lst WL), y3, y4, y5]) (ρ2 := [d0, some (.own, .dK (spt (fs ++ roots (x :: q)))), some (.val, .lst WN), some (.val, .lst WN), z4, z5]) (by simp [c1_law_spots, szl', hm]) (by simp [l2_law_spots, szl', e])]
    exact e1
theorem lspots (t : Tr) (h1 : t.size < 900) (h2 : t.ht < 900) : ∃ gs, gs.Perm (t.pre []) ∧ fn_law_spots [t.told] = .ok (.dK (spt gs)) .non := by
  obtain ⟨gs, z2, z3, z4, z5, hp, e⟩ := lspots_loop (some (.val, t.told)) 999 [([], t)] [] none none none (fun x hx => by simp at hx; subst hx; simp; omega) (fun x hx => by simp at hx; subst hx; simp; omega) (by simp [allQ]; exact pre_nodup t []) (by simp [allQ, pre_len]; omega) (by simp)
  refine ⟨gs, by simpa [allQ] using hp, ?_⟩
  have e0 : wl [(([] : Pa), t)] = [.tup [.str (Str.ofString ""), t.told]] := by rw [pl_nil]; rfl
  rw [e0] at e
  have e' : dWh c1_law_spots l2_law_spots 1000 [some (.val, t.told), some (.own, .dK []), some (.val, .lst [.tup [.str (Str.ofString ""), t.told]]), none, none, none] = _ := e
  simp [fn_law_spots, b_law_spots, szl', e']
end Pu
namespace Pu
open PySem PySem.Spec PyProof.Rows L2 My
def srch : Tr → Int → Pa → Pa × Bool
  | .e, _, p => (p, false)
  | .n l w r, v, p => if w = v then (p, true) else if v < w then srch l v (p ++ [false]) else srch r v (p ++ [true])
theorem srch_len : ∀ (t : Tr) (v : Int) (p : Pa), (srch t v p).1.length ≤ p.length + t.ht
  | .e, v, p => by simp [srch, Tr.ht]
  | .n l w r, v, p => by
    unfold srch
    split
    · simp
    · split
      · have := srch_len l v (p ++ [false])
        simp [Tr.ht] at this ⊢; omega
      · have := srch_len r v (p ++ [true])
        simp [Tr.ht] at this ⊢; omega
theorem srch_ext : ∀ (t : Tr) (v : Int) (p : Pa), ∃ s, (srch t v p).1 = p ++ s
  | .e, v, p => ⟨[], by simp [srch]⟩
  | .n l w r, v, p => by
    unfold srch
    split
    · exact ⟨[], by simp⟩
    · split
      · obtain ⟨s, e⟩ := srch_ext l v (p ++ [false])
        exact ⟨false :: s, by rw [e]; simp⟩
      · obtain ⟨s, e⟩ := srch_ext r v (p ++ [true])
        exact ⟨true :: s, by rw [e]; simp⟩
section
variable {t : Tr} {gs : List (Pa × Int)}
theorem tsearch_loop (hp : gs.Perm (t.pre [])) (v : Int) : ∀ (s : Tr) (q : Pa) (k : Nat), t.sub q = s → s.ht < k → q.length + s.ht < 8000 →
    dWh c0_Tree_search l1_Tree_search k [some (.val, t.ins gs), some (.val, .int v), some (.val, .str (pl q))] =
      if (srch s v q).2 = true then .rt (.tup [.str (pl (srch s v q).1), .non]) [some (.val, t.ins gs), some (.val, .int v), some (.val, .str (pl (srch s v q).1))]
      else .nx [some (.val, t.ins gs), some (.val, .int v), some (.val, .str (pl (srch s v q).1))]
  | .e, q, 0, _, hk, _ => by omega
  | .e, q, k + 1, hs, _, _ => by
    have hin := in_spots t gs hp q
    rw [hs] at hin
    have hin : inD (.str (pl q)) (.dK (spt gs)) = some (.bl false) := hin
    have f := fld_spots t gs
    exact dWh_end (by simp [c0_Tree_search, f, hin, srch, -fldC_u])
  | .n l w r, q, 0, _, hk, _ => by omega
  | .n l w r, q, k + 1, hs, hk, hl => by
    have hin := in_spots t gs hp q
    rw [hs] at hin
    have hin : inD (.str (pl q)) (.dK (spt gs)) = some (.bl true) := hin
    have f := fld_spots t gs
    have hv := spot_val hp hs
    have hc : c0_Tree_search [some (.val, t.ins gs), some (.val, .int v), some (.val, .str (pl q))] = .ok true [some (.val, t.ins gs), some (.val, .int v), some (.val, .str (pl q))] := by
      simp [c0_Tree_search, f, hin, -fldC_u]
    simp only [Tr.ht] at hk hl
    have q1 := eqI w v
    have hlen : (pl q).length + 1 ≤ 16777216 := by rw [pl_len]; omega
    unfold srch
    by_cases e : w = v
    · rw [decide_eq_true e] at q1
      rw [if_pos e]
      exact dWh_rt hc (by simp [l1_Tree_search, f, hv, q1, szl', -fldC_u])
    · rw [decide_eq_false e] at q1
      rw [if_neg e]
      by_cases h1 : v < w
      · rw [if_pos h1]
        have h3 : t.sub (q ++ [false]) = l := by rw [sub_app, hs]; rfl
        rw [dWh_nx hc (ρ2 := [some (.val, t.ins gs), some (.val, .int v), some (.val, .str (pl (q ++ [false])))]) (by simp [l1_Tree_search, f, hv, q1, h1, hlen, l_len, pl_l, szl', -fldC_u])]
        exact tsearch_loop hp v l (q ++ [false]) k h3 (by omega) (by simp; omega)
      · rw [if_neg h1]
        have h3 : t.sub (q ++ [true]) = r := by rw [sub_app, hs]; rfl
        rw [dWh_nx hc (ρ2 := [some (.val, t.ins gs), some (.val, .int v), some (.val, .str (pl (q ++ [true])))]) (by simp [l1_Tree_search, f, hv, q1, h1, hlen, r_len, pl_r, szl', -fldC_u])]
        exact tsearch_loop hp v r (q ++ [true]) k h3 (by omega) (by simp; omega)
def sdB (b : Bool) : Str := if b = true then Str.ofString "right" else Str.ofString "left"
def seaD (x : Pa × Bool) : D := if x.2 = true then .tup [.str (pl x.1), .non] else .tup [.str (pl x.1.dropLast), .str (pl (x.1.drop (x.1.length - 1)))]
def findD (x : Pa × Bool) : D := if x.2 = true then .str (pl x.1) else .non
def gapD (x : Pa × Bool) : D := if x.2 = true then .non else match x.1.getLast? with
  | none => .non
  | some b => .tup [.str (pl x.1.dropLast), .str (sdB b)]
theorem nil_or_snoc (p : Pa) : p = [] ∨ ∃ q b, p = q ++ [b] := by
  rcases List.eq_nil_or_concat p with h | ⟨q, b, h⟩
  · exact .inl h
  · exact .inr ⟨q, b, by simpa using h⟩
theorem tsearch_ok (hp : gs.Perm (t.pre [])) (h2 : t.ht < 7000) (v : Int) : fn_Tree_search [t.ins gs, .int v] = .ok (seaD (srch t v [])) .non := by
  have e := tsearch_loop hp v t [] 100000 rfl (by omega) (by simp; omega)
  have hl := srch_len t v []
  rw [← pl_nil] at e
  generalize srch t v [] = x at e hl ⊢
  obtain ⟨P, b⟩ := x
  simp only [List.length_nil, Nat.zero_add] at hl
  cases b with
  | true =>
    simp only [if_true] at e
    simp [fn_Tree_search, b_Tree_search, e, seaD]
  | false =>
    rw [if_neg (show ¬ ((P, false) : Pa × Bool).2 = true by simp)] at e
    rcases nil_or_snoc P with rfl | ⟨q, c, rfl⟩
    · have s1 : sliceD none (some (-1)) (.str (pl [])) = some (.str (pl [])) := by kernel_rfl
      have s2 := sle1_nil
      simp [fn_Tree_search, b_Tree_search, e, seaD, s1, s2, szl']
    · simp at hl
      have s1 := slm1_pl q c (by omega)
      have s2 := sle1_pl q c (by omega)
      simp [fn_Tree_search, b_Tree_search, e, seaD, s1, s2, szl']
theorem tfind_ok (hp : gs.Perm (t.pre [])) (h2 : t.ht < 7000) (v : Int) : fn_Tree_find [t.ins gs, .int v] = .ok (findD (srch t v [])) .non := by
  have e := tsearch_ok hp h2 v
  have f := self_m "search" t gs (by simp)
  generalize srch t v [] = x at e ⊢
  obtain ⟨P, b⟩ := x
  cases b <;> simp [seaD] at e <;> simp [fn_Tree_find, b_Tree_find, e, f, findD, -selfR_u]
theorem srch_nil : ∀ (t : Tr) (v : Int), (srch t v []).2 = false → (srch t v []).1 = [] → t = .e
  | .e, _, _, _ => rfl
  | .n l w r, v, h1, h2 => by
    unfold srch at h1 h2
    split at h1
    · cases h1
    · rename_i hw
      rw [if_neg hw] at h2
      split at h2
      · obtain ⟨s, e⟩ := srch_ext l v ([] ++ [false])
        rw [e] at h2
        simp at h2
      · obtain ⟨s, e⟩ := srch_ext r v ([] ++ [true])
        rw [e] at h2
        simp at h2
theorem fld_size (t : Tr) (gs : List (Pa × Int)) : fldC ["Tree"] "size" (t.ins gs) = some (.int t.size) := by
  have k1 : (Str.ofString "size" == Str.ofString "own_spots") = false := by decide +kernel
  have k2 : (Str.ofString "size" == Str.ofString "told") = false := by decide +kernel
  simp [Tr.ins, fldC, List.lookup, k1, k2]
theorem tgap_ok (hp : gs.Perm (t.pre [])) (h2 : t.ht < 7000) (v : Int) : fn_Tree_gap [t.ins gs, .int v] = .ok (gapD (srch t v [])) .non := by
  have e := tsearch_ok hp h2 v
  have f := self_m "search" t gs (by simp)
  have g := fld_size t gs
  have z1 := srch_nil t v
  have z2 : (srch t v []).2 = false → (srch t v []).1 ≠ [] → ¬ (t.size : Int) = 0 := fun _ h3 h4 => by
    cases t with
    | e => exact h3 rfl
    | n l w r => simp [Tr.size] at h4; omega
  have q0 := eqI t.size 0
  generalize srch t v [] = x at e z1 z2 ⊢
  obtain ⟨P, b⟩ := x
  cases b with
  | true =>
    simp [seaD] at e
    by_cases hz : (t.size : Int) = 0
    · rw [decide_eq_true hz] at q0
      simp [fn_Tree_gap, b_Tree_gap, e, f, g, gapD, q0, -selfR_u, -fldC_u]
    · rw [decide_eq_false hz] at q0
      simp [fn_Tree_gap, b_Tree_gap, e, f, g, gapD, q0, -selfR_u, -fldC_u]
  | false =>
    rcases nil_or_snoc P with rfl | ⟨q, c, rfl⟩
    · have := z1 rfl rfl
      subst this
      simp [seaD] at e
      rw [decide_eq_true (by simp [Tr.size])] at q0
      simp [fn_Tree_gap, b_Tree_gap, e, f, g, gapD, q0, -selfR_u, -fldC_u]
    · simp [seaD] at e
      rw [decide_eq_false (z2 rfl (by simp))] at q0
      have ql : eqD (.str (pl [c])) (.str (Str.ofString "l")) = some (.bl (!c)) := by
        have : Str.ofString "l" = pl [false] := by decide +kernel
        rw [this, eq_pl]
        cases c <;> rfl
      cases c <;> simp [fn_Tree_gap, b_Tree_gap, e, f, g, gapD, q0, ql, sdB, szl', -selfR_u, -fldC_u]
theorem lsearch_loop (hp : gs.Perm (t.pre [])) (v : Int) : ∀ (s : Tr) (q : Pa) (k : Nat) (x3 : D), t.sub q = s → s.ht < k → q.length + s.ht < 8000 → (x3 = if q = [] then .non else .str (sdB (q.getLast?.getD false))) →
    ∃ y3, (y3 = if (srch s v q).1 = [] then .non else .str (sdB ((srch s v q).1.getLast?.getD false))) ∧ dWh c0_law_search l1_law_search k [some (.val, .dK (spt gs)), some (.val, .int v), some (.val, .str (pl q)), some (.val, x3)] =
      if (srch s v q).2 = true then .rt (.tup [.str (pl (srch s v q).1), .non]) [some (.val, .dK (spt gs)), some (.val, .int v), some (.val, .str (pl (srch s v q).1)), some (.val, y3)]
      else .nx [some (.val, .dK (spt gs)), some (.val, .int v), some (.val, .str (pl (srch s v q).1)), some (.val, y3)]
  | .e, q, 0, _, _, hk, _, _ => by omega
  | .e, q, k + 1, x3, hs, _, _, hx => by
    have hin := in_spots t gs hp q
    rw [hs] at hin
    have hin : inD (.str (pl q)) (.dK (spt gs)) = some (.bl false) := hin
    refine ⟨x3, hx, ?_⟩
    exact dWh_end (by simp [c0_law_search, hin, srch])
  | .n l w r, q, 0, _, _, hk, _, _ => by omega
  | .n l w r, q, k + 1, x3, hs, hk, hl, hx => by
    have hin := in_spots t gs hp q
    rw [hs] at hin
    have hin : inD (.str (pl q)) (.dK (spt gs)) = some (.bl true) := hin
    have hv := spot_val hp hs
    have hc : c0_law_search [some (.val, .dK (spt gs)), some (.val, .int v), some (.val, .str (pl q)), some (.val, x3)] = .ok true [some (.val, .dK (spt gs)), some (.val, .int v), some (.val, .str (pl q)), some (.val, x3)] := by
      simp [c0_law_search, hin]
    simp only [Tr.ht] at hk hl
    have q1 := eqI w v
    have hlen : (pl q).length + 1 ≤ 16777216 := by rw [pl_len]; omega
    have il : ixD (.str (Str.ofString "left")) (.int 0) = some (.str (Str.ofString "l")) := by kernel_rfl
    have ir : ixD (.str (Str.ofString "right")) (.int 0) = some (.str (Str.ofString "r")) := by kernel_rfl
    unfold srch
    by_cases e : w = v
    · rw [decide_eq_true e] at q1
      rw [if_pos e]
      exact ⟨x3, by simpa using hx, dWh_rt hc (by simp [l1_law_search, hv, q1, szl'])⟩
    · rw [decide_eq_false e] at q1
      rw [if_neg e]
      by_cases h1 : v < w
      · rw [if_pos h1]
        have h3 : t.sub (q ++ [false]) = l := by rw [sub_app, hs]; rfl
        obtain ⟨y3, hy, e⟩ := lsearch_loop hp v l (q ++ [false]) k (.str (Str.ofString "left")) h3 (by omega) (by simp; omega) (by simp [sdB])
        refine ⟨y3, hy, ?_⟩
        rw [dWh_nx hc (ρ2 := [some (.val, .dK (spt gs)), some (.val, .int v), some (.val, .str (pl (q ++ [false]))), some (.val, .str (Str.ofString "left"))]) (by simp [l1_law_search, hv, q1, h1, hlen, l_len, pl_l, szl', il])]
        exact e
      · rw [if_neg h1]
        have h3 : t.sub (q ++ [true]) = r := by rw [sub_app, hs]; rfl
        obtain ⟨y3, hy, e⟩ := lsearch_loop hp v r (q ++ [true]) k (.str (Str.ofString "right")) h3 (by omega) (by simp; omega) (by simp [sdB])
        refine ⟨y3, hy, ?_⟩
        rw [dWh_nx hc (ρ2 := [some (.val, .dK (spt gs)), some (.val, .int v), some (.val, .str (pl (q ++ [true]))), some (.val, .str (Str.ofString "right"))]) (by simp [l1_law_search, hv, q1, h1, hlen, r_len, pl_r, szl', ir])]
        exact e
theorem lsearch_ok (hp : gs.Perm (t.pre [])) (h2 : t.ht < 900) (v : Int) : fn_law_search [.dK (spt gs), .int v] = .ok (.tup [findD (srch t v []), gapD (srch t v [])]) .non := by
  obtain ⟨y3, hy, e⟩ := lsearch_loop hp v t [] 1000 .non rfl (by omega) (by simp; omega) rfl
  have hl := srch_len t v []
  rw [← pl_nil] at e
  generalize srch t v [] = x at e hl hy ⊢
  obtain ⟨P, b⟩ := x
  simp only [List.length_nil, Nat.zero_add] at hl
  cases b with
  | true =>
    simp only [if_true] at e
    simp [fn_law_search, b_law_search, e, findD, gapD, szl']
  | false =>
    rw [if_neg (show ¬ ((P, false) : Pa × Bool).2 = true by simp)] at e
    rcases nil_or_snoc P with rfl | ⟨q, c, rfl⟩
    · have hy : y3 = .non := hy
      subst hy
      simp [fn_law_search, b_law_search, e, findD, gapD, szl']
    · simp at hl
      have s1 := slm1_pl q c (by omega)
      have hy : y3 = .str (sdB c) := by simpa using hy
      subst hy
      simp [fn_law_search, b_law_search, e, findD, gapD, s1, szl']
theorem sh_gap (x : Pa × Bool) : Sh 3 (.tup [findD x, gapD x]) := by
  obtain ⟨P, b⟩ := x
  have h1 : Sh 0 (findD (P, b)) := by
    cases b
    · exact sh_non
    · exact sh_str (strOk_pl P)
  have h2 : Sh 1 (gapD (P, b)) := by
    unfold gapD
    split
    · exact sh_non.mono (by omega)
    · split
      · exact sh_non.mono (by omega)
      · refine sh_tup (n := 0) fun d hd => ?_
        simp at hd
        rcases hd with rfl | rfl
        · exact sh_str (strOk_pl _)
        · unfold sdB
          split <;> exact sh_S _
  refine (sh_tup (n := 1) fun d hd => ?_).mono (by omega)
  simp at hd
  rcases hd with rfl | rfl
  · exact h1.mono (by omega)
  · exact h2
end
end Pu
namespace Pu
open PySem PySem.Spec PyProof.Rows L2 My
def Hd : Tr → D → Prop
  | .e, d => d = .non
  | .n l v r, d => ∃ a b, (d = .lst [a, .int v, b] ∨ d = .tup [a, .int v, b]) ∧ Hd l a ∧ Hd r b
theorem Hd.view {l r : Tr} {v : Int} {d : D} (h : Hd (.n l v r) d) : ∃ a b, viewD d = some (a, v, b) ∧ Hd l a ∧ Hd r b := by
  obtain ⟨a, b, e, h1, h2⟩ := h
  refine ⟨a, b, ?_, h1, h2⟩
  rcases e with rfl | rfl <;> rfl
theorem Hd.plain : ∀ {t : Tr} {d : D}, Hd t d → plain d = true
  | .e, _, h => by rw [show _ = D.non from h]; rfl
  | .n l v r, d, h => by
    obtain ⟨a, b, e, h1, h2⟩ := h
    rcases e with rfl | rfl <;> simp [Pu.plain, plains, h1.plain, h2.plain]
theorem Hd.dz : ∀ {t : Tr} {d : D}, Hd t d → dz d = 3 * t.size + 1
  | .e, _, h => by rw [show _ = D.non from h]; rfl
  | .n l v r, d, h => by
    obtain ⟨a, b, e, h1, h2⟩ := h
    rcases e with rfl | rfl <;> simp [Pu.dz, dzs, Tr.size, h1.dz, h2.dz] <;> omega
theorem Hd.dp : ∀ {t : Tr} {d : D}, Hd t d → dp d = t.ht
  | .e, _, h => by rw [show _ = D.non from h]; rfl
  | .n l v r, d, h => by
    obtain ⟨a, b, e, h1, h2⟩ := h
    rcases e with rfl | rfl <;> simp [Pu.dp, dps, Tr.ht, h1.dp, h2.dp]
def HQ (x : Pa × D) (y : Pa × Tr) : Prop := y.1 = x.1 ∧ Hd y.2 x.2
theorem paired_app {α β : Type} {R : α → β → Prop} : ∀ {q q' : List α} {ts ts' : List β}, Paired R q ts → Paired R q' ts' → Paired R (q ++ q') (ts ++ ts')
  | [], _, [], _, .nil, h => h
  | _ :: _, _, _ :: _, _, .cons h t, h' => .cons h (paired_app t h')
theorem run_H {q : Q1} {fs gs : List (Pa × Int)} {w : Option Pa} (r : Run q fs w gs) : ∀ ts : List (Pa × Tr), Paired HQ q ts → w = none ∧ gs.Perm (fs ++ allQ ts) := by
  induction r with
  | done => intro ts h; cases h; exact ⟨rfl, by simp [allQ]⟩
  | @nil p q fs gs w r ih =>
    intro ts h
    cases h with
    | @cons _ y _ ts h1 h2 =>
      obtain ⟨p', t⟩ := y
      obtain ⟨e1, e2⟩ := h1
      cases t with
      | e =>
        obtain ⟨a1, a2⟩ := ih _ h2
        exact ⟨a1, by simpa [allQ, Tr.pre] using a2⟩
      | n l v r =>
        obtain ⟨a, b, e, _⟩ := e2
        rcases e with e | e <;> cases e
  | @node p d a b v q fs gs w hv r ih =>
    intro ts h
    cases h with
    | @cons _ y _ ts h1 h2 =>
      obtain ⟨p', t⟩ := y
      obtain ⟨e1, e2⟩ := h1
      simp only at e1 e2
      subst e1
      cases t with
      | e =>
        have e2 : d = .non := e2
        subst e2
        cases hv
      | n l v' r' =>
        obtain ⟨a', b', e3, h3, h4⟩ := e2.view
        rw [hv] at e3
        cases e3
        obtain ⟨a1, a2⟩ := ih (ts ++ [(p' ++ [false], l), (p' ++ [true], r')]) (paired_app h2 (.cons ⟨rfl, h3⟩ (.cons ⟨rfl, h4⟩ .nil)))
        refine ⟨a1, a2.trans ?_⟩
        have e5 : allQ (ts ++ [(p' ++ [false], l), (p' ++ [true], r')]) = allQ ts ++ (l.pre (p' ++ [false]) ++ r'.pre (p' ++ [true])) := by simp [allQ]
        have e6 : allQ ((p', Tr.n l v r') :: ts) = (p', v) :: ((l.pre (p' ++ [false]) ++ r'.pre (p' ++ [true])) ++ allQ ts) := by simp [allQ, Tr.pre]
        rw [e5, e6, List.append_assoc]
        refine List.Perm.append_left fs ?_
        simp only [List.singleton_append]
        exact List.Perm.cons _ List.perm_append_comm
  | @bad p d q fs hn hv =>
    intro ts h
    cases h with
    | @cons _ y _ ts h1 h2 =>
      obtain ⟨p', t⟩ := y
      obtain ⟨e1, e2⟩ := h1
      cases t with
      | e => exact absurd e2 hn
      | n l v r =>
        obtain ⟨a, b, e3, _⟩ := e2.view
        simp only at e3
        rw [hv] at e3
        cases e3
theorem spots_H {t : Tr} {d : D} (h : Hd t d) (h1 : t.size < 1000) : ∃ gs, gs.Perm (t.pre []) ∧ fn_spots_of [d] = .ok (.tup [.dK (spt gs), .non]) .non := by
  have z := h.dz
  have p := h.dp
  have hh := ht_le t
  obtain ⟨w, gs, r⟩ := run_ex (szQ [(([] : Pa), d)]) [([], d)] [] (Nat.le_refl _)
  obtain ⟨rfl, hp⟩ := run_H r [([], t)] (.cons ⟨rfl, h⟩ .nil)
  exact ⟨gs, by simpa [allQ] using hp, spots_D r h.plain (by omega) (by omega)⟩
theorem init_H {t : Tr} {d : D} (h : Hd t d) (h1 : t.size < 100) (hs : t.vals.Pairwise (· < ·)) : ∃ gs, gs.Perm (t.pre []) ∧ fn_Tree_init [.ins "Tree" [], d] = .ok .non (t.ins gs) := by
  obtain ⟨gs, hp, e⟩ := spots_H h (by omega)
  refine ⟨gs, hp, ?_⟩
  have hh := ht_le t
  have a1 := height_ok t gs hp (by omega) (by omega)
  have a2 := fall_ok t gs hp (by omega) hs
  have a3 := told_ok t gs hp (by omega) (by omega)
  have hl : (spt gs).length = t.size := by simp [spt, hp.length_eq, pre_len]
  have b1 : ¬ (2000 : Int) < (t.size : Int) := by omega
  have b2 : ¬ (200 : Int) < (t.ht : Int) := by omega
  have k1 : (Str.ofString "own_spots" = Str.ofString "told") = False := eq_false (by decide +kernel)
  have k2 : (Str.ofString "own_spots" = Str.ofString "size") = False := eq_false (by decide +kernel)
  have k3 : (Str.ofString "told" = Str.ofString "size") = False := eq_false (by decide +kernel)
  have k4 : (Str.ofString "own_spots" = Str.ofString "height") = False := eq_false (by decide +kernel)
  have k5 : (Str.ofString "told" = Str.ofString "height") = False := eq_false (by decide +kernel)
  have k6 : (Str.ofString "size" = Str.ofString "height") = False := eq_false (by decide +kernel)
  simp [fn_Tree_init, b_Tree_init, e, a1, a2, a3, hl, b1, b2, k1, k2, k3, k4, k5, k6, Tr.ins]
theorem lists_ok {cs : List Int} : ∀ (f : Nat) (t : Tr) (k : Nat) (p : D), Pn cs k p → t.ht < f → k + t.size < 9000000 →
    ∃ d p', fn_law_lists f [p, t.told] = .ok d p' ∧ Hd t d ∧ Pn cs (k + t.size) p'
  | 0, t, k, p, _, h, _ => by omega
  | f + 1, .e, k, p, hp, _, _ => by
    refine ⟨.non, p, ?_, rfl, hp⟩
    simp [fn_law_lists, b_law_lists, Tr.told]
  | f + 1, .n l v r, k, p, hp, h, hk => by
    simp only [Tr.ht] at h
    simp only [Tr.size] at hk
    obtain ⟨a, p1, e1, h1, q1⟩ := lists_ok f l k p hp (by omega) (by omega)
    obtain ⟨b, p2, e2, h2, q2⟩ := lists_ok f r _ p1 q1 (by omega) (by omega)
    obtain ⟨u, p3, e3, q3, u1, u2⟩ := draw_P q2 (by omega) 2 (by omega)
    have i0 : ixD (Tr.n l v r).told (.int 0) = some l.told := rfl
    have i1 : ixD (Tr.n l v r).told (.int 1) = some (.int v) := rfl
    have i2 : ixD (Tr.n l v r).told (.int 2) = some r.told := rfl
    have n1 : isN false (Tr.n l v r).told .non = some (.bl false) := rfl
    have ei := eq_int u 0
    by_cases hu : u = 0
    · rw [decide_eq_true hu] at ei
      refine ⟨.lst [a, .int v, b], p3, ?_, ⟨a, b, .inl rfl, h1, h2⟩, q3.mono (by simp only [Tr.size]; omega)⟩
      generalize (Tr.n l v r).told = T at *
      simp [fn_law_lists, b_law_lists, i0, i1, i2, n1, e1, e2, e3, ei, szl', -isN_u]
    · rw [decide_eq_false hu] at ei
      refine ⟨.tup [a, .int v, b], p3, ?_, ⟨a, b, .inr rfl, h1, h2⟩, q3.mono (by simp only [Tr.size]; omega)⟩
      generalize (Tr.n l v r).told = T at *
      simp [fn_law_lists, b_law_lists, i0, i1, i2, n1, e1, e2, e3, ei, szl', -isN_u]
end Pu
namespace Pu
open PySem PySem.Spec PyProof.Rows L2 My
section
variable {t : Tr} {gs gs' : List (Pa × Int)}
theorem places_ok (hp : gs.Perm (t.pre [])) (h2 : t.ht ≤ 3000) : fn_Tree_places [t.ins gs] = .ok (.lst (plS (t.ino []))) .non := by
  have e := in_order_ok t gs hp h2
  have f := fld_spots t gs
  simp [fn_Tree_places, b_Tree_places, e, f, -fldC_u]
theorem row_ok (hp : gs.Perm (t.pre [])) (h1 : t.size < 40000) (h2 : t.ht ≤ 3000) : fn_Tree_row [t.ins gs] = .ok (.tup (t.vals.map .int)) .non := by
  have hn : (gs.map (·.1)).Nodup := (hp.map _).nodup_iff.mpr (pre_nodup t [])
  have hs := self_m "places" t gs (by simp)
  have hc : dLc (dItA (dFr (dMethF "Tree" "places" true none 0 [] fn_Tree_places (dVar 0) dNil))) (gN 1) dYes (d2 ixD (d1 (fldC ["Tree"] "own_spots") (dVar 0)) (dVar 1)) [1] [some (.val, t.ins gs), none] = .ok (.lst ((t.ino []).map fun x => .int x.2)) [some (.val, t.ins gs), none] := by
    refine dLc_all (fun x : Pa × Int => .str (pl x.1)) (fun x => .int x.2) (ρ1 := [some (.val, t.ins gs), none]) (t.ino []) ?_ ?_ ?_ (by simp)
    · simp [dMethF, places_ok hp h2, hs, -selfR_u]
      rfl
    · intro x hx
      have hv := spt_val gs x.1 x.2 hn (hp.mem_iff.mpr ((ino_perm t []).mem_iff.mp hx))
      simp [fld_spots, ixD, hv, -fldC_u]
    · rw [(ino_perm t []).length_eq, pre_len, szl']; omega
  simp only [fn_Tree_row, b_Tree_row, runF, List.length_cons, List.length_nil, initE, initAt, kdAt, List.replicate]
  simp [hc, -dLc_e, Tr.vals]
end
end Pu
namespace Pu
open PySem PySem.Spec PyProof.Rows L2 My
theorem sh_told (t : Tr) : Sh t.ht t.told := by
  induction t with
  | e => exact sh_non
  | n l v r il ir =>
    refine (sh_tup (n := max l.ht r.ht) fun d hd => ?_).mono (by simp [Tr.ht])
    simp at hd
    rcases hd with rfl | rfl | rfl
    · exact il.mono (by omega)
    · exact (sh_int v).mono (by omega)
    · exact ir.mono (by omega)
theorem sh_plS (l : List (Pa × Int)) : Sh 1 (.lst (plS l)) := sh_lst (n := 0) fun d hd => by
  obtain ⟨x, _, rfl⟩ := List.mem_map.mp hd
  exact sh_str (strOk_pl _)
theorem sh_ints (l : List Int) : Sh 1 (.tup (l.map .int)) := sh_tup (n := 0) fun d hd => by
  obtain ⟨x, _, rfl⟩ := List.mem_map.mp hd
  exact sh_int _
theorem intsD_app (xs : List (Pa × Int)) : intsD ((xs.map fun x => D.int ((x.1.length : Int) + 1)) ++ [.int 0]) = some ((xs.map fun x => ((x.1.length : Int) + 1)) ++ [0]) := by
  induction xs with
  | nil => rfl
  | cons x xs ih => simp [intsD, ih]
theorem maxO (t : Tr) : maxD1 (.lst (((t.ino []).map fun x => D.int ((x.1.length : Int) + 1)) ++ [.int 0])) = some (.int t.ht) := by
  show (match intsD (((t.ino []).map fun x => D.int ((x.1.length : Int) + 1)) ++ [.int 0]) with | some ns => (maxL ns).map D.int | none => none) = _
  rw [intsD_app]
  simp only
  rcases maxL_spec (((t.ino []).map fun x => ((x.1.length : Int) + 1)) ++ [0]) with ⟨e, h⟩ | ⟨m, h, hm, hx⟩
  · simp at e
  · rw [h]
    simp only [Option.map_some, Option.some.injEq, D.int.injEq]
    have hp := ino_perm t []
    have h0 := hx 0 (by simp)
    by_cases hne : t = .e
    · subst hne
      simp [Tr.ino] at hm
      simp [Tr.ht, hm]
    · obtain ⟨y, hy, ey⟩ := ht_mem t [] hne
      have h2 := hx _ (List.mem_append_left _ (List.mem_map.mpr ⟨y, hp.mem_iff.mpr hy, rfl⟩))
      simp at ey
      rcases List.mem_append.mp hm with hm | hm
      · obtain ⟨x, hxm, e⟩ := List.mem_map.mp hm
        have h1 := pre_short (hp.mem_iff.mp hxm)
        omega
      · simp at hm
        omega
section
variable {t : Tr} {gs gs' : List (Pa × Int)}
theorem fld_height (t : Tr) (gs : List (Pa × Int)) : fldC ["Tree"] "height" (t.ins gs) = some (.int t.ht) := by
  have k1 : (Str.ofString "height" == Str.ofString "own_spots") = false := by decide +kernel
  have k2 : (Str.ofString "height" == Str.ofString "told") = false := by decide +kernel
  have k3 : (Str.ofString "height" == Str.ofString "size") = false := by decide +kernel
  simp [Tr.ins, fldC, List.lookup, k1, k2, k3]
theorem sh_sdS (a b : Bool) : Sh 0 (.str (sdS a b)) := by
  unfold sdS
  cases a <;> cases b <;> exact sh_S _
theorem read_turn (hp : gs.Perm (t.pre [])) (hp' : gs'.Perm (t.pre [])) (h2 : t.ht < 900) {x : Pa × Int} (hx : x ∈ t.ino []) (x2 x3 y4 y5 y6 : Option (Kd × D)) :
    ∃ z4 z5 z6, l0_law_is_read [some (.val, t.ins gs), some (.val, .dK (spt gs')), x2, x3, some (.val, .str (pl x.1)), y5, y6] = .nx [some (.val, t.ins gs), some (.val, .dK (spt gs')), x2, x3, z4, z5, z6] := by
  obtain ⟨s, l, r, e0, hs⟩ := mem_sub t [] x ((ino_perm t []).mem_iff.mp hx)
  rw [List.nil_append] at e0
  have hlen := pre_short ((ino_perm t []).mem_iff.mp hx)
  rw [← e0] at hs
  obtain ⟨p, v⟩ := x
  simp only at hs hlen e0 ⊢
  have a1 := value_ok hp hs
  have a2 := sides_ok hp p (by omega) hs
  have a3 := has_ok hp p
  rw [hs] at a3
  have a3 : fn_Tree_has [t.ins gs, .str (pl p)] = .ok (.bl true) .non := a3
  have hv := spot_val hp' hs
  have m1 := self_m "value" t gs (by simp)
  have m2 := self_m "sides" t gs (by simp)
  have m3 := self_m "has" t gs (by simp)
  have h1 := in_spots t gs' hp' (p ++ [false])
  have h2 := in_spots t gs' hp' (p ++ [true])
  have el : t.sub (p ++ [false]) = l := by rw [sub_app, hs]; rfl
  have er : t.sub (p ++ [true]) = r := by rw [sub_app, hs]; rfl
  rw [el] at h1
  rw [er] at h2
  have hlr : chrs (Str.ofString "lr") = [.str (Str.ofString "l"), .str (Str.ofString "r")] := by
    have : Str.ofString "lr" = pl [false, true] := by decide +kernel
    rw [this, chrs_pl, l_eq, r_eq]
    rfl
  have b4 : (pl p).length + 1 ≤ 16777216 := by rw [pl_len]; omega
  have j0 : joinD (Str.ofString "") (.lst []) = some (.str (Str.ofString "")) := by rfl
  have j1 : joinD (Str.ofString "") (.lst [.str (Str.ofString "l")]) = some (.str (Str.ofString "l")) := by rfl
  have j2 : joinD (Str.ofString "") (.lst [.str (Str.ofString "r")]) = some (.str (Str.ofString "r")) := by rfl
  have j3 : joinD (Str.ofString "") (.lst [.str (Str.ofString "l"), .str (Str.ofString "r")]) = some (.str (Str.ofString "lr")) := by rfl
  have n1 : neD (.int v) (.int v) = some (.bl false) := neD_same (sh_int v) (by omega)
  have n2 : neD (.str (sdS (!l.isE) (!r.isE))) (.str (sdS (!l.isE) (!r.isE))) = some (.bl false) := neD_same (sh_sdS _ _) (by omega)
  have ib : isBD true (.bl true) (.bl true) = some (.bl false) := by rfl
  cases ha : l.isE <;> cases hb : r.isE <;> rw [ha] at h1 n2 a2 <;> rw [hb] at h2 n2 a2 <;> simp [sdS] at n2 a2 <;>
    exact ⟨_, _, _, by simp [l0_law_is_read, a1, a2, a3, hv, m1, m2, m3, dLc, dLcL, hlr, wipeE, b4, l_len, r_len, pl_l, pl_r, h1, h2, j0, j1, j2, j3, szl', n1, n2, ib, -selfR_u, -joinD_u]; exact ⟨rfl, rfl, rfl⟩⟩
end
end Pu
namespace Pu
open PySem PySem.Spec PyProof.Rows L2 My
section
variable {t : Tr} {gs gs' : List (Pa × Int)}
theorem read_loop (hp : gs.Perm (t.pre [])) (hp' : gs'.Perm (t.pre [])) (h2 : t.ht < 900) (x2 x3 : Option (Kd × D)) : ∀ (l : List (Pa × Int)) (y4 y5 y6 : Option (Kd × D)), (∀ x ∈ l, x ∈ t.ino []) →
    ∃ z4 z5 z6, dForL (gN 4) l0_law_is_read (plS l) [some (.val, t.ins gs), some (.val, .dK (spt gs')), x2, x3, y4, y5, y6] = .nx [some (.val, t.ins gs), some (.val, .dK (spt gs')), x2, x3, z4, z5, z6]
  | [], y4, y5, y6, _ => ⟨y4, y5, y6, rfl⟩
  | x :: l, y4, y5, y6, h => by
    obtain ⟨z4, z5, z6, e⟩ := read_turn hp hp' h2 (h x List.mem_cons_self) x2 x3 y4 y5 y6
    obtain ⟨w4, w5, w6, e2⟩ := read_loop hp hp' h2 x2 x3 l z4 z5 z6 fun y hy => h y (List.mem_cons_of_mem _ hy)
    refine ⟨w4, w5, w6, ?_⟩
    have hc : plS (x :: l) = .str (pl x.1) :: plS l := rfl
    rw [hc, forL_nx (ρ1 := [some (.val, t.ins gs), some (.val, .dK (spt gs')), x2, x3, some (.val, .str (pl x.1)), y5, y6]) rfl e]
    exact e2
theorem is_read_ok (hp : gs.Perm (t.pre [])) (hp' : gs'.Perm (t.pre [])) (h1 : t.size < 13) : fn_law_is_read [t.ins gs, .dK (spt gs'), t.told] = .ok (.bl true) .non := by
  have hh := ht_le t
  have hn : (gs'.map (·.1)).Nodup := (hp'.map _).nodup_iff.mpr (pre_nodup t [])
  have e0 := row_of_ok t gs' hp' (by omega) 14 [] (by show t.ht < 14; omega) (by show 0 + t.ht < 9000; omega) (by show t.size < 10000; omega)
  have e0 : fn_law_row_of 14 [.dK (spt gs'), .str (Str.ofString "")] = .ok (.lst (plS (t.ino []))) .non := by rw [pl_nil]; exact e0
  have e1 := places_ok hp (by omega)
  have e2 := row_ok hp (by omega) (by omega)
  have m1 := self_m "places" t gs (by simp)
  have m2 := self_m "row" t gs (by simp)
  have f1 := fld_told t gs
  have f2 := fld_size t gs
  have f3 := fld_height t gs
  have hl : (plS (t.ino [])).length = t.size := by simp [plS, (ino_perm t []).length_eq, pre_len]
  have n1 : neD t.told t.told = some (.bl false) := neD_same (sh_told t) (by omega)
  have n2 : neD (.int (t.size : Int)) (.int (t.size : Int)) = some (.bl false) := neD_same (sh_int _) (by omega)
  have n3 : neD (.lst (plS (t.ino []))) (.lst (plS (t.ino []))) = some (.bl false) := neD_same (sh_plS _) (by omega)
  have n4 : neD (.tup (t.vals.map .int)) (.tup (t.vals.map .int)) = some (.bl false) := neD_same (sh_ints _) (by omega)
  have n5 : neD (.int (t.ht : Int)) (.int (t.ht : Int)) = some (.bl false) := neD_same (sh_int _) (by omega)
  have c1 : ∀ x2 x5 x6, dLc (dItA (dVar 3)) (gN 4) dYes (d2 ixD (dVar 1) (dVar 4)) [4] [some (.val, t.ins gs), some (.val, .dK (spt gs')), x2, some (.val, .lst (plS (t.ino []))), none, x5, x6] = .ok (.lst (t.vals.map .int)) [some (.val, t.ins gs), some (.val, .dK (spt gs')), x2, some (.val, .lst (plS (t.ino []))), none, x5, x6] := by
    intro x2 x5 x6
    have := dLc_all (i := 4) (fi := dItA (dVar 3)) (fe := d2 ixD (dVar 1) (dVar 4)) (ρ := [some (.val, t.ins gs), some (.val, .dK (spt gs')), x2, some (.val, .lst (plS (t.ino []))), none, x5, x6]) (fun x : Pa × Int => .str (pl x.1)) (fun x => .int x.2) (ρ1 := [some (.val, t.ins gs), some (.val, .dK (spt gs')), x2, some (.val, .lst (plS (t.ino []))), none, x5, x6]) (t.ino []) (by simp; rfl) (fun x hx => by
      have hv := spt_val gs' x.1 x.2 hn (hp'.mem_iff.mpr ((ino_perm t []).mem_iff.mp hx))
      simp [ixD, hv]) (by rw [(ino_perm t []).length_eq, pre_len, szl']; omega) (by simp)
    rw [this]
    simp [Tr.vals]
  have c2 : ∀ x2 x5 x6, dLc (dItA (dVar 3)) (gN 4) dYes (d2 addD (dN (one1 lenD) (dCons (dVar 4) dNil)) (dC (.int 1))) [4] [some (.val, t.ins gs), some (.val, .dK (spt gs')), x2, some (.val, .lst (plS (t.ino []))), none, x5, x6] = .ok (.lst ((t.ino []).map fun x => D.int ((x.1.length : Int) + 1))) [some (.val, t.ins gs), some (.val, .dK (spt gs')), x2, some (.val, .lst (plS (t.ino []))), none, x5, x6] := by
    intro x2 x5 x6
    have := dLc_all (i := 4) (fi := dItA (dVar 3)) (fe := d2 addD (dN (one1 lenD) (dCons (dVar 4) dNil)) (dC (.int 1))) (ρ := [some (.val, t.ins gs), some (.val, .dK (spt gs')), x2, some (.val, .lst (plS (t.ino []))), none, x5, x6]) (fun x : Pa × Int => .str (pl x.1)) (fun x => D.int ((x.1.length : Int) + 1)) (ρ1 := [some (.val, t.ins gs), some (.val, .dK (spt gs')), x2, some (.val, .lst (plS (t.ino []))), none, x5, x6]) (t.ino []) (by simp; rfl) (fun x hx => by
      have := pre_short ((ino_perm t []).mem_iff.mp hx)
      have h3 : (pl x.1).length ≤ 16777216 := by rw [pl_len]; omega
      have h4 : x.1.length ≤ 16777216 := by omega
      simp [szl', h3, h4, pl_len]) (by rw [(ino_perm t []).length_eq, pre_len, szl']; omega) (by simp)
    rw [this]
    simp
  have hm := maxO t
  have hl2 : ((t.ino []).map fun x => D.int ((x.1.length : Int) + 1)).length + 1 ≤ 16777216 := by simp [(ino_perm t []).length_eq, pre_len]; omega
  have tv : tupleD (.lst (t.vals.map .int)) = some (.tup (t.vals.map .int)) := rfl
  obtain ⟨z4, z5, z6, eL⟩ := read_loop hp hp' (by omega) (some (.val, t.told)) (some (.val, .lst (plS (t.ino [])))) (t.ino []) none none none fun _ h => h
  have fin : ∃ ρ', b_law_is_read [some (.val, t.ins gs), some (.val, .dK (spt gs')), some (.val, t.told), none, none, none, none] = .rt (.bl true) ρ' := by
    unfold b_law_is_read
    generalize hT : t.told = T at *
    generalize hI : t.ins gs = I at *
    generalize plS (t.ino []) = P at *
    generalize t.vals.map D.int = V at *
    generalize ((t.ino []).map fun x => D.int ((x.1.length : Int) + 1)) = LN at *
    generalize spt gs' = G at *
    refine ⟨[some (.val, I), some (.val, .dK G), some (.val, T), some (.val, .lst P), z4, z5, z6], ?_⟩
    refine seq_go (ρ1 := [some (.val, I), some (.val, .dK G), some (.val, T), some (.val, .lst P), none, none, none]) (by simp [e0]) ?_
    refine seq_go (ρ1 := [some (.val, I), some (.val, .dK G), some (.val, T), some (.val, .lst P), none, none, none]) (by simp [dMethF, e1, m1, f1, f2, n1, n2, n3, hl, szl', -selfR_u, -fldC_u]) ?_
    refine seq_go (ρ1 := [some (.val, I), some (.val, .dK G), some (.val, T), some (.val, .lst P), none, none, none]) (by simp [e2, m2, c1, n4, szl', -selfR_u, -fldC_u, -dLc_e]) ?_
    refine seq_go (ρ1 := [some (.val, I), some (.val, .dK G), some (.val, T), some (.val, .lst P), none, none, none]) (by simp [f3, c2, hm, hl2, n5, szl', -selfR_u, -fldC_u, -dLc_e]) ?_
    refine seq_go (for_go (ρ1 := [some (.val, I), some (.val, .dK G), some (.val, T), some (.val, .lst P), none, none, none]) (ds := P) (by simp) eL) ?_
    simp
  obtain ⟨ρ', fin⟩ := fin
  simp only [fn_law_is_read, runF, List.length_cons, List.length_nil, initE, initAt, kdAt, List.replicate]
  simp [fin]
end
end Pu
namespace Pu
open PySem PySem.Spec PyProof.Rows L2 My
section
variable {α : Type} (u : α → D) (b : α → Bool)
theorem lcL_flt (i : Nat) (ρ0 : En) (ct : M Bool) (fe : M Rv) : ∀ (as : List α) (acc : List D) (x : Option (Kd × D)), (∀ a ∈ as, ct (ρ0.set i (some (.val, u a))) = .ok (b a) (ρ0.set i (some (.val, u a)))) → (∀ a ∈ as, b a = true → fe (ρ0.set i (some (.val, u a))) = .ok (.val (u a)) (ρ0.set i (some (.val, u a)))) → acc.length + as.length ≤ sizeLine →
    ∃ y, dLcL (gN i) ct fe [i] (as.map u) acc (ρ0.set i x) = .ok (acc ++ (as.filter b).map u) (ρ0.set i y)
  | [], acc, x, _, _, _ => ⟨x, by simp [dLcL]⟩
  | a :: as, acc, x, hc, h, hl => by
    have hlt : acc.length < sizeLine := by simp at hl; omega
    have c1 := hc a List.mem_cons_self
    cases hb : b a with
    | false =>
      rw [hb] at c1
      obtain ⟨y, e⟩ := lcL_flt i ρ0 ct fe as acc (some (.val, u a)) (fun a' hd => hc a' (List.mem_cons_of_mem _ hd)) (fun a' hd => h a' (List.mem_cons_of_mem _ hd)) (by simp at hl ⊢; omega)
      refine ⟨y, ?_⟩
      rw [List.map_cons]
      unfold dLcL
      simp only [gN, wipeE, List.set_set, c1, e]
      simp [hb]
    | true =>
      rw [hb] at c1
      have h1 := h a List.mem_cons_self hb
      obtain ⟨y, e⟩ := lcL_flt i ρ0 ct fe as (acc ++ [u a]) (some (.val, u a)) (fun a' hd => hc a' (List.mem_cons_of_mem _ hd)) (fun a' hd => h a' (List.mem_cons_of_mem _ hd)) (by simp at hl ⊢; omega)
      refine ⟨y, ?_⟩
      rw [List.map_cons]
      unfold dLcL
      simp only [gN, wipeE, List.set_set, c1, h1, esc, if_pos hlt, e]
      simp [hb]
theorem dLc_flt {i : Nat} {fi : M (List D)} {ct : M Bool} {fe : M Rv} {ρ ρ1 : En} (as : List α) (h1 : fi ρ = .ok (as.map u) ρ1) (hc : ∀ a ∈ as, ct (ρ1.set i (some (.val, u a))) = .ok (b a) (ρ1.set i (some (.val, u a)))) (h2 : ∀ a ∈ as, b a = true → fe (ρ1.set i (some (.val, u a))) = .ok (.val (u a)) (ρ1.set i (some (.val, u a)))) (hl : as.length ≤ sizeLine) (hi : i < ρ1.length) :
    dLc fi (gN i) ct fe [i] ρ = .ok (.lst ((as.filter b).map u)) (ρ1.set i none) := by
  have e0 : ρ1 = ρ1.set i (ρ1[i]) := by simp
  obtain ⟨y, e⟩ := lcL_flt u b i ρ1 ct fe as [] (ρ1[i]) hc h2 (by simpa using hl)
  rw [← e0] at e
  unfold dLc
  simp [h1, e, wipeE, List.set_set]
end
def Lack (t : Tr) (d : D) : Prop := ∃ s : Str, d = .str s ∧ PyData.strOk s = true ∧ ∀ x ∈ t.pre [], pl x.1 ≠ s
theorem lack_has {t : Tr} {gs : List (Pa × Int)} (hp : gs.Perm (t.pre [])) {s : Str} (h : ∀ x ∈ t.pre [], pl x.1 ≠ s) : inD (.str s) (.dK (spt gs)) = some (.bl false) := by
  have key : ∀ l : List (Pa × Int), (∀ x ∈ l, pl x.1 ≠ s) → (valD (spt l) (Sum.inr s : Key)).isSome = false := by
    intro l
    induction l with
    | nil => intro _; rfl
    | cons x l ih =>
      intro hl
      have h1 := hl x List.mem_cons_self
      have h2 := ih fun y hy => hl y (List.mem_cons_of_mem _ hy)
      simp only [spt, List.map_cons, valD, Sum.inr.injEq] at h2 ⊢
      rw [if_neg h1]
      exact h2
  have := key gs fun x hx => h x (hp.mem_iff.mp hx)
  simp [inD, inB, this]
def OddD (t : Tr) (d : D) : Prop := (∀ gs, gs.Perm (t.pre []) → fn_Tree_has [t.ins gs, d] = .ok (.bl false) .non) ∧ neU (.tup [.str (Str.ofString "place"), d, .bl true]) (.tup [.str (Str.ofString "place"), d, .bl true]) = some (.bl false)
theorem ne_neU {x y d : D} (h : neD x y = some d) : neU x y = some d := by unfold neU; rw [h]
theorem Lack.odd {t : Tr} {d : D} (h : Lack t d) : OddD t d := by
  obtain ⟨s, rfl, hs, hl⟩ := h
  refine ⟨fun gs hp => ?_, ?_⟩
  · have h := lack_has hp hl
    have f := fld_spots t gs
    simp [fn_Tree_has, b_Tree_has, f, h, gStrT, -fldC_u]
  · refine ne_neU (neD_same (n := 1) (sh_tup (n := 0) fun d hd => ?_) (by omega))
    simp at hd
    rcases hd with rfl | rfl | rfl
    · exact sh_S _
    · exact sh_str hs
    · exact sh_bl _
def sixO : List D := [.non, .int 0, .bl true, .tup [.str (Str.ofString "l")], .lst [.str (Str.ofString "l")], .dK []]
theorem six_odd (t : Tr) : ∀ d ∈ sixO, OddD t d := by
  intro d hd
  simp only [sixO, List.mem_cons, List.not_mem_nil, or_false] at hd
  rcases hd with rfl | rfl | rfl | rfl | rfl | rfl
  · exact ⟨fun gs hp => by simp [fn_Tree_has, b_Tree_has, gStrT], by kernel_rfl⟩
  · exact ⟨fun gs hp => by simp [fn_Tree_has, b_Tree_has, gStrT], by kernel_rfl⟩
  · exact ⟨fun gs hp => by simp [fn_Tree_has, b_Tree_has, gStrT], by kernel_rfl⟩
  · exact ⟨fun gs hp => by simp [fn_Tree_has, b_Tree_has, gStrT], by kernel_rfl⟩
  · exact ⟨fun gs hp => by simp [fn_Tree_has, b_Tree_has, gStrT], by kernel_rfl⟩
  · exact ⟨fun gs hp => by simp [fn_Tree_has, b_Tree_has, gStrT], by kernel_rfl⟩
theorem odd_need {t : Tr} {gs : List (Pa × Int)} (hp : gs.Perm (t.pre [])) {d : D} (h : OddD t d) : ∃ io, fn_Tree_need [t.ins gs, d] = .ex "NoPlace" [("place", d)] io := by
  have e := h.1 gs hp
  have m := self_m "has" t gs (by simp)
  exact ⟨_, by simp [fn_Tree_need, b_Tree_need, e, m, -selfR_u]; rfl⟩
theorem odd_value {t : Tr} {gs : List (Pa × Int)} (hp : gs.Perm (t.pre [])) {d : D} (h : OddD t d) : ∃ io, fn_Tree_value [t.ins gs, d] = .ex "NoPlace" [("place", d)] io := by
  obtain ⟨io, e⟩ := odd_need hp h
  have m := self_m "need" t gs (by simp)
  exact ⟨_, by simp [fn_Tree_value, b_Tree_value, e, m, -selfR_u]; rfl⟩
theorem odd_sides {t : Tr} {gs : List (Pa × Int)} (hp : gs.Perm (t.pre [])) {d : D} (h : OddD t d) : ∃ io, fn_Tree_sides [t.ins gs, d] = .ex "NoPlace" [("place", d)] io := by
  obtain ⟨io, e⟩ := odd_need hp h
  have m := self_m "need" t gs (by simp)
  exact ⟨_, by simp [fn_Tree_sides, b_Tree_sides, e, m, -selfR_u]; rfl⟩
end Pu
namespace Pu
open PySem PySem.Spec PyProof.Rows L2 My
variable [Tbs]
variable {P : Program} {w : World} {K : PySem.W.Frag} {mg : Str → Option Value} {base : Heap}
def l0_law : SM := (dIf (dT2 neD (dTup (dCons (dMeth "Tree" "find" true none 1 [] fn_Tree_find (dVar 7) (dCons (dVar 8) dNil)) (dCons (dMeth "Tree" "gap" true none 1 [] fn_Tree_gap (dVar 7) (dCons (dVar 8) dNil)) dNil))) (dCall true none 2 [] fn_law_search (dCons (dVar 5) (dCons (dVar 8) dNil))))
  (dRet (dC (.bl false)))
  dNx)
def l1_law : SM := (dSeq (dIf (dOr (dT2 (isBD true) (dMeth "Tree" "has" true none 1 [] fn_Tree_has (dVar 7) (dCons (dVar 12) dNil)) (dC (.bl false))) (dT2 neU (dMet caD 2 [("NoPlace", 1, (gCons (gStr "place") (gCons (gFld "NoPlace" "place") (gCons (gIs "NoPlace" true) gNil))))] (dMeth "Tree" "value" true none 1 [] fn_Tree_value (dVar 7) (dCons (dVar 12) dNil))) (dTup (dCons (dC (.str "place")) (dCons (dVar 12) (dCons (dC (.bl true)) dNil))))))
  (dRet (dC (.bl false)))
  dNx)
  (dIf (dT2 neU (dMet caD 2 [("NoPlace", 1, (gCons (gStr "place") (gCons (gFld "NoPlace" "place") (gCons (gIs "NoPlace" true) gNil))))] (dMeth "Tree" "sides" true none 1 [] fn_Tree_sides (dVar 7) (dCons (dVar 12) dNil))) (dTup (dCons (dC (.str "place")) (dCons (dVar 12) (dCons (dC (.bl true)) dNil)))))
  (dRet (dC (.bl false)))
  dNx))
def l2_law : SM := (dSeq (dSet 3 (dCall true (some 0) 2 [] fn_law_some_numbers (dCons (dVar 1) (dCons (dIfE (dT2 ltD (dVar 2) (dC (.int 3))) (dCall true (some 0) 2 [] fn_law_draw (dCons (dVar 1) (dCons (dC (.int 13)) dNil))) (dC (.int 0))) dNil))))
  (dSeq (dSet 4 (dCall true (some 0) 2 [] (fn_law_some_told 14) (dCons (dVar 1) (dCons (dVar 3) dNil))))
  (dSeq (dScoped3 okNone 6 (dPar [5, 6] (xV (dCall true none 1 [] fn_law_spots (dCons (dVar 4) dNil)) (xV (dCall true (some 0) 2 [] (fn_law_lists 14) (dCons (dVar 1) (dCons (dVar 4) dNil))) xNil)))
  (dSet 7 (dMake "Tree" true 1 [] fn_Tree_init (dCons (dVar 6) dNil)))
  (dB (d1 (isG gLst ((["Tree"] : List Str).map fun c => (c, false))) (dVar 6))))
  (dSeq (dIf (dNot (dB (dCall true none 3 [] fn_law_is_read (dCons (dVar 7) (dCons (dVar 5) (dCons (dVar 4) dNil))))))
  (dRet (dC (.bl false)))
  dNx)
  (dSeq (dFor (dItA (dCall true (some 0) 2 [] fn_law_numbers_by (dCons (dVar 1) (dCons (dVar 3) dNil)))) (gN 8)
  l0_law)
  (dSeq (dSet 9 (d2 addD (dFr (dLc (dItA (dVar 5)) (gN 10) dYes (d2 addD (dVar 10) (dC (.str "l"))) [10])) (dFr (dLc (dItA (dVar 5)) (gN 10) dYes (d2 addD (dVar 10) (dC (.str "r"))) [10]))))
  (dSeq (dSet 11 (d2 addD (dFr (dLc (dItA (dVar 9)) (gN 10) (dT2 ninD (dVar 10) (dVar 5)) (dVar 10) [10])) (dLst (dCons (dC (.str "lx")) (dCons (dC (.str "L")) (dCons (dC (.str " ")) dNil))))))
  (dSeq (dIf (dT2 eqE (dVar 5) (dFr dNewK))
  (dSet 11 (d2 addD (dLst (dCons (dC (.str "")) dNil)) (dVar 11)))
  dNx)
  (dSeq (dFor (dItA (d2 addD (dSl (dVar 11) pNone (pSome (dC (.int 4)))) (dLst (dCons (dC .non) (dCons (dC (.int 0)) (dCons (dC (.bl true)) (dCons (dTup (dCons (dC (.str "l")) dNil)) (dCons (dLst (dCons (dC (.str "l")) dNil)) (dCons (dFr dNewK) (dCons (dCall true (some 0) 2 [] fn_law_pick (dCons (dVar 1) (dCons (dVar 11) dNil))) dNil)))))))))) (gN 12)
  l1_law)
  (dSeq (dAppT (dMethF "Tree" "places" true none 0 [] fn_Tree_places (dVar 7) dNil))
  (dSeq (dSet 13 (dCall true (some 0) 2 [] (fn_law_some_told 14) (dCons (dVar 1) (dCons (dVar 3) dNil))))
  (dSeq (dIf (dOr (dT2 neD (dOwn false "Tree" (["Tree"] : List Str) fn_Tree_eq (dVar 7) (dMake "Tree" true 1 [] fn_Tree_init (dCons (dVar 13) dNil))) (d2 eqD (dVar 13) (dVar 4))) (dOr (dB (dOwn false "Tree" (["Tree"] : List Str) fn_Tree_eq (dVar 7) (dVar 4))) (dT2 (isBD true) (dOwn true "Tree" (["Tree"] : List Str) fn_Tree_eq (dVar 7) (dMake "Tree" true 1 [] fn_Tree_init (dCons (dVar 4) dNil))) (dC (.bl false)))))
  (dRet (dC (.bl false)))
  dNx)
  (dIf (dNot (dB (dCall true none 3 [] fn_law_is_read (dCons (dVar 7) (dCons (dVar 5) (dCons (dVar 4) dNil))))))
  (dRet (dC (.bl false)))
  dNx)))))))))))))
def b_law : SM := (dSeq (dSetO 1 (dCallF true none 1 [] fn_law_pen_of (dCons (dVar 0) dNil)))
  (dSeq (dFor (dRg1 (dCons (dC (.int 4)) dNil)) (gN 2)
  l2_law)
  (dRet (dC (.bl true)))))
def fn_law : List D → FOut := runF none 14 1 b_law
theorem bd_law (T : Txt P w K mg) (L_law : LamF K mg base "law") : BdyC P w K mg base ["_law_script", "_law_pen", "_law_turn", "_law_numbers", "_law_told", "_law_spots_here", "_law_handed", "_law_tree", "_law_number", "_law_near", "_law_place", "_law_lacking", "_law_odd", "_law_other"] "law" s_law (My.fa mg "law") 16 b_law := fun cdv A outer s H E hcd hr tk hp => (ds_cons (ds_setO (fun te he => ps_set (i := 1) sc_law.nd rfl (Or.inl rfl) he) (df_call T.law_pen_of T.b_law_pen_of (ok_law_pen_of T) (hr.mono (by decide)) (errTk tk) .nil (fun _ => .nil) (da_cons (de_var 0 (pv 0)) da_nil)))
  (ds_cons (ds_for hp (by rfl) (di_rg1 T.n_range (da_cons (de_c pe_int (fun _ => .int _)) da_nil)) (dg_name (pg_name (i := 2) sc_law.nd rfl (Or.inl rfl)))
  (ds_cons (ds_set (fun te he => ps_set (i := 3) sc_law.nd rfl (Or.inl rfl) he) (de_callN T.law_some_numbers T.b_law_some_numbers (ok_law_some_numbers T) (hr.mono (by decide)) (errTk tk) .nil (fun _ => .nil) (da_cons (de_var 1 (pv 1)) (da_cons (de_if (dt_lt (de_var 2 (pv 2)) (de_c pe_int (fun _ => .int _))) (de_callN T.law_draw T.b_law_draw (ok_law_draw T) (hr.mono (by decide)) (errTk tk) .nil (fun _ => .nil) (da_cons (de_var 1 (pv 1)) (da_cons (de_c pe_int (fun _ => .int _)) da_nil))) (de_c pe_int (fun _ => .int _))) da_nil))))
  (ds_cons (ds_set (fun te he => ps_set (i := 4) sc_law.nd rfl (Or.inl rfl) he) (de_callN T.law_some_told T.b_law_some_told (ok_law_some_told T 14) (hr.mono (by decide)) (errTk tk) .nil (fun _ => .nil) (da_cons (de_var 1 (pv 1)) (da_cons (de_var 3 (pv 3)) da_nil))))
  (dss_scoped3 (ok := okNone) (i := 6) (ds_par2g (L2.pg_tup (by rfl) (L2.pgs_cons (L2.pg_name (i := 5) sc_law.nd rfl (Or.inr rfl)) (L2.pgs_cons (L2.pg_name (i := 6) sc_law.nd rfl (Or.inl rfl)) L2.pgs_nil))) (dx_v (de_callN T.law_spots T.b_law_spots (ok_law_spots T) (hr.mono (by decide)) (errTk tk) .nil (fun _ => .nil) (da_cons (de_var 4 (pv 4)) da_nil)) (dx_v (de_callN T.law_lists T.b_law_lists (ok_law_lists T 14) (hr.mono (by decide)) (errTk tk) .nil (fun _ => .nil) (da_cons (de_var 1 (pv 1)) (da_cons (de_var 4 (pv 4)) da_nil))) dx_nil)))
  (ds_set (fun te he => ps_set (i := 7) sc_law.nd rfl (Or.inr rfl) he) (de_make T.c_Tree T.k_Tree T.b_Tree_init (ok_Tree_init T) (hr.mono (by decide)) (errTk tk) .nil (fun _ => .nil) (da_cons (de_var 6 (pv 6)) da_nil)))
  (dt_b (de_isLst (cs := ["Tree"]) T.ins T.n_isinstance T.n_list (de_var 6 (pv 6))))
  (ps_st3 (by rfl) (pv 6) (pv 6))
  (ds_cons (ds_if (dt_not (dt_b (de_callN T.law_is_read T.b_law_is_read (ok_law_is_read T) (hr.mono (by decide)) (errTk tk) .nil (fun _ => .nil) (da_cons (de_var 7 (pv 7)) (da_cons (de_var 5 (pv 5)) (da_cons (de_var 4 (pv 4)) da_nil))))))
  (ds_one (ds_ret (de_c pe_bl (fun _ => .bl _))))
  ds_nil)
  (ds_cons (ds_for hp (by rfl) (di_any (de_callN T.law_numbers_by T.b_law_numbers_by (ok_law_numbers_by T) (hr.mono (by decide)) (errTk tk) .nil (fun _ => .nil) (da_cons (de_var 1 (pv 1)) (da_cons (de_var 3 (pv 3)) da_nil)))) (dg_name (pg_name (i := 8) sc_law.nd rfl (Or.inl rfl)))
  (ds_one (ds_if (dt_ne hr (de_tup (da_cons (de_methN (pl := _) (de_var 7 (pv 7)) T.Tree_find.cl T.Tree_find.me T.b_Tree_find (ok_Tree_find T) (hr.mono (by decide)) (errTk tk) .nil (fun _ => .nil) (da_cons (de_var 8 (pv 8)) da_nil)) (da_cons (de_methN (pl := _) (de_var 7 (pv 7)) T.Tree_gap.cl T.Tree_gap.me T.b_Tree_gap (ok_Tree_gap T) (hr.mono (by decide)) (errTk tk) .nil (fun _ => .nil) (da_cons (de_var 8 (pv 8)) da_nil)) da_nil))) (de_callN T.law_search T.b_law_search (ok_law_search T) (hr.mono (by decide)) (errTk tk) .nil (fun _ => .nil) (da_cons (de_var 5 (pv 5)) (da_cons (de_var 8 (pv 8)) da_nil))))
  (ds_one (ds_ret (de_c pe_bl (fun _ => .bl _))))
  ds_nil)))
  (ds_cons (ds_set (fun te he => ps_set (i := 9) sc_law.nd rfl (Or.inl rfl) he) (de_add (DF.de (df_lc (pe_lc (own := [("_law_place", 10)]) (g := tG ⟨K, w, mg⟩ (gN 10) [10]) (tt := tQ ⟨K, w, mg⟩ (fun cls d _ H => E cls d H) dYes) (te := tP ⟨K, w, mg⟩ (fun cls d _ H => E cls d H) (d2 addD (dVar 10) (dC (.str "l")))) (by rfl) sc_law.nd (di_any (de_var 5 (pv 5))) (blkOk_by (own := [("_law_place", 10)]) (N := ["_law_script", "_law_pen", "_law_turn", "_law_numbers", "_law_told", "_law_spots_here", "_law_handed", "_law_tree", "_law_number", "_law_near", "_law_place", "_law_lacking", "_law_odd", "_law_other"]) (sc := defScope s_law) (by decide +kernel)) (fun _ _ _ _ _ => (dg_name (pg_name (i := 10) sc_law.nd rfl (Or.inl rfl)))) (fun _ _ _ _ _ => dts_nil) (fun _ _ _ _ _ => (de_add (de_var 10 (pv 10)) (de_c pe_str (fun _ => .str _))))))) (DF.de (df_lc (pe_lc (own := [("_law_place", 10)]) (g := tG ⟨K, w, mg⟩ (gN 10) [10]) (tt := tQ ⟨K, w, mg⟩ (fun cls d _ H => E cls d H) dYes) (te := tP ⟨K, w, mg⟩ (fun cls d _ H => E cls d H) (d2 addD (dVar 10) (dC (.str "r")))) (by rfl) sc_law.nd (di_any (de_var 5 (pv 5))) (blkOk_by (own := [("_law_place", 10)]) (N := ["_law_script", "_law_pen", "_law_turn", "_law_numbers", "_law_told", "_law_spots_here", "_law_handed", "_law_tree", "_law_number", "_law_near", "_law_place", "_law_lacking", "_law_odd", "_law_other"]) (sc := defScope s_law) (by decide +kernel)) (fun _ _ _ _ _ => (dg_name (pg_name (i := 10) sc_law.nd rfl (Or.inl rfl)))) (fun _ _ _ _ _ => dts_nil) (fun _ _ _ _ _ => (de_add (de_var 10 (pv 10)) (de_c pe_str (fun _ => .str _)))))))))
  (ds_cons (ds_set (fun te he => ps_set (i := 11) sc_law.nd rfl (Or.inl rfl) he) (de_add (DF.de (df_lc (pe_lc (own := [("_law_place", 10)]) (g := tG ⟨K, w, mg⟩ (gN 10) [10]) (tt := tQ ⟨K, w, mg⟩ (fun cls d _ H => E cls d H) (dT2 ninD (dVar 10) (dVar 5))) (te := tP ⟨K, w, mg⟩ (fun cls d _ H => E cls d H) (dVar 10)) (by rfl) sc_law.nd (di_any (de_var 9 (pv 9))) (blkOk_by (own := [("_law_place", 10)]) (N := ["_law_script", "_law_pen", "_law_turn", "_law_numbers", "_law_told", "_law_spots_here", "_law_handed", "_law_tree", "_law_number", "_law_near", "_law_place", "_law_lacking", "_law_odd", "_law_other"]) (sc := defScope s_law) (by decide +kernel)) (fun _ _ _ _ _ => (dg_name (pg_name (i := 10) sc_law.nd rfl (Or.inl rfl)))) (fun _ _ _ _ _ => (dts_one (dt_nin hr (de_var 10 (pv 10)) (de_var 5 (pv 5))))) (fun _ _ _ _ _ => (de_var 10 (pv 10)))))) (de_lst (da_cons (de_c pe_str (fun _ => .str _)) (da_cons (de_c pe_str (fun _ => .str _)) (da_cons (de_c pe_str (fun _ => .str _)) da_nil))))))
  (ds_cons (ds_if (dt_eqE hr (de_var 5 (pv 5)) (DF.de df_newK))
  (ds_one (ds_set (fun te he => ps_set (i := 11) sc_law.nd rfl (Or.inl rfl) he) (de_add (de_lst (da_cons (de_c pe_str (fun _ => .str _)) da_nil)) (de_var 11 (pv 11)))))
  ds_nil)
  (ds_cons (ds_for hp (by rfl) (di_any (de_add (de_slice (de_var 11 (pv 11)) do_none (do_some (de_c pe_int (fun _ => .int _)))) (de_lst (da_cons (de_c pe_non (fun _ => .non)) (da_cons (de_c pe_int (fun _ => .int _)) (da_cons (de_c pe_bl (fun _ => .bl _)) (da_cons (de_tup (da_cons (de_c pe_str (fun _ => .str _)) da_nil)) (da_cons (de_lst (da_cons (de_c pe_str (fun _ => .str _)) da_nil)) (da_cons (DF.de df_newK) (da_cons (de_callN T.law_pick T.b_law_pick (ok_law_pick T) (hr.mono (by decide)) (errTk tk) .nil (fun _ => .nil) (da_cons (de_var 1 (pv 1)) (da_cons (de_var 11 (pv 11)) da_nil))) da_nil)))))))))) (dg_name (pg_name (i := 12) sc_law.nd rfl (Or.inr rfl)))
  (ds_cons (ds_if (PW.pt (dw_or (dt_ntB (de_methN (pl := _) (de_var 7 (pv 7)) T.Tree_has.cl T.Tree_has.me T.b_Tree_has (ok_Tree_has T) (hr.mono (by decide)) (errTk tk) .nil (fun _ => .nil) (da_cons (de_var 12 (pv 12)) da_nil)) (de_c pe_bl (fun _ => .bl _))) (dw_or1 (dt_neU hr (de_metL (n := 3) L_law hcd (by rfl) T.law_met T.b_law_met sc_law_met rfl rfl (fun _ => rfl) rfl (Or.inl rfl) T.ca (fun cdG s H hr => ⟨_, (.cons (i := 1) rfl rfl ⟨by rfl, by decide, .inl T.e_NoPlace.T.gC⟩ (fun a oe cls d pn hz hv => su_ret (xps_cons xp_str (xps_cons (xp_fld T.e_NoPlace (by decide) hz hv (pv 1)) (xps_cons (xp_is T.x_NoPlace T.v_NoPlace T.n_isinstance hz hv (pv 1) (pe_bltn (v := .ty "ValueError") (by rfl) T.n_ValueError PyProof.Rows.Boot.«ValueError» rfl)) xps_nil)))) .nil)⟩) (hr.mono (by decide)) (show LamX.LamS (defScope s_law) _ from LamX.lamS_by (by decide +kernel)) (fun A1 out1 s1 G1 E lf lc hr => (de_methN (pl := _) (de_var 7 (pv 7)) T.Tree_value.cl T.Tree_value.me T.b_Tree_value (ok_Tree_value T) (hr.mono (by decide)) (errTk (takes_of rfl rfl rfl rfl)) .nil (fun _ => .nil) (da_cons (de_var 12 (pv 12)) da_nil)))) (de_tup (da_cons (de_c pe_str (fun _ => .str _)) (da_cons (de_var 12 (pv 12)) (da_cons (de_c pe_bl (fun _ => .bl _)) da_nil))))))))
  (ds_one (ds_ret (de_c pe_bl (fun _ => .bl _))))
  ds_nil)
  (ds_one (ds_if (dt_neU hr (de_metL (n := 3) L_law hcd (by rfl) T.law_met T.b_law_met sc_law_met rfl rfl (fun _ => rfl) rfl (Or.inl rfl) T.ca (fun cdG s H hr => ⟨_, (.cons (i := 1) rfl rfl ⟨by rfl, by decide, .inl T.e_NoPlace.T.gC⟩ (fun a oe cls d pn hz hv => su_ret (xps_cons xp_str (xps_cons (xp_fld T.e_NoPlace (by decide) hz hv (pv 1)) (xps_cons (xp_is T.x_NoPlace T.v_NoPlace T.n_isinstance hz hv (pv 1) (pe_bltn (v := .ty "ValueError") (by rfl) T.n_ValueError PyProof.Rows.Boot.«ValueError» rfl)) xps_nil)))) .nil)⟩) (hr.mono (by decide)) (show LamX.LamS (defScope s_law) _ from LamX.lamS_by (by decide +kernel)) (fun A1 out1 s1 G1 E lf lc hr => (de_methN (pl := _) (de_var 7 (pv 7)) T.Tree_sides.cl T.Tree_sides.me T.b_Tree_sides (ok_Tree_sides T) (hr.mono (by decide)) (errTk (takes_of rfl rfl rfl rfl)) .nil (fun _ => .nil) (da_cons (de_var 12 (pv 12)) da_nil)))) (de_tup (da_cons (de_c pe_str (fun _ => .str _)) (da_cons (de_var 12 (pv 12)) (da_cons (de_c pe_bl (fun _ => .bl _)) da_nil)))))
  (ds_one (ds_ret (de_c pe_bl (fun _ => .bl _))))
  ds_nil))))
  (ds_cons (ds_appT (df_meth0 (pl := _) (de_var 7 (pv 7)) T.Tree_places.cl T.Tree_places.me T.b_Tree_places (ok_Tree_places T) (hr.mono (by decide)) (errTk tk) .nil (fun _ => .nil)))
  (ds_cons (ds_set (fun te he => ps_set (i := 13) sc_law.nd rfl (Or.inl rfl) he) (de_callN T.law_some_told T.b_law_some_told (ok_law_some_told T 14) (hr.mono (by decide)) (errTk tk) .nil (fun _ => .nil) (da_cons (de_var 1 (pv 1)) (da_cons (de_var 3 (pv 3)) da_nil))))
  (ds_cons (ds_if (PW.pt (dw_or (dt_ne hr (de_ownEq T.eqm_Tree T.nos_Tree (ok_Tree_eq T) T.b_Tree_eq (hr.mono (by decide)) (de_var 7 (pv 7)) (de_make T.c_Tree T.k_Tree T.b_Tree_init (ok_Tree_init T) (hr.mono (by decide)) (errTk tk) .nil (fun _ => .nil) (da_cons (de_var 13 (pv 13)) da_nil))) (de_eq hr (de_var 13 (pv 13)) (de_var 4 (pv 4)))) (dw_or (dt_ownEq T.eqm_Tree T.nos_Tree (ok_Tree_eq T) T.b_Tree_eq (hr.mono (by decide)) (de_var 7 (pv 7)) (de_var 4 (pv 4))) (dw_or1 (dt_ntB (de_ownNe T.eqm_Tree T.nos_Tree (ok_Tree_eq T) T.b_Tree_eq (hr.mono (by decide)) (de_var 7 (pv 7)) (de_make T.c_Tree T.k_Tree T.b_Tree_init (ok_Tree_init T) (hr.mono (by decide)) (errTk tk) .nil (fun _ => .nil) (da_cons (de_var 4 (pv 4)) da_nil))) (de_c pe_bl (fun _ => .bl _)))))))
  (ds_one (ds_ret (de_c pe_bl (fun _ => .bl _))))
  ds_nil)
  (ds_one (ds_if (dt_not (dt_b (de_callN T.law_is_read T.b_law_is_read (ok_law_is_read T) (hr.mono (by decide)) (errTk tk) .nil (fun _ => .nil) (da_cons (de_var 7 (pv 7)) (da_cons (de_var 5 (pv 5)) (da_cons (de_var 4 (pv 4)) da_nil))))))
  (ds_one (ds_ret (de_c pe_bl (fun _ => .bl _))))
  ds_nil)))))))))))))))
  (ds_one (ds_ret (de_c pe_bl (fun _ => .bl _))))))
theorem ok_law (T : Txt P w K mg) (L_law : LamF K mg base "law") : FnG P w K mg base 17 (My.fa mg "law") (fdOf K (My.fa mg "law")) ["_law_script"] (spD ⟨K, w, mg⟩ none 1 fn_law) := fn_bodyC none T.law.F sc_law (by decide) (bd_law T L_law)
end Pu
namespace Pu
open PySem PySem.Spec PyProof.Rows L2 My
@[simp] theorem dMet_e (ca : Str → Str → Option Bool) (n : Nat) (cl : List (Str × Nat × GXs)) (f : M Rv) (x0 : Option (Kd × D)) (ρ : En) : dMet ca n cl f (x0 :: ρ) = (match f (x0 :: ρ) with
  | .ok _ ρ1 => .ok (.val (.tup [])) ρ1
  | .ex x fs ρ1 => match catchD ca x fs cl (List.replicate n none) with
    | .rt d _ => .ok (.val d) ρ1
    | _ => .bad
  | .bad => .bad) := rfl
theorem catch_np (d : D) : ∃ ρ, catchD caD (Str.ofString "NoPlace") [(Str.ofString "place", d)] [("NoPlace", 1, (gCons (gStr "place") (gCons (gFld "NoPlace" "place") (gCons (gIs "NoPlace" true) gNil))))] [none, none] = .rt (.tup [.str (Str.ofString "place"), d, .bl true]) ρ := ⟨_, rfl⟩
theorem odd_turn {t : Tr} {gs : List (Pa × Int)} (hp : gs.Perm (t.pre [])) {d : D} (h : OddD t d) (x0 x1 x2 x3 x4 x5 x6 x8 x9 x10 x11 x13 : Option (Kd × D)) :
    l1_law [x0, x1, x2, x3, x4, x5, x6, some (.val, t.ins gs), x8, x9, x10, x11, some (.val, d), x13] = .nx [x0, x1, x2, x3, x4, x5, x6, some (.val, t.ins gs), x8, x9, x10, x11, some (.val, d), x13] := by
  obtain ⟨i1, e1⟩ := odd_value hp h
  obtain ⟨i2, e2⟩ := odd_sides hp h
  have e3 := h.1 gs hp
  have e4 := h.2
  have m1 := self_m "value" t gs (by simp)
  have m2 := self_m "sides" t gs (by simp)
  have m3 := self_m "has" t gs (by simp)
  obtain ⟨r, ec⟩ := catch_np d
  have ib : isBD true (.bl false) (.bl false) = some (.bl false) := by rfl
  simp [l1_law, e1, e2, e3, e4, m1, m2, m3, ec, ib, szl', -selfR_u]
theorem num_tn {t : Tr} {gs gs' : List (Pa × Int)} (hp : gs.Perm (t.pre [])) (hp' : gs'.Perm (t.pre [])) (h2 : t.ht < 900) (v : Int) (x0 x1 x2 x3 x4 x6 x9 x10 x11 x12 x13 : Option (Kd × D)) :
    l0_law [x0, x1, x2, x3, x4, some (.val, .dK (spt gs')), x6, some (.val, t.ins gs), some (.val, .int v), x9, x10, x11, x12, x13] = .nx [x0, x1, x2, x3, x4, some (.val, .dK (spt gs')), x6, some (.val, t.ins gs), some (.val, .int v), x9, x10, x11, x12, x13] := by
  have e1 := tfind_ok hp (by omega) v
  have e2 := tgap_ok hp (by omega) v
  have e3 := lsearch_ok hp' h2 v
  have m1 := self_m "find" t gs (by simp)
  have m2 := self_m "gap" t gs (by simp)
  have n := neD_same (sh_gap (srch t v [])) (by omega)
  simp [l0_law, e1, e2, e3, m1, m2, n, szl', -selfR_u]
theorem pow39 : powD (.int 10) (.int 39) = some (.int 1000000000000000000000000000000000000000) := rfl
theorem by_loop (x0 x1 : Option (Kd × D)) : ∀ (ns acc : List Int) (x3 : Option (Kd × D)), acc.length + 3 * ns.length < 100000 →
    ∃ (ms : List Int) (y3 : Option (Kd × D)), dForL (gN 3) l0_law_numbers_by (ns.map .int) [x0, x1, some (.val, .lst (acc.map .int)), x3] = .nx [x0, x1, some (.val, .lst (ms.map .int)), y3]
  | [], acc, x3, _ => ⟨acc, x3, rfl⟩
  | n :: ns, acc, x3, h => by
    simp only [List.length_cons] at h
    obtain ⟨ms, y3, e⟩ := by_loop x0 x1 ns (acc ++ [n, n + 1, n - 1]) (some (.val, .int n)) (by simp; omega)
    refine ⟨ms, y3, ?_⟩
    have b : acc.length + 3 ≤ 16777216 := by omega
    rw [List.map_cons, forL_nx (ρ1 := [x0, x1, some (.val, .lst (acc.map .int)), some (.val, .int n)]) (ρ2 := [x0, x1, some (.val, .lst ((acc ++ [n, n + 1, n - 1]).map .int)), some (.val, .int n)]) rfl (by simp [l0_law_numbers_by, szl', b])]
    exact e
theorem by_ok {cs : List Int} {k : Nat} {p : D} (hp : Pn cs k p) (hk : k < 9000000) (ns : List Int) (hn : ns.length < 1000) : ∃ (ms : List Int) (p' : D), fn_law_numbers_by [p, .lst (ns.map .int)] = .ok (.lst (ms.map .int)) p' ∧ Pn cs (k + 1) p' := by
  obtain ⟨d, p1, hd, e1, q1⟩ := pick_P hp (by omega) [.int 0, .int 1, .int (-1)] (by decide)
  obtain ⟨i, rfl⟩ : ∃ i : Int, d = .int i := by
    simp at hd
    rcases hd with rfl | rfl | rfl <;> exact ⟨_, rfl⟩
  obtain ⟨ms, y3, e2⟩ := by_loop (some (.pin, p1)) (some (.val, .lst (ns.map .int))) ns [i, 1000000000000000000000000000000000000000, -1000000000000000000000000000000000000000] none (by simp; omega)
  refine ⟨ms, p1, ?_, q1⟩
  simp only [List.map_cons, List.map_nil] at e2
  simp [fn_law_numbers_by, b_law_numbers_by, e1, e2, pow39, szl']
end Pu
namespace Pu
open PySem PySem.Spec PyProof.Rows L2 My
def Tr.P : Tr → PyData
  | .e => .none
  | .n l v r => .tuple [l.P, .int v, r.P]
theorem toP_tr : ∀ t : Tr, toP t.told = some t.P
  | .e => rfl
  | .n l v r => by simp [Tr.told, Tr.P, toP, toPs, toP_tr l, toP_tr r]
theorem eqv_tr : ∀ a b : Tr, PyData.eqv a.P b.P = decide (a = b)
  | .e, .e => rfl
  | .e, .n _ _ _ => rfl
  | .n _ _ _, .e => rfl
  | .n l v r, .n l' v' r' => by
    have h1 := eqv_tr l l'
    have h2 := eqv_tr r r'
    simp only [Tr.P, PyData.eqv, PyData.eqvAll, h1, h2]
    by_cases a : l = l' <;> by_cases b : v = v' <;> by_cases c : r = r' <;> simp [a, b, c]
theorem eq_told (a b : Tr) (ha : a.ht < 60) (hb : b.ht < 60) : eqD a.told b.told = some (.bl (decide (a = b))) := by
  obtain ⟨p, e1, s1, _⟩ := (sh_told a).shaped (by omega)
  obtain ⟨q, e2, s2, _⟩ := (sh_told b).shaped (by omega)
  rw [toP_tr] at e1 e2
  cases e1
  cases e2
  have h := eqv_tr a b
  have t1 := toP_tr a
  have t2 := toP_tr b
  have fin : scalD a.told b.told = false → eqD a.told b.told = some (.bl (decide (a = b))) := fun hs => by
    unfold eqD eqB
    rw [hs, t1, t2]
    simp only [Bool.false_eq_true, if_false]
    rw [if_pos ⟨s1, s2⟩, h]
    rfl
  cases a with
  | e =>
    cases b with
    | e => rfl
    | n l v r => exact fin rfl
  | n l v r =>
    cases b with
    | e => exact fin rfl
    | n l' v' r' => exact fin rfl
theorem tree_eq {a b : Tr} {gs gs' : List (Pa × Int)} (ha : a.ht < 60) (hb : b.ht < 60) : fn_Tree_eq [a.ins gs, b.ins gs'] = .ok (.bl (decide (a = b))) .non := by
  have f1 := fld_told a gs
  have f2 := fld_told b gs'
  have e := eq_told a b ha hb
  have i : isG gNo [(Str.ofString "Tree", true)] (b.ins gs') = some (.bl true) := rfl
  generalize a.ins gs = A at *
  generalize b.ins gs' = B at *
  simp [fn_Tree_eq, b_Tree_eq, f1, f2, e, i, -fldC_u, -isG_u]
theorem tree_eq_told {a b : Tr} {gs : List (Pa × Int)} : fn_Tree_eq [a.ins gs, b.told] = .ok (.bl false) .non := by
  have i : isG gNo [(Str.ofString "Tree", true)] b.told = some (.bl false) := by cases b <;> rfl
  generalize a.ins gs = A at *
  generalize b.told = B at *
  simp [fn_Tree_eq, b_Tree_eq, i, -fldC_u, -isG_u]
theorem own_ins (a b : Tr) (gs gs' : List (Pa × Int)) : okOwn "Tree" ["Tree"] (some (a.ins gs)) (some (b.ins gs')) = true := by
  simp [okOwn, Tr.ins, isG]
  try rfl
theorem own_told (a b : Tr) (gs : List (Pa × Int)) : okOwn "Tree" ["Tree"] (some (a.ins gs)) (some b.told) = true := by
  cases b <;> (simp [okOwn, Tr.ins, isG, Tr.told]; try rfl)
end Pu
namespace Pu
open PySem PySem.Spec PyProof.Rows L2 My
def tS0 : SM := (dSet 3 (dCall true (some 0) 2 [] fn_law_some_numbers (dCons (dVar 1) (dCons (dIfE (dT2 ltD (dVar 2) (dC (.int 3))) (dCall true (some 0) 2 [] fn_law_draw (dCons (dVar 1) (dCons (dC (.int 13)) dNil))) (dC (.int 0))) dNil))))
def tS1 : SM := (dSet 4 (dCall true (some 0) 2 [] (fn_law_some_told 14) (dCons (dVar 1) (dCons (dVar 3) dNil))))
def tS2 : SM := (dScoped3 okNone 6 (dPar [5, 6] (xV (dCall true none 1 [] fn_law_spots (dCons (dVar 4) dNil)) (xV (dCall true (some 0) 2 [] (fn_law_lists 14) (dCons (dVar 1) (dCons (dVar 4) dNil))) xNil)))
  (dSet 7 (dMake "Tree" true 1 [] fn_Tree_init (dCons (dVar 6) dNil)))
  (dB (d1 (isG gLst ((["Tree"] : List Str).map fun c => (c, false))) (dVar 6))))
def tS3 : SM := (dIf (dNot (dB (dCall true none 3 [] fn_law_is_read (dCons (dVar 7) (dCons (dVar 5) (dCons (dVar 4) dNil))))))
  (dRet (dC (.bl false)))
  dNx)
def tS4 : SM := (dFor (dItA (dCall true (some 0) 2 [] fn_law_numbers_by (dCons (dVar 1) (dCons (dVar 3) dNil)))) (gN 8)
  l0_law)
def tS5 : SM := (dSet 9 (d2 addD (dFr (dLc (dItA (dVar 5)) (gN 10) dYes (d2 addD (dVar 10) (dC (.str "l"))) [10])) (dFr (dLc (dItA (dVar 5)) (gN 10) dYes (d2 addD (dVar 10) (dC (.str "r"))) [10]))))
def tS6 : SM := (dSet 11 (d2 addD (dFr (dLc (dItA (dVar 9)) (gN 10) (dT2 ninD (dVar 10) (dVar 5)) (dVar 10) [10])) (dLst (dCons (dC (.str "lx")) (dCons (dC (.str "L")) (dCons (dC (.str " ")) dNil))))))
def tS7 : SM := (dIf (dT2 eqE (dVar 5) (dFr dNewK))
  (dSet 11 (d2 addD (dLst (dCons (dC (.str "")) dNil)) (dVar 11)))
  dNx)
def tS8 : SM := (dFor (dItA (d2 addD (dSl (dVar 11) pNone (pSome (dC (.int 4)))) (dLst (dCons (dC .non) (dCons (dC (.int 0)) (dCons (dC (.bl true)) (dCons (dTup (dCons (dC (.str "l")) dNil)) (dCons (dLst (dCons (dC (.str "l")) dNil)) (dCons (dFr dNewK) (dCons (dCall true (some 0) 2 [] fn_law_pick (dCons (dVar 1) (dCons (dVar 11) dNil))) dNil)))))))))) (gN 12)
  l1_law)
def tS9 : SM := (dAppT (dMethF "Tree" "places" true none 0 [] fn_Tree_places (dVar 7) dNil))
def tS10 : SM := (dSet 13 (dCall true (some 0) 2 [] (fn_law_some_told 14) (dCons (dVar 1) (dCons (dVar 3) dNil))))
def tS11 : SM := (dIf (dOr (dT2 neD (dOwn false "Tree" (["Tree"] : List Str) fn_Tree_eq (dVar 7) (dMake "Tree" true 1 [] fn_Tree_init (dCons (dVar 13) dNil))) (d2 eqD (dVar 13) (dVar 4))) (dOr (dB (dOwn false "Tree" (["Tree"] : List Str) fn_Tree_eq (dVar 7) (dVar 4))) (dT2 (isBD true) (dOwn true "Tree" (["Tree"] : List Str) fn_Tree_eq (dVar 7) (dMake "Tree" true 1 [] fn_Tree_init (dCons (dVar 4) dNil))) (dC (.bl false)))))
  (dRet (dC (.bl false)))
  dNx)
def tS12 : SM := (dIf (dNot (dB (dCall true none 3 [] fn_law_is_read (dCons (dVar 7) (dCons (dVar 5) (dCons (dVar 4) dNil))))))
  (dRet (dC (.bl false)))
  dNx)
theorem l2_law_eq : l2_law = (dSeq tS0 (dSeq tS1 (dSeq tS2 (dSeq tS3 (dSeq tS4 (dSeq tS5 (dSeq tS6 (dSeq tS7 (dSeq tS8 (dSeq tS9 (dSeq tS10 (dSeq tS11 tS12)))))))))))) := rfl
end Pu
namespace Pu
open PySem PySem.Spec PyProof.Rows L2 My
abbrev Sl := Option (Kd × D)
theorem s0_ok {cs : List Int} {k : Nat} {p : D} (h : Pn cs k p) (hk : k < 1000000) (n : Nat) (x0 x3 x4 x5 x6 x7 x8 x9 x10 x11 x12 x13 : Sl) :
    ∃ (ns : List Int) (p' : D), ns.length < 13 ∧ ns.Pairwise (· < ·) ∧ Pn cs (k + 15) p' ∧ tS0 [x0, some (.own, p), some (.val, .int n), x3, x4, x5, x6, x7, x8, x9, x10, x11, x12, x13] = .nx [x0, some (.own, p'), some (.val, .int n), some (.val, .lst (ns.map .int)), x4, x5, x6, x7, x8, x9, x10, x11, x12, x13] := by
  by_cases hn : (n : Int) < 3
  · obtain ⟨v, p1, e1, q1, v1, v2⟩ := draw_P h (by omega) 13 (by omega)
    obtain ⟨m, rfl⟩ : ∃ m : Nat, v = m := ⟨v.toNat, by omega⟩
    obtain ⟨ns, p2, e2, q2, l2, w2⟩ := nums_ok q1 m (by omega) (by omega)
    refine ⟨ns, p2, by omega, w2, q2.mono (by omega), ?_⟩
    simp [tS0, hn, e1, e2]
  · obtain ⟨ns, p2, e2, q2, l2, w2⟩ := nums_ok h 0 (by omega) (by omega)
    refine ⟨ns, p2, by omega, w2, q2.mono (by omega), ?_⟩
    have e2 : fn_law_some_numbers [p, .int 0] = .ok (.lst (ns.map .int)) p2 := e2
    simp [tS0, hn, e2]
theorem s1_ok {cs : List Int} {k : Nat} {p : D} (h : Pn cs k p) (hk : k < 1000000) (ns : List Int) (hn : ns.length < 13) (x0 x2 x4 x5 x6 x7 x8 x9 x10 x11 x12 x13 : Sl) :
    ∃ (t : Tr) (p' : D), t.vals = ns ∧ Pn cs (k + 39) p' ∧ tS1 [x0, some (.own, p), x2, some (.val, .lst (ns.map .int)), x4, x5, x6, x7, x8, x9, x10, x11, x12, x13] = .nx [x0, some (.own, p'), x2, some (.val, .lst (ns.map .int)), some (.val, t.told), x5, x6, x7, x8, x9, x10, x11, x12, x13] := by
  obtain ⟨t, p', e, q, w⟩ := told_draw 14 ns k p h (by omega) (by omega) (by omega)
  refine ⟨t, p', w, q.mono (by omega), ?_⟩
  simp [tS1, e]
theorem s11_ok {cs : List Int} {k : Nat} {p : D} (h : Pn cs k p) (hk : k < 1000000) (ns : List Int) (hn : ns.length < 13) (x0 x2 x4 x5 x6 x7 x8 x9 x10 x11 x12 x13 : Sl) :
    ∃ (t : Tr) (p' : D), t.vals = ns ∧ Pn cs (k + 39) p' ∧ tS10 [x0, some (.own, p), x2, some (.val, .lst (ns.map .int)), x4, x5, x6, x7, x8, x9, x10, x11, x12, x13] = .nx [x0, some (.own, p'), x2, some (.val, .lst (ns.map .int)), x4, x5, x6, x7, x8, x9, x10, x11, x12, some (.val, t.told)] := by
  obtain ⟨t, p', e, q, w⟩ := told_draw 14 ns k p h (by omega) (by omega) (by omega)
  refine ⟨t, p', w, q.mono (by omega), ?_⟩
  simp [tS10, e]
theorem safe_spt (gs : List (Pa × Int)) : safeK okNone (spt gs) = true := by
  induction gs with
  | nil => rfl
  | cons x gs ih =>
    simp only [spt] at ih
    simp [spt, safeK, safe, ih]
theorem safe_told (t : Tr) : safe okNone t.told = true := by
  induction t with
  | e => rfl
  | n l v r il ir => simp [Tr.told, safe, safeL, il, ir]
theorem safe_ins (t : Tr) (gs : List (Pa × Int)) : safe okNone (t.ins gs) = true := by
  have h1 := safe_spt gs
  have h2 := safe_told t
  simp [Tr.ins, safe, safeF, h1, h2]
theorem safe_int (ns : List Int) : safe okNone (.lst (ns.map .int)) = true := by
  have h : ∀ ns : List Int, safeL okNone (ns.map D.int) = true := fun ns => by
    induction ns with
    | nil => rfl
    | cons n ns ih => simp [safeL, safe, ih]
  have h2 : hdOk okNone (ns.map D.int) = true := by cases ns <;> rfl
  simp [safe, h, h2]
theorem safe_pen {cs : List Int} {k : Nat} {p : D} (h : Pn cs k p) : safe okNone p = true := by
  obtain ⟨n, l, rfl, _⟩ := h
  have h1 := safe_int cs
  simp [safe] at h1
  simp [pen, safe, safeK, h1.1, h1.2]
def allV (o : Sl) : Bool := match o with
  | some (_, d) => safe okNone d
  | none => true
theorem s2_ok {cs : List Int} {k : Nat} {p : D} (h : Pn cs k p) (hk : k < 1000000) (t : Tr) (hz : t.size < 13) (hs : t.vals.Pairwise (· < ·)) (x0 x2 x3 x5 x6 x7 x8 x9 x10 x11 x12 x13 : Sl)
    (a0 : allV x0 = true) (a2 : allV x2 = true) (a3 : allV x3 = true) (a5 : allV x5 = true) (a6 : allV x6 = true) (a7 : allV x7 = true) (a8 : allV x8 = true) (a9 : allV x9 = true) (a10 : allV x10 = true) (a11 : allV x11 = true) (a12 : allV x12 = true) (a13 : allV x13 = true) :
    ∃ (gs gs' : List (Pa × Int)) (p' : D), gs.Perm (t.pre []) ∧ gs'.Perm (t.pre []) ∧ Pn cs (k + 13) p' ∧ tS2 [x0, some (.own, p), x2, x3, some (.val, t.told), x5, x6, x7, x8, x9, x10, x11, x12, x13] = .nx [x0, some (.own, p'), x2, x3, some (.val, t.told), some (.val, .dK (spt gs')), none, some (.val, t.ins gs), x8, x9, x10, x11, x12, x13] := by
  have hh := ht_le t
  obtain ⟨gs', hp', e1⟩ := lspots t (by omega) (by omega)
  obtain ⟨d, p', e2, hd, q⟩ := lists_ok 14 t k p h (by omega) (by omega)
  obtain ⟨gs, hp, e3⟩ := init_H hd (by omega) hs
  refine ⟨gs, gs', p', hp, hp', q.mono (by omega), ?_⟩
  have st := safe_told t
  have si := safe_ins t gs
  have sp := safe_spt gs'
  have p1 := safe_pen h
  have p2 := safe_pen q
  have f1 : dPar [5, 6] (xV (dCall true none 1 [] fn_law_spots (dCons (dVar 4) dNil)) (xV (dCall true (some 0) 2 [] (fn_law_lists 14) (dCons (dVar 1) (dCons (dVar 4) dNil))) xNil)) [x0, some (.own, p), x2, x3, some (.val, t.told), x5, x6, x7, x8, x9, x10, x11, x12, x13] = .nx [x0, some (.own, p'), x2, x3, some (.val, t.told), some (.val, .dK (spt gs')), some (.val, d), x7, x8, x9, x10, x11, x12, x13] := by
    simp [e1, e2]
  have f2 : dSet 7 (dMake "Tree" true 1 [] fn_Tree_init (dCons (dVar 6) dNil)) [x0, some (.own, p'), x2, x3, some (.val, t.told), some (.val, .dK (spt gs')), some (.val, d), x7, x8, x9, x10, x11, x12, x13] = .nx [x0, some (.own, p'), x2, x3, some (.val, t.told), some (.val, .dK (spt gs')), some (.val, d), some (.val, t.ins gs), x8, x9, x10, x11, x12, x13] := by
    simp [e3]
  have hsq := seq_go f1 f2
  have g1 : safeE okNone [x0, some (.own, p), x2, x3, some (.val, t.told), x5, x6, x7, x8, x9, x10, x11, x12, x13] = true := by
    show (allV x0 && (safe okNone p && (allV x2 && (allV x3 && (safe okNone t.told && (allV x5 && (allV x6 && (allV x7 && (allV x8 && (allV x9 && (allV x10 && (allV x11 && (allV x12 && (allV x13 && true)))))))))))))) = true
    rw [a0, p1, a2, a3, st, a5, a6, a7, a8, a9, a10, a11, a12, a13]
    rfl
  have g2 : safeE okNone [x0, some (.own, p'), x2, x3, some (.val, t.told), some (.val, .dK (spt gs')), none, some (.val, t.ins gs), x8, x9, x10, x11, x12, x13] = true := by
    show (allV x0 && (safe okNone p' && (allV x2 && (allV x3 && (safe okNone t.told && (safeK okNone (spt gs') && (true && (safe okNone (t.ins gs) && (allV x8 && (allV x9 && (allV x10 && (allV x11 && (allV x12 && (allV x13 && true)))))))))))))) = true
    rw [a0, p2, a2, a3, st, sp, si, a8, a9, a10, a11, a12, a13]
    rfl
  have key : ∃ b, (dB (d1 (isG gLst ((["Tree"] : List Str).map fun c => (c, false))) (dVar 6))) [x0, some (.own, p'), x2, x3, some (.val, t.told), some (.val, .dK (spt gs')), some (.val, d), some (.val, t.ins gs), x8, x9, x10, x11, x12, x13] = .ok b [x0, some (.own, p'), x2, x3, some (.val, t.told), some (.val, .dK (spt gs')), some (.val, d), some (.val, t.ins gs), x8, x9, x10, x11, x12, x13] ∧ sc3 okNone b (some (some (.val, d))) = true := by
    cases t with
    | e =>
      have : d = .non := hd
      subst this
      exact ⟨false, by simp [gLst], rfl⟩
    | n l v r =>
      obtain ⟨a, b, e, h1, h2⟩ := hd
      have hh3 : hd3 okNone a = true := by
        cases l with
        | e =>
          have : a = .non := h1
          subst this
          decide +kernel
        | n _ _ _ =>
          obtain ⟨_, _, e, _⟩ := h1
          rcases e with rfl | rfl <;> rfl
      rcases e with rfl | rfl
      · exact ⟨true, by simp [gLst], hh3⟩
      · exact ⟨false, by simp [gLst], rfl⟩
  obtain ⟨b, k1, k2⟩ := key
  unfold tS2 dScoped3
  rw [if_pos g1, hsq]
  simp only [k1]
  rw [if_pos ⟨k2, g2⟩]
  rfl
end Pu
namespace Pu
open PySem PySem.Spec PyProof.Rows L2 My
section
variable {t : Tr} {gs gs' : List (Pa × Int)}
theorem read_st (hp : gs.Perm (t.pre [])) (hp' : gs'.Perm (t.pre [])) (h1 : t.size < 13) (f : SM) (hf : f = dIf (dNot (dB (dCall true none 3 [] fn_law_is_read (dCons (dVar 7) (dCons (dVar 5) (dCons (dVar 4) dNil)))))) (dRet (dC (.bl false))) dNx) (x0 x1 x2 x3 x6 x8 x9 x10 x11 x12 x13 : Sl) :
    f [x0, x1, x2, x3, some (.val, t.told), some (.val, .dK (spt gs')), x6, some (.val, t.ins gs), x8, x9, x10, x11, x12, x13] = .nx [x0, x1, x2, x3, some (.val, t.told), some (.val, .dK (spt gs')), x6, some (.val, t.ins gs), x8, x9, x10, x11, x12, x13] := by
  have e := is_read_ok hp hp' h1
  subst hf
  simp [e]
theorem num_loop2 (hp : gs.Perm (t.pre [])) (hp' : gs'.Perm (t.pre [])) (h2 : t.ht < 900) (x0 x1 x2 x3 x4 x6 x9 x10 x11 x12 x13 : Sl) : ∀ (ms : List Int) (x8 : Sl), allV x8 = true →
    ∃ y8, allV y8 = true ∧ dForL (gN 8) l0_law (ms.map .int) [x0, x1, x2, x3, x4, some (.val, .dK (spt gs')), x6, some (.val, t.ins gs), x8, x9, x10, x11, x12, x13] = .nx [x0, x1, x2, x3, x4, some (.val, .dK (spt gs')), x6, some (.val, t.ins gs), y8, x9, x10, x11, x12, x13]
  | [], x8, h => ⟨x8, h, rfl⟩
  | v :: ms, x8, _ => by
    obtain ⟨y8, h, e⟩ := num_loop2 hp hp' h2 x0 x1 x2 x3 x4 x6 x9 x10 x11 x12 x13 ms (some (.val, .int v)) rfl
    refine ⟨y8, h, ?_⟩
    rw [List.map_cons, forL_nx (ρ1 := [x0, x1, x2, x3, x4, some (.val, .dK (spt gs')), x6, some (.val, t.ins gs), some (.val, .int v), x9, x10, x11, x12, x13]) rfl (num_tn hp hp' h2 v x0 x1 x2 x3 x4 x6 x9 x10 x11 x12 x13)]
    exact e
theorem odd_loop2 (hp : gs.Perm (t.pre [])) (x0 x1 x2 x3 x4 x5 x6 x8 x9 x10 x11 x13 : Sl) : ∀ (ds : List D) (x12 : Sl), allV x12 = true → (∀ d ∈ ds, OddD t d ∧ safe okNone d = true) →
    ∃ y12, allV y12 = true ∧ dForL (gN 12) l1_law ds [x0, x1, x2, x3, x4, x5, x6, some (.val, t.ins gs), x8, x9, x10, x11, x12, x13] = .nx [x0, x1, x2, x3, x4, x5, x6, some (.val, t.ins gs), x8, x9, x10, x11, y12, x13]
  | [], x12, h, _ => ⟨x12, h, rfl⟩
  | d :: ds, x12, _, h => by
    obtain ⟨y12, h2, e⟩ := odd_loop2 hp x0 x1 x2 x3 x4 x5 x6 x8 x9 x10 x11 x13 ds (some (.val, d)) (h d List.mem_cons_self).2 fun a ha => h a (List.mem_cons_of_mem _ ha)
    refine ⟨y12, h2, ?_⟩
    rw [forL_nx (ρ1 := [x0, x1, x2, x3, x4, x5, x6, some (.val, t.ins gs), x8, x9, x10, x11, some (.val, d), x13]) rfl (odd_turn hp (h d List.mem_cons_self).1 x0 x1 x2 x3 x4 x5 x6 x8 x9 x10 x11 x13)]
    exact e
theorem s4_ok {cs : List Int} {k : Nat} {p : D} (h : Pn cs k p) (hk : k < 1000000) (ns : List Int) (hn : ns.length < 13) (hp : gs.Perm (t.pre [])) (hp' : gs'.Perm (t.pre [])) (h2 : t.ht < 900) (x0 x2 x4 x6 x8 x9 x10 x11 x12 x13 : Sl) (h8 : allV x8 = true) :
    ∃ p' y8, allV y8 = true ∧ Pn cs (k + 1) p' ∧ tS4 [x0, some (.own, p), x2, some (.val, .lst (ns.map .int)), x4, some (.val, .dK (spt gs')), x6, some (.val, t.ins gs), x8, x9, x10, x11, x12, x13] = .nx [x0, some (.own, p'), x2, some (.val, .lst (ns.map .int)), x4, some (.val, .dK (spt gs')), x6, some (.val, t.ins gs), y8, x9, x10, x11, x12, x13] := by
  obtain ⟨ms, p', e, q⟩ := by_ok h (by omega) ns (by omega)
  obtain ⟨y8, hy, e2⟩ := num_loop2 hp hp' h2 x0 (some (.own, p')) x2 (some (.val, .lst (ns.map .int))) x4 x6 x9 x10 x11 x12 x13 ms x8 h8
  refine ⟨p', y8, hy, q, ?_⟩
  unfold tS4
  refine for_go (ρ1 := [x0, some (.own, p'), x2, some (.val, .lst (ns.map .int)), x4, some (.val, .dK (spt gs')), x6, some (.val, t.ins gs), x8, x9, x10, x11, x12, x13]) (ds := ms.map .int) ?_ e2
  simp [e]
def nrP (gs : List (Pa × Int)) : List Pa := gs.map (fun x => x.1 ++ [false]) ++ gs.map (fun x => x.1 ++ [true])
def strP (q : Pa) : D := .str (pl q)
theorem nin_spots (hp : gs.Perm (t.pre [])) (q : Pa) : ninD (.str (pl q)) (.dK (spt gs)) = some (.bl (t.sub q).isE) := by
  have h := in_spots t gs hp q
  have h1 := spt_has gs q
  have h2 : decide (q ∈ gs.map (·.1)) = !(t.sub q).isE := by
    have := sub_in t gs hp q
    cases he : (t.sub q) with
    | e =>
      rw [he] at this
      have : ¬ q ∈ gs.map (·.1) := fun z => (this.mp z) rfl
      rw [decide_eq_false this]
      rfl
    | n l v r =>
      rw [he] at this
      have : q ∈ gs.map (·.1) := this.mpr (fun z => by cases z)
      rw [decide_eq_true this]
      rfl
  rw [h2] at h1
  cases he : (t.sub q).isE <;> rw [he] at h1 <;> simp [ninD, inB, h1]
theorem nr_len (hp : gs.Perm (t.pre [])) : (nrP gs).length = 2 * t.size := by
  have := hp.length_eq
  rw [pre_len] at this
  simp [nrP, this]
  omega
theorem s5_ok (hp' : gs'.Perm (t.pre [])) (h1 : t.size < 13) (x0 x1 x2 x3 x4 x6 x7 x8 x9 x10 x11 x12 x13 : Sl) :
    tS5 [x0, x1, x2, x3, x4, some (.val, .dK (spt gs')), x6, x7, x8, x9, x10, x11, x12, x13] = .nx [x0, x1, x2, x3, x4, some (.val, .dK (spt gs')), x6, x7, x8, some (.val, .lst ((nrP gs').map strP)), none, x11, x12, x13] := by
  have hh := ht_le t
  have hl : gs'.length = t.size := by rw [hp'.length_eq, pre_len]
  have cl : ∀ y10 : Sl, dLc (dItA (dVar 5)) (gN 10) dYes (d2 addD (dVar 10) (dC (.str "l"))) [10] [x0, x1, x2, x3, x4, some (.val, .dK (spt gs')), x6, x7, x8, x9, y10, x11, x12, x13] = .ok (.lst (gs'.map fun x => strP (x.1 ++ [false]))) [x0, x1, x2, x3, x4, some (.val, .dK (spt gs')), x6, x7, x8, x9, none, x11, x12, x13] := by
    intro y10
    have := dLc_all (i := 10) (fi := dItA (dVar 5)) (fe := d2 addD (dVar 10) (dC (.str "l"))) (ρ := [x0, x1, x2, x3, x4, some (.val, .dK (spt gs')), x6, x7, x8, x9, y10, x11, x12, x13]) (fun x : Pa × Int => .str (pl x.1)) (fun x => strP (x.1 ++ [false])) (ρ1 := [x0, x1, x2, x3, x4, some (.val, .dK (spt gs')), x6, x7, x8, x9, y10, x11, x12, x13]) gs' (by simp [keys_spt]; rfl) (fun x hx => by
      have := pre_short (hp'.mem_iff.mp hx)
      have b4 : (pl x.1).length + 1 ≤ 16777216 := by rw [pl_len]; omega
      simp [szl', l_len, b4, pl_l, strP]) (by rw [hl, szl']; omega) (by simp)
    rw [this]
    simp
  have cr : ∀ y10 : Sl, dLc (dItA (dVar 5)) (gN 10) dYes (d2 addD (dVar 10) (dC (.str "r"))) [10] [x0, x1, x2, x3, x4, some (.val, .dK (spt gs')), x6, x7, x8, x9, y10, x11, x12, x13] = .ok (.lst (gs'.map fun x => strP (x.1 ++ [true]))) [x0, x1, x2, x3, x4, some (.val, .dK (spt gs')), x6, x7, x8, x9, none, x11, x12, x13] := by
    intro y10
    have := dLc_all (i := 10) (fi := dItA (dVar 5)) (fe := d2 addD (dVar 10) (dC (.str "r"))) (ρ := [x0, x1, x2, x3, x4, some (.val, .dK (spt gs')), x6, x7, x8, x9, y10, x11, x12, x13]) (fun x : Pa × Int => .str (pl x.1)) (fun x => strP (x.1 ++ [true])) (ρ1 := [x0, x1, x2, x3, x4, some (.val, .dK (spt gs')), x6, x7, x8, x9, y10, x11, x12, x13]) gs' (by simp [keys_spt]; rfl) (fun x hx => by
      have := pre_short (hp'.mem_iff.mp hx)
      have b4 : (pl x.1).length + 1 ≤ 16777216 := by rw [pl_len]; omega
      simp [szl', r_len, b4, pl_r, strP]) (by rw [hl, szl']; omega) (by simp)
    rw [this]
    simp
  have hm : (nrP gs').map strP = (gs'.map fun x => strP (x.1 ++ [false])) ++ (gs'.map fun x => strP (x.1 ++ [true])) := by simp [nrP, Function.comp_def]
  have b : (gs'.map fun x => strP (x.1 ++ [false])).length + (gs'.map fun x => strP (x.1 ++ [true])).length ≤ 16777216 := by simp; omega
  rw [hm]
  generalize (gs'.map fun x => strP (x.1 ++ [false])) = L1 at *
  generalize (gs'.map fun x => strP (x.1 ++ [true])) = L2 at *
  simp [tS5, cl, cr, szl', b, -dLc_e]
def lkL (t : Tr) (gs : List (Pa × Int)) : List D := (((nrP gs).filter fun q => (t.sub q).isE).map strP) ++ [.str (Str.ofString "lx"), .str (Str.ofString "L"), .str (Str.ofString " ")]
theorem s6_ok (hp' : gs'.Perm (t.pre [])) (h1 : t.size < 13) (x0 x1 x2 x3 x4 x6 x7 x8 x10 x11 x12 x13 : Sl) :
    tS6 [x0, x1, x2, x3, x4, some (.val, .dK (spt gs')), x6, x7, x8, some (.val, .lst ((nrP gs').map strP)), x10, x11, x12, x13] = .nx [x0, x1, x2, x3, x4, some (.val, .dK (spt gs')), x6, x7, x8, some (.val, .lst ((nrP gs').map strP)), none, some (.val, .lst (lkL t gs')), x12, x13] := by
  have hl := nr_len hp'
  have c := dLc_flt strP (fun q => (t.sub q).isE) (i := 10) (fi := dItA (dVar 9)) (ct := dT2 ninD (dVar 10) (dVar 5)) (fe := dVar 10) (ρ := [x0, x1, x2, x3, x4, some (.val, .dK (spt gs')), x6, x7, x8, some (.val, .lst ((nrP gs').map strP)), x10, x11, x12, x13]) (ρ1 := [x0, x1, x2, x3, x4, some (.val, .dK (spt gs')), x6, x7, x8, some (.val, .lst ((nrP gs').map strP)), x10, x11, x12, x13]) (nrP gs') (by simp) (fun q hq => by
    have := nin_spots hp' q
    simp [strP, this]) (fun q hq hb => by simp [strP]) (by rw [hl, szl']; omega) (by simp)
  have hfl : ((nrP gs').filter fun q => (t.sub q).isE).length ≤ (nrP gs').length := List.length_filter_le _ _
  have b : (((nrP gs').filter fun q => (t.sub q).isE).map strP).length + 3 ≤ 16777216 := by rw [List.length_map]; omega
  unfold lkL
  generalize (((nrP gs').filter fun q => (t.sub q).isE).map strP) = L1 at *
  generalize (nrP gs').map strP = L2 at *
  simp only [List.set_cons_succ, List.set_cons_zero] at c
  rw [show dT2 ninD (dVar 10) (dVar 5) = dB (d2 ninD (dVar 10) (dVar 5)) from rfl] at c
  simp [tS6, c, szl', b, -dLc_e]
theorem lack_P {q : Pa} (h : (t.sub q).isE = true) : Lack t (strP q) := ⟨pl q, rfl, strOk_pl q, fun x hx e => by
  have e := pl_inj e
  obtain ⟨s, l, r, e2, hs⟩ := mem_sub t [] x hx
  rw [List.nil_append] at e2
  rw [← e2, e] at hs
  rw [hs] at h
  cases h⟩
theorem lack_S (z : String) (c : Nat) (hc : c ∈ (Str.ofString z).cps.toList) (h1 : c ≠ 108) (h2 : c ≠ 114) : Lack t (.str (Str.ofString z)) := ⟨_, rfl, strOk_of z, fun x _ e => by
  rw [← e, pl_toList] at hc
  obtain ⟨b, _, rfl⟩ := List.mem_map.mp hc
  cases b
  · exact h1 rfl
  · exact h2 rfl⟩
theorem lk_all : ∀ d ∈ lkL t gs', Lack t d := fun d hd => by
  rcases List.mem_append.mp hd with hd | hd
  · obtain ⟨q, hq, rfl⟩ := List.mem_map.mp hd
    exact lack_P (List.mem_filter.mp hq).2
  · simp only [List.mem_cons, List.not_mem_nil, or_false] at hd
    rcases hd with rfl | rfl | rfl
    · exact lack_S "lx" 120 (by decide +kernel) (by decide) (by decide)
    · exact lack_S "L" 76 (by decide +kernel) (by decide) (by decide)
    · exact lack_S " " 32 (by decide +kernel) (by decide) (by decide)
theorem lk_len (hp' : gs'.Perm (t.pre [])) (h1 : t.size < 13) : 0 < (lkL t gs').length ∧ (lkL t gs').length < 100 := by
  have hl := nr_len hp'
  have hfl : ((nrP gs').filter fun q => (t.sub q).isE).length ≤ (nrP gs').length := List.length_filter_le _ _
  simp only [lkL, List.length_append, List.length_map, List.length_cons, List.length_nil]
  omega
theorem pl_none (q : Pa) : pl q ≠ Str.ofString "None" := fun e => by
  have : 78 ∈ (Str.ofString "None").cps.toList := by decide +kernel
  rw [← e, pl_toList] at this
  obtain ⟨b, _, h⟩ := List.mem_map.mp this
  cases b <;> cases h
theorem lk_hd (gs : List (Pa × Int)) : hdOk okNone (lkL t gs) = true := by
  unfold lkL
  cases (nrP gs).filter fun q => (t.sub q).isE with
  | nil => decide +kernel
  | cons q l =>
    have := pl_none q
    simp [hdOk, strP, okNone, this]
theorem s7_ok (hp' : gs'.Perm (t.pre [])) (h1 : t.size < 13) (x0 x1 x2 x3 x4 x6 x7 x8 x9 x10 x12 x13 : Sl) :
    ∃ Lk : List D, (∀ d ∈ Lk, Lack t d) ∧ hdOk okNone Lk = true ∧ 0 < Lk.length ∧ Lk.length < 200 ∧ tS7 [x0, x1, x2, x3, x4, some (.val, .dK (spt gs')), x6, x7, x8, x9, x10, some (.val, .lst (lkL t gs')), x12, x13] = .nx [x0, x1, x2, x3, x4, some (.val, .dK (spt gs')), x6, x7, x8, x9, x10, some (.val, .lst Lk), x12, x13] := by
  obtain ⟨l1, l2⟩ := lk_len hp' h1
  have la := lk_all (t := t) (gs' := gs')
  have lh := lk_hd (t := t) gs'
  have hq : eqE (.dK (spt gs')) (.dK []) = some (.bl (spt gs').isEmpty) := by
    have : eqD (.dK (spt gs')) (.dK []) = none := by simp [eqD, eqB, scalD, toP]
    unfold eqE
    rw [this]
  have he : (spt gs').isEmpty = gs'.isEmpty := by cases gs' <;> rfl
  rw [he] at hq
  generalize lkL t gs' = L at *
  cases hg : gs'.isEmpty with
  | true =>
    rw [hg] at hq
    have hg0 : gs' = [] := by simpa using hg
    refine ⟨.str (Str.ofString "") :: L, fun d hd => ?_, (show okNone (Str.ofString "") = true by decide +kernel), by simp, by simp; omega, ?_⟩
    · rcases List.mem_cons.mp hd with rfl | hd
      · refine ⟨_, rfl, strOk_of "", fun x hx => ?_⟩
        have := hp'.mem_iff.mpr hx
        rw [hg0] at this
        cases this
      · exact la d hd
    · have b : 1 + L.length ≤ 16777216 := by omega
      generalize spt gs' = G at *
      simp [tS7, hq, szl', b]
  | false =>
    rw [hg] at hq
    refine ⟨L, la, lh, l1, by omega, ?_⟩
    generalize spt gs' = G at *
    simp [tS7, hq, szl']
theorem Lack.safe {d : D} (h : Lack t d) : safe okNone d = true := by
  obtain ⟨s, rfl, _⟩ := h
  rfl
theorem six_safe : ∀ d ∈ sixO, safe okNone d = true := by decide +kernel
theorem s8_ok {cs : List Int} {k : Nat} {p : D} (h : Pn cs k p) (hk : k < 1000000) (hp : gs.Perm (t.pre [])) {Lk : List D} (hL : ∀ d ∈ Lk, Lack t d) (h0 : 0 < Lk.length) (h9 : Lk.length < 200) (x0 x2 x3 x4 x5 x6 x8 x9 x10 x12 x13 : Sl) (h12 : allV x12 = true) :
    ∃ p' y12, allV y12 = true ∧ Pn cs (k + 1) p' ∧ tS8 [x0, some (.own, p), x2, x3, x4, x5, x6, some (.val, t.ins gs), x8, x9, x10, some (.val, .lst Lk), x12, x13] = .nx [x0, some (.own, p'), x2, x3, x4, x5, x6, some (.val, t.ins gs), x8, x9, x10, some (.val, .lst Lk), y12, x13] := by
  obtain ⟨d, p', hd, e, q⟩ := pick_P h (by omega) Lk (by omega)
  obtain ⟨y12, hy, e2⟩ := odd_loop2 hp x0 (some (.own, p')) x2 x3 x4 x5 x6 x8 x9 x10 (some (.val, .lst Lk)) x13 (Lk.take 4 ++ (sixO ++ [d])) x12 h12 (fun a ha => by
    rcases List.mem_append.mp ha with ha | ha
    · have := hL a (List.mem_of_mem_take ha)
      exact ⟨this.odd, this.safe⟩
    · rcases List.mem_append.mp ha with ha | ha
      · exact ⟨six_odd t a ha, six_safe a ha⟩
      · rw [List.mem_singleton.mp ha]
        exact ⟨(hL d hd).odd, (hL d hd).safe⟩)
  refine ⟨p', y12, hy, q, ?_⟩
  unfold tS8
  refine for_go (ρ1 := [x0, some (.own, p'), x2, x3, x4, x5, x6, some (.val, t.ins gs), x8, x9, x10, some (.val, .lst Lk), x12, x13]) (ds := Lk.take 4 ++ (sixO ++ [d])) ?_ e2
  have c : cutL Lk none (some 4) = Lk.take 4 := cut_to _ _ (by omega)
  have hl : (Lk.take 4).length ≤ 4 := by rw [List.length_take]; omega
  have b : (Lk.take 4).length + 7 ≤ 16777216 := by omega
  have b2 : min 4 Lk.length + 7 ≤ 16777216 := by omega
  simp [sliceD, c, e, szl', b, b2, mergeD, putD, sixO]
theorem s9_ok (hp : gs.Perm (t.pre [])) (h1 : t.size < 13) (x0 x1 x2 x3 x4 x5 x6 x8 x9 x10 x11 x12 x13 : Sl) :
    tS9 [x0, x1, x2, x3, x4, x5, x6, some (.val, t.ins gs), x8, x9, x10, x11, x12, x13] = .nx [x0, x1, x2, x3, x4, x5, x6, some (.val, t.ins gs), x8, x9, x10, x11, x12, x13] := by
  have hh := ht_le t
  have e := places_ok hp (by omega)
  have m := self_m "places" t gs (by simp)
  have hl : (plS (t.ino [])).length < 16777216 := by simp [plS, (ino_perm t []).length_eq, pre_len]; omega
  simp [tS9, dAppT, dMethF, e, m, apK, szl', hl, -selfR_u]
theorem s11_eq {t2 : Tr} (h1 : t.size < 13) (h2 : t2.size < 13) (hs : t.vals.Pairwise (· < ·)) (hs2 : t2.vals.Pairwise (· < ·)) (hp : gs.Perm (t.pre [])) (x0 x1 x2 x3 x5 x6 x8 x9 x10 x11 x12 : Sl) :
    tS11 [x0, x1, x2, x3, some (.val, t.told), x5, x6, some (.val, t.ins gs), x8, x9, x10, x11, x12, some (.val, t2.told)] = .nx [x0, x1, x2, x3, some (.val, t.told), x5, x6, some (.val, t.ins gs), x8, x9, x10, x11, x12, some (.val, t2.told)] := by
  have hh := ht_le t
  have hh2 := ht_le t2
  obtain ⟨g2, q2, i2⟩ := init_ok t2 (by omega) (by omega) hs2
  obtain ⟨g1, q1, i1⟩ := init_ok t (by omega) (by omega) hs
  have e1 := tree_eq (a := t) (b := t2) (gs := gs) (gs' := g2) (by omega) (by omega)
  have e2 := tree_eq (a := t) (b := t) (gs := gs) (gs' := g1) (by omega) (by omega)
  rw [decide_eq_true rfl] at e2
  have e3 := tree_eq_told (a := t) (b := t) (gs := gs)
  have o1 := own_ins t t2 gs g2
  have o2 := own_ins t t gs g1
  have o3 := own_told t t gs
  have q := eq_told t2 t (by omega) (by omega)
  have hd : decide (t2 = t) = decide (t = t2) := decide_eq_decide.mpr ⟨Eq.symm, Eq.symm⟩
  rw [hd] at q
  generalize decide (t = t2) = b at *
  have n : neD (.bl b) (.bl b) = some (.bl false) := neD_same (sh_bl b) (by omega)
  have ib : isBD true (.bl false) (.bl false) = some (.bl false) := by rfl
  generalize t.ins gs = A at *
  generalize t2.ins g2 = B at *
  generalize t.ins g1 = C at *
  generalize t.told = T at *
  generalize t2.told = T2 at *
  simp [tS11, dOwn, i1, i2, e1, e2, e3, o1, o2, o3, q, n, ib, xorR, szl']
end
end Pu
namespace Pu
open PySem PySem.Spec PyProof.Rows L2 My
def Ok (cs : List Int) (k : Nat) (ρ : En) : Prop := ∃ (p : D) (x2 x3 x4 x5 x6 x7 x8 x9 x10 x11 x12 x13 : Sl), ρ = [some (.val, .scr cs), some (.own, p), x2, x3, x4, x5, x6, x7, x8, x9, x10, x11, x12, x13] ∧ Pn cs k p ∧
  allV x2 = true ∧ allV x3 = true ∧ allV x4 = true ∧ allV x5 = true ∧ allV x6 = true ∧ allV x7 = true ∧ allV x8 = true ∧ allV x9 = true ∧ allV x10 = true ∧ allV x11 = true ∧ allV x12 = true ∧ allV x13 = true
theorem safe_strs {α : Type} (f : α → Str) (l : List α) (h : ∀ a ∈ l, f a ≠ Str.ofString "None") : safe okNone (.lst (l.map fun a => .str (f a))) = true := by
  have h1 : ∀ l : List α, safeL okNone (l.map fun a => D.str (f a)) = true := fun l => by
    induction l with
    | nil => rfl
    | cons a l ih => simp [safeL, safe, ih]
  have h2 : hdOk okNone (l.map fun a => D.str (f a)) = true := by
    cases l with
    | nil => rfl
    | cons a l =>
      have := h a List.mem_cons_self
      simp [hdOk, okNone, this]
  simp [safe, h1, h2]
theorem lack_list {t : Tr} {Lk : List D} (h : ∀ d ∈ Lk, Lack t d) (hd : hdOk okNone Lk = true) : safe okNone (.lst Lk) = true := by
  have h1 : ∀ l : List D, (∀ d ∈ l, Lack t d) → safeL okNone l = true := fun l => by
    induction l with
    | nil => intro _; rfl
    | cons a l ih =>
      intro hl
      have h1 := (hl a List.mem_cons_self).safe
      have h2 := ih fun d hd => hl d (List.mem_cons_of_mem _ hd)
      simp [safeL, h1, h2]
  simp [safe, h1 Lk h, hd]
theorem turn_ok {cs : List Int} {k : Nat} (hk : k < 100000) {ρ : En} (h : Ok cs k ρ) (n : Nat) : ∃ ρ2, l2_law (ρ.set 2 (some (.val, .int n))) = .nx ρ2 ∧ Ok cs (k + 200) ρ2 := by
  obtain ⟨p, x2, x3, x4, x5, x6, x7, x8, x9, x10, x11, x12, x13, rfl, q0, a2, a3, a4, a5, a6, a7, a8, a9, a10, a11, a12, a13⟩ := h
  simp only [List.set_cons_succ, List.set_cons_zero]
  obtain ⟨ns, p1, n1, n2, q1, e0⟩ := s0_ok q0 (by omega) n (some (.val, .scr cs)) x3 x4 x5 x6 x7 x8 x9 x10 x11 x12 x13
  obtain ⟨t, p2, w1, q2, e1⟩ := s1_ok q1 (by omega) ns n1 (some (.val, .scr cs)) (some (.val, .int n)) x4 x5 x6 x7 x8 x9 x10 x11 x12 x13
  have hz : t.size < 13 := by rw [← vals_len t, w1]; exact n1
  have hs : t.vals.Pairwise (· < ·) := by rw [w1]; exact n2
  have hh := ht_le t
  have sn : allV (some (.val, .lst (ns.map .int))) = true := safe_int ns
  obtain ⟨gs, gs', p3, hp, hp', q3, e2⟩ := s2_ok q2 (by omega) t hz hs (some (.val, .scr cs)) (some (.val, .int n)) (some (.val, .lst (ns.map .int))) x5 x6 x7 x8 x9 x10 x11 x12 x13 rfl rfl sn a5 a6 a7 a8 a9 a10 a11 a12 a13
  have e3 := read_st hp hp' hz tS3 rfl (some (.val, .scr cs)) (some (.own, p3)) (some (.val, .int n)) (some (.val, .lst (ns.map .int))) none x8 x9 x10 x11 x12 x13
  obtain ⟨p4, y8, b8, q4, e4⟩ := s4_ok q3 (by omega) ns n1 hp hp' (by omega) (some (.val, .scr cs)) (some (.val, .int n)) (some (.val, t.told)) none x8 x9 x10 x11 x12 x13 a8
  have e5 := s5_ok hp' hz (some (.val, .scr cs)) (some (.own, p4)) (some (.val, .int n)) (some (.val, .lst (ns.map .int))) (some (.val, t.told)) none (some (.val, t.ins gs)) y8 x9 x10 x11 x12 x13
  have e6 := s6_ok hp' hz (some (.val, .scr cs)) (some (.own, p4)) (some (.val, .int n)) (some (.val, .lst (ns.map .int))) (some (.val, t.told)) none (some (.val, t.ins gs)) y8 none x11 x12 x13
  obtain ⟨Lk, l1, hLk, l2, l3, e7⟩ := s7_ok hp' hz (some (.val, .scr cs)) (some (.own, p4)) (some (.val, .int n)) (some (.val, .lst (ns.map .int))) (some (.val, t.told)) none (some (.val, t.ins gs)) y8 (some (.val, .lst ((nrP gs').map strP))) none x12 x13
  obtain ⟨p5, y12, b12, q5, e8⟩ := s8_ok q4 (by omega) hp l1 l2 l3 (some (.val, .scr cs)) (some (.val, .int n)) (some (.val, .lst (ns.map .int))) (some (.val, t.told)) (some (.val, .dK (spt gs'))) none y8 (some (.val, .lst ((nrP gs').map strP))) none x12 x13 a12
  have e9 := s9_ok hp hz (some (.val, .scr cs)) (some (.own, p5)) (some (.val, .int n)) (some (.val, .lst (ns.map .int))) (some (.val, t.told)) (some (.val, .dK (spt gs'))) none y8 (some (.val, .lst ((nrP gs').map strP))) none (some (.val, .lst Lk)) y12 x13
  obtain ⟨t2, p6, w2, q6, e10⟩ := s11_ok q5 (by omega) ns n1 (some (.val, .scr cs)) (some (.val, .int n)) (some (.val, t.told)) (some (.val, .dK (spt gs'))) none (some (.val, t.ins gs)) y8 (some (.val, .lst ((nrP gs').map strP))) none (some (.val, .lst Lk)) y12 x13
  have hz2 : t2.size < 13 := by rw [← vals_len t2, w2]; exact n1
  have e11 := s11_eq hz hz2 hs (by rw [w2]; exact n2) hp (some (.val, .scr cs)) (some (.own, p6)) (some (.val, .int n)) (some (.val, .lst (ns.map .int))) (some (.val, .dK (spt gs'))) none y8 (some (.val, .lst ((nrP gs').map strP))) none (some (.val, .lst Lk)) y12
  have e12 := read_st hp hp' hz tS12 rfl (some (.val, .scr cs)) (some (.own, p6)) (some (.val, .int n)) (some (.val, .lst (ns.map .int))) none y8 (some (.val, .lst ((nrP gs').map strP))) none (some (.val, .lst Lk)) y12 (some (.val, t2.told))
  refine ⟨_, ?_, p6, some (.val, .int n), some (.val, .lst (ns.map .int)), some (.val, t.told), some (.val, .dK (spt gs')), none, some (.val, t.ins gs), y8, some (.val, .lst ((nrP gs').map strP)), none, some (.val, .lst Lk), y12, some (.val, t2.told), rfl, q6.mono (by omega), rfl, sn, safe_told t, safe_spt gs', rfl, safe_ins t gs, b8, safe_strs pl (nrP gs') (fun q _ => pl_none q), rfl, lack_list l1 hLk, b12, safe_told t2⟩
  rw [l2_law_eq]
  exact seq_go e0 (seq_go e1 (seq_go e2 (seq_go e3 (seq_go e4 (seq_go e5 (seq_go e6 (seq_go e7 (seq_go e8 (seq_go e9 (seq_go e10 (seq_go e11 e12)))))))))))
theorem turns_ok {cs : List Int} : ∀ (ks : List Nat) (k : Nat) (ρ : En), k + 200 * ks.length < 100000 → Ok cs k ρ → ∃ ρ2, dForL (gN 2) l2_law (ks.map fun (i : Nat) => D.int (i : Int)) ρ = .nx ρ2
  | [], k, ρ, _, h => ⟨ρ, rfl⟩
  | i :: ks, k, ρ, hk, h => by
    simp only [List.length_cons] at hk
    obtain ⟨ρ1, e, h1⟩ := turn_ok (by omega) h i
    obtain ⟨ρ2, e2⟩ := turns_ok ks (k + 200) ρ1 (by omega) h1
    refine ⟨ρ2, ?_⟩
    rw [List.map_cons, forL_nx (ρ1 := ρ.set 2 (some (.val, .int i))) rfl e]
    exact e2
theorem runF_rt {n m : Nat} {body : SM} {ds : List D} {d : D} {ρ : En} (hl : ds.length = m) (h : body (initE none n ds) = .rt d ρ) : runF none n m body ds = .ok d .non := by
  unfold runF
  rw [if_pos hl, h]
  rfl
theorem law_true (ns : List Int) (h : ns.length ≤ 63) : ∃ io, fn_law [.scr ns] = .ok (.bl true) io := by
  have hp := pen_ok ns h
  have q0 : Pn ns 0 (pen ns 0 0) := ⟨0, 0, rfl, by omega, by omega, by omega⟩
  obtain ⟨ρ2, e⟩ := turns_ok (cs := ns) [0, 1, 2, 3] 0 [some (.val, .scr ns), some (.own, pen ns 0 0), none, none, none, none, none, none, none, none, none, none, none, none] (by simp) ⟨_, none, none, none, none, none, none, none, none, none, none, none, none, rfl, q0, rfl, rfl, rfl, rfl, rfl, rfl, rfl, rfl, rfl, rfl, rfl, rfl⟩
  refine ⟨.non, runF_rt (ρ := ρ2) rfl ?_⟩
  show b_law [some (.val, .scr ns), none, none, none, none, none, none, none, none, none, none, none, none, none] = _
  unfold b_law
  refine seq_go (ρ1 := [some (.val, .scr ns), some (.own, pen ns 0 0), none, none, none, none, none, none, none, none, none, none, none, none]) (by simp [hp]) ?_
  refine seq_go (for_go (ρ1 := [some (.val, .scr ns), some (.own, pen ns 0 0), none, none, none, none, none, none, none, none, none, none, none, none]) (ds := [.int 0, .int 1, .int 2, .int 3]) (by rfl) e) ?_
  cases ρ2 <;> rfl
end Pu
namespace My
open PySem PySem.Spec PyProof.Rows L2 He
theorem excB_ok {K : PySem.W.Frag} {D : Addr} (h : excB K D = true) : ExcC K D := by
  obtain ⟨h1, h⟩ := ba h
  obtain ⟨h2, h⟩ := ba h
  obtain ⟨h3, h⟩ := ba h
  obtain ⟨h4, h⟩ := ba h
  obtain ⟨h5, h⟩ := ba h
  obtain ⟨h6, h⟩ := ba h
  obtain ⟨h7, h8⟩ := ba h
  exact ⟨of_decide_eq_true h1, of_decide_eq_true h2, of_decide_eq_true h3, h4, of_decide_eq_true h5, of_decide_eq_true h6, of_decide_eq_true h7, of_decide_eq_true h8⟩
end My
namespace Pu
open PySem PySem.Spec PyProof.Rows L2 My
open He
theorem notIn_cons {K : PySem.W.Frag} {mg : Str → Option Value} {c : Str} {cs : List Str} (g : My.fa mg c = ga K c) (hc : Cls K (ga K c)) (h : insB K (ga K c) = true) (hs : NotIn K mg cs) : NotIn K mg (c :: cs) := fun x hx => by
  rcases List.mem_cons.mp hx with rfl | hx
  · rw [g]
    obtain ⟨h1, h⟩ := ba h
    obtain ⟨h2, h⟩ := ba h
    obtain ⟨h3, h⟩ := ba h
    obtain ⟨h4, h5⟩ := ba h
    exact ⟨⟨hc, of_decide_eq_true h1, of_decide_eq_true h2, of_decide_eq_true h3, of_decide_eq_true h4⟩, fun T hT => of_decide_eq_true (List.all_eq_true.mp h5 T hT)⟩
  · exact hs x hx
end Pu
namespace Pu
open PySem PySem.Spec PyProof.Rows L2 My
open He
theorem tag_mem (t : Tag) : t.name ∈ tagL := by cases t <;> simp [tagL, Tag.name]
section
variable {K : PySem.W.Frag} {mg : Str → Option Value} {cs : List Str} {c : Str}
theorem iso_ok (g : ∀ x ∈ c :: cs, My.fa mg x = ga K x) (hI : NotIn K mg cs) (h : isoB K cs c = true) : IsOwn K mg cs c := by
  obtain ⟨h1, h2⟩ := ba h
  refine ⟨fun t => ?_, fun x hx => ⟨(hI x hx).1, ?_⟩⟩
  · rw [g c (List.mem_cons_self ..)]
    exact of_decide_eq_true (List.all_eq_true.mp h1 t.name (tag_mem t))
  · rw [g c (List.mem_cons_self ..), g x (List.mem_cons_of_mem _ hx)]
    exact of_decide_eq_true (List.all_eq_true.mp h2 x hx)
theorem eqm_ok {f : Addr} (g : My.fa mg c = ga K c) (hc : Cls K (My.fa mg c)) (m : Meth K (My.fa mg c) "__eq__" f) (h : eqoB K cs c = true) : EqM K mg c f := by
  obtain ⟨h1, h⟩ := ba h
  obtain ⟨h2, h⟩ := ba h
  exact ⟨hc, by rw [g]; exact of_decide_eq_true h1, m.at_, m.fn, by rw [g]; exact of_decide_eq_true h2⟩
theorem nos_ok (g : ∀ x ∈ c :: cs, My.fa mg x = ga K x) (hI : NotIn K mg cs) (h : eqoB K cs c = true) : NoSub K mg c cs := by
  obtain ⟨h1, h⟩ := ba h
  obtain ⟨h2, h⟩ := ba h
  obtain ⟨h3, h4⟩ := ba h
  refine ⟨fun t => ?_, fun x hx => ⟨(hI x hx).1, ?_⟩⟩
  · rw [g c (List.mem_cons_self ..)]
    exact List.all_eq_true.mp h3 t.name (tag_mem t)
  · rw [g c (List.mem_cons_self ..), g x (List.mem_cons_of_mem _ hx)]
    exact List.all_eq_true.mp h4 x hx
end
end Pu
namespace My
open PySem PySem.Spec PyProof.Rows L2 He
end My
namespace Pu
open PySem PySem.Spec PyProof.Rows L2 My
open He
section
variable {K : PySem.W.Frag} {w : World} {mg : Str → Option Value}
end
end Pu
namespace LamX
open PySem PySem.Spec PyProof.Rows L2
structure FnAt (P : Program) (w : World) (K : PySem.W.Frag) (mg : Str → Option Value) (base : Heap) (CX : CXT) (f : Addr) (fd : FuncData) (ps : List Str) (sp : Sp) : Prop where
  run : ∀ (outer : List Env) (s : Shared) (H : Hp) (args : Args) (us : List Value) (vs : List V) (Q : VK) (E : XK), Env0 P w K mg base callerA outer s H → BindsTo s fd args (ps.zip us) → Vals vs us → sp vs H Q E →
    codeAny (model P w) callerA (.call (.ref f) args) (CR CX outer P w H s Q E) s
theorem law_callA {P : Program} {w : World} {K : PySem.W.Frag} {mg mb : Str → Option Value} {CX : CXT} {fa a : Addr} {cs : List (Addr × Addr)} {fd : FuncData} {x : Str} {sp : Sp} {s₁ : Shared} {vs : List Value} {ns : List Int}
    (KX : K.In s₁.heap) (hns : s₁.heap.Ns mainGlobals mg) (hb : s₁.heap.Ns builtinsNs mb) (hbb : ∀ x : Str, x ≠ "__name__" → mb x = bootBuiltins x) (hlim : s₁.heap.NoLimit) (hg : s₁.gens = #[])
    (hT : ∀ p ∈ cs, s₁.heap.get? p.2 = some { cls := .none, data := .fields #[] }) (nT : ∀ p ∈ cs, K.lookup p.2 = none) (C : ∀ p ∈ cs, PySem.W.CodeHd s₁.heap p.1 p.2)
    (hbm : ∃ (bm : Addr) (ob : Obj), mg "__builtins__" = some (.ref bm) ∧ bm ≠ builtinsNs ∧ s₁.heap.get? bm = some ob ∧ ob.cls = .type "module" ∧ ob.dict = some builtinsNs ∧ ob.data = .plain)
    (ha : s₁.heap.get? a = some { cls := .type "list", data := .seq vs.toArray }) (hi : IntsAre vs ns) (hl : ns.length ≤ sizeLine) 
    (F : ∀ base : Heap, K.In base → base.Ns mainGlobals mg → (∀ p ∈ cs, TabB base mg p.1 p.2) → FnAt P w K mg base CX fa fd [x] sp) (hbind : ∀ (s : Shared) (u : Value), BindsTo s fd ⟨[u], []⟩ [(x, u)])
    (hsp : ∀ H : Hp, (∀ p ∈ cs, H p.2 = some (.tbl #[])) → SqL K H a (ns.map V.int) → sp [.ref a] H (fun v _ => v = .bl true) fun _ _ _ => False)
    (hCX : ∀ H e s', CX [] H s₁ (fun _ _ _ => False) e s' → False) :
    codeAny (model P w) callerA (.call (.ref fa) ⟨[.ref a], []⟩) (fun r s' => r = .ok (.ret (.bool true)) ∧ OldK s₁.heap s'.heap ∧ s'.os = s₁.os ∧ AllBare s'.gens) s₁ := by
  have rv := vals_ints hi
  have lenV := hi.length
  have isT : ∀ b : Addr, b ∈ cs.map (·.2) → s₁.heap.get? b = some { cls := .none, data := .fields #[] } := fun b hb => by
    obtain ⟨p, hp, e⟩ := List.mem_map.mp hb
    rw [← e]
    exact hT p hp
  have aT : a ∉ cs.map (·.2) := fun z => by
    have q := isT a z
    rw [ha] at q
    have z' : Data.seq vs.toArray _ = Data.fields #[] := congrArg Obj.data (Option.some.inj q)
    cases z'
  have memT : ∀ p ∈ cs, p.2 ∈ cs.map (·.2) := fun p hp => List.mem_map.mpr ⟨p, hp, rfl⟩
  -- from an abstract heap in which nothing but the script and the tables may be tracked
  have core : ∀ H : Hp, (∀ p ∈ cs, H p.2 = some (.tbl #[])) → (∀ b, H b = none ∨ b ∈ cs.map (·.2) ∨ ∃ o xs, H b = some (.frz o (.lst xs))) → SqL K H a (ns.map V.int) → HOk P w H s₁.heap → (∀ b, H b ≠ none → b = a ∨ b ∈ cs.map (·.2)) → (H a ≠ none → K.lookup a = none) →
      codeAny (model P w) callerA (.call (.ref fa) ⟨[.ref a], []⟩) (fun r s' => r = .ok (.ret (.bool true)) ∧ OldK s₁.heap s'.heap ∧ s'.os = s₁.os ∧ AllBare s'.gens) s₁ := by
    intro H hH hO hS hok hA hK
    have base_of : ∀ {b : Addr} {o : Obj}, s₁.heap.get? b = some o → H b = none → (hidT s₁.heap H).get? b = some o := fun e n => hidT_get e n
    have noD : ∀ {b : Addr} {o : Obj}, s₁.heap.get? b = some o → (∀ vs n, o.data ≠ .seq vs n) → o.data ≠ .fields #[] → H b = none := fun {b o} e h1 h2 => by
      cases q : H b with
      | none => rfl
      | some u =>
        rcases hA b (by rw [q]; simp) with e' | e'
        · rw [e', ha] at e
          cases e
          exact (h1 _ _ rfl).elim
        · rw [isT b e'] at e
          cases e
          exact (h2 rfl).elim
    have noA : ∀ {b : Addr} {o : Obj} {es : Array DictEntry} {ep : Nat}, s₁.heap.get? b = some o → o.data = .dict es ep → H b = none := fun {b o es ep} e d => by
      refine noD e (fun vs n z => ?_) fun z => ?_
      · rw [d] at z
        cases z
      · rw [d] at z
        cases z
    have nsK : ∀ {b : Addr} {m : Str → Option Value}, s₁.heap.Ns b m → (hidT s₁.heap H).Ns b m := fun {b m} ⟨o, es, ep, e, d, r⟩ => ⟨o, es, ep, base_of e (noA e d), d, r⟩
    have hKb : K.In (hidT s₁.heap H) := fun b o e => base_of (KX b o e) (by
      cases q : H b with
      | none => rfl
      | some u =>
        rcases hA b (by rw [q]; simp) with e' | e'
        · rw [e'] at e q
          rw [hK (by rw [q]; simp)] at e
          cases e
        · obtain ⟨p, hp, ep⟩ := List.mem_map.mp e'
          rw [← ep, nT p hp] at e
          cases e)
    have hM : L2.Mod K mg (hidT s₁.heap H) := ⟨hKb, nsK hns, ⟨mb, nsK hb, hbb⟩, let ⟨mc, h1, h2⟩ := hlim; ⟨mc, nsK h1, h2⟩⟩
    have TB : ∀ p ∈ cs, TabB (hidT s₁.heap H) mg p.1 p.2 := fun p hp => by
      have hTp := hT p hp
      refine ⟨?_, ?_, fun z => ?_⟩
      · obtain ⟨o, us, file, tf, flags, tg, inF, text, tt, e1, r1, r2, r3, r4, r5, r6, r7, r8, hne⟩ := C p hp
        refine ⟨o, us, file, tf, flags, tg, inF, text, tt, base_of e1 (noD e1 (fun vs n z => ?_) fun z => ?_), r1, r2, r3, r4, r5, r6, r7, r8, hne⟩
        · rw [r2] at z
          cases z
        · rw [r2] at z
          cases z
          simp at r3
      · obtain ⟨bm, ob, b1, b2, b3, b4, b5, b6⟩ := hbm
        have nG : bm ≠ mainGlobals := fun q => by
          obtain ⟨o, es, ep, e, hd, _⟩ := hns
          rw [q, e] at b3
          cases b3
          rw [hd] at b6
          cases b6
        have nP : bm ≠ p.2 := fun q => by
          rw [q, hTp] at b3
          cases b3
          cases b6
        refine ⟨bm, ob, b1, b2, nG, nP, base_of b3 (noD b3 (fun vs n z => ?_) fun z => ?_), b4, b5, b6⟩
        · rw [b6] at z
          cases z
        · rw [b6] at z
          cases z
      · obtain ⟨o, es, ep, e, hd, _⟩ := hns
        rw [z, hTp] at e
        cases e
        cases hd
    have e0 : Env0 P w K mg (hidT s₁.heap H) callerA [] s₁ H := ⟨rfl, hM, fun b o e => of_hidT e, Nat.le_of_eq (hidT_size _ _), trivial, fun b hb => absurd (show b ∈ ([] : List Addr) from hb) (by simp), hok, .of_eq hg⟩
    refine codeAny_mono ((F _ hKb (nsK hns) TB).run [] s₁ H ⟨[.ref a], []⟩ [.ref a] [.ref a] _ _ e0 (hbind s₁ (.ref a)) (.cons rfl .nil) (hsp H hH hS)) fun r s' h => ?_
    cases r with
    | error e => exact (hCX H e s' h).elim
    | ok fl =>
      cases fl with
      | next => exact False.elim h
      | brk => exact False.elim h
      | cont => exact False.elim h
      | ret u =>
        obtain ⟨v, H', os, bare, un, hok', r', q⟩ := h
        have q' : v = .bl true := q
        subst q'
        obtain rfl : u = Value.bool true := r'
        have key : ∀ b o, b ∉ cs.map (·.2) → s₁.heap.get? b = some o → s'.heap.get? b = some o := fun b o nb e => by
          cases q : H b with
          | none => exact un.keep b o e q (by intro z; exact absurd (show b ∈ ([] : List Addr) from z) (by simp)) (by simp)
          | some u =>
            rcases hO b with z | z | ⟨ob, xs, z⟩
            · rw [q] at z; cases z
            · exact absurd z nb
            · have z2 := un.frzs b ob _ z
              obtain ⟨e1, _⟩ := hok b _ z
              obtain ⟨e2, _⟩ := hok' b _ z2
              rw [e] at e1; cases e1
              exact e2
        have grown : ∀ p ∈ cs, ∃ more : Array Value, s'.heap.get? p.2 = some { cls := .none, data := .fields more } := fun p hp => by
          obtain ⟨more, z⟩ := un.tbls p.2 #[] (hH p hp)
          exact ⟨_, hok' p.2 _ z⟩
        refine ⟨rfl, ⟨fun b o e => ?_, fun b o e => ?_⟩, os, bare⟩
        · by_cases hb : b ∈ cs.map (·.2)
          · obtain ⟨p, hp, ep⟩ := List.mem_map.mp hb
            obtain ⟨more, hm⟩ := grown p hp
            rw [← ep] at e ⊢
            rw [hT p hp] at e
            cases e
            exact .inr (.inl ⟨((C p hp).tab (hT p hp)).isCodeTable, rfl, #[], more, rfl, by rw [Array.empty_append]; exact hm⟩)
          · exact .inl (key b o hb e)
        · by_cases hb : b ∈ cs.map (·.2)
          · obtain ⟨p, hp, ep⟩ := List.mem_map.mp hb
            obtain ⟨more, hm⟩ := grown p hp
            rw [← ep]
            exact ⟨_, hm⟩
          · exact ⟨o, key b o hb e⟩
  cases hk : K.lookup a with
  | some o =>
    have e := KX a o hk
    rw [ha] at e
    cases e
    refine core (fun b => if b ∈ cs.map (·.2) then some (.tbl #[]) else none) (fun p hp => if_pos (memT p hp)) (fun b => ?_) (.inr ⟨_, vs.toArray, _, hk, rfl, rfl, rfl, by rw [List.size_toArray, lenV]; exact hl, by simpa using rv⟩) (fun b u z => ?_) (fun b z => ?_) fun z => absurd (show (if a ∈ cs.map (·.2) then some (HO.tbl #[]) else none) = none from if_neg aT) z
    · by_cases hb : b ∈ cs.map (·.2)
      · exact .inr (.inl hb)
      · exact .inl (if_neg hb)
    · by_cases hb : b ∈ cs.map (·.2)
      · have z' := (if_pos hb).symm.trans z
        cases z'
        exact isT b hb
      · have z' := (if_neg hb).symm.trans z
        cases z'
    · by_cases hb : b ∈ cs.map (·.2)
      · exact .inr hb
      · exact absurd (if_neg hb) z
  | none =>
    refine core (fun b => if b = a then some (.frz { cls := .type "list", data := .seq vs.toArray } (.lst (ns.map V.int))) else if b ∈ cs.map (·.2) then some (.tbl #[]) else none) (fun p hp => (if_neg (show ¬ p.2 = a from fun z => aT (by rw [← z]; exact memT p hp))).trans (if_pos (memT p hp))) (fun b => ?_)
      (.inl (.inr ⟨{ cls := .type "list", data := .seq vs.toArray }, if_pos rfl⟩)) (fun b u z => ?_) (fun b z => ?_) fun _ => hk
    · by_cases hb : b = a
      · exact .inr (.inr ⟨_, _, if_pos hb⟩)
      · by_cases hb2 : b ∈ cs.map (·.2)
        · exact .inr (.inl hb2)
        · exact .inl ((if_neg hb).trans (if_neg hb2))
    · by_cases hb : b = a
      · have z' := (if_pos hb).symm.trans z
        cases z'
        rw [hb]
        exact ⟨ha, by rw [List.length_map]; exact hl, vs, _, rv, ha⟩
      · have z1 := (if_neg hb).symm.trans z
        by_cases hb2 : b ∈ cs.map (·.2)
        · have z' := (if_pos hb2).symm.trans z1
          cases z'
          exact isT b hb2
        · have z' := (if_neg hb2).symm.trans z1
          cases z'
    · by_cases hb : b = a
      · exact .inl hb
      · by_cases hb2 : b ∈ cs.map (·.2)
        · exact .inr hb2
        · exact absurd ((if_neg hb).trans (if_neg hb2)) z
def LawAtA (l : PySem.W.OpenLaw) (w : World) (K : PySem.W.Frag) (CX : CXT) (n : Nat) (x : Str) (mg : Str → Option Value) (fa : Addr) (h : Heap) : Prop :=
  ∃ (fd : FuncData) (cs : List (Addr × Addr)) (sp : Sp), (∀ p ∈ cs, h.get? p.2 = some { cls := .none, data := .fields #[] }) ∧ (∀ p ∈ cs, K.lookup p.2 = none) ∧ (∀ p ∈ cs, PySem.W.CodeHd h p.1 p.2) ∧ (∀ (s : Shared) (u : Value), BindsTo s fd ⟨[u], []⟩ [(x, u)]) ∧
    (∀ (H : Hp) (a : Addr) (ns : List Int), ns.length ≤ n → (∀ z ∈ ns, Builtin.Int.intBits z ≤ 1048576) → (∀ p ∈ cs, H p.2 = some (.tbl #[])) → SqL K H a (ns.map V.int) → sp [.ref a] H (fun v _ => v = .bl true) fun _ _ _ => False) ∧
    ∀ base : Heap, K.In base → base.Ns mainGlobals mg → (∀ p ∈ cs, TabB base mg p.1 p.2) → FnAt l.prog w K mg base CX fa fd [x] sp
theorem walk_ofA {l : PySem.W.OpenLaw} {n : Nat} {q : Program} {loose : List Str} {XP : (Str → Option Value) → Heap → Prop} {YP : World → Heap → Prop} {d : DefRec} {CX : World → CXT} {x : Str}
    (hn : l.most = some n) (hn2 : n ≤ sizeLine) (hdf : d.params.defaults = [])
    (F : ∀ (w : World) (mg : Str → Option Value) (fa : Addr) (h : Heap), YP w h → h.Ns mainGlobals mg → mg d.name = some (.ref fa) → ∃ K : PySem.W.Frag, K.In h ∧ LawAtA l w K (CX w) n x mg fa h)
    (hCX : ∀ (w : World) (H : Hp) (s : Shared) (e : Value) (s' : Shared), CX w [] H s (fun _ _ _ => False) e s' → False) :
    PySem.W.WalkO q loose XP YP l.row.toRowW d [] (fun f vs => PySem.call f vs) := by
  refine Att.attach_callB hn hdf fun w s₀ s₁ mg mb fa o pm cd doc a vs ns G Y ho hd hcd hmg hobj hints hlen hbits hg => ?_
  obtain ⟨K, KX, fd, cs, sp, hT, nT, C, hb, hsp, hF⟩ := F w mg fa _ Y G.T.g hmg
  exact law_callA KX G.T.g G.T.b G.T.builtins G.T.nolimit hg hT nT C G.T.bmain hobj hints (Nat.le_trans hlen hn2) hF hb (fun H hH hS => hsp H a ns hlen hbits hH hS) fun H e s' => hCX w H s₁ e s'
end LamX
namespace Pu
open PySem PySem.Spec PyProof.Rows L2 My
variable [Tbs] [Nls]
variable {P : Program} {w : World} {K : PySem.W.Frag} {mg : Str → Option Value} {base : Heap}
theorem fnAt_of {k : Nat} {f : Addr} {fd : FuncData} {ps : List Str} {sp : Sp} (F : FnG P w K mg base k f fd ps sp) (hr : Room k callerA) : LamX.FnAt P w K mg base (L2.CX P w) f fd ps sp :=
  ⟨fun outer s H args us vs Q E e0 hb r hsp => F.run callerA outer s H args us vs Q E ⟨hr, rfl⟩ e0 hb r hsp⟩
theorem law_end {fn : List D → FOut} {ns : List Int} {H : Hp} {a : Addr} (h : ∃ io, fn [.scr ns] = .ok (.bl true) io) (hS : SqL K H a (ns.map V.int)) (hT : LamX.Tabs Tbs.T H) : spD ⟨K, w, mg⟩ none 1 fn [.ref a] H (fun v _ => v = .bl true) fun _ _ _ => False := by
  obtain ⟨io, e⟩ := h
  refine ⟨rfl, [], [.scr ns], ⟨fun p hp => absurd hp (by simp), fun p hp => absurd hp (by simp), by rw [hide_nil]; exact hT⟩, ⟨rfl, fun i d _ hd => ?_, fun j hj => by cases hj⟩, ?_⟩
  · have hh : hide H [] = H := by funext a; simp [hide]
    rw [hh]
    match i, hd with
    | 0, hd =>
      cases hd
      exact ⟨.ref a, rfl, .scr hS⟩
    | i + 1, hd => simp at hd
  · rw [e]
    intro v H' O' _ hv
    cases hv
    rfl
end Pu
namespace Pu
open PySem PySem.Spec PyProof.Rows L2 My He
theorem cT_cg {K : PySem.W.Frag} {mg : Str → Option Value} {x : Str} {st : Stmt} (D : Dg K mg x st) (e : My.fa mg x = He.ga K x) : ∃ c, (fdOf K (My.fa mg x)).code = .ref c ∧ (cT K (x, none)).1 = c := by
  obtain ⟨oc, od, dV, kV, doc, pm, an, cdv, ct, osl, ef, lk, hcd⟩ := D.F.ex
  obtain ⟨c, rfl⟩ := codeIn_ref hcd
  refine ⟨c, by rw [ef], ?_⟩
  have hl : K.lookup (He.fAd K (x, none)) = some ⟨oc, od, .func (fdOf K (My.fa mg x)), osl⟩ := by
    show K.lookup (He.ga K x) = _
    rw [← e]
    exact lk
  exact codeOf_eq hl (by rw [ef])
abbrev tbsOf (K : PySem.W.Frag) (x : Str) : Tbs := ⟨[((cT K (x, none)).2, (x ++ ".<locals>.") ++ "<lambda>")]⟩
theorem lamF_of {K : PySem.W.Frag} {mg : Str → Option Value} {base : Heap} {x : Str} {st : Stmt} (D : Dg K mg x st) (e : My.fa mg x = He.ga K x) (TB : LamX.TabB base mg (cT K (x, none)).1 (cT K (x, none)).2) : @LamF (tbsOf K x) K mg base x := by
  obtain ⟨c, hc, k⟩ := cT_cg D e
  rw [k] at TB
  refine @Exists.intro _ _ c ⟨_, TB, hc, List.mem_singleton.mpr rfl, fun p hp _ => ?_⟩
  rw [List.mem_singleton.mp hp]
theorem tabs_of {K : PySem.W.Frag} {H : Hp} {x : Str} (h : H (cT K (x, none)).2 = some (.tbl #[])) : LamX.Tabs (tbsOf K x).T H := fun p hp => by
  rw [List.mem_singleton.mp hp]
  exact LamX.TabS.nil h
end Pu
namespace Pu
open PySem PySem.Spec PyProof.Rows L2 My
open He
theorem at_mem {α : Type} {l : List α} {i : Nat} {x : α} (h : l[i]? = some x) : x ∈ l := List.mem_of_getElem? h
theorem fg_of {K : PySem.W.Frag} {fa0 : List Fa} {fn : List DefD} {p : Str × Option Str} {x ql : Str} {st : Stmt} {f : Addr} (c : SaysD fa0 fn K) (hd : dd p x ql st ∈ fn) (ef : f = fAd K p) : Fg K x ql st f (fdOf K f) ∧ ∃ (oc : Value) (od : Option Addr) (kV doc pm : Value) (an : Option Addr) (cdv ct : Value) (osl : Array (Option Value)), fdOf K f = PySem.W.fnOf x ql (defArgs st) (defBody st) (defScope st) .none kV doc pm an cdv ct ∧ K.lookup f = some ⟨oc, od, .func (fdOf K f), osl⟩ ∧ PySem.W.codeIn K cdv ql = true := by
  obtain ⟨fd, F⟩ := c.defs hd
  obtain ⟨oc, od, dV, kV, doc, pm, an, cdv, ct, osl, e, lk, hcd, hdv, _⟩ := F.ex
  obtain rfl : dV = .none := by
    rcases hdv with ⟨_, z⟩ | ⟨z, _⟩
    · exact z
    · exact absurd rfl z
  have lk2 : K.lookup f = some ⟨oc, od, .func fd, osl⟩ := by rw [ef]; exact lk
  have e2 : fdOf K f = fd := by unfold My.fdOf; rw [lk2]
  have hkp : PySem.W.keepIn K (.ref f) = true := by rw [ef]; exact F.kp
  have e3 : fd = PySem.W.fnOf x ql (defArgs st) (defBody st) (defScope st) .none kV doc pm an cdv ct := e
  rw [e2]
  exact ⟨⟨⟨oc, od, .none, kV, doc, pm, an, cdv, ct, osl, e3, lk2, hcd⟩, hkp⟩, ⟨oc, od, kV, doc, pm, an, cdv, ct, osl, e3, lk2, hcd⟩⟩
theorem bi_of {K : PySem.W.Frag} {fa0 : List Fa} {fn : List DefD} {p : Str × Option Str} {x ql : Str} {st : Stmt} {f : Addr} {ps : List Str} (c : SaysD fa0 fn K) (hd : dd p x ql st ∈ fn) (ef : f = fAd K p)
    (b : ∀ (kV doc pm : Value) (an : Option Addr) (cdv ct : Value) (us : List Value), us.length = ps.length → bindArgs (PySem.W.fnOf x ql (defArgs st) (defBody st) (defScope st) .none kV doc pm an cdv ct) ⟨us, []⟩ = pure (ps.zip us)) : Binds K (fdOf K f) ps [] := by
  obtain ⟨_, oc, od, kV, doc, pm, an, cdv, ct, osl, e, lk, hcd⟩ := fg_of c hd ef
  rw [e]
  exact .all (b kV doc pm an cdv ct)
theorem ma_of {K : PySem.W.Frag} {mg : Str → Option Value} {c m : Str} (e : My.fa mg c = ga K c) : mf K (My.fa mg c) m = fAd K (c, some m) := by rw [e]; rfl
theorem es_BadTold : ErrS s_BadTold_init ["place"] := ⟨.mk (.cons .nil) rfl, ⟨_, rfl, rfl⟩, rfl, rfl, rfl, by decide +kernel, by decide +kernel, by decide +kernel, by decide +kernel, by decide +kernel, by decide⟩
theorem es_TooMany : ErrS s_TooMany_init ["what", "many", "most"] := ⟨.mk (.cons (.cons (.cons .nil))) rfl, ⟨_, rfl, rfl⟩, rfl, rfl, rfl, by decide +kernel, by decide +kernel, by decide +kernel, by decide +kernel, by decide +kernel, by decide⟩
theorem es_BadValue : ErrS s_BadValue_init ["place"] := ⟨.mk (.cons .nil) rfl, ⟨_, rfl, rfl⟩, rfl, rfl, rfl, by decide +kernel, by decide +kernel, by decide +kernel, by decide +kernel, by decide +kernel, by decide⟩
theorem es_NoPlace : ErrS s_NoPlace_init ["place"] := ⟨.mk (.cons .nil) rfl, ⟨_, rfl, rfl⟩, rfl, rfl, rfl, by decide +kernel, by decide +kernel, by decide +kernel, by decide +kernel, by decide +kernel, by decide⟩
theorem ex_BadTold {w : World} {K : PySem.W.Frag} {h : Heap} {mg : Str → Option Value} (X : K.In h) (G : h.Ns mainGlobals mg) (c : SaysM faL fnL tsL tfL exL iniL w h K) (hx : (iniL.all fun d => errB RR.prog.main.file K (ga K d.cls) d.fs) = true) (sup : mg "super" = none) : Ex RR.prog K mg "BadTold" s_BadTold_init ["place"] := by
  obtain ⟨g, e⟩ := fa_ga X G c.t.d (x := "BadTold") (at_mem (i := 21) rfl)
  have m : (⟨"BadTold", s_BadTold_init, ["place"]⟩ : IniD) ∈ iniL := at_mem (i := 0) rfl
  have x1 := List.all_eq_true.mp hx _ m
  have x2 := c.ini m
  rw [← e] at x1 x2
  exact err_ok (d := ⟨"BadTold", s_BadTold_init, ["place"]⟩) g x1 x2 es_BadTold sup (by decide +kernel) (fun _ _ _ _ _ _ _ _ us hl => match us, hl with | [_, _], _ => rfl)
theorem ex_TooMany {w : World} {K : PySem.W.Frag} {h : Heap} {mg : Str → Option Value} (X : K.In h) (G : h.Ns mainGlobals mg) (c : SaysM faL fnL tsL tfL exL iniL w h K) (hx : (iniL.all fun d => errB RR.prog.main.file K (ga K d.cls) d.fs) = true) (sup : mg "super" = none) : Ex RR.prog K mg "TooMany" s_TooMany_init ["what", "many", "most"] := by
  obtain ⟨g, e⟩ := fa_ga X G c.t.d (x := "TooMany") (at_mem (i := 22) rfl)
  have m : (⟨"TooMany", s_TooMany_init, ["what", "many", "most"]⟩ : IniD) ∈ iniL := at_mem (i := 1) rfl
  have x1 := List.all_eq_true.mp hx _ m
  have x2 := c.ini m
  rw [← e] at x1 x2
  exact err_ok (d := ⟨"TooMany", s_TooMany_init, ["what", "many", "most"]⟩) g x1 x2 es_TooMany sup (by decide +kernel) (fun _ _ _ _ _ _ _ _ us hl => match us, hl with | [_, _, _, _], _ => rfl)
theorem ex_BadValue {w : World} {K : PySem.W.Frag} {h : Heap} {mg : Str → Option Value} (X : K.In h) (G : h.Ns mainGlobals mg) (c : SaysM faL fnL tsL tfL exL iniL w h K) (hx : (iniL.all fun d => errB RR.prog.main.file K (ga K d.cls) d.fs) = true) (sup : mg "super" = none) : Ex RR.prog K mg "BadValue" s_BadValue_init ["place"] := by
  obtain ⟨g, e⟩ := fa_ga X G c.t.d (x := "BadValue") (at_mem (i := 23) rfl)
  have m : (⟨"BadValue", s_BadValue_init, ["place"]⟩ : IniD) ∈ iniL := at_mem (i := 2) rfl
  have x1 := List.all_eq_true.mp hx _ m
  have x2 := c.ini m
  rw [← e] at x1 x2
  exact err_ok (d := ⟨"BadValue", s_BadValue_init, ["place"]⟩) g x1 x2 es_BadValue sup (by decide +kernel) (fun _ _ _ _ _ _ _ _ us hl => match us, hl with | [_, _], _ => rfl)
theorem ex_NoPlace {w : World} {K : PySem.W.Frag} {h : Heap} {mg : Str → Option Value} (X : K.In h) (G : h.Ns mainGlobals mg) (c : SaysM faL fnL tsL tfL exL iniL w h K) (hx : (iniL.all fun d => errB RR.prog.main.file K (ga K d.cls) d.fs) = true) (sup : mg "super" = none) : Ex RR.prog K mg "NoPlace" s_NoPlace_init ["place"] := by
  obtain ⟨g, e⟩ := fa_ga X G c.t.d (x := "NoPlace") (at_mem (i := 24) rfl)
  have m : (⟨"NoPlace", s_NoPlace_init, ["place"]⟩ : IniD) ∈ iniL := at_mem (i := 3) rfl
  have x1 := List.all_eq_true.mp hx _ m
  have x2 := c.ini m
  rw [← e] at x1 x2
  exact err_ok (d := ⟨"NoPlace", s_NoPlace_init, ["place"]⟩) g x1 x2 es_NoPlace sup (by decide +kernel) (fun _ _ _ _ _ _ _ _ us hl => match us, hl with | [_, _], _ => rfl)
theorem fok_cons {K : PySem.W.Frag} {mg : Str → Option Value} {c f : Str} {cs : List Str} (h : Cls K (My.fa mg c) ∧ NoAttr K (My.fa mg c) f) (hs : FldOk K mg cs f) : FldOk K mg (c :: cs) f := fun x hx => by
  rcases List.mem_cons.mp hx with rfl | hx
  · exact h
  · exact hs x hx
theorem txt_of [Tbs] {w : World} {K : PySem.W.Frag} {h : Heap} {mg : Str → Option Value} (X : K.In h) (G : h.Ns mainGlobals mg) (c : SaysM faL fnL tsL tfL exL iniL w h K) : Txt RR.prog w K mg := by
  have cd := c.t.d
  obtain ⟨x1, xx⟩ := ba c.more
  obtain ⟨x2, xx⟩ := ba xx
  obtain ⟨x3, xx⟩ := ba xx
  obtain ⟨x4, xx⟩ := ba xx
  obtain ⟨x5, xx⟩ := ba xx
  obtain ⟨x6, xx⟩ := ba xx
  obtain ⟨x7, xx⟩ := ba xx
  obtain ⟨x8, xx⟩ := ba xx
  obtain ⟨x9, x10⟩ := ba xx
  have sup : mg "super" = none := free_ok X G (cd.facts (at_mem (i := 38) rfl))
  have g_Tree := fa_ga X G cd (x := "Tree") (at_mem (i := 25) rfl)
  have glo : ∀ x ∈ erL ++ chL, My.fa mg x = ga K x := fun x hx => by
    have h : ((erL ++ chL).all fun x => faL.any fun f => match f with | .glo y => decide (y = x) | _ => false) = true := by decide +kernel
    obtain ⟨f, hf, e⟩ := List.any_eq_true.mp (List.all_eq_true.mp h x hx)
    split at e
    · rename_i y
      rw [of_decide_eq_true e] at hf
      exact (fa_ga X G cd hf).2
    · cases e
  have key : ∀ x ∈ erL, ExcC K (My.fa mg x) ∧ PySem.W.kitOne K (.ref (My.fa mg x)) (.type "ValueError") = some true ∧ ∀ y ∈ chL, PySem.W.exmOne K (.ref (My.fa mg x)) (.ref (My.fa mg y)) = some (decide (x = y)) := fun x hx => by
    have e := glo x (List.mem_append_left _ hx)
    obtain ⟨a1, a⟩ := ba (List.all_eq_true.mp x2 x hx)
    obtain ⟨a2, a3⟩ := ba a
    rw [e]
    refine ⟨excB_ok a1, of_decide_eq_true a2, fun y hy => ?_⟩
    rw [glo y (List.mem_append_right _ hy)]
    exact of_decide_eq_true (List.all_eq_true.mp a3 y hy)
  exact { n_list := free_ok X G (cd.facts (at_mem (i := 26) rfl))
          n_int := free_ok X G (cd.facts (at_mem (i := 27) rfl))
          n_len := free_ok X G (cd.facts (at_mem (i := 28) rfl))
          n_abs := free_ok X G (cd.facts (at_mem (i := 29) rfl))
          n_range := free_ok X G (cd.facts (at_mem (i := 30) rfl))
          n_isinstance := free_ok X G (cd.facts (at_mem (i := 31) rfl))
          n_tuple := free_ok X G (cd.facts (at_mem (i := 32) rfl))
          n_bool := free_ok X G (cd.facts (at_mem (i := 33) rfl))
          n_sorted := free_ok X G (cd.facts (at_mem (i := 34) rfl))
          n_max := free_ok X G (cd.facts (at_mem (i := 35) rfl))
          n_str := free_ok X G (cd.facts (at_mem (i := 36) rfl))
          n_ValueError := free_ok X G (cd.facts (at_mem (i := 37) rfl))
          n_super := free_ok X G (cd.facts (at_mem (i := 38) rfl))
          law_pen_of := ⟨(fg_of cd (at_mem (i := 0) rfl) (fa_ga X G cd (at_mem (i := 0) rfl)).2).1, (fa_ga X G cd (at_mem (i := 0) rfl)).1⟩
          b_law_pen_of := bi_of cd (at_mem (i := 0) rfl) (fa_ga X G cd (at_mem (i := 0) rfl)).2 (fun _ _ _ _ _ _ us hl => match us, hl with | [_], _ => rfl)
          law_draw := ⟨(fg_of cd (at_mem (i := 1) rfl) (fa_ga X G cd (at_mem (i := 1) rfl)).2).1, (fa_ga X G cd (at_mem (i := 1) rfl)).1⟩
          b_law_draw := bi_of cd (at_mem (i := 1) rfl) (fa_ga X G cd (at_mem (i := 1) rfl)).2 (fun _ _ _ _ _ _ us hl => match us, hl with | [_, _], _ => rfl)
          law_pick := ⟨(fg_of cd (at_mem (i := 2) rfl) (fa_ga X G cd (at_mem (i := 2) rfl)).2).1, (fa_ga X G cd (at_mem (i := 2) rfl)).1⟩
          b_law_pick := bi_of cd (at_mem (i := 2) rfl) (fa_ga X G cd (at_mem (i := 2) rfl)).2 (fun _ _ _ _ _ _ us hl => match us, hl with | [_, _], _ => rfl)
          law_some_numbers := ⟨(fg_of cd (at_mem (i := 3) rfl) (fa_ga X G cd (at_mem (i := 3) rfl)).2).1, (fa_ga X G cd (at_mem (i := 3) rfl)).1⟩
          b_law_some_numbers := bi_of cd (at_mem (i := 3) rfl) (fa_ga X G cd (at_mem (i := 3) rfl)).2 (fun _ _ _ _ _ _ us hl => match us, hl with | [_, _], _ => rfl)
          law_some_told := ⟨(fg_of cd (at_mem (i := 4) rfl) (fa_ga X G cd (at_mem (i := 4) rfl)).2).1, (fa_ga X G cd (at_mem (i := 4) rfl)).1⟩
          b_law_some_told := bi_of cd (at_mem (i := 4) rfl) (fa_ga X G cd (at_mem (i := 4) rfl)).2 (fun _ _ _ _ _ _ us hl => match us, hl with | [_, _], _ => rfl)
          is_row := ⟨(fg_of cd (at_mem (i := 5) rfl) (fa_ga X G cd (at_mem (i := 5) rfl)).2).1, (fa_ga X G cd (at_mem (i := 5) rfl)).1⟩
          b_is_row := bi_of cd (at_mem (i := 5) rfl) (fa_ga X G cd (at_mem (i := 5) rfl)).2 (fun _ _ _ _ _ _ us hl => match us, hl with | [_, _], _ => rfl)
          is_integer := ⟨(fg_of cd (at_mem (i := 6) rfl) (fa_ga X G cd (at_mem (i := 6) rfl)).2).1, (fa_ga X G cd (at_mem (i := 6) rfl)).1⟩
          b_is_integer := bi_of cd (at_mem (i := 6) rfl) (fa_ga X G cd (at_mem (i := 6) rfl)).2 (fun _ _ _ _ _ _ us hl => match us, hl with | [_], _ => rfl)
          spots_of := ⟨(fg_of cd (at_mem (i := 7) rfl) (fa_ga X G cd (at_mem (i := 7) rfl)).2).1, (fa_ga X G cd (at_mem (i := 7) rfl)).1⟩
          b_spots_of := bi_of cd (at_mem (i := 7) rfl) (fa_ga X G cd (at_mem (i := 7) rfl)).2 (fun _ _ _ _ _ _ us hl => match us, hl with | [_], _ => rfl)
          rank_text := ⟨(fg_of cd (at_mem (i := 8) rfl) (fa_ga X G cd (at_mem (i := 8) rfl)).2).1, (fa_ga X G cd (at_mem (i := 8) rfl)).1⟩
          b_rank_text := bi_of cd (at_mem (i := 8) rfl) (fa_ga X G cd (at_mem (i := 8) rfl)).2 (fun _ _ _ _ _ _ us hl => match us, hl with | [_], _ => rfl)
          in_order := ⟨(fg_of cd (at_mem (i := 9) rfl) (fa_ga X G cd (at_mem (i := 9) rfl)).2).1, (fa_ga X G cd (at_mem (i := 9) rfl)).1⟩
          b_in_order := bi_of cd (at_mem (i := 9) rfl) (fa_ga X G cd (at_mem (i := 9) rfl)).2 (fun _ _ _ _ _ _ us hl => match us, hl with | [_], _ => rfl)
          first_fall := ⟨(fg_of cd (at_mem (i := 10) rfl) (fa_ga X G cd (at_mem (i := 10) rfl)).2).1, (fa_ga X G cd (at_mem (i := 10) rfl)).1⟩
          b_first_fall := bi_of cd (at_mem (i := 10) rfl) (fa_ga X G cd (at_mem (i := 10) rfl)).2 (fun _ _ _ _ _ _ us hl => match us, hl with | [_], _ => rfl)
          told_of := ⟨(fg_of cd (at_mem (i := 11) rfl) (fa_ga X G cd (at_mem (i := 11) rfl)).2).1, (fa_ga X G cd (at_mem (i := 11) rfl)).1⟩
          b_told_of := bi_of cd (at_mem (i := 11) rfl) (fa_ga X G cd (at_mem (i := 11) rfl)).2 (fun _ _ _ _ _ _ us hl => match us, hl with | [_], _ => rfl)
          height_of := ⟨(fg_of cd (at_mem (i := 12) rfl) (fa_ga X G cd (at_mem (i := 12) rfl)).2).1, (fa_ga X G cd (at_mem (i := 12) rfl)).1⟩
          b_height_of := bi_of cd (at_mem (i := 12) rfl) (fa_ga X G cd (at_mem (i := 12) rfl)).2 (fun _ _ _ _ _ _ us hl => match us, hl with | [_], _ => rfl)
          Tree_init := ⟨by rw [g_Tree.2]; exact cls_ok (cd.facts (at_mem (i := 41) rfl)), by rw [g_Tree.2]; exact meth_ok (cd.facts (at_mem (i := 43) rfl)), (fg_of cd (at_mem (i := 21) rfl) (ma_of g_Tree.2)).1⟩
          b_Tree_init := bi_of cd (at_mem (i := 21) rfl) (ma_of g_Tree.2) (fun _ _ _ _ _ _ us hl => match us, hl with | [_, _], _ => rfl)
          law_numbers_by := ⟨(fg_of cd (at_mem (i := 13) rfl) (fa_ga X G cd (at_mem (i := 13) rfl)).2).1, (fa_ga X G cd (at_mem (i := 13) rfl)).1⟩
          b_law_numbers_by := bi_of cd (at_mem (i := 13) rfl) (fa_ga X G cd (at_mem (i := 13) rfl)).2 (fun _ _ _ _ _ _ us hl => match us, hl with | [_, _], _ => rfl)
          law_spots := ⟨(fg_of cd (at_mem (i := 14) rfl) (fa_ga X G cd (at_mem (i := 14) rfl)).2).1, (fa_ga X G cd (at_mem (i := 14) rfl)).1⟩
          b_law_spots := bi_of cd (at_mem (i := 14) rfl) (fa_ga X G cd (at_mem (i := 14) rfl)).2 (fun _ _ _ _ _ _ us hl => match us, hl with | [_], _ => rfl)
          law_lists := ⟨(fg_of cd (at_mem (i := 15) rfl) (fa_ga X G cd (at_mem (i := 15) rfl)).2).1, (fa_ga X G cd (at_mem (i := 15) rfl)).1⟩
          b_law_lists := bi_of cd (at_mem (i := 15) rfl) (fa_ga X G cd (at_mem (i := 15) rfl)).2 (fun _ _ _ _ _ _ us hl => match us, hl with | [_, _], _ => rfl)
          law_row_of := ⟨(fg_of cd (at_mem (i := 16) rfl) (fa_ga X G cd (at_mem (i := 16) rfl)).2).1, (fa_ga X G cd (at_mem (i := 16) rfl)).1⟩
          b_law_row_of := bi_of cd (at_mem (i := 16) rfl) (fa_ga X G cd (at_mem (i := 16) rfl)).2 (fun _ _ _ _ _ _ us hl => match us, hl with | [_, _], _ => rfl)
          Tree_places := ⟨by rw [g_Tree.2]; exact cls_ok (cd.facts (at_mem (i := 41) rfl)), by rw [g_Tree.2]; exact meth_ok (cd.facts (at_mem (i := 44) rfl)), (fg_of cd (at_mem (i := 22) rfl) (ma_of g_Tree.2)).1⟩
          b_Tree_places := bi_of cd (at_mem (i := 22) rfl) (ma_of g_Tree.2) (fun _ _ _ _ _ _ us hl => match us, hl with | [_], _ => rfl)
          Tree_row := ⟨by rw [g_Tree.2]; exact cls_ok (cd.facts (at_mem (i := 41) rfl)), by rw [g_Tree.2]; exact meth_ok (cd.facts (at_mem (i := 45) rfl)), (fg_of cd (at_mem (i := 23) rfl) (ma_of g_Tree.2)).1⟩
          b_Tree_row := bi_of cd (at_mem (i := 23) rfl) (ma_of g_Tree.2) (fun _ _ _ _ _ _ us hl => match us, hl with | [_], _ => rfl)
          Tree_has := ⟨by rw [g_Tree.2]; exact cls_ok (cd.facts (at_mem (i := 41) rfl)), by rw [g_Tree.2]; exact meth_ok (cd.facts (at_mem (i := 46) rfl)), (fg_of cd (at_mem (i := 24) rfl) (ma_of g_Tree.2)).1⟩
          b_Tree_has := bi_of cd (at_mem (i := 24) rfl) (ma_of g_Tree.2) (fun _ _ _ _ _ _ us hl => match us, hl with | [_, _], _ => rfl)
          Tree_need := ⟨by rw [g_Tree.2]; exact cls_ok (cd.facts (at_mem (i := 41) rfl)), by rw [g_Tree.2]; exact meth_ok (cd.facts (at_mem (i := 47) rfl)), (fg_of cd (at_mem (i := 25) rfl) (ma_of g_Tree.2)).1⟩
          b_Tree_need := bi_of cd (at_mem (i := 25) rfl) (ma_of g_Tree.2) (fun _ _ _ _ _ _ us hl => match us, hl with | [_, _], _ => rfl)
          Tree_value := ⟨by rw [g_Tree.2]; exact cls_ok (cd.facts (at_mem (i := 41) rfl)), by rw [g_Tree.2]; exact meth_ok (cd.facts (at_mem (i := 48) rfl)), (fg_of cd (at_mem (i := 26) rfl) (ma_of g_Tree.2)).1⟩
          b_Tree_value := bi_of cd (at_mem (i := 26) rfl) (ma_of g_Tree.2) (fun _ _ _ _ _ _ us hl => match us, hl with | [_, _], _ => rfl)
          Tree_sides := ⟨by rw [g_Tree.2]; exact cls_ok (cd.facts (at_mem (i := 41) rfl)), by rw [g_Tree.2]; exact meth_ok (cd.facts (at_mem (i := 49) rfl)), (fg_of cd (at_mem (i := 27) rfl) (ma_of g_Tree.2)).1⟩
          b_Tree_sides := bi_of cd (at_mem (i := 27) rfl) (ma_of g_Tree.2) (fun _ _ _ _ _ _ us hl => match us, hl with | [_, _], _ => rfl)
          law_is_read := ⟨(fg_of cd (at_mem (i := 17) rfl) (fa_ga X G cd (at_mem (i := 17) rfl)).2).1, (fa_ga X G cd (at_mem (i := 17) rfl)).1⟩
          b_law_is_read := bi_of cd (at_mem (i := 17) rfl) (fa_ga X G cd (at_mem (i := 17) rfl)).2 (fun _ _ _ _ _ _ us hl => match us, hl with | [_, _, _], _ => rfl)
          Tree_eq := ⟨by rw [g_Tree.2]; exact cls_ok (cd.facts (at_mem (i := 41) rfl)), by rw [g_Tree.2]; exact meth_ok (cd.facts (at_mem (i := 50) rfl)), (fg_of cd (at_mem (i := 28) rfl) (ma_of g_Tree.2)).1⟩
          b_Tree_eq := bi_of cd (at_mem (i := 28) rfl) (ma_of g_Tree.2) (fun _ _ _ _ _ _ us hl => match us, hl with | [_, _], _ => rfl)
          law_search := ⟨(fg_of cd (at_mem (i := 18) rfl) (fa_ga X G cd (at_mem (i := 18) rfl)).2).1, (fa_ga X G cd (at_mem (i := 18) rfl)).1⟩
          b_law_search := bi_of cd (at_mem (i := 18) rfl) (fa_ga X G cd (at_mem (i := 18) rfl)).2 (fun _ _ _ _ _ _ us hl => match us, hl with | [_, _], _ => rfl)
          law_met := ⟨(fg_of cd (at_mem (i := 19) rfl) (fa_ga X G cd (at_mem (i := 19) rfl)).2).1, (fa_ga X G cd (at_mem (i := 19) rfl)).1⟩
          b_law_met := bi_of cd (at_mem (i := 19) rfl) (fa_ga X G cd (at_mem (i := 19) rfl)).2 (fun _ _ _ _ _ _ us hl => match us, hl with | [_], _ => rfl)
          Tree_search := ⟨by rw [g_Tree.2]; exact cls_ok (cd.facts (at_mem (i := 41) rfl)), by rw [g_Tree.2]; exact meth_ok (cd.facts (at_mem (i := 51) rfl)), (fg_of cd (at_mem (i := 29) rfl) (ma_of g_Tree.2)).1⟩
          b_Tree_search := bi_of cd (at_mem (i := 29) rfl) (ma_of g_Tree.2) (fun _ _ _ _ _ _ us hl => match us, hl with | [_, _], _ => rfl)
          Tree_find := ⟨by rw [g_Tree.2]; exact cls_ok (cd.facts (at_mem (i := 41) rfl)), by rw [g_Tree.2]; exact meth_ok (cd.facts (at_mem (i := 52) rfl)), (fg_of cd (at_mem (i := 30) rfl) (ma_of g_Tree.2)).1⟩
          b_Tree_find := bi_of cd (at_mem (i := 30) rfl) (ma_of g_Tree.2) (fun _ _ _ _ _ _ us hl => match us, hl with | [_, _], _ => rfl)
          Tree_gap := ⟨by rw [g_Tree.2]; exact cls_ok (cd.facts (at_mem (i := 41) rfl)), by rw [g_Tree.2]; exact meth_ok (cd.facts (at_mem (i := 53) rfl)), (fg_of cd (at_mem (i := 31) rfl) (ma_of g_Tree.2)).1⟩
          b_Tree_gap := bi_of cd (at_mem (i := 31) rfl) (ma_of g_Tree.2) (fun _ _ _ _ _ _ us hl => match us, hl with | [_, _], _ => rfl)
          law := ⟨(fg_of cd (at_mem (i := 20) rfl) (fa_ga X G cd (at_mem (i := 20) rfl)).2).1, (fa_ga X G cd (at_mem (i := 20) rfl)).1⟩
          b_law := bi_of cd (at_mem (i := 20) rfl) (fa_ga X G cd (at_mem (i := 20) rfl)).2 (fun _ _ _ _ _ _ us hl => match us, hl with | [_], _ => rfl)
          c_MOST_PLACES := int_ok X G (cd.facts (at_mem (i := 39) rfl))
          c_MOST_LEVELS := int_ok X G (cd.facts (at_mem (i := 40) rfl))
          c_Tree := g_Tree.1
          k_Tree := by rw [g_Tree.2]; exact mkr_ok (cd.facts (at_mem (i := 42) rfl))
          f_own_spots := (fok_cons ⟨by rw [g_Tree.2]; exact cls_ok (cd.facts (at_mem (i := 41) rfl)), by rw [g_Tree.2]; exact noat_ok (cd.facts (at_mem (i := 54) rfl))⟩ (fun _ h => nomatch h))
          f_Tree_own_spots := (fok_cons ⟨by rw [g_Tree.2]; exact cls_ok (cd.facts (at_mem (i := 41) rfl)), by rw [g_Tree.2]; exact noat_ok (cd.facts (at_mem (i := 54) rfl))⟩ (fun _ h => nomatch h))
          f_told := (fok_cons ⟨by rw [g_Tree.2]; exact cls_ok (cd.facts (at_mem (i := 41) rfl)), by rw [g_Tree.2]; exact noat_ok (cd.facts (at_mem (i := 55) rfl))⟩ (fun _ h => nomatch h))
          f_Tree_told := (fok_cons ⟨by rw [g_Tree.2]; exact cls_ok (cd.facts (at_mem (i := 41) rfl)), by rw [g_Tree.2]; exact noat_ok (cd.facts (at_mem (i := 55) rfl))⟩ (fun _ h => nomatch h))
          f_size := (fok_cons ⟨by rw [g_Tree.2]; exact cls_ok (cd.facts (at_mem (i := 41) rfl)), by rw [g_Tree.2]; exact noat_ok (cd.facts (at_mem (i := 56) rfl))⟩ (fun _ h => nomatch h))
          f_Tree_size := (fok_cons ⟨by rw [g_Tree.2]; exact cls_ok (cd.facts (at_mem (i := 41) rfl)), by rw [g_Tree.2]; exact noat_ok (cd.facts (at_mem (i := 56) rfl))⟩ (fun _ h => nomatch h))
          f_height := (fok_cons ⟨by rw [g_Tree.2]; exact cls_ok (cd.facts (at_mem (i := 41) rfl)), by rw [g_Tree.2]; exact noat_ok (cd.facts (at_mem (i := 57) rfl))⟩ (fun _ h => nomatch h))
          f_Tree_height := (fok_cons ⟨by rw [g_Tree.2]; exact cls_ok (cd.facts (at_mem (i := 41) rfl)), by rw [g_Tree.2]; exact noat_ok (cd.facts (at_mem (i := 57) rfl))⟩ (fun _ h => nomatch h))
          e_BadTold := ex_BadTold X G c x1 sup
          x_BadTold := (key "BadTold" (by decide)).1
          v_BadTold := (key "BadTold" (by decide)).2.1
          e_TooMany := ex_TooMany X G c x1 sup
          x_TooMany := (key "TooMany" (by decide)).1
          v_TooMany := (key "TooMany" (by decide)).2.1
          e_BadValue := ex_BadValue X G c x1 sup
          x_BadValue := (key "BadValue" (by decide)).1
          v_BadValue := (key "BadValue" (by decide)).2.1
          e_NoPlace := ex_NoPlace X G c x1 sup
          x_NoPlace := (key "NoPlace" (by decide)).1
          v_NoPlace := (key "NoPlace" (by decide)).2.1
          ca := fun x y b hb => by
            unfold caD at hb
            split at hb
            · rename_i hxy
              cases hb
              exact (key x hxy.1).2.2 y hxy.2
            · cases hb
          ins := (notIn_cons g_Tree.2 (cls_ok (cd.facts (at_mem (i := 41) rfl))) (List.all_eq_true.mp x3 _ (at_mem (i := 0) rfl)) notIn_nil)
          iso_Tree := iso_ok (List.forall_mem_cons.mpr ⟨g_Tree.2, List.forall_mem_cons.mpr ⟨g_Tree.2, fun _ h => nomatch h⟩⟩) (notIn_cons g_Tree.2 (cls_ok (cd.facts (at_mem (i := 41) rfl))) (List.all_eq_true.mp x3 _ (at_mem (i := 0) rfl)) notIn_nil) (List.all_eq_true.mp x6 _ (at_mem (i := 0) rfl))
          eqm_Tree := eqm_ok g_Tree.2 (by rw [g_Tree.2]; exact cls_ok (cd.facts (at_mem (i := 41) rfl))) (by rw [g_Tree.2]; exact meth_ok (cd.facts (at_mem (i := 50) rfl))) (List.all_eq_true.mp x7 _ (at_mem (i := 0) rfl))
          nos_Tree := nos_ok (List.forall_mem_cons.mpr ⟨g_Tree.2, List.forall_mem_cons.mpr ⟨g_Tree.2, fun _ h => nomatch h⟩⟩) (notIn_cons g_Tree.2 (cls_ok (cd.facts (at_mem (i := 41) rfl))) (List.all_eq_true.mp x3 _ (at_mem (i := 0) rfl)) notIn_nil) (List.all_eq_true.mp x7 _ (at_mem (i := 0) rfl)) }
theorem law_at {w : World} {mg : Str → Option Value} {f : Addr} {h : Heap} (Y : (hkL 6).says w h) (G : h.Ns mainGlobals mg) (hmg : mg ("law" : Str) = some (.ref f)) : ∃ K : PySem.W.Frag, K.In h ∧ LamX.LawAtA PySem.Challenge.rw_searchwalks_k18_trees_read w K (L2.CX RR.prog w) 63 "_law_script" mg f h := by
  obtain ⟨K, X, c⟩ := Y
  letI : Tbs := tbsOf K "law"
  have T := txt_of X G c
  have ef : f = My.fa mg "law" := by
    have g1 := T.law.g
    rw [g1] at hmg
    exact (Value.ref.inj (Option.some.inj hmg)).symm
  refine ⟨K, X, fdOf K (My.fa mg "law"), [cT K ("law", none)], spD ⟨K, w, mg⟩ none 1 fn_law, (fun p hp => by rw [List.mem_singleton.mp hp]; exact c.empty _ (at_mem (i := 0) rfl)), (fun p hp => by rw [List.mem_singleton.mp hp]; exact c.out _ (at_mem (i := 0) rfl)), (fun p hp => by rw [List.mem_singleton.mp hp]; exact PySem.W.codeHd_of_K X (c.hd _ (at_mem (i := 0) rfl))), ?_, ?_, ?_⟩
  · intro s u
    obtain ⟨_, oc, od, kV, doc, pm, an, cdv, ct, osl, e, _⟩ := fg_of c.t.d (at_mem (i := 20) rfl) (fa_ga X G c.t.d (at_mem (i := 20) rfl)).2
    rw [e]
    exact .of_eq rfl
  · intro H a ns hl _ ht hS
    exact law_end (law_true ns hl) hS (tabs_of (ht _ (at_mem (i := 0) rfl)))
  · intro base _ _ TB
    rw [ef]
    exact fnAt_of (ok_law T (lamF_of T.law (fa_ga X G c.t.d (at_mem (i := 20) rfl)).2 (TB _ (at_mem (i := 0) rfl)))) ⟨rfl, by decide, by decide⟩
end Pu
open PySem PySem.W PySem.Calls PyProof.Rows
theorem PySem.Challenge.cw_searchwalks_k18_trees_read_holds : PySem.Challenge.rw_searchwalks_k18_trees_read.Holds := by
  w_on
  refine Pu.oLaw fun said => ?_
  refine HandSHeadRun.head_any (r := OpenLaw.row PySem.Challenge.rw_searchwalks_k18_trees_read) (q := view (OpenLaw.row PySem.Challenge.rw_searchwalks_k18_trees_read).prog [37]) (H := Pu.hkL 6) (ob := Pu.obL 6) (M := 12000) (loose := Pu.loL) (d := HandSHeadRun.topDef (OpenLaw.row PySem.Challenge.rw_searchwalks_k18_trees_read).prog 37) (kwd := []) (Pu.obL_eq 6)
    (by kernel_rfl) (fun s => by kernel_rfl) Pu.runL (by kernel_rfl) (by kernel_rfl) (by kernel_rfl) (by rfl) (by first | assumption | decide +kernel) (by decide +kernel) Pu.bareL ?hw ?hc
  case hw => w_witness2
  case hc =>
    refine LamX.walk_ofA (l := PySem.Challenge.rw_searchwalks_k18_trees_read) (n := 63) (x := "_law_script") (CX := fun w => L2.CX Pu.RR.prog w) rfl (by decide) (by kernel_rfl) ?F ?G
    · intro w mg fa h Y G hmg0
      have hmg : mg ("law" : PySem.Str) = some (.ref fa) := by
        have e : (HandSHeadRun.topDef (OpenLaw.row PySem.Challenge.rw_searchwalks_k18_trees_read).prog 37).name = ("law" : PySem.Str) := by kernel_rfl
        rw [← e]
        exact hmg0
      exact Pu.law_at Y G hmg
    · intro w H e s z1 z
      obtain ⟨_, _, _, _, _, _, _, _, _, _, _, _, q⟩ := z
      exact q
