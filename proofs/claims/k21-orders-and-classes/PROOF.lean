import PyProof.Rows.All
import Wide.All
import OpenK.AllK
import Wide.FinOn
import HandS.ForMost
import HandS.ForExc
import HandS.Wide
import HandS.Style
import HandS.Flow
import KE.KExcSuper
import HandS.ExcInit
import HandS.ExcSuper
import HandS.ExcField
import HandS.ExcIs
import KE.KExcIs
import HandS.More
import HandS.IsInst
import HandS.Strs
import HandS.SetFor
import HandS.Zip
import KE.KDictPairs
import PyProof.NeKinds
import HandS.Walk
import KE.KStateDown
import HandS.Head0
import HandS.Head1
import HandS.Head2
import HandS.HeadHook4
import HandS.HeadWalk
import HandS.Lambda
import HandS.EndTab
import PySem.Challenge.RW_searchwalks_k21_orders_and_classes
set_option Elab.async false
set_option linter.all false
set_option maxRecDepth 100000
set_option maxHeartbeats 0
namespace My
open PySem PySem.Spec PyProof.Rows L2

/-! ### where the defs of the top stand -/
def fa (mg : Str → Option Value) (x : Str) : Addr := match mg x with
  | some (.ref f) => f
  | _ => 0
def fdOf (K : PySem.W.Frag) (f : Addr) : FuncData := match K.lookup f with
  | some ⟨_, _, .func fd, _⟩ => fd
  | _ => default
theorem fa_eq {mg : Str → Option Value} {x : Str} {f : Addr} (h : mg x = some (.ref f)) : fa mg x = f := by
  unfold fa
  rw [h]
theorem fdOf_eq {K : PySem.W.Frag} {f : Addr} {oc : Value} {od : Option Addr} {fd : FuncData} {sl : Array (Option Value)} (h : K.lookup f = some ⟨oc, od, .func fd, sl⟩) : fdOf K f = fd := by
  unfold fdOf
  rw [h]
/-- the def x of the top, by its statement -/
structure Df (K : PySem.W.Frag) (mg : Str → Option Value) (x : Str) (st : Stmt) (ps : List Str) : Prop where
  F : Fun K x x st (fa mg x) (fdOf K (fa mg x))
  g : mg x = some (.ref (fa mg x))
  b : Binds K (fdOf K (fa mg x)) ps []
theorem Df.of {K : PySem.W.Frag} {mg : Str → Option Value} {h : Heap} {x : Str} {st : Stmt} {ps : List Str} {f : Addr} {oc : Value} {od an : Option Addr} {sl : Array (Option Value)} {kV dc pm cd ct : Value} (X : K.In h) (G : h.Ns mainGlobals mg)
    (a : PySem.W.nsIn K mainGlobals x = some (some (.ref f))) (l : K.lookup f = some ⟨oc, od, .func (PySem.W.fnOf x x (defArgs st) (defBody st) (defScope st) .none kV dc pm an cd ct), sl⟩) (c : PySem.W.codeIn K cd x = true) (k : PySem.W.keepIn K (.ref f) = true)
    (b : ∀ (kV doc pm : Value) (an : Option Addr) (cdv ct : Value) (us : List Value), us.length = ps.length → bindArgs (PySem.W.fnOf x x (defArgs st) (defBody st) (defScope st) .none kV doc pm an cdv ct) ⟨us, []⟩ = pure (ps.zip us)) : Df K mg x st ps := by
  have hg := PySem.W.mg_of X G a
  have e1 := fa_eq hg
  have e2 := fdOf_eq l
  have F := fun_mk (st := st) l c k
  refine ⟨?_, ?_, ?_⟩
  · rw [e1, e2]; exact F
  · rw [e1]; exact hg
  · rw [e1, e2]; exact F.binds b
abbrev Ok (P : Program) (w : World) (K : PySem.W.Frag) (mg : Str → Option Value) (base : Heap) (CX : CXT) (k : Nat) (x : Str) (ps : List Str) (sp : Sp) : Prop := FnOk P w K mg base CX k (fa mg x) (fdOf K (fa mg x)) ps sp
section
variable {X : Cx} {x : Str} {st : Stmt} {ps : List Str} {k : Nat} {sp : Sp} {e : Expr} {es : List Expr} {t : TA} {p pos : Pos}
/-- x(e, ..), nothing is raised -/
theorem pc (D : Df X.K X.mg x st ps) (G : Ok X.prog X.w X.K X.mg X.base CX0 k x ps sp) (hr : Room k X.A) (ha : PA X (e :: es) t) (hg : Gl X x := by rfl)
    (hdb : (x == ("__debug__" : Str)) = false := by decide) (he : starEach (e :: es) X.env = (false, eval e X.env) :: starEach es X.env := by rfl) (hpl : (backTo pos (starEach es X.env)).any (·.1) = false := by rfl) :
    PE X (.Call (.Name x p) (e :: es) [] pos) (tCall sp [] E0 t) := pe_call G hr hg D.g D.F.kp D.b .nil pass0 ha hdb he hpl
theorem pc0 (D : Df X.K X.mg x st ps) (G : Ok X.prog X.w X.K X.mg X.base CX0 k x ps sp) (hr : Room k X.A) (hg : Gl X x := by rfl)
    (hdb : (x == ("__debug__" : Str)) = false := by decide) :
    PE X (.Call (.Name x p) [] [] pos) (tCall sp [] E0 tNil) := pe_call0 G hr hg D.g D.F.kp D.b .nil pass0 hdb
end
end My
namespace My
open PySem PySem.Spec PyProof.Rows L2
/-- all but p stays -/
def Sb (p : Addr) (H H' : Hp) : Prop := ∀ b o, b ≠ p → H b = some o → H' b = some o
theorem Sb.refl (p : Addr) (H : Hp) : Sb p H H := fun _ _ _ h => h
theorem Sb.trans {p : Addr} {H H1 H2 : Hp} (a : Sb p H H1) (b : Sb p H1 H2) : Sb p H H2 := fun c o n h => b c o n (a c o n h)
theorem Sb.of {p : Addr} {H H' : Hp} (s : Same H H') : Sb p H H' := fun b o _ h => s b o h
theorem same_new {H : Hp} {p : Addr} {o : HO} (h : H p = none) : Same H (upd H p o) := fun b x e => by
  rw [upd_ne (ne_of_none e h)]
  exact e
theorem Sb.new {p q : Addr} {H : Hp} {o : HO} (h : H q = none) : Sb p H (upd H q o) := Sb.of (same_new h)
theorem Sb.put {p : Addr} {H : Hp} {o : HO} : Sb p H (upd H p o) := fun b x n e => by
  rw [upd_ne n]
  exact e
/-- what a pen holds: kL its pairs by (cells, opened, left) -/
def penL (c : Addr) (n l : Int) : List (Key × V) := [(Sum.inr "cells", .ref c), (Sum.inr "next", .int n), (Sum.inr "left", .int l)]
theorem pen_cells (c : Addr) (n l : Int) : valV (penL c n l) (Sum.inr "cells") = some (.ref c) := rfl
theorem pen_next (c : Addr) (n l : Int) : valV (penL c n l) (Sum.inr "next") = some (.int n) := rfl
theorem pen_left (c : Addr) (n l : Int) : valV (penL c n l) (Sum.inr "left") = some (.int l) := rfl
theorem pen_put_next (c : Addr) (n l m : Int) : putK (penL c n l) (Sum.inr "next") (.int m) = penL c m l := rfl
theorem pen_put_left (c : Addr) (n l m : Int) : putK (penL c n l) (Sum.inr "left") (.int m) = penL c n m := rfl
/-- at p stands a pen that has opened at most B cells -/
def Pen (H : Hp) (p : Addr) (B : Int) : Prop := ∃ (c : Addr) (cs : List Int) (n l : Int), H p = some (.dK (penL c n l)) ∧ H c = some (.lst (cs.map V.int)) ∧ cs.length ≤ 63 ∧ 0 ≤ n ∧ n ≤ B
theorem Pen.ne {H : Hp} {p b : Addr} {B : Int} {o : HO} (P : Pen H p B) (h : H b = some o) (n : ∀ kvs, o ≠ .dK kvs) : b ≠ p := fun e => by
  obtain ⟨c, cs, k, l, hp, _⟩ := P
  rw [e, hp] at h
  exact n _ (Option.some.inj h).symm
theorem Pen.lst {H H' : Hp} {p b : Addr} {B : Int} {xs : List V} (P : Pen H p B) (s : Sb p H H') (h : H b = some (.lst xs)) : H' b = some (.lst xs) := s b _ (P.ne h fun _ z => nomatch z) h
theorem Pen.tup {H H' : Hp} {p b : Addr} {B : Int} {xs : List V} (P : Pen H p B) (s : Sb p H H') (h : H b = some (.tup xs)) : H' b = some (.tup xs) := s b _ (P.ne h fun _ z => nomatch z) h
theorem Pen.keep {H H' : Hp} {p : Addr} {B : Int} (P : Pen H p B) (s : Same H H') : Pen H' p B := by
  obtain ⟨c, cs, n, l, hp, hc, r⟩ := P
  exact ⟨c, cs, n, l, s _ _ hp, s _ _ hc, r⟩
theorem Pen.new {H : Hp} {p q : Addr} {B : Int} {o : HO} (P : Pen H p B) (h : H q = none) : Pen (upd H q o) p B := P.keep (same_new h)
theorem Pen.mono {H : Hp} {p : Addr} {B B' : Int} (P : Pen H p B) (h : B ≤ B') : Pen H p B' := by
  obtain ⟨c, cs, n, l, hp, hc, a, b, d⟩ := P
  exact ⟨c, cs, n, l, hp, hc, a, b, Int.le_trans d h⟩
def spDraw : Sp := fun vs H Q _ => ∃ (p : Addr) (B m : Int), vs = [.ref p, .int m] ∧ Pen H p B ∧ B < 1000000 ∧ 0 < m ∧ m < 1000000 ∧
  ∀ (H' : Hp) (d : Int), Sb p H H' → Pen H' p (B + 1) → 0 ≤ d → d < m → Q (.int d) H'
theorem fmod_lt {a m : Int} (h : 0 < m) : 0 ≤ a.fmod m ∧ a.fmod m < m := ⟨Int.fmod_nonneg_of_pos a h, Int.fmod_lt_of_pos a h⟩
theorem cmul_l {i j : Int} (h0 : 0 ≤ i) (h : i ≤ 1000000000000) : CMul i j := .inl ⟨by omega, by omega⟩
theorem cdiv {i j : Int} (h0 : 0 < j) (h : j < 1000000) : CDivN i j := ⟨by omega, by omega⟩
theorem dp_ints {K : PySem.W.Frag} {H : Hp} : ∀ cs : List Int, DpAll K H (cs.map V.int) (cs.map PyData.int)
  | [] => .nil
  | c :: cs => .cons (.int c) (dp_ints cs)
theorem canLay_ints : ∀ cs : List Int, PyData.canLayAll0 (cs.map PyData.int) = true
  | [] => by simp only [List.map, PyData.canLayAll0]
  | c :: cs => by simp only [List.map, PyData.canLayAll0, PyData.canLay0, canLay_ints cs, Bool.and_self]
theorem depth_ints : ∀ cs : List Int, PyData.depthAll (cs.map PyData.int) = 0
  | [] => by simp only [List.map, PyData.depthAll]
  | c :: cs => by simp only [List.map, PyData.depthAll, PyData.depth, depth_ints cs, Nat.max_self]
theorem shaped_ints (cs : List Int) : SeqAt.shaped (.list (cs.map PyData.int)) = true := by
  unfold SeqAt.shaped
  rw [PyData.canLay0, PyData.depth, canLay_ints, depth_ints]
  rfl
theorem at_ints (cs : List Int) {z : Int} (h0 : 0 ≤ z) (h : z < (cs.length : Int)) : ∃ v, atI (cs.map V.int) z = some (V.int v) := by
  obtain ⟨j, rfl⟩ := Int.eq_ofNat_of_zero_le h0
  have hj : j < cs.length := by omega
  exact ⟨cs[j], atI_nat (by rw [List.getElem?_map, List.getElem?_eq_getElem hj]; rfl)⟩
theorem cmul_mod {a m j : Int} (h : 0 < m) (h2 : m ≤ 1000000000000) : CMul (a.fmod m) j := cmul_l (fmod_lt h).1 (Int.le_trans (Int.le_of_lt (fmod_lt h).2) h2)
end My
namespace My
open PySem PySem.Calls PyProof.Rows L2
/-- self.f = f, one row a field -/
inductive Asgs : List Stmt → List Str → Prop
  | nil : Asgs [] []
  | cons {f : Str} {fs : List Str} {rest : List Stmt} {a b c d : Pos} (h : Asgs rest fs) : Asgs (.Assign [.Attribute (.Name "self" a) f b] (.Name f c) d :: rest) (f :: fs)
/-- super().__init__(..), then the fields -/
inductive InitBody : List Stmt → List Str → Prop
  | mk {x : Str} {j : Nat} {rest : List Stmt} {fs : List Str} {p0 p1 p2 p3 p4 p5 : Pos} (h : Asgs rest fs) (hp : (p2.endLine == p4.line) = true) :
      InitBody (.Expr (.Call (.Attribute (.Call (.Name "super" p0) [] [] p1) "__init__" p2) [.Constant (.str x) j p3] [] p4) p5 :: rest) fs
section
variable {prog : Program} {w : World} {A : Around} {E : Value → Shared → Prop} {h : Heap} {g : Array GenState} {d : Drawn} {t : Nat} {os : OsState}
/-- the wrapper of ValueError.__init__ is called -/
theorem call_mw {u e t0 C N : Addr} {nm q : Str} {bs bm : List Value} {hdct : Bool} {sn : List Str} {sub : List Value} {ab : Bool} {col : Option Bool} {dd : Option Addr} {k0 k1 k2 k3 k5 : Option Value} {rest : List Value} {Q : Value → Shared → Prop}
    (hC : h.get? C = some (excClassObj nm q C N bs bm hdct sn sub ab col dd k0 k1 k2 k3 k5 "ValueError.__new__")) (he : h.get? e = some (HandSPX.excO C t0)) (hu : h.get? u = some (W.kxs_mw "ValueError.__init__" e))
    (hq : ∀ h' t1, (∀ b o, b ≠ e → h.get? b = some o → h'.get? b = some o) → h'.get? e = some (HandSPX.excO C t1) → Q .none ⟨h', g, d, t, os⟩) (hz : rest.length ≤ sizeLine) :
    wpAny (model prog w) A (call (.ref u) rest) Q E ⟨h, g, d, t, os⟩ := by
  refine wpAny_call (codeAny_of_tree ?_)
  show wpAny _ A.in1 (callAny (.ref u) ⟨rest, []⟩) _ _ _
  unfold callAny
  refine wpAny_bind (wpAny_load hu ?_)
  simp only [W.kxs_mw, show (Value.type "method-wrapper" == Value.type "method" || Value.type "method-wrapper" == Value.type "builtin_function_or_method" || Value.type "method-wrapper" == Value.type "method-wrapper") = true by decide, if_true]
  refine W.KFB.if_so (by decide) ?_
  refine wpAny_bind (W.check_bound_init F.excBase_ValueError.toExcCallFacts hC he rfl ?_)
  refine wpAny_bind (wpAny_pure (wpAny_pure ⟨Code.quiet_builtin _ (by decide +kernel), codeAny_builtin F.excBase_ValueError.initEntry ?_⟩))
  rw [Around.under_plainId F.excBase_ValueError.init.plain _]
  wp_walk
  refine hq _ h.objs.size (fun b o hb ho => ?_) ?_
  · exact (Heap.get?_update_other _ _ (Ne.symm hb)).trans (Heap.get?_push_of_some _ ho)
  · rw [Heap.get?_update_self _ (Heap.get?_push_of_some _ he) rfl]
    rfl
end
/-- how the exception at x stands while its fields are stored -/
def Exs (C x : Addr) (b0 : Nat) (acc : List (Str × V)) (h : Heap) : Prop :=
  (acc = [] ∧ ∃ t1 : Addr, h.get? x = some (HandSPX.excO C t1)) ∨
  ∃ t1 dx : Addr, acc ≠ [] ∧ h.get? x = some ({ cls := .ref C, dict := some dx, data := .fields #[.ref t1, .none, .none, .none, .bool false, .none] } : Obj) ∧ b0 ≤ dx ∧ dx ≠ x ∧ ∃ mA, h.Ns1 dx mA ∧ ∀ f, RelO (acc.lookup f) (mA f)
section
variable {prog : Program} {w : World} {A : Around} {E : Value → Shared → Prop} {K : W.Frag}
theorem set_one {C x : Addr} {b0 : Nat} {acc : List (Str × V)} {f : Str} {y : V} {u : Value} {Q : Unit → Shared → Prop} {s : Shared} (T : OexC K C) (X : K.In s.heap) (hz : b0 ≤ s.heap.objs.size) (hl : acc.length ≤ 900) (e : Exs C x b0 acc s.heap) (ry : RelV y u) (hno : W.findIn K (.ref C) f = some none)
    (hq : ∀ h' t', (∀ b o, b ≠ x → b < b0 → s.heap.get? b = some o → h'.get? b = some o) → b0 ≤ h'.objs.size → Exs C x b0 ((f, y) :: acc) h' → Q () { s with heap := h', toks := t' }) :
    wpAny (model prog w) A (setAttr (.ref x) f u) Q E s := by
  obtain ⟨nm, q, N, bs, bm, sn, sub, ab, col, dd, k0, k1, k2, k3, k5, hC, hbm⟩ := T.cls
  have hcl : W.clsIn K C = some { name := nm, bases := bs, mro := .ref C :: bm, ns := N, qualname := q, hasDict := true, slotNames := sn, subclasses := sub, abstract := ab, collection := col, hasDel := false } := by unfold W.clsIn; rw [hC] <;> rfl
  obtain ⟨hp, g, d, t, os⟩ := s
  rcases e with ⟨rfl, t1, hx⟩ | ⟨t1, dx, _, hx, hb, hne, mA, hns, rel⟩
  · refine W.set_plain X (ox := { cls := .ref C, dict := none, data := .fields #[.ref t1, .none, .none, .none, .bool false, .none] }) (od := none) ⟨hx, rfl, rfl, trivial⟩ T.sa ?_
    refine HandSPX.exc_osa X hx hcl (show HandSPX.refsVE (.ref C :: bm) = true from hbm) rfl hno (fun h' tk' dx k dn dne hx' hn => ?_)
    have hsz : dx < h'.objs.size := by
      obtain ⟨o, _, _, e1, _⟩ := hn
      exact Heap.lt_size e1
    exact hq h' tk' (fun b o hb _ z => k b o hb z) (Nat.le_trans hz (Nat.le_trans dn (Nat.le_of_lt hsz))) (.inr ⟨t1, dx, (fun z => nomatch z), hx', Nat.le_trans hz dn, dne, _, hn, relO_put (fs := []) ry fun g => True.intro⟩)
  · have hw := within_of rel
    obtain ⟨oD, _, _, hoD, _, _⟩ := hns.count hw
    refine W.set_plain X (ox := { cls := .ref C, dict := some dx, data := .fields #[.ref t1, .none, .none, .none, .bool false, .none] }) (od := some oD) ⟨hx, rfl, rfl, hoD⟩ T.sa ?_
    refine OEX.osa_old X hx hns hw (by rw [List.length_map]; omega) hcl (show HandSPX.refsVE (.ref C :: bm) = true from hbm) rfl hno (fun h' tk' k hn => ?_)
    have hx' := k x _ (Ne.symm hne) hx
    have hsz : dx < h'.objs.size := by
      obtain ⟨o, _, _, e1, _⟩ := hn
      exact Heap.lt_size e1
    exact hq h' tk' (fun b o _ hlt z => k b o (fun q => by rw [q] at hlt; exact absurd hb (Nat.not_le_of_lt hlt)) z) (Nat.le_trans hb (Nat.le_of_lt hsz)) (.inr ⟨t1, dx, (fun z => nomatch z), hx', hb, hne, _, hn, relO_put ry rel⟩)
theorem asgs_run {C x L : Addr} {b0 : Nat} {env : Env} {m : Str → Option Value} (T : OexC K C) (hk : env.scope.kind = .function) (hL : env.locals = L) (hLb : L < b0) (hLx : L ≠ x) (hself : m "self" = some (.ref x)) (hks : env.kindOf "self" = some .local) {rest : List Stmt} {fs : List Str} (hr : Asgs rest fs) :
    ∀ {ys : List V} {us : List Value} {acc : List (Str × V)} {s : Shared} {Q : Flow → Shared → Prop}, Vals ys us → (∀ (i : Nat) f u, fs[i]? = some f → us[i]? = some u → m f = some u) → ys.length = fs.length → acc.length + fs.length ≤ 900 →
      (∀ f ∈ fs, env.kindOf f = some .local ∧ (f == ("__debug__" : Str)) = false ∧ W.findIn K (.ref C) f = some none) → K.In s.heap → (∀ b o, K.lookup b = some o → b ≠ x ∧ b < b0) → s.heap.Ns L m → b0 ≤ s.heap.objs.size → Exs C x b0 acc s.heap →
      (∀ h' t', (∀ b o, b ≠ x → b < b0 → s.heap.get? b = some o → h'.get? b = some o) → b0 ≤ h'.objs.size → Exs C x b0 ((fs.zip ys).reverse ++ acc) h' → Q .next { s with heap := h', toks := t' }) →
      wpAny (model prog w) A (execs rest env) Q E s := by
  induction hr with
  | nil =>
    intro ys us acc s Q hv hm hlen hl hf X KX hns hz e hq
    have : ys = [] := List.eq_nil_of_length_eq_zero hlen
    subst this
    exact wpAny_execs_nil (hq s.heap s.toks (fun _ _ _ _ z => z) hz e)
  | @cons f fs rest a b c d hr ih =>
    intro ys us acc s Q hv hm hlen hl hf X KX hns hz e hq
    cases hv with
    | nil => cases hlen
    | @cons y u ys us ry hv =>
      obtain ⟨hfl, hfd, hfn⟩ := hf f List.mem_cons_self
      have hmf : m f = some u := hm 0 f u rfl rfl
      subst hL
      refine wpAny_execs_cons (plainObj_wpAny_Assign_Attribute (wpAny_Name (wpAny_loadName_local hk hfl hns hmf (wpAny_Name (wpAny_loadName_local hk hks hns hself ?_) (by decide))) hfd) ?_)
      · refine set_one (b0 := b0) T X hz (by have := hl; simp only [List.length_cons] at this; omega) e ry hfn fun h' t' k hz' e' => ?_
        have kx : ∀ b o, K.lookup b = some o → h'.get? b = some o := fun b o q => k b o (KX b o q).1 (KX b o q).2 (X b o q)
        have hns' : h'.Ns env.locals m := by
          obtain ⟨o, es, ep, e1, r⟩ := hns
          exact ⟨o, es, ep, k _ _ hLx hLb e1, r⟩
        refine ih hv (fun i f' u' h1 h2 => hm (i + 1) f' u' h1 h2) (Nat.succ.inj hlen) (by simp only [List.length_cons] at hl ⊢; omega) (fun f' hf' => hf f' (List.mem_cons_of_mem _ hf')) kx KX hns' hz' e' fun h2 t2 k2 hz2 e2 => ?_
        refine hq h2 t2 (fun b o hb hlt z => k2 b o hb hlt (k b o hb hlt z)) hz2 ?_
        rw [List.zip_cons_cons, List.reverse_cons, List.append_assoc]
        exact e2
      · rfl
end
/-- what the written part says of the own error x, its class at C, its __init__ at fI by the text st, with the fields fs -/
structure ErrT (P : Program) (K : W.Frag) (mg : Str → Option Value) (x : Str) (C fI : Addr) (fd : FuncData) (st : Stmt) (fs : List Str) : Prop where
  o : OexC K C
  gC : mg x = some (.ref C)
  iC : W.findIn K (.ref C) "__init__" = some (some (.ref fI))
  tI : W.typeIn K (.ref fI) = some (.type "function")
  lk : ∃ (oc : Value) (od : Option Addr) (q : Str) (kV dc pm : Value) (an : Option Addr) (cda : Addr) (ct : Value) (cc : Addr) (osl : Array (Option Value)) (vs : Array Value) (file : Str) (tf : Tok) (ccl : Value) (cdd : Option Addr) (ccs : Array (Option Value)) (cl : Value) (cld : Option Addr) (csl : Array (Option Value)),
    fd = W.ksFn "__init__" q (defArgs st) (defBody st) (defScope st) .none kV dc pm an (.ref cda) ct cc ∧ K.lookup fI = some ⟨oc, od, .func fd, osl⟩ ∧ W.codeIn K (.ref cda) q = true ∧ K.lookup cda = some ⟨ccl, cdd, .fields vs, ccs⟩ ∧ vs[2]? = some (.str file tf) ∧ ((P.main.file : Str) == file) = true ∧ K.lookup cc = some ⟨cl, cld, .cell (some (.ref C)), csl⟩
  su : W.ks_superIn K C C "__init__" = some (some (.builtin "ValueError.__init__"))
  ve : W.subIn K (.ref C) (.type "ValueError") = some true
  sub : W.mroIn K C (.ref C) = some true
  op : W.nsIn K cStatics "thirdparty.any" = some none
  sup : mg "super" = none
  top : (P.main.scope.names.lookup ("super" : Str)).isSome = false
  nf : ∀ f ∈ fs, W.findIn K (.ref C) f = some none
/-- what the text of such an __init__ is -/
structure ErrS (st : Stmt) (fs : List Str) : Prop where
  bd : InitBody (defBody st) fs
  pr : ∃ ar : Arg, ((defArgs st).posonlyargs ++ (defArgs st).args).head? = some ar ∧ ar.arg = "self"
  kind : (defScope st).kind = .function
  co : (defScope st).isCoroutine = false
  gen : (defScope st).isGenerator = false
  cell : ∀ y ∈ (defScope st).names, y.2 ≠ .cell
  loc : ∀ f ∈ ("self" : Str) :: fs, (defScope st).names.lookup f = some .local ∧ (f == ("__debug__" : Str)) = false
  nd : (("self" : Str) :: fs).Nodup
  ks : (defScope st).names.lookup ("super" : Str) = some .globalImplicit
  kc : (defScope st).names.lookup ("__class__" : Str) = some .free
  small : fs.length ≤ 900
def spErr (C : Addr) (fs : List Str) : Sp := fun vs H Q _ => ∃ (a : Addr) (ys : List V), vs = .ref a :: ys ∧ ys.length = fs.length ∧ H a = some (exo a C none) ∧
  (fs = [] → Q .non H) ∧ (fs ≠ [] → ∀ dx, H dx = none → dx ≠ a → Q .non (upd (upd H dx (exd dx (fs.zip ys).reverse)) a (exo a C (some dx))))
theorem zip_look : ∀ {fs : List Str} {us : List Value} {i : Nat} {f : Str} {u : Value}, fs.Nodup → us.length = fs.length → fs[i]? = some f → us[i]? = some u → (fs.zip us).reverse.lookup f = some u
  | [], us, i, f, u, _, _, h, _ => by simp at h
  | g :: fs, [], i, f, u, _, hl, _, _ => by cases hl
  | g :: fs, v :: us, i, f, u, nd, hl, h1, h2 => by
    obtain ⟨n1, n2⟩ := List.nodup_cons.mp nd
    rw [List.zip_cons_cons, List.reverse_cons, List.lookup_append]
    cases i with
    | zero =>
      have e1 : g = f := Option.some.inj h1
      have e2 : v = u := Option.some.inj h2
      subst e1 e2
      have : (fs.zip us).reverse.lookup g = none := by
        rw [List.lookup_eq_none_iff]
        intro p hp
        have hm := (List.of_mem_zip (List.mem_reverse.mp hp)).1
        simp only [bne_iff_ne, ne_eq, beq_eq_false_iff_ne]
        intro z
        rw [z] at n1
        exact n1 hm
      rw [this]
      simp [List.lookup]
    | succ i =>
      have ih := zip_look (fs := fs) (us := us) (i := i) (f := f) (u := u) n2 (Nat.succ.inj hl) h1 h2
      rw [ih]
      rfl
theorem sup_form {env : Env} {tx : Str} {j : Nat} {p0 p1 p2 p3 p4 : Pos} (hp : (p2.endLine == p4.line) = true) :
    eval (.Call (.Attribute (.Call (.Name "super" p0) [] [] p1) "__init__" p2) [.Constant (.str tx) j p3] [] p4) env = (do
      let ov ← attributeBase (.Call (.Name "super" p0) [] [] p1) "__init__" env (eval (.Call (.Name "super" p0) [] [] p1) env)
      standAt p2.atName
      let (f, first) ← holding [ov] (getMethod ov "__init__" (do return (← importBound (.Call (.Name "super" p0) [] [] p1) env).getD true))
      callWith p4 f first (backTo p4 (starEach [.Constant (.str tx) j p3] env)) []) := by
  show (do
    let ov ← attributeBase (.Call (.Name "super" p0) [] [] p1) "__init__" env (eval (.Call (.Name "super" p0) [] [] p1) env)
    standAt p2.atName
    methodCall (.Call (.Name "super" p0) [] [] p1) "__init__" p2 p4 env ov 1 (backTo p4 (starEach [.Constant (.str tx) j p3] env)) (backToKw p4 (keywordEach [] env))) = _
  have hf : methodCallForm 1 (backTo p4 (starEach [.Constant (.str tx) j p3] env)) (backToKw p4 (keywordEach [] env)) = true := rfl
  simp only [methodCall, methodCallPos, hf, hp, Bool.or_true, if_true, pure_bind, calleeOf]
  rfl
section
variable {P : Program} {w : World} {K : W.Frag} {mg : Str → Option Value} {base : Heap} {x : Str} {C fI : Addr} {fd : FuncData} {st : Stmt} {fs : List Str}
theorem ok_err {k : Nat} (T : ErrT P K mg x C fI fd st fs) (S : ErrS st fs) : FnOk P w K mg base CX0 k fI fd (("self" : Str) :: fs) (spErr C fs) := by
  refine ⟨fun vs H Q E hs => ?_, fun A outer s H args us vs Q E hr e0 hb hv hs => ?_⟩
  · obtain ⟨a, ys, rfl, hl, _⟩ := hs
    rw [List.length_cons, List.length_cons, hl]
  obtain ⟨a, ys, rfl, hlen, ha, q0, q1⟩ := hs
  obtain ⟨oc, od, q, kV, dc, pm, an, cda, ct, cc, osl, vs, file, tf, ccl, cdd, ccs, cl, cld, csl, rfl, lkI, hcd, hcode, hvs, hfile, hcell⟩ := T.lk
  obtain ⟨ar, hpr, har⟩ := S.pr
  obtain ⟨nm, qn, N, bs, bm, sn, sub, ab, col, dd, k0, k1, k2, k3, k5, hC, hbm⟩ := T.o.cls
  cases hv with
  | @cons _ ua _ us ra hv =>
  cases ra
  have bk : ∀ b o, base.get? b = some o → s.heap.get? b = some o := fun b o e => (e0.bs b o e).1
  have X : K.In s.heap := e0.mod.kin.keeps bk
  have lim : s.heap.NoLimit := e0.mod.nolimit.keeps bk
  obtain ⟨t1, hx⟩ := exo_at e0.hok ha
  have hul : us.length = fs.length := hv.length.symm.trans hlen
  have KX : ∀ b o, K.lookup b = some o → b ≠ a ∧ b < s.heap.objs.size + 1 := fun b o e => by
    have h1 := e0.bs b o (e0.mod.kin b o e)
    refine ⟨fun z => ?_, Nat.lt_succ_of_lt (Heap.lt_size h1.1)⟩
    rw [z, ha] at h1
    cases h1.2
  have hloc : ∀ y ∈ (("self" : Str) :: fs).zip (Value.ref a :: us), (defScope st).names.lookup y.1 = some .local := fun y hy => (S.loc _ (List.of_mem_zip hy).1).1
  refine ks_codeAny_call_defAt hr.depth (X _ _ lkI) rfl lim (W.codeRec_of X hcd) rfl hb S.cell hloc (fun h1 hns hk1 => ?_) S.co S.gen S.kind
  -- the body
  have X1 : K.In h1 := X.keeps hk1
  have hx1 := hk1 _ _ hx
  have hbd := S.bd
  have hcd1 : W.clsIn K C = some { name := nm, bases := bs, mro := .ref C :: bm, ns := N, qualname := qn, hasDict := true, slotNames := sn, subclasses := sub, abstract := ab, collection := col, hasDel := false } := by unfold W.clsIn; rw [hC] <;> rfl
  have hsz1 : s.heap.objs.size < h1.objs.size := by
    obtain ⟨o, _, _, e1, _⟩ := hns
    exact Heap.lt_size e1
  generalize hBd : defBody st = bd at hbd ⊢
  obtain ⟨mb, hbn, hbb⟩ := e0.mod.blt
  cases hbd with
  | @mk tx j rest fs p0 p1 p2 p3 p4 p5 hrest hpp =>
  have hself : (fun y => ((("self" : Str) :: fs).zip (Value.ref a :: us)).reverse.lookup y) "self" = some (.ref a) := zip_look (i := 0) S.nd (by rw [List.length_cons, List.length_cons, hul]) rfl rfl
  refine ks_wpAt_execs_cons (ks_wpAt_Expr_any (ks_wpAt_MethodCall (ks_wpAt_super_base S.ks S.kc (by decide) rfl (hk1 _ _ (X _ _ lkI)) rfl hpr rfl (X1 _ _ hcode) rfl hvs hfile T.top ?_) (sup_form hpp)) (by simp [interactive, callEnv, newEnv, S.kind]))
  refine W.ks_loadName_global S.kind S.ks (loadGlobal_builtin (mb := mb) ((e0.mod.glob.keeps bk).keeps hk1) T.sup ((hbn.keeps bk).keeps hk1) ((hbb _ (by decide +kernel)).trans PyProof.Rows.Boot.«super») ⟨rfl, ?_⟩)
  refine wpAny_loadName_free S.kind S.kc rfl ⟨_, X1 _ _ hcell, rfl⟩ ?_
  rw [har]
  refine wpAny_loadName_local S.kind (S.loc _ List.mem_cons_self).1 hns hself ?_
  refine ks_wpAny_isType_cls (X1 _ _ hC) rfl ⟨rfl, ?_⟩
  refine ks_wpAny_call_super (X1 _ _ hC) rfl hx1 rfl (fun c e => nomatch e) (W.looks_mroIn X1 T.sub) (fun h2 e2 k2 => ?_)
  have X2 : K.In h2 := X1.keeps k2
  have hx2 := k2 _ _ hx1
  have I2 : W.InstAt h2 a _ C none := ⟨hx2, rfl, rfl, trivial⟩
  refine W.kxs_getMethod W.kxs_ValueError e2 (W.looks_opaque X2 T.op) ((W.looks_clsIn X2 hcd1).andThen .now) rfl X2 (by
    have q := T.su
    unfold W.ks_superIn at q
    rw [hcd1] at q
    exact q) (I2.type.andThen (W.looks_subIn X2 T.ve)) (W.ks_ne X2 I2 hcd1) (by decide) ?_
  refine W.kxs_callWith (i := "ValueError.__init__") (u := h2.objs.size) (x := a) rfl (evalArgs_plain (spliced_cons (Constant_str (k := j) (pos := p3) (spliced_nil ⟨Heap.get?_push_at rfl rfl, ?_⟩))))
  have k3 : ∀ b o, h2.get? b = some o → (h2.push (W.kxs_mw "ValueError.__init__" a)).get? b = some o := fun b o e => Heap.get?_push_of_some _ e
  refine call_mw (k3 _ _ (X2 _ _ hC)) (k3 _ _ hx2) (Heap.get?_push_at rfl rfl) (fun h4 t4 k4 hx4 => ?_) (by show 1 ≤ sizeLine; decide)
  have hLa : s.heap.objs.size ≠ a := fun z => by
    have := Heap.lt_size hx
    rw [← z] at this
    exact Nat.lt_irrefl _ this
  have k04 : ∀ b o, b ≠ a → h1.get? b = some o → h4.get? b = some o := fun b o hb e => k4 b o hb (k3 _ _ (k2 _ _ e))
  have X4 : K.In h4 := fun b o e => k04 b o (KX b o e).1 (X1 b o e)
  have hns4 : h4.Ns s.heap.objs.size (fun y => ((("self" : Str) :: fs).zip (Value.ref a :: us)).reverse.lookup y) := by
    obtain ⟨o, es, ep, e1, r⟩ := hns
    exact ⟨o, es, ep, k04 _ _ hLa e1, r⟩
  have hz4 : s.heap.objs.size + 1 ≤ h4.objs.size := by
    obtain ⟨o, _, _, e1, _⟩ := hns4
    exact Heap.lt_size e1
  refine wpAt_of_wpAny ?_
  refine asgs_run (L := s.heap.objs.size) (b0 := s.heap.objs.size + 1) T.o (by exact S.kind) (by rfl) (Nat.lt_succ_self _) hLa hself (by exact (S.loc _ List.mem_cons_self).1) hrest hv (fun i f u h1 h2 => zip_look (i := i + 1) S.nd (by rw [List.length_cons, List.length_cons, hul]) h1 h2) hlen (by show 0 + fs.length ≤ 900; have := S.small; omega)
    (fun f hf => ⟨by exact (S.loc _ (List.mem_cons_of_mem _ hf)).1, (S.loc _ (List.mem_cons_of_mem _ hf)).2, T.nf f hf⟩) X4 KX hns4 hz4 (.inl ⟨rfl, t4, hx4⟩) fun h5 t5 k5' hz5 e5 => ?_
  rw [List.append_nil] at e5
  have keep : ∀ b o, b ≠ a → s.heap.get? b = some o → h5.get? b = some o := fun b o hb e => k5' b o hb (Nat.lt_succ_of_lt (Heap.lt_size e)) (k04 b o hb (hk1 b o e))
  have na : ∀ b, H b = none → b ≠ a := fun b n z => by
    rw [z, ha] at n
    cases n
  have gens : AllBare s.gens := e0.bare
  rcases e5 with ⟨enil, t6, hx6⟩ | ⟨t6, dx, hnn, hx6, hdb, hda, mA, hmA, rel⟩
  · have hfs : fs = [] := by
      cases fs with
      | nil => rfl
      | cons f fs =>
        cases ys with
        | nil => cases hlen
        | cons y ys => simp at enil
    refine ⟨.non, H, rfl, gens, ⟨fun b o e n _ _ => keep b o (na b n) e, fun b o e n _ _ => ⟨o.slots, keep b o (na b n) e⟩, fun b o _ n _ => n, fun b o e _ => ?_, fun b xs q => q, fun b o u q => q, fun b ps q => ⟨#[], by rw [q]; simp⟩⟩, fun b o e => ?_, rfl, q0 hfs⟩
    · by_cases hb : b = a
      · exact ⟨_, by rw [hb]; exact hx6⟩
      · exact ⟨o, keep b o hb e⟩
    · by_cases hb : b = a
      · subst hb
        rw [ha] at e
        cases e
        exact exo_ok hx6
      · exact (e0.hok b o e).stay (fun c v hc z => keep c v (by
          rcases hc with hc | hc
          · rw [hc]; exact hb
          · exact at_ne ha hc exo_own) z) (fun c hc => hc) (fun c xs hc => hc)
  · have hfs : fs ≠ [] := fun z => by
      subst z
      have := List.eq_nil_of_length_eq_zero hlen
      subst this
      exact hnn rfl
    have hdn : H dx = none := e0.hok.fresh (Nat.le_of_succ_le hdb)
    have nd : ∀ b o, s.heap.get? b = some o → b ≠ dx := fun b o e z => by
      have h1 := Heap.lt_size e
      rw [z] at h1
      exact absurd hdb (Nat.not_le_of_lt (Nat.lt_succ_of_lt h1))
    refine ⟨.non, _, rfl, gens, ⟨fun b o e n _ _ => keep b o (na b n) e, fun b o e n _ _ => ⟨o.slots, keep b o (na b n) e⟩, fun b o e n _ => by rw [upd_ne (na b n), upd_ne (nd b o e)]; exact n, fun b o e _ => ?_,
      fun b xs q => by rw [upd_ne (at_ne ha q exo_tup), upd_ne (ne_of_none q hdn)]; exact q, fun b o u q => by rw [upd_ne (at_ne ha q exo_frz), upd_ne (ne_of_none q hdn)]; exact q, fun b ps q => ⟨#[], by rw [upd_ne (at_ne ha q exo_tbl), upd_ne (ne_of_none q hdn), q]; simp⟩⟩, fun b o e => ?_, rfl, q1 hfs dx hdn hda⟩
    · by_cases hb : b = a
      · exact ⟨_, by rw [hb]; exact hx6⟩
      · exact ⟨o, keep b o hb e⟩
    · by_cases hb : b = a
      · subst hb
        rw [upd_same] at e
        cases e
        exact exo_ok hx6
      · rw [upd_ne hb] at e
        by_cases hd : b = dx
        · subst hd
          rw [upd_same] at e
          cases e
          exact exd_ok hmA rel
        · rw [upd_ne hd] at e
          exact (e0.hok b o e).stay (fun c v hc z => keep c v (by
            rcases hc with hc | hc
            · rw [hc]; exact hb
            · exact at_ne ha hc exo_own) z) (fun c hc => by rw [upd_ne (at_ne ha hc exo_own), upd_ne (ne_of_none hc hdn)]; exact hc) (fun c xs hc => by rw [upd_ne (at_ne ha hc exo_tup), upd_ne (ne_of_none hc hdn)]; exact hc)
end
end My
namespace My
open PySem PySem.Spec PyProof.Rows L2
/-- how the own error x with the fields fs stands in the written part -/
structure Er (P : Program) (K : PySem.W.Frag) (mg : Str → Option Value) (x : Str) (C fI : Addr) (fd : FuncData) (st : Stmt) (fs : List Str) : Prop where
  T : ErrT P K mg x C fI fd st fs
  S : ErrS st fs
  b : Binds K fd (("self" : Str) :: fs) []
  xf : XfC K C
/-- what the raise of x asks behind its arguments -/
theorem mk_ok {C : Addr} {fs : List Str} {vs : List V} {H : Hp} {Q : XK} (hl : vs.length = fs.length) (hz : vs.length ≤ 1000) (hn : fs ≠ []) (q : ∀ d, H d = none → Q (.ref C) (some d) (upd H d (.xd (fs.zip vs).reverse))) :
    vs.length ≤ 1000 ∧ ∀ a, H a = none → spErr C fs (.ref a :: (vs ++ [])) (upd H a (exo a C none))
      (fun v H2 => v = .non ∧ ∃ (d : Addr) (gs : List (Str × V)), H2 a = some (exo a C (some d)) ∧ H2 d = some (exd d gs) ∧ H d = none ∧ Q (.ref C) (some d) (upd (del H2 a) d (.xd gs))) (fun _ _ _ => False) := by
  refine ⟨hz, fun a ha => ⟨a, vs, by rw [List.append_nil], hl, upd_same, fun z => absurd z hn, fun _ d hd hda => ⟨rfl, d, (fs.zip vs).reverse, upd_same, ?_, ?_, ?_⟩⟩⟩
  · rw [upd_ne hda, upd_same]
  · rw [upd_ne hda] at hd
    exact hd
  · rw [upd_ne hda] at hd
    have e : upd (del (upd (upd (upd H a (exo a C none)) d (exd d (fs.zip vs).reverse)) a (exo a C (some d))) a) d (.xd (fs.zip vs).reverse) = upd H d (.xd (fs.zip vs).reverse) := by
      funext b
      by_cases h1 : b = d
      · rw [h1, upd_same, upd_same]
      · rw [upd_ne h1, upd_ne h1]
        by_cases h2 : b = a
        · rw [h2, del_same, ha]
        · rw [del_ne h2, upd_ne h2, upd_ne h1, upd_ne h2]
    rw [e]
    exact q d hd
section
variable {X : Cx} {x : Str} {C fI : Addr} {fd : FuncData} {st : Stmt} {fs : List Str} {e : Expr} {es : List Expr} {ta : TA} {p pos pos2 : Pos} {W : WX}
/-- raise x(e, ..) -/
theorem ps_err (R : Er X.prog X.K X.mg x C fI fd st fs) (hr : Room 1 X.A) (hc : X.calm = true) (tk : Takes X W) (ha : PA X (e :: es) ta) (hg : Gl X x := by rfl)
    (hdb : (x == ("__debug__" : Str)) = false := by decide) (he : starEach (e :: es) X.env = (false, eval e X.env) :: starEach es X.env := by rfl) (hpl : (backTo pos (starEach es X.env)).any (·.1) = false := by rfl) :
    PS X (.Raise (some (.Call (.Name x p) (e :: es) [] pos)) none pos2) (fun _ σ H => tMkO C (spErr C fs) [] ta σ H fun cls d H' => W cls d σ H') :=
  ps_raise hc tk (pmk_oex (k := 0) R.T.o R.T.iC R.T.tI (ok_err R.T R.S) hr R.b .nil (fun _ _ _ _ _ _ _ z => z.elim) hg R.T.gC ha hdb he hpl)
/-- x(), an error without fields, made to be raised -/
theorem pmk_err0 {x : Str} {C fI : Addr} {fd : FuncData} {st : Stmt} (R : Er X.prog X.K X.mg x C fI fd st []) (hr : Room 1 X.A) (hg : Gl X x := by rfl) (hdb : (x == ("__debug__" : Str)) = false := by decide) :
    PMk X (.Call (.Name x p) [] [] pos) (fun _ H Q => Q (.ref C) none H) := by
  intro pins s σ H Q I1 q
  have T := R.T.o
  obtain ⟨nm, qn, N, bs, bm, sn, sub, ab, col, dd, k0, k1, k2, k3, k5, hC, hbm⟩ := T.cls
  refine wpAny_Call_Name_kw (ld_glob I1 hg R.T.gC ?_ hdb)
  refine PySem.W.callWith_K0 I1.kIn T.kC ?_
  show wpAny _ _ (call (.ref C) []) _ _ _
  obtain ⟨hp, g, dr, tk, os⟩ := s
  have hsz : hp.objs.size ≤ hp.objs.size + 1 := Nat.le_succ _
  have hn : H (hp.objs.size + 1) = none := I1.hok.fresh hsz
  have kk : ∀ b o, hp.get? b = some o → ((hp.push (PySem.W.kdv_tup [])).push (PySem.HandSPX.excO C hp.objs.size)).get? b = some o := fun b o e => Heap.get?_push_of_some _ (Heap.get?_push_of_some _ e)
  have hget : ((hp.push (PySem.W.kdv_tup [])).push (PySem.HandSPX.excO C hp.objs.size)).get? (hp.objs.size + 1) = some (PySem.HandSPX.excO C hp.objs.size) := by heap_get
  have I2 : Inv X pins σ (upd H (hp.objs.size + 1) (exo (hp.objs.size + 1) C none)) ⟨(hp.push (PySem.W.kdv_tup [])).push (PySem.HandSPX.excO C hp.objs.size), g, dr, tk, os⟩ :=
    I1.laid (t' := tk) (a := hp.objs.size + 1) (o := exo (hp.objs.size + 1) C none) (h' := (hp.push (PySem.W.kdv_tup [])).push (PySem.HandSPX.excO C hp.objs.size)) kk hsz (exo_ok hget)
  have F1 : FnOk X.prog X.w X.K X.mg X.base CX0 0 fI fd (("self" : Str) :: []) (spErr C []) := ok_err R.T R.S
  generalize ea : hp.objs.size + 1 = a at hn hget I2 hsz
  have hq : spErr C [] [.ref a] (upd H a (exo a C none)) (fun v H2 => v = .non ∧ H2 = upd H a (exo a C none)) (fun _ _ _ => False) := ⟨a, [], rfl, rfl, upd_same, fun _ => ⟨rfl, rfl⟩, fun z => absurd rfl z⟩
  refine wpAny_call (PySem.HandSPX.call_own F.excBase_ValueError (fun Y => PySem.HandSPX.refsVE_contains Y bm hbm) (I1.kIn _ _ hC) (PySem.W.looks_findIn I1.kIn R.T.iC) (fun self => PySem.W.bind_fn I1.kIn self R.T.tI) (Nat.zero_le _) ?_)
  rw [ea]
  refine codeAny_mono (F1.run _ X.stack _ _ ⟨[.ref a], []⟩ [.ref a] [.ref a] _ (fun _ _ _ => False) (hr.make C [] []) (I2.env0.make C [] []) (R.b _ [.ref a] I2.kIn rfl) (.cons rfl .nil) hq) fun r s' hq' => ?_
  cases r with
  | error er => exact hq'.elim
  | ok fl =>
    cases fl with
    | ret u =>
      obtain ⟨v, H2, os2, bare2, un2, hok2, rv, ev, eH⟩ := hq'
      subst ev
      subst eH
      obtain ⟨h2, g2, d2, t2, os'⟩ := s'
      refine ⟨rv, ?_⟩
      obtain ⟨t0, hoe⟩ := exo_at hok2 upd_same
      obtain ⟨G, g1', g2'⟩ := restrict h2 fun b => decide (b ≠ a)
      have gk : ∀ b, b ≠ a → G.get? b = h2.get? b := fun b hb => g1' b (decide_eq_true hb)
      have ge : G.get? a = none := g2' a (by simp)
      have nha : ∀ {b : Addr} {o : Obj}, hp.get? b = some o → b ≠ a := fun {b o} z => Nat.ne_of_lt (Nat.lt_of_lt_of_le (Heap.lt_size z) hsz)
      have up : ∀ {b : Addr}, b ≠ a → H b = none → upd H a (exo a C none) b = none := fun {b} hb n => by rw [upd_ne hb]; exact n
      have U : Un (frs X.stack) [] H H hp G := {
        keep := fun b o z n hf hx => by
          rw [gk b (nha z)]
          exact un2.keep b o (kk b o z) (up (nha z) n) hf hx
        slot := fun b o z n hf hx => by
          rw [gk b (nha z)]
          exact un2.slot b o (kk b o z) (up (nha z) n) hf hx
        free := fun b o z n hx => n
        there := fun b o z hx => by
          rw [gk b (nha z)]
          exact un2.there b o (kk b o z) hx
        tups := fun b xs z => z
        frzs := fun b o v z => z
        tbls := fun b ps z => ⟨#[], by rw [z]; simp⟩ }
      have hok3 : HOk X.prog X.w H G := fun b o z => by
        have hb : b ≠ a := ne_of_none z hn
        have noa : ∀ {c : Addr} {o : HO}, H c = some o → c ≠ a := fun {c o} hc => ne_of_none hc hn
        exact (hok2 b o (by rw [upd_ne hb]; exact z)).stay (fun c v hc y => by
            have hca : c ≠ a := by
              rcases hc with hc | hc
              · rw [hc]; exact hb
              · exact fun q => by
                  rw [q, upd_same] at hc
                  exact exo_own (Option.some.inj hc)
            rw [gk c hca]
            exact y) (fun c hc => by
              by_cases hca : c = a
              · rw [hca, upd_same] at hc
                exact absurd (Option.some.inj hc) exo_own
              · rw [upd_ne hca] at hc
                exact hc) (fun c xs hc => by
              by_cases hca : c = a
              · rw [hca, upd_same] at hc
                exact absurd (Option.some.inj hc) exo_tup
              · rw [upd_ne hca] at hc
                exact hc)
      have J : Inv X pins σ H ⟨G, g2, d2, t2, os'⟩ := I1.call' (ch := []) os2 U hok3 bare2 (fun b z => absurd z (by simp))
      refine ⟨a, _, _, ⟨G, g2, d2, t2, os'⟩, H, .ref C, none, rfl, J, fun b o z => ?_, ge, hoe, ⟨rfl, rfl⟩, rfl, rfl, hn, rfl, bare2, raises_own T.exC T.tyC, q⟩
      by_cases hba : b = a
      · have z' : G.get? b = some o := z
        rw [hba, ge] at z'
        cases z'
      · exact (gk b hba).symm.trans z
    | next => exact False.elim hq'
    | brk => exact False.elim hq'
    | cont => exact False.elim hq'
theorem ps_err0 {x : Str} {C fI : Addr} {fd : FuncData} {st : Stmt} (R : Er X.prog X.K X.mg x C fI fd st []) (hr : Room 1 X.A) (hc : X.calm = true) (tk : Takes X W) (hg : Gl X x := by rfl) (hdb : (x == ("__debug__" : Str)) = false := by decide) :
    PS X (.Raise (some (.Call (.Name x p) [] [] pos)) none pos2) (fun _ σ H => W (.ref C) none σ H) := ps_raise hc tk (pmk_err0 R hr hg hdb)
end
end My
namespace My
open PySem PySem.Spec PyProof.Rows L2
/-- one clause: the class, the slot of its name, the suite's reading -/
abbrev Clause := Value × Nat × (Addr → Value → Option Addr → TS)
/-- behind the suite the name's slot is empty -/
def wiped (i : Nat) (D : Ends) : Ends := { nx := fun τ G => D.nx (τ.set i none) G, rt := D.rt, bk := fun τ G => D.bk (τ.set i none) G, ct := fun τ G => D.ct (τ.set i none) G }
/-- what the clauses wish of an error of the body, one behind the other -/
def wAsMany (K : PySem.W.Frag) (Wo : WX) (D : Ends) : List Clause → WX
  | [] => Wo
  | (c, i, ts) :: more => fun cls d σ H => ∃ b, PySem.W.exmOne K cls c = some b ∧ (b = true → ∀ a, H a = none → ts a cls d (wiped i D) (σ.set i (some (.ref a))) H) ∧ (b = false → wAsMany K Wo D more cls d σ H)
inductive ClausesOk (X : Cx) : List ExceptHandler → List Clause → Prop
  | nil : ClausesOk X [] []
  | cons {x n : Str} {c : Value} {i : Nat} {ts : Addr → Value → Option Addr → TS} {s0 : Stmt} {suite : List Stmt} {p1 p2 : Pos} {hds : List ExceptHandler} {l : List Clause} (hi : X.N[i]? = some n) (hl : X.env.kindOf n = some .local) (hc : Names X x c)
      (hsu : ∀ (a : Addr) (oe : Obj) (cls : Value) (d : Option Addr) (pn : List (Addr × Obj)), Zc cls d oe → (∃ vs, oe.data = .fields vs) → PSs (X.suite a ((a, oe) :: pn)) (s0 :: suite) (ts a cls d)) (r : ClausesOk X hds l) :
      ClausesOk X (.ExceptHandler (some (.Name x p1)) (some n) (s0 :: suite) p2 :: hds) ((c, i, ts) :: l)
section
variable {X : Cx} {pins : List (Addr × Obj)} {D : Ends} {Wo : WX}
/-- an error that has landed in the frame, looked at by the clauses -/
theorem clauses_run (hs : X.stack = X.env :: X.outer) (hf : X.env.frame = some X.env.locals) (hN : X.N.Nodup) (ok : X.Ok) (tk : Takes X Wo) {a : Addr} {B : Heap} {sI s' : Shared} {σ : L2.St} {H : Hp} {cls : Value} {d : Option Addr} {h3 : Heap}
    (J : Inv X pins σ H sI) (nb : ∀ b o, sI.heap.get? b = some o → b ∉ frs X.stack → B.get? b = some o) (up : sI.heap.UpToSlots h3) (fl : HandSPX.FlyingZ B (X.env :: X.outer) a (Zc cls d) h3) (na : H a = none) (os : s'.os = sI.os) (ag : AllBare s'.gens)
    {hds : List ExceptHandler} {l : List Clause} (ck : ClausesOk X hds l) : wAsMany X.K Wo D l cls d σ H →
      wpAny (model X.prog X.w) X.A (handleBy (.ref a) X.env hds) (SP X pins D) X.xe { s' with heap := h3 } := by
  have J3 : Inv X pins σ H { s' with heap := h3 } := J.landed nb fl.1 up os ag
  obtain ⟨oe3, vs3, he3, hz3, hd3⟩ := fl.there
  have away : a ∉ frs (X.env :: X.outer) := fun hm => by
    obtain ⟨_, ob, eb, nof⟩ := (fl.2.2.1).mem hm
    rw [he3] at eb
    cases eb
    exact nof _ hd3
  have nL : a ≠ X.env.locals := fun z => away (by
    rw [z]
    exact List.mem_filterMap.mpr ⟨X.env, List.mem_cons_self, hf⟩)
  have nF : a ∉ X.fs := fun hm => by
    obtain ⟨e, he, q⟩ := List.mem_filterMap.mp hm
    exact away (List.mem_filterMap.mpr ⟨e, .tail _ he, q⟩)
  have S3 := J3.suite he3 hd3 na nL nF
  have LT : PySem.W.Looks (model X.prog X.w) h3 (typeOf (.ref a)) cls := fun _ _ _ _ k q => wpAny_typeOf_ref (k _ _ he3) (by rw [hz3.1]; exact q)
  induction ck with
  | nil =>
    intro w
    refine wpAny_handleBy_nil ?_
    obtain ⟨_, _, _, oe, vs, tr, _, _, he, _, hd, h1, _⟩ := id fl
    have out : wpAny (model X.prog X.w) X.A (setFlight (.ref a) X.env.frame) (fun _ s4 => wpAny (model X.prog X.w) X.A (throw (.ref a) : Sem Flow) (SP X pins D) X.xe s4) X.xe { s' with heap := h3 } := by
      rw [hf]
      refine HandSPX.setFlight_upZ fl fun h4 held up4 => wpAny_throw (tk _ _ ?_)
      exact ⟨a, B, sI, pins, σ, H, cls, d, rfl, J, nb, up.trans up4, .inr (.inr (by rw [hs]; exact held)), na, os, ag, w⟩
    unfold PySem.passOn
    refine wpAny_bind (wpAny_field he hd h1 ?_)
    rw [if_neg (by simp : ¬ ((Value.ref tr == Value.none) = true))]
    first
      | exact wpAny_bind out
      | exact wpAny_bind (wpAny_pure (wpAny_bind out))
  | @cons x n c i ts s0 suite p1 p2 hds l hi hl hc hsu r ih =>
    rintro ⟨b, hb, yes, no⟩
    refine wpAny_handleBy_cons (codeAny_handlers_test ?_) (fun q => by cases q)
    have look := PySem.W.exm_one (M := model X.prog X.w) J3.kIn LT hb
    have name : ∀ {Q : Value → Shared → Prop} {E : Value → Shared → Prop}, Q c { s' with heap := h3 } → wpAny (model X.prog X.w) (X.A.mark (some (.ref a))) (eval (.Name x p1) X.env) Q E { s' with heap := h3 } := fun q => by
      rcases hc with ⟨hg, hdb, hm | ⟨hm, hv, hn⟩⟩
      · exact ld_glob (X := X.suite a ((a, oe3) :: (X.pn ++ pins))) S3 hg hm q hdb
      · exact ld_blt (X := X.suite a ((a, oe3) :: (X.pn ++ pins))) S3 hg hm hv q hn hdb
    refine name (look.here ?_)
    cases b with
    | false => exact ih (no rfl)
    | true =>
      refine codeAny_handlers_suite_as (HandSPX.lands_againZ fl fun h4 fl4 up4 => ?_)
      have J4 : Inv X pins σ H { s' with heap := h4 } := J.landed nb fl4.1 (up.trans up4) os ag
      obtain ⟨oe4, vs4, he4, hz4, hd4⟩ := fl4.there
      refine store_ok (X := X.suite a ((a, oe4) :: (X.pn ++ pins))) (v := .ref a) (J4.suite he4 hd4 na nL nF) hN hi (.inl hl) rfl (fun s5 S5 => ?_) (.inr hl)
      have gone : ∀ {τ : L2.St} {G : Hp} {s6 : Shared} {Q : Shared → Prop}, Inv (X.suite a ((a, oe4) :: (X.pn ++ pins))) [] τ G s6 → (∀ s7, Inv X pins (τ.set i none) G s7 → Q s7) →
          wpAny (model X.prog X.w) X.A (do bindName X.env n .none; unbindBehindTheSuite X.env n p2) (fun _ s7 => Q s7) X.xe s6 := fun S6 hq => gone_ok (S6.unsuite ok) hN hi hl hq
      refine wpAny_mono ((hsu a oe4 cls d (X.pn ++ pins) hz4 ⟨_, hd4⟩).run [] s5 _ H _ S5 (yes rfl a na)) (fun f s6 he => ?_) (fun _ _ z => z.elim)
      cases f with
      | ret u =>
        obtain ⟨v, τ, G, S6, rv, q⟩ := he
        exact gone S6 fun s7 J7 => ⟨v, _, _, J7, rv, q⟩
      | next => obtain ⟨τ, G, S6, q⟩ := he; exact gone S6 fun s7 J7 => ⟨_, _, J7, q⟩
      | brk => obtain ⟨τ, G, S6, q⟩ := he; exact gone S6 fun s7 J7 => ⟨_, _, J7, q⟩
      | cont => obtain ⟨τ, G, S6, q⟩ := he; exact gone S6 fun s7 J7 => ⟨_, _, J7, q⟩
theorem ps_tryAs {body : List Stmt} {h0 : ExceptHandler} {hds : List ExceptHandler} {l : List Clause} {tb : WX → TS} {pos : Pos} (hs : X.stack = X.env :: X.outer) (hf : X.env.frame = some X.env.locals) (hN : X.N.Nodup) (tk : Takes X Wo)
    (hb : ∀ (W : WX) (pn : List (Addr × Obj)) (xe : Value → Shared → Prop), Takes (X.tr pn xe) W → PassesOwn (model X.prog X.w) X.A X.env xe → PSs (X.tr pn xe) body (tb W)) (ck : ClausesOk X (h0 :: hds) l) :
    PS X (.Try body (h0 :: hds) [] [] pos) (fun D σ H => tb (fun cls d τ G => τ.length = X.N.length → wAsMany X.K Wo D l cls d τ G) D σ H) := by
  refine ⟨fun pins s σ H D I h => ?_⟩
  have ok := I.ok
  have hfr : X.A.frames = some (X.env :: X.outer) := ok.frames.trans (by rw [hs])
  refine wpAny_Try_except (wpAny_mono ((hb (fun cls d τ G => τ.length = X.N.length → wAsMany X.K Wo D l cls d τ G) (X.pn ++ pins) (fun e s1 => wpAny (model X.prog X.w) X.A (noteFrame e X.env) (fun _ s2 => wpAny (model X.prog X.w) X.A (setFlight e none) (fun _ s3 =>
    wpAny (model X.prog X.w) X.A (handleBy e X.env (h0 :: hds)) (SP X pins D) X.xe s3) X.xe s2) X.xe s1) (fun u s' xx => ?_) PassesOwn.looking).run [] s σ H D (I.toTry _) h) (fun f s1 he => ?_) (fun _ _ z => z))
  · obtain ⟨a, B, sI, pins', τ, G, cls, d, rfl, J', nb, up, sky, na, os, ag, w⟩ := xx
    rw [hs] at sky
    refine Sky.land Zc.steady hfr hf sky fun h3 fl up3 => ?_
    exact clauses_run hs hf hN ok tk (J'.ofTry ok) nb (up.trans up3) fl na os ag ck (w J'.len)
  · cases f with
    | ret u => obtain ⟨v, τ, G, J', rv, q⟩ := he; exact ⟨v, τ, G, J'.ofTry ok, rv, q⟩
    | next => obtain ⟨τ, G, J', q⟩ := he; exact wpAny_execs_nil ⟨τ, G, J'.ofTry ok, q⟩
    | brk => obtain ⟨τ, G, J', q⟩ := he; exact ⟨τ, G, J'.ofTry ok, q⟩
    | cont => obtain ⟨τ, G, J', q⟩ := he; exact ⟨τ, G, J'.ofTry ok, q⟩
end
end My
namespace My
open PySem PySem.Spec PyProof.Rows L2
/-- isinstance(e, c), e the error that the suite holds: its class D, its dict d -/
def rIsX (K : PySem.W.Frag) (D a : Addr) (cls : Value) (d : Option Addr) : List V → Hp → VK → Prop := fun xs H Q => ∃ (c : V) (cv : Value) (b : Bool), cls = .ref D ∧ xs = [.ref a, c] ∧ (∀ u, RelV c u → u = cv) ∧ PySem.W.kitOne K (.ref D) cv = some b ∧
  (d = none ∨ ∃ (dd : Addr) (fs : List (Str × V)), d = some dd ∧ H dd = some (.xd fs)) ∧ Q (.bl b) H
theorem call_isX {X : Cx} {a D : Addr} {cls : Value} {d : Option Addr} {oe : Obj} {pn : List (Addr × Obj)} (C : ExcC X.K D) (hz : Zc cls d oe) (hf : ∃ vs, oe.data = .fields vs) : CallR (X.suite a ((a, oe) :: pn)) (.builtin "isinstance") (rIsX X.K D a cls d) := by
  intro pins s σ H xs us Q I r h
  obtain ⟨c, cv, b, rfl, rfl, hcv, e, hd, q⟩ := h
  cases r with
  | cons rx rr =>
  cases rr with
  | cons rt rr =>
  cases rr
  cases rx
  have ec := hcv _ rt
  subst ec
  obtain ⟨hget, _⟩ := I.pin (a, oe) (List.mem_append.mpr (.inl List.mem_cons_self))
  obtain ⟨vs, hv⟩ := hf
  have hcl : (PySem.W.clsIn X.K D).isSome = true := by
    obtain ⟨cd, hc, _⟩ := PySem.W.any_some C.hd
    rw [hc]
    rfl
  have J : ∃ od, PySem.W.InstAt s.heap a oe D od := by
    rcases hd with rfl | ⟨dd, fs, rfl, hdd⟩
    · exact ⟨none, hget, hz.1, by unfold PySem.W.notCls; rw [hv] <;> rfl, by rw [hz.2]; trivial⟩
    · obtain ⟨mA, ⟨o, es, ep, ho, _⟩, _⟩ := (show ObjOk X.prog X.w H s.heap dd (.xd fs) from I.hok dd _ hdd)
      exact ⟨some o, hget, hz.1, by unfold PySem.W.notCls; rw [hv] <;> rfl, by rw [hz.2]; exact ho⟩
  obtain ⟨od, J⟩ := J
  exact PySem.W.kia_one (PySem.W.kitx_exc hcl C.hg C.hk C.hs C.ha C.hn C.ht C.hm) I.kIn J e (fun z => nomatch z) fun tk => ⟨.bl b, H, I.kept (t' := tk) fun _ _ z => z, rfl, q⟩
end My
namespace My
open PySem PySem.Spec PyProof.Rows L2
/-- a set that was just made -/
abbrev set0 (w : World) : Obj := { cls := .type "set", dict := none, data := .set #[] 0 (.fresh 0 0 (!w.params.followText "set-order")) }
section
variable {P : Program} {w : World} {A : Around} {E : Value → Shared → Prop} {s : Shared}
/-- set(xs), xs a list of ints -/
theorem call_setL {l : Addr} {items : Array Value} (ns : List Int) {Q : Value → Shared → Prop} (hh : A.handled = none) (hl : s.heap.IsList l items) (hit : IntsAre items.toList ns) (hb : ns.length + 1 < scanBound)
    (h : ∀ (h' : Heap) (tk c : Nat), SetR w h' s.heap.objs.size (fun j => decide (j ∈ ns)) c → c ≤ ns.length → (∀ b o, s.heap.get? b = some o → h'.get? b = some o) → Q (.ref s.heap.objs.size) { s with heap := h', toks := tk }) :
    wpAny (model P w) A (call (.type "set") [.ref l]) Q E s := by
  have hsz : items.size = ns.length := (Array.length_toList (xs := items)).symm.trans (IntsAre.length hit)
  obtain ⟨c, tl, hmro⟩ := F.called_set.mro
  have hmade := F.called_set.made
  have hsub := F.called_set.sub
  refine wpAny_call (codeAny_of_tree ?_)
  show wpAny _ _ (callAny (.type "set") _) _ _ _
  refine wpAny_pure ⟨Code.quiet_builtin _ (by decide +kernel), codeAny_builtin F.entry_type_call ?_⟩
  rw [Around.under_plain (weight_type_call_type "set" [.ref l] []) rfl]
  have h1 := F.called_set.notType
  have h2 := F.called_set.canCreate
  have hct := F.typeCall_set_1 (.ref l)
  repeat (any_goals (first | assumption | wp_step))
  refine codeAny_mono (code_set_led1 (.ref l) (E := E) (Q₁ := fun obj s1 => obj = .ref s.heap.objs.size ∧ s1 = { s with heap := s.heap.push (set0 w) }) ⟨rfl, rfl⟩) fun r s1 hr => ?_
  rcases r with e | fl
  · exact hr
  cases fl with
  | next => exact hr.elim
  | brk => exact hr.elim
  | cont => exact hr.elim
  | ret obj =>
  obtain ⟨rfl, rfl⟩ := hr
  have hS : (s.heap.push (set0 w)).get? s.heap.objs.size = some (set0 w) := Heap.get?_push_size _ rfl
  have hT : Shared.TypeIs { s with heap := s.heap.push (set0 w) } (.ref s.heap.objs.size) "set" := ⟨_, hS, rfl⟩
  have hli := F.called_set.init.lookup
  have hbi := F.called_set.init.bind (.ref s.heap.objs.size)
  repeat (any_goals (first | assumption | wp_step))
  refine codeAny_mono (codeAny_call_builtin (R := wants (fun r s2 => r = .none ∧ ∃ h' tk c, s2 = { s with heap := h', toks := tk } ∧ SetR w h' s.heap.objs.size (fun j => decide (j ∈ ns)) c ∧ c ≤ ns.length ∧
      (∀ b o, s.heap.get? b = some o → h'.get? b = some o)) E) F.called_set.init.plain F.entry_set_init (check_set_init_1 hT ?_)) fun r2 s2 hr2 => ?_
  · obtain ⟨⟨oc, od, dat, osl⟩, hol, hcl, nl, hdl⟩ := hl
    obtain rfl : oc = .type "list" := hcl
    obtain rfl : dat = .seq items nl := hdl
    have hol' : (s.heap.push (set0 w)).get? l = some ⟨.type "list", od, .seq items nl, osl⟩ := Heap.get?_push_of_some _ hol
    have n1 := F.sub_list_set
    have n2 := F.sub_list_frozenset
    have n3 : (Value.type "list" == Value.type "dict") = false := by decide
    have L1 : (s.heap.push (set0 w)).IsList l items := ⟨_, hol', rfl, nl, rfl⟩
    unfold Builtin.«set.__init__» noKeywords Builtin.Frozenset.updateFrom
    generalize hPI : pyIter = PI
    wp_walk
    subst hPI
    refine wpAny_pyIter_list L1 (wpAny_bind (wpAny_runValue ?_))
    have lt : l < s.heap.objs.size := Heap.lt_size hol
    have hq : A.in1.in1.in1.handled = none := by simp [hh]
    have zp : (s.heap.push (set0 w)).objs.size = s.heap.objs.size + 1 := Heap.size_push ..
    have nI : l ≠ (s.heap.push (set0 w)).objs.size := by
      rw [zp]
      exact Nat.ne_of_lt (Nat.lt_succ_of_lt lt)
    have nS : s.heap.objs.size ∉ [(s.heap.push (set0 w)).objs.size, l] := by
      rw [zp]
      intro z
      rcases List.mem_cons.mp z with z | z
      · exact Nat.ne_of_lt (Nat.lt_succ_self _) z
      · exact Nat.ne_of_gt lt (List.mem_singleton.mp z)
    have val : ∀ (i : Nat) (v : Value), items[i]? = some v → ∃ k t, ns[i]? = some k ∧ v = .int k t := fun i v hv => by
      have hi : i < ns.length := by
        rw [← hsz]
        exact (Array.getElem?_eq_some_iff.mp hv).1
      obtain ⟨t, e⟩ := IntsAre.int_at hit i v (by rw [Array.getElem?_toList]; exact hv)
      refine ⟨ns[i], t, List.getElem?_eq_getElem hi, ?_⟩
      rw [e, List.getD_eq_getElem?_getD, List.getElem?_eq_getElem hi] <;> rfl
    refine set_update_ints ((Walks.list hq _ l nI items).toS) s.heap.objs.size nS ns hsz hb val (items.size - 0) 0 _ (by omega) (Nat.zero_le _) ⟨⟨_, Heap.get?_push_size _ rfl, rfl, rfl⟩, (L1.push _)⟩
      ⟨0, Nat.le_refl 0, setR_new_at (Heap.get?_push_of_some _ hS)⟩ fun s' c' hm hc' hS' => ?_
    obtain ⟨h', g', d', tk', os'⟩ := s'
    obtain rfl : g' = s.gens := hm.gens
    obtain rfl : d' = s.drawn := hm.drawn
    obtain rfl : os' = s.os := hm.os
    show wpAny _ _ _ _ _ _
    refine wpAny_pure ?_
    show wpAny _ _ (ret Value.none) _ _ _
    rw [hsz] at hc'
    refine wpAny_pure ⟨rfl, h', tk', c', rfl, hS', hc', fun b o e => ?_⟩
    have lb := Heap.lt_size e
    refine hm.heap b o (fun z => ?_) (Heap.get?_push_of_some _ (Heap.get?_push_of_some _ e))
    rcases List.mem_cons.mp z with z | z
    · exact Nat.ne_of_lt lb z
    · rw [zp] at z
      exact Nat.ne_of_lt (Nat.lt_succ_of_lt lb) (List.mem_singleton.mp z)
  · rcases r2 with e | fl2
    · exact hr2
    cases fl2 with
    | next => exact hr2.elim
    | brk => exact hr2.elim
    | cont => exact hr2.elim
    | ret r =>
      obtain ⟨rfl, h', tk, c', rfl, hS', hc', hk'⟩ := hr2
      repeat (any_goals (first | assumption | wp_step))
      exact h _ _ _ hS' hc' hk'
end
end My
namespace My
open PySem PySem.Spec PyProof.Rows L2
/-! ### over the layer -/
/-- how many different ints -/
def many : List Int → Nat
  | [] => 0
  | n :: r => if n ∈ r then many r else many r + 1
theorem many_of : ∀ (ns L : List Int), L.Nodup → (∀ k, k ∈ L ↔ k ∈ ns) → L.length = many ns
  | [], L, _, h => by
    cases L with
    | nil => rfl
    | cons a r => exact absurd ((h a).mp List.mem_cons_self) (by simp)
  | n :: r, L, nd, h => by
    unfold many
    by_cases hn : n ∈ r
    · rw [if_pos hn]
      refine many_of r L nd fun k => (h k).trans ⟨fun z => ?_, fun z => List.mem_cons_of_mem _ z⟩
      rcases List.mem_cons.mp z with z | z
      · rw [z]; exact hn
      · exact z
    · rw [if_neg hn]
      have hL : n ∈ L := (h n).mpr List.mem_cons_self
      have e := many_of r (L.erase n) (nd.erase n) fun k => by
        rw [List.Nodup.mem_erase_iff nd]
        refine ⟨fun ⟨z1, z2⟩ => ?_, fun z => ⟨fun q => hn (by rw [← q]; exact z), (h k).mpr (List.mem_cons_of_mem _ z)⟩⟩
        rcases List.mem_cons.mp ((h k).mp z2) with q | q
        · exact absurd q z1
        · exact q
      rw [← e, List.length_erase_of_mem hL]
      have := List.length_pos_of_mem hL
      omega
theorem setR_many {w : World} {h : Heap} {a : Addr} {ns : List Int} {c : Nat} (R : SetR w h a (fun j => decide (j ∈ ns)) c) : c = many ns := by
  obtain ⟨o, es, ep, t, _, _, _, _, nd, hm, _, _, hn, _⟩ := R
  rw [← many_of ns (es.toList.map keyOf) nd fun k => by rw [← hm k]; simp]
  rw [List.length_map, Array.length_toList, hn]
def rSetL (K : PySem.W.Frag) (w : World) : List V → Hp → VK → Prop := fun xs H Q => ∃ (l : Addr) (ns : List Int), xs = [V.ref l] ∧ SqL K H l (ns.map V.int) ∧ ns.length ≤ 60 ∧
  ∀ p : Addr, H p = none → Q (.ref p) (upd H p (SetO w p (fun j => decide (j ∈ ns)) (many ns)))
theorem cr_setL {X : Cx} (hc : X.calm = true) : CallR X (.type "set") (rSetL X.K X.w) := by
  intro pins s σ H xs us Q I r h
  obtain ⟨l, ns, rfl, hq, hn, q⟩ := h
  rw [Vals.ref1 r]
  obtain ⟨its, rv, pl, hz⟩ := I.list hq
  refine call_setL ns (I.ok.hd hc) pl.isList (ints_of_vals rv) (by unfold scanBound; omega) fun h' tk c R hcn k => ?_
  have hp : H s.heap.objs.size = none := I.hok.fresh (Nat.le_refl _)
  have e := setR_many R
  subst e
  exact ⟨.ref s.heap.objs.size, _, I.laid (t' := tk) k (Nat.le_refl _) (setO_new R), rfl, q _ hp⟩
/-- len of such a set -/
def rLenSet (w : World) : List V → Hp → VK → Prop := fun xs H Q => ∃ (a : Addr) (S : Int → Bool) (n : Nat), xs = [V.ref a] ∧ H a = some (SetO w a S n) ∧ n ≤ 1000 ∧ Q (.int n) H
theorem call_lenSet {X : Cx} : CallR X (.builtin "len") (rLenSet X.w) := by
  intro pins s σ H xs us Q I r h
  obtain ⟨a, S, n, rfl, ha, hn1, q⟩ := h
  rw [Vals.ref1 r]
  obtain ⟨o, es, ep, t, ho, hex, hd, _, _, _, _, hf, hn, _⟩ := setO_get I ha
  exact call_len_set ho hex hd hf (by rw [hn] <;> omega) ⟨.int n, H, I.tok _, ⟨_, by rw [hn]⟩, q⟩
theorem many_le : ∀ ns : List Int, many ns ≤ ns.length
  | [] => Nat.le_refl _
  | n :: r => by
    have := many_le r
    unfold many
    split <;> simp only [List.length_cons] <;> omega
end My
namespace My
open PySem PySem.Spec PyProof.Rows L2
/-- one pair of a written dict -/
def KdE (p : Key × V) (e : DictEntry) : Prop := ∃ x t, p.1 = Sum.inr x ∧ e.key = .str x t ∧ RelV p.2 e.val
/-- a dict of the written part with text keys, by its pairs -/
def KDo (K : PySem.W.Frag) (w : World) (a : Addr) (kvs : List (Key × V)) : Prop := ∃ (es : List DictEntry) (n : Nat), K.lookup a = some ⟨.type "dict", none, .dict es.toArray n, #[]⟩ ∧ PySem.W.KeysLit w.params es ∧ (a == sysModules) = false ∧ kvs.length ≤ sizeLine ∧ Paired KdE kvs es ∧ (kvs.map (·.1)).Nodup
theorem kdo_pairs {P : Program} {w : World} : ∀ {kvs : List (Key × V)} {es : List DictEntry}, Paired KdE kvs es →
    ∃ vs : List (Key × Value), KV kvs vs ∧ Pairs (mixKind P w) es vs ∧ vs.map (·.1) = kvs.map (·.1) := by
  intro kvs es hp
  induction hp with
  | nil => exact ⟨[], .nil, .nil, rfl⟩
  | @cons p e kvs es h r ih =>
    obtain ⟨vs, h1, h2, h3⟩ := ih
    obtain ⟨x, t, ep, ek, rv⟩ := h
    obtain ⟨k, v⟩ := p
    obtain rfl : k = Sum.inr x := ep
    refine ⟨(Sum.inr x, e.val) :: vs, .cons ⟨rfl, rv⟩ h1, .cons ?_ rfl h2, by rw [List.map_cons, List.map_cons, h3]⟩
    rw [ek]
    exact mixKind_str P w x t
theorem kdo_at {P : Program} {w : World} {K : PySem.W.Frag} {a : Addr} {kvs : List (Key × V)} {h : Heap} (D : KDo K w a kvs) (X : K.In h) : kvs.length ≤ sizeLine ∧ (a == sysModules) = false ∧ ∃ vs, KV kvs vs ∧ h.DictOf (mixKind P w) a vs := by
  obtain ⟨es, n, hl, hk, low, hz, hp, nd⟩ := D
  obtain ⟨vs, h1, h2, h3⟩ := kdo_pairs (P := P) (w := w) hp
  refine ⟨hz, low, vs, h1, _, es.toArray, n, X _ _ hl, ⟨rfl, rfl, rfl⟩, rfl, fun e he => ?_, h2, by rw [h3]; exact nd⟩
  obtain ⟨x, t, e1, e2⟩ := hk.all e (by simpa using he)
  exact ⟨Sum.inr x, by rw [e1]; exact mixKind_str P w x t, e2⟩
section
variable {X : Cx} {a : Addr} {kvs : List (Key × V)}
/-- D[k], D written, k there -/
def rKIx (K : PySem.W.Frag) (w : World) : R2 := fun x y H Q => ∃ a kvs k v, x = .ref a ∧ KDo K w a kvs ∧ y = kV k ∧ valV kvs k = some v ∧ Q v H
theorem ix_kd : IxR X (rKIx X.K X.w) := by
  intro value slice pins s σ H x y v u Q I rx ry h hs
  obtain ⟨a, kvs, k, r, rfl, D, rfl, hv, q⟩ := h
  obtain rfl : v = Value.ref a := rx
  obtain ⟨_, _, vs, rel, dd⟩ := kdo_at (P := X.prog) D I.kIn
  obtain ⟨w', hw, rw'⟩ := RelO.some_of (v := r) (o := valueAt vs k) (by rw [← hv]; exact rel.val k)
  exact tail_any dd.typeIs slot_dict_getitem.lookup (wpAny_getItem_of (kV_is ry) dd.mapOf hw ⟨r, H, I.tok _, rw', q⟩) hs
/-- list(D), D written -/
def rKList (K : PySem.W.Frag) (w : World) : List V → Hp → VK → Prop := fun xs H Q => ∃ a kvs, xs = [.ref a] ∧ KDo K w a kvs ∧ ∀ p, H p = none → Q (.ref p) (upd H p (.lst (kvs.map fun kv => kV kv.1)))
theorem call_listKD (hcalm : X.calm = true) : CallR X (.type "list") (rKList X.K X.w) := by
  intro pins s σ H xs us Q I r q
  obtain ⟨a, kvs, rfl, D, q⟩ := q
  rw [Vals.ref1 r]
  obtain ⟨z, lo, vs, rel, dd⟩ := kdo_at (P := X.prog) D I.kIn
  obtain ⟨ep, hat⟩ := dd.dictAt
  have ek : (kvs.map fun kv => kV kv.1) = vs.map fun p => kV p.1 := by
    have e := congrArg (List.map kV) rel.keys
    simpa only [List.map_map, Function.comp_def] using e
  refine PySem.W.kdl_call (PySem.W.kdl_dict (knd := mixKind X.prog X.w) (kvs := vs) (ep := ep) lo) (I.ok.hd hcalm) hat (Nat.le_trans (Nat.le_of_eq rel.length.symm) z) fun h' tk acc c' hk hD hacc => ?_
  have hv : Vals (vs.map fun p => kV p.1) acc.toList := keys_at (Array.length_toList.trans hacc.1) fun j v e => hacc.2 j v (Array.getElem?_toList.symm.trans e)
  have hn := I.hok.fresh (Nat.le_refl s.heap.objs.size)
  refine ⟨.ref s.heap.objs.size, _, I.laid (t' := tk) (o := .lst (kvs.map fun kv => kV kv.1)) hk (Nat.le_refl _) ?_, rfl, q _ hn⟩
  exact ⟨by rw [List.length_map]; exact z, acc.toList, c', by rw [ek]; exact hv, by rw [Array.toArray_toList]; exact hD⟩
/-- D.get(k, x), D written -/
def tKGet2 (K : PySem.W.Frag) (w : World) (td ty tx : TE) : TE := fun σ H Q => td σ H fun x H1 => ∃ a kvs, x = .ref a ∧ KDo K w a kvs ∧ ty σ H1 fun y H2 => tx σ H2 fun z H3 => ∃ k, y = kV k ∧ Q ((valV kvs k).getD z) H3
theorem pe_kget2 {o e f : Expr} {td ty tx : TE} {apos cpos : Pos} (ho : PE X o td) (he : PE X e ty) (hf : PE X f tx) (m : M2 X o "get" apos e f cpos) : PE X (.Call (.Attribute o "get" apos) [e, f] [] cpos) (tKGet2 X.K X.w td ty tx) := by
  refine ⟨fun pins s σ H Q I h => ?_⟩
  refine wpAny_Call_method m.base m.few m.line PySem.F.plainAttrs_dict PySem.F.slot_dict_get PySem.F.type_dict_get (thn (ho.run pins s σ H _ I h) fun u s1 ⟨x, H1, I1, rx, a, kvs, ex, D, q1⟩ => ?_)
  subst ex
  obtain rfl : u = Value.ref a := rx
  obtain ⟨_, _, vs1, _, dd1⟩ := kdo_at (P := X.prog) D I1.kIn
  refine ⟨dd1.typeIs, fun b q => ?_, ?_⟩
  · cases q
    obtain ⟨ob, _, _, h1, h2, _⟩ := dd1
    exact ⟨ob, h1, h2.2.1⟩
  rw [m.trees]
  refine Calls.callWith_builtin rfl (Calls.evalArgs_plain (Calls.spliced_cons (thn (he.run pins s1 σ H1 _ I1 q1) fun iv s2 ⟨y, H2, I2, ry, q2⟩ =>
    Calls.spliced_cons (thn (hf.run pins s2 σ H2 _ I2 q2) fun fv s3 ⟨z, H3, I3, rz, k, ey, q3⟩ => Calls.spliced_nil ?_))))
  subst ey
  obtain ⟨_, lo, vs, rel, dd⟩ := kdo_at (P := X.prog) D I3.kIn
  exact call_meetsIn PySem.F.slot_dict_get dd.typeIs PySem.F.entry_dict_get (PySem.F.args_dict_get_3 _ _ _) (meets_dict_get_default (mixKind X.prog X.w) a (kV_is ry) lo fv) ⟨_, dd.mapOf, ⟨_, H3, I3.tok _, (rel.val k).getD rz, q3⟩⟩
/-- dict(t), t a written tuple of pairs -/
def rDictKT (K : PySem.W.Frag) : List V → Hp → VK → Prop := fun xs H Q => ∃ (a : Addr) (o : Obj) (ps : List Addr) (kvs : List (Key × V)), xs = [.ref a] ∧ K.lookup a = some o ∧ o.dict = none ∧ SqT K (fun _ => none) a (ps.map V.ref) ∧ Paired (fun p kv => SqT K (fun _ => none) p [kV kv.1, kv.2]) ps kvs ∧ kvs.length ≤ 100 ∧
  ∀ p, H p = none → Q (.ref p) (upd H p (.dK (mergeK [] kvs)))
theorem sqT_K {K : PySem.W.Frag} {H : Hp} {a : Addr} {xs : List V} (h : SqT K (fun _ => none) a xs) : SqT K H a xs := by
  rcases h with (h | ⟨o, h⟩) | h
  · cases h
  · cases h
  · exact .inr h
theorem pairs_K {K : PySem.W.Frag} {H : Hp} {ps : List Addr} {kvs : List (Key × V)} (h : Paired (fun p (kv : Key × V) => SqT K (fun _ => none) p [kV kv.1, kv.2]) ps kvs) : Paired (fun p (kv : Key × V) => SqT K H p [kV kv.1, kv.2]) ps kvs := by
  induction h with
  | nil => exact .nil
  | cons h t ih => exact .cons (sqT_K h) ih
theorem list_pick {α β : Type} : ∀ (l : List α) (R : Nat → α → β → Prop), (∀ (j : Nat) q, l[j]? = some q → ∃ u, R j q u) → ∃ us : List β, us.length = l.length ∧ ∀ (j : Nat) q u, l[j]? = some q → us[j]? = some u → R j q u
  | [], R, h => ⟨[], rfl, fun j q u e => by simp at e⟩
  | q0 :: l, R, h => by
    obtain ⟨u0, h0⟩ := h 0 q0 rfl
    obtain ⟨us, h1, h2⟩ := list_pick l (fun j => R (j + 1)) fun j q e => h (j + 1) q e
    refine ⟨u0 :: us, by rw [List.length_cons, List.length_cons, h1], fun j q u e1 e2 => ?_⟩
    cases j with
    | zero =>
      obtain rfl : q0 = q := Option.some.inj e1
      obtain rfl : u0 = u := Option.some.inj e2
      exact h0
    | succ j => exact h2 j q u e1 e2
theorem call_dictKT (hcalm : X.calm = true) : CallR X (.type "dict") (rDictKT X.K) := by
  intro pins s σ H xs us Q I r q
  obtain ⟨a, o, ps, kvs, rfl, hl, hd, hq, hp, hz, q⟩ := q
  rw [Vals.ref1 r]
  obtain ⟨its, rv, ⟨o', ho', hc', n', hdat⟩, _⟩ := I.tuple (sqT_K hq)
  have eo : o' = o := Option.some.inj (ho'.symm.trans (I.kIn _ _ hl))
  subst eo
  have ei := refs_at rv
  subst ei
  obtain ⟨prs, rel, hlen, hpr⟩ := pairs_of I (pairs_K (H := H) hp)
  have hlk : prs.length = kvs.length := rel.length.symm
  obtain ⟨us, hul, hus⟩ := list_pick prs (fun j q u => ∃ b, ps[j]? = some b ∧ IsTup s.heap b #[u, q.2] ∧ keyIs q.1 u = true) fun j q e => by
    obtain ⟨b, u, e1, e2, e3⟩ := hpr j q e
    exact ⟨u, b, e1, e2, e3⟩
  have hat : ∀ (j : Nat) k v, (us.zip (prs.map (·.2)))[j]? = some (k, v) → ∃ c b, prs[j]? = some (c, v) ∧ ps[j]? = some b ∧ IsTup s.heap b #[k, v] ∧ keyIs c k = true := fun j k v e => by
    rw [List.getElem?_zip_eq_some] at e
    obtain ⟨e1, e2⟩ := e
    rw [List.getElem?_map] at e2
    obtain ⟨⟨c, v'⟩, e3, e4⟩ := Option.map_eq_some_iff.mp e2
    obtain rfl : v' = v := e4
    obtain ⟨b, f1, f2, f3⟩ := hus j _ k e3 e1
    exact ⟨c, b, e3, f1, f2, f3⟩
  have hzl : (us.zip (prs.map (·.2))).length = prs.length := by rw [List.length_zip, List.length_map, hul, Nat.min_self]
  refine PySem.call_dict_pairs (knd := mixKind X.prog X.w) (kvs := prs) (PairArg.tuple a _ (fun j => ps.getD j 0) (us.zip (prs.map (·.2)))) (I.ok.hd hcalm) ⟨⟨o', n', ho', hc', hd, hdat⟩, ?_, fun j k v e => ?_⟩ ⟨hzl.symm, fun j k v e => ?_⟩ (by rw [hzl, hlk, sizeLine_eq]; omega) fun h' tk hd' k => ?_
  · rw [hzl, List.size_toArray, List.length_map, hlen]
  · obtain ⟨c, b, e1, e2, e3, e4⟩ := hat j k v e
    have eb : ps.getD j 0 = b := by rw [List.getD_eq_getElem?_getD, e2]; rfl
    show (List.map Value.ref ps).toArray[j]? = some (Value.ref (ps.getD j 0)) ∧ PairAt s.heap (ps.getD j 0) k v
    rw [eb]
    exact ⟨by simp [e2], .inl e3⟩
  · obtain ⟨c, b, e1, e2, e3, e4⟩ := hat j k v e
    exact ⟨c, e1, e4⟩
  · have kk : ∀ b o, s.heap.get? b = some o → h'.get? b = some o := fun b o e => k b o (fun z => nomatch z) e
    have low : (s.heap.objs.size == sysModules) = false := beq_eq_false_iff_ne.mpr (Nat.ne_of_gt I.big)
    have hlm : (mergeK [] kvs).length ≤ sizeLine := Nat.le_trans (length_mergeK kvs []) (by rw [List.length_nil, sizeLine_eq]; omega)
    exact ⟨.ref s.heap.objs.size, _, I.laid (t' := tk) (o := .dK (mergeK [] kvs)) kk (Nat.le_refl _) ⟨hlm, low, merged [] prs, KV.merge rel .nil, hd'⟩, rfl, q _ (I.hok.fresh (Nat.le_refl _))⟩
end
end My
namespace My
open PySem PySem.Spec PyProof.Rows L2
/-- a value that is equal to itself: no float, no bytes -/
def selfV : V → Bool
  | .flt _ => false
  | .byt _ => false
  | _ => true
theorem self_eq {A : Around} {s : Shared} {x : V} {u v : Value} (k : selfV x = true) (ru : RelV x u) (rv : RelV x v) : SeqAt.EqAt A s u v true := by
  cases x with
  | non => cases (show u = Value.none from ru); cases (show v = Value.none from rv); exact SeqAt.EqAt.same _
  | bl b => cases (show u = Value.bool b from ru); cases (show v = Value.bool b from rv); exact SeqAt.EqAt.same _
  | int i =>
    obtain ⟨t, rfl⟩ := (show ∃ t, u = Value.int i t from ru)
    obtain ⟨t', rfl⟩ := (show ∃ t, v = Value.int i t from rv)
    have e := SeqAt.EqAt.int_int (A := A) (s := s) i t i t'
    rw [beq_self_eq_true] at e
    exact e
  | str z =>
    obtain ⟨t, rfl⟩ := (show ∃ t, u = Value.str z t from ru)
    obtain ⟨t', rfl⟩ := (show ∃ t, v = Value.str z t from rv)
    have e := SeqAt.EqAt.str_str (A := A) (s := s) z t z t'
    rw [beq_self_eq_true] at e
    exact e
  | byt b => cases k
  | flt b => cases k
  | ref a => cases (show u = Value.ref a from ru); cases (show v = Value.ref a from rv); exact SeqAt.EqAt.same _
  | ty n => cases (show u = Value.type n from ru); cases (show v = Value.type n from rv); exact SeqAt.EqAt.same _
theorem self_items {A : Around} {s : Shared} {xs : List V} {us vs : List Value} (k : ∀ x ∈ xs, selfV x = true) (ru : Vals xs us) (rv : Vals xs vs) (j : Nat) (h1 : j < us.toArray.size) (h2 : j < vs.toArray.size) : SeqAt.EqAt A s us.toArray[j] vs.toArray[j] true := by
  have h1' : j < us.length := by simpa using h1
  have h2' : j < vs.length := by simpa using h2
  have hx : j < xs.length := by rw [ru.length]; exact h1'
  obtain ⟨u, e1, r1⟩ := ru.get (List.getElem?_eq_getElem hx)
  obtain ⟨v, e2, r2⟩ := rv.get (List.getElem?_eq_getElem hx)
  have q1 : us[j] = u := Option.some.inj ((List.getElem?_eq_getElem h1').symm.trans e1)
  have q2 : vs[j] = v := Option.some.inj ((List.getElem?_eq_getElem h2').symm.trans e2)
  have := self_eq (A := A) (s := s) (k _ (List.getElem_mem hx)) r1 r2
  simpa [q1, q2] using this
/-- two tuples of the same values -/
def rSame (K : PySem.W.Frag) (b : Bool) : R2 := fun x y H Q => ∃ (p q : Addr) (xs : List V), x = .ref p ∧ y = .ref q ∧ SqT K H p xs ∧ SqT K H q xs ∧ (∀ x ∈ xs, selfV x = true) ∧ Q (.bl b) H
theorem op_neSame {X : Cx} (hu : X.A.units < cLine) : OpR X (compareOp .NotEq) (rSame X.K false) := by
  intro pins s σ H x y v u Q I rx ry h
  obtain ⟨p, q, xs, rfl, rfl, hp, hq, hk, hQ⟩ := h
  cases (show v = Value.ref p from rx)
  cases (show u = Value.ref q from ry)
  obtain ⟨us, ru, tp, _⟩ := I.tuple hp
  obtain ⟨vs, rv, tq, _⟩ := I.tuple hq
  have e := SeqAt.RcNeAt.tuples (A := X.A) (s := s) (e := fun _ => true) tp tq hu (fun j h1 h2 => self_items hk ru rv j h1 h2)
  have hb : (!((List.range (min us.toArray.size vs.toArray.size)).all (fun _ => true) && us.toArray.size == vs.toArray.size)) = false := by
    have : us.length = vs.length := ru.length.symm.trans rv.length
    simp [this]
  rw [hb] at e
  exact e X.prog X.w _ _ ⟨.bl false, H, I, rfl, hQ⟩
theorem op_eqSame {X : Cx} (hu : X.A.units < cLine) : OpR X (compareOp .Eq) (rSame X.K true) := by
  intro pins s σ H x y v u Q I rx ry h
  obtain ⟨p, q, xs, rfl, rfl, hp, hq, hk, hQ⟩ := h
  cases (show v = Value.ref p from rx)
  cases (show u = Value.ref q from ry)
  obtain ⟨us, ru, tp, _⟩ := I.tuple hp
  obtain ⟨vs, rv, tq, _⟩ := I.tuple hq
  have hb : ((List.range (min us.toArray.size vs.toArray.size)).all (fun _ => true) && us.toArray.size == vs.toArray.size) = true := by
    have : us.length = vs.length := ru.length.symm.trans rv.length
    simp [this]
  refine SeqAt.eq_tupleAt (e := fun _ => true) tp tq hu (fun j h1 h2 => self_items hk ru rv j h1 h2) ?_
  rw [hb]
  exact ⟨.bl true, H, I, rfl, hQ⟩
end My
/-! zip of a list and a tuple: the layer's zip of two tuples, turned -/
namespace RZ
open PySem
open PySem.Sem (wp)
section
variable {prog : Program} {w : World} {A : Around} {E : Value → Shared → Prop} {s : Shared}
theorem zipLT_next_item {z TI TO i1 i2 l1 l2 : Addr} {k1 k2 : Nat} {xs ys : Array Value} {x y a b : Value} {Q : Value → Shared → Prop} (D : ZipApart z TI TO i1 i2 l1 l2)
    (hz : IsZip s.heap z TI TO .none) (hTI : IsPair s.heap TI (.ref i1) (.ref i2)) (hTO : IsPair s.heap TO a b)
    (h1 : s.heap.IsListIter i1 l1 k1) (h2 : s.heap.IsTupleIter i2 l2 k2) (hl1 : s.heap.IsList l1 xs) (hl2 : s.heap.IsTuple l2 ys) (hx : xs[k1]? = some x) (hy : ys[k2]? = some y)
    (hQ : ∀ h', IsZip h' z TI TO (rawInt s.heap.objs.size) → IsPair h' TO x y → h'.IsListIter i1 l1 (k1 + 1) → h'.IsTupleIter i2 l2 (k2 + 1) → IsPair h' s.heap.objs.size x y → h'.objs.size = s.heap.objs.size + 1 →
      (∀ c o, c ≠ z → c ≠ TO → c ≠ i1 → c ≠ i2 → s.heap.get? c = some o → h'.get? c = some o) → Q (.ref s.heap.objs.size) { s with heap := h' }) :
    wpAny (model prog w) A (Builtin.«zip.__next__» ⟨[.ref z], []⟩) (fun fin s' => ∃ v, fin = .done (.ret v) ∧ Q v s') E s := by
  show wpAny _ _ (field (.ref z) 2 >>= _) _ _ _
  refine wpAny_bind (wpAny_field hz rfl (x := .bool false) rfl ?_)
  show wpAny _ _ (field (.ref z) 3 >>= _) _ _ _
  refine wpAny_bind (wpAny_field hz rfl (x := .ref TI) rfl ?_)
  refine wpAny_bind (wpAny_seqItems hTI rfl ?_)
  show wpAny _ _ (Builtin.SmallTypes.ownedTupleIsFree (.ref z) >>= _) _ _ _
  refine wpAny_bind ?_
  unfold Builtin.SmallTypes.ownedTupleIsFree
  refine wpAny_bind (wpAny_field hz rfl (x := .none) rfl (wpAny_pure ?_))
  simp only [if_true]
  refine wpAny_bind (wpAny_rule ?_)
  refine wpAny_bind (wpAny_field hz rfl (x := .ref TO) rfl ?_)
  refine wpAny_bind (wpAny_setField_rec hz (by simp) fun h₁ hz₁ hs₁ => ?_)
  replace hz₁ : IsZip h₁ z TI TO .ellipsis := hz₁
  refine wpAny_bind ?_
  simp only [List.zipIdx_cons, List.zipIdx_nil, List.forIn_cons, List.forIn_nil]

  refine wpAny_bind (wpAny_bind (wpAny_onRaise ?_))
  show wpAny _ _ (Builtin.SmallTypes.nextOf (.ref i1) >>= _) _ _ _
  refine wpAny_bind (wpAny_nextOf_list_item (h1.extBut hs₁.extBut D.i1z) (hl1.extBut hs₁.extBut D.l1z) hx fun h₂ h1₂ hs₂ => wpAny_pure ?_)
  have hTO₂ : IsPair h₂ TO a b := hs₂.extBut _ _ D.TOi1 (hs₁.extBut _ _ D.TOz hTO)
  refine wpAny_bind (wpAny_seqItems hTO₂ rfl ?_)
  refine wpAny_bind (wpAny_updateSeq_pair hTO₂ fun h₃ hTO₃ hs₃ => ?_)
  replace hTO₃ : IsPair h₃ TO x b := hTO₃
  refine wpAny_bind (wpAny_letGo (wpAny_pure ?_))

  refine wpAny_bind (wpAny_bind (wpAny_onRaise ?_))
  show wpAny _ _ (Builtin.SmallTypes.nextOf (.ref i2) >>= _) _ _ _
  refine wpAny_bind (nextOf_tuple_item (((h2.extBut hs₁.extBut D.i2z).extBut hs₂.extBut D.i12.symm).extBut hs₃.extBut D.TOi2.symm)
    (((hl2.extBut hs₁.extBut D.l2z).extBut hs₂.extBut D.l2i1).extBut hs₃.extBut D.l2TO) hy fun h₄ h2₄ hs₄ => wpAny_pure ?_)
  have hTO₄ : IsPair h₄ TO x b := hs₄.extBut _ _ D.TOi2 hTO₃
  refine wpAny_bind (wpAny_seqItems hTO₄ rfl ?_)
  refine wpAny_bind (wpAny_updateSeq_pair hTO₄ fun h₅ hTO₅ hs₅ => ?_)
  replace hTO₅ : IsPair h₅ TO x y := hTO₅
  refine wpAny_bind (wpAny_letGo (wpAny_pure (wpAny_pure ?_)))

  refine wpAny_bind (wpAny_seqItems hTO₅ rfl ?_)
  refine wpAny_bind (wpAny_newTuple ?_)
  have hsz : h₅.objs.size = s.heap.objs.size := by rw [hs₅.1, hs₄.1, hs₃.1, hs₂.1, hs₁.1]
  have hz₅ : IsZip h₅ z TI TO .ellipsis := hs₅.extBut _ _ D.TOz.symm (hs₄.extBut _ _ D.i2z.symm (hs₃.extBut _ _ D.TOz.symm (hs₂.extBut _ _ D.i1z.symm hz₁)))
  have hk₅ : ∀ c o, c ≠ z → c ≠ TO → c ≠ i1 → c ≠ i2 → s.heap.get? c = some o → h₅.get? c = some o := fun c o c1 c2 c3 c4 e =>
    hs₅.extBut _ _ c2 (hs₄.extBut _ _ c4 (hs₃.extBut _ _ c2 (hs₂.extBut _ _ c3 (hs₁.extBut _ _ c1 e))))
  have h1₅ : h₅.IsListIter i1 l1 (k1 + 1) := ((h1₂.extBut hs₃.extBut D.TOi1.symm).extBut hs₄.extBut D.i12).extBut hs₅.extBut D.TOi1.symm
  have h2₅ : h₅.IsTupleIter i2 l2 (k2 + 1) := h2₄.extBut hs₅.extBut D.TOi2.symm
  have hzlt : z < h₅.objs.size := Heap.lt_size hz₅
  have hTOlt : TO < h₅.objs.size := Heap.lt_size hTO₅
  have hi1lt : i1 < h₅.objs.size := by obtain ⟨_, e, _⟩ := h1₅; exact Heap.lt_size e
  have hi2lt : i2 < h₅.objs.size := by obtain ⟨_, e, _⟩ := h2₅; exact Heap.lt_size e
  show wpAny _ _ (Builtin.SmallTypes.ownedTupleHandOut (.ref z) (.ref h₅.objs.size) >>= _) _ _ _
  refine wpAny_bind ?_
  unfold Builtin.SmallTypes.ownedTupleHandOut
  have hz₆ : IsZip (h₅.push { cls := .type "tuple", data := .seq #[x, y] }) z TI TO .ellipsis := Heap.get?_push_of_some _ hz₅
  refine wpAny_bind (wpAny_setField_rec hz₆ (by simp) fun h₇ hz₇ hs₇ => ?_)
  replace hz₇ : IsZip h₇ z TI TO (rawInt h₅.objs.size) := hz₇
  refine wpAny_setField_rec hz₇ (by simp) fun h₈ hz₈ hs₈ => ?_
  replace hz₈ : IsZip h₈ z TI TO (rawInt h₅.objs.size) := hz₈
  have up : ∀ c o, c ≠ z → h₅.get? c = some o → h₈.get? c = some o := fun c o c1 e => hs₈.extBut _ _ c1 (hs₇.extBut _ _ c1 (Heap.get?_push_of_some _ e))
  have hT₈ : IsPair h₈ h₅.objs.size x y := hs₈.extBut _ _ (Nat.ne_of_gt hzlt) (hs₇.extBut _ _ (Nat.ne_of_gt hzlt) (Heap.get?_push_size _ rfl))
  have hz8 : h₈.objs.size = h₅.objs.size + 1 := by rw [hs₈.1, hs₇.1, Heap.size_push]
  rw [hsz] at hz₈ hT₈ hz8
  refine wpAny_pure ⟨_, rfl, ?_⟩
  show Q (.ref h₅.objs.size) _
  rw [hsz]
  exact hQ h₈ hz₈ (up _ _ D.TOz hTO₅) (h1₅.at fun o e => up _ o D.i1z e) (h2₅.at fun o e => up _ o D.i2z e) hT₈ hz8 fun c o c1 c2 c3 c4 e => up c o c1 (hk₅ c o c1 c2 c3 c4 e)

theorem zipLT_next_end {z TI TO i1 i2 l1 l2 : Addr} {k1 k2 : Nat} {xs ys : Array Value} {a b : Value} {Q : Fin → Shared → Prop} (hh : A.handled = none) (D : ZipApart z TI TO i1 i2 l1 l2)
    (hz : IsZip s.heap z TI TO .none) (hTI : IsPair s.heap TI (.ref i1) (.ref i2)) (hTO : IsPair s.heap TO a b)
    (h1 : s.heap.IsListIter i1 l1 k1) (h2 : s.heap.IsTupleIter i2 l2 k2) (hl1 : s.heap.IsList l1 xs) (hl2 : s.heap.IsTuple l2 ys) (hend : xs[k1]? = none ∨ ys[k2]? = none)
    (hE : ∀ h' e, (∀ c o, c ≠ z → c ≠ TO → c ≠ i1 → c ≠ i2 → s.heap.get? c = some o → h'.get? c = some o) → (∃ o, h'.get? e = some o ∧ o.cls = .type "StopIteration") → E (.ref e) { s with heap := h' }) :
    wpAny (model prog w) A (Builtin.«zip.__next__» ⟨[.ref z], []⟩) Q E s := by
  show wpAny _ _ (field (.ref z) 2 >>= _) _ _ _
  refine wpAny_bind (wpAny_field hz rfl (x := .bool false) rfl ?_)
  show wpAny _ _ (field (.ref z) 3 >>= _) _ _ _
  refine wpAny_bind (wpAny_field hz rfl (x := .ref TI) rfl ?_)
  refine wpAny_bind (wpAny_seqItems hTI rfl ?_)
  show wpAny _ _ (Builtin.SmallTypes.ownedTupleIsFree (.ref z) >>= _) _ _ _
  refine wpAny_bind ?_
  unfold Builtin.SmallTypes.ownedTupleIsFree
  refine wpAny_bind (wpAny_field hz rfl (x := .none) rfl (wpAny_pure ?_))
  simp only [if_true]
  refine wpAny_bind (wpAny_rule ?_)
  refine wpAny_bind (wpAny_field hz rfl (x := .ref TO) rfl ?_)
  refine wpAny_bind (wpAny_setField_rec hz (by simp) fun h₁ hz₁ hs₁ => ?_)
  replace hz₁ : IsZip h₁ z TI TO .ellipsis := hz₁
  refine wpAny_bind ?_
  simp only [List.zipIdx_cons, List.zipIdx_nil, List.forIn_cons, List.forIn_nil]
  refine wpAny_bind (wpAny_bind (wpAny_onRaise ?_))
  show wpAny _ _ (Builtin.SmallTypes.nextOf (.ref i1) >>= _) _ _ _
  cases hx : xs[k1]? with
  | none =>
    refine wpAny_bind (wpAny_nextOf_list_end hh (h1.extBut hs₁.extBut D.i1z) (hl1.extBut hs₁.extBut D.l1z) hx fun h₂ e hs₂ he => ?_)
    obtain ⟨oe, hoe, hce⟩ := he
    have hz₂ : IsZip h₂ z TI TO .ellipsis := hs₂ _ _ D.i1z.symm hz₁
    have hez : e ≠ z := fun x => by subst x; rw [hz₂] at hoe; cases hoe; simp at hce
    refine wpAny_setField_rec hz₂ (by simp) fun h₃ _ hs₃ => hE h₃ e (fun c o c1 _ c3 _ x => hs₃.extBut _ _ c1 (hs₂ _ _ c3 (hs₁.extBut _ _ c1 x))) ⟨oe, hs₃.extBut _ _ hez hoe, hce⟩
  | some x =>
    have hy : ys[k2]? = none := by rcases hend with h | h; rw [hx] at h; cases h; exact h
    refine wpAny_bind (wpAny_nextOf_list_item (h1.extBut hs₁.extBut D.i1z) (hl1.extBut hs₁.extBut D.l1z) hx fun h₂ h1₂ hs₂ => wpAny_pure ?_)
    have hTO₂ : IsPair h₂ TO a b := hs₂.extBut _ _ D.TOi1 (hs₁.extBut _ _ D.TOz hTO)
    refine wpAny_bind (wpAny_seqItems hTO₂ rfl ?_)
    refine wpAny_bind (wpAny_updateSeq_pair hTO₂ fun h₃ hTO₃ hs₃ => ?_)
    refine wpAny_bind (wpAny_letGo (wpAny_pure ?_))
    refine wpAny_bind (wpAny_bind (wpAny_onRaise ?_))
    show wpAny _ _ (Builtin.SmallTypes.nextOf (.ref i2) >>= _) _ _ _
    refine wpAny_bind (nextOf_tuple_end hh (((h2.extBut hs₁.extBut D.i2z).extBut hs₂.extBut D.i12.symm).extBut hs₃.extBut D.TOi2.symm)
      (((hl2.extBut hs₁.extBut D.l2z).extBut hs₂.extBut D.l2i1).extBut hs₃.extBut D.l2TO) hy fun h₄ e hs₄ he => ?_)
    obtain ⟨oe, hoe, hce⟩ := he
    have hz₄ : IsZip h₄ z TI TO .ellipsis := hs₄ _ _ D.i2z.symm (hs₃.extBut _ _ D.TOz.symm (hs₂.extBut _ _ D.i1z.symm hz₁))
    have hez : e ≠ z := fun x => by subst x; rw [hz₄] at hoe; cases hoe; simp at hce
    refine wpAny_setField_rec hz₄ (by simp) fun h₅ _ hs₅ => hE h₅ e (fun c o c1 c2 c3 c4 x => hs₅.extBut _ _ c1 (hs₄ _ _ c4 (hs₃.extBut _ _ c2 (hs₂.extBut _ _ c3 (hs₁.extBut _ _ c1 x))))) ⟨oe, hs₅.extBut _ _ hez hoe, hce⟩

theorem pyNext_zipLT_item {z TI TO i1 i2 l1 l2 : Addr} {k1 k2 : Nat} {xs ys : Array Value} {x y a b : Value} {Q : Option Value → Shared → Prop} (D : ZipApart z TI TO i1 i2 l1 l2)
    (hz : IsZip s.heap z TI TO .none) (hTI : IsPair s.heap TI (.ref i1) (.ref i2)) (hTO : IsPair s.heap TO a b)
    (h1 : s.heap.IsListIter i1 l1 k1) (h2 : s.heap.IsTupleIter i2 l2 k2) (hl1 : s.heap.IsList l1 xs) (hl2 : s.heap.IsTuple l2 ys) (hx : xs[k1]? = some x) (hy : ys[k2]? = some y)
    (hQ : ∀ h', IsZip h' z TI TO (rawInt s.heap.objs.size) → IsPair h' TO x y → h'.IsListIter i1 l1 (k1 + 1) → h'.IsTupleIter i2 l2 (k2 + 1) → IsPair h' s.heap.objs.size x y → h'.objs.size = s.heap.objs.size + 1 →
      (∀ c o, c ≠ z → c ≠ TO → c ≠ i1 → c ≠ i2 → s.heap.get? c = some o → h'.get? c = some o) → Q (some (.ref s.heap.objs.size)) { s with heap := h' }) :
    wpAny (model prog w) A (pyNext (.ref z)) Q E s := by
  have hT : s.TypeIs (.ref z) "zip" := ⟨_, hz, rfl⟩
  unfold pyNext
  exact wpAny_bind (wpAny_attempt (wpAny_callSpecial?_slot (name := Str.ofString "__next__") hT F.slot_zip_next
    (wpAny_call_entry F.slot_zip_next hT F.entry_zip_next
      (zipLT_next_item D hz hTI hTO h1 h2 hl1 hl2 hx hy fun h' a1 a2 a3 a4 a5 a6 a7 => wpAny_pure (hQ h' a1 a2 a3 a4 a5 a6 a7)) (F.args_zip_next_1 _))))

theorem pyNext_zipLT_end {z TI TO i1 i2 l1 l2 : Addr} {k1 k2 : Nat} {xs ys : Array Value} {a b : Value} {Q : Option Value → Shared → Prop} (hh : A.handled = none) (D : ZipApart z TI TO i1 i2 l1 l2)
    (hz : IsZip s.heap z TI TO .none) (hTI : IsPair s.heap TI (.ref i1) (.ref i2)) (hTO : IsPair s.heap TO a b)
    (h1 : s.heap.IsListIter i1 l1 k1) (h2 : s.heap.IsTupleIter i2 l2 k2) (hl1 : s.heap.IsList l1 xs) (hl2 : s.heap.IsTuple l2 ys) (hend : xs[k1]? = none ∨ ys[k2]? = none)
    (hQ : ∀ h', (∀ c o, c ≠ z → c ≠ TO → c ≠ i1 → c ≠ i2 → s.heap.get? c = some o → h'.get? c = some o) → Q none { s with heap := h' }) : wpAny (model prog w) A (pyNext (.ref z)) Q E s := by
  have hT : s.TypeIs (.ref z) "zip" := ⟨_, hz, rfl⟩
  unfold pyNext
  refine wpAny_bind (wpAny_attempt (wpAny_callSpecial?_slot (name := Str.ofString "__next__") hT F.slot_zip_next
    (wpAny_call_entry F.slot_zip_next hT F.entry_zip_next (zipLT_next_end hh D hz hTI hTO h1 h2 hl1 hl2 hend fun h' e hk he => ?_) (F.args_zip_next_1 _))))
  obtain ⟨o, ho, hc⟩ := he
  refine wpAny_bind (wpAny_isInstance (T := "StopIteration") (b := true) ⟨o, ho, hc⟩ isSubtype_stop ?_)
  exact wpAny_pure (hQ _ hk)
end

abbrev zipLTH1 (h : Heap) (l1 : Addr) : Heap := h.push { cls := .type "list_iterator", data := .fields #[.ref l1, .int 0 0] }
abbrev zipLTH2 (h : Heap) (l1 l2 : Addr) : Heap := (zipLTH1 h l1).push { cls := .type "tuple_iterator", data := .fields #[.ref l2, .int 0 0] }
abbrev zipLTH3 (h : Heap) (l1 l2 : Addr) : Heap := (zipLTH2 h l1 l2).push { cls := .type "tuple", data := .seq #[.ref h.objs.size, .ref (zipLTH1 h l1).objs.size] }
abbrev zipLTH4 (h : Heap) (l1 l2 : Addr) : Heap := (zipLTH3 h l1 l2).push { cls := .type "tuple", data := .seq #[.none, .none] }
abbrev zipLTH5 (h : Heap) (l1 l2 : Addr) : Heap := (zipLTH4 h l1 l2).push { cls := .type "zip", data := .fields #[.none, .bool false, .bool false, .ref (zipLTH2 h l1 l2).objs.size, .ref (zipLTH3 h l1 l2).objs.size] }

theorem meets_zipLT_new (l1 l2 : Addr) (xs ys : Array Value) :
    Meets (Builtin.«zip.__new__» ⟨[.type "zip", .ref l1, .ref l2], []⟩) (fun _ R s => s.heap.IsList l1 xs ∧ s.heap.IsTuple l2 ys ∧
      R (.ok (.ret (.ref (zipLTH4 s.heap l1 l2).objs.size))) { s with heap := zipLTH5 s.heap l1 l2 }) :=
  .of_wp fun prog w A R s h => by
    obtain ⟨hp, g, d, tk, os⟩ := s; obtain ⟨hl1, hl2, h⟩ := h
    have hsub := sub_zip
    have hL1 : Heap.IsList (Shared.heap ⟨hp, g, d, tk, os⟩) l1 xs := hl1
    have hL2 : Heap.IsTuple (Shared.heap ⟨hp.push { cls := .type "list_iterator", data := .fields #[.ref l1, .int 0 0] }, g, d, tk, os⟩) l2 ys := Heap.IsTuple.push hl2 _
    wp_walk using wpAny_pyIter_list hL1, wpAny_pyIter_tuple hL2
    exact ⟨_, rfl, h⟩

section
variable {prog : Program} {w : World} {A : Around} {E : Value → Shared → Prop} {s : Shared}

theorem call_zipLT {l1 l2 : Addr} {xs ys : Array Value} {Q : Value → Shared → Prop} (hl1 : s.heap.IsList l1 xs) (hl2 : s.heap.IsTuple l2 ys)
    (h : ∀ h', IsZip h' (s.heap.objs.size + 4) (s.heap.objs.size + 2) (s.heap.objs.size + 3) .none → IsPair h' (s.heap.objs.size + 2) (.ref s.heap.objs.size) (.ref (s.heap.objs.size + 1)) →
      IsPair h' (s.heap.objs.size + 3) .none .none → h'.IsListIter s.heap.objs.size l1 0 → h'.IsTupleIter (s.heap.objs.size + 1) l2 0 → h'.objs.size = s.heap.objs.size + 5 →
      (∀ c o, s.heap.get? c = some o → h'.get? c = some o) → Q (.ref (s.heap.objs.size + 4)) { s with heap := h' }) :
    wpAny (model prog w) A (call (.type "zip") [.ref l1, .ref l2]) Q E s := by
  refine callType_new F.called_zip (by decide) (F.typeCall_zip_2 _ _) (F.newCall_zip_2 _ _) (fun obj => F.args_object_init_3 obj _ _) F.entry_zip_new
    (meets_zipLT_new l1 l2 xs ys) ⟨hl1, hl2, ?_⟩
  have z1 : (zipLTH1 s.heap l1).objs.size = s.heap.objs.size + 1 := Heap.size_push ..
  have z2 : (zipLTH2 s.heap l1 l2).objs.size = s.heap.objs.size + 2 := by rw [Heap.size_push, z1]
  have z3 : (zipLTH3 s.heap l1 l2).objs.size = s.heap.objs.size + 3 := by rw [Heap.size_push, z2]
  have z4 : (zipLTH4 s.heap l1 l2).objs.size = s.heap.objs.size + 4 := by rw [Heap.size_push, z3]
  have z5 : (zipLTH5 s.heap l1 l2).objs.size = s.heap.objs.size + 5 := by rw [Heap.size_push, z4]
  have g5 : (zipLTH5 s.heap l1 l2).get? (zipLTH4 s.heap l1 l2).objs.size = some _ := Heap.get?_push_size _ rfl
  have g4 : (zipLTH5 s.heap l1 l2).get? (zipLTH3 s.heap l1 l2).objs.size = some _ := Heap.get?_push_of_some _ (Heap.get?_push_size _ rfl)
  have g3 : (zipLTH5 s.heap l1 l2).get? (zipLTH2 s.heap l1 l2).objs.size = some _ := Heap.get?_push_of_some _ (Heap.get?_push_of_some _ (Heap.get?_push_size _ rfl))
  have g2 : (zipLTH5 s.heap l1 l2).get? (zipLTH1 s.heap l1).objs.size = some _ := Heap.get?_push_of_some _ (Heap.get?_push_of_some _ (Heap.get?_push_of_some _ (Heap.get?_push_size _ rfl)))
  have g1 : (zipLTH5 s.heap l1 l2).get? s.heap.objs.size = some _ := Heap.get?_push_of_some _ (Heap.get?_push_of_some _ (Heap.get?_push_of_some _ (Heap.get?_push_of_some _ (Heap.get?_push_size _ rfl))))
  show _ ∧ _
  rw [z2, z3, z4] at g5
  rw [z1, z2] at g3
  rw [z3] at g4
  rw [z1] at g2
  rw [z4]
  exact ⟨⟨_, g5, rfl⟩, h _ g5 g3 g4 ⟨_, g1, rfl, rfl⟩ ⟨_, g2, rfl, rfl⟩ z5 fun c o x =>
    Heap.get?_push_of_some _ (Heap.get?_push_of_some _ (Heap.get?_push_of_some _ (Heap.get?_push_of_some _ (Heap.get?_push_of_some _ x))))⟩
end
end RZ
namespace RZ
open PySem PySem.Spec PyProof.Rows L2
/-- the list at a and the tuple at b as they stand at each turn, the items in new pairs -/
def ItzLT (K : PySem.W.Frag) (a b : Addr) : It :=
  ⟨fun i H => ∃ (xs ys : List V) (x y : V), SqL K H a xs ∧ SqT K H b ys ∧ xs[i]? = some x ∧ ys[i]? = some y,
    fun i H v H' => ∃ T x y, v = .ref T ∧ H T = none ∧ H' = upd H T (.tup [x, y]) ∧ (∀ xs, SqL K H a xs → xs[i]? = some x) ∧ ∀ ys, SqT K H b ys → ys[i]? = some y,
    fun i H => ∃ xs ys : List V, SqL K H a xs ∧ SqT K H b ys ∧ (xs.length ≤ i ∨ ys.length ≤ i)⟩
theorem turn_zipLT {P : Program} {w : World} {K : PySem.W.Frag} {elts : List Expr} {kk : Nat} {tpos : Pos} {a b z TI TO i1 i2 : Addr} (D : ZipApart z TI TO i1 i2 a b) :
    Turn P w K (.Tuple elts kk tpos) (ItzLT K a b) [z, TI, TO, i1, i2] z (fun i h => IsZip h z TI TO .none ∧ IsPair h TI (.ref i1) (.ref i2) ∧ (∃ x y, IsPair h TO x y) ∧ h.IsListIter i1 a i ∧ h.IsTupleIter i2 b i) where
  mem := by simp
  obj := fun i h st c hc => by
    obtain ⟨hz, hTI, ⟨x, y, hTO⟩, ⟨o1, e1, _, d1⟩, ⟨o2, e2, _, d2⟩⟩ := st
    have e' : c = z ∨ c = TI ∨ c = TO ∨ c = i1 ∨ c = i2 := by simpa using hc
    rcases e' with q | q | q | q | q
    · rw [q]; exact ⟨_, hz, fun v q => nomatch q⟩
    · rw [q]; exact ⟨_, hTI, fun v q => nomatch q⟩
    · rw [q]; exact ⟨_, hTO, fun v q => nomatch q⟩
    · rw [q]; exact ⟨o1, e1, fun v q => by rw [d1] at q; cases q⟩
    · rw [q]; exact ⟨o2, e2, fun v q => by rw [d2] at q; cases q⟩
  keep := fun i h h' st k => by
    obtain ⟨hz, hTI, ⟨x, y, hTO⟩, h1, h2⟩ := st
    exact ⟨k z (by simp) _ hz, k TI (by simp) _ hTI, ⟨x, y, k TO (by simp) _ hTO⟩, h1.at fun o q => k i1 (by simp) o q, h2.at fun o q => k i2 (by simp) o q⟩
  item := by
    intro X hP hw hK hc i pins s σ H E I hf st hg
    subst hP hw hK
    obtain ⟨hz, hTI, ⟨x0, y0, hTO⟩, h1, h2⟩ := st
    obtain ⟨xs, ys, x, y, hqx, hqy, hx, hy⟩ := hg
    obtain ⟨its, rv, p, _⟩ := I.list hqx
    obtain ⟨its2, rv2, p2, _⟩ := I.tuple hqy
    obtain ⟨u, hu, ru⟩ := rv.get hx
    obtain ⟨u2, hu2, ru2⟩ := rv2.get hy
    have hzl : z < s.heap.objs.size := Heap.lt_size hz
    refine pyNext_zipLT_item D hz hTI hTO h1 h2 p.isList p2 (x := u) (y := u2) (by simpa using hu) (by simpa using hu2) fun h' z' TO' h1' h2' hT hsz hk => ?_
    refine ⟨_, rfl, wpAny_letOwnedTupleGo_zip (s := { s with heap := h' }) z' fun h'' z'' sb => ?_⟩
    have hT2 : h''.get? s.heap.objs.size = some { cls := .type "tuple", data := .seq #[u, u2] } := (sb.2 _ (Nat.ne_of_gt hzl)).trans hT
    have new : ObjOk X.prog X.w (upd H s.heap.objs.size (.tup [x, y])) h'' s.heap.objs.size (.tup [x, y]) :=
      ⟨by show 2 ≤ sizeLine; decide, [u, u2], .cons ru (.cons ru2 .nil), ⟨_, hT2, rfl, _, rfl⟩⟩
    have I1 : Inv X pins σ (upd H s.heap.objs.size (.tup [x, y])) { s with heap := h'' } :=
      I.turnedNew (t' := s.toks) (ch := [z, TI, TO, i1, i2]) (fun c o hb q => (sb.2 c (fun q' => hb (by simp [q']))).trans (hk c o (fun q' => hb (by simp [q'])) (fun q' => hb (by simp [q'])) (fun q' => hb (by simp [q'])) (fun q' => hb (by simp [q'])) q)) hf (Nat.le_refl _) new
    refine ⟨.ref s.heap.objs.size, _, I1, rfl, ⟨_, x, y, rfl, I.hok.fresh (Nat.le_refl _), rfl, fun l hl => by rw [I.list_inj hl hqx]; exact hx, fun l hl => by rw [I.tuple_inj hl hqy]; exact hy⟩, ⟨z'', ?_, ⟨u, u2, ?_⟩, ?_, ?_⟩, fun c hcm => ?_⟩
    · exact (sb.2 _ D.TIz).trans (hk _ _ D.TIz D.TITO D.TIi1 D.TIi2 hTI)
    · exact (sb.2 _ D.TOz).trans TO'
    · exact h1'.at fun o q => (sb.2 _ D.i1z).trans q
    · exact h2'.at fun o q => (sb.2 _ D.i2z).trans q
    · have hlt : c < s.heap.objs.size := by
        have e' : c = z ∨ c = TI ∨ c = TO ∨ c = i1 ∨ c = i2 := by simpa using hcm
        rcases e' with q | q | q | q | q
        · rw [q]; exact hzl
        · rw [q]; exact Heap.lt_size hTI
        · rw [q]; exact Heap.lt_size hTO
        · rw [q]; obtain ⟨_, e1, _⟩ := h1; exact Heap.lt_size e1
        · rw [q]; obtain ⟨_, e2, _⟩ := h2; exact Heap.lt_size e2
      rw [upd_ne (Nat.ne_of_lt hlt)]
      exact (hf c hcm).1
  done := by
    intro X hP hw hK hc i pins s σ H E I hf st hg
    subst hP hw hK
    obtain ⟨hz, hTI, ⟨x0, y0, hTO⟩, h1, h2⟩ := st
    obtain ⟨xs, ys, hqx, hqy, hend⟩ := hg
    obtain ⟨its, rv, p, _⟩ := I.list hqx
    obtain ⟨its2, rv2, p2, _⟩ := I.tuple hqy
    have l1 := rv.length
    have l2 := rv2.length
    have he : its.toArray[i]? = none ∨ its2.toArray[i]? = none := by
      rcases hend with q | q
      · exact .inl (by simp; omega)
      · exact .inr (by simp; omega)
    exact pyNext_zipLT_end (I.ok.hd hc) D hz hTI hTO h1 h2 p.isList p2 he fun h' hk => ⟨rfl, I.turnedL (t' := s.toks) (ch := [z, TI, TO, i1, i2]) (fun c o hb q =>
      hk c o (fun q' => hb (by simp [q'])) (fun q' => hb (by simp [q'])) (fun q' => hb (by simp [q'])) (fun q' => hb (by simp [q'])) q) hf⟩
  self := fun A i s Q E st h => wpAny_pyIter_zip st.1 h

/-- a loop over zip of a list and a tuple of one length -/
theorem for_zipLT {K : PySem.W.Frag} {a b : Addr} {xs ys : List V} {g : TG} {tb : TS} {D : Ends} {σ : L2.St} {H : Hp} (hl : xs.length = ys.length) (Pv : Nat → L2.St → Hp → Prop) (h0 : Pv 0 σ H) (hq : ∀ i σ H, Pv i σ H → SqL K H a xs ∧ SqT K H b ys)
    (hs : ∀ (i : Nat) (x y : V) (T : Addr) (σ : L2.St) (H : Hp), xs[i]? = some x → ys[i]? = some y → Pv i σ H → H T = none → g (.ref T) σ (upd H T (.tup [x, y])) fun σ2 H2 => tb { D with nx := Pv (i + 1), ct := Pv (i + 1), bk := D.nx } σ2 H2) (hd : ∀ σ H, Pv xs.length σ H → D.nx σ H) :
    ∃ W : Nat → Nat → L2.St → Hp → Prop, (∃ m, W 0 m σ H) ∧ ∀ i m σ H, W i m σ H →
      ((ItzLT K a b).stop i H ∧ D.nx σ H) ∨ ((ItzLT K a b).go i H ∧ ∃ N : L2.St → Hp → Prop, (∀ σ' H', N σ' H' → ∃ m', m' < m ∧ W (i + 1) m' σ' H') ∧ ∀ v H', (ItzLT K a b).yld i H v H' → g v σ H' fun σ2 H2 => tb { D with nx := N, ct := N, bk := D.nx } σ2 H2) := by
  refine ⟨fun i m σ H => m = xs.length - i ∧ i ≤ xs.length ∧ Pv i σ H, ⟨xs.length, rfl, Nat.zero_le _, h0⟩, ?_⟩
  rintro i m σ H ⟨rfl, hi, p⟩
  obtain ⟨qx, qy⟩ := hq i σ H p
  by_cases hlt : i < xs.length
  · have hx : xs[i]? = some xs[i] := List.getElem?_eq_getElem hlt
    have hlt2 : i < ys.length := by omega
    have hy : ys[i]? = some ys[i] := List.getElem?_eq_getElem hlt2
    refine .inr ⟨⟨xs, ys, _, _, qx, qy, hx, hy⟩, Pv (i + 1), fun σ' H' p' => ⟨xs.length - (i + 1), by omega, rfl, hlt, p'⟩, fun v H' y => ?_⟩
    obtain ⟨T, x', y', rfl, hT, rfl, f1, f2⟩ := y
    exact hs i x' y' T σ H (f1 xs qx) (f2 ys qy) p hT
  · have e : i = xs.length := by omega
    subst e
    exact .inl ⟨⟨xs, ys, qx, qy, Or.inl (Nat.le_refl _)⟩, hd σ H p⟩

def iZipLT (K : PySem.W.Frag) (ta : TA) : TI := fun σ H R => ta σ H fun vs H1 => ∃ a b xs ys, vs = [.ref a, .ref b] ∧ SqL K H1 a xs ∧ SqT K H1 b ys ∧ R (ItzLT K a b) H1
theorem pi_zipLT {X : Cx} {e e2 : Expr} {ta : TA} {p pos tpos : Pos} {elts : List Expr} {kk : Nat} (hg : Gl X "zip") (hm : X.mg "zip" = none) (ha : PA X [e, e2] ta)
    (hs : starEach [e, e2] X.env = (false, eval e X.env) :: starEach [e2] X.env := by rfl) (hpl : (backTo pos (starEach [e2] X.env)).any (·.1) = false := by rfl) :
    PI X (.Tuple elts kk tpos) (.Call (.Name "zip" p) [e, e2] [] pos) (iZipLT X.K ta) := by
  refine ⟨fun pins s σ H R I h => ?_⟩
  refine Call_ (ld_blt I hg hm PyProof.Rows.boot_zip (PyProof.Rows.callWith_type1 (thn (ha.run pos pins s σ H _ I h) fun us s1 ⟨vs, H1, I1, r1, q1⟩ => ?_) hs hpl))
  obtain ⟨a, b, xs, ys, ex, hqx, hqy, q⟩ := q1
  subst ex
  cases r1 with
  | cons r rr =>
    cases rr with
    | cons r' rr =>
      cases rr
      cases r
      cases r'
      obtain ⟨its, rv, p1, _⟩ := I1.list hqx
      obtain ⟨its2, rv2, p2, _⟩ := I1.tuple hqy
      obtain ⟨o2, ho2, _⟩ := id p2
      refine call_zipLT p1.isList (show s1.heap.IsTuple b its2.toArray from p2) fun h' hz hTI hTO h1 h2 hsz hk => wpAny_pyIter_zip hz ?_
      have I2 : Inv X pins σ H1 { s1 with heap := h' } := I1.kept (t' := s1.toks) hk
      refine ⟨s1.heap.objs.size + 4, [s1.heap.objs.size + 4, s1.heap.objs.size + 2, s1.heap.objs.size + 3, s1.heap.objs.size, s1.heap.objs.size + 1], _, _, H1, rfl, I2, turn_zipLT (PySem.W.ktu_apart s1.heap.objs.size a b p1.lt (Heap.lt_size ho2)), ⟨hz, hTI, ⟨_, _, hTO⟩, h1, h2⟩, fun c hcm => ?_, q⟩
      have e' : c = s1.heap.objs.size + 4 ∨ c = s1.heap.objs.size + 2 ∨ c = s1.heap.objs.size + 3 ∨ c = s1.heap.objs.size ∨ c = s1.heap.objs.size + 1 := by simpa using hcm
      have hle : s1.heap.objs.size ≤ c := by rcases e' with z | z | z | z | z <;> rw [z] <;> first | exact Nat.le_refl _ | exact Nat.le_add_right _ _
      exact I1.fpOk hle (I1.hok.fresh hle)
/-- for k in e, where e makes a dict: it is locked for good -/
def iKeysN (td : TE) : TI := fun σ H R => td σ H fun x H1 => ∃ d kvs, x = .ref d ∧ H1 d = some (.dK kvs) ∧ ∀ o, R (Itk d o kvs) (upd H1 d (.frz o (.dK kvs)))
theorem pi_keysN {X : Cx} {tg e : Expr} {td : TE} (he : PE X e td) : PI X tg e (iKeysN td) := by
  refine ⟨fun pins s σ H R I h => ?_⟩
  refine thn (he.run pins s σ H _ I h) fun u s1 ⟨x, H1, I1, rx, d, kvs, ex, hd, q⟩ => ?_
  subst ex
  obtain rfl : u = Value.ref d := rx
  obtain ⟨o, I2⟩ := I1.lock hd trivial
  obtain ⟨hs, hgd, hx, es, ep, vs, hdt, hsz, kv, hm⟩ := I2.frzK upd_same
  refine iter_keys hs hgd hx hdt (pi_one (tk := s1.toks) I2 _ (turn_keys _ hdt) ⟨_, Heap.get?_push_size _ rfl, rfl, ?_⟩ (q o))
  rw [hsz] <;> rfl
end RZ
namespace My
open PySem PySem.Spec PyProof.Rows L2
/-- where the __init__ of the class at C stands -/
def fi (K : PySem.W.Frag) (C : Addr) : Addr := match PySem.W.findIn K (.ref C) "__init__" with
  | some (some (.ref f)) => f
  | _ => 0
abbrev Ex (P : Program) (K : PySem.W.Frag) (mg : Str → Option Value) (x : Str) (st : Stmt) (fs : List Str) : Prop := Er P K mg x (fa mg x) (fi K (fa mg x)) (fdOf K (fi K (fa mg x))) st fs
end My
/-! the head's facts: the layer's hookX, with the own errors' __init__ and the statics -/
namespace My
open PySem PySem.Spec PyProof.Rows L2 He
/-! ### an own error's class -/
def oexB (K : PySem.W.Frag) (C : Addr) : Bool := (match K.lookup C with
  | some ⟨.type t, _, .cls cd, sl⟩ => (match cd.mro, sl.toList with
    | .ref C' :: bm, [_, _, _, _, some (.builtin n), _] => decide (t = "type") && (decide (C' = C) && (decide (n = "ValueError.__new__") && (!cd.hasDel && (cd.hasDict && PySem.HandSPX.refsVE bm))))
    | _, _ => false)
  | _ => false) && (decide (PySem.W.findIn K (.ref C) "__setattr__" = some (some (.builtin "object.__setattr__"))) && (decide (PySem.W.subIn K (.ref C) (.type "BaseException") = some true) && (decide (PySem.W.typeIn K (.ref C) = some (.type "type")) && PySem.W.keepIn K (.ref C))))
theorem oexB_ok {K : PySem.W.Frag} {C : Addr} (h : oexB K C = true) : OexC K C := by
  obtain ⟨h1, h⟩ := ba h
  obtain ⟨h2, h⟩ := ba h
  obtain ⟨h3, h⟩ := ba h
  obtain ⟨h4, h5⟩ := ba h
  refine ⟨?_, of_decide_eq_true h2, of_decide_eq_true h3, of_decide_eq_true h4, h5⟩
  split at h1
  · rename_i t dd cd sl hl
    split at h1
    · rename_i C' bm k0 k1 k2 k3 n k5 hm hs
      obtain ⟨a1, h1⟩ := ba h1
      obtain ⟨a2, h1⟩ := ba h1
      obtain ⟨a3, h1⟩ := ba h1
      obtain ⟨a4, h1⟩ := ba h1
      obtain ⟨a5, a6⟩ := ba h1
      obtain rfl := of_decide_eq_true a1
      obtain rfl := of_decide_eq_true a2
      obtain rfl := of_decide_eq_true a3
      obtain ⟨nm, bs, mro, ns, q, hdct, sn, sub, ab, col, del⟩ := cd
      have e1 : mro = _ := hm
      have e2 : del = false := by simpa using a4
      have e3 : hdct = true := a5
      have e4 : sl = #[k0, k1, k2, k3, some (.builtin "ValueError.__new__"), k5] := by
        rw [← Array.toList_inj, hs]
      subst e1 e2 e3 e4
      exact ⟨_, _, _, _, _, _, _, _, _, _, _, _, _, _, _, hl, a6⟩
    · cases h1
  · cases h1
/-! ### its __init__ -/
structure IniD where
  cls : Str
  st : Stmt
  fs : List Str
abbrev IniW : Type := Option (Str × Arguments × FuncBody × Scope × Addr × Addr)
def iniW (K : PySem.W.Frag) (C : Addr) : IniW := match K.lookup (fi K C) with
  | some ⟨_, _, .func fd, _⟩ => some (fd.name, fd.params, fd.body, fd.scope, fd.globals, fd.builtins)
  | _ => none
def IniD.val (d : IniD) : IniW := some ("__init__", defArgs d.st, .stmts (defBody d.st), defScope d.st, mainGlobals, builtinsNs)
def codeB (file : Str) (K : PySem.W.Frag) (c : Addr) : Bool := match K.lookup c with
  | some ⟨_, _, .fields vs, _⟩ => (match (vs[2]? : Option Value) with
    | some (.str f _) => decide (f = file)
    | _ => false)
  | _ => false
def cellB (K : PySem.W.Frag) (c C : Addr) : Bool := match K.lookup c with
  | some ⟨_, _, .cell (some (.ref D)), _⟩ => decide (D = C)
  | _ => false
def iniB (file : Str) (K : PySem.W.Frag) (C : Addr) : Bool := match K.lookup (fi K C) with
  | some ⟨_, _, .func fd, _⟩ => decide (fd.defaults = .none) && (match fd.code, fd.closure with
    | .ref c, [(n, cc)] => decide (n = "__class__") && (PySem.W.codeIn K (.ref c) fd.qualname && (codeB file K c && cellB K cc C))
    | _, _ => false)
  | _ => false
def errB (file : Str) (K : PySem.W.Frag) (C : Addr) (fs : List Str) : Bool := oexB K C && (decide (PySem.W.findIn K (.ref C) "__init__" = some (some (.ref (fi K C)))) && (decide (PySem.W.typeIn K (.ref (fi K C)) = some (.type "function")) && (iniB file K C &&
  (decide (PySem.W.ks_superIn K C C "__init__" = some (some (.builtin "ValueError.__init__"))) && (decide (PySem.W.subIn K (.ref C) (.type "ValueError") = some true) && (decide (PySem.W.mroIn K C (.ref C) = some true) && (decide (PySem.W.nsIn K cStatics "thirdparty.any" = some none) &&
  ((fs.all fun f => decide (PySem.W.findIn K (.ref C) f = some none)) && xfB K C))))))))
theorem err_ok {P : Program} {K : PySem.W.Frag} {mg : Str → Option Value} {d : IniD} (gC : mg d.cls = some (.ref (fa mg d.cls))) (h : errB P.main.file K (fa mg d.cls) d.fs = true) (hi : iniW K (fa mg d.cls) = d.val) (S : ErrS d.st d.fs) (sup : mg "super" = none) (top : (P.main.scope.names.lookup ("super" : Str)).isSome = false)
    (hb : ∀ (q : Str) (kV dc pm : Value) (an : Option Addr) (cdv ct : Value) (cc : Addr) (us : List Value), us.length = (("self" : Str) :: d.fs).length → bindArgs (PySem.W.ksFn "__init__" q (defArgs d.st) (defBody d.st) (defScope d.st) .none kV dc pm an cdv ct cc) ⟨us, []⟩ = pure ((("self" : Str) :: d.fs).zip us)) :
    Ex P K mg d.cls d.st d.fs := by
  obtain ⟨h1, h⟩ := ba h
  obtain ⟨h2, h⟩ := ba h
  obtain ⟨h3, h⟩ := ba h
  obtain ⟨h4, h⟩ := ba h
  obtain ⟨h5, h⟩ := ba h
  obtain ⟨h6, h⟩ := ba h
  obtain ⟨h7, h⟩ := ba h
  obtain ⟨h8, h⟩ := ba h
  obtain ⟨h9, h10⟩ := ba h
  have key : ∃ (oc : Value) (od : Option Addr) (q : Str) (kV dc pm : Value) (an : Option Addr) (cda : Addr) (ct : Value) (cc : Addr) (osl : Array (Option Value)) (vs : Array Value) (file : Str) (tf : Tok) (ccl : Value) (cdd : Option Addr) (ccs : Array (Option Value)) (cl : Value) (cld : Option Addr) (csl : Array (Option Value)),
      fdOf K (fi K (fa mg d.cls)) = PySem.W.ksFn "__init__" q (defArgs d.st) (defBody d.st) (defScope d.st) .none kV dc pm an (.ref cda) ct cc ∧ K.lookup (fi K (fa mg d.cls)) = some ⟨oc, od, .func (fdOf K (fi K (fa mg d.cls))), osl⟩ ∧ PySem.W.codeIn K (.ref cda) q = true ∧ K.lookup cda = some ⟨ccl, cdd, .fields vs, ccs⟩ ∧ vs[2]? = some (.str file tf) ∧ ((P.main.file : Str) == file) = true ∧ K.lookup cc = some ⟨cl, cld, .cell (some (.ref (fa mg d.cls))), csl⟩ := by
    unfold iniB at h4
    unfold iniW at hi
    unfold fdOf
    split at h4
    · rename_i oc od fd osl hl
      rw [hl] at hi ⊢
      obtain ⟨a1, h4⟩ := ba h4
      split at h4
      · rename_i c n cc hc hcl
        obtain ⟨a2, h4⟩ := ba h4
        obtain ⟨a3, h4⟩ := ba h4
        obtain ⟨a4, a5⟩ := ba h4
        obtain ⟨n1, n2, n3, n4, n5, n6, n7, n8, n9, n10, n11, n12, n13, n14, n15⟩ := fd
        have e2 : (some (n1, n3, n4, n5, n6, n15) : IniW) = some (("__init__" : Str), defArgs d.st, FuncBody.stmts (defBody d.st), defScope d.st, mainGlobals, builtinsNs) := hi
        simp only [Option.some.injEq, Prod.mk.injEq] at e2
        obtain ⟨e1, e3, e4, e5, e6, e7⟩ := e2
        have e8 : n8 = .none := of_decide_eq_true a1
        have e9 : n13 = .ref c := hc
        have e10 : n7 = [(n, cc)] := hcl
        have e11 : n = "__class__" := of_decide_eq_true a2
        subst e1 e3 e4 e5 e6 e7 e8 e9 e10 e11
        unfold codeB at a4
        split at a4
        · rename_i ccl cdd vs ccs hk
          split at a4
          · rename_i file tf hv
            unfold cellB at a5
            split at a5
            · rename_i cl cld D csl hcc
              obtain rfl := of_decide_eq_true a5
              have ef : file = P.main.file := of_decide_eq_true a4
              exact ⟨oc, od, n2, n9, n10, n11, n12, c, n14, cc, osl, vs, file, tf, ccl, cdd, ccs, cl, cld, csl, rfl, rfl, a3, hk, hv, by rw [ef]; exact beq_self_eq_true _, hcc⟩
            · cases a5
          · cases a4
        · cases a4
      · cases h4
    · cases h4
  refine ⟨⟨oexB_ok h1, gC, of_decide_eq_true h2, of_decide_eq_true h3, key, of_decide_eq_true h5, of_decide_eq_true h6, of_decide_eq_true h7, of_decide_eq_true h8, sup, top, fun f hf => of_decide_eq_true (List.all_eq_true.mp h9 f hf)⟩, S, ?_, xfB_ok h10⟩
  obtain ⟨oc, od, q, kV, dc, pm, an, cda, ct, cc, osl, vs, file, tf, ccl, cdd, ccs, cl, cld, csl, e, _⟩ := key
  rw [e]
  exact .all (hb q kV dc pm an (.ref cda) ct cc)
/-! ### the Hook -/
structure SaysM (fa : List Fa) (fn : List DefD) (ts : List Tab) (tf : List Defn) (ex : PySem.W.Frag → Bool) (ini : List IniD) (w : World) (h : Heap) (K : PySem.W.Frag) : Prop where
  t : SaysT fa fn ts w K
  more : ex K = true
  hd : ∀ p ∈ tf, PySem.W.codeHdIn K (cT K p).1 (cT K p).2 = true
  out : ∀ p ∈ tf, K.lookup (cT K p).2 = none
  empty : ∀ p ∈ tf, h.get? (cT K p).2 = some { cls := .none, data := .fields #[] }
  inis : ini.map (fun d => iniW K (ga K d.cls)) = ini.map IniD.val
abbrev AlM : Type := (AlT × Bool) × List IniW
def obsK (fa : List Fa) (fn : List DefD) (ts : List Tab) (tf : List Defn) (ex : PySem.W.Frag → Bool) (ini : List IniD) (g : Addr → Option Obj) (K : PySem.W.Frag) : AlM := ((obsT fa fn ts K, ex K && tabsB g tf K), ini.map fun d => iniW K (ga K d.cls))
def obsM (n : Nat) (fa : List Fa) (fn : List DefD) (ts : List Tab) (tf : List Defn) (ex : PySem.W.Frag → Bool) (ini : List IniD) (g : Addr → Option Obj) : AlM := obsK fa fn ts tf ex ini g (frT g (cStatics :: asD g n))
def valM (fn : List DefD) (ts : List Tab) (ini : List IniD) (w : World) : AlM := ((valT fn ts w, true), ini.map IniD.val)
theorem saysM_of {as : List Addr} {fa : List Fa} {fn : List DefD} {ts : List Tab} {tf : List Defn} {ex : PySem.W.Frag → Bool} {ini : List IniD} {w : World} {h : Heap} (e : obsK fa fn ts tf ex ini h.get? (frT h.get? as) = valM fn ts ini w) : SaysM fa fn ts tf ex ini w h (frT h.get? as) := by
  have e1 : obsT fa fn ts (frT h.get? as) = valT fn ts w := congrArg (fun z : AlM => z.1.1) e
  have e2 : (ex (frT h.get? as) && tabsB h.get? tf (frT h.get? as)) = true := congrArg (fun z : AlM => z.1.2) e
  have e3 : ini.map (fun d => iniW (frT h.get? as) (ga (frT h.get? as) d.cls)) = ini.map IniD.val := congrArg (fun z : AlM => z.2) e
  obtain ⟨h1, h2⟩ := ba e2
  have key : ∀ p ∈ tf, PySem.W.codeHdIn (frT h.get? as) (cT (frT h.get? as) p).1 (cT (frT h.get? as) p).2 = true ∧ ∃ o, h.get? (cT (frT h.get? as) p).2 = some o ∧ emptyTab o = true := fun p hp => by
    obtain ⟨h3, h4⟩ := ba (List.all_eq_true.mp h2 p hp)
    refine ⟨h3, ?_⟩
    cases q : h.get? (cT (frT h.get? as) p).2 with
    | none =>
      rw [q] at h4
      cases h4
    | some o =>
      rw [q] at h4
      exact ⟨o, rfl, h4⟩
  exact ⟨e1, h1, fun p hp => (key p hp).1, fun p hp => by
    obtain ⟨_, o, q, z⟩ := key p hp
    exact frT_none q z, fun p hp => by
    obtain ⟨_, o, q, z⟩ := key p hp
    rw [q, emptyTab_eq z], e3⟩
def hookM (n : Nat) (fa : List Fa) (fn : List DefD) (ts : List Tab) (tf : List Defn) (ex : PySem.W.Frag → Bool) (ini : List IniD) : PySem.W.Hook where
  α := AlM
  obs := fun s => obsM n fa fn ts tf ex ini s.heap.get?
  val := fun w => valM fn ts ini w
  says := fun w h => ∃ K : PySem.W.Frag, K.In h ∧ SaysM fa fn ts tf ex ini w h K
  of := fun _ _ e => ⟨_, frT_in, saysM_of e⟩
  keeps := fun _ _ _ ⟨K, hK, c⟩ k => ⟨K, PySem.W.Frag.In.keeps hK k, ⟨c.t, c.more, c.hd, c.out, fun p hp => k _ _ (c.empty p hp), c.inis⟩⟩
theorem obsM_eq {n : Nat} {fa : List Fa} {fn : List DefD} {ts : List Tab} {tf : List Defn} {ex : PySem.W.Frag → Bool} {ini : List IniD} {g : Addr → Option Obj} {s : Shared} (h : ∀ a, g a = s.heap.get? a) : obsM n fa fn ts tf ex ini g = (hookM n fa fn ts tf ex ini).obs s := by
  have e : g = s.heap.get? := funext h
  rw [e] <;> rfl
theorem SaysM.ini {fa : List Fa} {fn : List DefD} {ts : List Tab} {tf : List Defn} {ex : PySem.W.Frag → Bool} {ini : List IniD} {w : World} {h : Heap} {K : PySem.W.Frag} (c : SaysM fa fn ts tf ex ini w h K) {d : IniD} (hd : d ∈ ini) : iniW K (ga K d.cls) = d.val := by
  obtain ⟨i, hi, e⟩ := List.mem_iff_getElem.mp hd
  have e2 := congrArg (fun l => l[i]?) c.inis
  simp only [List.getElem?_map, List.getElem?_eq_getElem hi, Option.map_some, e] at e2
  exact Option.some.inj e2
/-- a def by its datum -/
theorem df_of {K : PySem.W.Frag} {h : Heap} {mg : Str → Option Value} {fa0 : List Fa} {fn : List DefD} {x : Str} {st : Stmt} {ps : List Str} (X : K.In h) (G : h.Ns mainGlobals mg) (c : SaysD fa0 fn K) (hg : Fa.glo x ∈ fa0) (hd : (⟨(x, none), x, x, defArgs st, defBody st, defScope st, [], []⟩ : DefD) ∈ fn)
    (b : ∀ (kV doc pm : Value) (an : Option Addr) (cdv ct : Value) (us : List Value), us.length = ps.length → bindArgs (PySem.W.fnOf x x (defArgs st) (defBody st) (defScope st) .none kV doc pm an cdv ct) ⟨us, []⟩ = pure (ps.zip us)) : Df K mg x st ps := by
  obtain ⟨fd, F⟩ := c.defs hd
  obtain ⟨oc, od, dV, kV, doc, pm, an, cdv, ct, osl, e, lk, hcd, hdv, _⟩ := F.ex
  obtain rfl : dV = .none := by
    rcases hdv with ⟨_, z⟩ | ⟨z, _⟩
    · exact z
    · exact absurd rfl z
  subst e
  exact Df.of X G (eqO_ok (c.facts hg)) lk hcd F.kp b
theorem fa_ga {K : PySem.W.Frag} {h : Heap} {mg : Str → Option Value} {fa0 : List Fa} {fn : List DefD} {x : Str} (X : K.In h) (G : h.Ns mainGlobals mg) (c : SaysD fa0 fn K) (hg : Fa.glo x ∈ fa0) : mg x = some (.ref (My.fa mg x)) ∧ My.fa mg x = ga K x := by
  have e := glo_ok X G (c.facts hg)
  have e2 := fa_eq e
  rw [e2]
  exact ⟨e, rfl⟩
end My
/-! written tuples and dicts, an own error under isinstance, by one Bool each -/
namespace My
open PySem PySem.Spec PyProof.Rows L2 He
def tupAt (K : PySem.W.Frag) (p : Addr) (vs : List V) : Bool := match K.lookup p with
  | some ⟨.type c, none, .seq its _, _⟩ => decide (c = "tuple") && (decide (its.size ≤ sizeLine) && relAll vs its.toList)
  | _ => false
theorem tupAt_ok {K : PySem.W.Frag} {p : Addr} {vs : List V} (h : tupAt K p vs = true) : (∃ o, K.lookup p = some o ∧ o.dict = none) ∧ ∀ H, SqT K H p vs := by
  unfold tupAt at h
  split at h
  · rename_i c its n sl q
    obtain ⟨h1, h2⟩ := ba h
    obtain ⟨h3, h4⟩ := ba h2
    exact ⟨⟨_, q, rfl⟩, fun H => .inr ⟨_, its, n, q, congrArg Value.type (of_decide_eq_true h1), rfl, of_decide_eq_true h3, relAll_ok h4⟩⟩
  · cases h
def refsOf (K : PySem.W.Frag) (p : Addr) : List Addr := match K.lookup p with
  | some ⟨_, _, .seq its _, _⟩ => its.toList.filterMap fun v => match v with
    | .ref a => some a
    | _ => none
  | _ => []
def pairsB (K : PySem.W.Frag) : List Addr → List (Str × Int) → Bool
  | [], [] => true
  | p :: ps, kv :: l => tupAt K p [.str kv.1, .int kv.2] && pairsB K ps l
  | _, _ => false
theorem pairsB_ok {K : PySem.W.Frag} : ∀ {ps : List Addr} {l : List (Str × Int)}, pairsB K ps l = true → Paired (fun p (kv : Str × Int) => SqT K (fun _ => none) p [.str kv.1, .int kv.2]) ps l
  | [], [], _ => .nil
  | p :: ps, kv :: l, h => by
    obtain ⟨h1, h2⟩ := ba h
    exact .cons ((tupAt_ok h1).2 _) (pairsB_ok h2)
  | [], _ :: _, h => by cases h
  | _ :: _, [], h => by cases h
def kpB (K : PySem.W.Frag) (a : Addr) (l : List (Str × Int)) : Bool := tupAt K a ((refsOf K a).map V.ref) && pairsB K (refsOf K a) l
theorem kpB_ok {K : PySem.W.Frag} {a : Addr} {l : List (Str × Int)} (h : kpB K a l = true) : ∃ (o : Obj) (ps : List Addr), K.lookup a = some o ∧ o.dict = none ∧ SqT K (fun _ => none) a (ps.map V.ref) ∧ Paired (fun p (kv : Str × Int) => SqT K (fun _ => none) p [.str kv.1, .int kv.2]) ps l := by
  obtain ⟨h1, h2⟩ := ba h
  obtain ⟨⟨o, e1, e2⟩, e3⟩ := tupAt_ok h1
  exact ⟨o, refsOf K a, e1, e2, e3 _, pairsB_ok h2⟩
/-- what stands under x in the dict at a -/
def under (K : PySem.W.Frag) (a : Addr) (x : Str) : Addr := match PySem.W.nsIn K a x with
  | some (some (.ref p)) => p
  | _ => 0
def entB (kv : Key × V) (e : DictEntry) : Bool := match kv.1, e.key with
  | Sum.inr x, .str y _ => decide (y = x) && relB kv.2 e.val
  | _, _ => false
def entsB : List (Key × V) → List DictEntry → Bool
  | [], [] => true
  | kv :: r, e :: es => entB kv e && entsB r es
  | _, _ => false
theorem entsB_ok : ∀ {kvs : List (Key × V)} {es : List DictEntry}, entsB kvs es = true → Paired KdE kvs es
  | [], [], _ => .nil
  | kv :: r, e :: es, h => by
    obtain ⟨h1, h2⟩ := ba h
    refine .cons ?_ (entsB_ok h2)
    unfold entB at h1
    split at h1
    · rename_i x y t e1 e2
      obtain ⟨h3, h4⟩ := ba h1
      obtain rfl := of_decide_eq_true h3
      obtain ⟨k, v⟩ := kv
      obtain rfl : k = Sum.inr y := e1
      exact ⟨y, t, rfl, e2, relB_ok h4⟩
    · cases h1
  | [], _ :: _, h => by cases h
  | _ :: _, [], h => by cases h
def kdB (K : PySem.W.Frag) (a : Addr) (kvs : List (Key × V)) : Bool := decide (kvs.length ≤ sizeLine) && (match K.lookup a with
  | some ⟨_, _, .dict es _, _⟩ => entsB kvs es.toList
  | _ => false)
theorem kdB_ok {K : PySem.W.Frag} {w : World} {a : Addr} {es : Array DictEntry} {n : Nat} {kvs : List (Key × V)} (D : KDict K w a es n) (nd : (kvs.map (·.1)).Nodup) (h : kdB K a kvs = true) : KDo K w a kvs := by
  obtain ⟨h1, h2⟩ := ba h
  rw [D.at_] at h2
  exact ⟨es.toList, n, by rw [D.at_], D.lit, D.low, of_decide_eq_true h1, entsB_ok h2, nd⟩
def excB (K : PySem.W.Frag) (D : Addr) : Bool := (decide (PySem.W.findIn K (.ref D) "__getattribute__" = some (some (.builtin "BaseException.__getattribute__"))) && (decide (PySem.W.findIn K (.ref D) "__getattr__" = some none) && (decide (PySem.W.subIn K (.ref D) (.type "BaseException") = some true) && (PySem.W.hasDictIn K D && (decide (PySem.W.findIn K (.ref D) "__class__" = some (some (.builtin "object.__class__"))) && (decide (PySem.W.specialIn K (.builtin "object.__class__") "__get__" = some (some (.builtin "getset_descriptor.__get__"))) && (decide (PySem.W.takesIn K (.builtin "object.__class__") = some true) && decide (PySem.W.mroIn K D (.type "object") = some true))))))))
theorem excB_ok {K : PySem.W.Frag} {D : Addr} (h : excB K D = true) : ExcC K D := by
  obtain ⟨h1, h⟩ := ba h
  obtain ⟨h2, h⟩ := ba h
  obtain ⟨h3, h⟩ := ba h
  obtain ⟨h4, h⟩ := ba h
  obtain ⟨h5, h⟩ := ba h
  obtain ⟨h6, h⟩ := ba h
  obtain ⟨h7, h8⟩ := ba h
  exact ⟨of_decide_eq_true h1, of_decide_eq_true h2, of_decide_eq_true h3, h4, of_decide_eq_true h5, of_decide_eq_true h6, of_decide_eq_true h7, of_decide_eq_true h8⟩
/-- the code object and the table of the def x -/
theorem cT_ca {K : PySem.W.Frag} {mg : Str → Option Value} {x : Str} {st : Stmt} {ps : List Str} (D : Df K mg x st ps) (e : My.fa mg x = ga K x) : ∃ c, (fdOf K (My.fa mg x)).code = .ref c ∧ (cT K (x, none)).1 = c := by
  obtain ⟨oc, od, kV, doc, pm, an, cdv, ct, osl, ef, lk, hcd⟩ := D.F.ex
  obtain ⟨c, rfl⟩ := codeIn_ref hcd
  refine ⟨c, by rw [ef], ?_⟩
  have hl : K.lookup (fAd K (x, none)) = some ⟨oc, od, .func (fdOf K (My.fa mg x)), osl⟩ := by
    show K.lookup (ga K x) = _
    rw [← e]
    exact lk
  exact codeOf_eq hl (by rw [ef])
end My
namespace My
open PySem PySem.Spec PyProof.Rows L2
def top (i : Nat) : Stmt := PySem.Challenge.pw_searchwalks_k21_orders_and_classes.main.body.getD i (.Pass ⟨0, 0, 0, 0⟩)
abbrev s_is_text : Stmt := top 1
theorem sc_is_text : FnScope ["value", "words"] ["value", "words"] (defScope s_is_text) := ⟨rfl, rfl, rfl, by decide +kernel, rfl, by decide +kernel, by decide +kernel⟩
abbrev s_need_order : Stmt := top 10
theorem sc_need_order : FnScope ["order"] ["order"] (defScope s_need_order) := ⟨rfl, rfl, rfl, by decide +kernel, rfl, by decide +kernel, by decide +kernel⟩
abbrev s_order_of : Stmt := top 11
theorem sc_order_of : FnScope ["a", "b"] ["a", "b"] (defScope s_order_of) := ⟨rfl, rfl, rfl, by decide +kernel, rfl, by decide +kernel, by decide +kernel⟩
abbrev s_class_of : Stmt := top 12
theorem sc_class_of : FnScope ["number", "a", "b", "keys", "key"] ["number", "a", "b"] (defScope s_class_of) := ⟨rfl, rfl, rfl, by decide +kernel, rfl, by decide +kernel, by decide +kernel⟩
abbrev s_classes : Stmt := top 13
theorem sc_classes : FnScope ["order", "name", "number"] ["order"] (defScope s_classes) := ⟨rfl, rfl, rfl, by decide +kernel, rfl, by decide +kernel, by decide +kernel⟩
abbrev s_key_class : Stmt := top 14
theorem sc_key_class : FnScope ["order", "key", "known"] ["order", "key"] (defScope s_key_class) := ⟨rfl, rfl, rfl, by decide +kernel, rfl, by decide +kernel, by decide +kernel⟩
abbrev s_mirrored_order : Stmt := top 15
theorem sc_mirrored_order : FnScope ["order"] ["order"] (defScope s_mirrored_order) := ⟨rfl, rfl, rfl, by decide +kernel, rfl, by decide +kernel, by decide +kernel⟩
abbrev s_law_pen_of : Stmt := top 17
theorem sc_law_pen_of : FnScope ["_law_script"] ["_law_script"] (defScope s_law_pen_of) := ⟨rfl, rfl, rfl, by decide +kernel, rfl, by decide +kernel, by decide +kernel⟩
abbrev s_law_draw : Stmt := top 18
theorem sc_law_draw : FnScope ["_law_pen", "_law_many", "_law_digit", "_law_index", "_law_cell", "_law_mixed"] ["_law_pen", "_law_many"] (defScope s_law_draw) := ⟨rfl, rfl, rfl, by decide +kernel, rfl, by decide +kernel, by decide +kernel⟩
abbrev s_law_pick : Stmt := top 19
theorem sc_law_pick : FnScope ["_law_pen", "_law_items"] ["_law_pen", "_law_items"] (defScope s_law_pick) := ⟨rfl, rfl, rfl, by decide +kernel, rfl, by decide +kernel, by decide +kernel⟩
abbrev s_law_numbers_by : Stmt := top 20
theorem sc_law_numbers_by : FnScope ["_law_pen", "_law_numbers", "_law_found", "_law_number"] ["_law_pen", "_law_numbers"] (defScope s_law_numbers_by) := ⟨rfl, rfl, rfl, by decide +kernel, rfl, by decide +kernel, by decide +kernel⟩
abbrev s_law_orders : Stmt := top 21
theorem sc_law_orders : FnScope [] [] (defScope s_law_orders) := ⟨rfl, rfl, rfl, by decide +kernel, rfl, by decide +kernel, by decide +kernel⟩
abbrev s_law_class : Stmt := top 22
theorem sc_law_class : FnScope ["_law_number", "_law_keys", "_law_found", "_law_key"] ["_law_number", "_law_keys"] (defScope s_law_class) := ⟨rfl, rfl, rfl, by decide +kernel, rfl, by decide +kernel, by decide +kernel⟩
abbrev s_law_met : Stmt := top 23
theorem sc_law_met : FnScope ["_law_call", "e"] ["_law_call"] (defScope s_law_met) := ⟨rfl, rfl, rfl, by decide +kernel, rfl, by decide +kernel, by decide +kernel⟩
abbrev s_law_order : Stmt := top 24
theorem sc_law_order : FnScope ["_law_a", "_law_b"] ["_law_a", "_law_b"] (defScope s_law_order) := ⟨rfl, rfl, rfl, by decide +kernel, rfl, by decide +kernel, by decide +kernel⟩
abbrev s_law_are_refused : Stmt := top 25
theorem sc_law_are_refused : FnScope ["_law_odd", "_law_other", "_law_order_here"] ["_law_odd", "_law_other"] (defScope s_law_are_refused) := ⟨rfl, rfl, rfl, by decide +kernel, rfl, by decide +kernel, by decide +kernel⟩
abbrev s_law : Stmt := top 26
theorem sc_law : FnScope ["_law_script", "_law_pen", "_law_turn", "_law_a", "_law_b", "_law_keys", "_law_there", "_law_key", "_law_order_here", "_law_turned", "_law_other", "_law_top", "_law_number", "_law_due", "_law_name", "_law_odd"] ["_law_script"] (defScope s_law) := ⟨rfl, rfl, rfl, by decide +kernel, rfl, by decide +kernel, by decide +kernel⟩
abbrev s_BadOrder_init : Stmt := inClass (top 4) 0
abbrev s_OtherKeys_init : Stmt := inClass (top 5) 0
abbrev s_BadKey_init : Stmt := inClass (top 6) 0
end My
namespace My
open PySem PySem.Spec PyProof.Rows L2
/-- KEYS: the orders with what stands under them; MIRRORS -/
def ordL (v0 v1 v2 v3 v4 : Addr) : List (Key × V) := [(Sum.inr "", .ref v0), (Sum.inr "a", .ref v1), (Sum.inr "a<b", .ref v2), (Sum.inr "a=b", .ref v3), (Sum.inr "b<a", .ref v4)]
def mirL : List (Key × V) := [(Sum.inr "a<b", .str "b<a"), (Sum.inr "b<a", .str "a<b")]
/-- a written tuple of pairs (name, number) -/
def KPairs (K : PySem.W.Frag) (a : Addr) (l : List (Str × Int)) : Prop := ∃ (o : Obj) (ps : List Addr), K.lookup a = some o ∧ o.dict = none ∧ SqT K (fun _ => none) a (ps.map V.ref) ∧ Paired (fun p (kv : Str × Int) => SqT K (fun _ => none) p [.str kv.1, .int kv.2]) ps l
structure Txt (P : Program) (w : World) (K : PySem.W.Frag) (mg : Str → Option Value) : Prop where
  n_isinstance : mg "isinstance" = none
  n_str : mg "str" = none
  n_list : mg "list" = none
  n_ValueError : mg "ValueError" = none
  n_int : mg "int" = none
  n_len : mg "len" = none
  n_abs : mg "abs" = none
  n_set : mg "set" = none
  n_sorted : mg "sorted" = none
  n_dict : mg "dict" = none
  n_range : mg "range" = none
  n_zip : mg "zip" = none
  n_super : mg "super" = none
  is_text : Df K mg "is_text" s_is_text ["value", "words"]
  need_order : Df K mg "need_order" s_need_order ["order"]
  order_of : Df K mg "order_of" s_order_of ["a", "b"]
  class_of : Df K mg "class_of" s_class_of ["number", "a", "b"]
  classes : Df K mg "classes" s_classes ["order"]
  key_class : Df K mg "key_class" s_key_class ["order", "key"]
  mirrored_order : Df K mg "mirrored_order" s_mirrored_order ["order"]
  law_pen_of : Df K mg "_law_pen_of" s_law_pen_of ["_law_script"]
  law_draw : Df K mg "_law_draw" s_law_draw ["_law_pen", "_law_many"]
  law_pick : Df K mg "_law_pick" s_law_pick ["_law_pen", "_law_items"]
  law_numbers_by : Df K mg "_law_numbers_by" s_law_numbers_by ["_law_pen", "_law_numbers"]
  law_orders : Df K mg "_law_orders" s_law_orders []
  law_class : Df K mg "_law_class" s_law_class ["_law_number", "_law_keys"]
  law_order : Df K mg "_law_order" s_law_order ["_law_a", "_law_b"]
  law_met : Df K mg "_law_met" s_law_met ["_law_call"]
  law_are_refused : Df K mg "_law_are_refused" s_law_are_refused ["_law_odd", "_law_other"]
  law : Df K mg "law" s_law ["_law_script"]
  eO : Ex P K mg "OtherKeys" s_OtherKeys_init []
  eB : Ex P K mg "BadOrder" s_BadOrder_init ["order"]
  eK : Ex P K mg "BadKey" s_BadKey_init ["key"]
  xOO : PySem.W.exmOne K (.ref (fa mg "OtherKeys")) (.ref (fa mg "OtherKeys")) = some true
  xBO : PySem.W.exmOne K (.ref (fa mg "BadOrder")) (.ref (fa mg "OtherKeys")) = some false
  xBB : PySem.W.exmOne K (.ref (fa mg "BadOrder")) (.ref (fa mg "BadOrder")) = some true
  xKO : PySem.W.exmOne K (.ref (fa mg "BadKey")) (.ref (fa mg "OtherKeys")) = some false
  xKB : PySem.W.exmOne K (.ref (fa mg "BadKey")) (.ref (fa mg "BadOrder")) = some false
  xKK : PySem.W.exmOne K (.ref (fa mg "BadKey")) (.ref (fa mg "BadKey")) = some true
  cO : ExcC K (fa mg "OtherKeys")
  vO : PySem.W.kitOne K (.ref (fa mg "OtherKeys")) (.type "ValueError") = some true
  c_KEYS : mg "KEYS" = some (.ref (fa mg "KEYS"))
  c_MIRRORS : mg "MIRRORS" = some (.ref (fa mg "MIRRORS"))
  keys : ∃ v0 v1 v2 v3 v4 : Addr, KDo K w (fa mg "KEYS") (ordL v0 v1 v2 v3 v4) ∧ KPairs K v0 [] ∧ KPairs K v1 [("a", 1)] ∧ KPairs K v2 [("a", 1), ("b", 3)] ∧ KPairs K v3 [("a", 1), ("b", 1)] ∧ KPairs K v4 [("b", 1), ("a", 3)]
  mirs : KDo K w (fa mg "MIRRORS") mirL
end My
namespace My
open PySem PySem.Spec PyProof.Rows L2
/-- what _law_met makes of a lambda's run -/
def TMet (mg : Str → Option Value) : (XK → Hp → VK → Prop) → Hp → VK → Prop := fun tl H Q =>
  tl (fun cls d H' => (cls = .ref (fa mg "OtherKeys") ∧ d = none ∧ ∀ p, H' p = none → Q (.ref p) (upd H' p (.tup [.str "keys", .bl true]))) ∨
    (∃ dd v, cls = .ref (fa mg "BadOrder") ∧ d = some dd ∧ H' dd = some (.xd [("order", v)]) ∧ ∀ p, H' p = none → Q (.ref p) (upd H' p (.tup [.str "order", v]))) ∨
    ∃ dd v, cls = .ref (fa mg "BadKey") ∧ d = some dd ∧ H' dd = some (.xd [("key", v)]) ∧ ∀ p, H' p = none → Q (.ref p) (upd H' p (.tup [.str "key", v]))) H
    (fun _ H' => ([] : List V).length ≤ sizeLine ∧ ∀ p, H' p = none → Q (.ref p) (upd H' p (.tup [])))
theorem met_gives {X : Cx} {g : Addr} {cdg : Value} {q : Str} (T : Txt X.prog X.w X.K X.mg) :
    LamX.GivesTo X ["_law_call", "e"] "_law_met" (defScope s_law_met) g cdg (defBody s_law_met) "_law_call" q (TMet X.mg) := by
  intro f c' s H Q tl act hc h
  refine ⟨_, pss_cons (ps_tryAs (Wo := fun _ _ _ _ => False)
      (tb := fun W D σ H => ∃ Ech : XK, (∀ cls d σ' H', Ech cls d H' → W cls d σ' H') ∧ σ[0]? = some (some (.ref f)) ∧ H c' = some (LamX.CodeO c' q) ∧ tl Ech H (fun _ H' => D.nx σ H'))
      rfl rfl sc_law_met.nd LamX.takes0 (fun W pn xe tk _ => ?_)
    (.cons (i := 1) (c := .ref (fa X.mg "OtherKeys")) rfl rfl ⟨by rfl, by decide, .inl T.eO.T.gC⟩
      (fun a oe cls d pn hz hf => pss_one (ps_ret (pe_tup (pa_cons pe_str (pa_cons (pe_callB (call_isX T.cO hz hf) (by rfl) T.n_isinstance (by decide +kernel) (pa_cons (pv 1) (pa_cons (pe_bltn (v := .ty "ValueError") (by rfl) T.n_ValueError PyProof.Rows.Boot.«ValueError» rfl) pa_nil))) pa_nil)))))
    (.cons (i := 1) (c := .ref (fa X.mg "BadOrder")) rfl rfl ⟨by rfl, by decide, .inl T.eB.T.gC⟩ (fun a oe cls d pn hz hf => pss_one (ps_ret (pe_tup (pa_cons pe_str (pa_cons (pe_xf T.eB.xf (T.eB.T.nf _ List.mem_cons_self) hz hf (pv 1)) pa_nil)))))
    (.cons (i := 1) (c := .ref (fa X.mg "BadKey")) rfl rfl ⟨by rfl, by decide, .inl T.eK.T.gC⟩ (fun a oe cls d pn hz hf => pss_one (ps_ret (pe_tup (pa_cons pe_str (pa_cons (pe_xf T.eK.xf (T.eK.T.nf _ List.mem_cons_self) hz hf (pv 1)) pa_nil))))) .nil))))
    (pss_one (ps_ret (pe_tup pa_nil))), ?_⟩
  · refine ⟨fun pins s' σ H' D I h' => ?_⟩
    obtain ⟨Ech, hW, h1, h2, h3⟩ := h'
    exact (pss_one (ps_expr (act W pn xe Ech _ _ tk hW))).run pins s' σ H' D I ⟨h1, h2, h3⟩
  · have slot : ∀ {σ : L2.St} {a : Addr}, σ.length = 2 → (σ.set 1 (some (V.ref a)))[1]? = some (some (V.ref a)) := fun {σ a} hl => List.getElem?_set_self (by omega)
    refine ⟨_, fun cls d σ' H' he hl => ?_, rfl, hc, h⟩
    rcases he with ⟨rfl, rfl, k⟩ | ⟨dd, v, rfl, rfl, hd, k⟩ | ⟨dd, v, rfl, rfl, hd, k⟩
    · refine ⟨true, T.xOO, fun _ a ha => ?_, fun z => (nomatch z)⟩
      exact ⟨_, slot hl, .ty "ValueError", .type "ValueError", true, rfl, rfl, fun u hu => hu, T.vO, .inl rfl, (by show 2 ≤ sizeLine; decide), k⟩
    · refine ⟨false, T.xBO, fun z => (nomatch z), fun _ => ⟨true, T.xBB, fun _ a ha => ?_, fun z => (nomatch z)⟩⟩
      exact ⟨_, slot hl, rfl, rfl, dd, _, v, rfl, hd, rfl, (by show 2 ≤ sizeLine; decide), k⟩
    · refine ⟨false, T.xKO, fun z => (nomatch z), fun _ => ⟨false, T.xKB, fun z => (nomatch z), fun _ => ⟨true, T.xKK, fun _ a ha => ?_, fun z => (nomatch z)⟩⟩⟩
      exact ⟨_, slot hl, rfl, rfl, dd, _, v, rfl, hd, rfl, (by show 2 ≤ sizeLine; decide), k⟩
end My
namespace My
open PySem PySem.Spec PyProof.Rows L2
/-- x(e, ..) where what is raised goes on to the caller -/
theorem pcx {X : Cx} {x : Str} {st : Stmt} {ps : List Str} {k : Nat} {sp : Sp} {e : Expr} {es : List Expr} {t : TA} {p pos : Pos} {E : XK} (D : Df X.K X.mg x st ps) (G : Ok X.prog X.w X.K X.mg X.base (L2.CX X.prog X.w) k x ps sp) (hr : Room k X.A)
    (tk : Takes X (fun cls d _ H => E cls d H)) (ha : PA X (e :: es) t) (hg : Gl X x := by rfl)
    (hdb : (x == ("__debug__" : Str)) = false := by decide) (he : starEach (e :: es) X.env = (false, eval e X.env) :: starEach es X.env := by rfl) (hpl : (backTo pos (starEach es X.env)).any (·.1) = false := by rfl) :
    PE X (.Call (.Name x p) (e :: es) [] pos) (tCall sp [] E t) := pe_call G hr hg D.g D.F.kp D.b .nil (passes_call tk fun _ _ _ _ h => h) ha hdb he hpl
/-- the values that are asked about -/
inductive Odd (H : Hp) : V → Prop
  | non : Odd H .non
  | bl (b : Bool) : Odd H (.bl b)
  | int (i : Int) : Odd H (.int i)
  | str (x : Str) : Odd H (.str x)
  | lst {a : Addr} {xs : List V} (e : H a = some (.lst xs)) : Odd H (.ref a)
  | tup {a : Addr} {xs : List V} (e : H a = some (.tup xs)) : Odd H (.ref a)
  | dK {a : Addr} {kvs : List (Key × V)} (e : H a = some (.dK kvs)) : Odd H (.ref a)
theorem Odd.self {H : Hp} {v : V} (o : Odd H v) : selfV v = true := by cases o <;> rfl
theorem Odd.same {H H' : Hp} {v : V} (o : Odd H v) (s : Same H H') : Odd H' v := by
  cases o with
  | non => exact .non
  | bl b => exact .bl b
  | int i => exact .int i
  | str x => exact .str x
  | lst e => exact .lst (s _ _ e)
  | tup e => exact .tup (s _ _ e)
  | dK e => exact .dK (s _ _ e)
theorem Odd.ty {K : PySem.W.Frag} {H : Hp} {v : V} (o : Odd H v) : (∃ x, v = .str x) ∨ ∃ t, TyX K H v t ∧ PySem.W.kitOne K t (.type "str") = some false := by
  cases o with
  | non => exact .inr ⟨_, .base .non, kit_ty (by decide +kernel)⟩
  | bl b => exact .inr ⟨_, .base (.bl b), kit_ty (by decide +kernel)⟩
  | int i => exact .inr ⟨_, .base (.int i), kit_ty (by decide +kernel)⟩
  | str x => exact .inl ⟨x, rfl⟩
  | lst e => exact .inr ⟨_, .base (.lst e), kit_ty (by decide +kernel)⟩
  | tup e => exact .inr ⟨_, .base (.tup e), kit_ty (by decide +kernel)⟩
  | dK e => exact .inr ⟨_, .base (.dK e), kit_ty (by decide +kernel)⟩
theorem in_strs (x : Str) : ∀ ws : List Str, inV (.str x) (ws.map V.str) = decide (x ∈ ws)
  | [] => by simp [inV]
  | w :: ws => by
    have ih := in_strs x ws
    unfold inV at ih ⊢
    rw [List.map_cons, List.any_cons, ih]
    show ((w == x) || decide (x ∈ ws)) = decide (x ∈ w :: ws)
    by_cases h : w = x
    · subst h; simp
    · have h2 : ¬ x = w := fun z => h z.symm
      simp [h, h2]
theorem flat_strs (ws : List Str) : (ws.map V.str).all flatV = true := by
  rw [List.all_map]
  exact List.all_eq_true.mpr fun _ _ => rfl
/-- is_text(v, words) -/
def spIsText (K : PySem.W.Frag) : Sp := fun vs H Q _ => ∃ (v : V) (l : Addr) (ws : List Str), vs = [v, .ref l] ∧ SqL K H l (ws.map V.str) ∧ Odd H v ∧ (∀ b, (b = true ↔ ∃ x ∈ ws, v = .str x) → Q (.bl b) H)
section
variable {P : Program} {w : World} {K : PySem.W.Frag} {mg : Str → Option Value} {base : Heap}
theorem ok_is_text (T : Txt P w K mg) : Ok P w K mg base CX0 1 "is_text" ["value", "words"] (spIsText K) := by
  refine T.is_text.F.ok sc_is_text (fun vs H Q E h => ?_) (fun cdv A outer s H vs Q E hr h => ?_)
  · obtain ⟨v, l, ws, rfl, _⟩ := h
    rfl
  · obtain ⟨v, l, ws, rfl, hl, ho, k⟩ := h
    refine ⟨_, (pss_one (ps_ret (pe_and (pe_callB call_isi (by rfl) T.n_isinstance (by decide +kernel) (pa_cons (pv 0) (pa_cons (pe_bltn (v := .ty "str") (by rfl) T.n_str PyProof.Rows.Boot.«str» rfl) pa_nil))) (pe_one (pe_cmpR op_in_seq (pv 0) (pv 1) (by rfl)))))), ?_⟩
    rcases ho.ty (K := K) with ⟨x, rfl⟩ | ⟨t, ht, hk⟩
    · refine ⟨_, rfl, _, _, _, _, true, rfl, .ty "str", .base (.str x), kit_ty (by decide +kernel), true, rfl, iteT ?_⟩
      refine ⟨_, rfl, _, rfl, l, _, rfl, .inl hl, rfl, flat_strs ws, ?_⟩
      refine k _ ?_
      show inV (.str x) (ws.map V.str) = true ↔ _
      rw [in_strs, decide_eq_true_iff]
      exact ⟨fun h => ⟨x, h, rfl⟩, fun ⟨y, h1, h2⟩ => by cases h2; exact h1⟩
    · refine ⟨_, rfl, _, _, _, _, false, rfl, .ty "str", ht, hk, false, rfl, iteF ?_⟩
      refine k false ⟨fun z => (nomatch z), fun ⟨x, _, e⟩ => ?_⟩
      subst e
      cases ht with
      | base h =>
        cases h
        rw [kit_ty (K := K) (a := "str") (b := "str") (r := true) (by decide +kernel)] at hk
        cases hk
end
end My
namespace My
open PySem PySem.Spec PyProof.Rows L2

def ords : List Str := ["", "a", "a<b", "a=b", "b<a"]
theorem ordL_keys (v0 v1 v2 v3 v4 : Addr) : ((ordL v0 v1 v2 v3 v4).map fun kv => kV kv.1) = ords.map V.str := rfl
/-- what is no order is refused -/
def spNeed (mg : Str → Option Value) : Sp := fun vs H Q E => ∃ v, vs = [v] ∧ Odd H v ∧ ((∃ x ∈ ords, v = .str x) → ∀ H', Same H H' → Q .non H') ∧
  ((¬ ∃ x ∈ ords, v = .str x) → ∀ H' d, Same H H' → H' d = some (.xd [("order", v)]) → E (.ref (fa mg "BadOrder")) (some d) H')
/-- the order of two ints -/
def ordS (i j : Int) : Str := if i = j then "a=b" else if i < j then "a<b" else "b<a"
def spOrderOf (mg : Str → Option Value) : Sp := fun vs H Q E => ∃ a b, vs = [a, b] ∧ ((a = .non ∧ b = .non ∧ Q (.str "") H) ∨ (∃ i, a = .int i ∧ b = .non ∧ Q (.str "a") H) ∨ (∃ i j, a = .int i ∧ b = .int j ∧ Q (.str (ordS i j)) H) ∨
  (∃ j, a = .non ∧ b = .int j ∧ E (.ref (fa mg "OtherKeys")) none H))
def mirS (x : Str) : Str := if x = "a<b" then "b<a" else if x = "b<a" then "a<b" else x
def spMir (mg : Str → Option Value) : Sp := fun vs H Q E => ∃ v, vs = [v] ∧ Odd H v ∧ (∀ x ∈ ords, v = .str x → ∀ H', Same H H' → Q (.str (mirS x)) H') ∧
  ((¬ ∃ x ∈ ords, v = .str x) → ∀ H' d, Same H H' → H' d = some (.xd [("order", v)]) → E (.ref (fa mg "BadOrder")) (some d) H')
theorem mir_get : ∀ x ∈ ords, (valV mirL (Sum.inr x)).getD (.str x) = .str (mirS x) := by decide +kernel
section
variable {P : Program} {w : World} {K : PySem.W.Frag} {mg : Str → Option Value} {base : Heap}
theorem ok_need_order (T : Txt P w K mg) : Ok P w K mg base (L2.CX P w) 2 "need_order" ["order"] (spNeed mg) := by
  refine T.need_order.F.okX sc_need_order (fun vs H Q E h => ?_) (fun cdv A outer s H vs Q E hr h => ?_)
  · obtain ⟨v, rfl, _⟩ := h
    rfl
  · obtain ⟨v, rfl, ho, kY, kN⟩ := h
    obtain ⟨v0, v1, v2, v3, v4, hK, _⟩ := T.keys
    refine ⟨_, (pss_one (ps_if (pt_not (pt_val (pc T.is_text (ok_is_text T) (hr.mono (by decide)) (pa_cons (pv 0) (pa_cons (pe_callTy (call_listKD rfl) (by rfl) T.n_list (by decide +kernel) (pa_cons (pe_glob (v := .ref (fa mg "KEYS")) (by rfl) T.c_KEYS rfl) pa_nil)) pa_nil)))))
  (pss_one (ps_err T.eB hr rfl (takes_of rfl rfl rfl rfl) (pa_cons (pv 0) pa_nil)))
  pss_nil)), ?_⟩
    refine ⟨_, rfl, _, _, rfl, hK, fun l hl => ?_⟩
    have s1 : Same H (upd H l (.lst ((ordL v0 v1 v2 v3 v4).map fun kv => kV kv.1))) := same_new hl
    refine ⟨v, l, ords, rfl, SqL.of upd_same, ho.same s1, fun b hb => ⟨b, rfl, ?_⟩⟩
    cases b with
    | true => exact kY (hb.mp rfl) _ s1
    | false =>
      refine ⟨_, rfl, mk_ok rfl (by show 1 ≤ 1000; decide) (by decide) fun d hd => ?_⟩
      exact kN (fun z => absurd (hb.mpr z) (by decide)) _ d (s1.trans (same_new hd)) upd_same
theorem ok_order_of (T : Txt P w K mg) : Ok P w K mg base (L2.CX P w) 2 "order_of" ["a", "b"] (spOrderOf mg) := by
  refine T.order_of.F.okX sc_order_of (fun vs H Q E h => ?_) (fun cdv A outer s H vs Q E hr h => ?_)
  · obtain ⟨a, b, rfl, _⟩ := h
    rfl
  · obtain ⟨a, b, rfl, h⟩ := h
    refine ⟨_, (pss_cons (ps_if (pt_cmpR op_isN (pv 0) pe_non (nomark _))
  (pss_cons (ps_if (pt_cmpR op_notN (pv 1) pe_non (nomark _))
  (pss_one (ps_err0 T.eO hr rfl (takes_of rfl rfl rfl rfl)))
  pss_nil)
  (pss_one (ps_ret pe_str)))
  pss_nil)
  (pss_cons (ps_if (pt_cmpR op_isN (pv 1) pe_non (nomark _))
  (pss_one (ps_ret pe_str))
  pss_nil)
  (pss_cons (ps_if (pt_cmpR op_eq (pv 0) (pv 1) (nomark _))
  (pss_one (ps_ret pe_str))
  pss_nil)
  (pss_one (ps_ret (pe_ifExp (pt_cmpR op_lt (pv 0) (pv 1) (nomark _)) pe_str pe_str)))))), ?_⟩
    rcases h with ⟨rfl, rfl, k⟩ | ⟨i, rfl, rfl, k⟩ | ⟨i, j, rfl, rfl, k⟩ | ⟨j, rfl, rfl, k⟩
    · exact ⟨_, rfl, rfl, _, rfl, iteT ⟨_, rfl, rfl, _, rfl, iteF k⟩⟩
    · exact ⟨_, rfl, rfl, _, rfl, iteF ⟨_, rfl, rfl, _, rfl, iteT k⟩⟩
    · refine ⟨_, rfl, rfl, _, rfl, iteF ⟨_, rfl, rfl, _, rfl, iteF ?_⟩⟩
      refine ⟨_, rfl, _, rfl, rfl, _, rfl, ?_⟩
      unfold ordS at k
      by_cases e : i = j
      · subst e
        rw [if_pos rfl] at k
        rw [if_pos (decide_eq_true rfl)]
        exact k
      · rw [if_neg e] at k
        rw [if_neg (by simpa using e)]
        refine ⟨_, rfl, _, rfl, _, _, rfl, rfl, _, rfl, ?_⟩
        by_cases l : i < j
        · rw [if_pos l] at k
          rw [if_pos (decide_eq_true l)]
          exact k
        · rw [if_neg l] at k
          rw [if_neg (by simpa using l)]
          exact k
    · exact ⟨_, rfl, rfl, _, rfl, iteT ⟨_, rfl, rfl, _, rfl, iteT k⟩⟩
theorem ok_mirrored_order (T : Txt P w K mg) : Ok P w K mg base (L2.CX P w) 3 "mirrored_order" ["order"] (spMir mg) := by
  refine T.mirrored_order.F.okX sc_mirrored_order (fun vs H Q E h => ?_) (fun cdv A outer s H vs Q E hr h => ?_)
  · obtain ⟨v, rfl, _⟩ := h
    rfl
  · obtain ⟨v, rfl, ho, kY, kN⟩ := h
    refine ⟨_, (pss_cons (ps_expr (pcx T.need_order (ok_need_order T) (hr.mono (by decide)) (takes_of rfl rfl rfl rfl) (pa_cons (pv 0) pa_nil)))
  (pss_one (ps_ret (pe_kget2 (pe_glob (v := .ref (fa mg "MIRRORS")) (by rfl) T.c_MIRRORS rfl) (pv 0) (pv 0) ⟨rfl, rfl, rfl, rfl⟩)))), ?_⟩
    refine ⟨_, rfl, v, rfl, ho, fun ⟨x, hx, e⟩ H' s' => ?_, kN⟩
    subst e
    refine ⟨_, _, rfl, T.mirs, _, rfl, _, rfl, Sum.inr x, rfl, ?_⟩
    rw [mir_get x hx]
    exact kY x hx rfl H' s'
end
end My
namespace My
open PySem PySem.Spec PyProof.Rows L2

def nCls (x : Str) : Int := if x = "" then 1 else if x = "a" then 3 else if x = "a=b" then 3 else 5
def pairsOf (x : Str) : List (Str × Int) := if x = "" then [] else if x = "a" then [("a", 1)] else if x = "a<b" then [("a", 1), ("b", 3)] else if x = "a=b" then [("a", 1), ("b", 1)] else [("b", 1), ("a", 3)]
theorem nCls_many : ∀ x ∈ ords, 2 * (many ((pairsOf x).map (·.2)) : Int) + 1 = nCls x := by decide +kernel
theorem pairs_few : ∀ x ∈ ords, (pairsOf x).length ≤ 2 := by decide +kernel
def spClasses (mg : Str → Option Value) : Sp := fun vs H Q E => ∃ v, vs = [v] ∧ Odd H v ∧ (∀ x ∈ ords, v = .str x → ∀ H', Same H H' → Q (.int (nCls x)) H') ∧
  ((¬ ∃ x ∈ ords, v = .str x) → ∀ H' d, Same H H' → H' d = some (.xd [("order", v)]) → E (.ref (fa mg "BadOrder")) (some d) H')
/-- what stands under an order -/
theorem keys_at {P : Program} {w : World} {K : PySem.W.Frag} {mg : Str → Option Value} (T : Txt P w K mg) : ∃ kvs, KDo K w (fa mg "KEYS") kvs ∧ (∀ x ∈ ords, ∃ a, valV kvs (Sum.inr x) = some (.ref a) ∧ KPairs K a (pairsOf x)) := by
  obtain ⟨v0, v1, v2, v3, v4, hK, p0, p1, p2, p3, p4⟩ := T.keys
  refine ⟨_, hK, fun x hx => ?_⟩
  rcases List.mem_cons.mp hx with rfl | hx
  · exact ⟨v0, rfl, p0⟩
  rcases List.mem_cons.mp hx with rfl | hx
  · exact ⟨v1, rfl, p1⟩
  rcases List.mem_cons.mp hx with rfl | hx
  · exact ⟨v2, rfl, p2⟩
  rcases List.mem_cons.mp hx with rfl | hx
  · exact ⟨v3, rfl, p3⟩
  obtain rfl := List.mem_singleton.mp hx
  exact ⟨v4, rfl, p4⟩
theorem paired_at {α β : Type} {R : α → β → Prop} {xs : List α} {ys : List β} (h : Paired R xs ys) : ∀ {i : Nat} {x : α}, xs[i]? = some x → ∃ y, ys[i]? = some y ∧ R x y := by
  induction h with
  | nil => intro i x e; simp at e
  | cons r t ih =>
    intro i x e
    cases i with
    | zero => obtain rfl := Option.some.inj e; exact ⟨_, rfl, r⟩
    | succ i => exact ih e
section
variable {P : Program} {w : World} {K : PySem.W.Frag} {mg : Str → Option Value} {base : Heap}
theorem ok_classes (T : Txt P w K mg) : Ok P w K mg base (L2.CX P w) 3 "classes" ["order"] (spClasses mg) := by
  refine T.classes.F.okX sc_classes (fun vs H Q E h => ?_) (fun cdv A outer s H vs Q E hr h => ?_)
  · obtain ⟨v, rfl, _⟩ := h
    rfl
  · obtain ⟨v, rfl, ho, kY, kN⟩ := h
    refine ⟨_, (pss_cons (ps_expr (pcx T.need_order (ok_need_order T) (hr.mono (by decide)) (takes_of rfl rfl rfl rfl) (pa_cons (pv 0) pa_nil)))
  (pss_one (ps_ret (pe_op op_add (pe_op op_mul pe_int (pe_callB call_lenSet (by rfl) T.n_len (by decide +kernel) (pa_cons (pe_callTy (cr_setL rfl) (by rfl) T.n_set (by decide +kernel) (pa_cons (pe_lc (own := [("name", 1), ("number", 2)]) (g := (gTup K 2 (gCons (gName 1) (gCons (gName 2) gNil)))) (tt := tYes) (by rfl) sc_classes.nd (pi_tup (pe_ix ix_kd (pe_glob (v := .ref (fa mg "KEYS")) (by rfl) T.c_KEYS rfl) (pv 0) (fun _ _ => rfl))) (blkOk_by (own := [("name", 1), ("number", 2)]) (N := ["order", "name", "number"]) (sc := defScope s_classes) (by decide +kernel)) (fun _ _ _ _ _ => (pg_tup rfl (pgs_cons (pg_name (i := 1) sc_classes.nd rfl (Or.inl rfl)) (pgs_cons (pg_name (i := 2) sc_classes.nd rfl (Or.inl rfl)) pgs_nil)))) (fun _ _ _ _ _ => pts_nil) (fun _ _ _ _ _ => (pv 2))) pa_nil)) pa_nil))) pe_int)))), ?_⟩
    refine ⟨_, rfl, v, rfl, ho, fun ⟨x, hx, e⟩ H' s' => ?_, kN⟩
    subst e
    obtain ⟨kvs, hK, hat⟩ := keys_at T
    obtain ⟨a, hv, o, ps, hl, hd, hT, hP⟩ := hat x hx
    refine ⟨_, rfl, _, kvs, Sum.inr x, .ref a, rfl, hK, rfl, hv, a, rfl, ⟨_, sqT_K hT⟩, fun D hD => ?_⟩
    refine lc_tup (K := K) (a := a) (xs := ps.map V.ref) (fun i H3 => H3 = upd H' D (.lst (((pairsOf x).take i).map fun p => V.int p.2))) rfl (fun i H3 _ _ => sqT_K hT) ?_ ?_
    · rintro i y H3 hi rfl
      rw [List.getElem?_map] at hi
      obtain ⟨p, hp, rfl⟩ := Option.map_eq_some_iff.mp hi
      obtain ⟨⟨nm, k⟩, hk, hq⟩ := paired_at hP hp
      refine ⟨p, _, rfl, sqT_K hq, rfl, _, _, rfl, _, _, rfl, rfl, rfl, _, rfl, _, upd_same, ?_, ?_⟩
      · rw [List.length_map, List.length_take, sizeLine_eq]
        have := pairs_few x hx
        omega
      · rw [upd_upd, List.take_succ, hk, List.map_append]
        rfl
    · rintro H3 rfl
      have hlen : ps.length = (pairsOf x).length := hP.length
      rw [List.length_map, hlen, List.take_length]
      have e : ((pairsOf x).map fun p => V.int p.2) = ((pairsOf x).map (·.2)).map V.int := by rw [List.map_map]; rfl
      refine ⟨_, (pairsOf x).map (·.2), rfl, SqL.of (by rw [← e]; exact upd_same), by rw [List.length_map]; have := pairs_few x hx; omega, fun p hp => ?_⟩
      refine ⟨p, _, _, rfl, upd_same, ?_, ?_⟩
      · have h1 := many_le ((pairsOf x).map (·.2))
        have h2 := pairs_few x hx
        rw [List.length_map] at h1
        omega
      · refine ⟨_, _, rfl, rfl, .inl ⟨by decide, by decide⟩, _, _, rfl, rfl, ?_⟩
        show Q (.int (2 * (many ((pairsOf x).map (·.2)) : Int) + 1)) _
        rw [nCls_many x hx]
        exact kY x hx rfl _ ((s'.trans (same_new hD)).trans (same_new hp))
end
end My
namespace My
open PySem PySem.Spec PyProof.Rows L2
/-- the class of n by the keys ks -/
def cls (n : Int) (ks : List Int) : Int := 2 * (many (ks.filter fun k => decide (k < n)) : Int) + (if n ∈ ks then 1 else 0)
theorem low_len {n : Int} {ks L : List Int} (nd : L.Nodup) (hm : ∀ k, k ∈ L ↔ k ∈ ks) : (L.filter fun k => decide (k < n)).length = many (ks.filter fun k => decide (k < n)) :=
  many_of _ _ (nd.filter _) fun k => by rw [List.mem_filter, List.mem_filter, hm]
theorem asc_index {n : Int} : ∀ {L : List Int}, L.Pairwise (· < ·) → n ∈ L → L[(L.filter fun k => decide (k < n)).length]? = some n ∧ ∀ (m : Nat) z, m < (L.filter fun k => decide (k < n)).length → L[m]? = some z → z ≠ n
  | [], _, h => by cases h
  | a :: r, hp, h => by
    obtain ⟨h1, h2⟩ := List.pairwise_cons.mp hp
    by_cases e : a < n
    · have hr : n ∈ r := by
        rcases List.mem_cons.mp h with q | q
        · omega
        · exact q
      obtain ⟨i1, i2⟩ := asc_index h2 hr
      rw [List.filter_cons, if_pos (decide_eq_true e), List.length_cons]
      refine ⟨i1, fun m z hm hz => ?_⟩
      cases m with
      | zero => obtain rfl : a = z := Option.some.inj hz; omega
      | succ m => exact i2 m z (by omega) hz
    · have ea : a = n := by
        rcases List.mem_cons.mp h with q | q
        · exact q.symm
        · have := h1 n q; omega
      subst ea
      have hf : r.filter (fun k => decide (k < a)) = [] := List.filter_eq_nil_iff.mpr fun k hk => by
        have := h1 k hk
        simp only [decide_eq_true_eq]
        omega
      rw [List.filter_cons, if_neg (by simp), hf]
      exact ⟨rfl, fun m z hm _ => absurd hm (Nat.not_lt_zero _)⟩
/-- the sum that the law does -/
def sumC (n : Int) : List Int → Int
  | [] => 0
  | k :: r => (if k ≤ n then 1 else 0) + (if k < n then 1 else 0) + sumC n r
theorem sumC_snoc (n k : Int) : ∀ L, sumC n (L ++ [k]) = sumC n L + (if k ≤ n then 1 else 0) + (if k < n then 1 else 0)
  | [] => by simp [sumC]
  | a :: r => by
    show (if a ≤ n then 1 else 0) + (if a < n then 1 else 0) + sumC n (r ++ [k]) = _
    rw [sumC_snoc n k r]
    show _ = (if a ≤ n then 1 else 0) + (if a < n then 1 else 0) + sumC n r + _ + _
    omega
theorem sumC_eq (n : Int) : ∀ L : List Int, L.Nodup → sumC n L = 2 * ((L.filter fun k => decide (k < n)).length : Int) + (if n ∈ L then 1 else 0)
  | [], _ => rfl
  | a :: r, nd => by
    obtain ⟨h1, h2⟩ := List.nodup_cons.mp nd
    show (if a ≤ n then 1 else 0) + (if a < n then 1 else 0) + sumC n r = _
    rw [sumC_eq n r h2, List.filter_cons]
    by_cases e : a < n
    · rw [if_pos e, if_pos (by omega), if_pos (decide_eq_true e), List.length_cons]
      have hm : (n ∈ a :: r) ↔ n ∈ r := by
        rw [List.mem_cons]
        exact ⟨fun q => q.resolve_left (by omega), .inr⟩
      simp only [hm]
      split <;> omega
    · simp only [if_neg e, decide_eq_false e, Bool.false_eq_true, if_false]
      by_cases e2 : a = n
      · subst e2
        rw [if_pos (Int.le_refl a), if_neg h1, if_pos List.mem_cons_self]
        omega
      · have hm : (n ∈ a :: r) ↔ n ∈ r := by
          rw [List.mem_cons]
          exact ⟨fun q => q.resolve_left (fun z => e2 z.symm), .inr⟩
        simp only [hm]
        rw [if_neg (show ¬ a ≤ n by omega)]
        omega
theorem asc_nodup : ∀ {L : List Int}, L.Pairwise (· < ·) → L.Nodup
  | [], _ => List.nodup_nil
  | a :: r, h => by
    obtain ⟨h1, h2⟩ := List.pairwise_cons.mp h
    exact List.nodup_cons.mpr ⟨fun m => by have := h1 a m; omega, asc_nodup h2⟩
theorem sumC_cls {n : Int} {ks L : List Int} (hp : L.Pairwise (· < ·)) (hm : ∀ k, k ∈ L ↔ k ∈ ks) : sumC n L = cls n ks := by
  rw [sumC_eq n L (asc_nodup hp), low_len (asc_nodup hp) hm]
  unfold cls
  simp only [hm]
/-! keys times -1 -/
def neg (ks : List Int) : List Int := ks.map fun k => -k
theorem many_neg : ∀ ks : List Int, many (neg ks) = many ks
  | [] => rfl
  | k :: r => by
    show (if -k ∈ neg r then many (neg r) else many (neg r) + 1) = _
    have hm : (-k ∈ neg r) ↔ k ∈ r := by
      unfold neg
      rw [List.mem_map]
      exact ⟨fun ⟨a, h1, h2⟩ => by have : a = k := by omega
                                   rw [← this]; exact h1, fun h => ⟨k, h, rfl⟩⟩
    rw [many_neg r]
    show _ = (if k ∈ r then many r else many r + 1)
    simp only [hm]
theorem many_split (n : Int) : ∀ ks : List Int, many (ks.filter fun k => decide (k < n)) + many (ks.filter fun k => decide (n < k)) + (if n ∈ ks then 1 else 0) = many ks
  | [] => rfl
  | k :: r => by
    have ih := many_split n r
    have key : ∀ (p : Int → Bool), p k = true → (k ∈ r.filter p ↔ k ∈ r) := fun p hp => by rw [List.mem_filter]; exact ⟨fun h => h.1, fun h => ⟨h, hp⟩⟩
    rw [List.filter_cons, List.filter_cons]
    show _ = (if k ∈ r then many r else many r + 1)
    by_cases h1 : k < n
    · rw [if_pos (decide_eq_true h1), if_neg (by simp; omega)]
      have hm : (n ∈ k :: r) ↔ n ∈ r := by rw [List.mem_cons]; exact ⟨fun q => q.resolve_left (by omega), .inr⟩
      show (if k ∈ r.filter (fun k => decide (k < n)) then _ else _) + _ + _ = _
      simp only [hm, key (fun k => decide (k < n)) (decide_eq_true h1)]
      split <;> omega
    · by_cases h2 : n < k
      · rw [if_neg (by simpa using h1), if_pos (decide_eq_true h2)]
        have hm : (n ∈ k :: r) ↔ n ∈ r := by rw [List.mem_cons]; exact ⟨fun q => q.resolve_left (by omega), .inr⟩
        show _ + (if k ∈ r.filter (fun k => decide (n < k)) then _ else _) + _ = _
        simp only [hm, key (fun k => decide (n < k)) (decide_eq_true h2)]
        split <;> omega
      · have : n = k := by omega
        subst this
        rw [if_neg (by simp), if_neg (by simp), if_pos List.mem_cons_self]
        by_cases h3 : n ∈ r
        · rw [if_pos h3] at ih ⊢; omega
        · rw [if_neg h3] at ih ⊢; omega
theorem cls_neg (n : Int) (ks : List Int) : cls (-n) (neg ks) = 2 * (many ks : Int) - cls n ks := by
  unfold cls
  have e1 : (neg ks).filter (fun k => decide (k < -n)) = neg (ks.filter fun k => decide (n < k)) := by
    unfold neg
    rw [List.filter_map]
    congr 1
    apply List.filter_congr
    intro k _
    simp only [Function.comp]
    exact decide_eq_decide.mpr (by omega)
  have hm : (-n ∈ neg ks) ↔ n ∈ ks := by
    unfold neg
    rw [List.mem_map]
    exact ⟨fun ⟨a, h1, h2⟩ => by have : a = n := by omega
                                 rw [← this]; exact h1, fun h => ⟨n, h, rfl⟩⟩
  rw [e1, many_neg]
  have s := many_split n ks
  simp only [hm]
  split <;> rename_i h <;> simp only [h, if_true, if_false] at s <;> omega
end My
namespace My
open PySem PySem.Spec PyProof.Rows L2

def kcOf (x y : Str) : Option Int := ((pairsOf x).find? fun p => decide (p.1 = y)).map (·.2)
def kvOf (x : Str) : List (Key × V) := (pairsOf x).map fun p => (Sum.inr p.1, V.int p.2)
theorem kv_merge : ∀ x ∈ ords, mergeK [] (kvOf x) = kvOf x := by decide +kernel
theorem kv_val (x y : Str) : valV (kvOf x) (Sum.inr y) = (kcOf x y).map V.int := by
  unfold valV kvOf kcOf
  rw [List.find?_map]
  simp only [Option.map_map]
  congr 1
  have : ((fun kv : Key × V => decide (kv.1 = Sum.inr y)) ∘ fun p : Str × Int => ((Sum.inr p.1 : Key), V.int p.2)) = fun p => decide (p.1 = y) := by
    funext p
    exact decide_eq_decide.mpr ⟨fun h => Sum.inr.inj h, fun h => congrArg Sum.inr h⟩
  rw [this]
theorem kv_keys (x : Str) : ((kvOf x).map fun kv => kV kv.1) = ((pairsOf x).map (·.1)).map V.str := by
  unfold kvOf
  rw [List.map_map, List.map_map]
  rfl
theorem kc_some {x y : Str} (h : y ∈ (pairsOf x).map (·.1)) : ∃ n, kcOf x y = some n := by
  obtain ⟨p, hp, e⟩ := List.mem_map.mp h
  unfold kcOf
  cases q : (pairsOf x).find? (fun p => decide (p.1 = y)) with
  | none => exact absurd e (by simpa using (List.find?_eq_none.mp q) p hp)
  | some z => exact ⟨z.2, rfl⟩
def spKeyClass (mg : Str → Option Value) : Sp := fun vs H Q E => ∃ v k, vs = [v, k] ∧ Odd H v ∧ Odd H k ∧
  (∀ x ∈ ords, v = .str x → ∀ y n, k = .str y → kcOf x y = some n → ∀ H', Same H H' → Q (.int n) H') ∧
  (∀ x ∈ ords, v = .str x → (¬ ∃ y ∈ (pairsOf x).map (·.1), k = .str y) → ∀ H' d, Same H H' → H' d = some (.xd [("key", k)]) → E (.ref (fa mg "BadKey")) (some d) H') ∧
  ((¬ ∃ x ∈ ords, v = .str x) → ∀ H' d, Same H H' → H' d = some (.xd [("order", v)]) → E (.ref (fa mg "BadOrder")) (some d) H')
/-- the keys that are there -/
inductive Two : V → V → List Int → Prop
  | none : Two .non .non []
  | one (i : Int) : Two (.int i) .non [i]
  | two (i j : Int) : Two (.int i) (.int j) [i, j]
def spClassOf (mg : Str → Option Value) : Sp := fun vs H Q E => ∃ (n : Int) (a b : V), vs = [.int n, a, b] ∧ ((∃ ks, Two a b ks ∧ ∀ H', Same H H' → Q (.int (cls n ks)) H') ∨ (∃ j, a = .non ∧ b = .int j ∧ E (.ref (fa mg "OtherKeys")) none H))
def keptV (xs : List V) : List V := xs.filter fun x => !decide (x = .non)
theorem Two.kept {a b : V} {ks : List Int} (t : Two a b ks) : keptV [a, b] = ks.map V.int := by cases t <;> rfl
theorem Two.few {a b : V} {ks : List Int} (t : Two a b ks) : ks.length ≤ 2 := by cases t <;> simp
theorem kept_take {xs : List V} {i : Nat} {y : V} (h : xs[i]? = some y) : keptV (xs.take (i + 1)) = keptV (xs.take i) ++ (if y = .non then [] else [y]) := by
  unfold keptV
  rw [List.take_succ, h, List.filter_append]
  congr 1
  by_cases e : y = .non
  · subst e; rfl
  · simp [e]
theorem kept_len (xs : List V) (i : Nat) : (keptV (xs.take i)).length ≤ xs.length := Nat.le_trans (List.length_filter_le _ _) (by rw [List.length_take]; exact Nat.min_le_right _ _)
theorem low_take {L : List Int} {n y : Int} {i : Nat} (h : L[i]? = some y) : (L.take (i + 1)).filter (fun k => decide (k < n)) = (L.take i).filter (fun k => decide (k < n)) ++ (if y < n then [y] else []) := by
  rw [List.take_succ, h, List.filter_append]
  congr 1
  by_cases e : y < n <;> simp [e]
theorem in_ints (n : Int) : ∀ ns : List Int, inV (.int n) (ns.map V.int) = decide (n ∈ ns)
  | [] => by simp [inV]
  | m :: ns => by
    have ih := in_ints n ns
    unfold inV at ih ⊢
    rw [List.map_cons, List.any_cons, ih]
    show ((m == n) || decide (n ∈ ns)) = decide (n ∈ m :: ns)
    by_cases h : m = n
    · subst h; simp
    · have h2 : ¬ n = m := fun z => h z.symm
      simp [h, h2]
theorem flat_ints (ns : List Int) : (ns.map V.int).all flatV = true := by
  rw [List.all_map]
  exact List.all_eq_true.mpr fun _ _ => rfl
section
variable {P : Program} {w : World} {K : PySem.W.Frag} {mg : Str → Option Value} {base : Heap}
theorem ok_key_class (T : Txt P w K mg) : Ok P w K mg base (L2.CX P w) 3 "key_class" ["order", "key"] (spKeyClass mg) := by
  refine T.key_class.F.okX sc_key_class (fun vs H Q E h => ?_) (fun cdv A outer s H vs Q E hr h => ?_)
  · obtain ⟨v, k, rfl, _⟩ := h
    rfl
  · obtain ⟨v, k, rfl, ho, hk, kY, kK, kN⟩ := h
    have hu := hu_of hr
    refine ⟨_, (pss_cons (ps_expr (pcx T.need_order (ok_need_order T) (hr.mono (by decide)) (takes_of rfl rfl rfl rfl) (pa_cons (pv 0) pa_nil)))
  (pss_cons (ps_set (i := 2) sc_key_class.nd rfl (Or.inl rfl) (pe_callTy (call_dictKT rfl) (by rfl) T.n_dict (by decide +kernel) (pa_cons (pe_ix ix_kd (pe_glob (v := .ref (fa mg "KEYS")) (by rfl) T.c_KEYS rfl) (pv 0) (fun _ _ => rfl)) pa_nil)))
  (pss_cons (ps_if (pt_not (pt_val (pc T.is_text (ok_is_text T) (hr.mono (by decide)) (pa_cons (pv 1) (pa_cons (pe_callTy (call_listD rfl) (by rfl) T.n_list (by decide +kernel) (pa_cons (pv 2) pa_nil)) pa_nil)))))
  (pss_one (ps_err T.eK (hr.mono (by decide)) rfl (takes_of rfl rfl rfl rfl) (pa_cons (pv 1) pa_nil)))
  pss_nil)
  (pss_one (ps_ret (pe_dget hu (pv 2) (pv 1) (fun _ _ => rfl))))))), ?_⟩
    refine ⟨_, rfl, v, rfl, ho, fun ⟨x, hx, e⟩ H' s' => ?_, kN⟩
    subst e
    obtain ⟨kvs, hK, hat⟩ := keys_at T
    obtain ⟨a, hv, o, ps, hl, hd, hT, hP⟩ := hat x hx
    have hP' : Paired (fun p (kv : Key × V) => SqT K (fun _ => none) p [kV kv.1, kv.2]) ps (kvOf x) := by
      unfold kvOf
      clear hT hl hd hv
      generalize pairsOf x = l at hP
      induction hP with
      | nil => exact .nil
      | cons h t ih => exact .cons h ih
    refine ⟨_, rfl, _, kvs, Sum.inr x, .ref a, rfl, hK, rfl, hv, a, o, ps, kvOf x, rfl, hl, hd, hT, hP', by unfold kvOf; rw [List.length_map]; have := pairs_few x hx; omega, fun D hD => ?_⟩
    rw [kv_merge x hx]
    have s1 : Same H (upd H' D (.dK (kvOf x))) := s'.trans (same_new hD)
    refine ⟨_, rfl, _, rfl, _, _, rfl, .inl upd_same, fun l hl2 => ?_⟩
    have s2 := s1.trans (same_new (o := .lst ((kvOf x).map fun kv => kV kv.1)) hl2)
    refine ⟨k, l, (pairsOf x).map (·.1), rfl, SqL.of (by rw [kv_keys]; exact upd_same), hk.same s2, fun b hb => ⟨b, rfl, ?_⟩⟩
    cases b with
    | true =>
      obtain ⟨y, hy, rfl⟩ := hb.mp rfl
      obtain ⟨n, hn⟩ := kc_some hy
      refine ⟨_, rfl, _, rfl, D, .int n, rfl, ?_, kY x hx rfl y n rfl hn _ s2⟩
      have e : valV (kvOf x) (Sum.inr y) = some (.int n) := by rw [kv_val, hn]; rfl
      rw [← e]
      exact DGet.k (k := Sum.inr y) (same_new hl2 _ _ upd_same)
    | false =>
      refine ⟨_, rfl, mk_ok rfl (by show 1 ≤ 1000; decide) (by decide) fun d hd => ?_⟩
      exact kK x hx rfl (fun z => absurd (hb.mpr z) (by decide)) _ d (s2.trans (same_new hd)) upd_same
theorem ok_class_of (T : Txt P w K mg) : Ok P w K mg base (L2.CX P w) 3 "class_of" ["number", "a", "b"] (spClassOf mg) := by
  refine T.class_of.F.okX sc_class_of (fun vs H Q E h => ?_) (fun cdv A outer s H vs Q E hr h => ?_)
  · obtain ⟨n, a, b, rfl, _⟩ := h
    rfl
  · obtain ⟨n, a, b, rfl, h⟩ := h
    refine ⟨_, (pss_cons (ps_expr (pcx T.order_of (ok_order_of T) (hr.mono (by decide)) (takes_of rfl rfl rfl rfl) (pa_cons (pv 1) (pa_cons (pv 2) pa_nil))))
  (pss_cons (ps_set (i := 3) sc_class_of.nd rfl (Or.inl rfl) (pe_callB (cr_sortedSet rfl) (by rfl) T.n_sorted (by decide +kernel) (pa_cons (pe_callTy (cr_setL rfl) (by rfl) T.n_set (by decide +kernel) (pa_cons (pe_lc (own := [("key", 4)]) (g := (gName 4)) (by rfl) sc_class_of.nd (pi_tup (pe_tup (pa_cons (pv 1) (pa_cons (pv 2) pa_nil)))) (blkOk_by (own := [("key", 4)]) (N := ["number", "a", "b", "keys", "key"]) (sc := defScope s_class_of) (by decide +kernel)) (fun _ _ _ _ _ => (pg_name (i := 4) sc_class_of.nd rfl (Or.inl rfl))) (fun _ _ _ _ _ => (pts_one (pt_cmpR op_notN (pv 4) pe_non (nomark _)))) (fun _ _ _ _ _ => (pv 4))) pa_nil)) pa_nil)))
  (pss_cons (ps_if (pt_cmpR op_in_seq (pv 0) (pv 3) (by rfl))
  (pss_one (ps_ret (pe_op op_add (pe_op op_mul pe_int (pe_bm PySem.F.plainAttrs_list PySem.F.slot_list_index PySem.F.type_list_index mt_index (pv 3) (pa_cons (pv 0) pa_nil))) pe_int)))
  pss_nil)
  (pss_one (ps_ret (pe_op op_mul pe_int (pe_callB call_len_seq (by rfl) T.n_len (by decide +kernel) (pa_cons (pe_lc (own := [("key", 4)]) (g := (gName 4)) (by rfl) sc_class_of.nd (pi_list (pv 3)) (blkOk_by (own := [("key", 4)]) (N := ["number", "a", "b", "keys", "key"]) (sc := defScope s_class_of) (by decide +kernel)) (fun _ _ _ _ _ => (pg_name (i := 4) sc_class_of.nd rfl (Or.inl rfl))) (fun _ _ _ _ _ => (pts_one (pt_cmpR op_lt (pv 4) (pv 0) (nomark _)))) (fun _ _ _ _ _ => (pv 4))) pa_nil)))))))), ?_⟩
    rcases h with ⟨ks, ht, k⟩ | ⟨j, rfl, rfl, k⟩
    · have ht2 := ht
      cases ht with
      | none =>
        refine ⟨_, rfl, _, rfl, _, _, rfl, .inl ⟨rfl, rfl, ?_⟩⟩
        refine ⟨_, rfl, _, rfl, (by show 2 ≤ sizeLine; decide), fun t htn => ⟨t, rfl, ⟨_, SqT.of upd_same⟩, fun D hD => ?_⟩⟩
        refine lc_tup (K := K) (a := t) (xs := [V.non, V.non]) (fun i0 H3 => H3 = upd (upd H t (.tup [V.non, V.non])) D (.lst (keptV ([V.non, V.non].take i0)))) rfl (fun i0 H3 _ e => SqT.of (by rw [e]; exact same_new hD _ _ upd_same)) ?_ ?_
        · rintro i0 y H3 hi rfl
          refine ⟨rfl, _, rfl, rfl, _, rfl, ?_⟩
          by_cases e : y = .non
          · subst e
            refine iteF ?_
            rw [kept_take hi, if_pos rfl, List.append_nil]
          · have e' : (!decide (y = .non)) = true := by simp [e]
            rw [e']
            refine iteT ⟨_, rfl, _, upd_same, ?_, ?_⟩
            · rw [sizeLine_eq]
              have := kept_len [V.non, V.non] i0
              simp only [List.length_cons, List.length_nil] at this
              omega
            · rw [upd_upd, kept_take hi, if_neg e]
        · rintro H3 rfl
          have e2 : keptV ([V.non, V.non].take [V.non, V.non].length) = ([] : List Int).map V.int := by rw [List.take_length]; exact ht2.kept
          rw [e2]
          have s1 : Same H (upd (upd H t (.tup [V.non, V.non])) D (.lst (([] : List Int).map V.int))) := (same_new htn).trans (same_new hD)
          refine ⟨D, ([] : List Int), rfl, SqL.of upd_same, Nat.le_trans ht2.few (by decide), fun p hp => ?_⟩
          refine ⟨p, _, _, rfl, upd_same, Nat.lt_of_le_of_lt (many_le ([] : List Int)) (Nat.lt_of_le_of_lt ht2.few (by decide)), fun L q hasc hmem hlen hq => ?_⟩
          have s2 := (s1.trans (same_new (o := SetO w p (fun j0 => decide (j0 ∈ ([] : List Int))) (many ([] : List Int))) hp)).trans (same_new (o := .lst (L.map V.int)) hq)
          have hm : ∀ k, k ∈ L ↔ k ∈ ([] : List Int) := fun k => by rw [hmem k, decide_eq_true_iff]
          have hL : L.length ≤ 2 := by rw [hlen]; exact Nat.le_trans (many_le ([] : List Int)) ht2.few
          refine ⟨_, rfl, _, rfl, q, _, rfl, .inl (SqL.of upd_same), rfl, flat_ints L, _, rfl, ?_⟩
          show if inV (.int n) (L.map V.int) = true then _ else _
          rw [in_ints]
          by_cases hn : n ∈ L
          · rw [if_pos (decide_eq_true hn)]
            obtain ⟨i1, i2⟩ := asc_index hasc hn
            refine ⟨_, rfl, .inl ⟨rfl, _, SqL.of upd_same⟩, _, rfl, q, _, .int n, _, .int n, rfl, rfl, SqL.of upd_same, rfl, flat_ints L, by rw [List.getElem?_map, i1]; rfl, by show (n == n) = true; exact beq_self_eq_true n, fun m z hm' hz => ?_, ?_⟩
            · rw [List.getElem?_map] at hz
              obtain ⟨z', hz', rfl⟩ := Option.map_eq_some_iff.mp hz
              show (z' == n) = false
              exact beq_eq_false_iff_ne.mpr (i2 m z' hm' hz')
            · refine ⟨_, _, rfl, rfl, .inl ⟨by decide, by decide⟩, _, _, rfl, rfl, ?_⟩
              have e3 : 2 * (((L.filter fun k => decide (k < n)).length : Nat) : Int) + 1 = cls n ([] : List Int) := by
                unfold cls
                rw [low_len (asc_nodup hasc) hm, if_pos ((hm n).mp hn)]
              show Q (.int (2 * (((L.filter fun k => decide (k < n)).length : Nat) : Int) + 1)) _
              rw [e3]
              exact k _ s2
          · rw [if_neg (by simpa using hn)]
            refine ⟨_, rfl, q, rfl, ⟨_, SqL.of upd_same⟩, fun D2 hD2 => ?_⟩
            refine lc_list (K := K) (a := q) (xs := L.map V.int) (fun i0 H3 => H3 = upd _ D2 (.lst (((L.take i0).filter fun k => decide (k < n)).map V.int))) rfl (fun i0 H3 _ e => SqL.of (by rw [e]; exact same_new hD2 _ _ upd_same)) ?_ ?_
            · rintro i0 y H3 hi rfl
              rw [List.getElem?_map] at hi
              obtain ⟨z, hz, rfl⟩ := Option.map_eq_some_iff.mp hi
              refine ⟨rfl, _, rfl, _, rfl, _, _, rfl, rfl, _, rfl, ?_⟩
              by_cases e : z < n
              · rw [decide_eq_true e]
                refine iteT ⟨_, rfl, _, upd_same, ?_, ?_⟩
                · rw [List.length_map, sizeLine_eq]
                  have h1 := List.length_filter_le (fun k => decide (k < n)) (L.take i0)
                  rw [List.length_take] at h1
                  omega
                · rw [upd_upd, low_take hz, if_pos e, List.map_append]
                  rfl
              · rw [decide_eq_false e]
                refine iteF ?_
                rw [low_take hz, if_neg e, List.append_nil]
            · rintro H3 rfl
              rw [List.length_map, List.take_length]
              refine ⟨D2, _, rfl, .inl (SqL.of upd_same), _, _, rfl, rfl, .inl ⟨by decide, by decide⟩, ?_⟩
              have e3 : 2 * (((L.filter fun k => decide (k < n)).length : Nat) : Int) = cls n ([] : List Int) := by
                unfold cls
                rw [low_len (asc_nodup hasc) hm, if_neg (fun z => hn ((hm n).mpr z)), Int.add_zero]
              show Q (.int (2 * ((((L.filter fun k => decide (k < n)).map V.int).length : Nat) : Int))) _
              rw [List.length_map, e3]
              exact k _ (s2.trans (same_new hD2))
      | one i =>
        refine ⟨_, rfl, _, rfl, _, _, rfl, .inr (.inl ⟨_, rfl, rfl, ?_⟩)⟩
        refine ⟨_, rfl, _, rfl, (by show 2 ≤ sizeLine; decide), fun t htn => ⟨t, rfl, ⟨_, SqT.of upd_same⟩, fun D hD => ?_⟩⟩
        refine lc_tup (K := K) (a := t) (xs := [V.int i, V.non]) (fun i0 H3 => H3 = upd (upd H t (.tup [V.int i, V.non])) D (.lst (keptV ([V.int i, V.non].take i0)))) rfl (fun i0 H3 _ e => SqT.of (by rw [e]; exact same_new hD _ _ upd_same)) ?_ ?_
        · rintro i0 y H3 hi rfl
          refine ⟨rfl, _, rfl, rfl, _, rfl, ?_⟩
          by_cases e : y = .non
          · subst e
            refine iteF ?_
            rw [kept_take hi, if_pos rfl, List.append_nil]
          · have e' : (!decide (y = .non)) = true := by simp [e]
            rw [e']
            refine iteT ⟨_, rfl, _, upd_same, ?_, ?_⟩
            · rw [sizeLine_eq]
              have := kept_len [V.int i, V.non] i0
              simp only [List.length_cons, List.length_nil] at this
              omega
            · rw [upd_upd, kept_take hi, if_neg e]
        · rintro H3 rfl
          have e2 : keptV ([V.int i, V.non].take [V.int i, V.non].length) = [i].map V.int := by rw [List.take_length]; exact ht2.kept
          rw [e2]
          have s1 : Same H (upd (upd H t (.tup [V.int i, V.non])) D (.lst ([i].map V.int))) := (same_new htn).trans (same_new hD)
          refine ⟨D, [i], rfl, SqL.of upd_same, Nat.le_trans ht2.few (by decide), fun p hp => ?_⟩
          refine ⟨p, _, _, rfl, upd_same, Nat.lt_of_le_of_lt (many_le [i]) (Nat.lt_of_le_of_lt ht2.few (by decide)), fun L q hasc hmem hlen hq => ?_⟩
          have s2 := (s1.trans (same_new (o := SetO w p (fun j0 => decide (j0 ∈ [i])) (many [i])) hp)).trans (same_new (o := .lst (L.map V.int)) hq)
          have hm : ∀ k, k ∈ L ↔ k ∈ [i] := fun k => by rw [hmem k, decide_eq_true_iff]
          have hL : L.length ≤ 2 := by rw [hlen]; exact Nat.le_trans (many_le [i]) ht2.few
          refine ⟨_, rfl, _, rfl, q, _, rfl, .inl (SqL.of upd_same), rfl, flat_ints L, _, rfl, ?_⟩
          show if inV (.int n) (L.map V.int) = true then _ else _
          rw [in_ints]
          by_cases hn : n ∈ L
          · rw [if_pos (decide_eq_true hn)]
            obtain ⟨i1, i2⟩ := asc_index hasc hn
            refine ⟨_, rfl, .inl ⟨rfl, _, SqL.of upd_same⟩, _, rfl, q, _, .int n, _, .int n, rfl, rfl, SqL.of upd_same, rfl, flat_ints L, by rw [List.getElem?_map, i1]; rfl, by show (n == n) = true; exact beq_self_eq_true n, fun m z hm' hz => ?_, ?_⟩
            · rw [List.getElem?_map] at hz
              obtain ⟨z', hz', rfl⟩ := Option.map_eq_some_iff.mp hz
              show (z' == n) = false
              exact beq_eq_false_iff_ne.mpr (i2 m z' hm' hz')
            · refine ⟨_, _, rfl, rfl, .inl ⟨by decide, by decide⟩, _, _, rfl, rfl, ?_⟩
              have e3 : 2 * (((L.filter fun k => decide (k < n)).length : Nat) : Int) + 1 = cls n [i] := by
                unfold cls
                rw [low_len (asc_nodup hasc) hm, if_pos ((hm n).mp hn)]
              show Q (.int (2 * (((L.filter fun k => decide (k < n)).length : Nat) : Int) + 1)) _
              rw [e3]
              exact k _ s2
          · rw [if_neg (by simpa using hn)]
            refine ⟨_, rfl, q, rfl, ⟨_, SqL.of upd_same⟩, fun D2 hD2 => ?_⟩
            refine lc_list (K := K) (a := q) (xs := L.map V.int) (fun i0 H3 => H3 = upd _ D2 (.lst (((L.take i0).filter fun k => decide (k < n)).map V.int))) rfl (fun i0 H3 _ e => SqL.of (by rw [e]; exact same_new hD2 _ _ upd_same)) ?_ ?_
            · rintro i0 y H3 hi rfl
              rw [List.getElem?_map] at hi
              obtain ⟨z, hz, rfl⟩ := Option.map_eq_some_iff.mp hi
              refine ⟨rfl, _, rfl, _, rfl, _, _, rfl, rfl, _, rfl, ?_⟩
              by_cases e : z < n
              · rw [decide_eq_true e]
                refine iteT ⟨_, rfl, _, upd_same, ?_, ?_⟩
                · rw [List.length_map, sizeLine_eq]
                  have h1 := List.length_filter_le (fun k => decide (k < n)) (L.take i0)
                  rw [List.length_take] at h1
                  omega
                · rw [upd_upd, low_take hz, if_pos e, List.map_append]
                  rfl
              · rw [decide_eq_false e]
                refine iteF ?_
                rw [low_take hz, if_neg e, List.append_nil]
            · rintro H3 rfl
              rw [List.length_map, List.take_length]
              refine ⟨D2, _, rfl, .inl (SqL.of upd_same), _, _, rfl, rfl, .inl ⟨by decide, by decide⟩, ?_⟩
              have e3 : 2 * (((L.filter fun k => decide (k < n)).length : Nat) : Int) = cls n [i] := by
                unfold cls
                rw [low_len (asc_nodup hasc) hm, if_neg (fun z => hn ((hm n).mpr z)), Int.add_zero]
              show Q (.int (2 * ((((L.filter fun k => decide (k < n)).map V.int).length : Nat) : Int))) _
              rw [List.length_map, e3]
              exact k _ (s2.trans (same_new hD2))
      | two i j =>
        refine ⟨_, rfl, _, rfl, _, _, rfl, .inr (.inr (.inl ⟨_, _, rfl, rfl, ?_⟩))⟩
        refine ⟨_, rfl, _, rfl, (by show 2 ≤ sizeLine; decide), fun t htn => ⟨t, rfl, ⟨_, SqT.of upd_same⟩, fun D hD => ?_⟩⟩
        refine lc_tup (K := K) (a := t) (xs := [V.int i, V.int j]) (fun i0 H3 => H3 = upd (upd H t (.tup [V.int i, V.int j])) D (.lst (keptV ([V.int i, V.int j].take i0)))) rfl (fun i0 H3 _ e => SqT.of (by rw [e]; exact same_new hD _ _ upd_same)) ?_ ?_
        · rintro i0 y H3 hi rfl
          refine ⟨rfl, _, rfl, rfl, _, rfl, ?_⟩
          by_cases e : y = .non
          · subst e
            refine iteF ?_
            rw [kept_take hi, if_pos rfl, List.append_nil]
          · have e' : (!decide (y = .non)) = true := by simp [e]
            rw [e']
            refine iteT ⟨_, rfl, _, upd_same, ?_, ?_⟩
            · rw [sizeLine_eq]
              have := kept_len [V.int i, V.int j] i0
              simp only [List.length_cons, List.length_nil] at this
              omega
            · rw [upd_upd, kept_take hi, if_neg e]
        · rintro H3 rfl
          have e2 : keptV ([V.int i, V.int j].take [V.int i, V.int j].length) = [i, j].map V.int := by rw [List.take_length]; exact ht2.kept
          rw [e2]
          have s1 : Same H (upd (upd H t (.tup [V.int i, V.int j])) D (.lst ([i, j].map V.int))) := (same_new htn).trans (same_new hD)
          refine ⟨D, [i, j], rfl, SqL.of upd_same, Nat.le_trans ht2.few (by decide), fun p hp => ?_⟩
          refine ⟨p, _, _, rfl, upd_same, Nat.lt_of_le_of_lt (many_le [i, j]) (Nat.lt_of_le_of_lt ht2.few (by decide)), fun L q hasc hmem hlen hq => ?_⟩
          have s2 := (s1.trans (same_new (o := SetO w p (fun j0 => decide (j0 ∈ [i, j])) (many [i, j])) hp)).trans (same_new (o := .lst (L.map V.int)) hq)
          have hm : ∀ k, k ∈ L ↔ k ∈ [i, j] := fun k => by rw [hmem k, decide_eq_true_iff]
          have hL : L.length ≤ 2 := by rw [hlen]; exact Nat.le_trans (many_le [i, j]) ht2.few
          refine ⟨_, rfl, _, rfl, q, _, rfl, .inl (SqL.of upd_same), rfl, flat_ints L, _, rfl, ?_⟩
          show if inV (.int n) (L.map V.int) = true then _ else _
          rw [in_ints]
          by_cases hn : n ∈ L
          · rw [if_pos (decide_eq_true hn)]
            obtain ⟨i1, i2⟩ := asc_index hasc hn
            refine ⟨_, rfl, .inl ⟨rfl, _, SqL.of upd_same⟩, _, rfl, q, _, .int n, _, .int n, rfl, rfl, SqL.of upd_same, rfl, flat_ints L, by rw [List.getElem?_map, i1]; rfl, by show (n == n) = true; exact beq_self_eq_true n, fun m z hm' hz => ?_, ?_⟩
            · rw [List.getElem?_map] at hz
              obtain ⟨z', hz', rfl⟩ := Option.map_eq_some_iff.mp hz
              show (z' == n) = false
              exact beq_eq_false_iff_ne.mpr (i2 m z' hm' hz')
            · refine ⟨_, _, rfl, rfl, .inl ⟨by decide, by decide⟩, _, _, rfl, rfl, ?_⟩
              have e3 : 2 * (((L.filter fun k => decide (k < n)).length : Nat) : Int) + 1 = cls n [i, j] := by
                unfold cls
                rw [low_len (asc_nodup hasc) hm, if_pos ((hm n).mp hn)]
              show Q (.int (2 * (((L.filter fun k => decide (k < n)).length : Nat) : Int) + 1)) _
              rw [e3]
              exact k _ s2
          · rw [if_neg (by simpa using hn)]
            refine ⟨_, rfl, q, rfl, ⟨_, SqL.of upd_same⟩, fun D2 hD2 => ?_⟩
            refine lc_list (K := K) (a := q) (xs := L.map V.int) (fun i0 H3 => H3 = upd _ D2 (.lst (((L.take i0).filter fun k => decide (k < n)).map V.int))) rfl (fun i0 H3 _ e => SqL.of (by rw [e]; exact same_new hD2 _ _ upd_same)) ?_ ?_
            · rintro i0 y H3 hi rfl
              rw [List.getElem?_map] at hi
              obtain ⟨z, hz, rfl⟩ := Option.map_eq_some_iff.mp hi
              refine ⟨rfl, _, rfl, _, rfl, _, _, rfl, rfl, _, rfl, ?_⟩
              by_cases e : z < n
              · rw [decide_eq_true e]
                refine iteT ⟨_, rfl, _, upd_same, ?_, ?_⟩
                · rw [List.length_map, sizeLine_eq]
                  have h1 := List.length_filter_le (fun k => decide (k < n)) (L.take i0)
                  rw [List.length_take] at h1
                  omega
                · rw [upd_upd, low_take hz, if_pos e, List.map_append]
                  rfl
              · rw [decide_eq_false e]
                refine iteF ?_
                rw [low_take hz, if_neg e, List.append_nil]
            · rintro H3 rfl
              rw [List.length_map, List.take_length]
              refine ⟨D2, _, rfl, .inl (SqL.of upd_same), _, _, rfl, rfl, .inl ⟨by decide, by decide⟩, ?_⟩
              have e3 : 2 * (((L.filter fun k => decide (k < n)).length : Nat) : Int) = cls n [i, j] := by
                unfold cls
                rw [low_len (asc_nodup hasc) hm, if_neg (fun z => hn ((hm n).mpr z)), Int.add_zero]
              show Q (.int (2 * ((((L.filter fun k => decide (k < n)).map V.int).length : Nat) : Int))) _
              rw [List.length_map, e3]
              exact k _ (s2.trans (same_new hD2))
    · exact ⟨_, rfl, _, rfl, .non, .int j, rfl, .inr (.inr (.inr ⟨j, rfl, rfl, k⟩))⟩
end
end My
namespace My
open PySem PySem.Spec PyProof.Rows L2
local macro_rules | `(tactic| walk_at "r") => `(tactic| repeat' (first | (refine ⟨_, _, rfl, rfl, ?_⟩) | (refine ⟨_, rfl, ?_⟩) | (refine Or.inl ⟨_, rfl, ?_⟩)))
section
variable {P : Program} {w : World} {K : PySem.W.Frag} {mg : Str → Option Value} {base : Heap}
theorem ok_law_draw (T : Txt P w K mg) : Ok P w K mg base CX0 1 "_law_draw" ["_law_pen", "_law_many"] spDraw := by
  refine T.law_draw.F.ok sc_law_draw (fun vs H Q E h => ?_) (fun cdv A outer s H vs Q E hr h => ?_)
  · obtain ⟨p, B, m, rfl, _⟩ := h
    rfl
  · obtain ⟨p, B, m, rfl, ⟨c, cs, n, l, hp, hc, hcs, hn0, hnB⟩, hB, hm0, hm1, k⟩ := h
    have hu := hu_of hr
    have ncp : c ≠ p := ne_of hc hp (fun z => nomatch z)
    refine ⟨_, (pss_cons (ps_if (pt_cmpR op_gt (pe_dget hu (pv 0) pe_str (fun _ _ => rfl)) pe_int (nomark _))
  (pss_cons (ps_set (i := 2) sc_law_draw.nd rfl (Or.inl rfl) (pe_op op_modN (pe_callTy call_int1 (by rfl) T.n_int (by decide +kernel) (pa_cons (pe_dget hu (pv 0) pe_str (fun _ _ => rfl)) pa_nil)) (pv 1)))
  (pss_cons (ps_dput hu (pv 0) pe_str (pe_op op_fdivN (pe_dget hu (pv 0) pe_str (fun _ _ => rfl)) (pv 1)) rfl)
  (pss_one (ps_ret (pv 2)))))
  pss_nil)
  (pss_cons (ps_set (i := 3) sc_law_draw.nd rfl (Or.inl rfl) (pe_dget hu (pv 0) pe_str (fun _ _ => rfl)))
  (pss_cons (ps_dput hu (pv 0) pe_str (pe_op op_add (pv 3) pe_int) rfl)
  (pss_cons (ps_set (i := 4) sc_law_draw.nd rfl (Or.inl rfl) (pe_op op_add (pe_op op_mul pe_int (pv 3)) pe_int))
  (pss_cons (ps_if (pt_cmpR (op_neD hr.units) (pe_dget hu (pv 0) pe_str (fun _ _ => rfl)) (pe_lst pa_nil) (nomark _))
  (pss_one (ps_set (i := 4) sc_law_draw.nd rfl (Or.inl rfl) (pe_ix ix_list (pe_dget hu (pv 0) pe_str (fun _ _ => rfl)) (pe_op op_modN (pe_callTy call_int1 (by rfl) T.n_int (by decide +kernel) (pa_cons (pv 3) pa_nil)) (pe_callB call_len_seq (by rfl) T.n_len (by decide +kernel) (pa_cons (pe_dget hu (pv 0) pe_str (fun _ _ => rfl)) pa_nil))) (fun _ _ => rfl))))
  pss_nil)
  (pss_cons (ps_if (PW.pt (pw_and (pt_cmpR op_lt (pv 3) (pe_callB call_len_seq (by rfl) T.n_len (by decide +kernel) (pa_cons (pe_dget hu (pv 0) pe_str (fun _ _ => rfl)) pa_nil)) (nomark _)) (pw_and1 (pt_cmpR op_ge (pe_callB call_abs (by rfl) T.n_abs (by decide +kernel) (pa_cons (pv 4) pa_nil)) (pe_op op_pow pe_int pe_int) (nomark _)))))
  (pss_cons (ps_dput hu (pv 0) pe_str (pe_op op_fdivN (pe_op op_sub (pe_callB call_abs (by rfl) T.n_abs (by decide +kernel) (pa_cons (pv 4) pa_nil)) (pe_op op_pow pe_int pe_int)) (pv 1)) rfl)
  (pss_one (ps_ret (pe_op op_modN (pe_callTy call_int1 (by rfl) T.n_int (by decide +kernel) (pa_cons (pe_op op_sub (pe_callB call_abs (by rfl) T.n_abs (by decide +kernel) (pa_cons (pv 4) pa_nil)) (pe_op op_pow pe_int pe_int)) pa_nil)) (pv 1)))))
  pss_nil)
  (pss_cons (ps_set (i := 5) sc_law_draw.nd rfl (Or.inl rfl) (pe_op op_add (pe_op op_mul (pe_op op_modN (pe_callTy call_int1 (by rfl) T.n_int (by decide +kernel) (pa_cons (pv 4) pa_nil)) pe_int) pe_int) (pe_op op_mul (pe_op op_mul pe_int (pv 3)) (pv 3))))
  (pss_cons (ps_set (i := 5) sc_law_draw.nd rfl (Or.inl rfl) (pe_op op_modN (pe_callTy call_int1 (by rfl) T.n_int (by decide +kernel) (pa_cons (pe_op op_add (pe_op op_add (pv 5) (pe_op op_mul pe_int (pv 3))) pe_int) pa_nil)) pe_int))
  (pss_cons (ps_set (i := 5) sc_law_draw.nd rfl (Or.inl rfl) (pe_op op_modN (pe_callTy call_int1 (by rfl) T.n_int (by decide +kernel) (pa_cons (pe_op op_add (pe_op op_add (pe_op op_add (pe_op op_mul (pv 5) (pv 5)) (pe_op op_mul pe_int (pv 5))) (pe_op op_mul pe_int (pv 3))) pe_int) pa_nil)) pe_int))
  (pss_one (ps_ret (pe_op op_modN (pe_callTy call_int1 (by rfl) T.n_int (by decide +kernel) (pa_cons (pe_op op_fdivN (pe_op op_modN (pe_callTy call_int1 (by rfl) T.n_int (by decide +kernel) (pa_cons (pe_op op_mul (pv 5) (pe_op op_add (pv 5) pe_int)) pa_nil)) pe_int) pe_int) pa_nil)) (pv 1))))))))))))), ?_⟩
    refine ⟨_, rfl, p, .int l, rfl, DGet.k (k := Sum.inr "left") hp, ?_⟩
    walk_at "r"
    refine ite2 (fun h => ?_) (fun h => ?_)
    · -- a digit of what is left
      refine ⟨_, rfl, p, .int l, rfl, DGet.k (k := Sum.inr "left") hp, ?_⟩
      walk_at "r"
      refine ⟨by show m ≠ 0; omega, ?_⟩
      refine ⟨_, rfl, p, .int l, rfl, DGet.k (k := Sum.inr "left") hp, ?_⟩
      walk_at "r"
      refine ⟨cdiv hm0 hm1, ?_⟩
      refine ⟨_, rfl, p, _, rfl, DPut.k (k := Sum.inr "left") hp (by show 3 < sizeLine; decide), ?_⟩
      refine ⟨_, rfl, ?_⟩
      refine k _ _ Sb.put ⟨c, cs, n, l.fdiv m, upd_same, ?_, hcs, hn0, by omega⟩ (fmod_lt hm0).1 (fmod_lt hm0).2
      rw [upd_ne ncp]
      exact hc
    · refine ⟨_, rfl, p, .int n, rfl, DGet.k (k := Sum.inr "next") hp, ?_⟩
      walk_at "r"
      refine ⟨p, upd H p (.dK (penL c (n + 1) l)), rfl, DPut.k (k := Sum.inr "next") hp (by show 3 < sizeLine; decide), ?_⟩
      have hp1 : upd H p (.dK (penL c (n + 1) l)) p = some (.dK (penL c (n + 1) l)) := upd_same
      have hc1 : upd H p (.dK (penL c (n + 1) l)) c = some (.lst (cs.map V.int)) := by rw [upd_ne ncp]; exact hc
      -- cell = 83 * index + 41
      walk_at "r"
      refine ⟨cmul_l (by decide) (by decide), ?_⟩
      walk_at "r"
      -- if cells != []
      refine ⟨p, .ref c, rfl, DGet.k (k := Sum.inr "cells") hp1, Nat.zero_le _, fun q hq => ?_⟩
      have hp2 := same_new (o := .lst []) hq _ _ hp1
      have hc2 := same_new (o := .lst []) hq _ _ hc1
      have s2 : Sb p H (upd (upd H p (.dK (penL c (n + 1) l))) q (.lst [])) := Sb.put.trans (Sb.new hq)
      refine ⟨.list (cs.map PyData.int), .list [], .lst (SqL.of hc2) (dp_ints cs), .lst (SqL.of upd_same) .nil, shaped_ints cs, by decide +kernel, _, rfl, ?_⟩
      generalize upd (upd H p (.dK (penL c (n + 1) l))) q (.lst []) = H2 at hp2 hc2 s2 ⊢
      refine ite2 (fun h1 => ?_) (fun h1 => ?_)
      · have hne : cs ≠ [] := fun e => by
          subst e
          exact absurd h1 (by decide +kernel)
        have hl : 0 < (cs.map V.int).length := by
          rw [List.length_map]
          exact List.length_pos_iff.mpr hne
        have hl' : (0 : Int) < ((cs.map V.int).length : Int) := by omega
        obtain ⟨z, hz⟩ := at_ints cs (fmod_lt (a := n) hl').1 (by rw [← List.length_map (f := V.int)]; exact (fmod_lt (a := n) hl').2)
        refine ⟨_, rfl, p, .ref c, rfl, DGet.k (k := Sum.inr "cells") hp2, _, rfl, Or.inl ⟨_, rfl, ?_⟩⟩
        refine ⟨_, rfl, p, .ref c, rfl, DGet.k (k := Sum.inr "cells") hp2, c, _, rfl, .inl (SqL.of hc2), ?_⟩
        refine ⟨_, _, rfl, rfl, (by show ((cs.map V.int).length : Int) ≠ 0; omega), c, _, _, _, rfl, rfl, SqL.of hc2, hz, ?_⟩
        refine ⟨_, rfl, _, rfl, p, .ref c, rfl, DGet.k (k := Sum.inr "cells") hp2, c, _, rfl, .inl (SqL.of hc2), _, _, rfl, rfl, _, rfl, ?_⟩
        refine ite2 (fun h2 => ?_) (fun h2 => ?_)
        · refine ⟨_, rfl, _, rfl, _, _, rfl, rfl, ⟨by decide, by decide, by decide⟩, _, _, rfl, rfl, _, rfl, ?_⟩
          refine ite2 (fun h3 => ?_) (fun h3 => ?_)
          · -- a large cell
            refine ⟨_, rfl, _, rfl, _, _, rfl, rfl, ⟨by decide, by decide, by decide⟩, _, _, rfl, rfl, _, rfl, _, _, rfl, rfl, cdiv hm0 hm1, ?_⟩
            refine ⟨_, rfl, p, _, rfl, DPut.k (k := Sum.inr "left") hp2 (by show 3 < sizeLine; decide), ?_⟩
            refine ⟨_, rfl, _, rfl, _, _, rfl, rfl, ⟨by decide, by decide, by decide⟩, _, _, rfl, rfl, Or.inl ⟨_, rfl, ?_⟩⟩
            refine ⟨_, rfl, _, _, rfl, rfl, (by show m ≠ 0; omega), ?_⟩
            refine k _ _ (s2.trans Sb.put) ⟨c, cs, n + 1, _, upd_same, ?_, hcs, by omega, by omega⟩ (fmod_lt hm0).1 (fmod_lt hm0).2
            rw [upd_ne ncp]
            exact hc2
          · -- mixed
            refine ⟨_, rfl, Or.inl ⟨_, rfl, ?_⟩⟩
            refine ⟨_, _, rfl, rfl, (by show _ ≠ (0 : Int); decide), ?_⟩
            refine ⟨_, _, rfl, rfl, cmul_mod (by decide) (by decide), ?_⟩
            refine ⟨_, rfl, _, _, rfl, rfl, cmul_l (by decide) (by decide), _, rfl, _, _, rfl, rfl, Or.inr ⟨by omega, by omega⟩, ?_⟩
            refine ⟨_, _, rfl, rfl, ?_⟩
            refine ⟨_, rfl, _, rfl, _, _, rfl, rfl, cmul_l (by decide) (by decide), _, _, rfl, rfl, _, _, rfl, rfl, Or.inl ⟨_, rfl, ?_⟩⟩
            refine ⟨_, _, rfl, rfl, (by show _ ≠ (0 : Int); decide), ?_⟩
            refine ⟨_, rfl, _, rfl, _, _, rfl, rfl, cmul_mod (by decide) (by decide), ?_⟩
            refine ⟨_, rfl, _, _, rfl, rfl, cmul_l (by decide) (by decide), _, _, rfl, rfl, ?_⟩
            refine ⟨_, rfl, _, _, rfl, rfl, cmul_l (by decide) (by decide), _, _, rfl, rfl, _, _, rfl, rfl, Or.inl ⟨_, rfl, ?_⟩⟩
            refine ⟨_, _, rfl, rfl, (by show _ ≠ (0 : Int); decide), ?_⟩
            refine ⟨_, rfl, _, rfl, _, _, rfl, rfl, _, _, rfl, rfl, cmul_mod (by decide) (by decide), Or.inl ⟨_, rfl, ?_⟩⟩
            refine ⟨_, _, rfl, rfl, (by show _ ≠ (0 : Int); decide), _, _, rfl, rfl, ⟨by decide, by decide⟩, Or.inl ⟨_, rfl, ?_⟩⟩
            refine ⟨_, rfl, _, _, rfl, rfl, (by show m ≠ 0; omega), ?_⟩
            exact k _ _ s2 ⟨c, cs, n + 1, l, hp2, hc2, hcs, by omega, by omega⟩ (fmod_lt hm0).1 (fmod_lt hm0).2
        · -- mixed
          refine ⟨_, rfl, Or.inl ⟨_, rfl, ?_⟩⟩
          refine ⟨_, _, rfl, rfl, (by show _ ≠ (0 : Int); decide), ?_⟩
          refine ⟨_, _, rfl, rfl, cmul_mod (by decide) (by decide), ?_⟩
          refine ⟨_, rfl, _, _, rfl, rfl, cmul_l (by decide) (by decide), _, rfl, _, _, rfl, rfl, Or.inr ⟨by omega, by omega⟩, ?_⟩
          refine ⟨_, _, rfl, rfl, ?_⟩
          refine ⟨_, rfl, _, rfl, _, _, rfl, rfl, cmul_l (by decide) (by decide), _, _, rfl, rfl, _, _, rfl, rfl, Or.inl ⟨_, rfl, ?_⟩⟩
          refine ⟨_, _, rfl, rfl, (by show _ ≠ (0 : Int); decide), ?_⟩
          refine ⟨_, rfl, _, rfl, _, _, rfl, rfl, cmul_mod (by decide) (by decide), ?_⟩
          refine ⟨_, rfl, _, _, rfl, rfl, cmul_l (by decide) (by decide), _, _, rfl, rfl, ?_⟩
          refine ⟨_, rfl, _, _, rfl, rfl, cmul_l (by decide) (by decide), _, _, rfl, rfl, _, _, rfl, rfl, Or.inl ⟨_, rfl, ?_⟩⟩
          refine ⟨_, _, rfl, rfl, (by show _ ≠ (0 : Int); decide), ?_⟩
          refine ⟨_, rfl, _, rfl, _, _, rfl, rfl, _, _, rfl, rfl, cmul_mod (by decide) (by decide), Or.inl ⟨_, rfl, ?_⟩⟩
          refine ⟨_, _, rfl, rfl, (by show _ ≠ (0 : Int); decide), _, _, rfl, rfl, ⟨by decide, by decide⟩, Or.inl ⟨_, rfl, ?_⟩⟩
          refine ⟨_, rfl, _, _, rfl, rfl, (by show m ≠ 0; omega), ?_⟩
          exact k _ _ s2 ⟨c, cs, n + 1, l, hp2, hc2, hcs, by omega, by omega⟩ (fmod_lt hm0).1 (fmod_lt hm0).2
      · generalize (83 * n + 41 : Int) = z
        refine ⟨_, rfl, _, rfl, p, .ref c, rfl, DGet.k (k := Sum.inr "cells") hp2, c, _, rfl, .inl (SqL.of hc2), _, _, rfl, rfl, _, rfl, ?_⟩
        refine ite2 (fun h2 => ?_) (fun h2 => ?_)
        · refine ⟨_, rfl, _, rfl, _, _, rfl, rfl, ⟨by decide, by decide, by decide⟩, _, _, rfl, rfl, _, rfl, ?_⟩
          refine ite2 (fun h3 => ?_) (fun h3 => ?_)
          · -- a large cell
            refine ⟨_, rfl, _, rfl, _, _, rfl, rfl, ⟨by decide, by decide, by decide⟩, _, _, rfl, rfl, _, rfl, _, _, rfl, rfl, cdiv hm0 hm1, ?_⟩
            refine ⟨_, rfl, p, _, rfl, DPut.k (k := Sum.inr "left") hp2 (by show 3 < sizeLine; decide), ?_⟩
            refine ⟨_, rfl, _, rfl, _, _, rfl, rfl, ⟨by decide, by decide, by decide⟩, _, _, rfl, rfl, Or.inl ⟨_, rfl, ?_⟩⟩
            refine ⟨_, rfl, _, _, rfl, rfl, (by show m ≠ 0; omega), ?_⟩
            refine k _ _ (s2.trans Sb.put) ⟨c, cs, n + 1, _, upd_same, ?_, hcs, by omega, by omega⟩ (fmod_lt hm0).1 (fmod_lt hm0).2
            rw [upd_ne ncp]
            exact hc2
          · -- mixed
            refine ⟨_, rfl, Or.inl ⟨_, rfl, ?_⟩⟩
            refine ⟨_, _, rfl, rfl, (by show _ ≠ (0 : Int); decide), ?_⟩
            refine ⟨_, _, rfl, rfl, cmul_mod (by decide) (by decide), ?_⟩
            refine ⟨_, rfl, _, _, rfl, rfl, cmul_l (by decide) (by decide), _, rfl, _, _, rfl, rfl, Or.inr ⟨by omega, by omega⟩, ?_⟩
            refine ⟨_, _, rfl, rfl, ?_⟩
            refine ⟨_, rfl, _, rfl, _, _, rfl, rfl, cmul_l (by decide) (by decide), _, _, rfl, rfl, _, _, rfl, rfl, Or.inl ⟨_, rfl, ?_⟩⟩
            refine ⟨_, _, rfl, rfl, (by show _ ≠ (0 : Int); decide), ?_⟩
            refine ⟨_, rfl, _, rfl, _, _, rfl, rfl, cmul_mod (by decide) (by decide), ?_⟩
            refine ⟨_, rfl, _, _, rfl, rfl, cmul_l (by decide) (by decide), _, _, rfl, rfl, ?_⟩
            refine ⟨_, rfl, _, _, rfl, rfl, cmul_l (by decide) (by decide), _, _, rfl, rfl, _, _, rfl, rfl, Or.inl ⟨_, rfl, ?_⟩⟩
            refine ⟨_, _, rfl, rfl, (by show _ ≠ (0 : Int); decide), ?_⟩
            refine ⟨_, rfl, _, rfl, _, _, rfl, rfl, _, _, rfl, rfl, cmul_mod (by decide) (by decide), Or.inl ⟨_, rfl, ?_⟩⟩
            refine ⟨_, _, rfl, rfl, (by show _ ≠ (0 : Int); decide), _, _, rfl, rfl, ⟨by decide, by decide⟩, Or.inl ⟨_, rfl, ?_⟩⟩
            refine ⟨_, rfl, _, _, rfl, rfl, (by show m ≠ 0; omega), ?_⟩
            exact k _ _ s2 ⟨c, cs, n + 1, l, hp2, hc2, hcs, by omega, by omega⟩ (fmod_lt hm0).1 (fmod_lt hm0).2
        · -- mixed
          refine ⟨_, rfl, Or.inl ⟨_, rfl, ?_⟩⟩
          refine ⟨_, _, rfl, rfl, (by show _ ≠ (0 : Int); decide), ?_⟩
          refine ⟨_, _, rfl, rfl, cmul_mod (by decide) (by decide), ?_⟩
          refine ⟨_, rfl, _, _, rfl, rfl, cmul_l (by decide) (by decide), _, rfl, _, _, rfl, rfl, Or.inr ⟨by omega, by omega⟩, ?_⟩
          refine ⟨_, _, rfl, rfl, ?_⟩
          refine ⟨_, rfl, _, rfl, _, _, rfl, rfl, cmul_l (by decide) (by decide), _, _, rfl, rfl, _, _, rfl, rfl, Or.inl ⟨_, rfl, ?_⟩⟩
          refine ⟨_, _, rfl, rfl, (by show _ ≠ (0 : Int); decide), ?_⟩
          refine ⟨_, rfl, _, rfl, _, _, rfl, rfl, cmul_mod (by decide) (by decide), ?_⟩
          refine ⟨_, rfl, _, _, rfl, rfl, cmul_l (by decide) (by decide), _, _, rfl, rfl, ?_⟩
          refine ⟨_, rfl, _, _, rfl, rfl, cmul_l (by decide) (by decide), _, _, rfl, rfl, _, _, rfl, rfl, Or.inl ⟨_, rfl, ?_⟩⟩
          refine ⟨_, _, rfl, rfl, (by show _ ≠ (0 : Int); decide), ?_⟩
          refine ⟨_, rfl, _, rfl, _, _, rfl, rfl, _, _, rfl, rfl, cmul_mod (by decide) (by decide), Or.inl ⟨_, rfl, ?_⟩⟩
          refine ⟨_, _, rfl, rfl, (by show _ ≠ (0 : Int); decide), _, _, rfl, rfl, ⟨by decide, by decide⟩, Or.inl ⟨_, rfl, ?_⟩⟩
          refine ⟨_, rfl, _, _, rfl, rfl, (by show m ≠ 0; omega), ?_⟩
          exact k _ _ s2 ⟨c, cs, n + 1, l, hp2, hc2, hcs, by omega, by omega⟩ (fmod_lt hm0).1 (fmod_lt hm0).2
end
end My
namespace My
open PySem PySem.Spec PyProof.Rows L2

def spPenOf (K : PySem.W.Frag) : Sp := fun vs H Q _ => ∃ (a : Addr) (ns : List Int), vs = [.ref a] ∧ SqL K H a (ns.map V.int) ∧ ns.length ≤ 63 ∧ ∀ H' p, Same H H' → Pen H' p 0 → Q (.ref p) H'
def spPick : Sp := fun vs H Q _ => ∃ (p l : Addr) (B : Int) (xs : List V), vs = [.ref p, .ref l] ∧ Pen H p B ∧ B < 1000000 ∧ H l = some (.lst xs) ∧ 0 < xs.length ∧ xs.length < 1000000 ∧
  ∀ H' x, Sb p H H' → Pen H' p (B + 1) → x ∈ xs → Q x H'
def spNumbers : Sp := fun vs H Q _ => ∃ (p l : Addr) (B : Int) (ks : List Int), vs = [.ref p, .ref l] ∧ Pen H p B ∧ B < 1000000 ∧ H l = some (.lst (ks.map V.int)) ∧ ks.length ≤ 2 ∧
  ∀ H' q (ns : List Int), Sb p H H' → Pen H' p (B + 1) → H' q = some (.lst (ns.map V.int)) → ns.length ≤ 100 → Q (.ref q) H'
def spOrders : Sp := fun vs H Q _ => vs = [] ∧ ∀ H' d kvs, H d = none → Same H H' → H' d = some (.dK kvs) → kvs.map (·.1) = ords.map Sum.inr → Q (.ref d) H'
def spLawClass (K : PySem.W.Frag) : Sp := fun vs H Q _ => ∃ (n : Int) (l : Addr) (ks : List Int), vs = [.int n, .ref l] ∧ SqL K H l (ks.map V.int) ∧ ks.length ≤ 60 ∧ ∀ H', Same H H' → Q (.int (cls n ks)) H'
/-- the order's name by the keys that are there -/
def ordT (a b : V) : Str := match a, b with
  | .int i, .int j => ordS i j
  | .int _, _ => "a"
  | _, _ => ""
def spLawOrder : Sp := fun vs H Q _ => ∃ a b ks, vs = [a, b] ∧ Two a b ks ∧ Q (.str (ordT a b)) H
theorem atI_mem {xs : List V} {z : Int} (h0 : 0 ≤ z) (h : z < (xs.length : Int)) : ∃ v, atI xs z = some v ∧ v ∈ xs := by
  obtain ⟨j, rfl⟩ := Int.eq_ofNat_of_zero_le h0
  have hj : j < xs.length := by omega
  exact ⟨xs[j], atI_nat (List.getElem?_eq_getElem hj), List.getElem_mem hj⟩
theorem cutV_ints (ns : List Int) (lo hi : Option Int) : ∃ ms : List Int, cutV (ns.map V.int) lo hi = ms.map V.int := by
  unfold cutV
  rw [← List.map_drop, ← List.map_take]
  exact ⟨_, rfl⟩
theorem iteT' {c : Bool} {A B : Prop} (h : c = true) (k : A) : (if c = true then A else B) := by rw [if_pos h]; exact k
theorem iteF' {c : Bool} {A B : Prop} (h : ¬ c = true) (k : B) : (if c = true then A else B) := by rw [if_neg h]; exact k
section
variable {P : Program} {w : World} {K : PySem.W.Frag} {mg : Str → Option Value} {base : Heap}
theorem ok_law_pen_of (T : Txt P w K mg) : Ok P w K mg base CX0 1 "_law_pen_of" ["_law_script"] (spPenOf K) := by
  refine T.law_pen_of.F.ok sc_law_pen_of (fun vs H Q E h => ?_) (fun cdv A outer s H vs Q E hr h => ?_)
  · obtain ⟨a, ns, rfl, _⟩ := h
    rfl
  · obtain ⟨a, ns, rfl, hS, hlen, k⟩ := h
    refine ⟨_, (pss_one (ps_ret (pe_disp (pps_cons pe_str (pe_callTy call_list_of (by rfl) T.n_list (by decide +kernel) (pa_cons (pe_slice sl_list (pv 0) po_none (po_some pe_int)) pa_nil)) (pps_cons pe_str pe_int (pps_cons pe_str pe_int pps_nil))) (by rfl) (by rfl) (fun z => by cases z) (by decide)))), ?_⟩
    intro p hp
    have s1 : Same H (upd H p (.dK [])) := same_new hp
    refine ⟨_, rfl, 63, rfl, a, _, rfl, s1.seq hS, fun q hq => ⟨q, _, rfl, .inl (SqL.of upd_same), fun c hc => ?_⟩⟩
    obtain ⟨ms, em⟩ := cutV_ints ns none (some 63)
    have hl := cutV_length (ns.map V.int) none (some 63)
    rw [em, List.length_map, List.length_map] at hl
    rw [em] at hc ⊢
    have s2 := s1.trans ((same_new (o := .lst (ms.map V.int)) hq).trans (same_new (o := .lst (ms.map V.int)) hc))
    have hp2 := (same_new (o := .lst (ms.map V.int)) hc) _ _ ((same_new (o := .lst (ms.map V.int)) hq) _ _ (upd_same (H := H) (a := p) (o := .dK [])))
    refine ⟨hp2, [(Sum.inr "cells", .ref c), (Sum.inr "next", .int 0), (Sum.inr "left", .int 0)], rfl, (by show 3 ≤ 15; decide), ?_⟩
    have hcp : c ≠ p := ne_of upd_same hp2 (fun z => nomatch z)
    refine k _ p (fun b o e => ?_) ⟨c, ms, 0, 0, upd_same, ?_, Nat.le_trans hl hlen, Int.le_refl _, Int.le_refl _⟩
    · rw [upd_ne (ne_of_none e hp)]
      exact s2 b o e
    · rw [upd_ne hcp]
      exact upd_same
theorem ok_law_pick (T : Txt P w K mg) : Ok P w K mg base CX0 2 "_law_pick" ["_law_pen", "_law_items"] spPick := by
  refine T.law_pick.F.ok sc_law_pick (fun vs H Q E h => ?_) (fun cdv A outer s H vs Q E hr h => ?_)
  · obtain ⟨p, l, B, xs, rfl, _⟩ := h
    rfl
  · obtain ⟨p, l, B, xs, rfl, hp, hB, hl, h0, h1, k⟩ := h
    refine ⟨_, (pss_one (ps_ret (pe_ix ix_list (pv 1) (pc T.law_draw (ok_law_draw T) (hr.mono (by decide)) (pa_cons (pv 0) (pa_cons (pe_callB call_len_seq (by rfl) T.n_len (by decide +kernel) (pa_cons (pv 1) pa_nil)) pa_nil))) (fun _ _ => rfl)))), ?_⟩
    refine ⟨_, rfl, _, rfl, _, rfl, l, _, rfl, .inl (SqL.of hl), p, B, _, rfl, hp, hB, by omega, by omega, fun H' d s' hp' d0 d1 => ?_⟩
    obtain ⟨v, hv, hm⟩ := atI_mem d0 d1
    exact ⟨l, xs, d, v, rfl, rfl, SqL.of (hp.lst s' hl), hv, k H' v s' hp' hm⟩
theorem ok_law_numbers_by (T : Txt P w K mg) : Ok P w K mg base CX0 3 "_law_numbers_by" ["_law_pen", "_law_numbers"] spNumbers := by
  refine T.law_numbers_by.F.ok sc_law_numbers_by (fun vs H Q E h => ?_) (fun cdv A outer s H vs Q E hr h => ?_)
  · obtain ⟨p, l, B, ks, rfl, _⟩ := h
    rfl
  · obtain ⟨p, l, B, ks, rfl, hp, hB, hl, hk, k⟩ := h
    refine ⟨_, (pss_cons (ps_set (i := 2) sc_law_numbers_by.nd rfl (Or.inl rfl) (pe_lst (pa_cons (pc T.law_pick (ok_law_pick T) (hr.mono (by decide)) (pa_cons (pv 0) (pa_cons (pe_lst (pa_cons pe_int (pa_cons pe_int (pa_cons (pe_un un_neg pe_int) pa_nil)))) pa_nil))) (pa_cons (pe_op op_pow pe_int pe_int) (pa_cons (pe_un un_neg (pe_op op_pow pe_int pe_int)) pa_nil)))))
  (pss_cons (ps_for PassesOwn.never rfl (pi_list (pv 1)) (pg_name (i := 3) sc_law_numbers_by.nd rfl (Or.inl rfl))
  (pss_one (ps_set (i := 2) sc_law_numbers_by.nd rfl (Or.inl rfl) (pe_op op_cat (pv 2) (pe_lst (pa_cons (pv 3) (pa_cons (pe_op op_add (pv 3) pe_int) (pa_cons (pe_op op_sub (pv 3) pe_int) pa_nil))))))))
  (pss_one (ps_ret (pv 2))))), ?_⟩
    refine ⟨_, rfl, _, rfl, (by show 3 ≤ sizeLine; decide), fun q hq => ?_⟩
    have hp1 := hp.new (o := .lst [.int 0, .int 1, .int (-1)]) hq
    refine ⟨p, q, B, _, rfl, hp1, hB, upd_same, (by show 0 < 3; decide), (by show 3 < 1000000; decide), fun H' x s' hp' hx => ?_⟩
    obtain ⟨z, rfl⟩ : ∃ z, x = .int z := by
      rcases List.mem_cons.mp hx with rfl | hx
      · exact ⟨_, rfl⟩
      rcases List.mem_cons.mp hx with rfl | hx
      · exact ⟨_, rfl⟩
      exact ⟨_, List.mem_singleton.mp hx⟩
    have s1 : Sb p H H' := (Sb.new hq).trans s'
    refine ⟨_, _, rfl, rfl, ⟨by decide, by decide, by decide⟩, _, _, rfl, rfl, ⟨by decide, by decide, by decide⟩, _, rfl, (by show 3 ≤ sizeLine; decide), fun f hf => ?_⟩
    have hl' := hp.lst s1 hl
    refine ⟨_, rfl, l, rfl, ⟨_, SqL.of (same_new hf _ _ hl')⟩, for_list (K := K) (a := l) (xs := ks.map V.int) (fun i σ H2 => ∃ (g : Addr) (ms : List Int) (v : Option V), σ = [some (.ref p), some (.ref l), some (.ref g), v] ∧ Same H' H2 ∧ H2 g = some (.lst (ms.map V.int)) ∧ ms.length = 3 + 3 * i)
      ⟨f, [z, 10 ^ 39, -10 ^ 39], none, rfl, same_new hf, upd_same, rfl⟩ (fun i σ H2 _ ⟨_, _, _, _, sm, _⟩ => SqL.of (sm _ _ hl')) ?_ ?_⟩
    · rintro i y σ H2 hi ⟨g, ms, v, rfl, sm, hg, hln⟩
      have hik : i < ks.length := by
        have := (List.getElem?_eq_some_iff.mp hi).1
        rw [List.length_map] at this
        exact this
      rw [List.getElem?_map] at hi
      obtain ⟨u, hu, rfl⟩ := Option.map_eq_some_iff.mp hi
      refine ⟨_, rfl, _, rfl, _, rfl, _, _, rfl, rfl, _, rfl, _, _, rfl, rfl, (by show 3 ≤ sizeLine; decide), fun r hr2 => ?_⟩
      have hg2 := same_new (o := .lst [V.int u, V.int (u + 1), V.int (u - 1)]) hr2 _ _ hg
      refine ⟨g, r, _, _, rfl, rfl, hg2, upd_same, ?_, fun t ht => ?_⟩
      · rw [List.length_map, hln, sizeLine_eq]
        show 3 + 3 * i + 3 ≤ _
        omega
      · refine ⟨t, ms ++ [u, u + 1, u - 1], _, rfl, (sm.trans (same_new hr2)).trans (same_new ht), ?_, by rw [List.length_append, hln]; show 3 + 3 * i + 3 = _; omega⟩
        rw [upd_same, List.map_append]
        rfl
    · rintro σ H2 ⟨g, ms, v, rfl, sm, hg, hln⟩
      rw [List.length_map] at hln
      exact ⟨_, rfl, k _ g ms (s1.trans (Sb.of sm)) (hp'.keep sm) hg (by omega)⟩
theorem ok_law_order (T : Txt P w K mg) : Ok P w K mg base CX0 1 "_law_order" ["_law_a", "_law_b"] spLawOrder := by
  refine T.law_order.F.ok sc_law_order (fun vs H Q E h => ?_) (fun cdv A outer s H vs Q E hr h => ?_)
  · obtain ⟨a, b, ks, rfl, _⟩ := h
    rfl
  · obtain ⟨a, b, ks, rfl, ht, k⟩ := h
    refine ⟨_, (pss_cons (ps_if (pt_cmpR op_isN (pv 0) pe_non (nomark _))
  (pss_one (ps_ret pe_str))
  pss_nil)
  (pss_cons (ps_if (pt_cmpR op_isN (pv 1) pe_non (nomark _))
  (pss_one (ps_ret pe_str))
  pss_nil)
  (pss_one (ps_ret (pe_ifExp (pt_cmpR op_eq (pv 0) (pv 1) (nomark _)) pe_str (pe_ifExp (pt_cmpR op_lt (pv 0) (pv 1) (nomark _)) pe_str pe_str)))))), ?_⟩
    cases ht with
    | none => exact ⟨_, rfl, rfl, _, rfl, iteT k⟩
    | one i => exact ⟨_, rfl, rfl, _, rfl, iteF ⟨_, rfl, rfl, _, rfl, iteT k⟩⟩
    | two i j =>
      refine ⟨_, rfl, rfl, _, rfl, iteF ⟨_, rfl, rfl, _, rfl, iteF ?_⟩⟩
      refine ⟨_, rfl, _, rfl, rfl, _, rfl, ?_⟩
      have k : Q (.str (ordS i j)) H := k
      unfold ordS at k
      by_cases e : i = j
      · subst e
        rw [if_pos rfl] at k
        exact iteT' (decide_eq_true rfl) k
      · rw [if_neg e] at k
        refine iteF' (by simpa using e) ?_
        refine ⟨_, rfl, _, rfl, _, _, rfl, rfl, _, rfl, ?_⟩
        by_cases l : i < j
        · rw [if_pos l] at k
          exact iteT' (by simpa using l) k
        · rw [if_neg l] at k
          exact iteF' (by simpa using l) k
end
end My
namespace My
open PySem PySem.Spec PyProof.Rows L2
theorem same_new2 {H : Hp} {p : Addr} {o o' : HO} (h : H p = none) : Same H (upd (upd H p o) p o') := by
  rw [upd_upd]
  exact same_new h
section
variable {P : Program} {w : World} {K : PySem.W.Frag} {mg : Str → Option Value} {base : Heap}
theorem ok_law_class (T : Txt P w K mg) : Ok P w K mg base CX0 1 "_law_class" ["_law_number", "_law_keys"] (spLawClass K) := by
  refine T.law_class.F.ok sc_law_class (fun vs H Q E h => ?_) (fun cdv A outer s H vs Q E hr h => ?_)
  · obtain ⟨n, l, ks, rfl, _⟩ := h
    rfl
  · obtain ⟨n, l, ks, rfl, hS, hk, k⟩ := h
    refine ⟨_, (pss_cons (ps_set (i := 2) sc_law_class.nd rfl (Or.inl rfl) pe_int)
  (pss_cons (ps_for PassesOwn.never rfl (pi_list (pe_callB (cr_sortedSet rfl) (by rfl) T.n_sorted (by decide +kernel) (pa_cons (pe_callTy (cr_setL rfl) (by rfl) T.n_set (by decide +kernel) (pa_cons (pv 1) pa_nil)) pa_nil))) (pg_name (i := 3) sc_law_class.nd rfl (Or.inl rfl))
  (pss_one (ps_set (i := 2) sc_law_class.nd rfl (Or.inl rfl) (pe_op op_add (pe_op op_add (pv 2) (pe_callTy call_int1 (by rfl) T.n_int (by decide +kernel) (pa_cons (pe_cmpR op_ge (pv 0) (pv 3) (nomark _)) pa_nil))) (pe_callTy call_int1 (by rfl) T.n_int (by decide +kernel) (pa_cons (pe_cmpR op_gt (pv 0) (pv 3) (nomark _)) pa_nil))))))
  (pss_one (ps_ret (pv 2))))), ?_⟩
    refine ⟨_, rfl, l, ks, rfl, hS, hk, fun p hp => ⟨p, _, _, rfl, upd_same, Nat.lt_of_le_of_lt (many_le ks) (by omega), fun L q hasc hmem hlen hq => ?_⟩⟩
    have hm : ∀ k, k ∈ L ↔ k ∈ ks := fun k => by rw [hmem k, decide_eq_true_iff]
    have s2 := (same_new (o := SetO w p (fun j0 => decide (j0 ∈ ks)) (many ks)) hp).trans (same_new (o := .lst (L.map V.int)) hq)
    refine ⟨q, rfl, ⟨_, SqL.of upd_same⟩, for_list (K := K) (a := q) (xs := L.map V.int) (fun i σ H2 => ∃ (v : Option V), σ = [some (.int n), some (.ref l), some (.int (sumC n (L.take i))), v] ∧ H2 = upd (upd H p (SetO w p (fun j0 => decide (j0 ∈ ks)) (many ks))) q (.lst (L.map V.int)))
      ⟨none, rfl, rfl⟩ (fun i σ H2 _ ⟨_, _, e⟩ => SqL.of (by rw [e]; exact upd_same)) ?_ ?_⟩
    · rintro i y σ H2 hi ⟨v, rfl, rfl⟩
      rw [List.getElem?_map] at hi
      obtain ⟨z, hz, rfl⟩ := Option.map_eq_some_iff.mp hi
      refine ⟨_, rfl, _, rfl, _, rfl, _, _, rfl, rfl, .inr ⟨_, rfl, _, _, rfl, rfl, _, rfl, _, rfl, _, _, rfl, rfl, .inr ⟨_, rfl, _, _, rfl, rfl, some (.int z), ?_, rfl⟩⟩⟩
      have e : sumC n (L.take (i + 1)) = sumC n (L.take i) + (if decide (z ≤ n) = true then 1 else 0) + (if decide (z < n) = true then 1 else 0) := by
        rw [List.take_succ, hz]
        show sumC n (L.take i ++ [z]) = _
        rw [sumC_snoc]
        simp only [decide_eq_true_eq]
      rw [e]
      rfl
    · rintro σ H2 ⟨v, rfl, rfl⟩
      rw [List.length_map, List.take_length]
      refine ⟨_, rfl, ?_⟩
      rw [sumC_cls hasc hm]
      exact k _ s2
theorem ok_law_orders (T : Txt P w K mg) : Ok P w K mg base CX0 1 "_law_orders" [] spOrders := by
  refine T.law_orders.F.ok sc_law_orders (fun vs H Q E h => ?_) (fun cdv A outer s H vs Q E hr h => ?_)
  · obtain ⟨rfl, _⟩ := h
    rfl
  · obtain ⟨rfl, k⟩ := h
    refine ⟨_, (pss_one (ps_ret (pe_disp (pps_cons pe_str pe_dnewK (pps_cons pe_str (pe_disp (pps_cons pe_str pe_int pps_nil) (by rfl) (by rfl) (fun z => by cases z) (by decide)) (pps_cons pe_str (pe_disp (pps_cons pe_str pe_int (pps_cons pe_str pe_int pps_nil)) (by rfl) (by rfl) (fun z => by cases z) (by decide)) (pps_cons pe_str (pe_disp (pps_cons pe_str pe_int (pps_cons pe_str pe_int pps_nil)) (by rfl) (by rfl) (fun z => by cases z) (by decide)) (pps_cons pe_str (pe_disp (pps_cons pe_str pe_int (pps_cons pe_str pe_int pps_nil)) (by rfl) (by rfl) (fun z => by cases z) (by decide)) pps_nil))))) (by rfl) (by rfl) (fun z => by cases z) (by decide)))), ?_⟩
    intro d hd
    have s0 : Same H (upd H d (.dK [])) := same_new hd
    have d0 : (upd H d (.dK [])) d = some (.dK []) := upd_same
    generalize upd H d (.dK []) = H0 at s0 d0
    intro e0 h0
    have s1 := s0.trans (same_new (o := .dK []) h0)
    have d1 := same_new (o := .dK []) h0 _ _ d0
    generalize upd H0 e0 (.dK []) = H1 at s1 d1
    intro e1 h1
    refine ⟨upd_same, [(Sum.inr "a", .int 1)], rfl, (by show 1 ≤ 15; decide), ?_⟩
    have s2 := s1.trans (same_new2 (o := .dK []) (o' := .dK (mergeK [] [(Sum.inr "a", .int 1)])) h1)
    have d2 := same_new2 (o := .dK []) (o' := .dK (mergeK [] [(Sum.inr "a", .int 1)])) h1 _ _ d1
    generalize upd (upd H1 e1 (.dK [])) e1 (.dK (mergeK [] [(Sum.inr "a", .int 1)])) = H2 at s2 d2
    intro e2 h2
    refine ⟨upd_same, [(Sum.inr "a", .int 1), (Sum.inr "b", .int 3)], rfl, (by show 2 ≤ 15; decide), ?_⟩
    have s3 := s2.trans (same_new2 (o := .dK []) (o' := .dK (mergeK [] [(Sum.inr "a", .int 1), (Sum.inr "b", .int 3)])) h2)
    have d3 := same_new2 (o := .dK []) (o' := .dK (mergeK [] [(Sum.inr "a", .int 1), (Sum.inr "b", .int 3)])) h2 _ _ d2
    generalize upd (upd H2 e2 (.dK [])) e2 (.dK (mergeK [] [(Sum.inr "a", .int 1), (Sum.inr "b", .int 3)])) = H3 at s3 d3
    intro e3 h3
    refine ⟨upd_same, [(Sum.inr "a", .int 1), (Sum.inr "b", .int 1)], rfl, (by show 2 ≤ 15; decide), ?_⟩
    have s4 := s3.trans (same_new2 (o := .dK []) (o' := .dK (mergeK [] [(Sum.inr "a", .int 1), (Sum.inr "b", .int 1)])) h3)
    have d4 := same_new2 (o := .dK []) (o' := .dK (mergeK [] [(Sum.inr "a", .int 1), (Sum.inr "b", .int 1)])) h3 _ _ d3
    generalize upd (upd H3 e3 (.dK [])) e3 (.dK (mergeK [] [(Sum.inr "a", .int 1), (Sum.inr "b", .int 1)])) = H4 at s4 d4
    intro e4 h4
    refine ⟨upd_same, [(Sum.inr "b", .int 1), (Sum.inr "a", .int 3)], rfl, (by show 2 ≤ 15; decide), ?_⟩
    have s5 := s4.trans (same_new2 (o := .dK []) (o' := .dK (mergeK [] [(Sum.inr "b", .int 1), (Sum.inr "a", .int 3)])) h4)
    have d5 := same_new2 (o := .dK []) (o' := .dK (mergeK [] [(Sum.inr "b", .int 1), (Sum.inr "a", .int 3)])) h4 _ _ d4
    generalize upd (upd H4 e4 (.dK [])) e4 (.dK (mergeK [] [(Sum.inr "b", .int 1), (Sum.inr "a", .int 3)])) = H5 at s5 d5
    refine ⟨d5, [(Sum.inr "", .ref e0), (Sum.inr "a", .ref e1), (Sum.inr "a<b", .ref e2), (Sum.inr "a=b", .ref e3), (Sum.inr "b<a", .ref e4)], rfl, (by show 5 ≤ 15; decide), ?_⟩
    refine k _ d _ hd (fun b o e => ?_) upd_same rfl
    rw [upd_ne (ne_of_none e hd)]
    exact s5 b o e
end
end My
namespace My
open PySem PySem.Spec PyProof.Rows L2
open LamX (TabB Tabs TabS ExtN CodeO LamS lamCx lamEnv tLam)
/-- the code object of the def x -/
def ca (K : PySem.W.Frag) (mg : Str → Option Value) (x : Str) : Addr := match (fdOf K (fa mg x)).code with
  | .ref c => c
  | _ => 0
theorem okC {P : Program} {w : World} {K : PySem.W.Frag} {mg : Str → Option Value} {base : Heap} {x qual : Str} {st : Stmt} {f : Addr} {fd : FuncData} {N ps : List Str} {k : Nat} {sp : Sp} {cv : Value} (F : Fun K x qual st f fd) (hc : fd.code = cv) (S : FnScope N ps (defScope st)) (len : ∀ vs H Q E, sp vs H Q E → vs.length = ps.length)
    (hbody : ∀ (A : Around) (outer : List Env) (s : Shared) (H : Hp) (vs : List V) (Q : VK) (E : XK), Room k (A.deeper (envOfC qual (defScope st) s.heap.objs.size f cv)) → sp vs H Q E →
      ∃ t, PSs (cxOf CX0 P w K mg base N qual (defScope st) f cv A outer s H E).nox (defBody st) t ∧ t { nx := fun _ H' => Q .non H', rt := Q } (start N vs) H) : FnOk P w K mg base CX0 (k + 1) f fd ps sp := by
  obtain ⟨oc, od, kV, doc, pm, an, cdv, ct, osl, rfl, lk, hcd⟩ := F.ex
  have e : cdv = cv := hc
  subst e
  refine fn_of lk hcd S len fun A outer s H vs Q E hr hsp => ?_
  obtain ⟨t, h, q⟩ := hbody A outer s H vs Q E hr hsp
  exact ⟨t, h.nox, q⟩
section
variable {X : Cx}
theorem pe_met {T0 : List (Addr × Str)} {c P' : Addr} {k : Nat} {params : Arguments} {body : Expr} {scope : Scope} {t : XK → TE} {p lpos pos : Pos} (T : Txt X.prog X.w X.K X.mg) (hg : Gl X "_law_met")
    (TB : TabB X.base X.mg c P') (hcode : X.env.code = .ref c) (hmT : (P', X.env.qual ++ "<lambda>") ∈ T0) (hu : ∀ p ∈ T0, p.1 = P' → p.2 = X.env.qual ++ "<lambda>") (hr : Room (k + 2) X.A) (L : LamS X.env.scope scope) (hdef : defaultsOf params X.env = ([], []))
    (hbind : ∀ (q : Str) (cl : List (Str × Addr)) (pm cv ctv : Value), bindArgs (PySem.W.kla_fn "<lambda>" q params body scope cl pm cv ctv) ⟨[], []⟩ = pure [])
    (hbody : ∀ (A : Around) (outer : List Env) (s : Shared) (H : Hp) (E : XK) (f c' : Addr), Room k (A.deeper (lamEnv X scope s.heap.objs.size f c')) → PE (lamCx X A outer s H E scope f c') body (t E)) :
    PE X (.Call (.Name "_law_met" p) [.Lambda params body scope lpos] [] pos) (tLam T0 (TMet X.mg) t) := by
  obtain ⟨oc, od, kV, doc, pm, an, cdv, ct, osl, e, lk, hcd⟩ := T.law_met.F.ex
  have b := T.law_met.b
  rw [e] at lk b
  exact LamX.pe_lamcall (Ng := ["_law_call", "e"]) hg T.law_met.g T.law_met.F.kp lk hcd b sc_law_met rfl (.inl rfl) (met_gives T) TB hcode hmT hu hr L hdef hbind hbody
end
/-- the tables: of law, of _law_are_refused -/
def tabsL (P1 P2 : Addr) : List (Addr × Str) := [(P1, (("law" : Str) ++ ".<locals>.") ++ "<lambda>"), (P2, (("_law_are_refused" : Str) ++ ".<locals>.") ++ "<lambda>")]
theorem tabs_1 {P1 P2 : Addr} (n : P1 ≠ P2) : ∀ p ∈ tabsL P1 P2, p.1 = P1 → p.2 = (("law" : Str) ++ ".<locals>.") ++ "<lambda>" := fun p hp e => by
  rcases List.mem_cons.mp hp with rfl | hp
  · rfl
  · rw [List.mem_singleton.mp hp] at e
    exact absurd e.symm n
theorem tabs_2 {P1 P2 : Addr} (n : P1 ≠ P2) : ∀ p ∈ tabsL P1 P2, p.1 = P2 → p.2 = (("_law_are_refused" : Str) ++ ".<locals>.") ++ "<lambda>" := fun p hp e => by
  rcases List.mem_cons.mp hp with rfl | hp
  · exact absurd e n
  · rw [List.mem_singleton.mp hp]
theorem Odd.ext {H H' : Hp} {v : V} (o : Odd H v) (s : ExtN H H') : Odd H' v := by
  cases o with
  | non => exact .non
  | bl b => exact .bl b
  | int i => exact .int i
  | str x => exact .str x
  | lst e => exact .lst (s _ _ e fun _ z => nomatch z)
  | tup e => exact .tup (s _ _ e fun _ z => nomatch z)
  | dK e => exact .dK (s _ _ e fun _ z => nomatch z)
def spRefused (T0 : List (Addr × Str)) : Sp := fun vs H Q _ => ∃ a b, vs = [a, b] ∧ Odd H a ∧ Odd H b ∧ (¬ ∃ x ∈ ords, a = .str x) ∧ (∀ x ∈ ords, ¬ ∃ y ∈ (pairsOf x).map (·.1), b = .str y) ∧ Tabs T0 H ∧ ∀ H', Q (.bl true) H'
section
variable {P : Program} {w : World} {K : PySem.W.Frag} {mg : Str → Option Value} {base : Heap}
variable {P1 P2 : Addr}
theorem kc_mem {x y : Str} {n : Int} (h : kcOf x y = some n) : y ∈ (pairsOf x).map (·.1) := by
  unfold kcOf at h
  obtain ⟨p, hp, _⟩ := Option.map_eq_some_iff.mp h
  have h2 := List.find?_some hp
  exact List.mem_map.mpr ⟨p, List.mem_of_find?_eq_some hp, of_decide_eq_true h2⟩
theorem two_self {t : Str} {v : V} (h : selfV v = true) : ∀ x ∈ [V.str t, v], selfV x = true := fun x hx => by
  rcases List.mem_cons.mp hx with rfl | hx
  · rfl
  · rw [List.mem_singleton.mp hx]; exact h
theorem ok_law_are_refused (T : Txt P w K mg) (TB : TabB base mg (ca K mg "_law_are_refused") P2) (n12 : P1 ≠ P2) (hcd : (fdOf K (fa mg "_law_are_refused")).code = .ref (ca K mg "_law_are_refused")) : Ok P w K mg base CX0 6 "_law_are_refused" ["_law_odd", "_law_other"] (spRefused (tabsL P1 P2)) := by
  have hmT : ((P2, (("_law_are_refused" : Str) ++ ".<locals>.") ++ "<lambda>") : Addr × Str) ∈ tabsL P1 P2 := List.mem_cons_of_mem _ List.mem_cons_self
  have hu2 := tabs_2 n12
  refine okC T.law_are_refused.F hcd sc_law_are_refused (fun vs H Q E h => ?_) (fun A outer s H vs Q E hr h => ?_)
  · obtain ⟨a, b, rfl, _⟩ := h
    rfl
  · obtain ⟨a, b, rfl, hoa, hob, na, nb, tb, k⟩ := h
    have hu0 := Nat.lt_of_le_of_lt (Nat.le_add_right _ 64) hr.units
    have cd : (envOfC "_law_are_refused" (defScope s_law_are_refused) s.heap.objs.size (fa mg "_law_are_refused") (.ref (ca K mg "_law_are_refused"))).code = .ref (ca K mg "_law_are_refused") := rfl
    refine ⟨_, (pss_cons (ps_if (pt_cmpR (op_neSame hu0) (pe_met T (by rfl) TB cd hmT hu2 (k := 3) (hr.mono (by decide)) (show LamS (defScope s_law_are_refused) _ from LamX.lamS_by (by decide +kernel)) (by rfl) (fun _ _ _ _ _ => by rfl) (fun A outer s H E f c hr2 => pcx T.classes (ok_classes T) (hr2.mono (by decide)) (takes_of rfl rfl rfl rfl) (pa_cons (pv 0) pa_nil))) (pe_tup (pa_cons pe_str (pa_cons (pv 0) pa_nil))) (nomark _))
  (pss_one (ps_ret pe_bl))
  pss_nil)
  (pss_cons (ps_if (pt_cmpR (op_neSame hu0) (pe_met T (by rfl) TB cd hmT hu2 (k := 3) (hr.mono (by decide)) (show LamS (defScope s_law_are_refused) _ from LamX.lamS_by (by decide +kernel)) (by rfl) (fun _ _ _ _ _ => by rfl) (fun A outer s H E f c hr2 => pcx T.mirrored_order (ok_mirrored_order T) (hr2.mono (by decide)) (takes_of rfl rfl rfl rfl) (pa_cons (pv 0) pa_nil))) (pe_tup (pa_cons pe_str (pa_cons (pv 0) pa_nil))) (nomark _))
  (pss_one (ps_ret pe_bl))
  pss_nil)
  (pss_cons (ps_if (pt_cmpR (op_neSame hu0) (pe_met T (by rfl) TB cd hmT hu2 (k := 3) (hr.mono (by decide)) (show LamS (defScope s_law_are_refused) _ from LamX.lamS_by (by decide +kernel)) (by rfl) (fun _ _ _ _ _ => by rfl) (fun A outer s H E f c hr2 => pcx T.key_class (ok_key_class T) (hr2.mono (by decide)) (takes_of rfl rfl rfl rfl) (pa_cons (pv 0) (pa_cons (pv 0) pa_nil)))) (pe_tup (pa_cons pe_str (pa_cons (pv 0) pa_nil))) (nomark _))
  (pss_one (ps_ret pe_bl))
  pss_nil)
  (pss_cons (ps_for PassesOwn.never rfl (RZ.pi_keysN (pc0 T.law_orders (ok_law_orders T) (hr.mono (by decide)))) (pg_name (i := 2) sc_law_are_refused.nd rfl (Or.inr rfl))
  (pss_one (ps_if (pt_cmpR (op_neSame hu0) (pe_met T (by rfl) TB cd hmT hu2 (k := 3) (hr.mono (by decide)) (show LamS (defScope s_law_are_refused) _ from LamX.lamS_by (by decide +kernel)) (by rfl) (fun _ _ _ _ _ => by rfl) (fun A outer s H E f c hr2 => pcx T.key_class (ok_key_class T) (hr2.mono (by decide)) (takes_of rfl rfl rfl rfl) (pa_cons (pv 2) (pa_cons (pv 1) pa_nil)))) (pe_tup (pa_cons pe_str (pa_cons (pv 1) pa_nil))) (nomark _))
  (pss_one (ps_ret pe_bl))
  pss_nil)))
  (pss_one (ps_ret pe_bl)))))), ?_⟩
    refine ⟨tb, fun G1 eN tc => ⟨_, rfl, a, rfl, hoa.ext eN, fun x hx e => absurd ⟨x, hx, e⟩ na, fun _ G2 d s2 hd => .inr (.inl ⟨d, _, rfl, rfl, hd, fun p hp => ⟨_, rfl, (by show 2 ≤ sizeLine; decide), fun q hq => ⟨p, q, _, rfl, rfl, SqT.of (same_new hq _ _ upd_same), SqT.of upd_same, two_self hoa.self, _, rfl, iteF ?_⟩⟩⟩)⟩⟩
    have sm1 := s2.trans ((same_new (o := .tup [.str "order", a]) hp).trans (same_new (o := .tup [.str "order", a]) hq))
    replace tb := tc.ext sm1
    replace hoa := (hoa.ext eN).same sm1
    replace hob := (hob.ext eN).same sm1
    generalize upd (upd G2 p (.tup [.str "order", a])) q (.tup [.str "order", a]) = H1 at tb hoa hob
    clear sm1 tc hd hq hp s2 eN
    refine ⟨tb, fun G1 eN tc => ⟨_, rfl, a, rfl, hoa.ext eN, fun x hx e => absurd ⟨x, hx, e⟩ na, fun _ G2 d s2 hd => .inr (.inl ⟨d, _, rfl, rfl, hd, fun p hp => ⟨_, rfl, (by show 2 ≤ sizeLine; decide), fun q hq => ⟨p, q, _, rfl, rfl, SqT.of (same_new hq _ _ upd_same), SqT.of upd_same, two_self hoa.self, _, rfl, iteF ?_⟩⟩⟩)⟩⟩
    have sm2 := s2.trans ((same_new (o := .tup [.str "order", a]) hp).trans (same_new (o := .tup [.str "order", a]) hq))
    replace tb := tc.ext sm2
    replace hoa := (hoa.ext eN).same sm2
    replace hob := (hob.ext eN).same sm2
    generalize upd (upd G2 p (.tup [.str "order", a])) q (.tup [.str "order", a]) = H2 at tb hoa hob
    clear sm2 tc hd hq hp s2 eN
    refine ⟨tb, fun G1 eN tc => ⟨_, rfl, _, rfl, a, a, rfl, hoa.ext eN, hoa.ext eN, fun x hx e => absurd ⟨x, hx, e⟩ na, fun x hx e => absurd ⟨x, hx, e⟩ na, fun _ G2 d s2 hd => .inr (.inl ⟨d, _, rfl, rfl, hd, fun p hp => ⟨_, rfl, (by show 2 ≤ sizeLine; decide), fun q hq => ⟨p, q, _, rfl, rfl, SqT.of (same_new hq _ _ upd_same), SqT.of upd_same, two_self hoa.self, _, rfl, iteF ?_⟩⟩⟩)⟩⟩
    have sm3 := s2.trans ((same_new (o := .tup [.str "order", a]) hp).trans (same_new (o := .tup [.str "order", a]) hq))
    replace tb := tc.ext sm3
    replace hoa := (hoa.ext eN).same sm3
    replace hob := (hob.ext eN).same sm3
    generalize upd (upd G2 p (.tup [.str "order", a])) q (.tup [.str "order", a]) = H3 at tb hoa hob
    clear sm3 tc hd hq hp s2 eN
    refine ⟨rfl, fun G d kvs hdn s0 hd hk => ⟨d, kvs, rfl, hd, fun o => ?_⟩⟩
    have sL : Same H3 (upd G d (.frz o (.dK kvs))) := fun c u e => by
      rw [upd_ne (ne_of_none e hdn)]
      exact s0 c u e
    refine for_it (walk_keys (d := d) (o := o) (kvs := kvs)) (fun i σ H' => ∃ v, σ = [some a, some b, v] ∧ H' d = some (.frz o (.dK kvs)) ∧ Odd H' b ∧ Tabs (tabsL P1 P2) H') ⟨none, rfl, upd_same, hob.same sL, tb.ext sL⟩ (fun i σ H' _ ⟨_, _, e, _⟩ => e) ?_ ?_
    · rintro i y σ G0 G1 hi ⟨v, rfl, hf, hb, tb⟩ ⟨rfl, k0, v0, hat, rfl⟩
      obtain ⟨x, hx, rfl⟩ : ∃ x ∈ ords, k0 = Sum.inr x := by
        have hm : k0 ∈ kvs.map (·.1) := List.mem_map.mpr ⟨_, List.mem_of_getElem? hat, rfl⟩
        rw [hk] at hm
        obtain ⟨x, hx, e⟩ := List.mem_map.mp hm
        exact ⟨x, hx, e.symm⟩
      refine ⟨tb, fun G1 eN tc => ⟨_, rfl, _, rfl, .str x, b, rfl, .str x, hb.ext eN, fun x2 hx2 e y n ey hn => absurd ⟨y, kc_mem hn, ey⟩ (nb x2 hx2), fun x2 hx2 e _ G2 d s2 hd => .inr (.inr ⟨d, _, rfl, rfl, hd, fun p hp => ⟨_, rfl, (by show 2 ≤ sizeLine; decide), fun q hq => ⟨p, q, _, rfl, rfl, SqT.of (same_new hq _ _ upd_same), SqT.of upd_same, two_self hb.self, _, rfl, iteF ?_⟩⟩⟩), fun z => absurd ⟨x, hx, rfl⟩ z⟩⟩
      have sm := s2.trans ((same_new (o := .tup [.str "key", b]) hp).trans (same_new (o := .tup [.str "key", b]) hq))
      exact ⟨_, rfl, sm _ _ (eN _ _ hf fun _ z => nomatch z), (hb.ext eN).same sm, tc.ext sm⟩
    · rintro σ G0 ⟨v, rfl, _⟩
      exact k _
end
end My
namespace My
open PySem PySem.Spec PyProof.Rows L2
open LamX (TabB Tabs TabS ExtN CodeO LamS lamCx lamEnv tLam)
theorem tabs_sb {T0 : List (Addr × Str)} {H H' : Hp} {p : Addr} {B : Int} (t : Tabs T0 H) (P : Pen H p B) (s : Sb p H H') : Tabs T0 H' := fun x hx => by
  obtain ⟨ps, h1, h2, h3⟩ := t x hx
  refine ⟨ps, s _ _ (P.ne h1 fun _ z => nomatch z) h1, h2, fun pos cv hc => ?_⟩
  obtain ⟨c, e1, e2⟩ := h3 pos cv hc
  exact ⟨c, e1, s _ _ (P.ne e2 fun _ z => by unfold CodeO at z; cases z) e2⟩
theorem Pen.ext {H H' : Hp} {p : Addr} {B : Int} (P : Pen H p B) (s : ExtN H H') : Pen H' p B := by
  obtain ⟨c, cs, n, l, hp, hc, r⟩ := P
  exact ⟨c, cs, n, l, s _ _ hp (fun _ z => nomatch z), s _ _ hc (fun _ z => nomatch z), r⟩
theorem Odd.sb {H H' : Hp} {v : V} {p : Addr} {B : Int} (o : Odd H v) (P : Pen H p B) (n : v ≠ .ref p) (s : Sb p H H') : Odd H' v := by
  have g : ∀ a u, v = .ref a → H a = some u → H' a = some u := fun a u e h => s _ _ (fun z => n (by rw [e, z])) h
  cases o with
  | non => exact .non
  | bl b => exact .bl b
  | int i => exact .int i
  | str x => exact .str x
  | lst e => exact .lst (g _ _ rfl e)
  | tup e => exact .tup (g _ _ rfl e)
  | dK e => exact .dK (g _ _ rfl e)
/-- the order of a pair of keys -/
theorem orderOf_two {mg : Str → Option Value} {a b : V} {ks : List Int} {H : Hp} {Q : VK} {E : XK} (t : Two a b ks) (k : Q (.str (ordT a b)) H) : spOrderOf mg [a, b] H Q E := by
  cases t with
  | none => exact ⟨_, _, rfl, .inl ⟨rfl, rfl, k⟩⟩
  | one i => exact ⟨_, _, rfl, .inr (.inl ⟨_, rfl, rfl, k⟩)⟩
  | two i j => exact ⟨_, _, rfl, .inr (.inr (.inl ⟨_, _, rfl, rfl, k⟩))⟩
theorem ordS_mem (i j : Int) : ordS i j ∈ ords := by
  unfold ordS
  split
  · decide +kernel
  · split <;> decide +kernel
theorem ord_mem {a b : V} {ks : List Int} (t : Two a b ks) : ordT a b ∈ ords := by
  cases t with
  | none => show ("" : Str) ∈ ords; decide +kernel
  | one i => show ("a" : Str) ∈ ords; decide +kernel
  | two i j => exact ordS_mem i j
theorem ord_cls {a b : V} {ks : List Int} (t : Two a b ks) : nCls (ordT a b) = 2 * (many ks : Int) + 1 := by
  cases t with
  | none => show nCls "" = _; decide +kernel
  | one i => show nCls "a" = 2 * ((1 : Nat) : Int) + 1; decide +kernel
  | two i j =>
    show nCls (ordS i j) = _
    unfold ordS
    by_cases e : i = j
    · subst e
      rw [if_pos rfl]
      have : many [i, i] = 1 := by simp [many]
      rw [this]
      decide +kernel
    · rw [if_neg e]
      have : many [i, j] = 2 := by simp [many, e]
      rw [this]
      split <;> decide +kernel
def negV : V → V
  | .int i => .int (-i)
  | v => v
theorem Two.neg {a b : V} {ks : List Int} (t : Two a b ks) : Two (negV a) (negV b) (My.neg ks) := by
  cases t with
  | none => exact .none
  | one i => exact .one _
  | two i j => exact .two _ _
theorem ord_mir {a b : V} {ks : List Int} (t : Two a b ks) : mirS (ordT a b) = ordT (negV a) (negV b) := by
  cases t with
  | none => show mirS "" = ""; decide +kernel
  | one i => show mirS "a" = "a"; decide +kernel
  | two i j =>
    show mirS (ordS i j) = ordS (-i) (-j)
    unfold ordS
    by_cases e : i = j
    · subst e
      rw [if_pos rfl, if_pos rfl]
      decide +kernel
    · rw [if_neg e, if_neg (show ¬ -i = -j by omega)]
      by_cases l : i < j
      · rw [if_pos l, if_neg (show ¬ -i < -j by omega)]
        decide +kernel
      · rw [if_neg l, if_pos (show -i < -j by omega)]
        decide +kernel
theorem mir_mir : ∀ x ∈ ords, mirS (mirS x) = x := by decide +kernel
theorem mir_mem : ∀ x ∈ ords, mirS x ∈ ords := by decide +kernel
/-- the class of a key by its name -/
theorem ord_key {a b : V} {ks : List Int} (t : Two a b ks) : (∀ i, a = .int i → kcOf (ordT a b) "a" = some (cls i ks)) ∧ (∀ j, b = .int j → kcOf (ordT a b) "b" = some (cls j ks)) ∧
    (a = .non → ¬ (("a" : Str) ∈ (pairsOf (ordT a b)).map (·.1))) ∧ (b = .non → ¬ (("b" : Str) ∈ (pairsOf (ordT a b)).map (·.1))) := by
  cases t with
  | none => exact ⟨fun _ e => (nomatch e), fun _ e => (nomatch e), fun _ => by show ¬ (_ ∈ (pairsOf "").map _); decide +kernel, fun _ => by show ¬ (_ ∈ (pairsOf "").map _); decide +kernel⟩
  | one i =>
    refine ⟨fun j e => ?_, fun _ e => (nomatch e), fun e => (nomatch e), fun _ => by show ¬ (_ ∈ (pairsOf "a").map _); decide +kernel⟩
    cases e
    have : cls i [i] = 1 := by simp [cls, many]
    rw [this]
    show kcOf "a" "a" = _
    decide +kernel
  | two i j =>
    have key : kcOf (ordS i j) "a" = some (cls i [i, j]) ∧ kcOf (ordS i j) "b" = some (cls j [i, j]) := by
      unfold ordS
      by_cases e : i = j
      · subst e
        rw [if_pos rfl]
        have : cls i [i, i] = 1 := by simp [cls, many]
        rw [this]
        constructor <;> decide +kernel
      · rw [if_neg e]
        by_cases l : i < j
        · rw [if_pos l]
          have h1 : cls i [i, j] = 1 := by simp [cls, many, show ¬ j < i by omega]
          have h2 : cls j [i, j] = 3 := by simp [cls, many, l]
          rw [h1, h2]
          constructor <;> decide +kernel
        · rw [if_neg l]
          have l2 : j < i := by omega
          have h1 : cls i [i, j] = 3 := by simp [cls, many, l2]
          have h2 : cls j [i, j] = 1 := by simp [cls, many, l]
          rw [h1, h2]
          constructor <;> decide +kernel
    exact ⟨fun _ e => by cases e; exact key.1, fun _ e => by cases e; exact key.2, fun e => (nomatch e), fun e => (nomatch e)⟩
def isI : V → Bool
  | .int _ => true
  | _ => false
theorem int_of {xs : List V} {x : V} (h : xs.all isI = true) (hx : x ∈ xs) : ∃ z, x = .int z := by
  have := List.all_eq_true.mp h x hx
  cases x with
  | int z => exact ⟨z, rfl⟩
  | _ => cases this
theorem Two.mem {a b y : V} {ks : List Int} (t : Two a b ks) (h : y ∈ [a, b]) : y = .non ∨ ∃ z, y = .int z := by
  cases t <;> simp only [List.mem_cons, List.not_mem_nil, or_false] at h
  · exact .inl (h.elim id id)
  · rcases h with h | h
    · exact .inr ⟨_, h⟩
    · exact .inl h
  · rcases h with h | h <;> exact .inr ⟨_, h⟩
theorem negs_take {xs : List V} {i : Nat} {y : V} (h : xs[i]? = some y) : (xs.take (i + 1)).map negV = (xs.take i).map negV ++ [negV y] := by
  rw [List.take_succ, h, List.map_append]
  rfl
theorem negs_len (xs : List V) (i : Nat) : ((xs.take i).map negV).length ≤ xs.length := by
  rw [List.length_map, List.length_take]
  exact Nat.min_le_right _ _
theorem pair_at {a b x y : V} {ks : List Int} (t : Two a b ks) {j : Nat} (hx : [V.str "a", V.str "b"][j]? = some x) (hy : [a, b][j]? = some y) :
    ∃ nm, x = .str nm ∧ ((y = .non ∧ ¬ nm ∈ (pairsOf (ordT a b)).map (·.1)) ∨ ∃ z, y = .int z ∧ kcOf (ordT a b) nm = some (cls z ks)) := by
  obtain ⟨k1, k2, k3, k4⟩ := ord_key t
  have m := t.mem (List.mem_of_getElem? hy)
  match j, hx, hy with
  | 0, hx, hy =>
    have hx : some (V.str "a") = some x := hx
    have hy : some a = some y := hy
    cases hx
    cases hy
    rcases m with m | ⟨z, m⟩
    · exact ⟨_, rfl, .inl ⟨m, k3 m⟩⟩
    · exact ⟨_, rfl, .inr ⟨z, m, k1 z m⟩⟩
  | 1, hx, hy =>
    have hx : some (V.str "b") = some x := hx
    have hy : some b = some y := hy
    cases hx
    cases hy
    rcases m with m | ⟨z, m⟩
    · exact ⟨_, rfl, .inl ⟨m, k4 m⟩⟩
    · exact ⟨_, rfl, .inr ⟨z, m, k2 z m⟩⟩
  | j + 2, hx, hy => cases hx
/-- what is drawn from values and new objects -/
inductive OddM (M : Hp) (p : Addr) : V → Prop
  | val {v : V} (h : (match v with | .non => true | .bl _ => true | .int _ => true | .str _ => true | _ => false) = true) : OddM M p v
  | lst {a : Addr} {xs : List V} (e : M a = some (.lst xs)) : OddM M p (.ref a)
  | tup {a : Addr} {xs : List V} (e : M a = some (.tup xs)) : OddM M p (.ref a)
  | dK {a : Addr} {kvs : List (Key × V)} (e : M a = some (.dK kvs)) (n : a ≠ p) : OddM M p (.ref a)
theorem OddM.odd {M G : Hp} {p : Addr} {B : Int} {v : V} (o : OddM M p v) (P : Pen M p B) (s : Sb p M G) : Odd G v ∧ v ≠ .ref p := by
  cases o with
  | val h =>
    cases v with
    | non => exact ⟨.non, fun z => nomatch z⟩
    | bl b => exact ⟨.bl b, fun z => nomatch z⟩
    | int i => exact ⟨.int i, fun z => nomatch z⟩
    | str x => exact ⟨.str x, fun z => nomatch z⟩
    | _ => cases h
  | lst e => exact ⟨.lst (P.lst s e), fun z => P.ne e (fun _ z => nomatch z) (V.ref.inj z)⟩
  | tup e => exact ⟨.tup (P.tup s e), fun z => P.ne e (fun _ z => nomatch z) (V.ref.inj z)⟩
  | dK e n => exact ⟨.dK (s _ _ n e), fun z => n (V.ref.inj z)⟩
theorem Pen.nn {H : Hp} {p d : Addr} {B : Int} (P : Pen H p B) (h : H d = none) : d ≠ p := fun e => by
  obtain ⟨c, cs, k, l, hp, _⟩ := P
  rw [e, hp] at h
  cases h
def spOrderOf2 : Sp := fun vs H Q _ => ∃ a b ks, vs = [a, b] ∧ Two a b ks ∧ Q (.str (ordT a b)) H
def spClassOf2 : Sp := fun vs H Q _ => ∃ (n : Int) (a b : V) (ks : List Int), vs = [.int n, a, b] ∧ Two a b ks ∧ ∀ H', Same H H' → Q (.int (cls n ks)) H'
section
variable {P : Program} {w : World} {K : PySem.W.Frag} {mg : Str → Option Value} {base : Heap}
theorem ok_order_of2 (T : Txt P w K mg) : Ok P w K mg base (L2.CX P w) 2 "order_of" ["a", "b"] spOrderOf2 := (ok_order_of T).imp fun vs H Q E ⟨a, b, ks, e, t, k⟩ => by
  subst e
  exact orderOf_two t k
theorem ok_class_of2 (T : Txt P w K mg) : Ok P w K mg base (L2.CX P w) 3 "class_of" ["number", "a", "b"] spClassOf2 := (ok_class_of T).imp fun vs H Q E ⟨n, a, b, ks, e, t, k⟩ => by
  subst e
  exact ⟨n, a, b, rfl, .inl ⟨ks, t, k⟩⟩
end
def spLaw (K : PySem.W.Frag) (T0 : List (Addr × Str)) : Sp := fun vs H Q _ => ∃ (a : Addr) (ns : List Int), vs = [.ref a] ∧ SqL K H a (ns.map V.int) ∧ ns.length ≤ 63 ∧ Tabs T0 H ∧ ∀ H', Q (.bl true) H'
end My
namespace My
open PySem PySem.Spec PyProof.Rows L2
open LamX (TabB Tabs TabS ExtN CodeO LamS lamCx lamEnv tLam)
section
variable {P : Program} {w : World} {K : PySem.W.Frag} {mg : Str → Option Value} {base : Heap}
variable {P1 P2 : Addr}
theorem ok_law (T : Txt P w K mg) (TB : TabB base mg (ca K mg "law") P1) (TB2 : TabB base mg (ca K mg "_law_are_refused") P2) (n12 : P1 ≠ P2) (hcd : (fdOf K (fa mg "law")).code = .ref (ca K mg "law")) (hcd2 : (fdOf K (fa mg "_law_are_refused")).code = .ref (ca K mg "_law_are_refused")) : Ok P w K mg base CX0 7 "law" ["_law_script"] (spLaw K (tabsL P1 P2)) := by
  have hmT : ((P1, (("law" : Str) ++ ".<locals>.") ++ "<lambda>") : Addr × Str) ∈ tabsL P1 P2 := List.mem_cons_self
  have hu2 := tabs_1 n12
  refine okC T.law.F hcd sc_law (fun vs H Q E h => ?_) (fun A outer s H vs Q E hr h => ?_)
  · obtain ⟨a, ns, rfl, _⟩ := h
    rfl
  · obtain ⟨a, ns, rfl, hS, hlen, tb, k⟩ := h
    have hu0 := Nat.lt_of_le_of_lt (Nat.le_add_right _ 64) hr.units
    have cd : (envOfC "law" (defScope s_law) s.heap.objs.size (fa mg "law") (.ref (ca K mg "law"))).code = .ref (ca K mg "law") := rfl
    refine ⟨_, (pss_cons (ps_set (i := 1) sc_law.nd rfl (Or.inl rfl) (pc T.law_pen_of (ok_law_pen_of T) (hr.mono (by decide)) (pa_cons (pv 0) pa_nil)))
  (pss_cons (ps_for PassesOwn.never rfl (pi_range1 (by rfl) T.n_range (pa_cons pe_int pa_nil)) (pg_name (i := 2) sc_law.nd rfl (Or.inl rfl))
  (pss_cons (ps_set (i := 3) sc_law.nd rfl (Or.inr rfl) (pc T.law_pick (ok_law_pick T) (hr.mono (by decide)) (pa_cons (pv 1) (pa_cons (pe_lst (pa_cons pe_int (pa_cons pe_int (pa_cons (pe_un un_neg pe_int) (pa_cons (pe_op op_pow pe_int pe_int) (pa_cons (pe_un un_neg (pe_op op_pow pe_int pe_int)) pa_nil)))))) pa_nil))))
  (pss_cons (ps_set (i := 4) sc_law.nd rfl (Or.inl rfl) (pe_op op_add (pv 3) (pc T.law_pick (ok_law_pick T) (hr.mono (by decide)) (pa_cons (pv 1) (pa_cons (pe_lst (pa_cons pe_int (pa_cons pe_int (pa_cons (pe_un un_neg pe_int) (pa_cons pe_int (pa_cons pe_int (pa_cons (pe_un un_neg (pe_op op_pow pe_int pe_int)) pa_nil))))))) pa_nil)))))
  (pss_cons (ps_set (i := 5) sc_law.nd rfl (Or.inl rfl) (pc T.law_pick (ok_law_pick T) (hr.mono (by decide)) (pa_cons (pv 1) (pa_cons (pe_lst (pa_cons (pe_tup (pa_cons pe_non (pa_cons pe_non pa_nil))) (pa_cons (pe_tup (pa_cons (pv 3) (pa_cons pe_non pa_nil))) (pa_cons (pe_tup (pa_cons (pv 3) (pa_cons (pv 4) pa_nil))) (pa_cons (pe_tup (pa_cons (pv 3) (pa_cons (pv 4) pa_nil))) pa_nil))))) pa_nil))))
  (pss_cons (ps_setLc (i := 6) (own := [("_law_key", 7)]) (g := (gName 7)) (by rfl) sc_law.nd rfl rfl (sw_true rfl rfl rfl (by decide +kernel)) (pi_tup (pv 5)) (blkOk_by (own := [("_law_key", 7)]) (N := ["_law_script", "_law_pen", "_law_turn", "_law_a", "_law_b", "_law_keys", "_law_there", "_law_key", "_law_order_here", "_law_turned", "_law_other", "_law_top", "_law_number", "_law_due", "_law_name", "_law_odd"]) (sc := defScope s_law) (by decide +kernel)) (fun _ _ _ _ _ => (pg_name (i := 7) sc_law.nd rfl (Or.inl rfl))) (fun _ _ _ _ _ => (pts_one (pt_cmpR op_notN (pv 7) pe_non (nomark _)))) (fun _ _ _ _ _ => (pv 7)))
  (pss_cons (ps_set (i := 8) sc_law.nd rfl (Or.inr rfl) (pcx (E := fun _ _ _ => False) T.order_of (ok_order_of2 T) (hr.mono (by decide)) LamX.takes0 (pa_cons (pe_ix ix_tup (pv 5) pe_int (fun _ _ => rfl)) (pa_cons (pe_ix ix_tup (pv 5) pe_int (fun _ _ => rfl)) pa_nil))))
  (pss_cons (ps_if (PW.pt (pw_or (pt_cmpR op_ne (pv 8) (pc T.law_order (ok_law_order T) (hr.mono (by decide)) (pa_cons (pe_ix ix_tup (pv 5) pe_int (fun _ _ => rfl)) (pa_cons (pe_ix ix_tup (pv 5) pe_int (fun _ _ => rfl)) pa_nil))) (nomark _)) (pw_or1 (pt_cmpR op_ne (pcx (E := fun _ _ _ => False) T.classes (ok_classes T) (hr.mono (by decide)) LamX.takes0 (pa_cons (pv 8) pa_nil)) (pe_op op_add (pe_op op_mul pe_int (pe_callB call_lenSet (by rfl) T.n_len (by decide +kernel) (pa_cons (pe_callTy (cr_setL rfl) (by rfl) T.n_set (by decide +kernel) (pa_cons (pv 6) pa_nil)) pa_nil))) pe_int) (nomark _)))))
  (pss_one (ps_ret pe_bl))
  pss_nil)
  (pss_cons (ps_setLc (i := 9) (own := [("_law_key", 7)]) (g := (gName 7)) (tt := tYes) (by rfl) sc_law.nd rfl rfl (sw_true rfl rfl rfl (by decide +kernel)) (pi_tup (pv 5)) (blkOk_by (own := [("_law_key", 7)]) (N := ["_law_script", "_law_pen", "_law_turn", "_law_a", "_law_b", "_law_keys", "_law_there", "_law_key", "_law_order_here", "_law_turned", "_law_other", "_law_top", "_law_number", "_law_due", "_law_name", "_law_odd"]) (sc := defScope s_law) (by decide +kernel)) (fun _ _ _ _ _ => (pg_name (i := 7) sc_law.nd rfl (Or.inl rfl))) (fun _ _ _ _ _ => pts_nil) (fun _ _ _ _ _ => (pe_ifExp (pt_cmpR op_isN (pv 7) pe_non (nomark _)) pe_non (pe_un un_neg (pv 7)))))
  (pss_cons (ps_set (i := 10) sc_law.nd rfl (Or.inl rfl) (pcx (E := fun _ _ _ => False) T.mirrored_order (ok_mirrored_order T) (hr.mono (by decide)) LamX.takes0 (pa_cons (pv 8) pa_nil)))
  (pss_cons (ps_if (PW.pt (pw_or (pt_cmpR op_ne (pv 10) (pc T.law_order (ok_law_order T) (hr.mono (by decide)) (pa_cons (pe_ix ix_list (pv 9) pe_int (fun _ _ => rfl)) (pa_cons (pe_ix ix_list (pv 9) pe_int (fun _ _ => rfl)) pa_nil))) (nomark _)) (pw_or1 (pt_cmpR op_ne (pcx (E := fun _ _ _ => False) T.mirrored_order (ok_mirrored_order T) (hr.mono (by decide)) LamX.takes0 (pa_cons (pv 10) pa_nil)) (pv 8) (nomark _)))))
  (pss_one (ps_ret pe_bl))
  pss_nil)
  (pss_cons (ps_set (i := 11) sc_law.nd rfl (Or.inl rfl) (pe_op op_sub (pcx (E := fun _ _ _ => False) T.classes (ok_classes T) (hr.mono (by decide)) LamX.takes0 (pa_cons (pv 8) pa_nil)) pe_int))
  (pss_cons (ps_for PassesOwn.never rfl (pi_list (pc T.law_numbers_by (ok_law_numbers_by T) (hr.mono (by decide)) (pa_cons (pv 1) (pa_cons (pv 6) pa_nil)))) (pg_name (i := 12) sc_law.nd rfl (Or.inl rfl))
  (pss_cons (ps_set (i := 13) sc_law.nd rfl (Or.inl rfl) (pc T.law_class (ok_law_class T) (hr.mono (by decide)) (pa_cons (pv 12) (pa_cons (pv 6) pa_nil))))
  (pss_one (ps_if (PW.pt (pw_or (pt_cmpR op_ne (pcx (E := fun _ _ _ => False) T.class_of (ok_class_of2 T) (hr.mono (by decide)) LamX.takes0 (pa_cons (pv 12) (pa_cons (pe_ix ix_tup (pv 5) pe_int (fun _ _ => rfl)) (pa_cons (pe_ix ix_tup (pv 5) pe_int (fun _ _ => rfl)) pa_nil)))) (pv 13) (nomark _)) (pw_or1 (pt_cmpR op_ne (pcx (E := fun _ _ _ => False) T.class_of (ok_class_of2 T) (hr.mono (by decide)) LamX.takes0 (pa_cons (pe_un un_neg (pv 12)) (pa_cons (pe_ix ix_list (pv 9) pe_int (fun _ _ => rfl)) (pa_cons (pe_ix ix_list (pv 9) pe_int (fun _ _ => rfl)) pa_nil)))) (pe_op op_sub (pv 11) (pv 13)) (nomark _)))))
  (pss_one (ps_ret pe_bl))
  pss_nil))))
  (pss_one (ps_for PassesOwn.never rfl (RZ.pi_zipLT (by rfl) T.n_zip (pa_cons (pe_lst (pa_cons pe_str (pa_cons pe_str pa_nil))) (pa_cons (pv 5) pa_nil))) (pg_tup rfl (pgs_cons (pg_name (i := 14) sc_law.nd rfl (Or.inr rfl)) (pgs_cons (pg_name (i := 7) sc_law.nd rfl (Or.inl rfl)) pgs_nil)))
  (pss_one (ps_if (pt_cmpR op_isN (pv 7) pe_non (nomark _))
  (pss_one (ps_if (pt_cmpR (op_neSame hu0) (pe_met T (by rfl) TB cd hmT hu2 (k := 3) (hr.mono (by decide)) (show LamS (defScope s_law) _ from LamX.lamS_by (by decide +kernel)) (by rfl) (fun _ _ _ _ _ => by rfl) (fun A outer s H E f c hr2 => pcx T.key_class (ok_key_class T) (hr2.mono (by decide)) (takes_of rfl rfl rfl rfl) (pa_cons (pv 8) (pa_cons (pv 14) pa_nil)))) (pe_tup (pa_cons pe_str (pa_cons (pv 14) pa_nil))) (nomark _))
  (pss_one (ps_ret pe_bl))
  pss_nil))
  (pss_one (ps_if (pt_cmpR op_ne (pcx (E := fun _ _ _ => False) T.key_class (ok_key_class T) (hr.mono (by decide)) LamX.takes0 (pa_cons (pv 8) (pa_cons (pv 14) pa_nil))) (pc T.law_class (ok_law_class T) (hr.mono (by decide)) (pa_cons (pv 7) (pa_cons (pv 6) pa_nil))) (nomark _))
  (pss_one (ps_ret pe_bl))
  pss_nil))))))))))))))))))
  (pss_cons (ps_if (pt_cmpR (op_neSame hu0) (pe_met T (by rfl) TB cd hmT hu2 (k := 3) (hr.mono (by decide)) (show LamS (defScope s_law) _ from LamX.lamS_by (by decide +kernel)) (by rfl) (fun _ _ _ _ _ => by rfl) (fun A outer s H E f c hr2 => pcx T.order_of (ok_order_of T) (hr2.mono (by decide)) (takes_of rfl rfl rfl rfl) (pa_cons pe_non (pa_cons (pv 3) pa_nil)))) (pe_tup (pa_cons pe_str (pa_cons pe_bl pa_nil))) (nomark _))
  (pss_one (ps_ret pe_bl))
  pss_nil)
  (pss_cons (ps_if (pt_cmpR (op_neSame hu0) (pe_met T (by rfl) TB cd hmT hu2 (k := 3) (hr.mono (by decide)) (show LamS (defScope s_law) _ from LamX.lamS_by (by decide +kernel)) (by rfl) (fun _ _ _ _ _ => by rfl) (fun A outer s H E f c hr2 => pcx T.class_of (ok_class_of T) (hr2.mono (by decide)) (takes_of rfl rfl rfl rfl) (pa_cons pe_int (pa_cons pe_non (pa_cons (pv 3) pa_nil))))) (pe_tup (pa_cons pe_str (pa_cons pe_bl pa_nil))) (nomark _))
  (pss_one (ps_ret pe_bl))
  pss_nil)
  (pss_cons (ps_set (i := 15) sc_law.nd rfl (Or.inl rfl) (pc T.law_pick (ok_law_pick T) (hr.mono (by decide)) (pa_cons (pv 1) (pa_cons (pe_lst (pa_cons pe_non (pa_cons pe_int (pa_cons pe_bl (pa_cons pe_str (pa_cons pe_str (pa_cons pe_str (pa_cons (pe_lst pa_nil) (pa_cons (pe_lst (pa_cons pe_str pa_nil)) (pa_cons (pe_disp (pps_cons pe_str pe_int pps_nil) (by rfl) (by rfl) (fun z => by cases z) (by decide)) (pa_cons (pe_tup (pa_cons pe_str pa_nil)) pa_nil))))))))))) pa_nil))))
  (pss_one (ps_ret (pc T.law_are_refused (ok_law_are_refused T TB2 n12 hcd2) (hr.mono (by decide)) (pa_cons (pv 15) (pa_cons (pc T.law_pick (ok_law_pick T) (hr.mono (by decide)) (pa_cons (pv 1) (pa_cons (pe_lst (pa_cons pe_non (pa_cons pe_int (pa_cons pe_str (pa_cons pe_str (pa_cons (pe_lst pa_nil) (pa_cons (pe_disp (pps_cons pe_str pe_int pps_nil) (by rfl) (by rfl) (fun z => by cases z) (by decide)) (pa_cons (pe_tup (pa_cons pe_str pa_nil)) pa_nil)))))))) pa_nil))) pa_nil)))))))))), ?_⟩
    refine ⟨_, rfl, a, ns, rfl, hS, hlen, fun H1 p s1 hp => ?_⟩
    have tb1 := tb.ext s1
    refine ⟨6, rfl, by decide, by decide, for_it walk_range (fun i σ G => ∃ v2 v3 v4 v5 v6 v7 v8 v9 v10 v11 v12 v13 v14 v15 : Option V, σ = [some (.ref a), some (.ref p), v2, v3, v4, v5, v6, v7, v8, v9, v10, v11, v12, v13, v14, v15] ∧ (i ≠ 0 → ∃ z, v3 = some (.int z)) ∧ Pen G p (4 * i) ∧ Tabs (tabsL P1 P2) G)
      ⟨none, none, none, none, none, none, none, none, none, none, none, none, none, none, rfl, fun z => absurd rfl z, hp.mono (by decide), tb1⟩ (fun _ _ _ _ _ => trivial) ?_ ?_⟩
    · rintro i x σ G G' hi ⟨v2, v3, v4, v5, v6, v7, v8, v9, v10, v11, v12, v13, v14, v15, rfl, _, hp, tb⟩ ⟨rfl, rfl⟩
      have hi6 : (i : Int) < 6 := by exact_mod_cast hi
      -- a
      refine ⟨_, rfl, _, rfl, _, _, rfl, rfl, ⟨by decide, by decide, by decide⟩, _, _, rfl, rfl, ⟨by decide, by decide, by decide⟩, _, rfl, (by show 5 ≤ sizeLine; decide), fun l hl => ⟨p, l, _, _, rfl, hp.new hl, by omega, upd_same, (by show 0 < 5; decide), (by show 5 < 1000000; decide), fun G1 y s1 hp1 hy => ?_⟩⟩
      obtain ⟨za, rfl⟩ := int_of rfl hy
      have tb1 := tabs_sb tb hp ((Sb.new hl).trans s1)
      clear hy s1 hl hp tb
      -- b
      refine ⟨_, rfl, _, rfl, _, rfl, _, _, rfl, rfl, ⟨by decide, by decide, by decide⟩, _, rfl, (by show 6 ≤ sizeLine; decide), fun l hl => ⟨p, l, _, _, rfl, hp1.new hl, by omega, upd_same, (by show 0 < 6; decide), (by show 6 < 1000000; decide), fun G2 y s1 hp2 hy => ?_⟩⟩
      obtain ⟨zd, rfl⟩ := int_of rfl hy
      have tb2 := tabs_sb tb1 hp1 ((Sb.new hl).trans s1)
      clear hy s1 hl hp1 tb1
      refine ⟨_, _, rfl, rfl, ?_⟩
      -- keys
      refine ⟨_, rfl, (by show 2 ≤ sizeLine; decide), fun t1 h1 => ⟨_, rfl, (by show 2 ≤ sizeLine; decide), fun t2 h2 => ⟨_, rfl, _, rfl, (by show 2 ≤ sizeLine; decide), fun t3 h3 => ⟨_, rfl, _, rfl, (by show 2 ≤ sizeLine; decide), fun t4 h4 => ⟨(by show 4 ≤ sizeLine; decide), fun l hl => ?_⟩⟩⟩⟩⟩
      have m1 := same_new (o := .tup [.non, .non]) h1
      have m2 := same_new (o := .tup [.int za, .non]) h2
      have m3 := same_new (o := .tup [.int za, .int (za + zd)]) h3
      have m4 := same_new (o := .tup [.int za, .int (za + zd)]) h4
      have m5 := same_new (o := .lst [.ref t1, .ref t2, .ref t3, .ref t4]) hl
      have e1 := m5 _ _ (m4 _ _ (m3 _ _ (m2 _ _ (upd_same (H := G2) (a := t1) (o := .tup [.non, .non])))))
      have e2 := m5 _ _ (m4 _ _ (m3 _ _ (upd_same (H := upd G2 t1 (.tup [.non, .non])) (a := t2) (o := .tup [.int za, .non]))))
      have e3 := m5 _ _ (m4 _ _ (upd_same (H := upd (upd G2 t1 (.tup [.non, .non])) t2 (.tup [.int za, .non])) (a := t3) (o := .tup [.int za, .int (za + zd)])))
      have e4 := m5 _ _ (upd_same (H := upd (upd (upd G2 t1 (.tup [.non, .non])) t2 (.tup [.int za, .non])) t3 (.tup [.int za, .int (za + zd)])) (a := t4) (o := .tup [.int za, .int (za + zd)]))
      have e5 := upd_same (H := upd (upd (upd (upd G2 t1 (.tup [.non, .non])) t2 (.tup [.int za, .non])) t3 (.tup [.int za, .int (za + zd)])) t4 (.tup [.int za, .int (za + zd)])) (a := l) (o := .lst [.ref t1, .ref t2, .ref t3, .ref t4])
      have sm := m1.trans (m2.trans (m3.trans (m4.trans m5)))
      have hpM := hp2.keep sm
      have tbM := tb2.ext sm
      clear m1 m2 m3 m4 m5 h1 h2 h3 h4 hl hp2 tb2
      generalize upd (upd (upd (upd (upd G2 t1 (.tup [.non, .non])) t2 (.tup [.int za, .non])) t3 (.tup [.int za, .int (za + zd)])) t4 (.tup [.int za, .int (za + zd)])) l (.lst [.ref t1, .ref t2, .ref t3, .ref t4]) = M at *
      refine ⟨p, l, _, _, rfl, hpM, by omega, e5, (by show 0 < 4; decide), (by show 4 < 1000000; decide), fun G3 y s1 hp3 hy => ?_⟩
      obtain ⟨t, va, vb, ks, rfl, ht, two⟩ : ∃ t va vb ks, y = .ref t ∧ G3 t = some (.tup [va, vb]) ∧ Two va vb ks := by
        have g : ∀ {b : Addr} {xs : List V}, M b = some (.tup xs) → G3 b = some (.tup xs) := fun h => hpM.tup s1 h
        rcases List.mem_cons.mp hy with rfl | hy
        · exact ⟨t1, _, _, _, rfl, g e1, .none⟩
        rcases List.mem_cons.mp hy with rfl | hy
        · exact ⟨t2, _, _, _, rfl, g e2, .one _⟩
        rcases List.mem_cons.mp hy with rfl | hy
        · exact ⟨t3, _, _, _, rfl, g e3, .two _ _⟩
        · exact ⟨t4, _, _, _, List.mem_singleton.mp hy, g e4, .two _ _⟩
      have tb3 := tabs_sb tbM hpM s1
      clear hy s1 e1 e2 e3 e4 e5 hpM tbM sm
      -- there
      refine ⟨_, rfl, t, rfl, ⟨_, SqT.of ht⟩, fun D hD => ?_⟩
      refine lc_tup (K := K) (a := t) (xs := [va, vb]) (fun i0 H3 => H3 = upd G3 D (.lst (keptV ([va, vb].take i0)))) rfl (fun i0 H3 _ e => SqT.of (by rw [e]; exact same_new hD _ _ ht)) ?_ ?_
      · rintro i0 y H3 hi rfl
        refine ⟨rfl, _, rfl, rfl, _, rfl, ?_⟩
        by_cases e : y = .non
        · subst e
          refine iteF ?_
          rw [kept_take hi, if_pos rfl, List.append_nil]
        · have e' : (!decide (y = .non)) = true := by simp [e]
          rw [e']
          refine iteT ⟨_, rfl, _, upd_same, ?_, ?_⟩
          · rw [sizeLine_eq]
            have := kept_len [va, vb] i0
            simp only [List.length_cons, List.length_nil] at this
            omega
          · rw [upd_upd, kept_take hi, if_neg e]
      rintro H3 rfl
      have e2 : keptV ([va, vb].take [va, vb].length) = ks.map V.int := by rw [List.take_length]; exact two.kept
      rw [e2]
      have hp4 := hp3.new (o := .lst (ks.map V.int)) hD
      have tb4 := tb3.ext (same_new (o := .lst (ks.map V.int)) hD)
      have ht4 := same_new (o := .lst (ks.map V.int)) hD _ _ ht
      have hD4 := upd_same (H := G3) (a := D) (o := .lst (ks.map V.int))
      clear e2 hp3 tb3 ht hD
      generalize upd G3 D (.lst (ks.map V.int)) = G4 at *
      -- order_of
      refine ⟨_, rfl, t, _, 0, va, rfl, rfl, SqT.of ht4, rfl, _, rfl, t, _, 1, vb, rfl, rfl, SqT.of ht4, rfl, ?_⟩
      refine ⟨va, vb, ks, rfl, two, ?_⟩
      have hx := ord_mem two
      have hcl := ord_cls two
      have hmi := ord_mir two
      have hkey := ord_key two
      have twoN := two.neg
      -- order, classes
      refine ⟨_, rfl, _, rfl, t, _, 0, va, rfl, rfl, SqT.of ht4, rfl, _, rfl, t, _, 1, vb, rfl, rfl, SqT.of ht4, rfl, ?_⟩
      refine ⟨va, vb, ks, rfl, two, rfl, _, rfl, iteF' (by simp) ?_⟩
      refine ⟨_, rfl, .str (ordT va vb), rfl, .str _, fun x hx' e G5 s5 => ?_, fun z => absurd ⟨_, hx, rfl⟩ z⟩
      obtain rfl : ordT va vb = x := V.str.inj e
      clear e hx'
      refine ⟨_, rfl, D, ks, rfl, SqL.of (s5 _ _ hD4), Nat.le_trans two.few (by decide), fun q hq => ⟨q, _, _, rfl, upd_same, Nat.le_trans (many_le ks) (Nat.le_trans two.few (by decide)), _, _, rfl, rfl, .inl ⟨by decide, by decide⟩, _, _, rfl, rfl, rfl, _, rfl, iteF' (by simp [hcl]) ?_⟩⟩
      have s6 := s5.trans (same_new (o := SetO w q (fun j0 => decide (j0 ∈ ks)) (many ks)) hq)
      have hp6 := hp4.keep s6
      have tb6 := tb4.ext s6
      have ht6 := s6 _ _ ht4
      have hD6 := s6 _ _ hD4
      clear s5 hp4 tb4 ht4 hD4
      -- turned
      refine ⟨_, rfl, t, rfl, ⟨_, SqT.of ht6⟩, fun D2 hD2 => ?_⟩
      refine lc_tup (K := K) (a := t) (xs := [va, vb]) (fun i0 H3 => H3 = upd (upd G5 q (SetO w q (fun j0 => decide (j0 ∈ ks)) (many ks))) D2 (.lst (([va, vb].take i0).map negV))) rfl (fun i0 H3 _ e => SqT.of (by rw [e]; exact same_new hD2 _ _ ht6)) ?_ ?_
      · rintro i0 y H3 hi rfl
        have ln := negs_len [va, vb] i0
        have ln2 : (([va, vb].take i0).map negV).length < sizeLine := by
          rw [sizeLine_eq]
          simp only [List.length_cons, List.length_nil] at ln
          omega
        refine ⟨rfl, _, rfl, rfl, _, rfl, ?_⟩
        rcases two.mem (List.mem_of_getElem? hi) with rfl | ⟨z, rfl⟩
        · exact iteT ⟨_, upd_same, ln2, by rw [upd_upd, negs_take hi]; rfl⟩
        · exact iteF ⟨_, rfl, _, rfl, _, upd_same, ln2, by rw [upd_upd, negs_take hi]; rfl⟩
      rintro H3 rfl
      have s7 := same_new (o := .lst [negV va, negV vb]) hD2
      have hp7 := hp6.keep s7
      have tb7 := tb6.ext s7
      have ht7 := s7 _ _ ht6
      have hD7 := s7 _ _ hD6
      have hE7 := upd_same (H := upd G5 q (SetO w q (fun j0 => decide (j0 ∈ ks)) (many ks))) (a := D2) (o := .lst [negV va, negV vb])
      clear hp6 tb6 ht6 hD6 s7
      -- mirrored
      refine ⟨_, rfl, .str (ordT va vb), rfl, .str _, fun x hx' e G7 s7 => ?_, fun z => absurd ⟨_, hx, rfl⟩ z⟩
      obtain rfl : ordT va vb = x := V.str.inj e
      clear e hx'
      have hp7 := hp7.keep s7
      have tb7 := tb7.ext s7
      have ht7 := s7 _ _ ht7
      have hD7 := s7 _ _ hD7
      have hE7 := s7 _ _ hE7
      clear s7
      refine ⟨_, rfl, _, rfl, D2, _, 0, negV va, rfl, rfl, SqL.of hE7, rfl, _, rfl, D2, _, 1, negV vb, rfl, rfl, SqL.of hE7, rfl, ?_⟩
      refine ⟨negV va, negV vb, _, rfl, twoN, rfl, _, rfl, iteF' (by simp [hmi]) ?_⟩
      refine ⟨_, rfl, .str (mirS (ordT va vb)), rfl, .str _, fun x hx' e G8 s8 => ?_, fun z => absurd ⟨_, mir_mem _ hx, rfl⟩ z⟩
      obtain rfl : mirS (ordT va vb) = x := V.str.inj e
      clear e hx'
      refine ⟨_, rfl, rfl, _, rfl, iteF' (by simp [mir_mir _ hx]) ?_⟩
      -- top
      refine ⟨_, rfl, .str (ordT va vb), rfl, .str _, fun x hx' e G9 s9 => ?_, fun z => absurd ⟨_, hx, rfl⟩ z⟩
      obtain rfl : ordT va vb = x := V.str.inj e
      clear e hx'
      have s10 := s8.trans s9
      have hp9 := hp7.keep s10
      have tb9 := tb7.ext s10
      have ht9 := s10 _ _ ht7
      have hD9 := s10 _ _ hD7
      have hE9 := s10 _ _ hE7
      clear s8 s9 s10 hp7 tb7 ht7 hD7 hE7
      refine ⟨_, _, rfl, rfl, ?_⟩
      -- the numbers
      refine ⟨_, rfl, _, rfl, p, D, _, ks, rfl, hp9, by omega, hD9, two.few, fun G10 L ns10 s10 hp10 hL hn => ?_⟩
      have ht10 := hp9.tup s10 ht9
      have hD10 := hp9.lst s10 hD9
      have hE10 := hp9.lst s10 hE9
      have tb10 := tabs_sb tb9 hp9 s10
      clear ht9 hD9 hE9 tb9 hp9 s10
      have hB : Pen G10 p (4 * ((i + 1 : Nat) : Int)) := hp10.mono (by push_cast; omega)
      clear hp10
      refine ⟨L, rfl, ⟨_, SqL.of hL⟩, for_list (K := K) (a := L) (xs := ns10.map V.int) (fun j σ G => ∃ v2 v4 v7 v10 v12 v13 v14 v15 : Option V, σ = [some (.ref a), some (.ref p), v2, some (.int za), v4, some (.ref t), some (.ref D), v7, some (.str (ordT va vb)), some (.ref D2), v10, some (.int (nCls (ordT va vb) - 1)), v12, v13, v14, v15] ∧ Same G10 G)
        ⟨_, _, _, _, _, _, _, _, rfl, fun _ _ h => h⟩ (fun j σ G _ ⟨_, _, _, _, _, _, _, _, _, sg⟩ => SqL.of (sg _ _ hL)) ?_ ?_⟩
      · rintro j y σ G hj ⟨v2, v4, v7, v10, v12, v13, v14, v15, rfl, sg⟩
        rw [List.getElem?_map] at hj
        obtain ⟨n, hn2, rfl⟩ := Option.map_eq_some_iff.mp hj
        refine ⟨_, rfl, _, rfl, n, D, ks, rfl, SqL.of (sg _ _ hD10), Nat.le_trans two.few (by decide), fun G11 s11 => ?_⟩
        have sg := sg.trans s11
        refine ⟨_, rfl, _, rfl, t, _, 0, va, rfl, rfl, SqT.of (sg _ _ ht10), rfl, _, rfl, t, _, 1, vb, rfl, rfl, SqT.of (sg _ _ ht10), rfl, n, va, vb, ks, rfl, two, fun G12 s12 => ⟨_, rfl, rfl, _, rfl, iteF' (by simp) ?_⟩⟩
        have sg := sg.trans s12
        refine ⟨_, rfl, _, rfl, _, rfl, D2, _, 0, negV va, rfl, rfl, SqL.of (sg _ _ hE10), rfl, _, rfl, D2, _, 1, negV vb, rfl, rfl, SqL.of (sg _ _ hE10), rfl, -n, _, _, _, rfl, twoN, fun G13 s13 => ⟨_, rfl, _, rfl, _, _, rfl, rfl, rfl, _, rfl, ?_⟩⟩
        have heq : cls (-n) (neg ks) = nCls (ordT va vb) - 1 - cls n ks := by
          rw [cls_neg, hcl]
          omega
        exact iteF' (by simp [heq]) ⟨_, _, _, _, _, _, _, _, rfl, sg.trans s13⟩
      rintro σ G ⟨v2, v4, v7, v10, v12, v13, v14, v15, rfl, sg⟩
      have ht11 := sg _ _ ht10
      have hD11 := sg _ _ hD10
      have tb11 := tb10.ext sg
      have hp11 := hB.keep sg
      clear ht10 hD10 hE10 tb10 hB sg hL hn
      -- zip
      refine ⟨(by show 2 ≤ sizeLine; decide), fun zl hzl => ⟨_, rfl, zl, t, _, _, rfl, SqL.of upd_same, SqT.of (same_new hzl _ _ ht11), ?_⟩⟩
      have sz := same_new (o := .lst [.str "a", .str "b"]) hzl
      refine RZ.for_zipLT (K := K) (a := zl) (b := t) (xs := [.str "a", .str "b"]) (ys := [va, vb]) rfl (fun j σ G => ∃ v2 v4 v7 v9 v10 v11 v12 v13 v14 v15 : Option V, σ = [some (.ref a), some (.ref p), v2, some (.int za), v4, some (.ref t), some (.ref D), v7, some (.str (ordT va vb)), v9, v10, v11, v12, v13, v14, v15] ∧ G zl = some (.lst [.str "a", .str "b"]) ∧ G t = some (.tup [va, vb]) ∧ G D = some (.lst (ks.map V.int)) ∧ Tabs (tabsL P1 P2) G ∧ Pen G p (4 * ((i + 1 : Nat) : Int)))
        ⟨_, _, _, _, _, _, _, _, _, _, rfl, upd_same, sz _ _ ht11, sz _ _ hD11, tb11.ext sz, hp11.keep sz⟩ (fun j σ G ⟨_, _, _, _, _, _, _, _, _, _, _, h1, h2, _⟩ => ⟨SqL.of h1, SqT.of h2⟩) ?_ ?_
      · rintro j x y U σ G hjx hjy ⟨v2, v4, v7, v9, v10, v11, v12, v13, v14, v15, rfl, h1, h2, h3, tb, hpn⟩ hU
        obtain ⟨nm, rfl, hc⟩ := pair_at two hjx hjy
        have sU := same_new (o := .tup [.str nm, y]) hU
        have h1 := sU _ _ h1
        have h2 := sU _ _ h2
        have h3 := sU _ _ h3
        have tb := tb.ext sU
        have hpn := hpn.keep sU
        refine ⟨U, _, rfl, SqT.of upd_same, rfl, _, _, rfl, _, _, rfl, rfl, _, rfl, rfl, _, rfl, ?_⟩
        rcases hc with ⟨rfl, hno⟩ | ⟨z, rfl, hkc⟩
        · refine iteT ⟨tb, fun G1 eN tc => ⟨_, rfl, _, rfl, .str (ordT va vb), .str nm, rfl, .str _, .str _, fun x2 hx2 e y n ey hn => absurd (kc_mem hn) (by rw [← V.str.inj e, ← V.str.inj ey]; exact hno), fun x2 hx2 e _ G2 d s2 hd => .inr (.inr ⟨d, _, rfl, rfl, hd, fun p1 hp1 => ⟨_, rfl, (by show 2 ≤ sizeLine; decide), fun q hq => ⟨p1, q, _, rfl, rfl, SqT.of (same_new hq _ _ upd_same), SqT.of upd_same, two_self rfl, _, rfl, iteF ?_⟩⟩⟩), fun z => absurd ⟨_, hx, rfl⟩ z⟩⟩
          have sm := s2.trans ((same_new (o := .tup [.str "key", .str nm]) hp1).trans (same_new (o := .tup [.str "key", .str nm]) hq))
          exact ⟨_, _, _, _, _, _, _, _, _, _, rfl, sm _ _ (eN _ _ h1 fun _ z => nomatch z), sm _ _ (eN _ _ h2 fun _ z => nomatch z), sm _ _ (eN _ _ h3 fun _ z => nomatch z), tc.ext sm, (hpn.ext eN).keep sm⟩
        · refine iteF ⟨_, rfl, _, rfl, .str (ordT va vb), .str nm, rfl, .str _, .str _, fun x2 hx2 e y n ey hn G2 s2 => ?_, fun x2 hx2 e hno => absurd ⟨nm, by rw [← V.str.inj e]; exact kc_mem hkc, rfl⟩ hno, fun z => absurd ⟨_, hx, rfl⟩ z⟩
          obtain rfl : n = cls z ks := by
            rw [← V.str.inj e, ← V.str.inj ey, hkc] at hn
            exact (Option.some.inj hn).symm
          refine ⟨_, rfl, _, rfl, z, D, ks, rfl, SqL.of (s2 _ _ h3), Nat.le_trans two.few (by decide), fun G3 s3 => ⟨rfl, _, rfl, iteF' (by simp) ?_⟩⟩
          have sm := s2.trans s3
          exact ⟨_, _, _, _, _, _, _, _, _, _, rfl, sm _ _ h1, sm _ _ h2, sm _ _ h3, tb.ext sm, hpn.keep sm⟩
      · rintro σ G ⟨v2, v4, v7, v9, v10, v11, v12, v13, v14, v15, rfl, h1, h2, h3, tb, hpn⟩
        exact ⟨_, _, _, _, _, _, _, _, _, _, _, _, _, _, rfl, fun _ => ⟨za, rfl⟩, hpn, tb⟩
    · rintro σ G ⟨v2, v3, v4, v5, v6, v7, v8, v9, v10, v11, v12, v13, v14, v15, rfl, h3, hp, tb⟩
      obtain ⟨za, rfl⟩ := h3 (by decide)
      clear h3
      refine ⟨tb, fun G1 eN tc => ⟨_, rfl, .non, .int za, rfl, .inr (.inr (.inr ⟨za, rfl, rfl, .inl ⟨rfl, rfl, fun p1 hp1 => ⟨(by show 2 ≤ sizeLine; decide), fun q hq => ⟨p1, q, _, rfl, rfl, SqT.of (same_new hq _ _ upd_same), SqT.of upd_same, two_self rfl, _, rfl, iteF ?_⟩⟩⟩⟩))⟩⟩
      have sm := (same_new (o := .tup [.str "keys", .bl true]) hp1).trans (same_new (o := .tup [.str "keys", .bl true]) hq)
      have hp2 := (hp.ext eN).keep sm
      have tb2 := tc.ext sm
      clear sm hp tb tc eN
      refine ⟨tb2, fun G1 eN tc => ⟨_, rfl, 3, .non, .int za, rfl, .inr ⟨za, rfl, rfl, .inl ⟨rfl, rfl, fun p1 hp1 => ⟨(by show 2 ≤ sizeLine; decide), fun q hq => ⟨p1, q, _, rfl, rfl, SqT.of (same_new hq _ _ upd_same), SqT.of upd_same, two_self rfl, _, rfl, iteF ?_⟩⟩⟩⟩⟩⟩
      have sm := (same_new (o := .tup [.str "keys", .bl true]) hp1).trans (same_new (o := .tup [.str "keys", .bl true]) hq)
      have hp3 := (hp2.ext eN).keep sm
      have tb3 := tc.ext sm
      clear sm hp2 tb2 tc eN
      generalize upd (upd G1 p1 (.tup [.str "keys", .bl true])) q (.tup [.str "keys", .bl true]) = G3 at *
      refine ⟨_, rfl, ⟨(by show 0 ≤ sizeLine; decide), fun o1 h1 => ⟨(by show 1 ≤ sizeLine; decide), fun o2 h2 => fun o3 h3 => ⟨upd_same, [(Sum.inr "a", .int 1)], rfl, (by show 1 ≤ 15; decide), ⟨(by show 1 ≤ sizeLine; decide), fun o4 h4 => ⟨(by show 10 ≤ sizeLine; decide), fun l hl => ?_⟩⟩⟩⟩⟩⟩
      have m1 := same_new (o := .lst []) h1
      have e1 : (upd G3 o1 (.lst [])) o1 = some (.lst []) := upd_same
      have m2 := same_new (o := .lst [.str "a"]) h2
      have e2 : (upd (upd G3 o1 (.lst [])) o2 (.lst [.str "a"])) o2 = some (.lst [.str "a"]) := upd_same
      have m3 := same_new2 (o := .dK []) (o' := .dK (mergeK [] [(Sum.inr "a", .int 1)])) h3
      have e3 : (upd (upd (upd (upd G3 o1 (.lst [])) o2 (.lst [.str "a"])) o3 (.dK [])) o3 (.dK (mergeK [] [(Sum.inr "a", .int 1)]))) o3 = some (.dK (mergeK [] [(Sum.inr "a", .int 1)])) := upd_same
      have m4 := same_new (o := .tup [.str "a"]) h4
      have e4 : (upd (upd (upd (upd (upd G3 o1 (.lst [])) o2 (.lst [.str "a"])) o3 (.dK [])) o3 (.dK (mergeK [] [(Sum.inr "a", .int 1)]))) o4 (.tup [.str "a"])) o4 = some (.tup [.str "a"]) := upd_same
      have mL := same_new (o := .lst [.non, .int 0, .bl true, .str "b", .str "a>b", .str "a < b", .ref o1, .ref o2, .ref o3, .ref o4]) hl
      have e1 := mL _ _ (m4 _ _ (m3 _ _ (m2 _ _ e1)))
      have e2 := mL _ _ (m4 _ _ (m3 _ _ e2))
      have e3 := mL _ _ (m4 _ _ e3)
      have e4 := mL _ _ e4
      have eL : (upd (upd (upd (upd (upd (upd G3 o1 (.lst [])) o2 (.lst [.str "a"])) o3 (.dK [])) o3 (.dK (mergeK [] [(Sum.inr "a", .int 1)]))) o4 (.tup [.str "a"])) l (.lst [.non, .int 0, .bl true, .str "b", .str "a>b", .str "a < b", .ref o1, .ref o2, .ref o3, .ref o4])) l = some (.lst [.non, .int 0, .bl true, .str "b", .str "a>b", .str "a < b", .ref o1, .ref o2, .ref o3, .ref o4]) := upd_same
      have sm := (m1.trans (m2.trans (m3.trans (m4.trans mL))))
      have nd := ((hp3.keep m1).keep m2).nn h3
      have hpM := hp3.keep sm
      have tbM := tb3.ext sm
      clear m1 h1 m2 h2 m3 h3 m4 h4 mL hl hp3 tb3 sm
      generalize upd (upd (upd (upd (upd (upd G3 o1 (.lst [])) o2 (.lst [.str "a"])) o3 (.dK [])) o3 (.dK (mergeK [] [(Sum.inr "a", .int 1)]))) o4 (.tup [.str "a"])) l (.lst [.non, .int 0, .bl true, .str "b", .str "a>b", .str "a < b", .ref o1, .ref o2, .ref o3, .ref o4]) = M at *
      refine ⟨p, l, _, _, rfl, hpM, by decide, eL, (by show 0 < 10; decide), (by show 10 < 1000000; decide), fun G4 y s4 hp4 hy => ?_⟩
      obtain ⟨om, na⟩ : OddM M p y ∧ ∀ x ∈ ords, y ≠ .str x := by
        rcases List.mem_cons.mp hy with rfl | hy
        · exact ⟨.val rfl, fun x _ z => nomatch z⟩
        rcases List.mem_cons.mp hy with rfl | hy
        · exact ⟨.val rfl, fun x _ z => nomatch z⟩
        rcases List.mem_cons.mp hy with rfl | hy
        · exact ⟨.val rfl, fun x _ z => nomatch z⟩
        rcases List.mem_cons.mp hy with rfl | hy
        · exact ⟨.val rfl, fun x hx z => by cases z; revert hx; decide +kernel⟩
        rcases List.mem_cons.mp hy with rfl | hy
        · exact ⟨.val rfl, fun x hx z => by cases z; revert hx; decide +kernel⟩
        rcases List.mem_cons.mp hy with rfl | hy
        · exact ⟨.val rfl, fun x hx z => by cases z; revert hx; decide +kernel⟩
        rcases List.mem_cons.mp hy with rfl | hy
        · exact ⟨.lst e1, fun x _ z => nomatch z⟩
        rcases List.mem_cons.mp hy with rfl | hy
        · exact ⟨.lst e2, fun x _ z => nomatch z⟩
        rcases List.mem_cons.mp hy with rfl | hy
        · exact ⟨.dK e3 nd, fun x _ z => nomatch z⟩
        obtain rfl := List.mem_singleton.mp hy
        exact ⟨.tup e4, fun x _ z => nomatch z⟩
      obtain ⟨hoa, nap⟩ := om.odd hpM s4
      have tb4 := tabs_sb tbM hpM s4
      clear om hy e1 e2 e3 e4 eL nd hpM tbM s4
      refine ⟨_, rfl, _, rfl, ⟨(by show 0 ≤ sizeLine; decide), fun o1 h1 => fun o2 h2 => ⟨upd_same, [(Sum.inr "a", .int 1)], rfl, (by show 1 ≤ 15; decide), ⟨(by show 1 ≤ sizeLine; decide), fun o3 h3 => ⟨(by show 7 ≤ sizeLine; decide), fun l hl => ?_⟩⟩⟩⟩⟩
      have m1 := same_new (o := .lst []) h1
      have e1 : (upd G4 o1 (.lst [])) o1 = some (.lst []) := upd_same
      have m2 := same_new2 (o := .dK []) (o' := .dK (mergeK [] [(Sum.inr "a", .int 1)])) h2
      have e2 : (upd (upd (upd G4 o1 (.lst [])) o2 (.dK [])) o2 (.dK (mergeK [] [(Sum.inr "a", .int 1)]))) o2 = some (.dK (mergeK [] [(Sum.inr "a", .int 1)])) := upd_same
      have m3 := same_new (o := .tup [.str "a"]) h3
      have e3 : (upd (upd (upd (upd G4 o1 (.lst [])) o2 (.dK [])) o2 (.dK (mergeK [] [(Sum.inr "a", .int 1)]))) o3 (.tup [.str "a"])) o3 = some (.tup [.str "a"]) := upd_same
      have mL := same_new (o := .lst [.non, .int 0, .str "c", .str "", .ref o1, .ref o2, .ref o3]) hl
      have e1 := mL _ _ (m3 _ _ (m2 _ _ e1))
      have e2 := mL _ _ (m3 _ _ e2)
      have e3 := mL _ _ e3
      have eL : (upd (upd (upd (upd (upd G4 o1 (.lst [])) o2 (.dK [])) o2 (.dK (mergeK [] [(Sum.inr "a", .int 1)]))) o3 (.tup [.str "a"])) l (.lst [.non, .int 0, .str "c", .str "", .ref o1, .ref o2, .ref o3])) l = some (.lst [.non, .int 0, .str "c", .str "", .ref o1, .ref o2, .ref o3]) := upd_same
      have sm := (m1.trans (m2.trans (m3.trans mL)))
      have nd := (hp4.keep m1).nn h2
      have hpM := hp4.keep sm
      have tbM := tb4.ext sm
      replace hoa := hoa.same sm
      clear m1 h1 m2 h2 m3 h3 mL hl hp4 tb4 sm
      generalize upd (upd (upd (upd (upd G4 o1 (.lst [])) o2 (.dK [])) o2 (.dK (mergeK [] [(Sum.inr "a", .int 1)]))) o3 (.tup [.str "a"])) l (.lst [.non, .int 0, .str "c", .str "", .ref o1, .ref o2, .ref o3]) = M at *
      refine ⟨p, l, _, _, rfl, hpM, by decide, eL, (by show 0 < 7; decide), (by show 7 < 1000000; decide), fun G5 y2 s5 hp5 hy => ?_⟩
      obtain ⟨om, nb⟩ : OddM M p y2 ∧ ∀ x ∈ ords, ∀ nm ∈ (pairsOf x).map (·.1), y2 ≠ .str nm := by
        rcases List.mem_cons.mp hy with rfl | hy
        · exact ⟨.val rfl, fun x _ y _ z => nomatch z⟩
        rcases List.mem_cons.mp hy with rfl | hy
        · exact ⟨.val rfl, fun x _ y _ z => nomatch z⟩
        rcases List.mem_cons.mp hy with rfl | hy
        · exact ⟨.val rfl, fun x hx y hy z => by cases z; revert hy; revert hx; revert x; decide +kernel⟩
        rcases List.mem_cons.mp hy with rfl | hy
        · exact ⟨.val rfl, fun x hx y hy z => by cases z; revert hy; revert hx; revert x; decide +kernel⟩
        rcases List.mem_cons.mp hy with rfl | hy
        · exact ⟨.lst e1, fun x _ y _ z => nomatch z⟩
        rcases List.mem_cons.mp hy with rfl | hy
        · exact ⟨.dK e2 nd, fun x _ y _ z => nomatch z⟩
        obtain rfl := List.mem_singleton.mp hy
        exact ⟨.tup e3, fun x _ y _ z => nomatch z⟩
      exact ⟨_, _, rfl, hoa.sb hpM nap s5, (om.odd hpM s5).1, fun ⟨x, hx, e⟩ => na x hx e, fun x hx ⟨nm, hnm, e⟩ => nb x hx nm hnm e, tabs_sb tbM hpM s5, k⟩
end
end My
namespace My
open PySem PySem.Spec PyProof.Rows L2
open He
def dd (x : Str) (st : Stmt) : DefD := ⟨(x, none), x, x, defArgs st, defBody st, defScope st, [], []⟩
def fnL : List DefD := [dd "is_text" s_is_text, dd "need_order" s_need_order, dd "order_of" s_order_of, dd "class_of" s_class_of, dd "classes" s_classes, dd "key_class" s_key_class, dd "mirrored_order" s_mirrored_order, dd "_law_pen_of" s_law_pen_of, dd "_law_draw" s_law_draw, dd "_law_pick" s_law_pick, dd "_law_numbers_by" s_law_numbers_by, dd "_law_orders" s_law_orders, dd "_law_class" s_law_class, dd "_law_order" s_law_order, dd "_law_met" s_law_met, dd "_law_are_refused" s_law_are_refused, dd "law" s_law]
def faL : List Fa := [.glo "is_text", .glo "need_order", .glo "order_of", .glo "class_of", .glo "classes", .glo "key_class", .glo "mirrored_order", .glo "_law_pen_of", .glo "_law_draw", .glo "_law_pick", .glo "_law_numbers_by", .glo "_law_orders", .glo "_law_class", .glo "_law_order", .glo "_law_met", .glo "_law_are_refused", .glo "law", .glo "OtherKeys", .glo "BadOrder", .glo "BadKey", .glo "KEYS", .glo "MIRRORS", .free "isinstance", .free "str", .free "list", .free "ValueError", .free "int", .free "len", .free "abs", .free "set", .free "sorted", .free "dict", .free "range", .free "zip", .free "super", .exm "OtherKeys" "OtherKeys" true, .exm "BadOrder" "OtherKeys" false, .exm "BadOrder" "BadOrder" true, .exm "BadKey" "OtherKeys" false, .exm "BadKey" "BadOrder" false, .exm "BadKey" "BadKey" true]
def tsL : List Tab := [(fun K => ga K "KEYS", ["", "a", "a<b", "a=b", "b<a"]), (fun K => ga K "MIRRORS", ["a<b", "b<a"])]
def tfL : List Defn := [("law", none), ("_law_are_refused", none)]
def iniL : List IniD := [⟨"OtherKeys", s_OtherKeys_init, []⟩, ⟨"BadOrder", s_BadOrder_init, ["order"]⟩, ⟨"BadKey", s_BadKey_init, ["key"]⟩]
abbrev RR : PySem.W.OpenRow := PySem.W.OpenLaw.row PySem.Challenge.rw_searchwalks_k21_orders_and_classes
def exL (K : PySem.W.Frag) : Bool := (errB RR.prog.main.file K (ga K "OtherKeys") [] && (errB RR.prog.main.file K (ga K "BadOrder") ["order"] && (errB RR.prog.main.file K (ga K "BadKey") ["key"] && (excB K (ga K "OtherKeys") && (decide (PySem.W.kitOne K (.ref (ga K "OtherKeys")) (.type "ValueError") = some true) && (kdB K (ga K "KEYS") (ordL (under K (ga K "KEYS") "") (under K (ga K "KEYS") "a") (under K (ga K "KEYS") "a<b") (under K (ga K "KEYS") "a=b") (under K (ga K "KEYS") "b<a")) && (kdB K (ga K "MIRRORS") mirL && (kpB K (under K (ga K "KEYS") "") [] && (kpB K (under K (ga K "KEYS") "a") [("a", 1)] && (kpB K (under K (ga K "KEYS") "a<b") [("a", 1), ("b", 3)] && (kpB K (under K (ga K "KEYS") "a=b") [("a", 1), ("b", 1)] && (kpB K (under K (ga K "KEYS") "b<a") [("b", 1), ("a", 3)] && decide (¬ (cT K ("law", none)).2 = (cT K ("_law_are_refused", none)).2)))))))))))))
abbrev hkL (n : Nat) : PySem.W.Hook := hookM n faL fnL tsL tfL exL iniL
def obL (n : Nat) (s : PySem.W.SharedT) : AlM := obsM n faL fnL tsL tfL exL iniL (HandSHeadRun.getT s)
theorem obL_eq (n : Nat) (s : PySem.W.SharedT) : obL n s = (hkL n).obs s.abs := obsM_eq (HandSHeadRun.getT_eq s)
def loL : List Str := ["is_text", "WalksError", "BadOrder", "OtherKeys", "BadKey", "KEYS", "MIRRORS", "need_order", "order_of", "class_of", "classes", "key_class", "mirrored_order", "_law_pen_of", "_law_draw", "_law_pick", "_law_numbers_by", "_law_orders", "_law_class", "_law_met", "_law_order", "_law_are_refused"]
theorem runL (w : World) : HandSHeadRun.RunEq RR (PySem.W.view RR.prog [26]) (hkL 6) (obL 6) 4000 loL w :=
  PySem.W.byRow2 "special-get-raises" (P := fun w => HandSHeadRun.RunEq RR (PySem.W.view RR.prog [26]) (hkL 6) (obL 6) 4000 loL w) (fun w os => by kernel_rfl) (fun w os => by kernel_rfl) w
end My
namespace My
open PySem PySem.Spec PyProof.Rows L2
open He
theorem at_mem {α : Type} {l : List α} {i : Nat} {x : α} (h : l[i]? = some x) : x ∈ l := List.mem_of_getElem? h
theorem es_OtherKeys : ErrS s_OtherKeys_init [] := ⟨.mk .nil rfl, ⟨_, rfl, rfl⟩, rfl, rfl, rfl, by decide +kernel, by decide +kernel, by decide +kernel, by decide +kernel, by decide +kernel, by decide⟩
theorem es_BadOrder : ErrS s_BadOrder_init ["order"] := ⟨.mk (.cons .nil) rfl, ⟨_, rfl, rfl⟩, rfl, rfl, rfl, by decide +kernel, by decide +kernel, by decide +kernel, by decide +kernel, by decide +kernel, by decide⟩
theorem es_BadKey : ErrS s_BadKey_init ["key"] := ⟨.mk (.cons .nil) rfl, ⟨_, rfl, rfl⟩, rfl, rfl, rfl, by decide +kernel, by decide +kernel, by decide +kernel, by decide +kernel, by decide +kernel, by decide⟩
theorem txt_of {w : World} {K : PySem.W.Frag} {h : Heap} {mg : Str → Option Value} (X : K.In h) (G : h.Ns mainGlobals mg) (c : SaysM faL fnL tsL tfL exL iniL w h K) : Txt RR.prog w K mg := by
  have cd := c.t.d
  have hx := c.more
  obtain ⟨x0, hx⟩ := ba hx
  obtain ⟨x1, hx⟩ := ba hx
  obtain ⟨x2, hx⟩ := ba hx
  obtain ⟨x3, hx⟩ := ba hx
  obtain ⟨x4, hx⟩ := ba hx
  obtain ⟨x5, hx⟩ := ba hx
  obtain ⟨x6, hx⟩ := ba hx
  obtain ⟨x7, hx⟩ := ba hx
  obtain ⟨x8, hx⟩ := ba hx
  obtain ⟨x9, hx⟩ := ba hx
  obtain ⟨x10, hx⟩ := ba hx
  obtain ⟨x11, hx⟩ := ba hx
  obtain ⟨g_OtherKeys, e_OtherKeys⟩ := fa_ga X G cd (x := "OtherKeys") (at_mem (i := 17) rfl)
  obtain ⟨g_BadOrder, e_BadOrder⟩ := fa_ga X G cd (x := "BadOrder") (at_mem (i := 18) rfl)
  obtain ⟨g_BadKey, e_BadKey⟩ := fa_ga X G cd (x := "BadKey") (at_mem (i := 19) rfl)
  obtain ⟨g_KEYS, e_KEYS⟩ := fa_ga X G cd (x := "KEYS") (at_mem (i := 20) rfl)
  obtain ⟨g_MIRRORS, e_MIRRORS⟩ := fa_ga X G cd (x := "MIRRORS") (at_mem (i := 21) rfl)
  have sup : mg "super" = none := free_ok X G (cd.facts (at_mem (i := 34) rfl))
  rw [← e_OtherKeys] at x0
  rw [← e_BadOrder] at x1
  rw [← e_BadKey] at x2
  rw [← e_OtherKeys] at x3 x4
  rw [← e_KEYS] at x5
  rw [← e_MIRRORS] at x6
  obtain ⟨es1, n1, D1⟩ := c.t.tab 0 (t := (fun K => ga K "KEYS", ["", "a", "a<b", "a=b", "b<a"])) rfl
  obtain ⟨es2, n2, D2⟩ := c.t.tab 1 (t := (fun K => ga K "MIRRORS", ["a<b", "b<a"])) rfl
  have D1 : KDict K w (ga K "KEYS") es1 n1 := D1
  have D2 : KDict K w (ga K "MIRRORS") es2 n2 := D2
  rw [← e_KEYS] at D1
  rw [← e_MIRRORS] at D2
  exact { n_isinstance := free_ok X G (cd.facts (at_mem (i := 22) rfl))
          n_str := free_ok X G (cd.facts (at_mem (i := 23) rfl))
          n_list := free_ok X G (cd.facts (at_mem (i := 24) rfl))
          n_ValueError := free_ok X G (cd.facts (at_mem (i := 25) rfl))
          n_int := free_ok X G (cd.facts (at_mem (i := 26) rfl))
          n_len := free_ok X G (cd.facts (at_mem (i := 27) rfl))
          n_abs := free_ok X G (cd.facts (at_mem (i := 28) rfl))
          n_set := free_ok X G (cd.facts (at_mem (i := 29) rfl))
          n_sorted := free_ok X G (cd.facts (at_mem (i := 30) rfl))
          n_dict := free_ok X G (cd.facts (at_mem (i := 31) rfl))
          n_range := free_ok X G (cd.facts (at_mem (i := 32) rfl))
          n_zip := free_ok X G (cd.facts (at_mem (i := 33) rfl))
          n_super := free_ok X G (cd.facts (at_mem (i := 34) rfl))
          is_text := df_of X G cd (at_mem (i := 0) rfl) (at_mem (i := 0) rfl) (fun _ _ _ _ _ _ us hl => match us, hl with | [_, _], _ => rfl)
          need_order := df_of X G cd (at_mem (i := 1) rfl) (at_mem (i := 1) rfl) (fun _ _ _ _ _ _ us hl => match us, hl with | [_], _ => rfl)
          order_of := df_of X G cd (at_mem (i := 2) rfl) (at_mem (i := 2) rfl) (fun _ _ _ _ _ _ us hl => match us, hl with | [_, _], _ => rfl)
          class_of := df_of X G cd (at_mem (i := 3) rfl) (at_mem (i := 3) rfl) (fun _ _ _ _ _ _ us hl => match us, hl with | [_, _, _], _ => rfl)
          classes := df_of X G cd (at_mem (i := 4) rfl) (at_mem (i := 4) rfl) (fun _ _ _ _ _ _ us hl => match us, hl with | [_], _ => rfl)
          key_class := df_of X G cd (at_mem (i := 5) rfl) (at_mem (i := 5) rfl) (fun _ _ _ _ _ _ us hl => match us, hl with | [_, _], _ => rfl)
          mirrored_order := df_of X G cd (at_mem (i := 6) rfl) (at_mem (i := 6) rfl) (fun _ _ _ _ _ _ us hl => match us, hl with | [_], _ => rfl)
          law_pen_of := df_of X G cd (at_mem (i := 7) rfl) (at_mem (i := 7) rfl) (fun _ _ _ _ _ _ us hl => match us, hl with | [_], _ => rfl)
          law_draw := df_of X G cd (at_mem (i := 8) rfl) (at_mem (i := 8) rfl) (fun _ _ _ _ _ _ us hl => match us, hl with | [_, _], _ => rfl)
          law_pick := df_of X G cd (at_mem (i := 9) rfl) (at_mem (i := 9) rfl) (fun _ _ _ _ _ _ us hl => match us, hl with | [_, _], _ => rfl)
          law_numbers_by := df_of X G cd (at_mem (i := 10) rfl) (at_mem (i := 10) rfl) (fun _ _ _ _ _ _ us hl => match us, hl with | [_, _], _ => rfl)
          law_orders := df_of X G cd (at_mem (i := 11) rfl) (at_mem (i := 11) rfl) (fun _ _ _ _ _ _ us hl => match us, hl with | [], _ => rfl)
          law_class := df_of X G cd (at_mem (i := 12) rfl) (at_mem (i := 12) rfl) (fun _ _ _ _ _ _ us hl => match us, hl with | [_, _], _ => rfl)
          law_order := df_of X G cd (at_mem (i := 13) rfl) (at_mem (i := 13) rfl) (fun _ _ _ _ _ _ us hl => match us, hl with | [_, _], _ => rfl)
          law_met := df_of X G cd (at_mem (i := 14) rfl) (at_mem (i := 14) rfl) (fun _ _ _ _ _ _ us hl => match us, hl with | [_], _ => rfl)
          law_are_refused := df_of X G cd (at_mem (i := 15) rfl) (at_mem (i := 15) rfl) (fun _ _ _ _ _ _ us hl => match us, hl with | [_, _], _ => rfl)
          law := df_of X G cd (at_mem (i := 16) rfl) (at_mem (i := 16) rfl) (fun _ _ _ _ _ _ us hl => match us, hl with | [_], _ => rfl)
          eO := err_ok (d := ⟨"OtherKeys", s_OtherKeys_init, []⟩) g_OtherKeys x0 (by have z := c.ini (d := ⟨"OtherKeys", s_OtherKeys_init, []⟩) (at_mem (i := 0) rfl); rw [e_OtherKeys]; exact z) es_OtherKeys sup (by decide +kernel) (fun _ _ _ _ _ _ _ _ us hl => match us, hl with | [_], _ => rfl)
          eB := err_ok (d := ⟨"BadOrder", s_BadOrder_init, ["order"]⟩) g_BadOrder x1 (by have z := c.ini (d := ⟨"BadOrder", s_BadOrder_init, ["order"]⟩) (at_mem (i := 1) rfl); rw [e_BadOrder]; exact z) es_BadOrder sup (by decide +kernel) (fun _ _ _ _ _ _ _ _ us hl => match us, hl with | [_, _], _ => rfl)
          eK := err_ok (d := ⟨"BadKey", s_BadKey_init, ["key"]⟩) g_BadKey x2 (by have z := c.ini (d := ⟨"BadKey", s_BadKey_init, ["key"]⟩) (at_mem (i := 2) rfl); rw [e_BadKey]; exact z) es_BadKey sup (by decide +kernel) (fun _ _ _ _ _ _ _ _ us hl => match us, hl with | [_, _], _ => rfl)
          xOO := by have z := exm_ok (cd.facts (at_mem (i := 35) rfl)); rw [← e_OtherKeys] at z; exact z
          xBO := by have z := exm_ok (cd.facts (at_mem (i := 36) rfl)); rw [← e_BadOrder, ← e_OtherKeys] at z; exact z
          xBB := by have z := exm_ok (cd.facts (at_mem (i := 37) rfl)); rw [← e_BadOrder] at z; exact z
          xKO := by have z := exm_ok (cd.facts (at_mem (i := 38) rfl)); rw [← e_BadKey, ← e_OtherKeys] at z; exact z
          xKB := by have z := exm_ok (cd.facts (at_mem (i := 39) rfl)); rw [← e_BadKey, ← e_BadOrder] at z; exact z
          xKK := by have z := exm_ok (cd.facts (at_mem (i := 40) rfl)); rw [← e_BadKey] at z; exact z
          cO := excB_ok x3
          vO := of_decide_eq_true x4
          c_KEYS := g_KEYS
          c_MIRRORS := g_MIRRORS
          keys := ⟨_, _, _, _, _, kdB_ok D1 (show ([Sum.inr "", Sum.inr "a", Sum.inr "a<b", Sum.inr "a=b", Sum.inr "b<a"] : List Key).Nodup by decide +kernel) (by rw [← e_KEYS] at *; exact x5), kpB_ok x7, kpB_ok x8, kpB_ok x9, kpB_ok x10, kpB_ok x11⟩
          mirs := kdB_ok D2 (by decide) x6 }
theorem law_at {w : World} {mg : Str → Option Value} {f : Addr} {h : Heap} (Y : (hkL 6).says w h) (G : h.Ns mainGlobals mg) (hmg : mg ("law" : Str) = some (.ref f)) : ∃ K : PySem.W.Frag, K.In h ∧ LamX.LawAtS PySem.Challenge.rw_searchwalks_k21_orders_and_classes w K CX0 7 63 "_law_script" mg f h := by
  obtain ⟨K, X, c⟩ := Y
  have T := txt_of X G c
  have cd := c.t.d
  obtain ⟨g1, e1⟩ := fa_ga X G cd (x := "law") (at_mem (i := 16) rfl)
  obtain ⟨g2, e2⟩ := fa_ga X G cd (x := "_law_are_refused") (at_mem (i := 15) rfl)
  obtain ⟨c1, hc1, k1⟩ := cT_ca T.law e1
  obtain ⟨c2, hc2, k2⟩ := cT_ca T.law_are_refused e2
  have ne : (cT K ("law", none)).2 ≠ (cT K ("_law_are_refused", none)).2 := by
    have hx := c.more
    replace hx := (ba hx).2
    replace hx := (ba hx).2
    replace hx := (ba hx).2
    replace hx := (ba hx).2
    replace hx := (ba hx).2
    replace hx := (ba hx).2
    replace hx := (ba hx).2
    replace hx := (ba hx).2
    replace hx := (ba hx).2
    replace hx := (ba hx).2
    replace hx := (ba hx).2
    replace hx := (ba hx).2
    exact of_decide_eq_true hx
  have ca1 : ca K mg "law" = c1 := by unfold ca; rw [hc1]
  have ca2 : ca K mg "_law_are_refused" = c2 := by unfold ca; rw [hc2]
  refine ⟨K, X, fdOf K (fa mg "law"), [cT K ("law", none), cT K ("_law_are_refused", none)], spLaw K (tabsL (cT K ("law", none)).2 (cT K ("_law_are_refused", none)).2), ?_, ?_, ?_, ?_, ?_, ?_⟩
  · intro p hp
    rcases List.mem_cons.mp hp with rfl | hp
    · exact c.empty _ (at_mem (i := 0) rfl)
    · rw [List.mem_singleton.mp hp]
      exact c.empty _ (at_mem (i := 1) rfl)
  · intro p hp
    rcases List.mem_cons.mp hp with rfl | hp
    · exact c.out _ (at_mem (i := 0) rfl)
    · rw [List.mem_singleton.mp hp]
      exact c.out _ (at_mem (i := 1) rfl)
  · intro p hp
    rcases List.mem_cons.mp hp with rfl | hp
    · exact PySem.W.codeHd_of_K X (c.hd _ (at_mem (i := 0) rfl))
    · rw [List.mem_singleton.mp hp]
      exact PySem.W.codeHd_of_K X (c.hd _ (at_mem (i := 1) rfl))
  · intro s u
    obtain ⟨oc, od, kV, doc, pm, an, cdv, ct, osl, ef, lk, hcd⟩ := T.law.F.ex
    rw [ef]
    exact .of_eq rfl
  · intro H a ns hl _ ht hS
    refine ⟨a, ns, rfl, hS, hl, fun p hp => ?_, fun _ => rfl⟩
    rcases List.mem_cons.mp hp with rfl | hp
    · exact LamX.TabS.nil (ht _ (at_mem (i := 0) rfl))
    · rw [List.mem_singleton.mp hp]
      exact LamX.TabS.nil (ht _ (at_mem (i := 1) rfl))
  · intro base _ _ TB
    have b1 := TB _ (at_mem (i := 0) rfl)
    have b2 := TB _ (at_mem (i := 1) rfl)
    rw [k1, ← ca1] at b1
    rw [k2, ← ca2] at b2
    have ef : f = fa mg "law" := by
      rw [g1] at hmg
      exact (Value.ref.inj (Option.some.inj hmg)).symm
    rw [ef]
    exact ok_law T b1 b2 ne (by rw [hc1, ca1]) (by rw [hc2, ca2])
end My
open PySem PySem.W PySem.Calls PyProof.Rows
theorem PySem.Challenge.cw_searchwalks_k21_orders_and_classes_holds : PySem.Challenge.rw_searchwalks_k21_orders_and_classes.Holds := by
  w_on; o_law
  refine HandSHeadRun.head_any (r := OpenLaw.row PySem.Challenge.rw_searchwalks_k21_orders_and_classes) (q := view (OpenLaw.row PySem.Challenge.rw_searchwalks_k21_orders_and_classes).prog [26]) (H := My.hkL 6) (ob := My.obL 6) (M := 4000) (loose := My.loL) (d := HandSHeadRun.topDef (OpenLaw.row PySem.Challenge.rw_searchwalks_k21_orders_and_classes).prog 26) (kwd := []) (My.obL_eq 6)
    (by kernel_rfl) (fun s => by kernel_rfl) My.runL (by kernel_rfl) (by kernel_rfl) (by kernel_rfl) (by rfl) (by first | assumption | decide +kernel) (by decide +kernel) ⟨rfl, rfl, rfl, rfl, rfl, by decide +kernel⟩ ?hw ?hc
  case hw => w_witness2
  case hc =>
    refine LamX.walk_ofTsE (l := PySem.Challenge.rw_searchwalks_k21_orders_and_classes) (n := 63) (k := 7) (x := "_law_script") (CX := fun _ => L2.CX0) rfl (by decide) (by kernel_rfl) ⟨rfl, by decide, by decide⟩ ?F (fun _ _ _ _ _ z => z)
    intro w mg fa h Y G hmg0
    have hmg : mg ("law" : PySem.Str) = some (.ref fa) := by
      have e : (HandSHeadRun.topDef (OpenLaw.row PySem.Challenge.rw_searchwalks_k21_orders_and_classes).prog 26).name = ("law" : PySem.Str) := by kernel_rfl
      rw [← e]
      exact hmg0
    exact My.law_at Y G hmg
