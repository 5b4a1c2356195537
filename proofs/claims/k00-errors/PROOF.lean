import PyProof.Rows.All
import Wide.All
import OpenK.AllK
import Wide.FinOn
import HandS.ForMost
import HandS.ForExc
import HandS.Wide
import HandS.Style
import HandS.Flow
import KE.KExcSuper
import HandS.ExcInit
import HandS.ExcSuper
import HandS.ExcField
import HandS.ExcIs
import KE.KExcIs
import PyProof.ReprRoads
import HandS.List
import KE.KStateDown
import HandS.Head0
import HandS.Head1
import HandS.Head2
import HandS.HeadHook4
import HandS.HeadWalk
import HandS.Lambda
import HandS.EndBits
import HandS.EndTab
import HandS.Walk
import HandS.Conv
import HandS.Comp
import PySem.Challenge.RW_searchwalks_k00_errors
set_option Elab.async false
set_option linter.all false
set_option maxRecDepth 100000
set_option maxHeartbeats 0
namespace My
open PySem PySem.Spec PyProof.Rows L2

/-! ### where the defs of the top stand -/
def fa (mg : Str → Option Value) (x : Str) : Addr := match mg x with
  | some (.ref f) => f
  | _ => 0
def fdOf (K : PySem.W.Frag) (f : Addr) : FuncData := match K.lookup f with
  | some ⟨_, _, .func fd, _⟩ => fd
  | _ => default
theorem fa_eq {mg : Str → Option Value} {x : Str} {f : Addr} (h : mg x = some (.ref f)) : fa mg x = f := by
  unfold fa
  rw [h]
theorem fdOf_eq {K : PySem.W.Frag} {f : Addr} {oc : Value} {od : Option Addr} {fd : FuncData} {sl : Array (Option Value)} (h : K.lookup f = some ⟨oc, od, .func fd, sl⟩) : fdOf K f = fd := by
  unfold fdOf
  rw [h]
/-- the def x of the top, by its statement -/
structure Df (K : PySem.W.Frag) (mg : Str → Option Value) (x : Str) (st : Stmt) (ps : List Str) : Prop where
  F : Fun K x x st (fa mg x) (fdOf K (fa mg x))
  g : mg x = some (.ref (fa mg x))
  b : Binds K (fdOf K (fa mg x)) ps []
theorem Df.of {K : PySem.W.Frag} {mg : Str → Option Value} {h : Heap} {x : Str} {st : Stmt} {ps : List Str} {f : Addr} {oc : Value} {od an : Option Addr} {sl : Array (Option Value)} {kV dc pm cd ct : Value} (X : K.In h) (G : h.Ns mainGlobals mg)
    (a : PySem.W.nsIn K mainGlobals x = some (some (.ref f))) (l : K.lookup f = some ⟨oc, od, .func (PySem.W.fnOf x x (defArgs st) (defBody st) (defScope st) .none kV dc pm an cd ct), sl⟩) (c : PySem.W.codeIn K cd x = true) (k : PySem.W.keepIn K (.ref f) = true)
    (b : ∀ (kV doc pm : Value) (an : Option Addr) (cdv ct : Value) (us : List Value), us.length = ps.length → bindArgs (PySem.W.fnOf x x (defArgs st) (defBody st) (defScope st) .none kV doc pm an cdv ct) ⟨us, []⟩ = pure (ps.zip us)) : Df K mg x st ps := by
  have hg := PySem.W.mg_of X G a
  have e1 := fa_eq hg
  have e2 := fdOf_eq l
  have F := fun_mk (st := st) l c k
  refine ⟨?_, ?_, ?_⟩
  · rw [e1, e2]; exact F
  · rw [e1]; exact hg
  · rw [e1, e2]; exact F.binds b
abbrev Ok (P : Program) (w : World) (K : PySem.W.Frag) (mg : Str → Option Value) (base : Heap) (CX : CXT) (k : Nat) (x : Str) (ps : List Str) (sp : Sp) : Prop := FnOk P w K mg base CX k (fa mg x) (fdOf K (fa mg x)) ps sp
section
variable {X : Cx} {x : Str} {st : Stmt} {ps : List Str} {k : Nat} {sp : Sp} {e : Expr} {es : List Expr} {t : TA} {p pos : Pos}
/-- x(e, ..), nothing is raised -/
theorem pc (D : Df X.K X.mg x st ps) (G : Ok X.prog X.w X.K X.mg X.base CX0 k x ps sp) (hr : Room k X.A) (ha : PA X (e :: es) t) (hg : Gl X x := by rfl)
    (hdb : (x == ("__debug__" : Str)) = false := by decide) (he : starEach (e :: es) X.env = (false, eval e X.env) :: starEach es X.env := by rfl) (hpl : (backTo pos (starEach es X.env)).any (·.1) = false := by rfl) :
    PE X (.Call (.Name x p) (e :: es) [] pos) (tCall sp [] E0 t) := pe_call G hr hg D.g D.F.kp D.b .nil pass0 ha hdb he hpl
theorem pc0 (D : Df X.K X.mg x st ps) (G : Ok X.prog X.w X.K X.mg X.base CX0 k x ps sp) (hr : Room k X.A) (hg : Gl X x := by rfl)
    (hdb : (x == ("__debug__" : Str)) = false := by decide) :
    PE X (.Call (.Name x p) [] [] pos) (tCall sp [] E0 tNil) := pe_call0 G hr hg D.g D.F.kp D.b .nil pass0 hdb
end
end My
namespace My
open PySem PySem.Spec PyProof.Rows L2
/-- all but p stays -/
def Sb (p : Addr) (H H' : Hp) : Prop := ∀ b o, b ≠ p → H b = some o → H' b = some o
theorem Sb.refl (p : Addr) (H : Hp) : Sb p H H := fun _ _ _ h => h
theorem Sb.trans {p : Addr} {H H1 H2 : Hp} (a : Sb p H H1) (b : Sb p H1 H2) : Sb p H H2 := fun c o n h => b c o n (a c o n h)
theorem Sb.of {p : Addr} {H H' : Hp} (s : Same H H') : Sb p H H' := fun b o _ h => s b o h
theorem same_new {H : Hp} {p : Addr} {o : HO} (h : H p = none) : Same H (upd H p o) := fun b x e => by
  rw [upd_ne (ne_of_none e h)]
  exact e
theorem Sb.new {p q : Addr} {H : Hp} {o : HO} (h : H q = none) : Sb p H (upd H q o) := Sb.of (same_new h)
theorem Sb.put {p : Addr} {H : Hp} {o : HO} : Sb p H (upd H p o) := fun b x n e => by
  rw [upd_ne n]
  exact e
/-- what a pen holds: kL its pairs by (cells, opened, left) -/
def penL (c : Addr) (n l : Int) : List (Key × V) := [(Sum.inr "cells", .ref c), (Sum.inr "opened", .int n), (Sum.inr "left", .int l)]
theorem pen_cells (c : Addr) (n l : Int) : valV (penL c n l) (Sum.inr "cells") = some (.ref c) := rfl
theorem pen_next (c : Addr) (n l : Int) : valV (penL c n l) (Sum.inr "opened") = some (.int n) := rfl
theorem pen_left (c : Addr) (n l : Int) : valV (penL c n l) (Sum.inr "left") = some (.int l) := rfl
theorem pen_put_next (c : Addr) (n l m : Int) : putK (penL c n l) (Sum.inr "opened") (.int m) = penL c m l := rfl
theorem pen_put_left (c : Addr) (n l m : Int) : putK (penL c n l) (Sum.inr "left") (.int m) = penL c n m := rfl
/-- at p stands a pen that has opened at most B cells -/
def Pen (H : Hp) (p : Addr) (B : Int) : Prop := ∃ (c : Addr) (cs : List Int) (n l : Int), H p = some (.dK (penL c n l)) ∧ H c = some (.lst (cs.map V.int)) ∧ cs.length ≤ 63 ∧ 0 ≤ n ∧ n ≤ B
theorem Pen.ne {H : Hp} {p b : Addr} {B : Int} {o : HO} (P : Pen H p B) (h : H b = some o) (n : ∀ kvs, o ≠ .dK kvs) : b ≠ p := fun e => by
  obtain ⟨c, cs, k, l, hp, _⟩ := P
  rw [e, hp] at h
  exact n _ (Option.some.inj h).symm
theorem Pen.lst {H H' : Hp} {p b : Addr} {B : Int} {xs : List V} (P : Pen H p B) (s : Sb p H H') (h : H b = some (.lst xs)) : H' b = some (.lst xs) := s b _ (P.ne h fun _ z => nomatch z) h
theorem Pen.tup {H H' : Hp} {p b : Addr} {B : Int} {xs : List V} (P : Pen H p B) (s : Sb p H H') (h : H b = some (.tup xs)) : H' b = some (.tup xs) := s b _ (P.ne h fun _ z => nomatch z) h
theorem Pen.keep {H H' : Hp} {p : Addr} {B : Int} (P : Pen H p B) (s : Same H H') : Pen H' p B := by
  obtain ⟨c, cs, n, l, hp, hc, r⟩ := P
  exact ⟨c, cs, n, l, s _ _ hp, s _ _ hc, r⟩
theorem Pen.new {H : Hp} {p q : Addr} {B : Int} {o : HO} (P : Pen H p B) (h : H q = none) : Pen (upd H q o) p B := P.keep (same_new h)
theorem Pen.mono {H : Hp} {p : Addr} {B B' : Int} (P : Pen H p B) (h : B ≤ B') : Pen H p B' := by
  obtain ⟨c, cs, n, l, hp, hc, a, b, d⟩ := P
  exact ⟨c, cs, n, l, hp, hc, a, b, Int.le_trans d h⟩
def spDraw : Sp := fun vs H Q _ => ∃ (p : Addr) (B m : Int), vs = [.ref p, .int m] ∧ Pen H p B ∧ B < 1000000 ∧ 0 < m ∧ m < 1000000 ∧
  ∀ (H' : Hp) (d : Int), Sb p H H' → Pen H' p (B + 1) → 0 ≤ d → d < m → Q (.int d) H'
theorem fmod_lt {a m : Int} (h : 0 < m) : 0 ≤ a.fmod m ∧ a.fmod m < m := ⟨Int.fmod_nonneg_of_pos a h, Int.fmod_lt_of_pos a h⟩
theorem cmul_l {i j : Int} (h0 : 0 ≤ i) (h : i ≤ 1000000000000) : CMul i j := .inl ⟨by omega, by omega⟩
theorem cdiv {i j : Int} (h0 : 0 < j) (h : j < 1000000) : CDivN i j := ⟨by omega, by omega⟩
theorem dp_ints {K : PySem.W.Frag} {H : Hp} : ∀ cs : List Int, DpAll K H (cs.map V.int) (cs.map PyData.int)
  | [] => .nil
  | c :: cs => .cons (.int c) (dp_ints cs)
theorem canLay_ints : ∀ cs : List Int, PyData.canLayAll0 (cs.map PyData.int) = true
  | [] => by simp only [List.map, PyData.canLayAll0]
  | c :: cs => by simp only [List.map, PyData.canLayAll0, PyData.canLay0, canLay_ints cs, Bool.and_self]
theorem depth_ints : ∀ cs : List Int, PyData.depthAll (cs.map PyData.int) = 0
  | [] => by simp only [List.map, PyData.depthAll]
  | c :: cs => by simp only [List.map, PyData.depthAll, PyData.depth, depth_ints cs, Nat.max_self]
theorem shaped_ints (cs : List Int) : SeqAt.shaped (.list (cs.map PyData.int)) = true := by
  unfold SeqAt.shaped
  rw [PyData.canLay0, PyData.depth, canLay_ints, depth_ints]
  rfl
theorem at_ints (cs : List Int) {z : Int} (h0 : 0 ≤ z) (h : z < (cs.length : Int)) : ∃ v, atI (cs.map V.int) z = some (V.int v) := by
  obtain ⟨j, rfl⟩ := Int.eq_ofNat_of_zero_le h0
  have hj : j < cs.length := by omega
  exact ⟨cs[j], atI_nat (by rw [List.getElem?_map, List.getElem?_eq_getElem hj]; rfl)⟩
theorem cmul_mod {a m j : Int} (h : 0 < m) (h2 : m ≤ 1000000000000) : CMul (a.fmod m) j := cmul_l (fmod_lt h).1 (Int.le_trans (Int.le_of_lt (fmod_lt h).2) h2)
end My
namespace My
open PySem PySem.Calls PyProof.Rows L2
/-- self.f = f, one row a field -/
inductive Asgs : List Stmt → List Str → Prop
  | nil : Asgs [] []
  | cons {f : Str} {fs : List Str} {rest : List Stmt} {a b c d : Pos} (h : Asgs rest fs) : Asgs (.Assign [.Attribute (.Name "self" a) f b] (.Name f c) d :: rest) (f :: fs)
/-- super().__init__(..), then the fields -/
inductive InitBody : List Stmt → List Str → Prop
  | mk {x : Str} {j : Nat} {rest : List Stmt} {fs : List Str} {p0 p1 p2 p3 p4 p5 : Pos} (h : Asgs rest fs) (hp : (p2.endLine == p4.line) = true) :
      InitBody (.Expr (.Call (.Attribute (.Call (.Name "super" p0) [] [] p1) "__init__" p2) [.Constant (.str x) j p3] [] p4) p5 :: rest) fs
section
variable {prog : Program} {w : World} {A : Around} {E : Value → Shared → Prop} {h : Heap} {g : Array GenState} {d : Drawn} {t : Nat} {os : OsState}
/-- the wrapper of ValueError.__init__ is called -/
theorem call_mw {u e t0 C N : Addr} {nm q : Str} {bs bm : List Value} {hdct : Bool} {sn : List Str} {sub : List Value} {ab : Bool} {col : Option Bool} {dd : Option Addr} {k0 k1 k2 k3 k5 : Option Value} {rest : List Value} {Q : Value → Shared → Prop}
    (hC : h.get? C = some (excClassObj nm q C N bs bm hdct sn sub ab col dd k0 k1 k2 k3 k5 "ValueError.__new__")) (he : h.get? e = some (HandSPX.excO C t0)) (hu : h.get? u = some (W.kxs_mw "ValueError.__init__" e))
    (hq : ∀ h' t1, (∀ b o, b ≠ e → h.get? b = some o → h'.get? b = some o) → h'.get? e = some (HandSPX.excO C t1) → Q .none ⟨h', g, d, t, os⟩) (hz : rest.length ≤ sizeLine) :
    wpAny (model prog w) A (call (.ref u) rest) Q E ⟨h, g, d, t, os⟩ := by
  refine wpAny_call (codeAny_of_tree ?_)
  show wpAny _ A.in1 (callAny (.ref u) ⟨rest, []⟩) _ _ _
  unfold callAny
  refine wpAny_bind (wpAny_load hu ?_)
  simp only [W.kxs_mw, show (Value.type "method-wrapper" == Value.type "method" || Value.type "method-wrapper" == Value.type "builtin_function_or_method" || Value.type "method-wrapper" == Value.type "method-wrapper") = true by decide, if_true]
  refine W.KFB.if_so (by decide) ?_
  refine wpAny_bind (W.check_bound_init F.excBase_ValueError.toExcCallFacts hC he rfl ?_)
  refine wpAny_bind (wpAny_pure (wpAny_pure ⟨Code.quiet_builtin _ (by decide +kernel), codeAny_builtin F.excBase_ValueError.initEntry ?_⟩))
  rw [Around.under_plainId F.excBase_ValueError.init.plain _]
  wp_walk
  refine hq _ h.objs.size (fun b o hb ho => ?_) ?_
  · exact (Heap.get?_update_other _ _ (Ne.symm hb)).trans (Heap.get?_push_of_some _ ho)
  · rw [Heap.get?_update_self _ (Heap.get?_push_of_some _ he) rfl]
    rfl
end
/-- how the exception at x stands while its fields are stored -/
def Exs (C x : Addr) (b0 : Nat) (acc : List (Str × V)) (h : Heap) : Prop :=
  (acc = [] ∧ ∃ t1 : Addr, h.get? x = some (HandSPX.excO C t1)) ∨
  ∃ t1 dx : Addr, acc ≠ [] ∧ h.get? x = some ({ cls := .ref C, dict := some dx, data := .fields #[.ref t1, .none, .none, .none, .bool false, .none] } : Obj) ∧ b0 ≤ dx ∧ dx ≠ x ∧ ∃ mA, h.Ns1 dx mA ∧ ∀ f, RelO (acc.lookup f) (mA f)
section
variable {prog : Program} {w : World} {A : Around} {E : Value → Shared → Prop} {K : W.Frag}
theorem set_one {C x : Addr} {b0 : Nat} {acc : List (Str × V)} {f : Str} {y : V} {u : Value} {Q : Unit → Shared → Prop} {s : Shared} (T : OexC K C) (X : K.In s.heap) (hz : b0 ≤ s.heap.objs.size) (hl : acc.length ≤ 900) (e : Exs C x b0 acc s.heap) (ry : RelV y u) (hno : W.findIn K (.ref C) f = some none)
    (hq : ∀ h' t', (∀ b o, b ≠ x → b < b0 → s.heap.get? b = some o → h'.get? b = some o) → b0 ≤ h'.objs.size → Exs C x b0 ((f, y) :: acc) h' → Q () { s with heap := h', toks := t' }) :
    wpAny (model prog w) A (setAttr (.ref x) f u) Q E s := by
  obtain ⟨nm, q, N, bs, bm, sn, sub, ab, col, dd, k0, k1, k2, k3, k5, hC, hbm⟩ := T.cls
  have hcl : W.clsIn K C = some { name := nm, bases := bs, mro := .ref C :: bm, ns := N, qualname := q, hasDict := true, slotNames := sn, subclasses := sub, abstract := ab, collection := col, hasDel := false } := by unfold W.clsIn; rw [hC] <;> rfl
  obtain ⟨hp, g, d, t, os⟩ := s
  rcases e with ⟨rfl, t1, hx⟩ | ⟨t1, dx, _, hx, hb, hne, mA, hns, rel⟩
  · refine W.set_plain X (ox := { cls := .ref C, dict := none, data := .fields #[.ref t1, .none, .none, .none, .bool false, .none] }) (od := none) ⟨hx, rfl, rfl, trivial⟩ T.sa ?_
    refine HandSPX.exc_osa X hx hcl (show HandSPX.refsVE (.ref C :: bm) = true from hbm) rfl hno (fun h' tk' dx k dn dne hx' hn => ?_)
    have hsz : dx < h'.objs.size := by
      obtain ⟨o, _, _, e1, _⟩ := hn
      exact Heap.lt_size e1
    exact hq h' tk' (fun b o hb _ z => k b o hb z) (Nat.le_trans hz (Nat.le_trans dn (Nat.le_of_lt hsz))) (.inr ⟨t1, dx, (fun z => nomatch z), hx', Nat.le_trans hz dn, dne, _, hn, relO_put (fs := []) ry fun g => True.intro⟩)
  · have hw := within_of rel
    obtain ⟨oD, _, _, hoD, _, _⟩ := hns.count hw
    refine W.set_plain X (ox := { cls := .ref C, dict := some dx, data := .fields #[.ref t1, .none, .none, .none, .bool false, .none] }) (od := some oD) ⟨hx, rfl, rfl, hoD⟩ T.sa ?_
    refine OEX.osa_old X hx hns hw (by rw [List.length_map]; omega) hcl (show HandSPX.refsVE (.ref C :: bm) = true from hbm) rfl hno (fun h' tk' k hn => ?_)
    have hx' := k x _ (Ne.symm hne) hx
    have hsz : dx < h'.objs.size := by
      obtain ⟨o, _, _, e1, _⟩ := hn
      exact Heap.lt_size e1
    exact hq h' tk' (fun b o _ hlt z => k b o (fun q => by rw [q] at hlt; exact absurd hb (Nat.not_le_of_lt hlt)) z) (Nat.le_trans hb (Nat.le_of_lt hsz)) (.inr ⟨t1, dx, (fun z => nomatch z), hx', hb, hne, _, hn, relO_put ry rel⟩)
theorem asgs_run {C x L : Addr} {b0 : Nat} {env : Env} {m : Str → Option Value} (T : OexC K C) (hk : env.scope.kind = .function) (hL : env.locals = L) (hLb : L < b0) (hLx : L ≠ x) (hself : m "self" = some (.ref x)) (hks : env.kindOf "self" = some .local) {rest : List Stmt} {fs : List Str} (hr : Asgs rest fs) :
    ∀ {ys : List V} {us : List Value} {acc : List (Str × V)} {s : Shared} {Q : Flow → Shared → Prop}, Vals ys us → (∀ (i : Nat) f u, fs[i]? = some f → us[i]? = some u → m f = some u) → ys.length = fs.length → acc.length + fs.length ≤ 900 →
      (∀ f ∈ fs, env.kindOf f = some .local ∧ (f == ("__debug__" : Str)) = false ∧ W.findIn K (.ref C) f = some none) → K.In s.heap → (∀ b o, K.lookup b = some o → b ≠ x ∧ b < b0) → s.heap.Ns L m → b0 ≤ s.heap.objs.size → Exs C x b0 acc s.heap →
      (∀ h' t', (∀ b o, b ≠ x → b < b0 → s.heap.get? b = some o → h'.get? b = some o) → b0 ≤ h'.objs.size → Exs C x b0 ((fs.zip ys).reverse ++ acc) h' → Q .next { s with heap := h', toks := t' }) →
      wpAny (model prog w) A (execs rest env) Q E s := by
  induction hr with
  | nil =>
    intro ys us acc s Q hv hm hlen hl hf X KX hns hz e hq
    have : ys = [] := List.eq_nil_of_length_eq_zero hlen
    subst this
    exact wpAny_execs_nil (hq s.heap s.toks (fun _ _ _ _ z => z) hz e)
  | @cons f fs rest a b c d hr ih =>
    intro ys us acc s Q hv hm hlen hl hf X KX hns hz e hq
    cases hv with
    | nil => cases hlen
    | @cons y u ys us ry hv =>
      obtain ⟨hfl, hfd, hfn⟩ := hf f List.mem_cons_self
      have hmf : m f = some u := hm 0 f u rfl rfl
      subst hL
      refine wpAny_execs_cons (plainObj_wpAny_Assign_Attribute (wpAny_Name (wpAny_loadName_local hk hfl hns hmf (wpAny_Name (wpAny_loadName_local hk hks hns hself ?_) (by decide))) hfd) ?_)
      · refine set_one (b0 := b0) T X hz (by have := hl; simp only [List.length_cons] at this; omega) e ry hfn fun h' t' k hz' e' => ?_
        have kx : ∀ b o, K.lookup b = some o → h'.get? b = some o := fun b o q => k b o (KX b o q).1 (KX b o q).2 (X b o q)
        have hns' : h'.Ns env.locals m := by
          obtain ⟨o, es, ep, e1, r⟩ := hns
          exact ⟨o, es, ep, k _ _ hLx hLb e1, r⟩
        refine ih hv (fun i f' u' h1 h2 => hm (i + 1) f' u' h1 h2) (Nat.succ.inj hlen) (by simp only [List.length_cons] at hl ⊢; omega) (fun f' hf' => hf f' (List.mem_cons_of_mem _ hf')) kx KX hns' hz' e' fun h2 t2 k2 hz2 e2 => ?_
        refine hq h2 t2 (fun b o hb hlt z => k2 b o hb hlt (k b o hb hlt z)) hz2 ?_
        rw [List.zip_cons_cons, List.reverse_cons, List.append_assoc]
        exact e2
      · rfl
end
/-- what the written part says of the own error x, its class at C, its __init__ at fI by the text st, with the fields fs -/
structure ErrT (P : Program) (K : W.Frag) (mg : Str → Option Value) (x : Str) (C fI : Addr) (fd : FuncData) (st : Stmt) (fs : List Str) : Prop where
  o : OexC K C
  gC : mg x = some (.ref C)
  iC : W.findIn K (.ref C) "__init__" = some (some (.ref fI))
  tI : W.typeIn K (.ref fI) = some (.type "function")
  lk : ∃ (oc : Value) (od : Option Addr) (q : Str) (kV dc pm : Value) (an : Option Addr) (cda : Addr) (ct : Value) (cc : Addr) (osl : Array (Option Value)) (vs : Array Value) (file : Str) (tf : Tok) (ccl : Value) (cdd : Option Addr) (ccs : Array (Option Value)) (cl : Value) (cld : Option Addr) (csl : Array (Option Value)),
    fd = W.ksFn "__init__" q (defArgs st) (defBody st) (defScope st) .none kV dc pm an (.ref cda) ct cc ∧ K.lookup fI = some ⟨oc, od, .func fd, osl⟩ ∧ W.codeIn K (.ref cda) q = true ∧ K.lookup cda = some ⟨ccl, cdd, .fields vs, ccs⟩ ∧ vs[2]? = some (.str file tf) ∧ ((P.main.file : Str) == file) = true ∧ K.lookup cc = some ⟨cl, cld, .cell (some (.ref C)), csl⟩
  su : W.ks_superIn K C C "__init__" = some (some (.builtin "ValueError.__init__"))
  ve : W.subIn K (.ref C) (.type "ValueError") = some true
  sub : W.mroIn K C (.ref C) = some true
  op : W.nsIn K cStatics "thirdparty.any" = some none
  sup : mg "super" = none
  top : (P.main.scope.names.lookup ("super" : Str)).isSome = false
  nf : ∀ f ∈ fs, W.findIn K (.ref C) f = some none
/-- what the text of such an __init__ is -/
structure ErrS (st : Stmt) (fs : List Str) : Prop where
  bd : InitBody (defBody st) fs
  pr : ∃ ar : Arg, ((defArgs st).posonlyargs ++ (defArgs st).args).head? = some ar ∧ ar.arg = "self"
  kind : (defScope st).kind = .function
  co : (defScope st).isCoroutine = false
  gen : (defScope st).isGenerator = false
  cell : ∀ y ∈ (defScope st).names, y.2 ≠ .cell
  loc : ∀ f ∈ ("self" : Str) :: fs, (defScope st).names.lookup f = some .local ∧ (f == ("__debug__" : Str)) = false
  nd : (("self" : Str) :: fs).Nodup
  ks : (defScope st).names.lookup ("super" : Str) = some .globalImplicit
  kc : (defScope st).names.lookup ("__class__" : Str) = some .free
  small : fs.length ≤ 900
def spErr (C : Addr) (fs : List Str) : Sp := fun vs H Q _ => ∃ (a : Addr) (ys : List V), vs = .ref a :: ys ∧ ys.length = fs.length ∧ H a = some (exo a C none) ∧
  (fs = [] → Q .non H) ∧ (fs ≠ [] → ∀ dx, H dx = none → dx ≠ a → Q .non (upd (upd H dx (exd dx (fs.zip ys).reverse)) a (exo a C (some dx))))
theorem zip_look : ∀ {fs : List Str} {us : List Value} {i : Nat} {f : Str} {u : Value}, fs.Nodup → us.length = fs.length → fs[i]? = some f → us[i]? = some u → (fs.zip us).reverse.lookup f = some u
  | [], us, i, f, u, _, _, h, _ => by simp at h
  | g :: fs, [], i, f, u, _, hl, _, _ => by cases hl
  | g :: fs, v :: us, i, f, u, nd, hl, h1, h2 => by
    obtain ⟨n1, n2⟩ := List.nodup_cons.mp nd
    rw [List.zip_cons_cons, List.reverse_cons, List.lookup_append]
    cases i with
    | zero =>
      have e1 : g = f := Option.some.inj h1
      have e2 : v = u := Option.some.inj h2
      subst e1 e2
      have : (fs.zip us).reverse.lookup g = none := by
        rw [List.lookup_eq_none_iff]
        intro p hp
        have hm := (List.of_mem_zip (List.mem_reverse.mp hp)).1
        simp only [bne_iff_ne, ne_eq, beq_eq_false_iff_ne]
        intro z
        rw [z] at n1
        exact n1 hm
      rw [this]
      simp [List.lookup]
    | succ i =>
      have ih := zip_look (fs := fs) (us := us) (i := i) (f := f) (u := u) n2 (Nat.succ.inj hl) h1 h2
      rw [ih]
      rfl
theorem sup_form {env : Env} {tx : Str} {j : Nat} {p0 p1 p2 p3 p4 : Pos} (hp : (p2.endLine == p4.line) = true) :
    eval (.Call (.Attribute (.Call (.Name "super" p0) [] [] p1) "__init__" p2) [.Constant (.str tx) j p3] [] p4) env = (do
      let ov ← attributeBase (.Call (.Name "super" p0) [] [] p1) "__init__" env (eval (.Call (.Name "super" p0) [] [] p1) env)
      standAt p2.atName
      let (f, first) ← holding [ov] (getMethod ov "__init__" (do return (← importBound (.Call (.Name "super" p0) [] [] p1) env).getD true))
      callWith p4 f first (backTo p4 (starEach [.Constant (.str tx) j p3] env)) []) := by
  show (do
    let ov ← attributeBase (.Call (.Name "super" p0) [] [] p1) "__init__" env (eval (.Call (.Name "super" p0) [] [] p1) env)
    standAt p2.atName
    methodCall (.Call (.Name "super" p0) [] [] p1) "__init__" p2 p4 env ov 1 (backTo p4 (starEach [.Constant (.str tx) j p3] env)) (backToKw p4 (keywordEach [] env))) = _
  have hf : methodCallForm 1 (backTo p4 (starEach [.Constant (.str tx) j p3] env)) (backToKw p4 (keywordEach [] env)) = true := rfl
  simp only [methodCall, methodCallPos, hf, hp, Bool.or_true, if_true, pure_bind, calleeOf]
  rfl
section
variable {P : Program} {w : World} {K : W.Frag} {mg : Str → Option Value} {base : Heap} {x : Str} {C fI : Addr} {fd : FuncData} {st : Stmt} {fs : List Str}
theorem ok_err {k : Nat} (T : ErrT P K mg x C fI fd st fs) (S : ErrS st fs) : FnOk P w K mg base CX0 k fI fd (("self" : Str) :: fs) (spErr C fs) := by
  refine ⟨fun vs H Q E hs => ?_, fun A outer s H args us vs Q E hr e0 hb hv hs => ?_⟩
  · obtain ⟨a, ys, rfl, hl, _⟩ := hs
    rw [List.length_cons, List.length_cons, hl]
  obtain ⟨a, ys, rfl, hlen, ha, q0, q1⟩ := hs
  obtain ⟨oc, od, q, kV, dc, pm, an, cda, ct, cc, osl, vs, file, tf, ccl, cdd, ccs, cl, cld, csl, rfl, lkI, hcd, hcode, hvs, hfile, hcell⟩ := T.lk
  obtain ⟨ar, hpr, har⟩ := S.pr
  obtain ⟨nm, qn, N, bs, bm, sn, sub, ab, col, dd, k0, k1, k2, k3, k5, hC, hbm⟩ := T.o.cls
  cases hv with
  | @cons _ ua _ us ra hv =>
  cases ra
  have bk : ∀ b o, base.get? b = some o → s.heap.get? b = some o := fun b o e => (e0.bs b o e).1
  have X : K.In s.heap := e0.mod.kin.keeps bk
  have lim : s.heap.NoLimit := e0.mod.nolimit.keeps bk
  obtain ⟨t1, hx⟩ := exo_at e0.hok ha
  have hul : us.length = fs.length := hv.length.symm.trans hlen
  have KX : ∀ b o, K.lookup b = some o → b ≠ a ∧ b < s.heap.objs.size + 1 := fun b o e => by
    have h1 := e0.bs b o (e0.mod.kin b o e)
    refine ⟨fun z => ?_, Nat.lt_succ_of_lt (Heap.lt_size h1.1)⟩
    rw [z, ha] at h1
    cases h1.2
  have hloc : ∀ y ∈ (("self" : Str) :: fs).zip (Value.ref a :: us), (defScope st).names.lookup y.1 = some .local := fun y hy => (S.loc _ (List.of_mem_zip hy).1).1
  refine ks_codeAny_call_defAt hr.depth (X _ _ lkI) rfl lim (W.codeRec_of X hcd) rfl hb S.cell hloc (fun h1 hns hk1 => ?_) S.co S.gen S.kind
  -- the body
  have X1 : K.In h1 := X.keeps hk1
  have hx1 := hk1 _ _ hx
  have hbd := S.bd
  have hcd1 : W.clsIn K C = some { name := nm, bases := bs, mro := .ref C :: bm, ns := N, qualname := qn, hasDict := true, slotNames := sn, subclasses := sub, abstract := ab, collection := col, hasDel := false } := by unfold W.clsIn; rw [hC] <;> rfl
  have hsz1 : s.heap.objs.size < h1.objs.size := by
    obtain ⟨o, _, _, e1, _⟩ := hns
    exact Heap.lt_size e1
  generalize hBd : defBody st = bd at hbd ⊢
  obtain ⟨mb, hbn, hbb⟩ := e0.mod.blt
  cases hbd with
  | @mk tx j rest fs p0 p1 p2 p3 p4 p5 hrest hpp =>
  have hself : (fun y => ((("self" : Str) :: fs).zip (Value.ref a :: us)).reverse.lookup y) "self" = some (.ref a) := zip_look (i := 0) S.nd (by rw [List.length_cons, List.length_cons, hul]) rfl rfl
  refine ks_wpAt_execs_cons (ks_wpAt_Expr_any (ks_wpAt_MethodCall (ks_wpAt_super_base S.ks S.kc (by decide) rfl (hk1 _ _ (X _ _ lkI)) rfl hpr rfl (X1 _ _ hcode) rfl hvs hfile T.top ?_) (sup_form hpp)) (by simp [interactive, callEnv, newEnv, S.kind]))
  refine W.ks_loadName_global S.kind S.ks (loadGlobal_builtin (mb := mb) ((e0.mod.glob.keeps bk).keeps hk1) T.sup ((hbn.keeps bk).keeps hk1) ((hbb _ (by decide +kernel)).trans PyProof.Rows.Boot.«super») ⟨rfl, ?_⟩)
  refine wpAny_loadName_free S.kind S.kc rfl ⟨_, X1 _ _ hcell, rfl⟩ ?_
  rw [har]
  refine wpAny_loadName_local S.kind (S.loc _ List.mem_cons_self).1 hns hself ?_
  refine ks_wpAny_isType_cls (X1 _ _ hC) rfl ⟨rfl, ?_⟩
  refine ks_wpAny_call_super (X1 _ _ hC) rfl hx1 rfl (fun c e => nomatch e) (W.looks_mroIn X1 T.sub) (fun h2 e2 k2 => ?_)
  have X2 : K.In h2 := X1.keeps k2
  have hx2 := k2 _ _ hx1
  have I2 : W.InstAt h2 a _ C none := ⟨hx2, rfl, rfl, trivial⟩
  refine W.kxs_getMethod W.kxs_ValueError e2 (W.looks_opaque X2 T.op) ((W.looks_clsIn X2 hcd1).andThen .now) rfl X2 (by
    have q := T.su
    unfold W.ks_superIn at q
    rw [hcd1] at q
    exact q) (I2.type.andThen (W.looks_subIn X2 T.ve)) (W.ks_ne X2 I2 hcd1) (by decide) ?_
  refine W.kxs_callWith (i := "ValueError.__init__") (u := h2.objs.size) (x := a) rfl (evalArgs_plain (spliced_cons (Constant_str (k := j) (pos := p3) (spliced_nil ⟨Heap.get?_push_at rfl rfl, ?_⟩))))
  have k3 : ∀ b o, h2.get? b = some o → (h2.push (W.kxs_mw "ValueError.__init__" a)).get? b = some o := fun b o e => Heap.get?_push_of_some _ e
  refine call_mw (k3 _ _ (X2 _ _ hC)) (k3 _ _ hx2) (Heap.get?_push_at rfl rfl) (fun h4 t4 k4 hx4 => ?_) (by show 1 ≤ sizeLine; decide)
  have hLa : s.heap.objs.size ≠ a := fun z => by
    have := Heap.lt_size hx
    rw [← z] at this
    exact Nat.lt_irrefl _ this
  have k04 : ∀ b o, b ≠ a → h1.get? b = some o → h4.get? b = some o := fun b o hb e => k4 b o hb (k3 _ _ (k2 _ _ e))
  have X4 : K.In h4 := fun b o e => k04 b o (KX b o e).1 (X1 b o e)
  have hns4 : h4.Ns s.heap.objs.size (fun y => ((("self" : Str) :: fs).zip (Value.ref a :: us)).reverse.lookup y) := by
    obtain ⟨o, es, ep, e1, r⟩ := hns
    exact ⟨o, es, ep, k04 _ _ hLa e1, r⟩
  have hz4 : s.heap.objs.size + 1 ≤ h4.objs.size := by
    obtain ⟨o, _, _, e1, _⟩ := hns4
    exact Heap.lt_size e1
  refine wpAt_of_wpAny ?_
  refine asgs_run (L := s.heap.objs.size) (b0 := s.heap.objs.size + 1) T.o (by exact S.kind) (by rfl) (Nat.lt_succ_self _) hLa hself (by exact (S.loc _ List.mem_cons_self).1) hrest hv (fun i f u h1 h2 => zip_look (i := i + 1) S.nd (by rw [List.length_cons, List.length_cons, hul]) h1 h2) hlen (by show 0 + fs.length ≤ 900; have := S.small; omega)
    (fun f hf => ⟨by exact (S.loc _ (List.mem_cons_of_mem _ hf)).1, (S.loc _ (List.mem_cons_of_mem _ hf)).2, T.nf f hf⟩) X4 KX hns4 hz4 (.inl ⟨rfl, t4, hx4⟩) fun h5 t5 k5' hz5 e5 => ?_
  rw [List.append_nil] at e5
  have keep : ∀ b o, b ≠ a → s.heap.get? b = some o → h5.get? b = some o := fun b o hb e => k5' b o hb (Nat.lt_succ_of_lt (Heap.lt_size e)) (k04 b o hb (hk1 b o e))
  have na : ∀ b, H b = none → b ≠ a := fun b n z => by
    rw [z, ha] at n
    cases n
  have gens : AllBare s.gens := e0.bare
  rcases e5 with ⟨enil, t6, hx6⟩ | ⟨t6, dx, hnn, hx6, hdb, hda, mA, hmA, rel⟩
  · have hfs : fs = [] := by
      cases fs with
      | nil => rfl
      | cons f fs =>
        cases ys with
        | nil => cases hlen
        | cons y ys => simp at enil
    refine ⟨.non, H, rfl, gens, ⟨fun b o e n _ _ => keep b o (na b n) e, fun b o e n _ _ => ⟨o.slots, keep b o (na b n) e⟩, fun b o _ n _ => n, fun b o e _ => ?_, fun b xs q => q, fun b o u q => q, fun b ps q => ⟨#[], by rw [q]; simp⟩⟩, fun b o e => ?_, rfl, q0 hfs⟩
    · by_cases hb : b = a
      · exact ⟨_, by rw [hb]; exact hx6⟩
      · exact ⟨o, keep b o hb e⟩
    · by_cases hb : b = a
      · subst hb
        rw [ha] at e
        cases e
        exact exo_ok hx6
      · exact (e0.hok b o e).stay (fun c v hc z => keep c v (by
          rcases hc with hc | hc
          · rw [hc]; exact hb
          · exact at_ne ha hc exo_own) z) (fun c hc => hc) (fun c xs hc => hc)
  · have hfs : fs ≠ [] := fun z => by
      subst z
      have := List.eq_nil_of_length_eq_zero hlen
      subst this
      exact hnn rfl
    have hdn : H dx = none := e0.hok.fresh (Nat.le_of_succ_le hdb)
    have nd : ∀ b o, s.heap.get? b = some o → b ≠ dx := fun b o e z => by
      have h1 := Heap.lt_size e
      rw [z] at h1
      exact absurd hdb (Nat.not_le_of_lt (Nat.lt_succ_of_lt h1))
    refine ⟨.non, _, rfl, gens, ⟨fun b o e n _ _ => keep b o (na b n) e, fun b o e n _ _ => ⟨o.slots, keep b o (na b n) e⟩, fun b o e n _ => by rw [upd_ne (na b n), upd_ne (nd b o e)]; exact n, fun b o e _ => ?_,
      fun b xs q => by rw [upd_ne (at_ne ha q exo_tup), upd_ne (ne_of_none q hdn)]; exact q, fun b o u q => by rw [upd_ne (at_ne ha q exo_frz), upd_ne (ne_of_none q hdn)]; exact q, fun b ps q => ⟨#[], by rw [upd_ne (at_ne ha q exo_tbl), upd_ne (ne_of_none q hdn), q]; simp⟩⟩, fun b o e => ?_, rfl, q1 hfs dx hdn hda⟩
    · by_cases hb : b = a
      · exact ⟨_, by rw [hb]; exact hx6⟩
      · exact ⟨o, keep b o hb e⟩
    · by_cases hb : b = a
      · subst hb
        rw [upd_same] at e
        cases e
        exact exo_ok hx6
      · rw [upd_ne hb] at e
        by_cases hd : b = dx
        · subst hd
          rw [upd_same] at e
          cases e
          exact exd_ok hmA rel
        · rw [upd_ne hd] at e
          exact (e0.hok b o e).stay (fun c v hc z => keep c v (by
            rcases hc with hc | hc
            · rw [hc]; exact hb
            · exact at_ne ha hc exo_own) z) (fun c hc => by rw [upd_ne (at_ne ha hc exo_own), upd_ne (ne_of_none hc hdn)]; exact hc) (fun c xs hc => by rw [upd_ne (at_ne ha hc exo_tup), upd_ne (ne_of_none hc hdn)]; exact hc)
end
end My
namespace My
open PySem PySem.Spec PyProof.Rows L2
/-- how the own error x with the fields fs stands in the written part -/
structure Er (P : Program) (K : PySem.W.Frag) (mg : Str → Option Value) (x : Str) (C fI : Addr) (fd : FuncData) (st : Stmt) (fs : List Str) : Prop where
  T : ErrT P K mg x C fI fd st fs
  S : ErrS st fs
  b : Binds K fd (("self" : Str) :: fs) []
  xf : XfC K C
/-- what the raise of x asks behind its arguments -/
theorem mk_ok {C : Addr} {fs : List Str} {vs : List V} {H : Hp} {Q : XK} (hl : vs.length = fs.length) (hz : vs.length ≤ 1000) (hn : fs ≠ []) (q : ∀ d, H d = none → Q (.ref C) (some d) (upd H d (.xd (fs.zip vs).reverse))) :
    vs.length ≤ 1000 ∧ ∀ a, H a = none → spErr C fs (.ref a :: (vs ++ [])) (upd H a (exo a C none))
      (fun v H2 => v = .non ∧ ∃ (d : Addr) (gs : List (Str × V)), H2 a = some (exo a C (some d)) ∧ H2 d = some (exd d gs) ∧ H d = none ∧ Q (.ref C) (some d) (upd (del H2 a) d (.xd gs))) (fun _ _ _ => False) := by
  refine ⟨hz, fun a ha => ⟨a, vs, by rw [List.append_nil], hl, upd_same, fun z => absurd z hn, fun _ d hd hda => ⟨rfl, d, (fs.zip vs).reverse, upd_same, ?_, ?_, ?_⟩⟩⟩
  · rw [upd_ne hda, upd_same]
  · rw [upd_ne hda] at hd
    exact hd
  · rw [upd_ne hda] at hd
    have e : upd (del (upd (upd (upd H a (exo a C none)) d (exd d (fs.zip vs).reverse)) a (exo a C (some d))) a) d (.xd (fs.zip vs).reverse) = upd H d (.xd (fs.zip vs).reverse) := by
      funext b
      by_cases h1 : b = d
      · rw [h1, upd_same, upd_same]
      · rw [upd_ne h1, upd_ne h1]
        by_cases h2 : b = a
        · rw [h2, del_same, ha]
        · rw [del_ne h2, upd_ne h2, upd_ne h1, upd_ne h2]
    rw [e]
    exact q d hd
section
variable {X : Cx} {x : Str} {C fI : Addr} {fd : FuncData} {st : Stmt} {fs : List Str} {e : Expr} {es : List Expr} {ta : TA} {p pos pos2 : Pos} {W : WX}
/-- raise x(e, ..) -/
theorem ps_err (R : Er X.prog X.K X.mg x C fI fd st fs) (hr : Room 1 X.A) (hc : X.calm = true) (tk : Takes X W) (ha : PA X (e :: es) ta) (hg : Gl X x := by rfl)
    (hdb : (x == ("__debug__" : Str)) = false := by decide) (he : starEach (e :: es) X.env = (false, eval e X.env) :: starEach es X.env := by rfl) (hpl : (backTo pos (starEach es X.env)).any (·.1) = false := by rfl) :
    PS X (.Raise (some (.Call (.Name x p) (e :: es) [] pos)) none pos2) (fun _ σ H => tMkO C (spErr C fs) [] ta σ H fun cls d H' => W cls d σ H') :=
  ps_raise hc tk (pmk_oex (k := 0) R.T.o R.T.iC R.T.tI (ok_err R.T R.S) hr R.b .nil (fun _ _ _ _ _ _ _ z => z.elim) hg R.T.gC ha hdb he hpl)
/-- x(), an error without fields, made to be raised -/
theorem pmk_err0 {x : Str} {C fI : Addr} {fd : FuncData} {st : Stmt} (R : Er X.prog X.K X.mg x C fI fd st []) (hr : Room 1 X.A) (hg : Gl X x := by rfl) (hdb : (x == ("__debug__" : Str)) = false := by decide) :
    PMk X (.Call (.Name x p) [] [] pos) (fun _ H Q => Q (.ref C) none H) := by
  intro pins s σ H Q I1 q
  have T := R.T.o
  obtain ⟨nm, qn, N, bs, bm, sn, sub, ab, col, dd, k0, k1, k2, k3, k5, hC, hbm⟩ := T.cls
  refine wpAny_Call_Name_kw (ld_glob I1 hg R.T.gC ?_ hdb)
  refine PySem.W.callWith_K0 I1.kIn T.kC ?_
  show wpAny _ _ (call (.ref C) []) _ _ _
  obtain ⟨hp, g, dr, tk, os⟩ := s
  have hsz : hp.objs.size ≤ hp.objs.size + 1 := Nat.le_succ _
  have hn : H (hp.objs.size + 1) = none := I1.hok.fresh hsz
  have kk : ∀ b o, hp.get? b = some o → ((hp.push (PySem.W.kdv_tup [])).push (PySem.HandSPX.excO C hp.objs.size)).get? b = some o := fun b o e => Heap.get?_push_of_some _ (Heap.get?_push_of_some _ e)
  have hget : ((hp.push (PySem.W.kdv_tup [])).push (PySem.HandSPX.excO C hp.objs.size)).get? (hp.objs.size + 1) = some (PySem.HandSPX.excO C hp.objs.size) := by heap_get
  have I2 : Inv X pins σ (upd H (hp.objs.size + 1) (exo (hp.objs.size + 1) C none)) ⟨(hp.push (PySem.W.kdv_tup [])).push (PySem.HandSPX.excO C hp.objs.size), g, dr, tk, os⟩ :=
    I1.laid (t' := tk) (a := hp.objs.size + 1) (o := exo (hp.objs.size + 1) C none) (h' := (hp.push (PySem.W.kdv_tup [])).push (PySem.HandSPX.excO C hp.objs.size)) kk hsz (exo_ok hget)
  have F1 : FnOk X.prog X.w X.K X.mg X.base CX0 0 fI fd (("self" : Str) :: []) (spErr C []) := ok_err R.T R.S
  generalize ea : hp.objs.size + 1 = a at hn hget I2 hsz
  have hq : spErr C [] [.ref a] (upd H a (exo a C none)) (fun v H2 => v = .non ∧ H2 = upd H a (exo a C none)) (fun _ _ _ => False) := ⟨a, [], rfl, rfl, upd_same, fun _ => ⟨rfl, rfl⟩, fun z => absurd rfl z⟩
  refine wpAny_call (PySem.HandSPX.call_own F.excBase_ValueError (fun Y => PySem.HandSPX.refsVE_contains Y bm hbm) (I1.kIn _ _ hC) (PySem.W.looks_findIn I1.kIn R.T.iC) (fun self => PySem.W.bind_fn I1.kIn self R.T.tI) (Nat.zero_le _) ?_)
  rw [ea]
  refine codeAny_mono (F1.run _ X.stack _ _ ⟨[.ref a], []⟩ [.ref a] [.ref a] _ (fun _ _ _ => False) (hr.make C [] []) (I2.env0.make C [] []) (R.b _ [.ref a] I2.kIn rfl) (.cons rfl .nil) hq) fun r s' hq' => ?_
  cases r with
  | error er => exact hq'.elim
  | ok fl =>
    cases fl with
    | ret u =>
      obtain ⟨v, H2, os2, bare2, un2, hok2, rv, ev, eH⟩ := hq'
      subst ev
      subst eH
      obtain ⟨h2, g2, d2, t2, os'⟩ := s'
      refine ⟨rv, ?_⟩
      obtain ⟨t0, hoe⟩ := exo_at hok2 upd_same
      obtain ⟨G, g1', g2'⟩ := restrict h2 fun b => decide (b ≠ a)
      have gk : ∀ b, b ≠ a → G.get? b = h2.get? b := fun b hb => g1' b (decide_eq_true hb)
      have ge : G.get? a = none := g2' a (by simp)
      have nha : ∀ {b : Addr} {o : Obj}, hp.get? b = some o → b ≠ a := fun {b o} z => Nat.ne_of_lt (Nat.lt_of_lt_of_le (Heap.lt_size z) hsz)
      have up : ∀ {b : Addr}, b ≠ a → H b = none → upd H a (exo a C none) b = none := fun {b} hb n => by rw [upd_ne hb]; exact n
      have U : Un (frs X.stack) [] H H hp G := {
        keep := fun b o z n hf hx => by
          rw [gk b (nha z)]
          exact un2.keep b o (kk b o z) (up (nha z) n) hf hx
        slot := fun b o z n hf hx => by
          rw [gk b (nha z)]
          exact un2.slot b o (kk b o z) (up (nha z) n) hf hx
        free := fun b o z n hx => n
        there := fun b o z hx => by
          rw [gk b (nha z)]
          exact un2.there b o (kk b o z) hx
        tups := fun b xs z => z
        frzs := fun b o v z => z
        tbls := fun b ps z => ⟨#[], by rw [z]; simp⟩ }
      have hok3 : HOk X.prog X.w H G := fun b o z => by
        have hb : b ≠ a := ne_of_none z hn
        have noa : ∀ {c : Addr} {o : HO}, H c = some o → c ≠ a := fun {c o} hc => ne_of_none hc hn
        exact (hok2 b o (by rw [upd_ne hb]; exact z)).stay (fun c v hc y => by
            have hca : c ≠ a := by
              rcases hc with hc | hc
              · rw [hc]; exact hb
              · exact fun q => by
                  rw [q, upd_same] at hc
                  exact exo_own (Option.some.inj hc)
            rw [gk c hca]
            exact y) (fun c hc => by
              by_cases hca : c = a
              · rw [hca, upd_same] at hc
                exact absurd (Option.some.inj hc) exo_own
              · rw [upd_ne hca] at hc
                exact hc) (fun c xs hc => by
              by_cases hca : c = a
              · rw [hca, upd_same] at hc
                exact absurd (Option.some.inj hc) exo_tup
              · rw [upd_ne hca] at hc
                exact hc)
      have J : Inv X pins σ H ⟨G, g2, d2, t2, os'⟩ := I1.call' (ch := []) os2 U hok3 bare2 (fun b z => absurd z (by simp))
      refine ⟨a, _, _, ⟨G, g2, d2, t2, os'⟩, H, .ref C, none, rfl, J, fun b o z => ?_, ge, hoe, ⟨rfl, rfl⟩, rfl, rfl, hn, rfl, bare2, raises_own T.exC T.tyC, q⟩
      by_cases hba : b = a
      · have z' : G.get? b = some o := z
        rw [hba, ge] at z'
        cases z'
      · exact (gk b hba).symm.trans z
    | next => exact False.elim hq'
    | brk => exact False.elim hq'
    | cont => exact False.elim hq'
theorem ps_err0 {x : Str} {C fI : Addr} {fd : FuncData} {st : Stmt} (R : Er X.prog X.K X.mg x C fI fd st []) (hr : Room 1 X.A) (hc : X.calm = true) (tk : Takes X W) (hg : Gl X x := by rfl) (hdb : (x == ("__debug__" : Str)) = false := by decide) :
    PS X (.Raise (some (.Call (.Name x p) [] [] pos)) none pos2) (fun _ σ H => W (.ref C) none σ H) := ps_raise hc tk (pmk_err0 R hr hg hdb)
end
end My
namespace My
open PySem PySem.Spec PyProof.Rows L2
/-- one clause: the class, the slot of its name, the suite's reading -/
abbrev Clause := Value × Nat × (Addr → Value → Option Addr → TS)
/-- behind the suite the name's slot is empty -/
def wiped (i : Nat) (D : Ends) : Ends := { nx := fun τ G => D.nx (τ.set i none) G, rt := D.rt, bk := fun τ G => D.bk (τ.set i none) G, ct := fun τ G => D.ct (τ.set i none) G }
/-- what the clauses wish of an error of the body, one behind the other -/
def wAsMany (K : PySem.W.Frag) (Wo : WX) (D : Ends) : List Clause → WX
  | [] => Wo
  | (c, i, ts) :: more => fun cls d σ H => ∃ b, PySem.W.exmOne K cls c = some b ∧ (b = true → ∀ a, H a = none → ts a cls d (wiped i D) (σ.set i (some (.ref a))) H) ∧ (b = false → wAsMany K Wo D more cls d σ H)
inductive ClausesOk (X : Cx) : List ExceptHandler → List Clause → Prop
  | nil : ClausesOk X [] []
  | cons {x n : Str} {c : Value} {i : Nat} {ts : Addr → Value → Option Addr → TS} {s0 : Stmt} {suite : List Stmt} {p1 p2 : Pos} {hds : List ExceptHandler} {l : List Clause} (hi : X.N[i]? = some n) (hl : X.env.kindOf n = some .local) (hc : Names X x c)
      (hsu : ∀ (a : Addr) (oe : Obj) (cls : Value) (d : Option Addr) (pn : List (Addr × Obj)), Zc cls d oe → (∃ vs, oe.data = .fields vs) → PSs (X.suite a ((a, oe) :: pn)) (s0 :: suite) (ts a cls d)) (r : ClausesOk X hds l) :
      ClausesOk X (.ExceptHandler (some (.Name x p1)) (some n) (s0 :: suite) p2 :: hds) ((c, i, ts) :: l)
section
variable {X : Cx} {pins : List (Addr × Obj)} {D : Ends} {Wo : WX}
/-- an error that has landed in the frame, looked at by the clauses -/
theorem clauses_run (hs : X.stack = X.env :: X.outer) (hf : X.env.frame = some X.env.locals) (hN : X.N.Nodup) (ok : X.Ok) (tk : Takes X Wo) {a : Addr} {B : Heap} {sI s' : Shared} {σ : L2.St} {H : Hp} {cls : Value} {d : Option Addr} {h3 : Heap}
    (J : Inv X pins σ H sI) (nb : ∀ b o, sI.heap.get? b = some o → b ∉ frs X.stack → B.get? b = some o) (up : sI.heap.UpToSlots h3) (fl : HandSPX.FlyingZ B (X.env :: X.outer) a (Zc cls d) h3) (na : H a = none) (os : s'.os = sI.os) (ag : AllBare s'.gens)
    {hds : List ExceptHandler} {l : List Clause} (ck : ClausesOk X hds l) : wAsMany X.K Wo D l cls d σ H →
      wpAny (model X.prog X.w) X.A (handleBy (.ref a) X.env hds) (SP X pins D) X.xe { s' with heap := h3 } := by
  have J3 : Inv X pins σ H { s' with heap := h3 } := J.landed nb fl.1 up os ag
  obtain ⟨oe3, vs3, he3, hz3, hd3⟩ := fl.there
  have away : a ∉ frs (X.env :: X.outer) := fun hm => by
    obtain ⟨_, ob, eb, nof⟩ := (fl.2.2.1).mem hm
    rw [he3] at eb
    cases eb
    exact nof _ hd3
  have nL : a ≠ X.env.locals := fun z => away (by
    rw [z]
    exact List.mem_filterMap.mpr ⟨X.env, List.mem_cons_self, hf⟩)
  have nF : a ∉ X.fs := fun hm => by
    obtain ⟨e, he, q⟩ := List.mem_filterMap.mp hm
    exact away (List.mem_filterMap.mpr ⟨e, .tail _ he, q⟩)
  have S3 := J3.suite he3 hd3 na nL nF
  have LT : PySem.W.Looks (model X.prog X.w) h3 (typeOf (.ref a)) cls := fun _ _ _ _ k q => wpAny_typeOf_ref (k _ _ he3) (by rw [hz3.1]; exact q)
  induction ck with
  | nil =>
    intro w
    refine wpAny_handleBy_nil ?_
    obtain ⟨_, _, _, oe, vs, tr, _, _, he, _, hd, h1, _⟩ := id fl
    have out : wpAny (model X.prog X.w) X.A (setFlight (.ref a) X.env.frame) (fun _ s4 => wpAny (model X.prog X.w) X.A (throw (.ref a) : Sem Flow) (SP X pins D) X.xe s4) X.xe { s' with heap := h3 } := by
      rw [hf]
      refine HandSPX.setFlight_upZ fl fun h4 held up4 => wpAny_throw (tk _ _ ?_)
      exact ⟨a, B, sI, pins, σ, H, cls, d, rfl, J, nb, up.trans up4, .inr (.inr (by rw [hs]; exact held)), na, os, ag, w⟩
    unfold PySem.passOn
    refine wpAny_bind (wpAny_field he hd h1 ?_)
    rw [if_neg (by simp : ¬ ((Value.ref tr == Value.none) = true))]
    first
      | exact wpAny_bind out
      | exact wpAny_bind (wpAny_pure (wpAny_bind out))
  | @cons x n c i ts s0 suite p1 p2 hds l hi hl hc hsu r ih =>
    rintro ⟨b, hb, yes, no⟩
    refine wpAny_handleBy_cons (codeAny_handlers_test ?_) (fun q => by cases q)
    have look := PySem.W.exm_one (M := model X.prog X.w) J3.kIn LT hb
    have name : ∀ {Q : Value → Shared → Prop} {E : Value → Shared → Prop}, Q c { s' with heap := h3 } → wpAny (model X.prog X.w) (X.A.mark (some (.ref a))) (eval (.Name x p1) X.env) Q E { s' with heap := h3 } := fun q => by
      rcases hc with ⟨hg, hdb, hm | ⟨hm, hv, hn⟩⟩
      · exact ld_glob (X := X.suite a ((a, oe3) :: (X.pn ++ pins))) S3 hg hm q hdb
      · exact ld_blt (X := X.suite a ((a, oe3) :: (X.pn ++ pins))) S3 hg hm hv q hn hdb
    refine name (look.here ?_)
    cases b with
    | false => exact ih (no rfl)
    | true =>
      refine codeAny_handlers_suite_as (HandSPX.lands_againZ fl fun h4 fl4 up4 => ?_)
      have J4 : Inv X pins σ H { s' with heap := h4 } := J.landed nb fl4.1 (up.trans up4) os ag
      obtain ⟨oe4, vs4, he4, hz4, hd4⟩ := fl4.there
      refine store_ok (X := X.suite a ((a, oe4) :: (X.pn ++ pins))) (v := .ref a) (J4.suite he4 hd4 na nL nF) hN hi (.inl hl) rfl (fun s5 S5 => ?_) (.inr hl)
      have gone : ∀ {τ : L2.St} {G : Hp} {s6 : Shared} {Q : Shared → Prop}, Inv (X.suite a ((a, oe4) :: (X.pn ++ pins))) [] τ G s6 → (∀ s7, Inv X pins (τ.set i none) G s7 → Q s7) →
          wpAny (model X.prog X.w) X.A (do bindName X.env n .none; unbindBehindTheSuite X.env n p2) (fun _ s7 => Q s7) X.xe s6 := fun S6 hq => gone_ok (S6.unsuite ok) hN hi hl hq
      refine wpAny_mono ((hsu a oe4 cls d (X.pn ++ pins) hz4 ⟨_, hd4⟩).run [] s5 _ H _ S5 (yes rfl a na)) (fun f s6 he => ?_) (fun _ _ z => z.elim)
      cases f with
      | ret u =>
        obtain ⟨v, τ, G, S6, rv, q⟩ := he
        exact gone S6 fun s7 J7 => ⟨v, _, _, J7, rv, q⟩
      | next => obtain ⟨τ, G, S6, q⟩ := he; exact gone S6 fun s7 J7 => ⟨_, _, J7, q⟩
      | brk => obtain ⟨τ, G, S6, q⟩ := he; exact gone S6 fun s7 J7 => ⟨_, _, J7, q⟩
      | cont => obtain ⟨τ, G, S6, q⟩ := he; exact gone S6 fun s7 J7 => ⟨_, _, J7, q⟩
theorem ps_tryAs {body : List Stmt} {h0 : ExceptHandler} {hds : List ExceptHandler} {l : List Clause} {tb : WX → TS} {pos : Pos} (hs : X.stack = X.env :: X.outer) (hf : X.env.frame = some X.env.locals) (hN : X.N.Nodup) (tk : Takes X Wo)
    (hb : ∀ (W : WX) (pn : List (Addr × Obj)) (xe : Value → Shared → Prop), Takes (X.tr pn xe) W → PassesOwn (model X.prog X.w) X.A X.env xe → PSs (X.tr pn xe) body (tb W)) (ck : ClausesOk X (h0 :: hds) l) :
    PS X (.Try body (h0 :: hds) [] [] pos) (fun D σ H => tb (fun cls d τ G => τ.length = X.N.length → wAsMany X.K Wo D l cls d τ G) D σ H) := by
  refine ⟨fun pins s σ H D I h => ?_⟩
  have ok := I.ok
  have hfr : X.A.frames = some (X.env :: X.outer) := ok.frames.trans (by rw [hs])
  refine wpAny_Try_except (wpAny_mono ((hb (fun cls d τ G => τ.length = X.N.length → wAsMany X.K Wo D l cls d τ G) (X.pn ++ pins) (fun e s1 => wpAny (model X.prog X.w) X.A (noteFrame e X.env) (fun _ s2 => wpAny (model X.prog X.w) X.A (setFlight e none) (fun _ s3 =>
    wpAny (model X.prog X.w) X.A (handleBy e X.env (h0 :: hds)) (SP X pins D) X.xe s3) X.xe s2) X.xe s1) (fun u s' xx => ?_) PassesOwn.looking).run [] s σ H D (I.toTry _) h) (fun f s1 he => ?_) (fun _ _ z => z))
  · obtain ⟨a, B, sI, pins', τ, G, cls, d, rfl, J', nb, up, sky, na, os, ag, w⟩ := xx
    rw [hs] at sky
    refine Sky.land Zc.steady hfr hf sky fun h3 fl up3 => ?_
    exact clauses_run hs hf hN ok tk (J'.ofTry ok) nb (up.trans up3) fl na os ag ck (w J'.len)
  · cases f with
    | ret u => obtain ⟨v, τ, G, J', rv, q⟩ := he; exact ⟨v, τ, G, J'.ofTry ok, rv, q⟩
    | next => obtain ⟨τ, G, J', q⟩ := he; exact wpAny_execs_nil ⟨τ, G, J'.ofTry ok, q⟩
    | brk => obtain ⟨τ, G, J', q⟩ := he; exact ⟨τ, G, J'.ofTry ok, q⟩
    | cont => obtain ⟨τ, G, J', q⟩ := he; exact ⟨τ, G, J'.ofTry ok, q⟩
end
end My
namespace My
open PySem PySem.Spec PyProof.Rows L2
/-- isinstance(e, c), e the error that the suite holds: its class D, its dict d -/
def rIsX (K : PySem.W.Frag) (D a : Addr) (cls : Value) (d : Option Addr) : List V → Hp → VK → Prop := fun xs H Q => ∃ (c : V) (cv : Value) (b : Bool), cls = .ref D ∧ xs = [.ref a, c] ∧ (∀ u, RelV c u → u = cv) ∧ PySem.W.kitOne K (.ref D) cv = some b ∧
  (d = none ∨ ∃ (dd : Addr) (fs : List (Str × V)), d = some dd ∧ H dd = some (.xd fs)) ∧ Q (.bl b) H
theorem call_isX {X : Cx} {a D : Addr} {cls : Value} {d : Option Addr} {oe : Obj} {pn : List (Addr × Obj)} (C : ExcC X.K D) (hz : Zc cls d oe) (hf : ∃ vs, oe.data = .fields vs) : CallR (X.suite a ((a, oe) :: pn)) (.builtin "isinstance") (rIsX X.K D a cls d) := by
  intro pins s σ H xs us Q I r h
  obtain ⟨c, cv, b, rfl, rfl, hcv, e, hd, q⟩ := h
  cases r with
  | cons rx rr =>
  cases rr with
  | cons rt rr =>
  cases rr
  cases rx
  have ec := hcv _ rt
  subst ec
  obtain ⟨hget, _⟩ := I.pin (a, oe) (List.mem_append.mpr (.inl List.mem_cons_self))
  obtain ⟨vs, hv⟩ := hf
  have hcl : (PySem.W.clsIn X.K D).isSome = true := by
    obtain ⟨cd, hc, _⟩ := PySem.W.any_some C.hd
    rw [hc]
    rfl
  have J : ∃ od, PySem.W.InstAt s.heap a oe D od := by
    rcases hd with rfl | ⟨dd, fs, rfl, hdd⟩
    · exact ⟨none, hget, hz.1, by unfold PySem.W.notCls; rw [hv] <;> rfl, by rw [hz.2]; trivial⟩
    · obtain ⟨mA, ⟨o, es, ep, ho, _⟩, _⟩ := (show ObjOk X.prog X.w H s.heap dd (.xd fs) from I.hok dd _ hdd)
      exact ⟨some o, hget, hz.1, by unfold PySem.W.notCls; rw [hv] <;> rfl, by rw [hz.2]; exact ho⟩
  obtain ⟨od, J⟩ := J
  exact PySem.W.kia_one (PySem.W.kitx_exc hcl C.hg C.hk C.hs C.ha C.hn C.ht C.hm) I.kIn J e (fun z => nomatch z) fun tk => ⟨.bl b, H, I.kept (t' := tk) fun _ _ z => z, rfl, q⟩
end My
/-! own errors as values: made, asked for a field, for their class -/
namespace My
open PySem PySem.Spec PyProof.Rows L2
section
variable {X : Cx} {x : Str} {C fI : Addr} {fd : FuncData} {st : Stmt} {fs : List Str} {e : Expr} {es : List Expr} {ta : TA} {p pos : Pos}
/-- the error at a with its fields at d is made -/
def tErr (C : Addr) (fs : List Str) (ta : TA) : TE := fun σ H Q => ta σ H fun vs H1 => vs.length = fs.length ∧ vs.length ≤ 1000 ∧ ∀ a d, H1 a = none → H1 d = none → d ≠ a → Q (.ref a) (upd (upd H1 d (exd d (fs.zip vs).reverse)) a (exo a C (some d)))
theorem made_heap {H : Hp} {a d : Addr} {o1 o2 o3 : HO} (h : d ≠ a) : upd (upd (upd H a o1) d o2) a o3 = upd (upd H d o2) a o3 := by
  funext b
  by_cases h1 : b = a
  · rw [h1, upd_same, upd_same]
  · rw [upd_ne h1, upd_ne h1]
    by_cases h2 : b = d
    · rw [h2, upd_same, upd_same]
    · rw [upd_ne h2, upd_ne h2, upd_ne h1]
theorem pe_err (R : Er X.prog X.K X.mg x C fI fd st fs) (hn0 : fs ≠ []) (hr : Room 1 X.A) (ha : PA X (e :: es) ta) (hg : Gl X x := by rfl)
    (hdb : (x == ("__debug__" : Str)) = false := by decide) (he : starEach (e :: es) X.env = (false, eval e X.env) :: starEach es X.env := by rfl) (hpl : (backTo pos (starEach es X.env)).any (·.1) = false := by rfl) :
    PE X (.Call (.Name x p) (e :: es) [] pos) (tErr C fs ta) := by
  refine ⟨fun pins s σ H Q I h => ?_⟩
  have T := R.T.o
  obtain ⟨nm, q, N, bs, bm, sn, sub, ab, col, dd, k0, k1, k2, k3, k5, hC, hbm⟩ := T.cls
  refine wpAny_Call_Name_kw (ld_glob I hg R.T.gC ?_ hdb)
  refine PySem.W.callWith_K (h₀ := X.base) I.ok.mod.kin T.kC (thn (ha.run pos pins s σ H _ I h) fun us s1 ⟨vs, H1, I1, r1, hvl, hz, q1⟩ => ⟨I1.kIn, ?_⟩) he hpl
  show wpAny _ _ (call (.ref C) us) _ _ _
  obtain ⟨hp, g, dr, tk, os⟩ := s1
  have hsz : hp.objs.size ≤ hp.objs.size + 1 := Nat.le_succ _
  have hn : H1 (hp.objs.size + 1) = none := I1.hok.fresh hsz
  have kk : ∀ b o, hp.get? b = some o → ((hp.push (PySem.W.kdv_tup us)).push (PySem.HandSPX.excO C hp.objs.size)).get? b = some o := fun b o e => Heap.get?_push_of_some _ (Heap.get?_push_of_some _ e)
  have hget : ((hp.push (PySem.W.kdv_tup us)).push (PySem.HandSPX.excO C hp.objs.size)).get? (hp.objs.size + 1) = some (PySem.HandSPX.excO C hp.objs.size) := by heap_get
  have I2 : Inv X pins σ (upd H1 (hp.objs.size + 1) (exo (hp.objs.size + 1) C none)) ⟨(hp.push (PySem.W.kdv_tup us)).push (PySem.HandSPX.excO C hp.objs.size), g, dr, tk, os⟩ :=
    I1.laid (t' := tk) (a := hp.objs.size + 1) (o := exo (hp.objs.size + 1) C none) (h' := (hp.push (PySem.W.kdv_tup us)).push (PySem.HandSPX.excO C hp.objs.size)) kk hsz (exo_ok hget)
  have F1 : FnOk X.prog X.w X.K X.mg X.base CX0 0 fI fd (("self" : Str) :: fs) (spErr C fs) := ok_err R.T R.S
  have r2 : Vals (V.ref (hp.objs.size + 1) :: vs) (Value.ref (hp.objs.size + 1) :: us) := .cons rfl r1
  have hus : us.length ≤ sizeLine := by
    rw [← Paired.length r1, sizeLine_eq]
    omega
  have hl : (Value.ref (hp.objs.size + 1) :: us).length = (("self" : Str) :: fs).length := by
    have e := r1.length
    simp only [List.length_cons]
    omega
  have hq : spErr C fs (V.ref (hp.objs.size + 1) :: vs) (upd H1 (hp.objs.size + 1) (exo (hp.objs.size + 1) C none)) (fun v H2 => v = .non ∧ Q (.ref (hp.objs.size + 1)) H2) (fun _ _ _ => False) := by
    refine ⟨_, vs, rfl, hvl, upd_same, fun z => absurd z hn0, fun _ dx hdx hne => ⟨rfl, ?_⟩⟩
    rw [made_heap hne]
    rw [upd_ne hne] at hdx
    exact q1 _ dx hn hdx hne
  refine wpAny_call (PySem.HandSPX.call_own F.excBase_ValueError (fun Y => PySem.HandSPX.refsVE_contains Y bm hbm) (I1.kIn _ _ hC) (PySem.W.looks_findIn I1.kIn R.T.iC) (fun self => PySem.W.bind_fn I1.kIn self R.T.tI) hus
    (codeAny_mono (F1.run _ X.stack _ _ ⟨Value.ref (hp.objs.size + 1) :: us, []⟩ (Value.ref (hp.objs.size + 1) :: us) _ _ (fun _ _ _ => False) (hr.make C us []) (I2.env0.make C us []) (by
      have z := R.b _ (Value.ref (hp.objs.size + 1) :: us) I2.kIn (by rw [List.append_nil]; exact hl)
      rw [List.append_nil] at z
      exact z) r2 hq) fun r s' hq' => ?_))
  cases r with
  | error er => exact hq'.elim
  | ok fl =>
    cases fl with
    | ret u =>
      obtain ⟨v, H2, os2, bare2, un2, hok2, rv, ev, q2⟩ := hq'
      subst ev
      exact ⟨rv, .ref (hp.objs.size + 1), H2, I2.call' (ch := []) os2 un2 hok2 bare2 (fun b z => absurd z (by simp)), rfl, q2⟩
    | next => exact False.elim hq'
    | brk => exact False.elim hq'
    | cont => exact False.elim hq'
/-- x(), an error without fields -/
def tErr0 (C : Addr) : TE := fun _ H Q => ∀ a, H a = none → Q (.ref a) (upd H a (exo a C none))
theorem pe_err0 (R : Er X.prog X.K X.mg x C fI fd st []) (hr : Room 1 X.A) (hg : Gl X x := by rfl) (hdb : (x == ("__debug__" : Str)) = false := by decide) : PE X (.Call (.Name x p) [] [] pos) (tErr0 C) := by
  refine ⟨fun pins s σ H Q I1 q => ?_⟩
  have T := R.T.o
  obtain ⟨nm, qn, N, bs, bm, sn, sub, ab, col, dd, k0, k1, k2, k3, k5, hC, hbm⟩ := T.cls
  refine wpAny_Call_Name_kw (ld_glob I1 hg R.T.gC ?_ hdb)
  refine PySem.W.callWith_K0 I1.kIn T.kC ?_
  show wpAny _ _ (call (.ref C) []) _ _ _
  obtain ⟨hp, g, dr, tk, os⟩ := s
  have hsz : hp.objs.size ≤ hp.objs.size + 1 := Nat.le_succ _
  have hn : H (hp.objs.size + 1) = none := I1.hok.fresh hsz
  have kk : ∀ b o, hp.get? b = some o → ((hp.push (PySem.W.kdv_tup [])).push (PySem.HandSPX.excO C hp.objs.size)).get? b = some o := fun b o e => Heap.get?_push_of_some _ (Heap.get?_push_of_some _ e)
  have hget : ((hp.push (PySem.W.kdv_tup [])).push (PySem.HandSPX.excO C hp.objs.size)).get? (hp.objs.size + 1) = some (PySem.HandSPX.excO C hp.objs.size) := by heap_get
  have I2 : Inv X pins σ (upd H (hp.objs.size + 1) (exo (hp.objs.size + 1) C none)) ⟨(hp.push (PySem.W.kdv_tup [])).push (PySem.HandSPX.excO C hp.objs.size), g, dr, tk, os⟩ :=
    I1.laid (t' := tk) (a := hp.objs.size + 1) (o := exo (hp.objs.size + 1) C none) (h' := (hp.push (PySem.W.kdv_tup [])).push (PySem.HandSPX.excO C hp.objs.size)) kk hsz (exo_ok hget)
  have F1 : FnOk X.prog X.w X.K X.mg X.base CX0 0 fI fd (("self" : Str) :: []) (spErr C []) := ok_err R.T R.S
  have hq : spErr C [] [.ref (hp.objs.size + 1)] (upd H (hp.objs.size + 1) (exo (hp.objs.size + 1) C none)) (fun v H2 => v = .non ∧ Q (.ref (hp.objs.size + 1)) H2) (fun _ _ _ => False) := ⟨_, [], rfl, rfl, upd_same, fun _ => ⟨rfl, q _ hn⟩, fun z => absurd rfl z⟩
  refine wpAny_call (PySem.HandSPX.call_own F.excBase_ValueError (fun Y => PySem.HandSPX.refsVE_contains Y bm hbm) (I1.kIn _ _ hC) (PySem.W.looks_findIn I1.kIn R.T.iC) (fun self => PySem.W.bind_fn I1.kIn self R.T.tI) (Nat.zero_le _)
    (codeAny_mono (F1.run _ X.stack _ _ ⟨[.ref (hp.objs.size + 1)], []⟩ [.ref (hp.objs.size + 1)] [.ref (hp.objs.size + 1)] _ (fun _ _ _ => False) (hr.make C [] []) (I2.env0.make C [] []) (R.b _ [.ref (hp.objs.size + 1)] I2.kIn rfl) (.cons rfl .nil) hq) fun r s' hq' => ?_))
  cases r with
  | error er => exact hq'.elim
  | ok fl =>
    cases fl with
    | ret u =>
      obtain ⟨v, H2, os2, bare2, un2, hok2, rv, ev, q2⟩ := hq'
      subst ev
      exact ⟨rv, .ref (hp.objs.size + 1), H2, I2.call' (ch := []) os2 un2 hok2 bare2 (fun b z => absurd z (by simp)), rfl, q2⟩
    | next => exact False.elim hq'
    | brk => exact False.elim hq'
    | cont => exact False.elim hq'
/-- e.f, e an own error -/
def tXv (C : Addr) (f : Str) (te : TE) : TE := fun σ H Q => te σ H fun x H1 => ∃ (a d : Addr) (gs : List (Str × V)) (v : V), x = .ref a ∧ H1 a = some (exo a C (some d)) ∧ H1 d = some (exd d gs) ∧ gs.lookup f = some v ∧ Q v H1
theorem pe_xv {n : Str} {te : TE} (T : XfC X.K C) (hno : PySem.W.findIn X.K (.ref C) n = some none) (he : PE X e te) (hb : attributeBase e n X.env (eval e X.env) = eval e X.env := by rfl) : PE X (.Attribute e n pos) (tXv C n te) := by
  refine ⟨fun pins s σ H Q I h => ?_⟩
  refine attr_of hb (thn (he.run pins s σ H _ I h) fun u s1 hh => ?_)
  obtain ⟨x, H1, I1, rx, a, d, gs, v, ex, ea, ed, l, q⟩ := hh
  subst ex
  obtain rfl : u = Value.ref a := rx
  obtain ⟨t1, ha⟩ := exo_at I1.hok ea
  obtain ⟨mA, hns, hr⟩ := exd_at I1.hok ed
  obtain ⟨od, ho, hl⟩ := lookIn_ns hns
  obtain ⟨u, hu, ru⟩ := RelO.some_of (v := v) (o := mA n) (by rw [← l]; exact hr n)
  have J : PySem.W.InstAt s1.heap a _ C (some od) := ⟨ha, rfl, rfl, ho⟩
  exact HandSPX.exc_get I1.kIn J T.ga T.gg T.exC (PySem.W.findObj_own T.hdC hno rfl (by rw [hl, hu])) (handed_of ru) ⟨v, H1, I1.tok _, ru, q⟩
/-- isinstance(e, c), e an own error -/
def rIsV (K : PySem.W.Frag) : List V → Hp → VK → Prop := fun xs H Q => ∃ (a D : Addr) (d : Option Addr) (c : V) (cv : Value) (b : Bool), xs = [.ref a, c] ∧ ExcC K D ∧ H a = some (exo a D d) ∧ (d = none ∨ ∃ (dd : Addr) (gs : List (Str × V)), d = some dd ∧ H dd = some (exd dd gs)) ∧ (∀ u, RelV c u → u = cv) ∧ PySem.W.kitOne K (.ref D) cv = some b ∧ Q (.bl b) H
theorem call_isV : CallR X (.builtin "isinstance") (rIsV X.K) := by
  intro pins s σ H xs us Q I r h
  obtain ⟨a, D, d, c, cv, b, rfl, C, ea, hd, hcv, e, q⟩ := h
  cases r with
  | cons rx rr =>
  cases rr with
  | cons rt rr =>
  cases rr
  cases rx
  have ec := hcv _ rt
  subst ec
  obtain ⟨t1, hget⟩ := exo_at I.hok ea
  have hcl : (PySem.W.clsIn X.K D).isSome = true := by
    obtain ⟨cd, hc, _⟩ := PySem.W.any_some C.hd
    rw [hc]
    rfl
  have J : ∃ od, PySem.W.InstAt s.heap a { cls := .ref D, dict := d, data := .fields #[.ref t1, .none, .none, .none, .bool false, .none] } D od := by
    rcases hd with rfl | ⟨dd, gs, rfl, hdd⟩
    · exact ⟨none, hget, rfl, rfl, trivial⟩
    · obtain ⟨mA, hns, _⟩ := exd_at I.hok hdd
      obtain ⟨o, es, ep, ho, _⟩ := id hns
      exact ⟨some o, hget, rfl, rfl, ho⟩
  obtain ⟨od, J⟩ := J
  exact PySem.W.kia_one (PySem.W.kitx_exc hcl C.hg C.hk C.hs C.ha C.hn C.ht C.hm) I.kIn J e (fun z => nomatch z) fun tk => ⟨.bl b, H, I.kept (t' := tk) fun _ _ z => z, rfl, q⟩
end
end My
/-! own errors made by keywords -/
namespace My
open PySem PySem.Spec PyProof.Rows L2 PySem.HandSPX
section
variable {prog : Program} {w : World} {M : Model} {A : Around} {E : Value → Shared → Prop} {R : Result → Shared → Prop} {h : Heap} {g : Array GenState} {d : Drawn} {t : Nat} {os : OsState}
variable {nm q : Str} {C N : Addr} {bs bm bmB : List Value} {hdct : Bool} {sn : List Str} {sub : List Value} {ab : Bool} {col : Option Bool} {dd : Option Addr} {k0 k1 k2 k3 k5 : Option Value} {B newId initId : String} {kw : List (Str × Value)}
theorem check_new_kw (F : ExcBaseFacts B newId initId bmB) (hT : ∀ X : String, bm.contains (.type X) = bmB.contains (.type X)) {Q : Unit → Shared → Prop}
    (hC : h.get? C = some (excClassObj nm q C N bs bm hdct sn sub ab col dd k0 k1 k2 k3 k5 newId)) (hq : Q () ⟨h, g, d, t, os⟩) : wpAny M A (checkBuiltinCall newId ⟨[.ref C], kw⟩) Q E ⟨h, g, d, t, os⟩ := by
  have hcont : (Value.ref C :: bm).contains (.type B) = true := by rw [List.contains_cons, hT, F.hasB, Bool.or_true]
  have hstar := F.noStar
  simp only [checkBuiltinCall, F.newKind, F.newSplit, F.newRow]
  repeat (first | refine wpAny_loadPart_at hC ?_ | (refine wpAny_isSubtype_exc hC ?_; rw [hcont]) | refine wpAny_staticBase_exc hC ?_ | refine wpAny_madeBy_exc hC ?_ | simp only [bne_self_eq_false, Bool.false_eq_true, if_false] | wp_step)
  exact hq
theorem new_kw (F : ExcBaseFacts B newId initId bmB) (hT : ∀ X : String, bm.contains (.type X) = bmB.contains (.type X))
    (hC : h.get? C = some (excClassObj nm q C N bs bm hdct sn sub ab col dd k0 k1 k2 k3 k5 newId))
    (hq : R (.ok (.ret (.ref (h.objs.size + 1)))) ⟨(h.push { cls := .type "tuple", data := .seq #[] }).push
      { cls := .ref C, data := .fields #[.ref h.objs.size, .none, .none, .none, .bool false, .none] }, g, d, t, os⟩) :
    codeAny (model prog w) A (.builtin newId ⟨[.ref C], kw⟩) R ⟨h, g, d, t, os⟩ := by
  have hends := F.ends
  have hcB : (Value.ref C :: bm).contains (.type B) = true := by rw [List.contains_cons, hT, F.hasB, Bool.or_true]
  have hcA : (Value.ref C :: bm).contains (.type "AttributeError") = false := by rw [List.contains_cons, hT, F.noAttr]; rfl
  have hcN : (Value.ref C :: bm).contains (.type "NameError") = false := by rw [List.contains_cons, hT, F.noName]; rfl
  refine codeAny_builtinAt F.entry ?_
  unfold Builtin.«BaseException.__new__»
  refine PySem.wpAt_bind ?_
  show PySem.wpAt _ _ _ (stack >>= _) _ _ _
  refine PySem.wpAt_bind (PySem.wpAt_stack fun p below => PySem.wpAt_of_wpAny ?_)
  wp_walk
  refine PySem.wpAt_of_wpAny ?_
  rw [F.owner]
  repeat (first | with_reducible refine wpAny_madeHere_exc F.canon hC ?_ | with_reducible refine wpAny_loadPart_at hC ?_ | (with_reducible refine wpAny_isSubtype_exc hC ?_; first | rw [hcB] | rw [hcA] | rw [hcN]) | wp_step)
  show R _ _
  rw [Heap.size_push]
  exact hq
theorem type_call_kw (F : ExcBaseFacts B newId initId bmB) (hT : ∀ X : String, bm.contains (.type X) = bmB.contains (.type X)) {fI : Addr} {Q : Fin → Shared → Prop}
    (hC : h.get? C = some (excClassObj nm q C N bs bm hdct sn sub ab col dd k0 k1 k2 k3 k5 newId))
    (hi : W.Looks (model prog w) h (typeLookup (.ref C) "__init__") (some (.ref fI))) (hb : ∀ self, W.Looks (model prog w) h (bindSpecial (.ref fI) self) (.ref fI, [self]))
    (hq : codeAny (model prog w) A (.call (.ref fI) ⟨[.ref (h.objs.size + 1)], kw⟩)
      (fun r s' => match r with | .ok (.ret v) => v = .none ∧ Q (.done (.ret (.ref (h.objs.size + 1)))) s' | .ok _ => False | .error e => E e s')
      ⟨(h.push (W.kdv_tup [])).push (excO C h.objs.size), g, d, t, os⟩) :
    wpAny (model prog w) A (Builtin.«type.__call__» ⟨[.ref C], kw⟩) Q E ⟨h, g, d, t, os⟩ := by
  repeat (first | with_reducible refine wpAny_loadPart_at hC ?_ | with_reducible refine wpAny_madeBy_exc hC ?_ | wp_step)
  refine codeAny_call_builtin_code (Code.quiet_builtin _ F.quiet) (check_new_kw F hT hC ?_)
  refine new_kw F hT hC ?_
  show wpAny _ _ _ _ _ _
  have k : ∀ b o, h.get? b = some o → ((h.push (W.kdv_tup [])).push (excO C h.objs.size)).get? b = some o := fun b o e => Heap.get?_push_of_some _ (Heap.get?_push_of_some _ e)
  have hC₁ := k _ _ hC
  have hget : ((h.push (W.kdv_tup [])).push (excO C h.objs.size)).get? (h.objs.size + 1) = some (excO C h.objs.size) := by heap_get
  have hcC : (Value.ref C :: bm).contains (.ref C) = true := by simp
  have i1 := hi.keeps k
  have b1 := (hb (.ref (h.objs.size + 1))).keeps k
  unfold isInstance
  repeat (first | with_reducible refine wpAny_loadPart_at hget ?_ | (with_reducible refine wpAny_isSubtype_exc hC₁ ?_; rw [hcC]) | wp_step)
  show wpAny _ _ (typeLookup (.ref C) _) _ _ _
  refine i1.at ?_
  refine wpAny_holding (wpAny_bind (b1.at ?_))
  refine wpAny_bind (wpAny_call (codeAny_mono hq fun r s' z => ?_))
  rcases r with e | (v | _ | _ | _) <;> first | exact z | exact z.elim | skip
  obtain ⟨rfl, z⟩ := z
  first
    | exact wpAny_pure (wpAny_pure z)
    | (wp_walk; exact z)
theorem call_kw (F : ExcBaseFacts B newId initId bmB) (hT : ∀ X : String, bm.contains (.type X) = bmB.contains (.type X)) {fI : Addr}
    (hC : h.get? C = some (excClassObj nm q C N bs bm hdct sn sub ab col dd k0 k1 k2 k3 k5 newId))
    (hi : W.Looks (model prog w) h (typeLookup (.ref C) "__init__") (some (.ref fI))) (hb : ∀ self, W.Looks (model prog w) h (bindSpecial (.ref fI) self) (.ref fI, [self]))
    (hq : codeAny (model prog w) (A.under (.builtin "type.__call__" ⟨[.ref C], kw⟩)) (.call (.ref fI) ⟨[.ref (h.objs.size + 1)], kw⟩) (W.InitBack (h.objs.size + 1) R)
      ⟨(h.push (W.kdv_tup [])).push (excO C h.objs.size), g, d, t, os⟩) :
    codeAny (model prog w) A (.call (.ref C) ⟨[], kw⟩) R ⟨h, g, d, t, os⟩ := by
  have f1 := tc_lookup
  have f2 := tc_bind (.ref C)
  have hTy : (⟨h, g, d, t, os⟩ : Shared).TypeIs (.ref C) "type" := ⟨_, hC, rfl⟩
  refine codeAny_of_tree ?_
  show wpAny _ _ (callAny (.ref C) _) _ _ _
  repeat (any_goals (first | assumption | with_reducible refine wpAny_loadPart_at hC ?_ | wp_step))
  refine ⟨rfl, ?_⟩
  refine codeAny_call_builtin_at (Code.quiet_builtin _ (by decide +kernel)) entry_typeCall (wpAny_check_type_call_sub hC (type_call_kw F hT hC hi hb ?_))
  refine codeAny_mono hq fun r s' z => ?_
  rcases r with e | (v | _ | _ | _) <;> exact z
end
section
variable {X : Cx} {x : Str} {C fI : Addr} {fd : FuncData} {st : Stmt} {fs : List Str} {kws : List Keyword} {ta : TA} {p pos : Pos}
/-- x(f = e, ..), all fields by their names, in their order -/
theorem pe_errK (R : Er X.prog X.K X.mg x C fI fd st fs) (hbk : ∀ (s : Shared) (u : Value) (ws : List Value), ws.length = fs.length → BindsTo s fd ⟨[u], fs.zip ws⟩ ((("self" : Str) :: fs).zip (u :: ws))) (hn0 : fs ≠ []) (hr : Room 1 X.A) (hkw : PK X kws ta) (hg : Gl X x := by rfl)
    (hall : (backToKw pos (keywordEach kws X.env)).all (·.1.isSome) = true := by rfl) (hks : (backToKw pos (keywordEach kws X.env)).filterMap (·.1) = fs := by rfl) (hdb : (x == ("__debug__" : Str)) = false := by decide)
    (hpl : ((backTo pos (starEach [] X.env)).any (·.1) || (backToKw pos (keywordEach kws X.env)).any (·.1.isNone)) = false := by rfl) :
    PE X (.Call (.Name x p) [] kws pos) (tErr C fs ta) := by
  refine ⟨fun pins s σ H Q I h => ?_⟩
  have T := R.T.o
  obtain ⟨nm, q, N, bs, bm, sn, sub, ab, col, dd, k0, k1, k2, k3, k5, hC, hbm⟩ := T.cls
  refine wpAny_Call_Name_kw (ld_glob I hg R.T.gC ?_ hdb)
  refine PySem.W.callWith_KW0 (h₀ := X.base) I.ok.mod.kin T.kC hall (thn (hkw.run pos pins s σ H _ I h) fun us s1 ⟨vs, H1, I1, r1, hvl, hz, q1⟩ => ⟨I1.kIn, ?_⟩) hpl
  rw [hks]
  show wpAny _ _ (call (.ref C) [] (fs.zip us)) _ _ _
  obtain ⟨hp, g, dr, tk, os⟩ := s1
  have hsz : hp.objs.size ≤ hp.objs.size + 1 := Nat.le_succ _
  have hn : H1 (hp.objs.size + 1) = none := I1.hok.fresh hsz
  have kk : ∀ b o, hp.get? b = some o → ((hp.push (PySem.W.kdv_tup [])).push (PySem.HandSPX.excO C hp.objs.size)).get? b = some o := fun b o e => Heap.get?_push_of_some _ (Heap.get?_push_of_some _ e)
  have hget : ((hp.push (PySem.W.kdv_tup [])).push (PySem.HandSPX.excO C hp.objs.size)).get? (hp.objs.size + 1) = some (PySem.HandSPX.excO C hp.objs.size) := by heap_get
  have I2 : Inv X pins σ (upd H1 (hp.objs.size + 1) (exo (hp.objs.size + 1) C none)) ⟨(hp.push (PySem.W.kdv_tup [])).push (PySem.HandSPX.excO C hp.objs.size), g, dr, tk, os⟩ :=
    I1.laid (t' := tk) (a := hp.objs.size + 1) (o := exo (hp.objs.size + 1) C none) (h' := (hp.push (PySem.W.kdv_tup [])).push (PySem.HandSPX.excO C hp.objs.size)) kk hsz (exo_ok hget)
  have F1 : FnOk X.prog X.w X.K X.mg X.base CX0 0 fI fd (("self" : Str) :: fs) (spErr C fs) := ok_err R.T R.S
  have r2 : Vals (V.ref (hp.objs.size + 1) :: vs) (Value.ref (hp.objs.size + 1) :: us) := .cons rfl r1
  have hl : us.length = fs.length := by
    have e := r1.length
    omega
  have hq : spErr C fs (V.ref (hp.objs.size + 1) :: vs) (upd H1 (hp.objs.size + 1) (exo (hp.objs.size + 1) C none)) (fun v H2 => v = .non ∧ Q (.ref (hp.objs.size + 1)) H2) (fun _ _ _ => False) := by
    refine ⟨_, vs, rfl, hvl, upd_same, fun z => absurd z hn0, fun _ dx hdx hne => ⟨rfl, ?_⟩⟩
    rw [made_heap hne]
    rw [upd_ne hne] at hdx
    exact q1 _ dx hn hdx hne
  refine wpAny_call (call_kw F.excBase_ValueError (fun Y => PySem.HandSPX.refsVE_contains Y bm hbm) (I1.kIn _ _ hC) (PySem.W.looks_findIn I1.kIn R.T.iC) (fun self => PySem.W.bind_fn I1.kIn self R.T.tI)
    (codeAny_mono (F1.run _ X.stack _ _ ⟨[Value.ref (hp.objs.size + 1)], fs.zip us⟩ (Value.ref (hp.objs.size + 1) :: us) _ _ (fun _ _ _ => False) (hr.make C [] (fs.zip us)) (I2.env0.make C [] (fs.zip us)) (hbk _ _ _ hl) r2 hq) fun r s' hq' => ?_))
  cases r with
  | error er => exact hq'.elim
  | ok fl =>
    cases fl with
    | ret u =>
      obtain ⟨v, H2, os2, bare2, un2, hok2, rv, ev, q2⟩ := hq'
      subst ev
      exact ⟨rv, .ref (hp.objs.size + 1), H2, I2.call' (ch := []) os2 un2 hok2 bare2 (fun b z => absurd z (by simp)), rfl, q2⟩
    | next => exact False.elim hq'
    | brk => exact False.elim hq'
    | cont => exact False.elim hq'
end
end My
namespace My
open PySem PySem.Spec PyProof.Rows L2
/-- where the __init__ of the class at C stands -/
def fi (K : PySem.W.Frag) (C : Addr) : Addr := match PySem.W.findIn K (.ref C) "__init__" with
  | some (some (.ref f)) => f
  | _ => 0
abbrev Ex (P : Program) (K : PySem.W.Frag) (mg : Str → Option Value) (x : Str) (st : Stmt) (fs : List Str) : Prop := Er P K mg x (fa mg x) (fi K (fa mg x)) (fdOf K (fi K (fa mg x))) st fs
end My
/-! repr of a list of small values, where the guards are known -/
namespace My
open PySem PySem.Spec PyProof.Rows L2
/-- the values of the laws, by what they read -/
inductive Shw (H : Hp) : V → PyData → Prop
  | non : Shw H .non .none
  | bl (b : Bool) : Shw H (.bl b) (.bool b)
  | int (i : Int) : Shw H (.int i) (.int i)
  | str (x : Str) : Shw H (.str x) (.str x)
  | lst {a : Addr} {zs : List Int} (e : H a = some (.lst (zs.map V.int))) : Shw H (.ref a) (.list (zs.map PyData.int))
  | tup {a : Addr} {zs : List Int} (e : H a = some (.tup (zs.map V.int))) : Shw H (.ref a) (.tuple (zs.map PyData.int))
  | dct {a : Addr} (e : H a = some (.dK [])) : Shw H (.ref a) (.dict [])
theorem ints_read {h : Heap} : ∀ {zs : List Int} {us : List Value}, Vals (zs.map V.int) us → ReadsAll h us (zs.map PyData.int) []
  | [], _, r => by cases r; exact .nil
  | z :: zs, _, r => by
    cases r with
    | cons r1 r2 =>
      obtain ⟨t, rfl⟩ := r1
      exact ReadsAll.cons (as := []) (bs := []) (.int z t) (ints_read r2)
/-- sys.modules stands in K as a dict -/
def SysK (K : PySem.W.Frag) : Prop := ∃ o, K.lookup sysModules = some o ∧ o.cls = .type "dict"
section
variable {X : Cx} {pins : List (Addr × Obj)} {σ : L2.St} {H : Hp} {s : Shared}
theorem ne_sys (I : Inv X pins σ H s) (S : SysK X.K) {a : Addr} {o : Obj} (h : s.heap.get? a = some o) (hc : o.cls ≠ .type "dict") : a ≠ sysModules := fun e => by
  obtain ⟨u, hu, hd⟩ := S
  have := I.kIn _ _ hu
  rw [e, this] at h
  cases h
  exact hc hd
theorem Shw.reads (I : Inv X pins σ H s) (S : SysK X.K) {v : V} {d : PyData} {u : Value} (h : Shw H v d) (r : RelV v u) : ∃ as, Reads s.heap u d as ∧ sysModules ∉ as := by
  cases h with
  | non => cases r; exact ⟨_, .none, by simp⟩
  | bl b => cases r; exact ⟨_, .bool b, by simp⟩
  | int i => obtain ⟨t, rfl⟩ := r; exact ⟨_, .int i t, by simp⟩
  | str x => obtain ⟨t, rfl⟩ := r; exact ⟨_, .str x t, by simp⟩
  | @lst a zs e =>
    cases r
    obtain ⟨its, rv, ⟨o, n, ho, hc, _, hd⟩, _⟩ := I.list (SqL.of e)
    refine ⟨_, Reads.list ho hc hd (by simpa using ints_read rv), ?_⟩
    have := ne_sys I S ho (by rw [hc]; decide)
    simp [Ne.symm this]
  | @tup a zs e =>
    cases r
    obtain ⟨its, rv, ⟨o, ho, hc, n, hd⟩, _⟩ := I.tuple (SqT.of e)
    exact ⟨_, Reads.tuple ho hc hd (by simpa using ints_read rv), by simp⟩
  | @dct a e =>
    cases r
    obtain ⟨_, hs, vs, kv, o, es, ep, ho, hx, hdt, r⟩ := I.hok a _ e
    cases kv
    have he : es.toList = [] := by
      have l1 := r.2.1.length
      exact List.length_eq_zero_iff.mp (by simpa using l1)
    refine ⟨_, Reads.dict (kvs := []) (as := []) (bs := []) ho hx.1 hdt (by rw [he]; exact .nil) (by rw [he]; exact .nil), ?_⟩
    have : a ≠ sysModules := by simpa using hs
    simp [Ne.symm this]
theorem Shw.readsAll (I : Inv X pins σ H s) (S : SysK X.K) : ∀ {vs : List V} {ds : List PyData} {us : List Value}, Paired (Shw H) vs ds → Vals vs us → ∃ as, ReadsAll s.heap us ds as ∧ sysModules ∉ as
  | [], _, _, h, r => by
    cases h
    cases r
    exact ⟨_, .nil, by simp⟩
  | v :: vs, _, _, h, r => by
    cases h with
    | cons h1 h2 =>
      cases r with
      | cons r1 r2 =>
        obtain ⟨as, q1, n1⟩ := h1.reads I S r1
        obtain ⟨bs, q2, n2⟩ := Shw.readsAll I S h2 r2
        exact ⟨_, .cons q1 q2, by simp [n1, n2]⟩
end
/-- a small thing to show -/
def smallD (d : PyData) : Bool := d.showable && (decide (d.shown.length ≤ 100) && decide (d.depth ≤ 1))
theorem small_all : ∀ {ds : List PyData}, ds.all smallD = true → PyData.showableAll ds = true ∧ PyData.depthAll ds ≤ 1 ∧ ∀ t ∈ PyData.shownAll ds, t.length ≤ 100
  | [], _ => ⟨by rw [PyData.showableAll], by rw [PyData.depthAll]; omega, by rw [PyData.shownAll]; simp⟩
  | d :: ds, h => by
    obtain ⟨h1, h2⟩ := Bool.and_eq_true_iff.mp h
    obtain ⟨a1, a2⟩ := Bool.and_eq_true_iff.mp h1
    obtain ⟨a3, a4⟩ := Bool.and_eq_true_iff.mp a2
    obtain ⟨b1, b2, b3⟩ := small_all h2
    refine ⟨by rw [PyData.showableAll, a1, b1]; rfl, ?_, fun t ht => ?_⟩
    · rw [PyData.depthAll]
      have := of_decide_eq_true a4
      omega
    · rw [PyData.shownAll] at ht
      rcases List.mem_cons.mp ht with rfl | ht
      · exact of_decide_eq_true a3
      · exact b3 t ht
theorem shown_len : ∀ ds : List PyData, (PyData.shownAll ds).length = ds.length
  | [] => by rw [PyData.shownAll]; rfl
  | d :: ds => by rw [PyData.shownAll, List.length_cons, shown_len ds, List.length_cons]
theorem text_le : ∀ (ts : List Str) (k : Nat) (acc : Str), (∀ t ∈ ts, t.length ≤ 100) → (textFrom k acc ts).length ≤ acc.length + 102 * ts.length
  | [], k, acc, _ => by
    show acc.length ≤ _
    omega
  | t :: ts, k, acc, h => by
    show (textFrom (k + 1) (acc ++ (if k > 0 then ", " else "" : String) ++ t) ts).length ≤ _
    have ih := text_le ts (k + 1) (acc ++ (if k > 0 then ", " else "" : String) ++ t) fun u hu => h u (List.mem_cons_of_mem _ hu)
    have h1 := h t List.mem_cons_self
    have h2 : (Str.ofString (if k > 0 then ", " else "")).length ≤ 2 := by
      split <;> decide +kernel
    rw [Str.length_append, Str.length_append] at ih
    rw [List.length_cons]
    omega
/-- repr of a list of small values -/
def rReprL (K : PySem.W.Frag) : List V → Hp → VK → Prop := fun xs H Q => ∃ (l : Addr) (vs : List V) (ds : List PyData), xs = [.ref l] ∧ H l = some (.lst vs) ∧ Paired (Shw H) vs ds ∧ ds.all smallD = true ∧ ds.length ≤ 1000 ∧ Q (.str (PyData.list ds).shown) H
theorem call_reprL {X : Cx} (S : SysK X.K) (hg : X.A.guards = some []) (hu : X.A.units + 64 < cLine) : CallR X (.builtin "repr") (rReprL X.K) := by
  intro pins s σ H xs us Q I r h
  obtain ⟨l, vs, ds, rfl, hl, hp, hs, hn, q⟩ := h
  rw [Vals.ref1 r]
  obtain ⟨its, rv, ⟨o, n, ho, hc, _, hd⟩, _⟩ := I.list (SqL.of hl)
  obtain ⟨as, hr, ns⟩ := Shw.readsAll I S hp rv
  obtain ⟨s1, s2, s3⟩ := small_all hs
  have hne := ne_sys I S ho (by rw [hc]; decide)
  have R : Reads s.heap (.ref l) (.list ds) (l :: as) := Reads.list ho hc hd (by simpa using hr)
  refine PySem.repr_of_reads' (h₀ := s.heap) R (by rw [PyData.showable]; exact s1) (fun _ => by simp [Ne.symm hne, ns]) hg ?_ (fun _ _ z => z) (fun h' u tk k => ⟨.str (PyData.list ds).shown, H, I.kept (t' := tk) k, ⟨u, rfl⟩, q⟩) ?_
  · have : (PyData.list ds).depth = PyData.depthAll ds + 1 := by rw [PyData.depth]
    omega
  · show (PyData.shown (.list ds)).length ≤ sizeLine
    rw [PyData.shown]
    unfold listText
    rw [Str.length_append, sizeLine_eq]
    have h1 := text_le (PyData.shownAll ds) 0 "[" s3
    rw [shown_len] at h1
    have h2 : (Str.ofString "[").length = 1 := by decide +kernel
    have h3 : (Str.ofString "]").length = 1 := by decide +kernel
    omega
end My
/-! the head's facts: the layer's hookX, with the own errors' __init__ and the statics -/
namespace My
open PySem PySem.Spec PyProof.Rows L2 He
/-! ### an own error's class -/
def oexB (K : PySem.W.Frag) (C : Addr) : Bool := (match K.lookup C with
  | some ⟨.type t, _, .cls cd, sl⟩ => (match cd.mro, sl.toList with
    | .ref C' :: bm, [_, _, _, _, some (.builtin n), _] => decide (t = "type") && (decide (C' = C) && (decide (n = "ValueError.__new__") && (!cd.hasDel && (cd.hasDict && PySem.HandSPX.refsVE bm))))
    | _, _ => false)
  | _ => false) && (decide (PySem.W.findIn K (.ref C) "__setattr__" = some (some (.builtin "object.__setattr__"))) && (decide (PySem.W.subIn K (.ref C) (.type "BaseException") = some true) && (decide (PySem.W.typeIn K (.ref C) = some (.type "type")) && PySem.W.keepIn K (.ref C))))
theorem oexB_ok {K : PySem.W.Frag} {C : Addr} (h : oexB K C = true) : OexC K C := by
  obtain ⟨h1, h⟩ := ba h
  obtain ⟨h2, h⟩ := ba h
  obtain ⟨h3, h⟩ := ba h
  obtain ⟨h4, h5⟩ := ba h
  refine ⟨?_, of_decide_eq_true h2, of_decide_eq_true h3, of_decide_eq_true h4, h5⟩
  split at h1
  · rename_i t dd cd sl hl
    split at h1
    · rename_i C' bm k0 k1 k2 k3 n k5 hm hs
      obtain ⟨a1, h1⟩ := ba h1
      obtain ⟨a2, h1⟩ := ba h1
      obtain ⟨a3, h1⟩ := ba h1
      obtain ⟨a4, h1⟩ := ba h1
      obtain ⟨a5, a6⟩ := ba h1
      obtain rfl := of_decide_eq_true a1
      obtain rfl := of_decide_eq_true a2
      obtain rfl := of_decide_eq_true a3
      obtain ⟨nm, bs, mro, ns, q, hdct, sn, sub, ab, col, del⟩ := cd
      have e1 : mro = _ := hm
      have e2 : del = false := by simpa using a4
      have e3 : hdct = true := a5
      have e4 : sl = #[k0, k1, k2, k3, some (.builtin "ValueError.__new__"), k5] := by
        rw [← Array.toList_inj, hs]
      subst e1 e2 e3 e4
      exact ⟨_, _, _, _, _, _, _, _, _, _, _, _, _, _, _, hl, a6⟩
    · cases h1
  · cases h1
/-! ### its __init__ -/
structure IniD where
  cls : Str
  st : Stmt
  fs : List Str
abbrev IniW : Type := Option (Str × Arguments × FuncBody × Scope × Addr × Addr)
def iniW (K : PySem.W.Frag) (C : Addr) : IniW := match K.lookup (fi K C) with
  | some ⟨_, _, .func fd, _⟩ => some (fd.name, fd.params, fd.body, fd.scope, fd.globals, fd.builtins)
  | _ => none
def IniD.val (d : IniD) : IniW := some ("__init__", defArgs d.st, .stmts (defBody d.st), defScope d.st, mainGlobals, builtinsNs)
def codeB (file : Str) (K : PySem.W.Frag) (c : Addr) : Bool := match K.lookup c with
  | some ⟨_, _, .fields vs, _⟩ => (match (vs[2]? : Option Value) with
    | some (.str f _) => decide (f = file)
    | _ => false)
  | _ => false
def cellB (K : PySem.W.Frag) (c C : Addr) : Bool := match K.lookup c with
  | some ⟨_, _, .cell (some (.ref D)), _⟩ => decide (D = C)
  | _ => false
def iniB (file : Str) (K : PySem.W.Frag) (C : Addr) : Bool := match K.lookup (fi K C) with
  | some ⟨_, _, .func fd, _⟩ => decide (fd.defaults = .none) && (match fd.code, fd.closure with
    | .ref c, [(n, cc)] => decide (n = "__class__") && (PySem.W.codeIn K (.ref c) fd.qualname && (codeB file K c && cellB K cc C))
    | _, _ => false)
  | _ => false
def errB (file : Str) (K : PySem.W.Frag) (C : Addr) (fs : List Str) : Bool := oexB K C && (decide (PySem.W.findIn K (.ref C) "__init__" = some (some (.ref (fi K C)))) && (decide (PySem.W.typeIn K (.ref (fi K C)) = some (.type "function")) && (iniB file K C &&
  (decide (PySem.W.ks_superIn K C C "__init__" = some (some (.builtin "ValueError.__init__"))) && (decide (PySem.W.subIn K (.ref C) (.type "ValueError") = some true) && (decide (PySem.W.mroIn K C (.ref C) = some true) && (decide (PySem.W.nsIn K cStatics "thirdparty.any" = some none) &&
  ((fs.all fun f => decide (PySem.W.findIn K (.ref C) f = some none)) && xfB K C))))))))
theorem err_ok {P : Program} {K : PySem.W.Frag} {mg : Str → Option Value} {d : IniD} (gC : mg d.cls = some (.ref (fa mg d.cls))) (h : errB P.main.file K (fa mg d.cls) d.fs = true) (hi : iniW K (fa mg d.cls) = d.val) (S : ErrS d.st d.fs) (sup : mg "super" = none) (top : (P.main.scope.names.lookup ("super" : Str)).isSome = false)
    (hb : ∀ (q : Str) (kV dc pm : Value) (an : Option Addr) (cdv ct : Value) (cc : Addr) (us : List Value), us.length = (("self" : Str) :: d.fs).length → bindArgs (PySem.W.ksFn "__init__" q (defArgs d.st) (defBody d.st) (defScope d.st) .none kV dc pm an cdv ct cc) ⟨us, []⟩ = pure ((("self" : Str) :: d.fs).zip us)) :
    Ex P K mg d.cls d.st d.fs := by
  obtain ⟨h1, h⟩ := ba h
  obtain ⟨h2, h⟩ := ba h
  obtain ⟨h3, h⟩ := ba h
  obtain ⟨h4, h⟩ := ba h
  obtain ⟨h5, h⟩ := ba h
  obtain ⟨h6, h⟩ := ba h
  obtain ⟨h7, h⟩ := ba h
  obtain ⟨h8, h⟩ := ba h
  obtain ⟨h9, h10⟩ := ba h
  have key : ∃ (oc : Value) (od : Option Addr) (q : Str) (kV dc pm : Value) (an : Option Addr) (cda : Addr) (ct : Value) (cc : Addr) (osl : Array (Option Value)) (vs : Array Value) (file : Str) (tf : Tok) (ccl : Value) (cdd : Option Addr) (ccs : Array (Option Value)) (cl : Value) (cld : Option Addr) (csl : Array (Option Value)),
      fdOf K (fi K (fa mg d.cls)) = PySem.W.ksFn "__init__" q (defArgs d.st) (defBody d.st) (defScope d.st) .none kV dc pm an (.ref cda) ct cc ∧ K.lookup (fi K (fa mg d.cls)) = some ⟨oc, od, .func (fdOf K (fi K (fa mg d.cls))), osl⟩ ∧ PySem.W.codeIn K (.ref cda) q = true ∧ K.lookup cda = some ⟨ccl, cdd, .fields vs, ccs⟩ ∧ vs[2]? = some (.str file tf) ∧ ((P.main.file : Str) == file) = true ∧ K.lookup cc = some ⟨cl, cld, .cell (some (.ref (fa mg d.cls))), csl⟩ := by
    unfold iniB at h4
    unfold iniW at hi
    unfold fdOf
    split at h4
    · rename_i oc od fd osl hl
      rw [hl] at hi ⊢
      obtain ⟨a1, h4⟩ := ba h4
      split at h4
      · rename_i c n cc hc hcl
        obtain ⟨a2, h4⟩ := ba h4
        obtain ⟨a3, h4⟩ := ba h4
        obtain ⟨a4, a5⟩ := ba h4
        obtain ⟨n1, n2, n3, n4, n5, n6, n7, n8, n9, n10, n11, n12, n13, n14, n15⟩ := fd
        have e2 : (some (n1, n3, n4, n5, n6, n15) : IniW) = some (("__init__" : Str), defArgs d.st, FuncBody.stmts (defBody d.st), defScope d.st, mainGlobals, builtinsNs) := hi
        simp only [Option.some.injEq, Prod.mk.injEq] at e2
        obtain ⟨e1, e3, e4, e5, e6, e7⟩ := e2
        have e8 : n8 = .none := of_decide_eq_true a1
        have e9 : n13 = .ref c := hc
        have e10 : n7 = [(n, cc)] := hcl
        have e11 : n = "__class__" := of_decide_eq_true a2
        subst e1 e3 e4 e5 e6 e7 e8 e9 e10 e11
        unfold codeB at a4
        split at a4
        · rename_i ccl cdd vs ccs hk
          split at a4
          · rename_i file tf hv
            unfold cellB at a5
            split at a5
            · rename_i cl cld D csl hcc
              obtain rfl := of_decide_eq_true a5
              have ef : file = P.main.file := of_decide_eq_true a4
              exact ⟨oc, od, n2, n9, n10, n11, n12, c, n14, cc, osl, vs, file, tf, ccl, cdd, ccs, cl, cld, csl, rfl, rfl, a3, hk, hv, by rw [ef]; exact beq_self_eq_true _, hcc⟩
            · cases a5
          · cases a4
        · cases a4
      · cases h4
    · cases h4
  refine ⟨⟨oexB_ok h1, gC, of_decide_eq_true h2, of_decide_eq_true h3, key, of_decide_eq_true h5, of_decide_eq_true h6, of_decide_eq_true h7, of_decide_eq_true h8, sup, top, fun f hf => of_decide_eq_true (List.all_eq_true.mp h9 f hf)⟩, S, ?_, xfB_ok h10⟩
  obtain ⟨oc, od, q, kV, dc, pm, an, cda, ct, cc, osl, vs, file, tf, ccl, cdd, ccs, cl, cld, csl, e, _⟩ := key
  rw [e]
  exact .all (hb q kV dc pm an (.ref cda) ct cc)
/-- its keywords, all of them, in their order -/
theorem kw_of {P : Program} {K : PySem.W.Frag} {mg : Str → Option Value} {x : Str} {st : Stmt} {fs : List Str} (R : Ex P K mg x st fs)
    (hb : ∀ (q : Str) (kV dc pm : Value) (an : Option Addr) (cdv ct : Value) (cc : Addr) (u : Value) (ws : List Value), ws.length = fs.length → bindArgs (PySem.W.ksFn "__init__" q (defArgs st) (defBody st) (defScope st) .none kV dc pm an cdv ct cc) ⟨[u], fs.zip ws⟩ = pure ((("self" : Str) :: fs).zip (u :: ws))) :
    ∀ (s : Shared) (u : Value) (ws : List Value), ws.length = fs.length → BindsTo s (fdOf K (fi K (fa mg x))) ⟨[u], fs.zip ws⟩ ((("self" : Str) :: fs).zip (u :: ws)) := fun s u ws hl => by
  obtain ⟨oc, od, q, kV, dc, pm, an, cda, ct, cc, osl, vs, file, tf, ccl, cdd, ccs, cl, cld, csl, e, _⟩ := R.T.lk
  rw [e]
  exact .of_eq (hb q kV dc pm an (.ref cda) ct cc u ws hl)
/-! ### the Hook -/
/-- what an object names: a dict's values, a sequence's items, a class's namespace, a def's code and cells -/
def refsM (o : Obj) : List Addr := match o.data with
  | .seq its _ => its.toList.flatMap refV
  | .dict es _ => es.toList.flatMap fun e => refV e.val
  | .func fd => refV fd.code ++ fd.closure.map (·.2)
  | .cls cd => [cd.ns]
  | _ => []
def newM (g : Addr → Option Obj) (as : List Addr) : List Addr := as.flatMap fun a => match g a with
  | some o => refsM o
  | none => []
/-- what the module's names reach in n steps, level by level -/
def asM (g : Addr → Option Obj) : Nat → List Addr → List Addr
  | 0, as => as
  | n + 1, as => as ++ asM g n (newM g as)
structure SaysM (fa : List Fa) (fn : List DefD) (ts : List Tab) (tf : List Defn) (ex : PySem.W.Frag → Bool) (ini : List IniD) (w : World) (h : Heap) (K : PySem.W.Frag) : Prop where
  t : SaysT fa fn ts w K
  more : ex K = true
  hd : ∀ p ∈ tf, PySem.W.codeHdIn K (cT K p).1 (cT K p).2 = true
  out : ∀ p ∈ tf, K.lookup (cT K p).2 = none
  empty : ∀ p ∈ tf, h.get? (cT K p).2 = some { cls := .none, data := .fields #[] }
  inis : ini.map (fun d => iniW K (ga K d.cls)) = ini.map IniD.val
abbrev AlM : Type := (AlT × Bool) × List IniW
def obsK (fa : List Fa) (fn : List DefD) (ts : List Tab) (tf : List Defn) (ex : PySem.W.Frag → Bool) (ini : List IniD) (g : Addr → Option Obj) (K : PySem.W.Frag) : AlM := ((obsT fa fn ts K, ex K && tabsB g tf K), ini.map fun d => iniW K (ga K d.cls))
def obsM (n : Nat) (fa : List Fa) (fn : List DefD) (ts : List Tab) (tf : List Defn) (ex : PySem.W.Frag → Bool) (ini : List IniD) (g : Addr → Option Obj) : AlM := obsK fa fn ts tf ex ini g (frT g (cStatics :: sysModules :: asM g n [mainGlobals]))
def valM (fn : List DefD) (ts : List Tab) (ini : List IniD) (w : World) : AlM := ((valT fn ts w, true), ini.map IniD.val)
theorem saysM_of {as : List Addr} {fa : List Fa} {fn : List DefD} {ts : List Tab} {tf : List Defn} {ex : PySem.W.Frag → Bool} {ini : List IniD} {w : World} {h : Heap} (e : obsK fa fn ts tf ex ini h.get? (frT h.get? as) = valM fn ts ini w) : SaysM fa fn ts tf ex ini w h (frT h.get? as) := by
  have e1 : obsT fa fn ts (frT h.get? as) = valT fn ts w := congrArg (fun z : AlM => z.1.1) e
  have e2 : (ex (frT h.get? as) && tabsB h.get? tf (frT h.get? as)) = true := congrArg (fun z : AlM => z.1.2) e
  have e3 : ini.map (fun d => iniW (frT h.get? as) (ga (frT h.get? as) d.cls)) = ini.map IniD.val := congrArg (fun z : AlM => z.2) e
  obtain ⟨h1, h2⟩ := ba e2
  have key : ∀ p ∈ tf, PySem.W.codeHdIn (frT h.get? as) (cT (frT h.get? as) p).1 (cT (frT h.get? as) p).2 = true ∧ ∃ o, h.get? (cT (frT h.get? as) p).2 = some o ∧ emptyTab o = true := fun p hp => by
    obtain ⟨h3, h4⟩ := ba (List.all_eq_true.mp h2 p hp)
    refine ⟨h3, ?_⟩
    cases q : h.get? (cT (frT h.get? as) p).2 with
    | none =>
      rw [q] at h4
      cases h4
    | some o =>
      rw [q] at h4
      exact ⟨o, rfl, h4⟩
  exact ⟨e1, h1, fun p hp => (key p hp).1, fun p hp => by
    obtain ⟨_, o, q, z⟩ := key p hp
    exact frT_none q z, fun p hp => by
    obtain ⟨_, o, q, z⟩ := key p hp
    rw [q, emptyTab_eq z], e3⟩
def hookM (n : Nat) (fa : List Fa) (fn : List DefD) (ts : List Tab) (tf : List Defn) (ex : PySem.W.Frag → Bool) (ini : List IniD) : PySem.W.Hook where
  α := AlM
  obs := fun s => obsM n fa fn ts tf ex ini s.heap.get?
  val := fun w => valM fn ts ini w
  says := fun w h => ∃ K : PySem.W.Frag, K.In h ∧ SaysM fa fn ts tf ex ini w h K
  of := fun _ _ e => ⟨_, frT_in, saysM_of e⟩
  keeps := fun _ _ _ ⟨K, hK, c⟩ k => ⟨K, PySem.W.Frag.In.keeps hK k, ⟨c.t, c.more, c.hd, c.out, fun p hp => k _ _ (c.empty p hp), c.inis⟩⟩
theorem obsM_eq {n : Nat} {fa : List Fa} {fn : List DefD} {ts : List Tab} {tf : List Defn} {ex : PySem.W.Frag → Bool} {ini : List IniD} {g : Addr → Option Obj} {s : Shared} (h : ∀ a, g a = s.heap.get? a) : obsM n fa fn ts tf ex ini g = (hookM n fa fn ts tf ex ini).obs s := by
  have e : g = s.heap.get? := funext h
  rw [e] <;> rfl
theorem SaysM.ini {fa : List Fa} {fn : List DefD} {ts : List Tab} {tf : List Defn} {ex : PySem.W.Frag → Bool} {ini : List IniD} {w : World} {h : Heap} {K : PySem.W.Frag} (c : SaysM fa fn ts tf ex ini w h K) {d : IniD} (hd : d ∈ ini) : iniW K (ga K d.cls) = d.val := by
  obtain ⟨i, hi, e⟩ := List.mem_iff_getElem.mp hd
  have e2 := congrArg (fun l => l[i]?) c.inis
  simp only [List.getElem?_map, List.getElem?_eq_getElem hi, Option.map_some, e] at e2
  exact Option.some.inj e2
/-- a def by its datum -/
theorem df_of {K : PySem.W.Frag} {h : Heap} {mg : Str → Option Value} {fa0 : List Fa} {fn : List DefD} {x : Str} {st : Stmt} {ps : List Str} (X : K.In h) (G : h.Ns mainGlobals mg) (c : SaysD fa0 fn K) (hg : Fa.glo x ∈ fa0) (hd : (⟨(x, none), x, x, defArgs st, defBody st, defScope st, [], []⟩ : DefD) ∈ fn)
    (b : ∀ (kV doc pm : Value) (an : Option Addr) (cdv ct : Value) (us : List Value), us.length = ps.length → bindArgs (PySem.W.fnOf x x (defArgs st) (defBody st) (defScope st) .none kV doc pm an cdv ct) ⟨us, []⟩ = pure (ps.zip us)) : Df K mg x st ps := by
  obtain ⟨fd, F⟩ := c.defs hd
  obtain ⟨oc, od, dV, kV, doc, pm, an, cdv, ct, osl, e, lk, hcd, hdv, _⟩ := F.ex
  obtain rfl : dV = .none := by
    rcases hdv with ⟨_, z⟩ | ⟨z, _⟩
    · exact z
    · exact absurd rfl z
  subst e
  exact Df.of X G (eqO_ok (c.facts hg)) lk hcd F.kp b
theorem fa_ga {K : PySem.W.Frag} {h : Heap} {mg : Str → Option Value} {fa0 : List Fa} {fn : List DefD} {x : Str} (X : K.In h) (G : h.Ns mainGlobals mg) (c : SaysD fa0 fn K) (hg : Fa.glo x ∈ fa0) : mg x = some (.ref (My.fa mg x)) ∧ My.fa mg x = ga K x := by
  have e := glo_ok X G (c.facts hg)
  have e2 := fa_eq e
  rw [e2]
  exact ⟨e, rfl⟩
end My
/-! an own error under isinstance, by one Bool -/
namespace My
open PySem PySem.Spec PyProof.Rows L2 He
def excB (K : PySem.W.Frag) (D : Addr) : Bool := (decide (PySem.W.findIn K (.ref D) "__getattribute__" = some (some (.builtin "BaseException.__getattribute__"))) && (decide (PySem.W.findIn K (.ref D) "__getattr__" = some none) && (decide (PySem.W.subIn K (.ref D) (.type "BaseException") = some true) && (PySem.W.hasDictIn K D && (decide (PySem.W.findIn K (.ref D) "__class__" = some (some (.builtin "object.__class__"))) && (decide (PySem.W.specialIn K (.builtin "object.__class__") "__get__" = some (some (.builtin "getset_descriptor.__get__"))) && (decide (PySem.W.takesIn K (.builtin "object.__class__") = some true) && decide (PySem.W.mroIn K D (.type "object") = some true))))))))
theorem excB_ok {K : PySem.W.Frag} {D : Addr} (h : excB K D = true) : ExcC K D := by
  obtain ⟨h1, h⟩ := ba h
  obtain ⟨h2, h⟩ := ba h
  obtain ⟨h3, h⟩ := ba h
  obtain ⟨h4, h⟩ := ba h
  obtain ⟨h5, h⟩ := ba h
  obtain ⟨h6, h⟩ := ba h
  obtain ⟨h7, h8⟩ := ba h
  exact ⟨of_decide_eq_true h1, of_decide_eq_true h2, of_decide_eq_true h3, h4, of_decide_eq_true h5, of_decide_eq_true h6, of_decide_eq_true h7, of_decide_eq_true h8⟩
end My
/-! the end of a law row whose law is promised at the caller's own state (its guards are known): the layer's end with tables, turned -/
namespace LamX
open PySem PySem.Spec PyProof.Rows L2
/-- the promise of a def that the caller itself calls -/
structure FnAt (P : Program) (w : World) (K : PySem.W.Frag) (mg : Str → Option Value) (base : Heap) (CX : CXT) (f : Addr) (fd : FuncData) (ps : List Str) (sp : Sp) : Prop where
  run : ∀ (outer : List Env) (s : Shared) (H : Hp) (args : Args) (us : List Value) (vs : List V) (Q : VK) (E : XK), Env0 P w K mg base callerA outer s H → BindsTo s fd args (ps.zip us) → Vals vs us → sp vs H Q E →
    codeAny (model P w) callerA (.call (.ref f) args) (CR CX outer P w H s Q E) s
theorem FnAt.of {P : Program} {w : World} {K : PySem.W.Frag} {mg : Str → Option Value} {base : Heap} {x qual : Str} {st : Stmt} {f : Addr} {fd : FuncData} {N ps : List Str} {k : Nat} {sp : Sp} {cv : Value} (F : Fun K x qual st f fd) (hc : fd.code = cv) (S : FnScope N ps (defScope st)) (hr : Room (k + 1) callerA) (len : ∀ vs H Q E, sp vs H Q E → vs.length = ps.length)
    (hbody : ∀ (outer : List Env) (s : Shared) (H : Hp) (vs : List V) (Q : VK) (E : XK), Room k (callerA.deeper (envOfC qual (defScope st) s.heap.objs.size f cv)) → sp vs H Q E →
      ∃ t, PSs (cxOf CX0 P w K mg base N qual (defScope st) f cv callerA outer s H E).nox (defBody st) t ∧ t { nx := fun _ H' => Q .non H', rt := Q } (start N vs) H) : FnAt P w K mg base CX0 f fd ps sp := by
  obtain ⟨oc, od, kV, doc, pm, an, cdv, ct, osl, rfl, lk, hcd⟩ := F.ex
  have e : cdv = cv := hc
  subst e
  refine ⟨fun outer s H args us vs Q E e0 hb r hsp => ?_⟩
  refine run_ofS lk hcd S hr e0 hb r (len _ _ _ _ hsp) fun hr' => ?_
  obtain ⟨t, h, q⟩ := hbody outer s H vs Q E hr' hsp
  exact ⟨t, h.nox, q⟩
/-- law_call with tables: cs, the code objects and their tables -/
theorem law_callA {P : Program} {w : World} {K : PySem.W.Frag} {mg mb : Str → Option Value} {CX : CXT} {fa a : Addr} {cs : List (Addr × Addr)} {fd : FuncData} {x : Str} {sp : Sp} {s₁ : Shared} {vs : List Value} {ns : List Int}
    (KX : K.In s₁.heap) (hns : s₁.heap.Ns mainGlobals mg) (hb : s₁.heap.Ns builtinsNs mb) (hbb : ∀ x : Str, x ≠ "__name__" → mb x = bootBuiltins x) (hlim : s₁.heap.NoLimit) (hg : s₁.gens = #[])
    (hT : ∀ p ∈ cs, s₁.heap.get? p.2 = some { cls := .none, data := .fields #[] }) (nT : ∀ p ∈ cs, K.lookup p.2 = none) (C : ∀ p ∈ cs, PySem.W.CodeHd s₁.heap p.1 p.2)
    (hbm : ∃ (bm : Addr) (ob : Obj), mg "__builtins__" = some (.ref bm) ∧ bm ≠ builtinsNs ∧ s₁.heap.get? bm = some ob ∧ ob.cls = .type "module" ∧ ob.dict = some builtinsNs ∧ ob.data = .plain)
    (ha : s₁.heap.get? a = some { cls := .type "list", data := .seq vs.toArray }) (hi : IntsAre vs ns) (hl : ns.length ≤ sizeLine) 
    (F : ∀ base : Heap, K.In base → base.Ns mainGlobals mg → (∀ p ∈ cs, TabB base mg p.1 p.2) → FnAt P w K mg base CX fa fd [x] sp) (hbind : ∀ (s : Shared) (u : Value), BindsTo s fd ⟨[u], []⟩ [(x, u)])
    (hsp : ∀ H : Hp, (∀ p ∈ cs, H p.2 = some (.tbl #[])) → SqL K H a (ns.map V.int) → sp [.ref a] H (fun v _ => v = .bl true) fun _ _ _ => False)
    (hCX : ∀ H e s', CX [] H s₁ (fun _ _ _ => False) e s' → False) :
    codeAny (model P w) callerA (.call (.ref fa) ⟨[.ref a], []⟩) (fun r s' => r = .ok (.ret (.bool true)) ∧ OldK s₁.heap s'.heap ∧ s'.os = s₁.os ∧ AllBare s'.gens) s₁ := by
  have rv := vals_ints hi
  have lenV := hi.length
  have isT : ∀ b : Addr, b ∈ cs.map (·.2) → s₁.heap.get? b = some { cls := .none, data := .fields #[] } := fun b hb => by
    obtain ⟨p, hp, e⟩ := List.mem_map.mp hb
    rw [← e]
    exact hT p hp
  have aT : a ∉ cs.map (·.2) := fun z => by
    have q := isT a z
    rw [ha] at q
    have z' : Data.seq vs.toArray _ = Data.fields #[] := congrArg Obj.data (Option.some.inj q)
    cases z'
  have memT : ∀ p ∈ cs, p.2 ∈ cs.map (·.2) := fun p hp => List.mem_map.mpr ⟨p, hp, rfl⟩
  -- from an abstract heap in which nothing but the script and the tables may be tracked
  have core : ∀ H : Hp, (∀ p ∈ cs, H p.2 = some (.tbl #[])) → (∀ b, H b = none ∨ b ∈ cs.map (·.2) ∨ ∃ o xs, H b = some (.frz o (.lst xs))) → SqL K H a (ns.map V.int) → HOk P w H s₁.heap → (∀ b, H b ≠ none → b = a ∨ b ∈ cs.map (·.2)) → (H a ≠ none → K.lookup a = none) →
      codeAny (model P w) callerA (.call (.ref fa) ⟨[.ref a], []⟩) (fun r s' => r = .ok (.ret (.bool true)) ∧ OldK s₁.heap s'.heap ∧ s'.os = s₁.os ∧ AllBare s'.gens) s₁ := by
    intro H hH hO hS hok hA hK
    have base_of : ∀ {b : Addr} {o : Obj}, s₁.heap.get? b = some o → H b = none → (hidT s₁.heap H).get? b = some o := fun e n => hidT_get e n
    have noD : ∀ {b : Addr} {o : Obj}, s₁.heap.get? b = some o → (∀ vs n, o.data ≠ .seq vs n) → o.data ≠ .fields #[] → H b = none := fun {b o} e h1 h2 => by
      cases q : H b with
      | none => rfl
      | some u =>
        rcases hA b (by rw [q]; simp) with e' | e'
        · rw [e', ha] at e
          cases e
          exact (h1 _ _ rfl).elim
        · rw [isT b e'] at e
          cases e
          exact (h2 rfl).elim
    have noA : ∀ {b : Addr} {o : Obj} {es : Array DictEntry} {ep : Nat}, s₁.heap.get? b = some o → o.data = .dict es ep → H b = none := fun {b o es ep} e d => by
      refine noD e (fun vs n z => ?_) fun z => ?_
      · rw [d] at z
        cases z
      · rw [d] at z
        cases z
    have nsK : ∀ {b : Addr} {m : Str → Option Value}, s₁.heap.Ns b m → (hidT s₁.heap H).Ns b m := fun {b m} ⟨o, es, ep, e, d, r⟩ => ⟨o, es, ep, base_of e (noA e d), d, r⟩
    have hKb : K.In (hidT s₁.heap H) := fun b o e => base_of (KX b o e) (by
      cases q : H b with
      | none => rfl
      | some u =>
        rcases hA b (by rw [q]; simp) with e' | e'
        · rw [e'] at e q
          rw [hK (by rw [q]; simp)] at e
          cases e
        · obtain ⟨p, hp, ep⟩ := List.mem_map.mp e'
          rw [← ep, nT p hp] at e
          cases e)
    have hM : L2.Mod K mg (hidT s₁.heap H) := ⟨hKb, nsK hns, ⟨mb, nsK hb, hbb⟩, let ⟨mc, h1, h2⟩ := hlim; ⟨mc, nsK h1, h2⟩⟩
    have TB : ∀ p ∈ cs, TabB (hidT s₁.heap H) mg p.1 p.2 := fun p hp => by
      have hTp := hT p hp
      refine ⟨?_, ?_, fun z => ?_⟩
      · obtain ⟨o, us, file, tf, flags, tg, inF, text, tt, e1, r1, r2, r3, r4, r5, r6, r7, r8, hne⟩ := C p hp
        refine ⟨o, us, file, tf, flags, tg, inF, text, tt, base_of e1 (noD e1 (fun vs n z => ?_) fun z => ?_), r1, r2, r3, r4, r5, r6, r7, r8, hne⟩
        · rw [r2] at z
          cases z
        · rw [r2] at z
          cases z
          simp at r3
      · obtain ⟨bm, ob, b1, b2, b3, b4, b5, b6⟩ := hbm
        have nG : bm ≠ mainGlobals := fun q => by
          obtain ⟨o, es, ep, e, hd, _⟩ := hns
          rw [q, e] at b3
          cases b3
          rw [hd] at b6
          cases b6
        have nP : bm ≠ p.2 := fun q => by
          rw [q, hTp] at b3
          cases b3
          cases b6
        refine ⟨bm, ob, b1, b2, nG, nP, base_of b3 (noD b3 (fun vs n z => ?_) fun z => ?_), b4, b5, b6⟩
        · rw [b6] at z
          cases z
        · rw [b6] at z
          cases z
      · obtain ⟨o, es, ep, e, hd, _⟩ := hns
        rw [z, hTp] at e
        cases e
        cases hd
    have e0 : Env0 P w K mg (hidT s₁.heap H) callerA [] s₁ H := ⟨rfl, hM, fun b o e => of_hidT e, Nat.le_of_eq (hidT_size _ _), trivial, fun b hb => absurd (show b ∈ ([] : List Addr) from hb) (by simp), hok, .of_eq hg⟩
    refine codeAny_mono ((F _ hKb (nsK hns) TB).run [] s₁ H ⟨[.ref a], []⟩ [.ref a] [.ref a] _ _ e0 (hbind s₁ (.ref a)) (.cons rfl .nil) (hsp H hH hS)) fun r s' h => ?_
    cases r with
    | error e => exact (hCX H e s' h).elim
    | ok fl =>
      cases fl with
      | next => exact False.elim h
      | brk => exact False.elim h
      | cont => exact False.elim h
      | ret u =>
        obtain ⟨v, H', os, bare, un, hok', r', q⟩ := h
        have q' : v = .bl true := q
        subst q'
        obtain rfl : u = Value.bool true := r'
        have key : ∀ b o, b ∉ cs.map (·.2) → s₁.heap.get? b = some o → s'.heap.get? b = some o := fun b o nb e => by
          cases q : H b with
          | none => exact un.keep b o e q (by intro z; exact absurd (show b ∈ ([] : List Addr) from z) (by simp)) (by simp)
          | some u =>
            rcases hO b with z | z | ⟨ob, xs, z⟩
            · rw [q] at z; cases z
            · exact absurd z nb
            · have z2 := un.frzs b ob _ z
              obtain ⟨e1, _⟩ := hok b _ z
              obtain ⟨e2, _⟩ := hok' b _ z2
              rw [e] at e1; cases e1
              exact e2
        have grown : ∀ p ∈ cs, ∃ more : Array Value, s'.heap.get? p.2 = some { cls := .none, data := .fields more } := fun p hp => by
          obtain ⟨more, z⟩ := un.tbls p.2 #[] (hH p hp)
          exact ⟨_, hok' p.2 _ z⟩
        refine ⟨rfl, ⟨fun b o e => ?_, fun b o e => ?_⟩, os, bare⟩
        · by_cases hb : b ∈ cs.map (·.2)
          · obtain ⟨p, hp, ep⟩ := List.mem_map.mp hb
            obtain ⟨more, hm⟩ := grown p hp
            rw [← ep] at e ⊢
            rw [hT p hp] at e
            cases e
            exact .inr (.inl ⟨((C p hp).tab (hT p hp)).isCodeTable, rfl, #[], more, rfl, by rw [Array.empty_append]; exact hm⟩)
          · exact .inl (key b o hb e)
        · by_cases hb : b ∈ cs.map (·.2)
          · obtain ⟨p, hp, ep⟩ := List.mem_map.mp hb
            obtain ⟨more, hm⟩ := grown p hp
            rw [← ep]
            exact ⟨_, hm⟩
          · exact ⟨o, key b o hb e⟩
  cases hk : K.lookup a with
  | some o =>
    have e := KX a o hk
    rw [ha] at e
    cases e
    refine core (fun b => if b ∈ cs.map (·.2) then some (.tbl #[]) else none) (fun p hp => if_pos (memT p hp)) (fun b => ?_) (.inr ⟨_, vs.toArray, _, hk, rfl, rfl, rfl, by rw [List.size_toArray, lenV]; exact hl, by simpa using rv⟩) (fun b u z => ?_) (fun b z => ?_) fun z => absurd (show (if a ∈ cs.map (·.2) then some (HO.tbl #[]) else none) = none from if_neg aT) z
    · by_cases hb : b ∈ cs.map (·.2)
      · exact .inr (.inl hb)
      · exact .inl (if_neg hb)
    · by_cases hb : b ∈ cs.map (·.2)
      · have z' := (if_pos hb).symm.trans z
        cases z'
        exact isT b hb
      · have z' := (if_neg hb).symm.trans z
        cases z'
    · by_cases hb : b ∈ cs.map (·.2)
      · exact .inr hb
      · exact absurd (if_neg hb) z
  | none =>
    refine core (fun b => if b = a then some (.frz { cls := .type "list", data := .seq vs.toArray } (.lst (ns.map V.int))) else if b ∈ cs.map (·.2) then some (.tbl #[]) else none) (fun p hp => (if_neg (show ¬ p.2 = a from fun z => aT (by rw [← z]; exact memT p hp))).trans (if_pos (memT p hp))) (fun b => ?_)
      (.inl (.inr ⟨{ cls := .type "list", data := .seq vs.toArray }, if_pos rfl⟩)) (fun b u z => ?_) (fun b z => ?_) fun _ => hk
    · by_cases hb : b = a
      · exact .inr (.inr ⟨_, _, if_pos hb⟩)
      · by_cases hb2 : b ∈ cs.map (·.2)
        · exact .inr (.inl hb2)
        · exact .inl ((if_neg hb).trans (if_neg hb2))
    · by_cases hb : b = a
      · have z' := (if_pos hb).symm.trans z
        cases z'
        rw [hb]
        exact ⟨ha, by rw [List.length_map]; exact hl, vs, _, rv, ha⟩
      · have z1 := (if_neg hb).symm.trans z
        by_cases hb2 : b ∈ cs.map (·.2)
        · have z' := (if_pos hb2).symm.trans z1
          cases z'
          exact isT b hb2
        · have z' := (if_neg hb2).symm.trans z1
          cases z'
    · by_cases hb : b = a
      · exact .inl hb
      · by_cases hb2 : b ∈ cs.map (·.2)
        · exact .inr hb2
        · exact absurd ((if_neg hb).trans (if_neg hb2)) z
/-- what is known of the law's promise at the head's heap h -/
def LawAtA (l : PySem.W.OpenLaw) (w : World) (K : PySem.W.Frag) (CX : CXT) (n : Nat) (x : Str) (mg : Str → Option Value) (fa : Addr) (h : Heap) : Prop :=
  ∃ (fd : FuncData) (cs : List (Addr × Addr)) (sp : Sp), (∀ p ∈ cs, h.get? p.2 = some { cls := .none, data := .fields #[] }) ∧ (∀ p ∈ cs, K.lookup p.2 = none) ∧ (∀ p ∈ cs, PySem.W.CodeHd h p.1 p.2) ∧ (∀ (s : Shared) (u : Value), BindsTo s fd ⟨[u], []⟩ [(x, u)]) ∧
    (∀ (H : Hp) (a : Addr) (ns : List Int), ns.length ≤ n → (∀ z ∈ ns, Builtin.Int.intBits z ≤ 1048576) → (∀ p ∈ cs, H p.2 = some (.tbl #[])) → SqL K H a (ns.map V.int) → sp [.ref a] H (fun v _ => v = .bl true) fun _ _ _ => False) ∧
    ∀ base : Heap, K.In base → base.Ns mainGlobals mg → (∀ p ∈ cs, TabB base mg p.1 p.2) → FnAt l.prog w K mg base CX fa fd [x] sp
theorem walk_ofA {l : PySem.W.OpenLaw} {n : Nat} {q : Program} {loose : List Str} {XP : (Str → Option Value) → Heap → Prop} {YP : World → Heap → Prop} {d : DefRec} {CX : World → CXT} {x : Str}
    (hn : l.most = some n) (hn2 : n ≤ sizeLine) (hdf : d.params.defaults = [])
    (F : ∀ (w : World) (mg : Str → Option Value) (fa : Addr) (h : Heap), YP w h → h.Ns mainGlobals mg → mg d.name = some (.ref fa) → ∃ K : PySem.W.Frag, K.In h ∧ LawAtA l w K (CX w) n x mg fa h)
    (hCX : ∀ (w : World) (H : Hp) (s : Shared) (e : Value) (s' : Shared), CX w [] H s (fun _ _ _ => False) e s' → False) :
    PySem.W.WalkO q loose XP YP l.row.toRowW d [] (fun f vs => PySem.call f vs) := by
  refine Att.attach_callB hn hdf fun w s₀ s₁ mg mb fa o pm cd doc a vs ns G Y ho hd hcd hmg hobj hints hlen hbits hg => ?_
  obtain ⟨K, KX, fd, cs, sp, hT, nT, C, hb, hsp, hF⟩ := F w mg fa _ Y G.T.g hmg
  exact law_callA KX G.T.g G.T.b G.T.builtins G.T.nolimit hg hT nT C G.T.bmain hobj hints (Nat.le_trans hlen hn2) hF hb (fun H hH hS => hsp H a ns hlen hbits hH hS) fun H e s' => hCX w H s₁ e s'
end LamX
namespace My
open PySem PySem.Spec PyProof.Rows L2
def top (i : Nat) : Stmt := PySem.Challenge.pw_searchwalks_k00_errors.main.body.getD i (.Pass ⟨0, 0, 0, 0⟩)
abbrev s_law_pen : Stmt := top 35
theorem sc_law_pen : FnScope ["_law_script"] ["_law_script"] (defScope s_law_pen) := ⟨rfl, rfl, rfl, by decide +kernel, rfl, by decide +kernel, by decide +kernel⟩
abbrev s_law_draw : Stmt := top 36
theorem sc_law_draw : FnScope ["_law_pen_here", "_law_base", "_law_digit", "_law_k", "_law_extent", "_law_cell", "_law_mix"] ["_law_pen_here", "_law_base"] (defScope s_law_draw) := ⟨rfl, rfl, rfl, by decide +kernel, rfl, by decide +kernel, by decide +kernel⟩
abbrev s_law_pick : Stmt := top 37
theorem sc_law_pick : FnScope ["_law_pen_here", "_law_items"] ["_law_pen_here", "_law_items"] (defScope s_law_pick) := ⟨rfl, rfl, rfl, by decide +kernel, rfl, by decide +kernel, by decide +kernel⟩
abbrev s_law_any : Stmt := top 38
theorem sc_law_any : FnScope ["_law_pen_here"] ["_law_pen_here"] (defScope s_law_any) := ⟨rfl, rfl, rfl, by decide +kernel, rfl, by decide +kernel, by decide +kernel⟩
abbrev s_law_by_position : Stmt := top 39
theorem sc_law_by_position : FnScope ["_law_a", "_law_b", "_law_c", "_law_found"] ["_law_a", "_law_b", "_law_c"] (defScope s_law_by_position) := ⟨rfl, rfl, rfl, by decide +kernel, rfl, by decide +kernel, by decide +kernel⟩
abbrev s_law_by_name : Stmt := top 40
theorem sc_law_by_name : FnScope ["_law_a", "_law_b", "_law_c", "_law_found"] ["_law_a", "_law_b", "_law_c"] (defScope s_law_by_name) := ⟨rfl, rfl, rfl, by decide +kernel, rfl, by decide +kernel, by decide +kernel⟩
abbrev s_law_all_made : Stmt := top 41
theorem sc_law_all_made : FnScope ["_law_a", "_law_b", "_law_c", "_law_found"] ["_law_a", "_law_b", "_law_c"] (defScope s_law_all_made) := ⟨rfl, rfl, rfl, by decide +kernel, rfl, by decide +kernel, by decide +kernel⟩
abbrev s_law_kinds : Stmt := top 42
theorem sc_law_kinds : FnScope ["_law_error", "_law_found", "_law_k"] ["_law_error"] (defScope s_law_kinds) := ⟨rfl, rfl, rfl, by decide +kernel, rfl, by decide +kernel, by decide +kernel⟩
abbrev s_law : Stmt := top 43
theorem sc_law : FnScope ["_law_script", "_law_pen_here", "_law_a", "_law_b", "_law_c", "_law_due", "_law_made", "_law_error", "_law_sorts", "_law_part"] ["_law_script"] (defScope s_law) := ⟨rfl, rfl, rfl, by decide +kernel, rfl, by decide +kernel, by decide +kernel⟩
abbrev s_BadTold_init : Stmt := inClass (top 2) 0
abbrev s_BadValue_init : Stmt := inClass (top 3) 0
abbrev s_NoPlace_init : Stmt := inClass (top 4) 0
abbrev s_BadSide_init : Stmt := inClass (top 5) 0
abbrev s_Taken_init : Stmt := inClass (top 6) 0
abbrev s_BadSize_init : Stmt := inClass (top 7) 0
abbrev s_BadOrder_init : Stmt := inClass (top 8) 0
abbrev s_OtherKeys_init : Stmt := inClass (top 9) 0
abbrev s_BadKey_init : Stmt := inClass (top 10) 0
abbrev s_TooMany_init : Stmt := inClass (top 11) 0
abbrev s_BadItem_init : Stmt := inClass (top 12) 0
abbrev s_BadStart_init : Stmt := inClass (top 13) 0
abbrev s_BadGives_init : Stmt := inClass (top 14) 0
abbrev s_BadEnd_init : Stmt := inClass (top 15) 0
abbrev s_BadCase_init : Stmt := inClass (top 16) 0
abbrev s_BadWish_init : Stmt := inClass (top 17) 0
abbrev s_BadStatement_init : Stmt := inClass (top 18) 0
abbrev s_BadText_init : Stmt := inClass (top 19) 0
abbrev s_NoKey_init : Stmt := inClass (top 20) 0
abbrev s_NoStart_init : Stmt := inClass (top 21) 0
abbrev s_BadPlan_init : Stmt := inClass (top 22) 0
abbrev s_NoKind_init : Stmt := inClass (top 23) 0
abbrev s_Unfit_init : Stmt := inClass (top 24) 0
abbrev s_Recalls_init : Stmt := inClass (top 25) 0
abbrev s_Endless_init : Stmt := inClass (top 26) 0
abbrev s_NoControl_init : Stmt := inClass (top 27) 0
abbrev s_BadHeight_init : Stmt := inClass (top 28) 0
abbrev s_BadRule_init : Stmt := inClass (top 29) 0
abbrev s_Ring_init : Stmt := inClass (top 30) 0
abbrev s_NoRule_init : Stmt := inClass (top 31) 0
abbrev s_BadPace_init : Stmt := inClass (top 32) 0
abbrev s_BadRank_init : Stmt := inClass (top 33) 0
end My
namespace My
open PySem PySem.Spec PyProof.Rows L2
/-- the errors, in the order in which the law makes them; those whose kinds are asked -/
def errL : List Str := ["BadTold", "BadValue", "NoPlace", "BadSide", "Taken", "BadSize", "BadOrder", "OtherKeys", "BadKey", "TooMany", "BadItem", "BadStart", "BadGives", "BadEnd", "BadCase", "BadWish", "BadStatement", "BadText", "NoKey", "NoStart", "BadPlan", "NoKind", "Unfit", "Recalls", "Endless", "NoControl", "BadHeight", "BadRule", "Ring", "NoRule", "BadPace", "BadRank"]
def kinL : List Str := ["BadTold", "BadValue", "NoPlace", "BadSize", "Ring", "NoKey", "Unfit", "Endless", "TooMany"]
structure Txt (P : Program) (w : World) (K : PySem.W.Frag) (mg : Str → Option Value) : Prop where
  n_int : mg "int" = none
  n_len : mg "len" = none
  n_abs : mg "abs" = none
  n_list : mg "list" = none
  n_range : mg "range" = none
  n_repr : mg "repr" = none
  n_isinstance : mg "isinstance" = none
  n_ValueError : mg "ValueError" = none
  n_sorted : mg "sorted" = none
  n_super : mg "super" = none
  law_pen : Df K mg "_law_pen" s_law_pen ["_law_script"]
  law_draw : Df K mg "_law_draw" s_law_draw ["_law_pen_here", "_law_base"]
  law_pick : Df K mg "_law_pick" s_law_pick ["_law_pen_here", "_law_items"]
  law_any : Df K mg "_law_any" s_law_any ["_law_pen_here"]
  law_by_position : Df K mg "_law_by_position" s_law_by_position ["_law_a", "_law_b", "_law_c"]
  law_by_name : Df K mg "_law_by_name" s_law_by_name ["_law_a", "_law_b", "_law_c"]
  law_all_made : Df K mg "_law_all_made" s_law_all_made ["_law_a", "_law_b", "_law_c"]
  law_kinds : Df K mg "_law_kinds" s_law_kinds ["_law_error"]
  law : Df K mg "law" s_law ["_law_script"]
  c_WalksError : mg "WalksError" = some (.ref (fa mg "WalksError"))
  sys : SysK K
  e_BadTold : Ex P K mg "BadTold" s_BadTold_init ["place"]
  b_BadTold : ∀ (s : Shared) (u : Value) (ws : List Value), ws.length = (["place"] : List Str).length → BindsTo s (fdOf K (fi K (fa mg "BadTold"))) ⟨[u], (["place"] : List Str).zip ws⟩ ((("self" : Str) :: ["place"]).zip (u :: ws))
  e_BadValue : Ex P K mg "BadValue" s_BadValue_init ["place"]
  b_BadValue : ∀ (s : Shared) (u : Value) (ws : List Value), ws.length = (["place"] : List Str).length → BindsTo s (fdOf K (fi K (fa mg "BadValue"))) ⟨[u], (["place"] : List Str).zip ws⟩ ((("self" : Str) :: ["place"]).zip (u :: ws))
  e_NoPlace : Ex P K mg "NoPlace" s_NoPlace_init ["place"]
  b_NoPlace : ∀ (s : Shared) (u : Value) (ws : List Value), ws.length = (["place"] : List Str).length → BindsTo s (fdOf K (fi K (fa mg "NoPlace"))) ⟨[u], (["place"] : List Str).zip ws⟩ ((("self" : Str) :: ["place"]).zip (u :: ws))
  e_BadSide : Ex P K mg "BadSide" s_BadSide_init ["side"]
  b_BadSide : ∀ (s : Shared) (u : Value) (ws : List Value), ws.length = (["side"] : List Str).length → BindsTo s (fdOf K (fi K (fa mg "BadSide"))) ⟨[u], (["side"] : List Str).zip ws⟩ ((("self" : Str) :: ["side"]).zip (u :: ws))
  e_Taken : Ex P K mg "Taken" s_Taken_init ["place"]
  b_Taken : ∀ (s : Shared) (u : Value) (ws : List Value), ws.length = (["place"] : List Str).length → BindsTo s (fdOf K (fi K (fa mg "Taken"))) ⟨[u], (["place"] : List Str).zip ws⟩ ((("self" : Str) :: ["place"]).zip (u :: ws))
  e_BadSize : Ex P K mg "BadSize" s_BadSize_init ["size"]
  b_BadSize : ∀ (s : Shared) (u : Value) (ws : List Value), ws.length = (["size"] : List Str).length → BindsTo s (fdOf K (fi K (fa mg "BadSize"))) ⟨[u], (["size"] : List Str).zip ws⟩ ((("self" : Str) :: ["size"]).zip (u :: ws))
  e_BadOrder : Ex P K mg "BadOrder" s_BadOrder_init ["order"]
  b_BadOrder : ∀ (s : Shared) (u : Value) (ws : List Value), ws.length = (["order"] : List Str).length → BindsTo s (fdOf K (fi K (fa mg "BadOrder"))) ⟨[u], (["order"] : List Str).zip ws⟩ ((("self" : Str) :: ["order"]).zip (u :: ws))
  e_OtherKeys : Ex P K mg "OtherKeys" s_OtherKeys_init []
  e_BadKey : Ex P K mg "BadKey" s_BadKey_init ["key"]
  b_BadKey : ∀ (s : Shared) (u : Value) (ws : List Value), ws.length = (["key"] : List Str).length → BindsTo s (fdOf K (fi K (fa mg "BadKey"))) ⟨[u], (["key"] : List Str).zip ws⟩ ((("self" : Str) :: ["key"]).zip (u :: ws))
  e_TooMany : Ex P K mg "TooMany" s_TooMany_init ["what", "many", "most"]
  b_TooMany : ∀ (s : Shared) (u : Value) (ws : List Value), ws.length = (["what", "many", "most"] : List Str).length → BindsTo s (fdOf K (fi K (fa mg "TooMany"))) ⟨[u], (["what", "many", "most"] : List Str).zip ws⟩ ((("self" : Str) :: ["what", "many", "most"]).zip (u :: ws))
  e_BadItem : Ex P K mg "BadItem" s_BadItem_init ["index"]
  b_BadItem : ∀ (s : Shared) (u : Value) (ws : List Value), ws.length = (["index"] : List Str).length → BindsTo s (fdOf K (fi K (fa mg "BadItem"))) ⟨[u], (["index"] : List Str).zip ws⟩ ((("self" : Str) :: ["index"]).zip (u :: ws))
  e_BadStart : Ex P K mg "BadStart" s_BadStart_init ["start"]
  b_BadStart : ∀ (s : Shared) (u : Value) (ws : List Value), ws.length = (["start"] : List Str).length → BindsTo s (fdOf K (fi K (fa mg "BadStart"))) ⟨[u], (["start"] : List Str).zip ws⟩ ((("self" : Str) :: ["start"]).zip (u :: ws))
  e_BadGives : Ex P K mg "BadGives" s_BadGives_init ["index"]
  b_BadGives : ∀ (s : Shared) (u : Value) (ws : List Value), ws.length = (["index"] : List Str).length → BindsTo s (fdOf K (fi K (fa mg "BadGives"))) ⟨[u], (["index"] : List Str).zip ws⟩ ((("self" : Str) :: ["index"]).zip (u :: ws))
  e_BadEnd : Ex P K mg "BadEnd" s_BadEnd_init ["index"]
  b_BadEnd : ∀ (s : Shared) (u : Value) (ws : List Value), ws.length = (["index"] : List Str).length → BindsTo s (fdOf K (fi K (fa mg "BadEnd"))) ⟨[u], (["index"] : List Str).zip ws⟩ ((("self" : Str) :: ["index"]).zip (u :: ws))
  e_BadCase : Ex P K mg "BadCase" s_BadCase_init ["index"]
  b_BadCase : ∀ (s : Shared) (u : Value) (ws : List Value), ws.length = (["index"] : List Str).length → BindsTo s (fdOf K (fi K (fa mg "BadCase"))) ⟨[u], (["index"] : List Str).zip ws⟩ ((("self" : Str) :: ["index"]).zip (u :: ws))
  e_BadWish : Ex P K mg "BadWish" s_BadWish_init ["name"]
  b_BadWish : ∀ (s : Shared) (u : Value) (ws : List Value), ws.length = (["name"] : List Str).length → BindsTo s (fdOf K (fi K (fa mg "BadWish"))) ⟨[u], (["name"] : List Str).zip ws⟩ ((("self" : Str) :: ["name"]).zip (u :: ws))
  e_BadStatement : Ex P K mg "BadStatement" s_BadStatement_init ["number"]
  b_BadStatement : ∀ (s : Shared) (u : Value) (ws : List Value), ws.length = (["number"] : List Str).length → BindsTo s (fdOf K (fi K (fa mg "BadStatement"))) ⟨[u], (["number"] : List Str).zip ws⟩ ((("self" : Str) :: ["number"]).zip (u :: ws))
  e_BadText : Ex P K mg "BadText" s_BadText_init ["line"]
  b_BadText : ∀ (s : Shared) (u : Value) (ws : List Value), ws.length = (["line"] : List Str).length → BindsTo s (fdOf K (fi K (fa mg "BadText"))) ⟨[u], (["line"] : List Str).zip ws⟩ ((("self" : Str) :: ["line"]).zip (u :: ws))
  e_NoKey : Ex P K mg "NoKey" s_NoKey_init ["key"]
  b_NoKey : ∀ (s : Shared) (u : Value) (ws : List Value), ws.length = (["key"] : List Str).length → BindsTo s (fdOf K (fi K (fa mg "NoKey"))) ⟨[u], (["key"] : List Str).zip ws⟩ ((("self" : Str) :: ["key"]).zip (u :: ws))
  e_NoStart : Ex P K mg "NoStart" s_NoStart_init ["start"]
  b_NoStart : ∀ (s : Shared) (u : Value) (ws : List Value), ws.length = (["start"] : List Str).length → BindsTo s (fdOf K (fi K (fa mg "NoStart"))) ⟨[u], (["start"] : List Str).zip ws⟩ ((("self" : Str) :: ["start"]).zip (u :: ws))
  e_BadPlan : Ex P K mg "BadPlan" s_BadPlan_init []
  e_NoKind : Ex P K mg "NoKind" s_NoKind_init ["kind"]
  b_NoKind : ∀ (s : Shared) (u : Value) (ws : List Value), ws.length = (["kind"] : List Str).length → BindsTo s (fdOf K (fi K (fa mg "NoKind"))) ⟨[u], (["kind"] : List Str).zip ws⟩ ((("self" : Str) :: ["kind"]).zip (u :: ws))
  e_Unfit : Ex P K mg "Unfit" s_Unfit_init []
  e_Recalls : Ex P K mg "Recalls" s_Recalls_init ["control"]
  b_Recalls : ∀ (s : Shared) (u : Value) (ws : List Value), ws.length = (["control"] : List Str).length → BindsTo s (fdOf K (fi K (fa mg "Recalls"))) ⟨[u], (["control"] : List Str).zip ws⟩ ((("self" : Str) :: ["control"]).zip (u :: ws))
  e_Endless : Ex P K mg "Endless" s_Endless_init []
  e_NoControl : Ex P K mg "NoControl" s_NoControl_init ["control"]
  b_NoControl : ∀ (s : Shared) (u : Value) (ws : List Value), ws.length = (["control"] : List Str).length → BindsTo s (fdOf K (fi K (fa mg "NoControl"))) ⟨[u], (["control"] : List Str).zip ws⟩ ((("self" : Str) :: ["control"]).zip (u :: ws))
  e_BadHeight : Ex P K mg "BadHeight" s_BadHeight_init ["height"]
  b_BadHeight : ∀ (s : Shared) (u : Value) (ws : List Value), ws.length = (["height"] : List Str).length → BindsTo s (fdOf K (fi K (fa mg "BadHeight"))) ⟨[u], (["height"] : List Str).zip ws⟩ ((("self" : Str) :: ["height"]).zip (u :: ws))
  e_BadRule : Ex P K mg "BadRule" s_BadRule_init ["name"]
  b_BadRule : ∀ (s : Shared) (u : Value) (ws : List Value), ws.length = (["name"] : List Str).length → BindsTo s (fdOf K (fi K (fa mg "BadRule"))) ⟨[u], (["name"] : List Str).zip ws⟩ ((("self" : Str) :: ["name"]).zip (u :: ws))
  e_Ring : Ex P K mg "Ring" s_Ring_init ["name"]
  b_Ring : ∀ (s : Shared) (u : Value) (ws : List Value), ws.length = (["name"] : List Str).length → BindsTo s (fdOf K (fi K (fa mg "Ring"))) ⟨[u], (["name"] : List Str).zip ws⟩ ((("self" : Str) :: ["name"]).zip (u :: ws))
  e_NoRule : Ex P K mg "NoRule" s_NoRule_init ["root"]
  b_NoRule : ∀ (s : Shared) (u : Value) (ws : List Value), ws.length = (["root"] : List Str).length → BindsTo s (fdOf K (fi K (fa mg "NoRule"))) ⟨[u], (["root"] : List Str).zip ws⟩ ((("self" : Str) :: ["root"]).zip (u :: ws))
  e_BadPace : Ex P K mg "BadPace" s_BadPace_init ["pace"]
  b_BadPace : ∀ (s : Shared) (u : Value) (ws : List Value), ws.length = (["pace"] : List Str).length → BindsTo s (fdOf K (fi K (fa mg "BadPace"))) ⟨[u], (["pace"] : List Str).zip ws⟩ ((("self" : Str) :: ["pace"]).zip (u :: ws))
  e_BadRank : Ex P K mg "BadRank" s_BadRank_init ["number"]
  b_BadRank : ∀ (s : Shared) (u : Value) (ws : List Value), ws.length = (["number"] : List Str).length → BindsTo s (fdOf K (fi K (fa mg "BadRank"))) ⟨[u], (["number"] : List Str).zip ws⟩ ((("self" : Str) :: ["number"]).zip (u :: ws))
  xc : ∀ x ∈ errL, ExcC K (fa mg x)
  xw : ∀ x ∈ errL, PySem.W.kitOne K (.ref (fa mg x)) (.ref (fa mg "WalksError")) = some true
  xv : ∀ x ∈ errL, PySem.W.kitOne K (.ref (fa mg x)) (.type "ValueError") = some true
  xk : ∀ x ∈ errL, ∀ y ∈ kinL, PySem.W.kitOne K (.ref (fa mg x)) (.ref (fa mg y)) = some (decide (x = y))
end My
namespace My
open PySem PySem.Spec PyProof.Rows L2
local macro_rules | `(tactic| walk_at "r") => `(tactic| repeat' (first | (refine ⟨_, _, rfl, rfl, ?_⟩) | (refine ⟨_, rfl, ?_⟩) | (refine Or.inl ⟨_, rfl, ?_⟩)))
section
variable {P : Program} {w : World} {K : PySem.W.Frag} {mg : Str → Option Value} {base : Heap}
theorem ok_law_draw (T : Txt P w K mg) : Ok P w K mg base CX0 1 "_law_draw" ["_law_pen_here", "_law_base"] spDraw := by
  refine T.law_draw.F.ok sc_law_draw (fun vs H Q E h => ?_) (fun cdv A outer s H vs Q E hr h => ?_)
  · obtain ⟨p, B, m, rfl, _⟩ := h
    rfl
  · obtain ⟨p, B, m, rfl, ⟨c, cs, n, l, hp, hc, hcs, hn0, hnB⟩, hB, hm0, hm1, k⟩ := h
    have hu := hu_of hr
    have ncp : c ≠ p := ne_of hc hp (fun z => nomatch z)
    refine ⟨_, (pss_cons (ps_if (pt_cmpR op_gt (pe_dget hu (pv 0) pe_str (fun _ _ => rfl)) pe_int (nomark _))
  (pss_cons (ps_set (i := 2) sc_law_draw.nd rfl (Or.inl rfl) (pe_op op_modN (pe_callTy call_int1 (by rfl) T.n_int (by decide +kernel) (pa_cons (pe_dget hu (pv 0) pe_str (fun _ _ => rfl)) pa_nil)) (pv 1)))
  (pss_cons (ps_dput hu (pv 0) pe_str (pe_op op_fdivN (pe_dget hu (pv 0) pe_str (fun _ _ => rfl)) (pv 1)) rfl)
  (pss_one (ps_ret (pv 2)))))
  pss_nil)
  (pss_cons (ps_par (by rfl) sc_law_draw.nd (i := 3) (j := 4) rfl rfl (by decide) rfl rfl (pa_cons (pe_dget hu (pv 0) pe_str (fun _ _ => rfl)) (pa_cons (pe_callB call_len_seq (by rfl) T.n_len (by decide +kernel) (pa_cons (pe_dget hu (pv 0) pe_str (fun _ _ => rfl)) pa_nil)) pa_nil)) (by rfl))
  (pss_cons (ps_dput hu (pv 0) pe_str (pe_op op_add (pv 3) pe_int) rfl)
  (pss_cons (ps_set (i := 5) sc_law_draw.nd rfl (Or.inl rfl) (pe_ifExp (pt_cmpR op_gt (pv 4) pe_int (nomark _)) (pe_ix ix_list (pe_dget hu (pv 0) pe_str (fun _ _ => rfl)) (pe_op op_modN (pe_callTy call_int1 (by rfl) T.n_int (by decide +kernel) (pa_cons (pv 3) pa_nil)) (pv 4)) (fun _ _ => rfl)) (pe_op op_add (pe_op op_mul pe_int (pv 3)) pe_int)))
  (pss_cons (ps_if (PW.pt (pw_and (pt_cmpR op_lt (pv 3) (pv 4) (nomark _)) (pw_and1 (pt_cmpR op_ge (pe_callB call_abs (by rfl) T.n_abs (by decide +kernel) (pa_cons (pv 5) pa_nil)) (pe_op op_pow pe_int pe_int) (nomark _)))))
  (pss_cons (ps_dput hu (pv 0) pe_str (pe_op op_fdivN (pe_op op_sub (pe_callB call_abs (by rfl) T.n_abs (by decide +kernel) (pa_cons (pv 5) pa_nil)) (pe_op op_pow pe_int pe_int)) (pv 1)) rfl)
  (pss_one (ps_ret (pe_op op_modN (pe_callTy call_int1 (by rfl) T.n_int (by decide +kernel) (pa_cons (pe_op op_sub (pe_callB call_abs (by rfl) T.n_abs (by decide +kernel) (pa_cons (pv 5) pa_nil)) (pe_op op_pow pe_int pe_int)) pa_nil)) (pv 1)))))
  pss_nil)
  (pss_cons (ps_set (i := 6) sc_law_draw.nd rfl (Or.inl rfl) (pe_op op_modN (pe_callTy call_int1 (by rfl) T.n_int (by decide +kernel) (pa_cons (pe_op op_add (pe_op op_add (pe_op op_add (pe_op op_mul (pe_op op_modN (pe_callTy call_int1 (by rfl) T.n_int (by decide +kernel) (pa_cons (pv 5) pa_nil)) pe_int) pe_int) (pe_op op_mul (pe_op op_mul pe_int (pv 3)) (pv 3))) (pe_op op_mul pe_int (pv 3))) pe_int) pa_nil)) pe_int))
  (pss_cons (ps_set (i := 6) sc_law_draw.nd rfl (Or.inl rfl) (pe_op op_modN (pe_callTy call_int1 (by rfl) T.n_int (by decide +kernel) (pa_cons (pe_op op_add (pe_op op_add (pe_op op_mul (pv 6) (pv 6)) (pe_op op_mul pe_int (pv 6))) (pe_op op_mul pe_int (pv 3))) pa_nil)) pe_int))
  (pss_one (ps_ret (pe_op op_modN (pe_callTy call_int1 (by rfl) T.n_int (by decide +kernel) (pa_cons (pe_op op_fdivN (pe_op op_modN (pe_callTy call_int1 (by rfl) T.n_int (by decide +kernel) (pa_cons (pe_op op_mul (pv 6) (pe_op op_add (pv 6) pe_int)) pa_nil)) pe_int) pe_int) pa_nil)) (pv 1))))))))))), ?_⟩
    refine ⟨_, rfl, p, .int l, rfl, DGet.k (k := Sum.inr "left") hp, ?_⟩
    walk_at "r"
    refine ite2 (fun h => ?_) (fun h => ?_)
    · refine ⟨_, rfl, p, .int l, rfl, DGet.k (k := Sum.inr "left") hp, ?_⟩
      walk_at "r"
      refine ⟨by show m ≠ 0; omega, ?_⟩
      refine ⟨_, rfl, p, .int l, rfl, DGet.k (k := Sum.inr "left") hp, ?_⟩
      walk_at "r"
      refine ⟨cdiv hm0 hm1, ?_⟩
      refine ⟨_, rfl, p, _, rfl, DPut.k (k := Sum.inr "left") hp (by show 3 < sizeLine; decide), ?_⟩
      refine ⟨_, rfl, ?_⟩
      refine k _ _ Sb.put ⟨c, cs, n, l.fdiv m, upd_same, ?_, hcs, hn0, by omega⟩ (fmod_lt hm0).1 (fmod_lt hm0).2
      rw [upd_ne ncp]
      exact hc
    refine ⟨_, rfl, p, .int n, rfl, DGet.k (k := Sum.inr "opened") hp, _, rfl, p, .ref c, rfl, DGet.k (k := Sum.inr "cells") hp, c, _, rfl, .inl (SqL.of hc), ?_⟩
    refine ⟨_, _, rfl, ?_⟩
    refine ⟨_, rfl, _, _, rfl, rfl, ?_⟩
    refine ⟨_, rfl, p, upd H p (.dK (penL c (n + 1) l)), rfl, DPut.k (k := Sum.inr "opened") hp (by show 3 < sizeLine; decide), ?_⟩
    have hp2 : upd H p (.dK (penL c (n + 1) l)) p = some (.dK (penL c (n + 1) l)) := upd_same
    have hc2 : upd H p (.dK (penL c (n + 1) l)) c = some (.lst (cs.map V.int)) := by rw [upd_ne ncp]; exact hc
    have s2 : Sb p H (upd H p (.dK (penL c (n + 1) l))) := Sb.put
    generalize upd H p (.dK (penL c (n + 1) l)) = H2 at hp2 hc2 s2 ⊢
    refine ⟨_, rfl, _, _, rfl, rfl, _, rfl, ?_⟩
    refine ite2 (fun h1 => ?_) (fun h1 => ?_)
    · have hl' : (0 : Int) < ((cs.map V.int).length : Int) := of_decide_eq_true h1
      obtain ⟨z, hz⟩ := at_ints cs (fmod_lt (a := n) hl').1 (by rw [← List.length_map (f := V.int)]; exact (fmod_lt (a := n) hl').2)
      refine ⟨_, rfl, p, .ref c, rfl, DGet.k (k := Sum.inr "cells") hp2, _, rfl, Or.inl ⟨_, rfl, ?_⟩⟩
      refine ⟨_, rfl, _, _, rfl, rfl, (by show ((cs.map V.int).length : Int) ≠ 0; omega), c, _, _, _, rfl, rfl, SqL.of hc2, hz, ?_⟩
      refine ⟨_, rfl, _, rfl, _, _, rfl, rfl, _, rfl, ?_⟩
      refine ite2 (fun h2 => ?_) (fun h2 => ?_)
      · refine ⟨_, rfl, _, rfl, _, _, rfl, rfl, ⟨by decide, by decide, by decide⟩, _, _, rfl, rfl, _, rfl, ?_⟩
        refine ite2 (fun h3 => ?_) (fun h3 => ?_)
        · refine ⟨_, rfl, _, rfl, _, _, rfl, rfl, ⟨by decide, by decide, by decide⟩, _, _, rfl, rfl, _, rfl, _, _, rfl, rfl, cdiv hm0 hm1, ?_⟩
          refine ⟨_, rfl, p, _, rfl, DPut.k (k := Sum.inr "left") hp2 (by show 3 < sizeLine; decide), ?_⟩
          refine ⟨_, rfl, _, rfl, _, _, rfl, rfl, ⟨by decide, by decide, by decide⟩, _, _, rfl, rfl, Or.inl ⟨_, rfl, ?_⟩⟩
          refine ⟨_, rfl, _, _, rfl, rfl, (by show m ≠ 0; omega), ?_⟩
          refine k _ _ (s2.trans Sb.put) ⟨c, cs, n + 1, _, upd_same, ?_, hcs, by omega, by omega⟩ (fmod_lt hm0).1 (fmod_lt hm0).2
          rw [upd_ne ncp]
          exact hc2
        · refine ⟨_, rfl, Or.inl ⟨_, rfl, _, _, rfl, rfl, (by show _ ≠ (0 : Int); decide), _, _, rfl, rfl, cmul_mod (by decide) (by decide), ?_⟩⟩
          refine ⟨_, rfl, _, _, rfl, rfl, cmul_l (by decide) (by decide), _, rfl, _, _, rfl, rfl, Or.inr ⟨by omega, by omega⟩, _, _, rfl, rfl, ?_⟩
          refine ⟨_, rfl, _, _, rfl, rfl, cmul_l (by decide) (by decide), _, _, rfl, rfl, _, _, rfl, rfl, Or.inl ⟨_, rfl, _, _, rfl, rfl, (by show _ ≠ (0 : Int); decide), ?_⟩⟩
          refine ⟨_, rfl, _, rfl, _, _, rfl, rfl, cmul_mod (by decide) (by decide), _, rfl, _, _, rfl, rfl, cmul_l (by decide) (by decide), _, _, rfl, rfl, ?_⟩
          refine ⟨_, rfl, _, _, rfl, rfl, cmul_l (by decide) (by decide), _, _, rfl, rfl, Or.inl ⟨_, rfl, _, _, rfl, rfl, (by show _ ≠ (0 : Int); decide), ?_⟩⟩
          refine ⟨_, rfl, _, rfl, _, _, rfl, rfl, _, _, rfl, rfl, cmul_mod (by decide) (by decide), Or.inl ⟨_, rfl, ?_⟩⟩
          refine ⟨_, _, rfl, rfl, (by show _ ≠ (0 : Int); decide), _, _, rfl, rfl, ⟨by decide, by decide⟩, Or.inl ⟨_, rfl, ?_⟩⟩
          refine ⟨_, rfl, _, _, rfl, rfl, (by show m ≠ 0; omega), ?_⟩
          exact k _ _ s2 ⟨c, cs, n + 1, l, hp2, hc2, hcs, by omega, by omega⟩ (fmod_lt hm0).1 (fmod_lt hm0).2
      · refine ⟨_, rfl, Or.inl ⟨_, rfl, _, _, rfl, rfl, (by show _ ≠ (0 : Int); decide), _, _, rfl, rfl, cmul_mod (by decide) (by decide), ?_⟩⟩
        refine ⟨_, rfl, _, _, rfl, rfl, cmul_l (by decide) (by decide), _, rfl, _, _, rfl, rfl, Or.inr ⟨by omega, by omega⟩, _, _, rfl, rfl, ?_⟩
        refine ⟨_, rfl, _, _, rfl, rfl, cmul_l (by decide) (by decide), _, _, rfl, rfl, _, _, rfl, rfl, Or.inl ⟨_, rfl, _, _, rfl, rfl, (by show _ ≠ (0 : Int); decide), ?_⟩⟩
        refine ⟨_, rfl, _, rfl, _, _, rfl, rfl, cmul_mod (by decide) (by decide), _, rfl, _, _, rfl, rfl, cmul_l (by decide) (by decide), _, _, rfl, rfl, ?_⟩
        refine ⟨_, rfl, _, _, rfl, rfl, cmul_l (by decide) (by decide), _, _, rfl, rfl, Or.inl ⟨_, rfl, _, _, rfl, rfl, (by show _ ≠ (0 : Int); decide), ?_⟩⟩
        refine ⟨_, rfl, _, rfl, _, _, rfl, rfl, _, _, rfl, rfl, cmul_mod (by decide) (by decide), Or.inl ⟨_, rfl, ?_⟩⟩
        refine ⟨_, _, rfl, rfl, (by show _ ≠ (0 : Int); decide), _, _, rfl, rfl, ⟨by decide, by decide⟩, Or.inl ⟨_, rfl, ?_⟩⟩
        refine ⟨_, rfl, _, _, rfl, rfl, (by show m ≠ 0; omega), ?_⟩
        exact k _ _ s2 ⟨c, cs, n + 1, l, hp2, hc2, hcs, by omega, by omega⟩ (fmod_lt hm0).1 (fmod_lt hm0).2
    · refine ⟨_, rfl, _, _, rfl, rfl, cmul_l (by decide) (by decide), _, _, rfl, rfl, ?_⟩
      generalize (89 * n + 43 : Int) = z
      refine ⟨_, rfl, _, rfl, _, _, rfl, rfl, _, rfl, ?_⟩
      refine ite2 (fun h2 => ?_) (fun h2 => ?_)
      · refine ⟨_, rfl, _, rfl, _, _, rfl, rfl, ⟨by decide, by decide, by decide⟩, _, _, rfl, rfl, _, rfl, ?_⟩
        refine ite2 (fun h3 => ?_) (fun h3 => ?_)
        · refine ⟨_, rfl, _, rfl, _, _, rfl, rfl, ⟨by decide, by decide, by decide⟩, _, _, rfl, rfl, _, rfl, _, _, rfl, rfl, cdiv hm0 hm1, ?_⟩
          refine ⟨_, rfl, p, _, rfl, DPut.k (k := Sum.inr "left") hp2 (by show 3 < sizeLine; decide), ?_⟩
          refine ⟨_, rfl, _, rfl, _, _, rfl, rfl, ⟨by decide, by decide, by decide⟩, _, _, rfl, rfl, Or.inl ⟨_, rfl, ?_⟩⟩
          refine ⟨_, rfl, _, _, rfl, rfl, (by show m ≠ 0; omega), ?_⟩
          refine k _ _ (s2.trans Sb.put) ⟨c, cs, n + 1, _, upd_same, ?_, hcs, by omega, by omega⟩ (fmod_lt hm0).1 (fmod_lt hm0).2
          rw [upd_ne ncp]
          exact hc2
        · refine ⟨_, rfl, Or.inl ⟨_, rfl, _, _, rfl, rfl, (by show _ ≠ (0 : Int); decide), _, _, rfl, rfl, cmul_mod (by decide) (by decide), ?_⟩⟩
          refine ⟨_, rfl, _, _, rfl, rfl, cmul_l (by decide) (by decide), _, rfl, _, _, rfl, rfl, Or.inr ⟨by omega, by omega⟩, _, _, rfl, rfl, ?_⟩
          refine ⟨_, rfl, _, _, rfl, rfl, cmul_l (by decide) (by decide), _, _, rfl, rfl, _, _, rfl, rfl, Or.inl ⟨_, rfl, _, _, rfl, rfl, (by show _ ≠ (0 : Int); decide), ?_⟩⟩
          refine ⟨_, rfl, _, rfl, _, _, rfl, rfl, cmul_mod (by decide) (by decide), _, rfl, _, _, rfl, rfl, cmul_l (by decide) (by decide), _, _, rfl, rfl, ?_⟩
          refine ⟨_, rfl, _, _, rfl, rfl, cmul_l (by decide) (by decide), _, _, rfl, rfl, Or.inl ⟨_, rfl, _, _, rfl, rfl, (by show _ ≠ (0 : Int); decide), ?_⟩⟩
          refine ⟨_, rfl, _, rfl, _, _, rfl, rfl, _, _, rfl, rfl, cmul_mod (by decide) (by decide), Or.inl ⟨_, rfl, ?_⟩⟩
          refine ⟨_, _, rfl, rfl, (by show _ ≠ (0 : Int); decide), _, _, rfl, rfl, ⟨by decide, by decide⟩, Or.inl ⟨_, rfl, ?_⟩⟩
          refine ⟨_, rfl, _, _, rfl, rfl, (by show m ≠ 0; omega), ?_⟩
          exact k _ _ s2 ⟨c, cs, n + 1, l, hp2, hc2, hcs, by omega, by omega⟩ (fmod_lt hm0).1 (fmod_lt hm0).2
      · refine ⟨_, rfl, Or.inl ⟨_, rfl, _, _, rfl, rfl, (by show _ ≠ (0 : Int); decide), _, _, rfl, rfl, cmul_mod (by decide) (by decide), ?_⟩⟩
        refine ⟨_, rfl, _, _, rfl, rfl, cmul_l (by decide) (by decide), _, rfl, _, _, rfl, rfl, Or.inr ⟨by omega, by omega⟩, _, _, rfl, rfl, ?_⟩
        refine ⟨_, rfl, _, _, rfl, rfl, cmul_l (by decide) (by decide), _, _, rfl, rfl, _, _, rfl, rfl, Or.inl ⟨_, rfl, _, _, rfl, rfl, (by show _ ≠ (0 : Int); decide), ?_⟩⟩
        refine ⟨_, rfl, _, rfl, _, _, rfl, rfl, cmul_mod (by decide) (by decide), _, rfl, _, _, rfl, rfl, cmul_l (by decide) (by decide), _, _, rfl, rfl, ?_⟩
        refine ⟨_, rfl, _, _, rfl, rfl, cmul_l (by decide) (by decide), _, _, rfl, rfl, Or.inl ⟨_, rfl, _, _, rfl, rfl, (by show _ ≠ (0 : Int); decide), ?_⟩⟩
        refine ⟨_, rfl, _, rfl, _, _, rfl, rfl, _, _, rfl, rfl, cmul_mod (by decide) (by decide), Or.inl ⟨_, rfl, ?_⟩⟩
        refine ⟨_, _, rfl, rfl, (by show _ ≠ (0 : Int); decide), _, _, rfl, rfl, ⟨by decide, by decide⟩, Or.inl ⟨_, rfl, ?_⟩⟩
        refine ⟨_, rfl, _, _, rfl, rfl, (by show m ≠ 0; omega), ?_⟩
        exact k _ _ s2 ⟨c, cs, n + 1, l, hp2, hc2, hcs, by omega, by omega⟩ (fmod_lt hm0).1 (fmod_lt hm0).2
end
end My
namespace My
open PySem PySem.Spec PyProof.Rows L2

def spPenOf (K : PySem.W.Frag) : Sp := fun vs H Q _ => ∃ (a : Addr) (ns : List Int), vs = [.ref a] ∧ SqL K H a (ns.map V.int) ∧ ns.length ≤ 63 ∧ ∀ H' p, Same H H' → Pen H' p 0 → Q (.ref p) H'
def spPick : Sp := fun vs H Q _ => ∃ (p l : Addr) (B : Int) (xs : List V), vs = [.ref p, .ref l] ∧ Pen H p B ∧ B < 1000000 ∧ H l = some (.lst xs) ∧ 0 < xs.length ∧ xs.length < 1000000 ∧
  ∀ H' x, Sb p H H' → Pen H' p (B + 1) → x ∈ xs → Q x H'
/-- a drawn value, by what it reads -/
structure Any (H : Hp) (p : Addr) (v : V) (d : PyData) : Prop where
  s : Shw H v d
  n : v ≠ .ref p
  m : smallD d = true
theorem Any.same {H H' : Hp} {p : Addr} {v : V} {d : PyData} (a : Any H p v d) (s : Same H H') : Any H' p v d := by
  refine ⟨?_, a.n, a.m⟩
  cases a.s with
  | non => exact .non
  | bl b => exact .bl b
  | int i => exact .int i
  | str x => exact .str x
  | lst e => exact .lst (s _ _ e)
  | tup e => exact .tup (s _ _ e)
  | dct e => exact .dct (s _ _ e)
theorem Any.sb {H H' : Hp} {p : Addr} {v : V} {d : PyData} (a : Any H p v d) (s : Sb p H H') : Any H' p v d := by
  obtain ⟨h, n, m⟩ := a
  refine ⟨?_, n, m⟩
  have g : ∀ x u, v = .ref x → H x = some u → H' x = some u := fun x u e h => s _ _ (fun z => n (by rw [e, z])) h
  cases h with
  | non => exact .non
  | bl b => exact .bl b
  | int i => exact .int i
  | str x => exact .str x
  | lst e => exact .lst (g _ _ rfl e)
  | tup e => exact .tup (g _ _ rfl e)
  | dct e => exact .dct (g _ _ rfl e)
def spAny : Sp := fun vs H Q _ => ∃ (p : Addr) (B : Int), vs = [.ref p] ∧ Pen H p B ∧ B < 900000 ∧ ∀ H' v d, Sb p H H' → Pen H' p (B + 2) → Any H' p v d → Q v H'
theorem atI_mem {xs : List V} {z : Int} (h0 : 0 ≤ z) (h : z < (xs.length : Int)) : ∃ v, atI xs z = some v ∧ v ∈ xs := by
  obtain ⟨j, rfl⟩ := Int.eq_ofNat_of_zero_le h0
  have hj : j < xs.length := by omega
  exact ⟨xs[j], atI_nat (List.getElem?_eq_getElem hj), List.getElem_mem hj⟩
theorem cutV_ints (ns : List Int) (lo hi : Option Int) : ∃ ms : List Int, cutV (ns.map V.int) lo hi = ms.map V.int := by
  unfold cutV
  rw [← List.map_drop, ← List.map_take]
  exact ⟨_, rfl⟩
theorem Pen.nn {H : Hp} {p d : Addr} {B : Int} (P : Pen H p B) (h : H d = none) : d ≠ p := fun e => by
  obtain ⟨c, cs, k, l, hp, _⟩ := P
  rw [e, hp] at h
  cases h
theorem small_99 : ∀ z : Nat, z < 99 → smallD (.int (10 ^ 9 + (z : Int))) = true := by decide +kernel
section
variable {P : Program} {w : World} {K : PySem.W.Frag} {mg : Str → Option Value} {base : Heap}
theorem ok_law_pen (T : Txt P w K mg) : Ok P w K mg base CX0 1 "_law_pen" ["_law_script"] (spPenOf K) := by
  refine T.law_pen.F.ok sc_law_pen (fun vs H Q E h => ?_) (fun cdv A outer s H vs Q E hr h => ?_)
  · obtain ⟨a, ns, rfl, _⟩ := h
    rfl
  · obtain ⟨a, ns, rfl, hS, hlen, k⟩ := h
    refine ⟨_, (pss_one (ps_ret (pe_disp (pps_cons pe_str (pe_callTy call_list_of (by rfl) T.n_list (by decide +kernel) (pa_cons (pe_slice sl_list (pv 0) po_none (po_some pe_int)) pa_nil)) (pps_cons pe_str pe_int (pps_cons pe_str pe_int pps_nil))) (by rfl) (by rfl) (fun z => by cases z) (by decide)))), ?_⟩
    intro p hp
    have s1 : Same H (upd H p (.dK [])) := same_new hp
    refine ⟨_, rfl, 63, rfl, a, _, rfl, s1.seq hS, fun q hq => ⟨q, _, rfl, .inl (SqL.of upd_same), fun c hc => ?_⟩⟩
    obtain ⟨ms, em⟩ := cutV_ints ns none (some 63)
    have hl := cutV_length (ns.map V.int) none (some 63)
    rw [em, List.length_map, List.length_map] at hl
    rw [em] at hc ⊢
    have s2 := s1.trans ((same_new (o := .lst (ms.map V.int)) hq).trans (same_new (o := .lst (ms.map V.int)) hc))
    have hp2 := (same_new (o := .lst (ms.map V.int)) hc) _ _ ((same_new (o := .lst (ms.map V.int)) hq) _ _ (upd_same (H := H) (a := p) (o := .dK [])))
    refine ⟨hp2, [(Sum.inr "cells", .ref c), (Sum.inr "opened", .int 0), (Sum.inr "left", .int 0)], rfl, (by show 3 ≤ 15; decide), ?_⟩
    have hcp : c ≠ p := ne_of upd_same hp2 (fun z => nomatch z)
    refine k _ p (fun b o e => ?_) ⟨c, ms, 0, 0, upd_same, ?_, Nat.le_trans hl hlen, Int.le_refl _, Int.le_refl _⟩
    · rw [upd_ne (ne_of_none e hp)]
      exact s2 b o e
    · rw [upd_ne hcp]
      exact upd_same
theorem ok_law_pick (T : Txt P w K mg) : Ok P w K mg base CX0 2 "_law_pick" ["_law_pen_here", "_law_items"] spPick := by
  refine T.law_pick.F.ok sc_law_pick (fun vs H Q E h => ?_) (fun cdv A outer s H vs Q E hr h => ?_)
  · obtain ⟨p, l, B, xs, rfl, _⟩ := h
    rfl
  · obtain ⟨p, l, B, xs, rfl, hp, hB, hl, h0, h1, k⟩ := h
    refine ⟨_, (pss_one (ps_ret (pe_ix ix_list (pv 1) (pc T.law_draw (ok_law_draw T) (hr.mono (by decide)) (pa_cons (pv 0) (pa_cons (pe_callB call_len_seq (by rfl) T.n_len (by decide +kernel) (pa_cons (pv 1) pa_nil)) pa_nil))) (fun _ _ => rfl)))), ?_⟩
    refine ⟨_, rfl, _, rfl, _, rfl, l, _, rfl, .inl (SqL.of hl), p, B, _, rfl, hp, hB, by omega, by omega, fun H' d s' hp' d0 d1 => ?_⟩
    obtain ⟨v, hv, hm⟩ := atI_mem d0 d1
    exact ⟨l, xs, d, v, rfl, rfl, SqL.of (hp.lst s' hl), hv, k H' v s' hp' hm⟩
theorem ok_law_any (T : Txt P w K mg) : Ok P w K mg base CX0 3 "_law_any" ["_law_pen_here"] spAny := by
  refine T.law_any.F.ok sc_law_any (fun vs H Q E h => ?_) (fun cdv A outer s H vs Q E hr h => ?_)
  · obtain ⟨p, B, rfl, _⟩ := h
    rfl
  · obtain ⟨p, B, rfl, hp, hB, k⟩ := h
    refine ⟨_, (pss_one (ps_ret (pc T.law_pick (ok_law_pick T) (hr.mono (by decide)) (pa_cons (pv 0) (pa_cons (pe_lst (pa_cons pe_non (pa_cons pe_bl (pa_cons pe_int (pa_cons pe_int (pa_cons (pe_un un_neg pe_int) (pa_cons (pe_op op_pow pe_int pe_int) (pa_cons pe_str (pa_cons pe_str (pa_cons (pe_tup pa_nil) (pa_cons (pe_tup (pa_cons pe_int (pa_cons pe_int pa_nil))) (pa_cons (pe_lst (pa_cons pe_int pa_nil)) (pa_cons pe_dnewK (pa_cons (pe_op op_add (pe_op op_pow pe_int pe_int) (pc T.law_draw (ok_law_draw T) (hr.mono (by decide)) (pa_cons (pv 0) (pa_cons pe_int pa_nil)))) pa_nil)))))))))))))) pa_nil))))), ?_⟩
    refine ⟨_, rfl, _, rfl, _, _, rfl, rfl, ⟨by decide, by decide, by decide⟩, Nat.zero_le _, fun t1 h1 => ⟨(by show 2 ≤ sizeLine; decide), fun t2 h2 => ⟨(by show 1 ≤ sizeLine; decide), fun l1 h3 => fun d1 h4 => ?_⟩⟩⟩
    have m1 := same_new (o := .tup []) h1
    have m2 := same_new (o := .tup [.int 1, .int 2]) h2
    have m3 := same_new (o := .lst [.int 3]) h3
    have m4 := same_new (o := .dK []) h4
    have e1 := m4 _ _ (m3 _ _ (m2 _ _ (upd_same (H := H) (a := t1) (o := .tup []))))
    have e2 := m4 _ _ (m3 _ _ (upd_same (H := upd H t1 (.tup [])) (a := t2) (o := .tup [.int 1, .int 2])))
    have e3 := m4 _ _ (upd_same (H := upd (upd H t1 (.tup [])) t2 (.tup [.int 1, .int 2])) (a := l1) (o := .lst [.int 3]))
    have e4 := upd_same (H := upd (upd (upd H t1 (.tup [])) t2 (.tup [.int 1, .int 2])) l1 (.lst [.int 3])) (a := d1) (o := .dK [])
    have nd := (((hp.keep m1).keep m2).keep m3).nn h4
    have sm := m1.trans (m2.trans (m3.trans m4))
    have hpM := hp.keep sm
    clear m1 m2 m3 m4 h1 h2 h3 h4
    generalize upd (upd (upd (upd H t1 (.tup [])) t2 (.tup [.int 1, .int 2])) l1 (.lst [.int 3])) d1 (.dK []) = M at *
    refine ⟨_, _, rfl, rfl, ⟨by decide, by decide, by decide⟩, _, rfl, p, B, 99, rfl, hpM, by omega, by decide, by decide, fun G z sG hpG z0 z1 => ?_⟩
    refine ⟨_, _, rfl, rfl, (by show 13 ≤ sizeLine; decide), fun l hl => ?_⟩
    have f1 := hpM.tup sG e1
    have f2 := hpM.tup sG e2
    have f3 := hpM.lst sG e3
    have f4 := sG _ _ nd e4
    refine ⟨p, l, B + 1, _, rfl, hpG.new hl, by omega, upd_same, (by show 0 < 13; decide), (by show 13 < 1000000; decide), fun G2 y s2 hp2 hy => ?_⟩
    have sL := same_new (o := .lst [.non, .bl true, .int 0, .int 5, .int (-1), .int (10 ^ 30), .str "", .str "f", .ref t1, .ref t2, .ref l1, .ref d1, .int (10 ^ 9 + z)]) hl
    have n1 := hpG.ne f1 (fun _ z => nomatch z)
    have n2 := hpG.ne f2 (fun _ z => nomatch z)
    have n3 := hpG.ne f3 (fun _ z => nomatch z)
    have g1 := s2 _ _ n1 (sL _ _ f1)
    have g2 := s2 _ _ n2 (sL _ _ f2)
    have g3 := s2 _ _ n3 (sL _ _ f3)
    have g4 := s2 _ _ nd (sL _ _ f4)
    have key : ∃ d, Any G2 p y d := by
      rcases List.mem_cons.mp hy with rfl | hy
      · exact ⟨_, .non, (fun z => nomatch z), by decide +kernel⟩
      rcases List.mem_cons.mp hy with rfl | hy
      · exact ⟨_, .bl true, (fun z => nomatch z), by decide +kernel⟩
      rcases List.mem_cons.mp hy with rfl | hy
      · exact ⟨_, .int _, (fun z => nomatch z), by decide +kernel⟩
      rcases List.mem_cons.mp hy with rfl | hy
      · exact ⟨_, .int _, (fun z => nomatch z), by decide +kernel⟩
      rcases List.mem_cons.mp hy with rfl | hy
      · exact ⟨_, .int _, (fun z => nomatch z), by decide +kernel⟩
      rcases List.mem_cons.mp hy with rfl | hy
      · exact ⟨_, .int _, (fun z => nomatch z), by decide +kernel⟩
      rcases List.mem_cons.mp hy with rfl | hy
      · exact ⟨_, .str _, (fun z => nomatch z), by decide +kernel⟩
      rcases List.mem_cons.mp hy with rfl | hy
      · exact ⟨_, .str _, (fun z => nomatch z), by decide +kernel⟩
      rcases List.mem_cons.mp hy with rfl | hy
      · exact ⟨_, .tup (zs := []) g1, (fun z => n1 (V.ref.inj z)), by decide +kernel⟩
      rcases List.mem_cons.mp hy with rfl | hy
      · exact ⟨_, .tup (zs := [1, 2]) g2, (fun z => n2 (V.ref.inj z)), by decide +kernel⟩
      rcases List.mem_cons.mp hy with rfl | hy
      · exact ⟨_, .lst (zs := [3]) g3, (fun z => n3 (V.ref.inj z)), by decide +kernel⟩
      rcases List.mem_cons.mp hy with rfl | hy
      · exact ⟨_, .dct g4, (fun z => nd (V.ref.inj z)), by decide +kernel⟩
      obtain rfl := List.mem_singleton.mp hy
      refine ⟨_, .int _, (fun z => nomatch z), ?_⟩
      obtain ⟨j, rfl⟩ := Int.eq_ofNat_of_zero_le z0
      exact small_99 j (by omega)
    obtain ⟨d, hd⟩ := key
    exact k G2 y d ((Sb.of sm).trans (sG.trans ((Sb.new hl).trans s2))) (hp2.mono (by omega)) hd
end
end My
namespace My
open PySem PySem.Spec PyProof.Rows L2

theorem same_made {H : Hp} {a d : Addr} {o1 o2 : HO} (ha : H a = none) (hd : H d = none) : Same H (upd (upd H d o1) a o2) := fun b o e => by
  rw [upd_ne (ne_of_none e ha), upd_ne (ne_of_none e hd)]
  exact e
/-- an error of the class at C stands at a -/
def ErrAt (H : Hp) (a C : Addr) : Prop := ∃ d : Option Addr, H a = some (exo a C d) ∧ (d = none ∨ ∃ (dd : Addr) (gs : List (Str × V)), d = some dd ∧ H dd = some (exd dd gs))
theorem ErrAt.same {H H' : Hp} {a C : Addr} (e : ErrAt H a C) (s : Same H H') : ErrAt H' a C := by
  obtain ⟨d, h1, h2⟩ := e
  refine ⟨d, s _ _ h1, ?_⟩
  rcases h2 with h | ⟨dd, gs, h, h3⟩
  · exact .inl h
  · exact .inr ⟨dd, gs, h, s _ _ h3⟩
def dueL (a b c : V) : List V := [a, a, a, a, a, a, a, a, a, b, c, a, a, a, a, a, a, a, a, a, a, a, a, a, a, a, a, a, a, a]
def spBy : Sp := fun vs H Q _ => ∃ a b c, vs = [a, b, c] ∧ ∀ H' l, Same H H' → H' l = some (.lst (dueL a b c)) → Q (.ref l) H'
def spMade (mg : Str → Option Value) : Sp := fun vs H Q _ => ∃ a b c, vs = [a, b, c] ∧ ∀ H' l (as : List Addr), Same H H' → H' l = some (.lst (as.map V.ref)) → Paired (fun p x => ErrAt H' p (fa mg x)) as errL → Q (.ref l) H'
section
variable {P : Program} {w : World} {K : PySem.W.Frag} {mg : Str → Option Value} {base : Heap}
theorem ok_law_by_position (T : Txt P w K mg) : Ok P w K mg base CX0 2 "_law_by_position" ["_law_a", "_law_b", "_law_c"] spBy := by
  refine T.law_by_position.F.ok sc_law_by_position (fun vs H Q E h => ?_) (fun cdv A outer s H vs Q E hr h => ?_)
  · obtain ⟨a, b, c, rfl, _⟩ := h
    rfl
  · obtain ⟨a, b, c, rfl, k⟩ := h
    refine ⟨_, (pss_cons (ps_set (i := 3) sc_law_by_position.nd rfl (Or.inl rfl) (pe_lst (pa_cons (pe_xv T.e_BadTold.xf (T.e_BadTold.T.nf _ (by decide)) (pe_err T.e_BadTold (by decide) (hr.mono (by decide)) (pa_cons (pv 0) pa_nil))) (pa_cons (pe_xv T.e_BadValue.xf (T.e_BadValue.T.nf _ (by decide)) (pe_err T.e_BadValue (by decide) (hr.mono (by decide)) (pa_cons (pv 0) pa_nil))) (pa_cons (pe_xv T.e_NoPlace.xf (T.e_NoPlace.T.nf _ (by decide)) (pe_err T.e_NoPlace (by decide) (hr.mono (by decide)) (pa_cons (pv 0) pa_nil))) (pa_cons (pe_xv T.e_BadSide.xf (T.e_BadSide.T.nf _ (by decide)) (pe_err T.e_BadSide (by decide) (hr.mono (by decide)) (pa_cons (pv 0) pa_nil))) (pa_cons (pe_xv T.e_Taken.xf (T.e_Taken.T.nf _ (by decide)) (pe_err T.e_Taken (by decide) (hr.mono (by decide)) (pa_cons (pv 0) pa_nil))) pa_nil)))))))
  (pss_cons (ps_set (i := 3) sc_law_by_position.nd rfl (Or.inl rfl) (pe_op op_cat (pv 3) (pe_lst (pa_cons (pe_xv T.e_BadSize.xf (T.e_BadSize.T.nf _ (by decide)) (pe_err T.e_BadSize (by decide) (hr.mono (by decide)) (pa_cons (pv 0) pa_nil))) (pa_cons (pe_xv T.e_BadOrder.xf (T.e_BadOrder.T.nf _ (by decide)) (pe_err T.e_BadOrder (by decide) (hr.mono (by decide)) (pa_cons (pv 0) pa_nil))) (pa_cons (pe_xv T.e_BadKey.xf (T.e_BadKey.T.nf _ (by decide)) (pe_err T.e_BadKey (by decide) (hr.mono (by decide)) (pa_cons (pv 0) pa_nil))) (pa_cons (pe_xv T.e_TooMany.xf (T.e_TooMany.T.nf _ (by decide)) (pe_err T.e_TooMany (by decide) (hr.mono (by decide)) (pa_cons (pv 0) (pa_cons (pv 1) (pa_cons (pv 2) pa_nil))))) pa_nil)))))))
  (pss_cons (ps_set (i := 3) sc_law_by_position.nd rfl (Or.inl rfl) (pe_op op_cat (pv 3) (pe_lst (pa_cons (pe_xv T.e_TooMany.xf (T.e_TooMany.T.nf _ (by decide)) (pe_err T.e_TooMany (by decide) (hr.mono (by decide)) (pa_cons (pv 0) (pa_cons (pv 1) (pa_cons (pv 2) pa_nil))))) (pa_cons (pe_xv T.e_TooMany.xf (T.e_TooMany.T.nf _ (by decide)) (pe_err T.e_TooMany (by decide) (hr.mono (by decide)) (pa_cons (pv 0) (pa_cons (pv 1) (pa_cons (pv 2) pa_nil))))) (pa_cons (pe_xv T.e_BadItem.xf (T.e_BadItem.T.nf _ (by decide)) (pe_err T.e_BadItem (by decide) (hr.mono (by decide)) (pa_cons (pv 0) pa_nil))) (pa_cons (pe_xv T.e_BadStart.xf (T.e_BadStart.T.nf _ (by decide)) (pe_err T.e_BadStart (by decide) (hr.mono (by decide)) (pa_cons (pv 0) pa_nil))) pa_nil)))))))
  (pss_cons (ps_set (i := 3) sc_law_by_position.nd rfl (Or.inl rfl) (pe_op op_cat (pv 3) (pe_lst (pa_cons (pe_xv T.e_BadGives.xf (T.e_BadGives.T.nf _ (by decide)) (pe_err T.e_BadGives (by decide) (hr.mono (by decide)) (pa_cons (pv 0) pa_nil))) (pa_cons (pe_xv T.e_BadEnd.xf (T.e_BadEnd.T.nf _ (by decide)) (pe_err T.e_BadEnd (by decide) (hr.mono (by decide)) (pa_cons (pv 0) pa_nil))) (pa_cons (pe_xv T.e_BadCase.xf (T.e_BadCase.T.nf _ (by decide)) (pe_err T.e_BadCase (by decide) (hr.mono (by decide)) (pa_cons (pv 0) pa_nil))) (pa_cons (pe_xv T.e_BadWish.xf (T.e_BadWish.T.nf _ (by decide)) (pe_err T.e_BadWish (by decide) (hr.mono (by decide)) (pa_cons (pv 0) pa_nil))) pa_nil)))))))
  (pss_cons (ps_set (i := 3) sc_law_by_position.nd rfl (Or.inl rfl) (pe_op op_cat (pv 3) (pe_lst (pa_cons (pe_xv T.e_BadStatement.xf (T.e_BadStatement.T.nf _ (by decide)) (pe_err T.e_BadStatement (by decide) (hr.mono (by decide)) (pa_cons (pv 0) pa_nil))) (pa_cons (pe_xv T.e_BadText.xf (T.e_BadText.T.nf _ (by decide)) (pe_err T.e_BadText (by decide) (hr.mono (by decide)) (pa_cons (pv 0) pa_nil))) (pa_cons (pe_xv T.e_NoKey.xf (T.e_NoKey.T.nf _ (by decide)) (pe_err T.e_NoKey (by decide) (hr.mono (by decide)) (pa_cons (pv 0) pa_nil))) (pa_cons (pe_xv T.e_NoStart.xf (T.e_NoStart.T.nf _ (by decide)) (pe_err T.e_NoStart (by decide) (hr.mono (by decide)) (pa_cons (pv 0) pa_nil))) pa_nil)))))))
  (pss_cons (ps_set (i := 3) sc_law_by_position.nd rfl (Or.inl rfl) (pe_op op_cat (pv 3) (pe_lst (pa_cons (pe_xv T.e_NoKind.xf (T.e_NoKind.T.nf _ (by decide)) (pe_err T.e_NoKind (by decide) (hr.mono (by decide)) (pa_cons (pv 0) pa_nil))) (pa_cons (pe_xv T.e_Recalls.xf (T.e_Recalls.T.nf _ (by decide)) (pe_err T.e_Recalls (by decide) (hr.mono (by decide)) (pa_cons (pv 0) pa_nil))) (pa_cons (pe_xv T.e_NoControl.xf (T.e_NoControl.T.nf _ (by decide)) (pe_err T.e_NoControl (by decide) (hr.mono (by decide)) (pa_cons (pv 0) pa_nil))) (pa_cons (pe_xv T.e_BadHeight.xf (T.e_BadHeight.T.nf _ (by decide)) (pe_err T.e_BadHeight (by decide) (hr.mono (by decide)) (pa_cons (pv 0) pa_nil))) pa_nil)))))))
  (pss_cons (ps_set (i := 3) sc_law_by_position.nd rfl (Or.inl rfl) (pe_op op_cat (pv 3) (pe_lst (pa_cons (pe_xv T.e_BadRule.xf (T.e_BadRule.T.nf _ (by decide)) (pe_err T.e_BadRule (by decide) (hr.mono (by decide)) (pa_cons (pv 0) pa_nil))) (pa_cons (pe_xv T.e_Ring.xf (T.e_Ring.T.nf _ (by decide)) (pe_err T.e_Ring (by decide) (hr.mono (by decide)) (pa_cons (pv 0) pa_nil))) (pa_cons (pe_xv T.e_NoRule.xf (T.e_NoRule.T.nf _ (by decide)) (pe_err T.e_NoRule (by decide) (hr.mono (by decide)) (pa_cons (pv 0) pa_nil))) (pa_cons (pe_xv T.e_BadPace.xf (T.e_BadPace.T.nf _ (by decide)) (pe_err T.e_BadPace (by decide) (hr.mono (by decide)) (pa_cons (pv 0) pa_nil))) (pa_cons (pe_xv T.e_BadRank.xf (T.e_BadRank.T.nf _ (by decide)) (pe_err T.e_BadRank (by decide) (hr.mono (by decide)) (pa_cons (pv 0) pa_nil))) pa_nil))))))))
  (pss_one (ps_ret (pv 3)))))))))), ?_⟩
    have S : Same H H := fun _ _ h => h
    refine ⟨_, rfl, rfl, (by show 1 ≤ 1000; decide), fun a1 d1 ha hd hn => ⟨a1, d1, _, _, rfl, upd_same, by rw [upd_ne hn]; exact upd_same, rfl, ?_⟩⟩
    have u : Same H (upd (upd H d1 (exd d1 (List.zip (["place"] : List Str) [a]).reverse)) a1 (exo a1 (fa mg "BadTold") (some d1))) := same_made ha hd
    have S := S.trans u
    clear u
    generalize upd (upd H d1 (exd d1 (List.zip (["place"] : List Str) [a]).reverse)) a1 (exo a1 (fa mg "BadTold") (some d1)) = G2 at S ⊢
    refine ⟨_, rfl, rfl, (by show 1 ≤ 1000; decide), fun a2 d2 ha hd hn => ⟨a2, d2, _, _, rfl, upd_same, by rw [upd_ne hn]; exact upd_same, rfl, ?_⟩⟩
    have u : Same G2 (upd (upd G2 d2 (exd d2 (List.zip (["place"] : List Str) [a]).reverse)) a2 (exo a2 (fa mg "BadValue") (some d2))) := same_made ha hd
    have S := S.trans u
    clear u
    generalize upd (upd G2 d2 (exd d2 (List.zip (["place"] : List Str) [a]).reverse)) a2 (exo a2 (fa mg "BadValue") (some d2)) = G7 at S ⊢
    refine ⟨_, rfl, rfl, (by show 1 ≤ 1000; decide), fun a3 d3 ha hd hn => ⟨a3, d3, _, _, rfl, upd_same, by rw [upd_ne hn]; exact upd_same, rfl, ?_⟩⟩
    have u : Same G7 (upd (upd G7 d3 (exd d3 (List.zip (["place"] : List Str) [a]).reverse)) a3 (exo a3 (fa mg "NoPlace") (some d3))) := same_made ha hd
    have S := S.trans u
    clear u
    generalize upd (upd G7 d3 (exd d3 (List.zip (["place"] : List Str) [a]).reverse)) a3 (exo a3 (fa mg "NoPlace") (some d3)) = G12 at S ⊢
    refine ⟨_, rfl, rfl, (by show 1 ≤ 1000; decide), fun a4 d4 ha hd hn => ⟨a4, d4, _, _, rfl, upd_same, by rw [upd_ne hn]; exact upd_same, rfl, ?_⟩⟩
    have u : Same G12 (upd (upd G12 d4 (exd d4 (List.zip (["side"] : List Str) [a]).reverse)) a4 (exo a4 (fa mg "BadSide") (some d4))) := same_made ha hd
    have S := S.trans u
    clear u
    generalize upd (upd G12 d4 (exd d4 (List.zip (["side"] : List Str) [a]).reverse)) a4 (exo a4 (fa mg "BadSide") (some d4)) = G17 at S ⊢
    refine ⟨_, rfl, rfl, (by show 1 ≤ 1000; decide), fun a5 d5 ha hd hn => ⟨a5, d5, _, _, rfl, upd_same, by rw [upd_ne hn]; exact upd_same, rfl, ?_⟩⟩
    have u : Same G17 (upd (upd G17 d5 (exd d5 (List.zip (["place"] : List Str) [a]).reverse)) a5 (exo a5 (fa mg "Taken") (some d5))) := same_made ha hd
    have S := S.trans u
    clear u
    generalize upd (upd G17 d5 (exd d5 (List.zip (["place"] : List Str) [a]).reverse)) a5 (exo a5 (fa mg "Taken") (some d5)) = G22 at S ⊢
    refine ⟨(by show 5 ≤ sizeLine; decide), fun l0 hl => ?_⟩
    have u : Same G22 (upd G22 l0 (.lst [a, a, a, a, a])) := same_new hl
    have S := S.trans u
    have fd : (upd G22 l0 (.lst [a, a, a, a, a])) l0 = some (.lst [a, a, a, a, a]) := upd_same
    clear u
    generalize upd G22 l0 (.lst [a, a, a, a, a]) = G27 at S fd ⊢
    refine ⟨_, rfl, ?_⟩
    refine ⟨_, rfl, rfl, (by show 1 ≤ 1000; decide), fun a6 d6 ha hd hn => ⟨a6, d6, _, _, rfl, upd_same, by rw [upd_ne hn]; exact upd_same, rfl, ?_⟩⟩
    have u : Same G27 (upd (upd G27 d6 (exd d6 (List.zip (["size"] : List Str) [a]).reverse)) a6 (exo a6 (fa mg "BadSize") (some d6))) := same_made ha hd
    have S := S.trans u
    have fd := u _ _ fd
    clear u
    generalize upd (upd G27 d6 (exd d6 (List.zip (["size"] : List Str) [a]).reverse)) a6 (exo a6 (fa mg "BadSize") (some d6)) = G34 at S fd ⊢
    refine ⟨_, rfl, rfl, (by show 1 ≤ 1000; decide), fun a7 d7 ha hd hn => ⟨a7, d7, _, _, rfl, upd_same, by rw [upd_ne hn]; exact upd_same, rfl, ?_⟩⟩
    have u : Same G34 (upd (upd G34 d7 (exd d7 (List.zip (["order"] : List Str) [a]).reverse)) a7 (exo a7 (fa mg "BadOrder") (some d7))) := same_made ha hd
    have S := S.trans u
    have fd := u _ _ fd
    clear u
    generalize upd (upd G34 d7 (exd d7 (List.zip (["order"] : List Str) [a]).reverse)) a7 (exo a7 (fa mg "BadOrder") (some d7)) = G40 at S fd ⊢
    refine ⟨_, rfl, rfl, (by show 1 ≤ 1000; decide), fun a8 d8 ha hd hn => ⟨a8, d8, _, _, rfl, upd_same, by rw [upd_ne hn]; exact upd_same, rfl, ?_⟩⟩
    have u : Same G40 (upd (upd G40 d8 (exd d8 (List.zip (["key"] : List Str) [a]).reverse)) a8 (exo a8 (fa mg "BadKey") (some d8))) := same_made ha hd
    have S := S.trans u
    have fd := u _ _ fd
    clear u
    generalize upd (upd G40 d8 (exd d8 (List.zip (["key"] : List Str) [a]).reverse)) a8 (exo a8 (fa mg "BadKey") (some d8)) = G46 at S fd ⊢
    refine ⟨_, rfl, _, rfl, _, rfl, rfl, (by show 3 ≤ 1000; decide), fun a9 d9 ha hd hn => ⟨a9, d9, _, _, rfl, upd_same, by rw [upd_ne hn]; exact upd_same, rfl, ?_⟩⟩
    have u : Same G46 (upd (upd G46 d9 (exd d9 (List.zip (["what", "many", "most"] : List Str) [a, b, c]).reverse)) a9 (exo a9 (fa mg "TooMany") (some d9))) := same_made ha hd
    have S := S.trans u
    have fd := u _ _ fd
    clear u
    generalize upd (upd G46 d9 (exd d9 (List.zip (["what", "many", "most"] : List Str) [a, b, c]).reverse)) a9 (exo a9 (fa mg "TooMany") (some d9)) = G52 at S fd ⊢
    refine ⟨(by show 4 ≤ sizeLine; decide), fun l1 hl => ?_⟩
    have u : Same G52 (upd G52 l1 (.lst [a, a, a, a])) := same_new hl
    have S := S.trans u
    have fd := u _ _ fd
    have ld : (upd G52 l1 (.lst [a, a, a, a])) l1 = some (.lst [a, a, a, a]) := upd_same
    clear u
    generalize upd G52 l1 (.lst [a, a, a, a]) = G58 at S fd ld ⊢
    refine ⟨l0, l1, _, _, rfl, rfl, fd, ld, (by show 9 ≤ sizeLine; decide), fun r1 hr0 => ?_⟩
    clear fd ld
    have u : Same G58 (upd G58 r1 (.lst ([a, a, a, a, a] ++ [a, a, a, a]))) := same_new hr0
    have S := S.trans u
    have fd : (upd G58 r1 (.lst ([a, a, a, a, a] ++ [a, a, a, a]))) r1 = some (.lst [a, a, a, a, a, a, a, a, a]) := upd_same
    clear u
    generalize upd G58 r1 (.lst ([a, a, a, a, a] ++ [a, a, a, a])) = G66 at S fd ⊢
    refine ⟨_, rfl, ?_⟩
    refine ⟨_, rfl, _, rfl, _, rfl, rfl, (by show 3 ≤ 1000; decide), fun a10 d10 ha hd hn => ⟨a10, d10, _, _, rfl, upd_same, by rw [upd_ne hn]; exact upd_same, rfl, ?_⟩⟩
    have u : Same G66 (upd (upd G66 d10 (exd d10 (List.zip (["what", "many", "most"] : List Str) [a, b, c]).reverse)) a10 (exo a10 (fa mg "TooMany") (some d10))) := same_made ha hd
    have S := S.trans u
    have fd := u _ _ fd
    clear u
    generalize upd (upd G66 d10 (exd d10 (List.zip (["what", "many", "most"] : List Str) [a, b, c]).reverse)) a10 (exo a10 (fa mg "TooMany") (some d10)) = G73 at S fd ⊢
    refine ⟨_, rfl, _, rfl, _, rfl, rfl, (by show 3 ≤ 1000; decide), fun a11 d11 ha hd hn => ⟨a11, d11, _, _, rfl, upd_same, by rw [upd_ne hn]; exact upd_same, rfl, ?_⟩⟩
    have u : Same G73 (upd (upd G73 d11 (exd d11 (List.zip (["what", "many", "most"] : List Str) [a, b, c]).reverse)) a11 (exo a11 (fa mg "TooMany") (some d11))) := same_made ha hd
    have S := S.trans u
    have fd := u _ _ fd
    clear u
    generalize upd (upd G73 d11 (exd d11 (List.zip (["what", "many", "most"] : List Str) [a, b, c]).reverse)) a11 (exo a11 (fa mg "TooMany") (some d11)) = G79 at S fd ⊢
    refine ⟨_, rfl, rfl, (by show 1 ≤ 1000; decide), fun a12 d12 ha hd hn => ⟨a12, d12, _, _, rfl, upd_same, by rw [upd_ne hn]; exact upd_same, rfl, ?_⟩⟩
    have u : Same G79 (upd (upd G79 d12 (exd d12 (List.zip (["index"] : List Str) [a]).reverse)) a12 (exo a12 (fa mg "BadItem") (some d12))) := same_made ha hd
    have S := S.trans u
    have fd := u _ _ fd
    clear u
    generalize upd (upd G79 d12 (exd d12 (List.zip (["index"] : List Str) [a]).reverse)) a12 (exo a12 (fa mg "BadItem") (some d12)) = G85 at S fd ⊢
    refine ⟨_, rfl, rfl, (by show 1 ≤ 1000; decide), fun a13 d13 ha hd hn => ⟨a13, d13, _, _, rfl, upd_same, by rw [upd_ne hn]; exact upd_same, rfl, ?_⟩⟩
    have u : Same G85 (upd (upd G85 d13 (exd d13 (List.zip (["start"] : List Str) [a]).reverse)) a13 (exo a13 (fa mg "BadStart") (some d13))) := same_made ha hd
    have S := S.trans u
    have fd := u _ _ fd
    clear u
    generalize upd (upd G85 d13 (exd d13 (List.zip (["start"] : List Str) [a]).reverse)) a13 (exo a13 (fa mg "BadStart") (some d13)) = G91 at S fd ⊢
    refine ⟨(by show 4 ≤ sizeLine; decide), fun l2 hl => ?_⟩
    have u : Same G91 (upd G91 l2 (.lst [b, c, a, a])) := same_new hl
    have S := S.trans u
    have fd := u _ _ fd
    have ld : (upd G91 l2 (.lst [b, c, a, a])) l2 = some (.lst [b, c, a, a]) := upd_same
    clear u
    generalize upd G91 l2 (.lst [b, c, a, a]) = G97 at S fd ld ⊢
    refine ⟨r1, l2, _, _, rfl, rfl, fd, ld, (by show 13 ≤ sizeLine; decide), fun r2 hr0 => ?_⟩
    clear fd ld
    have u : Same G97 (upd G97 r2 (.lst ([a, a, a, a, a, a, a, a, a] ++ [b, c, a, a]))) := same_new hr0
    have S := S.trans u
    have fd : (upd G97 r2 (.lst ([a, a, a, a, a, a, a, a, a] ++ [b, c, a, a]))) r2 = some (.lst [a, a, a, a, a, a, a, a, a, b, c, a, a]) := upd_same
    clear u
    generalize upd G97 r2 (.lst ([a, a, a, a, a, a, a, a, a] ++ [b, c, a, a])) = G105 at S fd ⊢
    refine ⟨_, rfl, ?_⟩
    refine ⟨_, rfl, rfl, (by show 1 ≤ 1000; decide), fun a14 d14 ha hd hn => ⟨a14, d14, _, _, rfl, upd_same, by rw [upd_ne hn]; exact upd_same, rfl, ?_⟩⟩
    have u : Same G105 (upd (upd G105 d14 (exd d14 (List.zip (["index"] : List Str) [a]).reverse)) a14 (exo a14 (fa mg "BadGives") (some d14))) := same_made ha hd
    have S := S.trans u
    have fd := u _ _ fd
    clear u
    generalize upd (upd G105 d14 (exd d14 (List.zip (["index"] : List Str) [a]).reverse)) a14 (exo a14 (fa mg "BadGives") (some d14)) = G112 at S fd ⊢
    refine ⟨_, rfl, rfl, (by show 1 ≤ 1000; decide), fun a15 d15 ha hd hn => ⟨a15, d15, _, _, rfl, upd_same, by rw [upd_ne hn]; exact upd_same, rfl, ?_⟩⟩
    have u : Same G112 (upd (upd G112 d15 (exd d15 (List.zip (["index"] : List Str) [a]).reverse)) a15 (exo a15 (fa mg "BadEnd") (some d15))) := same_made ha hd
    have S := S.trans u
    have fd := u _ _ fd
    clear u
    generalize upd (upd G112 d15 (exd d15 (List.zip (["index"] : List Str) [a]).reverse)) a15 (exo a15 (fa mg "BadEnd") (some d15)) = G118 at S fd ⊢
    refine ⟨_, rfl, rfl, (by show 1 ≤ 1000; decide), fun a16 d16 ha hd hn => ⟨a16, d16, _, _, rfl, upd_same, by rw [upd_ne hn]; exact upd_same, rfl, ?_⟩⟩
    have u : Same G118 (upd (upd G118 d16 (exd d16 (List.zip (["index"] : List Str) [a]).reverse)) a16 (exo a16 (fa mg "BadCase") (some d16))) := same_made ha hd
    have S := S.trans u
    have fd := u _ _ fd
    clear u
    generalize upd (upd G118 d16 (exd d16 (List.zip (["index"] : List Str) [a]).reverse)) a16 (exo a16 (fa mg "BadCase") (some d16)) = G124 at S fd ⊢
    refine ⟨_, rfl, rfl, (by show 1 ≤ 1000; decide), fun a17 d17 ha hd hn => ⟨a17, d17, _, _, rfl, upd_same, by rw [upd_ne hn]; exact upd_same, rfl, ?_⟩⟩
    have u : Same G124 (upd (upd G124 d17 (exd d17 (List.zip (["name"] : List Str) [a]).reverse)) a17 (exo a17 (fa mg "BadWish") (some d17))) := same_made ha hd
    have S := S.trans u
    have fd := u _ _ fd
    clear u
    generalize upd (upd G124 d17 (exd d17 (List.zip (["name"] : List Str) [a]).reverse)) a17 (exo a17 (fa mg "BadWish") (some d17)) = G130 at S fd ⊢
    refine ⟨(by show 4 ≤ sizeLine; decide), fun l3 hl => ?_⟩
    have u : Same G130 (upd G130 l3 (.lst [a, a, a, a])) := same_new hl
    have S := S.trans u
    have fd := u _ _ fd
    have ld : (upd G130 l3 (.lst [a, a, a, a])) l3 = some (.lst [a, a, a, a]) := upd_same
    clear u
    generalize upd G130 l3 (.lst [a, a, a, a]) = G136 at S fd ld ⊢
    refine ⟨r2, l3, _, _, rfl, rfl, fd, ld, (by show 17 ≤ sizeLine; decide), fun r3 hr0 => ?_⟩
    clear fd ld
    have u : Same G136 (upd G136 r3 (.lst ([a, a, a, a, a, a, a, a, a, b, c, a, a] ++ [a, a, a, a]))) := same_new hr0
    have S := S.trans u
    have fd : (upd G136 r3 (.lst ([a, a, a, a, a, a, a, a, a, b, c, a, a] ++ [a, a, a, a]))) r3 = some (.lst [a, a, a, a, a, a, a, a, a, b, c, a, a, a, a, a, a]) := upd_same
    clear u
    generalize upd G136 r3 (.lst ([a, a, a, a, a, a, a, a, a, b, c, a, a] ++ [a, a, a, a])) = G144 at S fd ⊢
    refine ⟨_, rfl, ?_⟩
    refine ⟨_, rfl, rfl, (by show 1 ≤ 1000; decide), fun a18 d18 ha hd hn => ⟨a18, d18, _, _, rfl, upd_same, by rw [upd_ne hn]; exact upd_same, rfl, ?_⟩⟩
    have u : Same G144 (upd (upd G144 d18 (exd d18 (List.zip (["number"] : List Str) [a]).reverse)) a18 (exo a18 (fa mg "BadStatement") (some d18))) := same_made ha hd
    have S := S.trans u
    have fd := u _ _ fd
    clear u
    generalize upd (upd G144 d18 (exd d18 (List.zip (["number"] : List Str) [a]).reverse)) a18 (exo a18 (fa mg "BadStatement") (some d18)) = G151 at S fd ⊢
    refine ⟨_, rfl, rfl, (by show 1 ≤ 1000; decide), fun a19 d19 ha hd hn => ⟨a19, d19, _, _, rfl, upd_same, by rw [upd_ne hn]; exact upd_same, rfl, ?_⟩⟩
    have u : Same G151 (upd (upd G151 d19 (exd d19 (List.zip (["line"] : List Str) [a]).reverse)) a19 (exo a19 (fa mg "BadText") (some d19))) := same_made ha hd
    have S := S.trans u
    have fd := u _ _ fd
    clear u
    generalize upd (upd G151 d19 (exd d19 (List.zip (["line"] : List Str) [a]).reverse)) a19 (exo a19 (fa mg "BadText") (some d19)) = G157 at S fd ⊢
    refine ⟨_, rfl, rfl, (by show 1 ≤ 1000; decide), fun a20 d20 ha hd hn => ⟨a20, d20, _, _, rfl, upd_same, by rw [upd_ne hn]; exact upd_same, rfl, ?_⟩⟩
    have u : Same G157 (upd (upd G157 d20 (exd d20 (List.zip (["key"] : List Str) [a]).reverse)) a20 (exo a20 (fa mg "NoKey") (some d20))) := same_made ha hd
    have S := S.trans u
    have fd := u _ _ fd
    clear u
    generalize upd (upd G157 d20 (exd d20 (List.zip (["key"] : List Str) [a]).reverse)) a20 (exo a20 (fa mg "NoKey") (some d20)) = G163 at S fd ⊢
    refine ⟨_, rfl, rfl, (by show 1 ≤ 1000; decide), fun a21 d21 ha hd hn => ⟨a21, d21, _, _, rfl, upd_same, by rw [upd_ne hn]; exact upd_same, rfl, ?_⟩⟩
    have u : Same G163 (upd (upd G163 d21 (exd d21 (List.zip (["start"] : List Str) [a]).reverse)) a21 (exo a21 (fa mg "NoStart") (some d21))) := same_made ha hd
    have S := S.trans u
    have fd := u _ _ fd
    clear u
    generalize upd (upd G163 d21 (exd d21 (List.zip (["start"] : List Str) [a]).reverse)) a21 (exo a21 (fa mg "NoStart") (some d21)) = G169 at S fd ⊢
    refine ⟨(by show 4 ≤ sizeLine; decide), fun l4 hl => ?_⟩
    have u : Same G169 (upd G169 l4 (.lst [a, a, a, a])) := same_new hl
    have S := S.trans u
    have fd := u _ _ fd
    have ld : (upd G169 l4 (.lst [a, a, a, a])) l4 = some (.lst [a, a, a, a]) := upd_same
    clear u
    generalize upd G169 l4 (.lst [a, a, a, a]) = G175 at S fd ld ⊢
    refine ⟨r3, l4, _, _, rfl, rfl, fd, ld, (by show 21 ≤ sizeLine; decide), fun r4 hr0 => ?_⟩
    clear fd ld
    have u : Same G175 (upd G175 r4 (.lst ([a, a, a, a, a, a, a, a, a, b, c, a, a, a, a, a, a] ++ [a, a, a, a]))) := same_new hr0
    have S := S.trans u
    have fd : (upd G175 r4 (.lst ([a, a, a, a, a, a, a, a, a, b, c, a, a, a, a, a, a] ++ [a, a, a, a]))) r4 = some (.lst [a, a, a, a, a, a, a, a, a, b, c, a, a, a, a, a, a, a, a, a, a]) := upd_same
    clear u
    generalize upd G175 r4 (.lst ([a, a, a, a, a, a, a, a, a, b, c, a, a, a, a, a, a] ++ [a, a, a, a])) = G183 at S fd ⊢
    refine ⟨_, rfl, ?_⟩
    refine ⟨_, rfl, rfl, (by show 1 ≤ 1000; decide), fun a22 d22 ha hd hn => ⟨a22, d22, _, _, rfl, upd_same, by rw [upd_ne hn]; exact upd_same, rfl, ?_⟩⟩
    have u : Same G183 (upd (upd G183 d22 (exd d22 (List.zip (["kind"] : List Str) [a]).reverse)) a22 (exo a22 (fa mg "NoKind") (some d22))) := same_made ha hd
    have S := S.trans u
    have fd := u _ _ fd
    clear u
    generalize upd (upd G183 d22 (exd d22 (List.zip (["kind"] : List Str) [a]).reverse)) a22 (exo a22 (fa mg "NoKind") (some d22)) = G190 at S fd ⊢
    refine ⟨_, rfl, rfl, (by show 1 ≤ 1000; decide), fun a23 d23 ha hd hn => ⟨a23, d23, _, _, rfl, upd_same, by rw [upd_ne hn]; exact upd_same, rfl, ?_⟩⟩
    have u : Same G190 (upd (upd G190 d23 (exd d23 (List.zip (["control"] : List Str) [a]).reverse)) a23 (exo a23 (fa mg "Recalls") (some d23))) := same_made ha hd
    have S := S.trans u
    have fd := u _ _ fd
    clear u
    generalize upd (upd G190 d23 (exd d23 (List.zip (["control"] : List Str) [a]).reverse)) a23 (exo a23 (fa mg "Recalls") (some d23)) = G196 at S fd ⊢
    refine ⟨_, rfl, rfl, (by show 1 ≤ 1000; decide), fun a24 d24 ha hd hn => ⟨a24, d24, _, _, rfl, upd_same, by rw [upd_ne hn]; exact upd_same, rfl, ?_⟩⟩
    have u : Same G196 (upd (upd G196 d24 (exd d24 (List.zip (["control"] : List Str) [a]).reverse)) a24 (exo a24 (fa mg "NoControl") (some d24))) := same_made ha hd
    have S := S.trans u
    have fd := u _ _ fd
    clear u
    generalize upd (upd G196 d24 (exd d24 (List.zip (["control"] : List Str) [a]).reverse)) a24 (exo a24 (fa mg "NoControl") (some d24)) = G202 at S fd ⊢
    refine ⟨_, rfl, rfl, (by show 1 ≤ 1000; decide), fun a25 d25 ha hd hn => ⟨a25, d25, _, _, rfl, upd_same, by rw [upd_ne hn]; exact upd_same, rfl, ?_⟩⟩
    have u : Same G202 (upd (upd G202 d25 (exd d25 (List.zip (["height"] : List Str) [a]).reverse)) a25 (exo a25 (fa mg "BadHeight") (some d25))) := same_made ha hd
    have S := S.trans u
    have fd := u _ _ fd
    clear u
    generalize upd (upd G202 d25 (exd d25 (List.zip (["height"] : List Str) [a]).reverse)) a25 (exo a25 (fa mg "BadHeight") (some d25)) = G208 at S fd ⊢
    refine ⟨(by show 4 ≤ sizeLine; decide), fun l5 hl => ?_⟩
    have u : Same G208 (upd G208 l5 (.lst [a, a, a, a])) := same_new hl
    have S := S.trans u
    have fd := u _ _ fd
    have ld : (upd G208 l5 (.lst [a, a, a, a])) l5 = some (.lst [a, a, a, a]) := upd_same
    clear u
    generalize upd G208 l5 (.lst [a, a, a, a]) = G214 at S fd ld ⊢
    refine ⟨r4, l5, _, _, rfl, rfl, fd, ld, (by show 25 ≤ sizeLine; decide), fun r5 hr0 => ?_⟩
    clear fd ld
    have u : Same G214 (upd G214 r5 (.lst ([a, a, a, a, a, a, a, a, a, b, c, a, a, a, a, a, a, a, a, a, a] ++ [a, a, a, a]))) := same_new hr0
    have S := S.trans u
    have fd : (upd G214 r5 (.lst ([a, a, a, a, a, a, a, a, a, b, c, a, a, a, a, a, a, a, a, a, a] ++ [a, a, a, a]))) r5 = some (.lst [a, a, a, a, a, a, a, a, a, b, c, a, a, a, a, a, a, a, a, a, a, a, a, a, a]) := upd_same
    clear u
    generalize upd G214 r5 (.lst ([a, a, a, a, a, a, a, a, a, b, c, a, a, a, a, a, a, a, a, a, a] ++ [a, a, a, a])) = G222 at S fd ⊢
    refine ⟨_, rfl, ?_⟩
    refine ⟨_, rfl, rfl, (by show 1 ≤ 1000; decide), fun a26 d26 ha hd hn => ⟨a26, d26, _, _, rfl, upd_same, by rw [upd_ne hn]; exact upd_same, rfl, ?_⟩⟩
    have u : Same G222 (upd (upd G222 d26 (exd d26 (List.zip (["name"] : List Str) [a]).reverse)) a26 (exo a26 (fa mg "BadRule") (some d26))) := same_made ha hd
    have S := S.trans u
    have fd := u _ _ fd
    clear u
    generalize upd (upd G222 d26 (exd d26 (List.zip (["name"] : List Str) [a]).reverse)) a26 (exo a26 (fa mg "BadRule") (some d26)) = G229 at S fd ⊢
    refine ⟨_, rfl, rfl, (by show 1 ≤ 1000; decide), fun a27 d27 ha hd hn => ⟨a27, d27, _, _, rfl, upd_same, by rw [upd_ne hn]; exact upd_same, rfl, ?_⟩⟩
    have u : Same G229 (upd (upd G229 d27 (exd d27 (List.zip (["name"] : List Str) [a]).reverse)) a27 (exo a27 (fa mg "Ring") (some d27))) := same_made ha hd
    have S := S.trans u
    have fd := u _ _ fd
    clear u
    generalize upd (upd G229 d27 (exd d27 (List.zip (["name"] : List Str) [a]).reverse)) a27 (exo a27 (fa mg "Ring") (some d27)) = G235 at S fd ⊢
    refine ⟨_, rfl, rfl, (by show 1 ≤ 1000; decide), fun a28 d28 ha hd hn => ⟨a28, d28, _, _, rfl, upd_same, by rw [upd_ne hn]; exact upd_same, rfl, ?_⟩⟩
    have u : Same G235 (upd (upd G235 d28 (exd d28 (List.zip (["root"] : List Str) [a]).reverse)) a28 (exo a28 (fa mg "NoRule") (some d28))) := same_made ha hd
    have S := S.trans u
    have fd := u _ _ fd
    clear u
    generalize upd (upd G235 d28 (exd d28 (List.zip (["root"] : List Str) [a]).reverse)) a28 (exo a28 (fa mg "NoRule") (some d28)) = G241 at S fd ⊢
    refine ⟨_, rfl, rfl, (by show 1 ≤ 1000; decide), fun a29 d29 ha hd hn => ⟨a29, d29, _, _, rfl, upd_same, by rw [upd_ne hn]; exact upd_same, rfl, ?_⟩⟩
    have u : Same G241 (upd (upd G241 d29 (exd d29 (List.zip (["pace"] : List Str) [a]).reverse)) a29 (exo a29 (fa mg "BadPace") (some d29))) := same_made ha hd
    have S := S.trans u
    have fd := u _ _ fd
    clear u
    generalize upd (upd G241 d29 (exd d29 (List.zip (["pace"] : List Str) [a]).reverse)) a29 (exo a29 (fa mg "BadPace") (some d29)) = G247 at S fd ⊢
    refine ⟨_, rfl, rfl, (by show 1 ≤ 1000; decide), fun a30 d30 ha hd hn => ⟨a30, d30, _, _, rfl, upd_same, by rw [upd_ne hn]; exact upd_same, rfl, ?_⟩⟩
    have u : Same G247 (upd (upd G247 d30 (exd d30 (List.zip (["number"] : List Str) [a]).reverse)) a30 (exo a30 (fa mg "BadRank") (some d30))) := same_made ha hd
    have S := S.trans u
    have fd := u _ _ fd
    clear u
    generalize upd (upd G247 d30 (exd d30 (List.zip (["number"] : List Str) [a]).reverse)) a30 (exo a30 (fa mg "BadRank") (some d30)) = G253 at S fd ⊢
    refine ⟨(by show 5 ≤ sizeLine; decide), fun l6 hl => ?_⟩
    have u : Same G253 (upd G253 l6 (.lst [a, a, a, a, a])) := same_new hl
    have S := S.trans u
    have fd := u _ _ fd
    have ld : (upd G253 l6 (.lst [a, a, a, a, a])) l6 = some (.lst [a, a, a, a, a]) := upd_same
    clear u
    generalize upd G253 l6 (.lst [a, a, a, a, a]) = G259 at S fd ld ⊢
    refine ⟨r5, l6, _, _, rfl, rfl, fd, ld, (by show 30 ≤ sizeLine; decide), fun r6 hr0 => ?_⟩
    clear fd ld
    have u : Same G259 (upd G259 r6 (.lst ([a, a, a, a, a, a, a, a, a, b, c, a, a, a, a, a, a, a, a, a, a, a, a, a, a] ++ [a, a, a, a, a]))) := same_new hr0
    have S := S.trans u
    have fd : (upd G259 r6 (.lst ([a, a, a, a, a, a, a, a, a, b, c, a, a, a, a, a, a, a, a, a, a, a, a, a, a] ++ [a, a, a, a, a]))) r6 = some (.lst [a, a, a, a, a, a, a, a, a, b, c, a, a, a, a, a, a, a, a, a, a, a, a, a, a, a, a, a, a, a]) := upd_same
    clear u
    generalize upd G259 r6 (.lst ([a, a, a, a, a, a, a, a, a, b, c, a, a, a, a, a, a, a, a, a, a, a, a, a, a] ++ [a, a, a, a, a])) = G267 at S fd ⊢
    exact ⟨_, rfl, k _ r6 S fd⟩
theorem ok_law_by_name (T : Txt P w K mg) : Ok P w K mg base CX0 2 "_law_by_name" ["_law_a", "_law_b", "_law_c"] spBy := by
  refine T.law_by_name.F.ok sc_law_by_name (fun vs H Q E h => ?_) (fun cdv A outer s H vs Q E hr h => ?_)
  · obtain ⟨a, b, c, rfl, _⟩ := h
    rfl
  · obtain ⟨a, b, c, rfl, k⟩ := h
    refine ⟨_, (pss_cons (ps_set (i := 3) sc_law_by_name.nd rfl (Or.inl rfl) (pe_lst (pa_cons (pe_xv T.e_BadTold.xf (T.e_BadTold.T.nf _ (by decide)) (pe_errK T.e_BadTold T.b_BadTold (by decide) (hr.mono (by decide)) (pk_cons (pv 0) pk_nil))) (pa_cons (pe_xv T.e_BadValue.xf (T.e_BadValue.T.nf _ (by decide)) (pe_errK T.e_BadValue T.b_BadValue (by decide) (hr.mono (by decide)) (pk_cons (pv 0) pk_nil))) (pa_cons (pe_xv T.e_NoPlace.xf (T.e_NoPlace.T.nf _ (by decide)) (pe_errK T.e_NoPlace T.b_NoPlace (by decide) (hr.mono (by decide)) (pk_cons (pv 0) pk_nil))) pa_nil)))))
  (pss_cons (ps_set (i := 3) sc_law_by_name.nd rfl (Or.inl rfl) (pe_op op_cat (pv 3) (pe_lst (pa_cons (pe_xv T.e_BadSide.xf (T.e_BadSide.T.nf _ (by decide)) (pe_errK T.e_BadSide T.b_BadSide (by decide) (hr.mono (by decide)) (pk_cons (pv 0) pk_nil))) (pa_cons (pe_xv T.e_Taken.xf (T.e_Taken.T.nf _ (by decide)) (pe_errK T.e_Taken T.b_Taken (by decide) (hr.mono (by decide)) (pk_cons (pv 0) pk_nil))) (pa_cons (pe_xv T.e_BadSize.xf (T.e_BadSize.T.nf _ (by decide)) (pe_errK T.e_BadSize T.b_BadSize (by decide) (hr.mono (by decide)) (pk_cons (pv 0) pk_nil))) pa_nil))))))
  (pss_cons (ps_set (i := 3) sc_law_by_name.nd rfl (Or.inl rfl) (pe_op op_cat (pv 3) (pe_lst (pa_cons (pe_xv T.e_BadOrder.xf (T.e_BadOrder.T.nf _ (by decide)) (pe_errK T.e_BadOrder T.b_BadOrder (by decide) (hr.mono (by decide)) (pk_cons (pv 0) pk_nil))) (pa_cons (pe_xv T.e_BadKey.xf (T.e_BadKey.T.nf _ (by decide)) (pe_errK T.e_BadKey T.b_BadKey (by decide) (hr.mono (by decide)) (pk_cons (pv 0) pk_nil))) (pa_cons (pe_xv T.e_TooMany.xf (T.e_TooMany.T.nf _ (by decide)) (pe_errK T.e_TooMany T.b_TooMany (by decide) (hr.mono (by decide)) (pk_cons (pv 0) (pk_cons (pv 1) (pk_cons (pv 2) pk_nil))))) pa_nil))))))
  (pss_cons (ps_set (i := 3) sc_law_by_name.nd rfl (Or.inl rfl) (pe_op op_cat (pv 3) (pe_lst (pa_cons (pe_xv T.e_TooMany.xf (T.e_TooMany.T.nf _ (by decide)) (pe_errK T.e_TooMany T.b_TooMany (by decide) (hr.mono (by decide)) (pk_cons (pv 0) (pk_cons (pv 1) (pk_cons (pv 2) pk_nil))))) (pa_cons (pe_xv T.e_TooMany.xf (T.e_TooMany.T.nf _ (by decide)) (pe_errK T.e_TooMany T.b_TooMany (by decide) (hr.mono (by decide)) (pk_cons (pv 0) (pk_cons (pv 1) (pk_cons (pv 2) pk_nil))))) pa_nil)))))
  (pss_cons (ps_set (i := 3) sc_law_by_name.nd rfl (Or.inl rfl) (pe_op op_cat (pv 3) (pe_lst (pa_cons (pe_xv T.e_BadItem.xf (T.e_BadItem.T.nf _ (by decide)) (pe_errK T.e_BadItem T.b_BadItem (by decide) (hr.mono (by decide)) (pk_cons (pv 0) pk_nil))) (pa_cons (pe_xv T.e_BadStart.xf (T.e_BadStart.T.nf _ (by decide)) (pe_errK T.e_BadStart T.b_BadStart (by decide) (hr.mono (by decide)) (pk_cons (pv 0) pk_nil))) (pa_cons (pe_xv T.e_BadGives.xf (T.e_BadGives.T.nf _ (by decide)) (pe_errK T.e_BadGives T.b_BadGives (by decide) (hr.mono (by decide)) (pk_cons (pv 0) pk_nil))) pa_nil))))))
  (pss_cons (ps_set (i := 3) sc_law_by_name.nd rfl (Or.inl rfl) (pe_op op_cat (pv 3) (pe_lst (pa_cons (pe_xv T.e_BadEnd.xf (T.e_BadEnd.T.nf _ (by decide)) (pe_errK T.e_BadEnd T.b_BadEnd (by decide) (hr.mono (by decide)) (pk_cons (pv 0) pk_nil))) (pa_cons (pe_xv T.e_BadCase.xf (T.e_BadCase.T.nf _ (by decide)) (pe_errK T.e_BadCase T.b_BadCase (by decide) (hr.mono (by decide)) (pk_cons (pv 0) pk_nil))) (pa_cons (pe_xv T.e_BadWish.xf (T.e_BadWish.T.nf _ (by decide)) (pe_errK T.e_BadWish T.b_BadWish (by decide) (hr.mono (by decide)) (pk_cons (pv 0) pk_nil))) pa_nil))))))
  (pss_cons (ps_set (i := 3) sc_law_by_name.nd rfl (Or.inl rfl) (pe_op op_cat (pv 3) (pe_lst (pa_cons (pe_xv T.e_BadStatement.xf (T.e_BadStatement.T.nf _ (by decide)) (pe_errK T.e_BadStatement T.b_BadStatement (by decide) (hr.mono (by decide)) (pk_cons (pv 0) pk_nil))) (pa_cons (pe_xv T.e_BadText.xf (T.e_BadText.T.nf _ (by decide)) (pe_errK T.e_BadText T.b_BadText (by decide) (hr.mono (by decide)) (pk_cons (pv 0) pk_nil))) (pa_cons (pe_xv T.e_NoKey.xf (T.e_NoKey.T.nf _ (by decide)) (pe_errK T.e_NoKey T.b_NoKey (by decide) (hr.mono (by decide)) (pk_cons (pv 0) pk_nil))) pa_nil))))))
  (pss_cons (ps_set (i := 3) sc_law_by_name.nd rfl (Or.inl rfl) (pe_op op_cat (pv 3) (pe_lst (pa_cons (pe_xv T.e_NoStart.xf (T.e_NoStart.T.nf _ (by decide)) (pe_errK T.e_NoStart T.b_NoStart (by decide) (hr.mono (by decide)) (pk_cons (pv 0) pk_nil))) (pa_cons (pe_xv T.e_NoKind.xf (T.e_NoKind.T.nf _ (by decide)) (pe_errK T.e_NoKind T.b_NoKind (by decide) (hr.mono (by decide)) (pk_cons (pv 0) pk_nil))) (pa_cons (pe_xv T.e_Recalls.xf (T.e_Recalls.T.nf _ (by decide)) (pe_errK T.e_Recalls T.b_Recalls (by decide) (hr.mono (by decide)) (pk_cons (pv 0) pk_nil))) pa_nil))))))
  (pss_cons (ps_set (i := 3) sc_law_by_name.nd rfl (Or.inl rfl) (pe_op op_cat (pv 3) (pe_lst (pa_cons (pe_xv T.e_NoControl.xf (T.e_NoControl.T.nf _ (by decide)) (pe_errK T.e_NoControl T.b_NoControl (by decide) (hr.mono (by decide)) (pk_cons (pv 0) pk_nil))) (pa_cons (pe_xv T.e_BadHeight.xf (T.e_BadHeight.T.nf _ (by decide)) (pe_errK T.e_BadHeight T.b_BadHeight (by decide) (hr.mono (by decide)) (pk_cons (pv 0) pk_nil))) (pa_cons (pe_xv T.e_BadRule.xf (T.e_BadRule.T.nf _ (by decide)) (pe_errK T.e_BadRule T.b_BadRule (by decide) (hr.mono (by decide)) (pk_cons (pv 0) pk_nil))) pa_nil))))))
  (pss_cons (ps_set (i := 3) sc_law_by_name.nd rfl (Or.inl rfl) (pe_op op_cat (pv 3) (pe_lst (pa_cons (pe_xv T.e_Ring.xf (T.e_Ring.T.nf _ (by decide)) (pe_errK T.e_Ring T.b_Ring (by decide) (hr.mono (by decide)) (pk_cons (pv 0) pk_nil))) (pa_cons (pe_xv T.e_NoRule.xf (T.e_NoRule.T.nf _ (by decide)) (pe_errK T.e_NoRule T.b_NoRule (by decide) (hr.mono (by decide)) (pk_cons (pv 0) pk_nil))) (pa_cons (pe_xv T.e_BadPace.xf (T.e_BadPace.T.nf _ (by decide)) (pe_errK T.e_BadPace T.b_BadPace (by decide) (hr.mono (by decide)) (pk_cons (pv 0) pk_nil))) (pa_cons (pe_xv T.e_BadRank.xf (T.e_BadRank.T.nf _ (by decide)) (pe_errK T.e_BadRank T.b_BadRank (by decide) (hr.mono (by decide)) (pk_cons (pv 0) pk_nil))) pa_nil)))))))
  (pss_one (ps_ret (pv 3))))))))))))), ?_⟩
    have S : Same H H := fun _ _ h => h
    refine ⟨_, rfl, rfl, (by show 1 ≤ 1000; decide), fun a1 d1 ha hd hn => ⟨a1, d1, _, _, rfl, upd_same, by rw [upd_ne hn]; exact upd_same, rfl, ?_⟩⟩
    have u : Same H (upd (upd H d1 (exd d1 (List.zip (["place"] : List Str) [a]).reverse)) a1 (exo a1 (fa mg "BadTold") (some d1))) := same_made ha hd
    have S := S.trans u
    clear u
    generalize upd (upd H d1 (exd d1 (List.zip (["place"] : List Str) [a]).reverse)) a1 (exo a1 (fa mg "BadTold") (some d1)) = G2 at S ⊢
    refine ⟨_, rfl, rfl, (by show 1 ≤ 1000; decide), fun a2 d2 ha hd hn => ⟨a2, d2, _, _, rfl, upd_same, by rw [upd_ne hn]; exact upd_same, rfl, ?_⟩⟩
    have u : Same G2 (upd (upd G2 d2 (exd d2 (List.zip (["place"] : List Str) [a]).reverse)) a2 (exo a2 (fa mg "BadValue") (some d2))) := same_made ha hd
    have S := S.trans u
    clear u
    generalize upd (upd G2 d2 (exd d2 (List.zip (["place"] : List Str) [a]).reverse)) a2 (exo a2 (fa mg "BadValue") (some d2)) = G7 at S ⊢
    refine ⟨_, rfl, rfl, (by show 1 ≤ 1000; decide), fun a3 d3 ha hd hn => ⟨a3, d3, _, _, rfl, upd_same, by rw [upd_ne hn]; exact upd_same, rfl, ?_⟩⟩
    have u : Same G7 (upd (upd G7 d3 (exd d3 (List.zip (["place"] : List Str) [a]).reverse)) a3 (exo a3 (fa mg "NoPlace") (some d3))) := same_made ha hd
    have S := S.trans u
    clear u
    generalize upd (upd G7 d3 (exd d3 (List.zip (["place"] : List Str) [a]).reverse)) a3 (exo a3 (fa mg "NoPlace") (some d3)) = G12 at S ⊢
    refine ⟨(by show 3 ≤ sizeLine; decide), fun l0 hl => ?_⟩
    have u : Same G12 (upd G12 l0 (.lst [a, a, a])) := same_new hl
    have S := S.trans u
    have fd : (upd G12 l0 (.lst [a, a, a])) l0 = some (.lst [a, a, a]) := upd_same
    clear u
    generalize upd G12 l0 (.lst [a, a, a]) = G17 at S fd ⊢
    refine ⟨_, rfl, ?_⟩
    refine ⟨_, rfl, rfl, (by show 1 ≤ 1000; decide), fun a4 d4 ha hd hn => ⟨a4, d4, _, _, rfl, upd_same, by rw [upd_ne hn]; exact upd_same, rfl, ?_⟩⟩
    have u : Same G17 (upd (upd G17 d4 (exd d4 (List.zip (["side"] : List Str) [a]).reverse)) a4 (exo a4 (fa mg "BadSide") (some d4))) := same_made ha hd
    have S := S.trans u
    have fd := u _ _ fd
    clear u
    generalize upd (upd G17 d4 (exd d4 (List.zip (["side"] : List Str) [a]).reverse)) a4 (exo a4 (fa mg "BadSide") (some d4)) = G24 at S fd ⊢
    refine ⟨_, rfl, rfl, (by show 1 ≤ 1000; decide), fun a5 d5 ha hd hn => ⟨a5, d5, _, _, rfl, upd_same, by rw [upd_ne hn]; exact upd_same, rfl, ?_⟩⟩
    have u : Same G24 (upd (upd G24 d5 (exd d5 (List.zip (["place"] : List Str) [a]).reverse)) a5 (exo a5 (fa mg "Taken") (some d5))) := same_made ha hd
    have S := S.trans u
    have fd := u _ _ fd
    clear u
    generalize upd (upd G24 d5 (exd d5 (List.zip (["place"] : List Str) [a]).reverse)) a5 (exo a5 (fa mg "Taken") (some d5)) = G30 at S fd ⊢
    refine ⟨_, rfl, rfl, (by show 1 ≤ 1000; decide), fun a6 d6 ha hd hn => ⟨a6, d6, _, _, rfl, upd_same, by rw [upd_ne hn]; exact upd_same, rfl, ?_⟩⟩
    have u : Same G30 (upd (upd G30 d6 (exd d6 (List.zip (["size"] : List Str) [a]).reverse)) a6 (exo a6 (fa mg "BadSize") (some d6))) := same_made ha hd
    have S := S.trans u
    have fd := u _ _ fd
    clear u
    generalize upd (upd G30 d6 (exd d6 (List.zip (["size"] : List Str) [a]).reverse)) a6 (exo a6 (fa mg "BadSize") (some d6)) = G36 at S fd ⊢
    refine ⟨(by show 3 ≤ sizeLine; decide), fun l1 hl => ?_⟩
    have u : Same G36 (upd G36 l1 (.lst [a, a, a])) := same_new hl
    have S := S.trans u
    have fd := u _ _ fd
    have ld : (upd G36 l1 (.lst [a, a, a])) l1 = some (.lst [a, a, a]) := upd_same
    clear u
    generalize upd G36 l1 (.lst [a, a, a]) = G42 at S fd ld ⊢
    refine ⟨l0, l1, _, _, rfl, rfl, fd, ld, (by show 6 ≤ sizeLine; decide), fun r1 hr0 => ?_⟩
    clear fd ld
    have u : Same G42 (upd G42 r1 (.lst ([a, a, a] ++ [a, a, a]))) := same_new hr0
    have S := S.trans u
    have fd : (upd G42 r1 (.lst ([a, a, a] ++ [a, a, a]))) r1 = some (.lst [a, a, a, a, a, a]) := upd_same
    clear u
    generalize upd G42 r1 (.lst ([a, a, a] ++ [a, a, a])) = G50 at S fd ⊢
    refine ⟨_, rfl, ?_⟩
    refine ⟨_, rfl, rfl, (by show 1 ≤ 1000; decide), fun a7 d7 ha hd hn => ⟨a7, d7, _, _, rfl, upd_same, by rw [upd_ne hn]; exact upd_same, rfl, ?_⟩⟩
    have u : Same G50 (upd (upd G50 d7 (exd d7 (List.zip (["order"] : List Str) [a]).reverse)) a7 (exo a7 (fa mg "BadOrder") (some d7))) := same_made ha hd
    have S := S.trans u
    have fd := u _ _ fd
    clear u
    generalize upd (upd G50 d7 (exd d7 (List.zip (["order"] : List Str) [a]).reverse)) a7 (exo a7 (fa mg "BadOrder") (some d7)) = G57 at S fd ⊢
    refine ⟨_, rfl, rfl, (by show 1 ≤ 1000; decide), fun a8 d8 ha hd hn => ⟨a8, d8, _, _, rfl, upd_same, by rw [upd_ne hn]; exact upd_same, rfl, ?_⟩⟩
    have u : Same G57 (upd (upd G57 d8 (exd d8 (List.zip (["key"] : List Str) [a]).reverse)) a8 (exo a8 (fa mg "BadKey") (some d8))) := same_made ha hd
    have S := S.trans u
    have fd := u _ _ fd
    clear u
    generalize upd (upd G57 d8 (exd d8 (List.zip (["key"] : List Str) [a]).reverse)) a8 (exo a8 (fa mg "BadKey") (some d8)) = G63 at S fd ⊢
    refine ⟨_, rfl, _, rfl, _, rfl, rfl, (by show 3 ≤ 1000; decide), fun a9 d9 ha hd hn => ⟨a9, d9, _, _, rfl, upd_same, by rw [upd_ne hn]; exact upd_same, rfl, ?_⟩⟩
    have u : Same G63 (upd (upd G63 d9 (exd d9 (List.zip (["what", "many", "most"] : List Str) [a, b, c]).reverse)) a9 (exo a9 (fa mg "TooMany") (some d9))) := same_made ha hd
    have S := S.trans u
    have fd := u _ _ fd
    clear u
    generalize upd (upd G63 d9 (exd d9 (List.zip (["what", "many", "most"] : List Str) [a, b, c]).reverse)) a9 (exo a9 (fa mg "TooMany") (some d9)) = G69 at S fd ⊢
    refine ⟨(by show 3 ≤ sizeLine; decide), fun l2 hl => ?_⟩
    have u : Same G69 (upd G69 l2 (.lst [a, a, a])) := same_new hl
    have S := S.trans u
    have fd := u _ _ fd
    have ld : (upd G69 l2 (.lst [a, a, a])) l2 = some (.lst [a, a, a]) := upd_same
    clear u
    generalize upd G69 l2 (.lst [a, a, a]) = G75 at S fd ld ⊢
    refine ⟨r1, l2, _, _, rfl, rfl, fd, ld, (by show 9 ≤ sizeLine; decide), fun r2 hr0 => ?_⟩
    clear fd ld
    have u : Same G75 (upd G75 r2 (.lst ([a, a, a, a, a, a] ++ [a, a, a]))) := same_new hr0
    have S := S.trans u
    have fd : (upd G75 r2 (.lst ([a, a, a, a, a, a] ++ [a, a, a]))) r2 = some (.lst [a, a, a, a, a, a, a, a, a]) := upd_same
    clear u
    generalize upd G75 r2 (.lst ([a, a, a, a, a, a] ++ [a, a, a])) = G83 at S fd ⊢
    refine ⟨_, rfl, ?_⟩
    refine ⟨_, rfl, _, rfl, _, rfl, rfl, (by show 3 ≤ 1000; decide), fun a10 d10 ha hd hn => ⟨a10, d10, _, _, rfl, upd_same, by rw [upd_ne hn]; exact upd_same, rfl, ?_⟩⟩
    have u : Same G83 (upd (upd G83 d10 (exd d10 (List.zip (["what", "many", "most"] : List Str) [a, b, c]).reverse)) a10 (exo a10 (fa mg "TooMany") (some d10))) := same_made ha hd
    have S := S.trans u
    have fd := u _ _ fd
    clear u
    generalize upd (upd G83 d10 (exd d10 (List.zip (["what", "many", "most"] : List Str) [a, b, c]).reverse)) a10 (exo a10 (fa mg "TooMany") (some d10)) = G90 at S fd ⊢
    refine ⟨_, rfl, _, rfl, _, rfl, rfl, (by show 3 ≤ 1000; decide), fun a11 d11 ha hd hn => ⟨a11, d11, _, _, rfl, upd_same, by rw [upd_ne hn]; exact upd_same, rfl, ?_⟩⟩
    have u : Same G90 (upd (upd G90 d11 (exd d11 (List.zip (["what", "many", "most"] : List Str) [a, b, c]).reverse)) a11 (exo a11 (fa mg "TooMany") (some d11))) := same_made ha hd
    have S := S.trans u
    have fd := u _ _ fd
    clear u
    generalize upd (upd G90 d11 (exd d11 (List.zip (["what", "many", "most"] : List Str) [a, b, c]).reverse)) a11 (exo a11 (fa mg "TooMany") (some d11)) = G96 at S fd ⊢
    refine ⟨(by show 2 ≤ sizeLine; decide), fun l3 hl => ?_⟩
    have u : Same G96 (upd G96 l3 (.lst [b, c])) := same_new hl
    have S := S.trans u
    have fd := u _ _ fd
    have ld : (upd G96 l3 (.lst [b, c])) l3 = some (.lst [b, c]) := upd_same
    clear u
    generalize upd G96 l3 (.lst [b, c]) = G102 at S fd ld ⊢
    refine ⟨r2, l3, _, _, rfl, rfl, fd, ld, (by show 11 ≤ sizeLine; decide), fun r3 hr0 => ?_⟩
    clear fd ld
    have u : Same G102 (upd G102 r3 (.lst ([a, a, a, a, a, a, a, a, a] ++ [b, c]))) := same_new hr0
    have S := S.trans u
    have fd : (upd G102 r3 (.lst ([a, a, a, a, a, a, a, a, a] ++ [b, c]))) r3 = some (.lst [a, a, a, a, a, a, a, a, a, b, c]) := upd_same
    clear u
    generalize upd G102 r3 (.lst ([a, a, a, a, a, a, a, a, a] ++ [b, c])) = G110 at S fd ⊢
    refine ⟨_, rfl, ?_⟩
    refine ⟨_, rfl, rfl, (by show 1 ≤ 1000; decide), fun a12 d12 ha hd hn => ⟨a12, d12, _, _, rfl, upd_same, by rw [upd_ne hn]; exact upd_same, rfl, ?_⟩⟩
    have u : Same G110 (upd (upd G110 d12 (exd d12 (List.zip (["index"] : List Str) [a]).reverse)) a12 (exo a12 (fa mg "BadItem") (some d12))) := same_made ha hd
    have S := S.trans u
    have fd := u _ _ fd
    clear u
    generalize upd (upd G110 d12 (exd d12 (List.zip (["index"] : List Str) [a]).reverse)) a12 (exo a12 (fa mg "BadItem") (some d12)) = G117 at S fd ⊢
    refine ⟨_, rfl, rfl, (by show 1 ≤ 1000; decide), fun a13 d13 ha hd hn => ⟨a13, d13, _, _, rfl, upd_same, by rw [upd_ne hn]; exact upd_same, rfl, ?_⟩⟩
    have u : Same G117 (upd (upd G117 d13 (exd d13 (List.zip (["start"] : List Str) [a]).reverse)) a13 (exo a13 (fa mg "BadStart") (some d13))) := same_made ha hd
    have S := S.trans u
    have fd := u _ _ fd
    clear u
    generalize upd (upd G117 d13 (exd d13 (List.zip (["start"] : List Str) [a]).reverse)) a13 (exo a13 (fa mg "BadStart") (some d13)) = G123 at S fd ⊢
    refine ⟨_, rfl, rfl, (by show 1 ≤ 1000; decide), fun a14 d14 ha hd hn => ⟨a14, d14, _, _, rfl, upd_same, by rw [upd_ne hn]; exact upd_same, rfl, ?_⟩⟩
    have u : Same G123 (upd (upd G123 d14 (exd d14 (List.zip (["index"] : List Str) [a]).reverse)) a14 (exo a14 (fa mg "BadGives") (some d14))) := same_made ha hd
    have S := S.trans u
    have fd := u _ _ fd
    clear u
    generalize upd (upd G123 d14 (exd d14 (List.zip (["index"] : List Str) [a]).reverse)) a14 (exo a14 (fa mg "BadGives") (some d14)) = G129 at S fd ⊢
    refine ⟨(by show 3 ≤ sizeLine; decide), fun l4 hl => ?_⟩
    have u : Same G129 (upd G129 l4 (.lst [a, a, a])) := same_new hl
    have S := S.trans u
    have fd := u _ _ fd
    have ld : (upd G129 l4 (.lst [a, a, a])) l4 = some (.lst [a, a, a]) := upd_same
    clear u
    generalize upd G129 l4 (.lst [a, a, a]) = G135 at S fd ld ⊢
    refine ⟨r3, l4, _, _, rfl, rfl, fd, ld, (by show 14 ≤ sizeLine; decide), fun r4 hr0 => ?_⟩
    clear fd ld
    have u : Same G135 (upd G135 r4 (.lst ([a, a, a, a, a, a, a, a, a, b, c] ++ [a, a, a]))) := same_new hr0
    have S := S.trans u
    have fd : (upd G135 r4 (.lst ([a, a, a, a, a, a, a, a, a, b, c] ++ [a, a, a]))) r4 = some (.lst [a, a, a, a, a, a, a, a, a, b, c, a, a, a]) := upd_same
    clear u
    generalize upd G135 r4 (.lst ([a, a, a, a, a, a, a, a, a, b, c] ++ [a, a, a])) = G143 at S fd ⊢
    refine ⟨_, rfl, ?_⟩
    refine ⟨_, rfl, rfl, (by show 1 ≤ 1000; decide), fun a15 d15 ha hd hn => ⟨a15, d15, _, _, rfl, upd_same, by rw [upd_ne hn]; exact upd_same, rfl, ?_⟩⟩
    have u : Same G143 (upd (upd G143 d15 (exd d15 (List.zip (["index"] : List Str) [a]).reverse)) a15 (exo a15 (fa mg "BadEnd") (some d15))) := same_made ha hd
    have S := S.trans u
    have fd := u _ _ fd
    clear u
    generalize upd (upd G143 d15 (exd d15 (List.zip (["index"] : List Str) [a]).reverse)) a15 (exo a15 (fa mg "BadEnd") (some d15)) = G150 at S fd ⊢
    refine ⟨_, rfl, rfl, (by show 1 ≤ 1000; decide), fun a16 d16 ha hd hn => ⟨a16, d16, _, _, rfl, upd_same, by rw [upd_ne hn]; exact upd_same, rfl, ?_⟩⟩
    have u : Same G150 (upd (upd G150 d16 (exd d16 (List.zip (["index"] : List Str) [a]).reverse)) a16 (exo a16 (fa mg "BadCase") (some d16))) := same_made ha hd
    have S := S.trans u
    have fd := u _ _ fd
    clear u
    generalize upd (upd G150 d16 (exd d16 (List.zip (["index"] : List Str) [a]).reverse)) a16 (exo a16 (fa mg "BadCase") (some d16)) = G156 at S fd ⊢
    refine ⟨_, rfl, rfl, (by show 1 ≤ 1000; decide), fun a17 d17 ha hd hn => ⟨a17, d17, _, _, rfl, upd_same, by rw [upd_ne hn]; exact upd_same, rfl, ?_⟩⟩
    have u : Same G156 (upd (upd G156 d17 (exd d17 (List.zip (["name"] : List Str) [a]).reverse)) a17 (exo a17 (fa mg "BadWish") (some d17))) := same_made ha hd
    have S := S.trans u
    have fd := u _ _ fd
    clear u
    generalize upd (upd G156 d17 (exd d17 (List.zip (["name"] : List Str) [a]).reverse)) a17 (exo a17 (fa mg "BadWish") (some d17)) = G162 at S fd ⊢
    refine ⟨(by show 3 ≤ sizeLine; decide), fun l5 hl => ?_⟩
    have u : Same G162 (upd G162 l5 (.lst [a, a, a])) := same_new hl
    have S := S.trans u
    have fd := u _ _ fd
    have ld : (upd G162 l5 (.lst [a, a, a])) l5 = some (.lst [a, a, a]) := upd_same
    clear u
    generalize upd G162 l5 (.lst [a, a, a]) = G168 at S fd ld ⊢
    refine ⟨r4, l5, _, _, rfl, rfl, fd, ld, (by show 17 ≤ sizeLine; decide), fun r5 hr0 => ?_⟩
    clear fd ld
    have u : Same G168 (upd G168 r5 (.lst ([a, a, a, a, a, a, a, a, a, b, c, a, a, a] ++ [a, a, a]))) := same_new hr0
    have S := S.trans u
    have fd : (upd G168 r5 (.lst ([a, a, a, a, a, a, a, a, a, b, c, a, a, a] ++ [a, a, a]))) r5 = some (.lst [a, a, a, a, a, a, a, a, a, b, c, a, a, a, a, a, a]) := upd_same
    clear u
    generalize upd G168 r5 (.lst ([a, a, a, a, a, a, a, a, a, b, c, a, a, a] ++ [a, a, a])) = G176 at S fd ⊢
    refine ⟨_, rfl, ?_⟩
    refine ⟨_, rfl, rfl, (by show 1 ≤ 1000; decide), fun a18 d18 ha hd hn => ⟨a18, d18, _, _, rfl, upd_same, by rw [upd_ne hn]; exact upd_same, rfl, ?_⟩⟩
    have u : Same G176 (upd (upd G176 d18 (exd d18 (List.zip (["number"] : List Str) [a]).reverse)) a18 (exo a18 (fa mg "BadStatement") (some d18))) := same_made ha hd
    have S := S.trans u
    have fd := u _ _ fd
    clear u
    generalize upd (upd G176 d18 (exd d18 (List.zip (["number"] : List Str) [a]).reverse)) a18 (exo a18 (fa mg "BadStatement") (some d18)) = G183 at S fd ⊢
    refine ⟨_, rfl, rfl, (by show 1 ≤ 1000; decide), fun a19 d19 ha hd hn => ⟨a19, d19, _, _, rfl, upd_same, by rw [upd_ne hn]; exact upd_same, rfl, ?_⟩⟩
    have u : Same G183 (upd (upd G183 d19 (exd d19 (List.zip (["line"] : List Str) [a]).reverse)) a19 (exo a19 (fa mg "BadText") (some d19))) := same_made ha hd
    have S := S.trans u
    have fd := u _ _ fd
    clear u
    generalize upd (upd G183 d19 (exd d19 (List.zip (["line"] : List Str) [a]).reverse)) a19 (exo a19 (fa mg "BadText") (some d19)) = G189 at S fd ⊢
    refine ⟨_, rfl, rfl, (by show 1 ≤ 1000; decide), fun a20 d20 ha hd hn => ⟨a20, d20, _, _, rfl, upd_same, by rw [upd_ne hn]; exact upd_same, rfl, ?_⟩⟩
    have u : Same G189 (upd (upd G189 d20 (exd d20 (List.zip (["key"] : List Str) [a]).reverse)) a20 (exo a20 (fa mg "NoKey") (some d20))) := same_made ha hd
    have S := S.trans u
    have fd := u _ _ fd
    clear u
    generalize upd (upd G189 d20 (exd d20 (List.zip (["key"] : List Str) [a]).reverse)) a20 (exo a20 (fa mg "NoKey") (some d20)) = G195 at S fd ⊢
    refine ⟨(by show 3 ≤ sizeLine; decide), fun l6 hl => ?_⟩
    have u : Same G195 (upd G195 l6 (.lst [a, a, a])) := same_new hl
    have S := S.trans u
    have fd := u _ _ fd
    have ld : (upd G195 l6 (.lst [a, a, a])) l6 = some (.lst [a, a, a]) := upd_same
    clear u
    generalize upd G195 l6 (.lst [a, a, a]) = G201 at S fd ld ⊢
    refine ⟨r5, l6, _, _, rfl, rfl, fd, ld, (by show 20 ≤ sizeLine; decide), fun r6 hr0 => ?_⟩
    clear fd ld
    have u : Same G201 (upd G201 r6 (.lst ([a, a, a, a, a, a, a, a, a, b, c, a, a, a, a, a, a] ++ [a, a, a]))) := same_new hr0
    have S := S.trans u
    have fd : (upd G201 r6 (.lst ([a, a, a, a, a, a, a, a, a, b, c, a, a, a, a, a, a] ++ [a, a, a]))) r6 = some (.lst [a, a, a, a, a, a, a, a, a, b, c, a, a, a, a, a, a, a, a, a]) := upd_same
    clear u
    generalize upd G201 r6 (.lst ([a, a, a, a, a, a, a, a, a, b, c, a, a, a, a, a, a] ++ [a, a, a])) = G209 at S fd ⊢
    refine ⟨_, rfl, ?_⟩
    refine ⟨_, rfl, rfl, (by show 1 ≤ 1000; decide), fun a21 d21 ha hd hn => ⟨a21, d21, _, _, rfl, upd_same, by rw [upd_ne hn]; exact upd_same, rfl, ?_⟩⟩
    have u : Same G209 (upd (upd G209 d21 (exd d21 (List.zip (["start"] : List Str) [a]).reverse)) a21 (exo a21 (fa mg "NoStart") (some d21))) := same_made ha hd
    have S := S.trans u
    have fd := u _ _ fd
    clear u
    generalize upd (upd G209 d21 (exd d21 (List.zip (["start"] : List Str) [a]).reverse)) a21 (exo a21 (fa mg "NoStart") (some d21)) = G216 at S fd ⊢
    refine ⟨_, rfl, rfl, (by show 1 ≤ 1000; decide), fun a22 d22 ha hd hn => ⟨a22, d22, _, _, rfl, upd_same, by rw [upd_ne hn]; exact upd_same, rfl, ?_⟩⟩
    have u : Same G216 (upd (upd G216 d22 (exd d22 (List.zip (["kind"] : List Str) [a]).reverse)) a22 (exo a22 (fa mg "NoKind") (some d22))) := same_made ha hd
    have S := S.trans u
    have fd := u _ _ fd
    clear u
    generalize upd (upd G216 d22 (exd d22 (List.zip (["kind"] : List Str) [a]).reverse)) a22 (exo a22 (fa mg "NoKind") (some d22)) = G222 at S fd ⊢
    refine ⟨_, rfl, rfl, (by show 1 ≤ 1000; decide), fun a23 d23 ha hd hn => ⟨a23, d23, _, _, rfl, upd_same, by rw [upd_ne hn]; exact upd_same, rfl, ?_⟩⟩
    have u : Same G222 (upd (upd G222 d23 (exd d23 (List.zip (["control"] : List Str) [a]).reverse)) a23 (exo a23 (fa mg "Recalls") (some d23))) := same_made ha hd
    have S := S.trans u
    have fd := u _ _ fd
    clear u
    generalize upd (upd G222 d23 (exd d23 (List.zip (["control"] : List Str) [a]).reverse)) a23 (exo a23 (fa mg "Recalls") (some d23)) = G228 at S fd ⊢
    refine ⟨(by show 3 ≤ sizeLine; decide), fun l7 hl => ?_⟩
    have u : Same G228 (upd G228 l7 (.lst [a, a, a])) := same_new hl
    have S := S.trans u
    have fd := u _ _ fd
    have ld : (upd G228 l7 (.lst [a, a, a])) l7 = some (.lst [a, a, a]) := upd_same
    clear u
    generalize upd G228 l7 (.lst [a, a, a]) = G234 at S fd ld ⊢
    refine ⟨r6, l7, _, _, rfl, rfl, fd, ld, (by show 23 ≤ sizeLine; decide), fun r7 hr0 => ?_⟩
    clear fd ld
    have u : Same G234 (upd G234 r7 (.lst ([a, a, a, a, a, a, a, a, a, b, c, a, a, a, a, a, a, a, a, a] ++ [a, a, a]))) := same_new hr0
    have S := S.trans u
    have fd : (upd G234 r7 (.lst ([a, a, a, a, a, a, a, a, a, b, c, a, a, a, a, a, a, a, a, a] ++ [a, a, a]))) r7 = some (.lst [a, a, a, a, a, a, a, a, a, b, c, a, a, a, a, a, a, a, a, a, a, a, a]) := upd_same
    clear u
    generalize upd G234 r7 (.lst ([a, a, a, a, a, a, a, a, a, b, c, a, a, a, a, a, a, a, a, a] ++ [a, a, a])) = G242 at S fd ⊢
    refine ⟨_, rfl, ?_⟩
    refine ⟨_, rfl, rfl, (by show 1 ≤ 1000; decide), fun a24 d24 ha hd hn => ⟨a24, d24, _, _, rfl, upd_same, by rw [upd_ne hn]; exact upd_same, rfl, ?_⟩⟩
    have u : Same G242 (upd (upd G242 d24 (exd d24 (List.zip (["control"] : List Str) [a]).reverse)) a24 (exo a24 (fa mg "NoControl") (some d24))) := same_made ha hd
    have S := S.trans u
    have fd := u _ _ fd
    clear u
    generalize upd (upd G242 d24 (exd d24 (List.zip (["control"] : List Str) [a]).reverse)) a24 (exo a24 (fa mg "NoControl") (some d24)) = G249 at S fd ⊢
    refine ⟨_, rfl, rfl, (by show 1 ≤ 1000; decide), fun a25 d25 ha hd hn => ⟨a25, d25, _, _, rfl, upd_same, by rw [upd_ne hn]; exact upd_same, rfl, ?_⟩⟩
    have u : Same G249 (upd (upd G249 d25 (exd d25 (List.zip (["height"] : List Str) [a]).reverse)) a25 (exo a25 (fa mg "BadHeight") (some d25))) := same_made ha hd
    have S := S.trans u
    have fd := u _ _ fd
    clear u
    generalize upd (upd G249 d25 (exd d25 (List.zip (["height"] : List Str) [a]).reverse)) a25 (exo a25 (fa mg "BadHeight") (some d25)) = G255 at S fd ⊢
    refine ⟨_, rfl, rfl, (by show 1 ≤ 1000; decide), fun a26 d26 ha hd hn => ⟨a26, d26, _, _, rfl, upd_same, by rw [upd_ne hn]; exact upd_same, rfl, ?_⟩⟩
    have u : Same G255 (upd (upd G255 d26 (exd d26 (List.zip (["name"] : List Str) [a]).reverse)) a26 (exo a26 (fa mg "BadRule") (some d26))) := same_made ha hd
    have S := S.trans u
    have fd := u _ _ fd
    clear u
    generalize upd (upd G255 d26 (exd d26 (List.zip (["name"] : List Str) [a]).reverse)) a26 (exo a26 (fa mg "BadRule") (some d26)) = G261 at S fd ⊢
    refine ⟨(by show 3 ≤ sizeLine; decide), fun l8 hl => ?_⟩
    have u : Same G261 (upd G261 l8 (.lst [a, a, a])) := same_new hl
    have S := S.trans u
    have fd := u _ _ fd
    have ld : (upd G261 l8 (.lst [a, a, a])) l8 = some (.lst [a, a, a]) := upd_same
    clear u
    generalize upd G261 l8 (.lst [a, a, a]) = G267 at S fd ld ⊢
    refine ⟨r7, l8, _, _, rfl, rfl, fd, ld, (by show 26 ≤ sizeLine; decide), fun r8 hr0 => ?_⟩
    clear fd ld
    have u : Same G267 (upd G267 r8 (.lst ([a, a, a, a, a, a, a, a, a, b, c, a, a, a, a, a, a, a, a, a, a, a, a] ++ [a, a, a]))) := same_new hr0
    have S := S.trans u
    have fd : (upd G267 r8 (.lst ([a, a, a, a, a, a, a, a, a, b, c, a, a, a, a, a, a, a, a, a, a, a, a] ++ [a, a, a]))) r8 = some (.lst [a, a, a, a, a, a, a, a, a, b, c, a, a, a, a, a, a, a, a, a, a, a, a, a, a, a]) := upd_same
    clear u
    generalize upd G267 r8 (.lst ([a, a, a, a, a, a, a, a, a, b, c, a, a, a, a, a, a, a, a, a, a, a, a] ++ [a, a, a])) = G275 at S fd ⊢
    refine ⟨_, rfl, ?_⟩
    refine ⟨_, rfl, rfl, (by show 1 ≤ 1000; decide), fun a27 d27 ha hd hn => ⟨a27, d27, _, _, rfl, upd_same, by rw [upd_ne hn]; exact upd_same, rfl, ?_⟩⟩
    have u : Same G275 (upd (upd G275 d27 (exd d27 (List.zip (["name"] : List Str) [a]).reverse)) a27 (exo a27 (fa mg "Ring") (some d27))) := same_made ha hd
    have S := S.trans u
    have fd := u _ _ fd
    clear u
    generalize upd (upd G275 d27 (exd d27 (List.zip (["name"] : List Str) [a]).reverse)) a27 (exo a27 (fa mg "Ring") (some d27)) = G282 at S fd ⊢
    refine ⟨_, rfl, rfl, (by show 1 ≤ 1000; decide), fun a28 d28 ha hd hn => ⟨a28, d28, _, _, rfl, upd_same, by rw [upd_ne hn]; exact upd_same, rfl, ?_⟩⟩
    have u : Same G282 (upd (upd G282 d28 (exd d28 (List.zip (["root"] : List Str) [a]).reverse)) a28 (exo a28 (fa mg "NoRule") (some d28))) := same_made ha hd
    have S := S.trans u
    have fd := u _ _ fd
    clear u
    generalize upd (upd G282 d28 (exd d28 (List.zip (["root"] : List Str) [a]).reverse)) a28 (exo a28 (fa mg "NoRule") (some d28)) = G288 at S fd ⊢
    refine ⟨_, rfl, rfl, (by show 1 ≤ 1000; decide), fun a29 d29 ha hd hn => ⟨a29, d29, _, _, rfl, upd_same, by rw [upd_ne hn]; exact upd_same, rfl, ?_⟩⟩
    have u : Same G288 (upd (upd G288 d29 (exd d29 (List.zip (["pace"] : List Str) [a]).reverse)) a29 (exo a29 (fa mg "BadPace") (some d29))) := same_made ha hd
    have S := S.trans u
    have fd := u _ _ fd
    clear u
    generalize upd (upd G288 d29 (exd d29 (List.zip (["pace"] : List Str) [a]).reverse)) a29 (exo a29 (fa mg "BadPace") (some d29)) = G294 at S fd ⊢
    refine ⟨_, rfl, rfl, (by show 1 ≤ 1000; decide), fun a30 d30 ha hd hn => ⟨a30, d30, _, _, rfl, upd_same, by rw [upd_ne hn]; exact upd_same, rfl, ?_⟩⟩
    have u : Same G294 (upd (upd G294 d30 (exd d30 (List.zip (["number"] : List Str) [a]).reverse)) a30 (exo a30 (fa mg "BadRank") (some d30))) := same_made ha hd
    have S := S.trans u
    have fd := u _ _ fd
    clear u
    generalize upd (upd G294 d30 (exd d30 (List.zip (["number"] : List Str) [a]).reverse)) a30 (exo a30 (fa mg "BadRank") (some d30)) = G300 at S fd ⊢
    refine ⟨(by show 4 ≤ sizeLine; decide), fun l9 hl => ?_⟩
    have u : Same G300 (upd G300 l9 (.lst [a, a, a, a])) := same_new hl
    have S := S.trans u
    have fd := u _ _ fd
    have ld : (upd G300 l9 (.lst [a, a, a, a])) l9 = some (.lst [a, a, a, a]) := upd_same
    clear u
    generalize upd G300 l9 (.lst [a, a, a, a]) = G306 at S fd ld ⊢
    refine ⟨r8, l9, _, _, rfl, rfl, fd, ld, (by show 30 ≤ sizeLine; decide), fun r9 hr0 => ?_⟩
    clear fd ld
    have u : Same G306 (upd G306 r9 (.lst ([a, a, a, a, a, a, a, a, a, b, c, a, a, a, a, a, a, a, a, a, a, a, a, a, a, a] ++ [a, a, a, a]))) := same_new hr0
    have S := S.trans u
    have fd : (upd G306 r9 (.lst ([a, a, a, a, a, a, a, a, a, b, c, a, a, a, a, a, a, a, a, a, a, a, a, a, a, a] ++ [a, a, a, a]))) r9 = some (.lst [a, a, a, a, a, a, a, a, a, b, c, a, a, a, a, a, a, a, a, a, a, a, a, a, a, a, a, a, a, a]) := upd_same
    clear u
    generalize upd G306 r9 (.lst ([a, a, a, a, a, a, a, a, a, b, c, a, a, a, a, a, a, a, a, a, a, a, a, a, a, a] ++ [a, a, a, a])) = G314 at S fd ⊢
    exact ⟨_, rfl, k _ r9 S fd⟩
theorem ok_law_all_made (T : Txt P w K mg) : Ok P w K mg base CX0 2 "_law_all_made" ["_law_a", "_law_b", "_law_c"] (spMade mg) := by
  refine T.law_all_made.F.ok sc_law_all_made (fun vs H Q E h => ?_) (fun cdv A outer s H vs Q E hr h => ?_)
  · obtain ⟨a, b, c, rfl, _⟩ := h
    rfl
  · obtain ⟨a, b, c, rfl, k⟩ := h
    refine ⟨_, (pss_cons (ps_set (i := 3) sc_law_all_made.nd rfl (Or.inl rfl) (pe_lst (pa_cons (pe_err T.e_BadTold (by decide) (hr.mono (by decide)) (pa_cons (pv 0) pa_nil)) (pa_cons (pe_err T.e_BadValue (by decide) (hr.mono (by decide)) (pa_cons (pv 0) pa_nil)) (pa_cons (pe_err T.e_NoPlace (by decide) (hr.mono (by decide)) (pa_cons (pv 0) pa_nil)) (pa_cons (pe_err T.e_BadSide (by decide) (hr.mono (by decide)) (pa_cons (pv 0) pa_nil)) (pa_cons (pe_err T.e_Taken (by decide) (hr.mono (by decide)) (pa_cons (pv 0) pa_nil)) (pa_cons (pe_err T.e_BadSize (by decide) (hr.mono (by decide)) (pa_cons (pv 0) pa_nil)) (pa_cons (pe_err T.e_BadOrder (by decide) (hr.mono (by decide)) (pa_cons (pv 0) pa_nil)) pa_nil)))))))))
  (pss_cons (ps_set (i := 3) sc_law_all_made.nd rfl (Or.inl rfl) (pe_op op_cat (pv 3) (pe_lst (pa_cons (pe_err0 T.e_OtherKeys (hr.mono (by decide))) (pa_cons (pe_err T.e_BadKey (by decide) (hr.mono (by decide)) (pa_cons (pv 0) pa_nil)) (pa_cons (pe_err T.e_TooMany (by decide) (hr.mono (by decide)) (pa_cons (pv 0) (pa_cons (pv 1) (pa_cons (pv 2) pa_nil)))) (pa_cons (pe_err T.e_BadItem (by decide) (hr.mono (by decide)) (pa_cons (pv 0) pa_nil)) (pa_cons (pe_err T.e_BadStart (by decide) (hr.mono (by decide)) (pa_cons (pv 0) pa_nil)) (pa_cons (pe_err T.e_BadGives (by decide) (hr.mono (by decide)) (pa_cons (pv 0) pa_nil)) pa_nil)))))))))
  (pss_cons (ps_set (i := 3) sc_law_all_made.nd rfl (Or.inl rfl) (pe_op op_cat (pv 3) (pe_lst (pa_cons (pe_err T.e_BadEnd (by decide) (hr.mono (by decide)) (pa_cons (pv 0) pa_nil)) (pa_cons (pe_err T.e_BadCase (by decide) (hr.mono (by decide)) (pa_cons (pv 0) pa_nil)) (pa_cons (pe_err T.e_BadWish (by decide) (hr.mono (by decide)) (pa_cons (pv 0) pa_nil)) (pa_cons (pe_err T.e_BadStatement (by decide) (hr.mono (by decide)) (pa_cons (pv 0) pa_nil)) (pa_cons (pe_err T.e_BadText (by decide) (hr.mono (by decide)) (pa_cons (pv 0) pa_nil)) (pa_cons (pe_err T.e_NoKey (by decide) (hr.mono (by decide)) (pa_cons (pv 0) pa_nil)) (pa_cons (pe_err T.e_NoStart (by decide) (hr.mono (by decide)) (pa_cons (pv 0) pa_nil)) pa_nil))))))))))
  (pss_cons (ps_set (i := 3) sc_law_all_made.nd rfl (Or.inl rfl) (pe_op op_cat (pv 3) (pe_lst (pa_cons (pe_err0 T.e_BadPlan (hr.mono (by decide))) (pa_cons (pe_err T.e_NoKind (by decide) (hr.mono (by decide)) (pa_cons (pv 0) pa_nil)) (pa_cons (pe_err0 T.e_Unfit (hr.mono (by decide))) (pa_cons (pe_err T.e_Recalls (by decide) (hr.mono (by decide)) (pa_cons (pv 0) pa_nil)) (pa_cons (pe_err0 T.e_Endless (hr.mono (by decide))) (pa_cons (pe_err T.e_NoControl (by decide) (hr.mono (by decide)) (pa_cons (pv 0) pa_nil)) (pa_cons (pe_err T.e_BadHeight (by decide) (hr.mono (by decide)) (pa_cons (pv 0) pa_nil)) pa_nil))))))))))
  (pss_cons (ps_set (i := 3) sc_law_all_made.nd rfl (Or.inl rfl) (pe_op op_cat (pv 3) (pe_lst (pa_cons (pe_err T.e_BadRule (by decide) (hr.mono (by decide)) (pa_cons (pv 0) pa_nil)) (pa_cons (pe_err T.e_Ring (by decide) (hr.mono (by decide)) (pa_cons (pv 0) pa_nil)) (pa_cons (pe_err T.e_NoRule (by decide) (hr.mono (by decide)) (pa_cons (pv 0) pa_nil)) (pa_cons (pe_err T.e_BadPace (by decide) (hr.mono (by decide)) (pa_cons (pv 0) pa_nil)) (pa_cons (pe_err T.e_BadRank (by decide) (hr.mono (by decide)) (pa_cons (pv 0) pa_nil)) pa_nil))))))))
  (pss_one (ps_ret (pv 3)))))))), ?_⟩
    have S : Same H H := fun _ _ h => h
    refine ⟨_, rfl, rfl, (by show 1 ≤ 1000; decide), fun a1 d1 ha hd hn => ?_⟩
    have u : Same H (upd (upd H d1 (exd d1 (List.zip (["place"] : List Str) [a]).reverse)) a1 (exo a1 (fa mg "BadTold") (some d1))) := same_made ha hd
    have S := S.trans u
    have k1 : ErrAt (upd (upd H d1 (exd d1 (List.zip (["place"] : List Str) [a]).reverse)) a1 (exo a1 (fa mg "BadTold") (some d1))) a1 (fa mg "BadTold") := ⟨_, upd_same, .inr ⟨d1, _, rfl, by rw [upd_ne hn]; exact upd_same⟩⟩
    clear u
    generalize upd (upd H d1 (exd d1 (List.zip (["place"] : List Str) [a]).reverse)) a1 (exo a1 (fa mg "BadTold") (some d1)) = G2 at S k1 ⊢
    refine ⟨_, rfl, rfl, (by show 1 ≤ 1000; decide), fun a2 d2 ha hd hn => ?_⟩
    have u : Same G2 (upd (upd G2 d2 (exd d2 (List.zip (["place"] : List Str) [a]).reverse)) a2 (exo a2 (fa mg "BadValue") (some d2))) := same_made ha hd
    have S := S.trans u
    have k1 := k1.same u
    have k2 : ErrAt (upd (upd G2 d2 (exd d2 (List.zip (["place"] : List Str) [a]).reverse)) a2 (exo a2 (fa mg "BadValue") (some d2))) a2 (fa mg "BadValue") := ⟨_, upd_same, .inr ⟨d2, _, rfl, by rw [upd_ne hn]; exact upd_same⟩⟩
    clear u
    generalize upd (upd G2 d2 (exd d2 (List.zip (["place"] : List Str) [a]).reverse)) a2 (exo a2 (fa mg "BadValue") (some d2)) = G8 at S k1 k2 ⊢
    refine ⟨_, rfl, rfl, (by show 1 ≤ 1000; decide), fun a3 d3 ha hd hn => ?_⟩
    have u : Same G8 (upd (upd G8 d3 (exd d3 (List.zip (["place"] : List Str) [a]).reverse)) a3 (exo a3 (fa mg "NoPlace") (some d3))) := same_made ha hd
    have S := S.trans u
    have k1 := k1.same u
    have k2 := k2.same u
    have k3 : ErrAt (upd (upd G8 d3 (exd d3 (List.zip (["place"] : List Str) [a]).reverse)) a3 (exo a3 (fa mg "NoPlace") (some d3))) a3 (fa mg "NoPlace") := ⟨_, upd_same, .inr ⟨d3, _, rfl, by rw [upd_ne hn]; exact upd_same⟩⟩
    clear u
    generalize upd (upd G8 d3 (exd d3 (List.zip (["place"] : List Str) [a]).reverse)) a3 (exo a3 (fa mg "NoPlace") (some d3)) = G15 at S k1 k2 k3 ⊢
    refine ⟨_, rfl, rfl, (by show 1 ≤ 1000; decide), fun a4 d4 ha hd hn => ?_⟩
    have u : Same G15 (upd (upd G15 d4 (exd d4 (List.zip (["side"] : List Str) [a]).reverse)) a4 (exo a4 (fa mg "BadSide") (some d4))) := same_made ha hd
    have S := S.trans u
    have k1 := k1.same u
    have k2 := k2.same u
    have k3 := k3.same u
    have k4 : ErrAt (upd (upd G15 d4 (exd d4 (List.zip (["side"] : List Str) [a]).reverse)) a4 (exo a4 (fa mg "BadSide") (some d4))) a4 (fa mg "BadSide") := ⟨_, upd_same, .inr ⟨d4, _, rfl, by rw [upd_ne hn]; exact upd_same⟩⟩
    clear u
    generalize upd (upd G15 d4 (exd d4 (List.zip (["side"] : List Str) [a]).reverse)) a4 (exo a4 (fa mg "BadSide") (some d4)) = G23 at S k1 k2 k3 k4 ⊢
    refine ⟨_, rfl, rfl, (by show 1 ≤ 1000; decide), fun a5 d5 ha hd hn => ?_⟩
    have u : Same G23 (upd (upd G23 d5 (exd d5 (List.zip (["place"] : List Str) [a]).reverse)) a5 (exo a5 (fa mg "Taken") (some d5))) := same_made ha hd
    have S := S.trans u
    have k1 := k1.same u
    have k2 := k2.same u
    have k3 := k3.same u
    have k4 := k4.same u
    have k5 : ErrAt (upd (upd G23 d5 (exd d5 (List.zip (["place"] : List Str) [a]).reverse)) a5 (exo a5 (fa mg "Taken") (some d5))) a5 (fa mg "Taken") := ⟨_, upd_same, .inr ⟨d5, _, rfl, by rw [upd_ne hn]; exact upd_same⟩⟩
    clear u
    generalize upd (upd G23 d5 (exd d5 (List.zip (["place"] : List Str) [a]).reverse)) a5 (exo a5 (fa mg "Taken") (some d5)) = G32 at S k1 k2 k3 k4 k5 ⊢
    refine ⟨_, rfl, rfl, (by show 1 ≤ 1000; decide), fun a6 d6 ha hd hn => ?_⟩
    have u : Same G32 (upd (upd G32 d6 (exd d6 (List.zip (["size"] : List Str) [a]).reverse)) a6 (exo a6 (fa mg "BadSize") (some d6))) := same_made ha hd
    have S := S.trans u
    have k1 := k1.same u
    have k2 := k2.same u
    have k3 := k3.same u
    have k4 := k4.same u
    have k5 := k5.same u
    have k6 : ErrAt (upd (upd G32 d6 (exd d6 (List.zip (["size"] : List Str) [a]).reverse)) a6 (exo a6 (fa mg "BadSize") (some d6))) a6 (fa mg "BadSize") := ⟨_, upd_same, .inr ⟨d6, _, rfl, by rw [upd_ne hn]; exact upd_same⟩⟩
    clear u
    generalize upd (upd G32 d6 (exd d6 (List.zip (["size"] : List Str) [a]).reverse)) a6 (exo a6 (fa mg "BadSize") (some d6)) = G42 at S k1 k2 k3 k4 k5 k6 ⊢
    refine ⟨_, rfl, rfl, (by show 1 ≤ 1000; decide), fun a7 d7 ha hd hn => ?_⟩
    have u : Same G42 (upd (upd G42 d7 (exd d7 (List.zip (["order"] : List Str) [a]).reverse)) a7 (exo a7 (fa mg "BadOrder") (some d7))) := same_made ha hd
    have S := S.trans u
    have k1 := k1.same u
    have k2 := k2.same u
    have k3 := k3.same u
    have k4 := k4.same u
    have k5 := k5.same u
    have k6 := k6.same u
    have k7 : ErrAt (upd (upd G42 d7 (exd d7 (List.zip (["order"] : List Str) [a]).reverse)) a7 (exo a7 (fa mg "BadOrder") (some d7))) a7 (fa mg "BadOrder") := ⟨_, upd_same, .inr ⟨d7, _, rfl, by rw [upd_ne hn]; exact upd_same⟩⟩
    clear u
    generalize upd (upd G42 d7 (exd d7 (List.zip (["order"] : List Str) [a]).reverse)) a7 (exo a7 (fa mg "BadOrder") (some d7)) = G53 at S k1 k2 k3 k4 k5 k6 k7 ⊢
    refine ⟨(by show 7 ≤ sizeLine; decide), fun l0 hl => ?_⟩
    have u : Same G53 (upd G53 l0 (.lst [.ref a1, .ref a2, .ref a3, .ref a4, .ref a5, .ref a6, .ref a7])) := same_new hl
    have S := S.trans u
    have k1 := k1.same u
    have k2 := k2.same u
    have k3 := k3.same u
    have k4 := k4.same u
    have k5 := k5.same u
    have k6 := k6.same u
    have k7 := k7.same u
    have fd : (upd G53 l0 (.lst [.ref a1, .ref a2, .ref a3, .ref a4, .ref a5, .ref a6, .ref a7])) l0 = some (.lst [.ref a1, .ref a2, .ref a3, .ref a4, .ref a5, .ref a6, .ref a7]) := upd_same
    clear u
    generalize upd G53 l0 (.lst [.ref a1, .ref a2, .ref a3, .ref a4, .ref a5, .ref a6, .ref a7]) = G65 at S k1 k2 k3 k4 k5 k6 k7 fd ⊢
    refine ⟨_, rfl, ?_⟩
    intro a8 ha
    have u : Same G65 (upd G65 a8 (exo a8 (fa mg "OtherKeys") none)) := same_new ha
    have S := S.trans u
    have fd := u _ _ fd
    have k1 := k1.same u
    have k2 := k2.same u
    have k3 := k3.same u
    have k4 := k4.same u
    have k5 := k5.same u
    have k6 := k6.same u
    have k7 := k7.same u
    have k8 : ErrAt (upd G65 a8 (exo a8 (fa mg "OtherKeys") none)) a8 (fa mg "OtherKeys") := ⟨_, upd_same, .inl rfl⟩
    clear u
    generalize upd G65 a8 (exo a8 (fa mg "OtherKeys") none) = G79 at S fd k1 k2 k3 k4 k5 k6 k7 k8 ⊢
    refine ⟨_, rfl, rfl, (by show 1 ≤ 1000; decide), fun a9 d9 ha hd hn => ?_⟩
    have u : Same G79 (upd (upd G79 d9 (exd d9 (List.zip (["key"] : List Str) [a]).reverse)) a9 (exo a9 (fa mg "BadKey") (some d9))) := same_made ha hd
    have S := S.trans u
    have fd := u _ _ fd
    have k1 := k1.same u
    have k2 := k2.same u
    have k3 := k3.same u
    have k4 := k4.same u
    have k5 := k5.same u
    have k6 := k6.same u
    have k7 := k7.same u
    have k8 := k8.same u
    have k9 : ErrAt (upd (upd G79 d9 (exd d9 (List.zip (["key"] : List Str) [a]).reverse)) a9 (exo a9 (fa mg "BadKey") (some d9))) a9 (fa mg "BadKey") := ⟨_, upd_same, .inr ⟨d9, _, rfl, by rw [upd_ne hn]; exact upd_same⟩⟩
    clear u
    generalize upd (upd G79 d9 (exd d9 (List.zip (["key"] : List Str) [a]).reverse)) a9 (exo a9 (fa mg "BadKey") (some d9)) = G93 at S fd k1 k2 k3 k4 k5 k6 k7 k8 k9 ⊢
    refine ⟨_, rfl, _, rfl, _, rfl, rfl, (by show 3 ≤ 1000; decide), fun a10 d10 ha hd hn => ?_⟩
    have u : Same G93 (upd (upd G93 d10 (exd d10 (List.zip (["what", "many", "most"] : List Str) [a, b, c]).reverse)) a10 (exo a10 (fa mg "TooMany") (some d10))) := same_made ha hd
    have S := S.trans u
    have fd := u _ _ fd
    have k1 := k1.same u
    have k2 := k2.same u
    have k3 := k3.same u
    have k4 := k4.same u
    have k5 := k5.same u
    have k6 := k6.same u
    have k7 := k7.same u
    have k8 := k8.same u
    have k9 := k9.same u
    have k10 : ErrAt (upd (upd G93 d10 (exd d10 (List.zip (["what", "many", "most"] : List Str) [a, b, c]).reverse)) a10 (exo a10 (fa mg "TooMany") (some d10))) a10 (fa mg "TooMany") := ⟨_, upd_same, .inr ⟨d10, _, rfl, by rw [upd_ne hn]; exact upd_same⟩⟩
    clear u
    generalize upd (upd G93 d10 (exd d10 (List.zip (["what", "many", "most"] : List Str) [a, b, c]).reverse)) a10 (exo a10 (fa mg "TooMany") (some d10)) = G108 at S fd k1 k2 k3 k4 k5 k6 k7 k8 k9 k10 ⊢
    refine ⟨_, rfl, rfl, (by show 1 ≤ 1000; decide), fun a11 d11 ha hd hn => ?_⟩
    have u : Same G108 (upd (upd G108 d11 (exd d11 (List.zip (["index"] : List Str) [a]).reverse)) a11 (exo a11 (fa mg "BadItem") (some d11))) := same_made ha hd
    have S := S.trans u
    have fd := u _ _ fd
    have k1 := k1.same u
    have k2 := k2.same u
    have k3 := k3.same u
    have k4 := k4.same u
    have k5 := k5.same u
    have k6 := k6.same u
    have k7 := k7.same u
    have k8 := k8.same u
    have k9 := k9.same u
    have k10 := k10.same u
    have k11 : ErrAt (upd (upd G108 d11 (exd d11 (List.zip (["index"] : List Str) [a]).reverse)) a11 (exo a11 (fa mg "BadItem") (some d11))) a11 (fa mg "BadItem") := ⟨_, upd_same, .inr ⟨d11, _, rfl, by rw [upd_ne hn]; exact upd_same⟩⟩
    clear u
    generalize upd (upd G108 d11 (exd d11 (List.zip (["index"] : List Str) [a]).reverse)) a11 (exo a11 (fa mg "BadItem") (some d11)) = G124 at S fd k1 k2 k3 k4 k5 k6 k7 k8 k9 k10 k11 ⊢
    refine ⟨_, rfl, rfl, (by show 1 ≤ 1000; decide), fun a12 d12 ha hd hn => ?_⟩
    have u : Same G124 (upd (upd G124 d12 (exd d12 (List.zip (["start"] : List Str) [a]).reverse)) a12 (exo a12 (fa mg "BadStart") (some d12))) := same_made ha hd
    have S := S.trans u
    have fd := u _ _ fd
    have k1 := k1.same u
    have k2 := k2.same u
    have k3 := k3.same u
    have k4 := k4.same u
    have k5 := k5.same u
    have k6 := k6.same u
    have k7 := k7.same u
    have k8 := k8.same u
    have k9 := k9.same u
    have k10 := k10.same u
    have k11 := k11.same u
    have k12 : ErrAt (upd (upd G124 d12 (exd d12 (List.zip (["start"] : List Str) [a]).reverse)) a12 (exo a12 (fa mg "BadStart") (some d12))) a12 (fa mg "BadStart") := ⟨_, upd_same, .inr ⟨d12, _, rfl, by rw [upd_ne hn]; exact upd_same⟩⟩
    clear u
    generalize upd (upd G124 d12 (exd d12 (List.zip (["start"] : List Str) [a]).reverse)) a12 (exo a12 (fa mg "BadStart") (some d12)) = G141 at S fd k1 k2 k3 k4 k5 k6 k7 k8 k9 k10 k11 k12 ⊢
    refine ⟨_, rfl, rfl, (by show 1 ≤ 1000; decide), fun a13 d13 ha hd hn => ?_⟩
    have u : Same G141 (upd (upd G141 d13 (exd d13 (List.zip (["index"] : List Str) [a]).reverse)) a13 (exo a13 (fa mg "BadGives") (some d13))) := same_made ha hd
    have S := S.trans u
    have fd := u _ _ fd
    have k1 := k1.same u
    have k2 := k2.same u
    have k3 := k3.same u
    have k4 := k4.same u
    have k5 := k5.same u
    have k6 := k6.same u
    have k7 := k7.same u
    have k8 := k8.same u
    have k9 := k9.same u
    have k10 := k10.same u
    have k11 := k11.same u
    have k12 := k12.same u
    have k13 : ErrAt (upd (upd G141 d13 (exd d13 (List.zip (["index"] : List Str) [a]).reverse)) a13 (exo a13 (fa mg "BadGives") (some d13))) a13 (fa mg "BadGives") := ⟨_, upd_same, .inr ⟨d13, _, rfl, by rw [upd_ne hn]; exact upd_same⟩⟩
    clear u
    generalize upd (upd G141 d13 (exd d13 (List.zip (["index"] : List Str) [a]).reverse)) a13 (exo a13 (fa mg "BadGives") (some d13)) = G159 at S fd k1 k2 k3 k4 k5 k6 k7 k8 k9 k10 k11 k12 k13 ⊢
    refine ⟨(by show 6 ≤ sizeLine; decide), fun l1 hl => ?_⟩
    have u : Same G159 (upd G159 l1 (.lst [.ref a8, .ref a9, .ref a10, .ref a11, .ref a12, .ref a13])) := same_new hl
    have S := S.trans u
    have fd := u _ _ fd
    have k1 := k1.same u
    have k2 := k2.same u
    have k3 := k3.same u
    have k4 := k4.same u
    have k5 := k5.same u
    have k6 := k6.same u
    have k7 := k7.same u
    have k8 := k8.same u
    have k9 := k9.same u
    have k10 := k10.same u
    have k11 := k11.same u
    have k12 := k12.same u
    have k13 := k13.same u
    have ld : (upd G159 l1 (.lst [.ref a8, .ref a9, .ref a10, .ref a11, .ref a12, .ref a13])) l1 = some (.lst [.ref a8, .ref a9, .ref a10, .ref a11, .ref a12, .ref a13]) := upd_same
    clear u
    generalize upd G159 l1 (.lst [.ref a8, .ref a9, .ref a10, .ref a11, .ref a12, .ref a13]) = G178 at S fd k1 k2 k3 k4 k5 k6 k7 k8 k9 k10 k11 k12 k13 ld ⊢
    refine ⟨l0, l1, _, _, rfl, rfl, fd, ld, (by show 13 ≤ sizeLine; decide), fun r1 hr0 => ?_⟩
    clear fd ld
    have u : Same G178 (upd G178 r1 (.lst ([.ref a1, .ref a2, .ref a3, .ref a4, .ref a5, .ref a6, .ref a7] ++ [.ref a8, .ref a9, .ref a10, .ref a11, .ref a12, .ref a13]))) := same_new hr0
    have S := S.trans u
    have k1 := k1.same u
    have k2 := k2.same u
    have k3 := k3.same u
    have k4 := k4.same u
    have k5 := k5.same u
    have k6 := k6.same u
    have k7 := k7.same u
    have k8 := k8.same u
    have k9 := k9.same u
    have k10 := k10.same u
    have k11 := k11.same u
    have k12 := k12.same u
    have k13 := k13.same u
    have fd : (upd G178 r1 (.lst ([.ref a1, .ref a2, .ref a3, .ref a4, .ref a5, .ref a6, .ref a7] ++ [.ref a8, .ref a9, .ref a10, .ref a11, .ref a12, .ref a13]))) r1 = some (.lst [.ref a1, .ref a2, .ref a3, .ref a4, .ref a5, .ref a6, .ref a7, .ref a8, .ref a9, .ref a10, .ref a11, .ref a12, .ref a13]) := upd_same
    clear u
    generalize upd G178 r1 (.lst ([.ref a1, .ref a2, .ref a3, .ref a4, .ref a5, .ref a6, .ref a7] ++ [.ref a8, .ref a9, .ref a10, .ref a11, .ref a12, .ref a13])) = G199 at S k1 k2 k3 k4 k5 k6 k7 k8 k9 k10 k11 k12 k13 fd ⊢
    refine ⟨_, rfl, ?_⟩
    refine ⟨_, rfl, rfl, (by show 1 ≤ 1000; decide), fun a14 d14 ha hd hn => ?_⟩
    have u : Same G199 (upd (upd G199 d14 (exd d14 (List.zip (["index"] : List Str) [a]).reverse)) a14 (exo a14 (fa mg "BadEnd") (some d14))) := same_made ha hd
    have S := S.trans u
    have fd := u _ _ fd
    have k1 := k1.same u
    have k2 := k2.same u
    have k3 := k3.same u
    have k4 := k4.same u
    have k5 := k5.same u
    have k6 := k6.same u
    have k7 := k7.same u
    have k8 := k8.same u
    have k9 := k9.same u
    have k10 := k10.same u
    have k11 := k11.same u
    have k12 := k12.same u
    have k13 := k13.same u
    have k14 : ErrAt (upd (upd G199 d14 (exd d14 (List.zip (["index"] : List Str) [a]).reverse)) a14 (exo a14 (fa mg "BadEnd") (some d14))) a14 (fa mg "BadEnd") := ⟨_, upd_same, .inr ⟨d14, _, rfl, by rw [upd_ne hn]; exact upd_same⟩⟩
    clear u
    generalize upd (upd G199 d14 (exd d14 (List.zip (["index"] : List Str) [a]).reverse)) a14 (exo a14 (fa mg "BadEnd") (some d14)) = G219 at S fd k1 k2 k3 k4 k5 k6 k7 k8 k9 k10 k11 k12 k13 k14 ⊢
    refine ⟨_, rfl, rfl, (by show 1 ≤ 1000; decide), fun a15 d15 ha hd hn => ?_⟩
    have u : Same G219 (upd (upd G219 d15 (exd d15 (List.zip (["index"] : List Str) [a]).reverse)) a15 (exo a15 (fa mg "BadCase") (some d15))) := same_made ha hd
    have S := S.trans u
    have fd := u _ _ fd
    have k1 := k1.same u
    have k2 := k2.same u
    have k3 := k3.same u
    have k4 := k4.same u
    have k5 := k5.same u
    have k6 := k6.same u
    have k7 := k7.same u
    have k8 := k8.same u
    have k9 := k9.same u
    have k10 := k10.same u
    have k11 := k11.same u
    have k12 := k12.same u
    have k13 := k13.same u
    have k14 := k14.same u
    have k15 : ErrAt (upd (upd G219 d15 (exd d15 (List.zip (["index"] : List Str) [a]).reverse)) a15 (exo a15 (fa mg "BadCase") (some d15))) a15 (fa mg "BadCase") := ⟨_, upd_same, .inr ⟨d15, _, rfl, by rw [upd_ne hn]; exact upd_same⟩⟩
    clear u
    generalize upd (upd G219 d15 (exd d15 (List.zip (["index"] : List Str) [a]).reverse)) a15 (exo a15 (fa mg "BadCase") (some d15)) = G239 at S fd k1 k2 k3 k4 k5 k6 k7 k8 k9 k10 k11 k12 k13 k14 k15 ⊢
    refine ⟨_, rfl, rfl, (by show 1 ≤ 1000; decide), fun a16 d16 ha hd hn => ?_⟩
    have u : Same G239 (upd (upd G239 d16 (exd d16 (List.zip (["name"] : List Str) [a]).reverse)) a16 (exo a16 (fa mg "BadWish") (some d16))) := same_made ha hd
    have S := S.trans u
    have fd := u _ _ fd
    have k1 := k1.same u
    have k2 := k2.same u
    have k3 := k3.same u
    have k4 := k4.same u
    have k5 := k5.same u
    have k6 := k6.same u
    have k7 := k7.same u
    have k8 := k8.same u
    have k9 := k9.same u
    have k10 := k10.same u
    have k11 := k11.same u
    have k12 := k12.same u
    have k13 := k13.same u
    have k14 := k14.same u
    have k15 := k15.same u
    have k16 : ErrAt (upd (upd G239 d16 (exd d16 (List.zip (["name"] : List Str) [a]).reverse)) a16 (exo a16 (fa mg "BadWish") (some d16))) a16 (fa mg "BadWish") := ⟨_, upd_same, .inr ⟨d16, _, rfl, by rw [upd_ne hn]; exact upd_same⟩⟩
    clear u
    generalize upd (upd G239 d16 (exd d16 (List.zip (["name"] : List Str) [a]).reverse)) a16 (exo a16 (fa mg "BadWish") (some d16)) = G260 at S fd k1 k2 k3 k4 k5 k6 k7 k8 k9 k10 k11 k12 k13 k14 k15 k16 ⊢
    refine ⟨_, rfl, rfl, (by show 1 ≤ 1000; decide), fun a17 d17 ha hd hn => ?_⟩
    have u : Same G260 (upd (upd G260 d17 (exd d17 (List.zip (["number"] : List Str) [a]).reverse)) a17 (exo a17 (fa mg "BadStatement") (some d17))) := same_made ha hd
    have S := S.trans u
    have fd := u _ _ fd
    have k1 := k1.same u
    have k2 := k2.same u
    have k3 := k3.same u
    have k4 := k4.same u
    have k5 := k5.same u
    have k6 := k6.same u
    have k7 := k7.same u
    have k8 := k8.same u
    have k9 := k9.same u
    have k10 := k10.same u
    have k11 := k11.same u
    have k12 := k12.same u
    have k13 := k13.same u
    have k14 := k14.same u
    have k15 := k15.same u
    have k16 := k16.same u
    have k17 : ErrAt (upd (upd G260 d17 (exd d17 (List.zip (["number"] : List Str) [a]).reverse)) a17 (exo a17 (fa mg "BadStatement") (some d17))) a17 (fa mg "BadStatement") := ⟨_, upd_same, .inr ⟨d17, _, rfl, by rw [upd_ne hn]; exact upd_same⟩⟩
    clear u
    generalize upd (upd G260 d17 (exd d17 (List.zip (["number"] : List Str) [a]).reverse)) a17 (exo a17 (fa mg "BadStatement") (some d17)) = G282 at S fd k1 k2 k3 k4 k5 k6 k7 k8 k9 k10 k11 k12 k13 k14 k15 k16 k17 ⊢
    refine ⟨_, rfl, rfl, (by show 1 ≤ 1000; decide), fun a18 d18 ha hd hn => ?_⟩
    have u : Same G282 (upd (upd G282 d18 (exd d18 (List.zip (["line"] : List Str) [a]).reverse)) a18 (exo a18 (fa mg "BadText") (some d18))) := same_made ha hd
    have S := S.trans u
    have fd := u _ _ fd
    have k1 := k1.same u
    have k2 := k2.same u
    have k3 := k3.same u
    have k4 := k4.same u
    have k5 := k5.same u
    have k6 := k6.same u
    have k7 := k7.same u
    have k8 := k8.same u
    have k9 := k9.same u
    have k10 := k10.same u
    have k11 := k11.same u
    have k12 := k12.same u
    have k13 := k13.same u
    have k14 := k14.same u
    have k15 := k15.same u
    have k16 := k16.same u
    have k17 := k17.same u
    have k18 : ErrAt (upd (upd G282 d18 (exd d18 (List.zip (["line"] : List Str) [a]).reverse)) a18 (exo a18 (fa mg "BadText") (some d18))) a18 (fa mg "BadText") := ⟨_, upd_same, .inr ⟨d18, _, rfl, by rw [upd_ne hn]; exact upd_same⟩⟩
    clear u
    generalize upd (upd G282 d18 (exd d18 (List.zip (["line"] : List Str) [a]).reverse)) a18 (exo a18 (fa mg "BadText") (some d18)) = G305 at S fd k1 k2 k3 k4 k5 k6 k7 k8 k9 k10 k11 k12 k13 k14 k15 k16 k17 k18 ⊢
    refine ⟨_, rfl, rfl, (by show 1 ≤ 1000; decide), fun a19 d19 ha hd hn => ?_⟩
    have u : Same G305 (upd (upd G305 d19 (exd d19 (List.zip (["key"] : List Str) [a]).reverse)) a19 (exo a19 (fa mg "NoKey") (some d19))) := same_made ha hd
    have S := S.trans u
    have fd := u _ _ fd
    have k1 := k1.same u
    have k2 := k2.same u
    have k3 := k3.same u
    have k4 := k4.same u
    have k5 := k5.same u
    have k6 := k6.same u
    have k7 := k7.same u
    have k8 := k8.same u
    have k9 := k9.same u
    have k10 := k10.same u
    have k11 := k11.same u
    have k12 := k12.same u
    have k13 := k13.same u
    have k14 := k14.same u
    have k15 := k15.same u
    have k16 := k16.same u
    have k17 := k17.same u
    have k18 := k18.same u
    have k19 : ErrAt (upd (upd G305 d19 (exd d19 (List.zip (["key"] : List Str) [a]).reverse)) a19 (exo a19 (fa mg "NoKey") (some d19))) a19 (fa mg "NoKey") := ⟨_, upd_same, .inr ⟨d19, _, rfl, by rw [upd_ne hn]; exact upd_same⟩⟩
    clear u
    generalize upd (upd G305 d19 (exd d19 (List.zip (["key"] : List Str) [a]).reverse)) a19 (exo a19 (fa mg "NoKey") (some d19)) = G329 at S fd k1 k2 k3 k4 k5 k6 k7 k8 k9 k10 k11 k12 k13 k14 k15 k16 k17 k18 k19 ⊢
    refine ⟨_, rfl, rfl, (by show 1 ≤ 1000; decide), fun a20 d20 ha hd hn => ?_⟩
    have u : Same G329 (upd (upd G329 d20 (exd d20 (List.zip (["start"] : List Str) [a]).reverse)) a20 (exo a20 (fa mg "NoStart") (some d20))) := same_made ha hd
    have S := S.trans u
    have fd := u _ _ fd
    have k1 := k1.same u
    have k2 := k2.same u
    have k3 := k3.same u
    have k4 := k4.same u
    have k5 := k5.same u
    have k6 := k6.same u
    have k7 := k7.same u
    have k8 := k8.same u
    have k9 := k9.same u
    have k10 := k10.same u
    have k11 := k11.same u
    have k12 := k12.same u
    have k13 := k13.same u
    have k14 := k14.same u
    have k15 := k15.same u
    have k16 := k16.same u
    have k17 := k17.same u
    have k18 := k18.same u
    have k19 := k19.same u
    have k20 : ErrAt (upd (upd G329 d20 (exd d20 (List.zip (["start"] : List Str) [a]).reverse)) a20 (exo a20 (fa mg "NoStart") (some d20))) a20 (fa mg "NoStart") := ⟨_, upd_same, .inr ⟨d20, _, rfl, by rw [upd_ne hn]; exact upd_same⟩⟩
    clear u
    generalize upd (upd G329 d20 (exd d20 (List.zip (["start"] : List Str) [a]).reverse)) a20 (exo a20 (fa mg "NoStart") (some d20)) = G354 at S fd k1 k2 k3 k4 k5 k6 k7 k8 k9 k10 k11 k12 k13 k14 k15 k16 k17 k18 k19 k20 ⊢
    refine ⟨(by show 7 ≤ sizeLine; decide), fun l2 hl => ?_⟩
    have u : Same G354 (upd G354 l2 (.lst [.ref a14, .ref a15, .ref a16, .ref a17, .ref a18, .ref a19, .ref a20])) := same_new hl
    have S := S.trans u
    have fd := u _ _ fd
    have k1 := k1.same u
    have k2 := k2.same u
    have k3 := k3.same u
    have k4 := k4.same u
    have k5 := k5.same u
    have k6 := k6.same u
    have k7 := k7.same u
    have k8 := k8.same u
    have k9 := k9.same u
    have k10 := k10.same u
    have k11 := k11.same u
    have k12 := k12.same u
    have k13 := k13.same u
    have k14 := k14.same u
    have k15 := k15.same u
    have k16 := k16.same u
    have k17 := k17.same u
    have k18 := k18.same u
    have k19 := k19.same u
    have k20 := k20.same u
    have ld : (upd G354 l2 (.lst [.ref a14, .ref a15, .ref a16, .ref a17, .ref a18, .ref a19, .ref a20])) l2 = some (.lst [.ref a14, .ref a15, .ref a16, .ref a17, .ref a18, .ref a19, .ref a20]) := upd_same
    clear u
    generalize upd G354 l2 (.lst [.ref a14, .ref a15, .ref a16, .ref a17, .ref a18, .ref a19, .ref a20]) = G380 at S fd k1 k2 k3 k4 k5 k6 k7 k8 k9 k10 k11 k12 k13 k14 k15 k16 k17 k18 k19 k20 ld ⊢
    refine ⟨r1, l2, _, _, rfl, rfl, fd, ld, (by show 20 ≤ sizeLine; decide), fun r2 hr0 => ?_⟩
    clear fd ld
    have u : Same G380 (upd G380 r2 (.lst ([.ref a1, .ref a2, .ref a3, .ref a4, .ref a5, .ref a6, .ref a7, .ref a8, .ref a9, .ref a10, .ref a11, .ref a12, .ref a13] ++ [.ref a14, .ref a15, .ref a16, .ref a17, .ref a18, .ref a19, .ref a20]))) := same_new hr0
    have S := S.trans u
    have k1 := k1.same u
    have k2 := k2.same u
    have k3 := k3.same u
    have k4 := k4.same u
    have k5 := k5.same u
    have k6 := k6.same u
    have k7 := k7.same u
    have k8 := k8.same u
    have k9 := k9.same u
    have k10 := k10.same u
    have k11 := k11.same u
    have k12 := k12.same u
    have k13 := k13.same u
    have k14 := k14.same u
    have k15 := k15.same u
    have k16 := k16.same u
    have k17 := k17.same u
    have k18 := k18.same u
    have k19 := k19.same u
    have k20 := k20.same u
    have fd : (upd G380 r2 (.lst ([.ref a1, .ref a2, .ref a3, .ref a4, .ref a5, .ref a6, .ref a7, .ref a8, .ref a9, .ref a10, .ref a11, .ref a12, .ref a13] ++ [.ref a14, .ref a15, .ref a16, .ref a17, .ref a18, .ref a19, .ref a20]))) r2 = some (.lst [.ref a1, .ref a2, .ref a3, .ref a4, .ref a5, .ref a6, .ref a7, .ref a8, .ref a9, .ref a10, .ref a11, .ref a12, .ref a13, .ref a14, .ref a15, .ref a16, .ref a17, .ref a18, .ref a19, .ref a20]) := upd_same
    clear u
    generalize upd G380 r2 (.lst ([.ref a1, .ref a2, .ref a3, .ref a4, .ref a5, .ref a6, .ref a7, .ref a8, .ref a9, .ref a10, .ref a11, .ref a12, .ref a13] ++ [.ref a14, .ref a15, .ref a16, .ref a17, .ref a18, .ref a19, .ref a20])) = G408 at S k1 k2 k3 k4 k5 k6 k7 k8 k9 k10 k11 k12 k13 k14 k15 k16 k17 k18 k19 k20 fd ⊢
    refine ⟨_, rfl, ?_⟩
    intro a21 ha
    have u : Same G408 (upd G408 a21 (exo a21 (fa mg "BadPlan") none)) := same_new ha
    have S := S.trans u
    have fd := u _ _ fd
    have k1 := k1.same u
    have k2 := k2.same u
    have k3 := k3.same u
    have k4 := k4.same u
    have k5 := k5.same u
    have k6 := k6.same u
    have k7 := k7.same u
    have k8 := k8.same u
    have k9 := k9.same u
    have k10 := k10.same u
    have k11 := k11.same u
    have k12 := k12.same u
    have k13 := k13.same u
    have k14 := k14.same u
    have k15 := k15.same u
    have k16 := k16.same u
    have k17 := k17.same u
    have k18 := k18.same u
    have k19 := k19.same u
    have k20 := k20.same u
    have k21 : ErrAt (upd G408 a21 (exo a21 (fa mg "BadPlan") none)) a21 (fa mg "BadPlan") := ⟨_, upd_same, .inl rfl⟩
    clear u
    generalize upd G408 a21 (exo a21 (fa mg "BadPlan") none) = G435 at S fd k1 k2 k3 k4 k5 k6 k7 k8 k9 k10 k11 k12 k13 k14 k15 k16 k17 k18 k19 k20 k21 ⊢
    refine ⟨_, rfl, rfl, (by show 1 ≤ 1000; decide), fun a22 d22 ha hd hn => ?_⟩
    have u : Same G435 (upd (upd G435 d22 (exd d22 (List.zip (["kind"] : List Str) [a]).reverse)) a22 (exo a22 (fa mg "NoKind") (some d22))) := same_made ha hd
    have S := S.trans u
    have fd := u _ _ fd
    have k1 := k1.same u
    have k2 := k2.same u
    have k3 := k3.same u
    have k4 := k4.same u
    have k5 := k5.same u
    have k6 := k6.same u
    have k7 := k7.same u
    have k8 := k8.same u
    have k9 := k9.same u
    have k10 := k10.same u
    have k11 := k11.same u
    have k12 := k12.same u
    have k13 := k13.same u
    have k14 := k14.same u
    have k15 := k15.same u
    have k16 := k16.same u
    have k17 := k17.same u
    have k18 := k18.same u
    have k19 := k19.same u
    have k20 := k20.same u
    have k21 := k21.same u
    have k22 : ErrAt (upd (upd G435 d22 (exd d22 (List.zip (["kind"] : List Str) [a]).reverse)) a22 (exo a22 (fa mg "NoKind") (some d22))) a22 (fa mg "NoKind") := ⟨_, upd_same, .inr ⟨d22, _, rfl, by rw [upd_ne hn]; exact upd_same⟩⟩
    clear u
    generalize upd (upd G435 d22 (exd d22 (List.zip (["kind"] : List Str) [a]).reverse)) a22 (exo a22 (fa mg "NoKind") (some d22)) = G462 at S fd k1 k2 k3 k4 k5 k6 k7 k8 k9 k10 k11 k12 k13 k14 k15 k16 k17 k18 k19 k20 k21 k22 ⊢
    intro a23 ha
    have u : Same G462 (upd G462 a23 (exo a23 (fa mg "Unfit") none)) := same_new ha
    have S := S.trans u
    have fd := u _ _ fd
    have k1 := k1.same u
    have k2 := k2.same u
    have k3 := k3.same u
    have k4 := k4.same u
    have k5 := k5.same u
    have k6 := k6.same u
    have k7 := k7.same u
    have k8 := k8.same u
    have k9 := k9.same u
    have k10 := k10.same u
    have k11 := k11.same u
    have k12 := k12.same u
    have k13 := k13.same u
    have k14 := k14.same u
    have k15 := k15.same u
    have k16 := k16.same u
    have k17 := k17.same u
    have k18 := k18.same u
    have k19 := k19.same u
    have k20 := k20.same u
    have k21 := k21.same u
    have k22 := k22.same u
    have k23 : ErrAt (upd G462 a23 (exo a23 (fa mg "Unfit") none)) a23 (fa mg "Unfit") := ⟨_, upd_same, .inl rfl⟩
    clear u
    generalize upd G462 a23 (exo a23 (fa mg "Unfit") none) = G490 at S fd k1 k2 k3 k4 k5 k6 k7 k8 k9 k10 k11 k12 k13 k14 k15 k16 k17 k18 k19 k20 k21 k22 k23 ⊢
    refine ⟨_, rfl, rfl, (by show 1 ≤ 1000; decide), fun a24 d24 ha hd hn => ?_⟩
    have u : Same G490 (upd (upd G490 d24 (exd d24 (List.zip (["control"] : List Str) [a]).reverse)) a24 (exo a24 (fa mg "Recalls") (some d24))) := same_made ha hd
    have S := S.trans u
    have fd := u _ _ fd
    have k1 := k1.same u
    have k2 := k2.same u
    have k3 := k3.same u
    have k4 := k4.same u
    have k5 := k5.same u
    have k6 := k6.same u
    have k7 := k7.same u
    have k8 := k8.same u
    have k9 := k9.same u
    have k10 := k10.same u
    have k11 := k11.same u
    have k12 := k12.same u
    have k13 := k13.same u
    have k14 := k14.same u
    have k15 := k15.same u
    have k16 := k16.same u
    have k17 := k17.same u
    have k18 := k18.same u
    have k19 := k19.same u
    have k20 := k20.same u
    have k21 := k21.same u
    have k22 := k22.same u
    have k23 := k23.same u
    have k24 : ErrAt (upd (upd G490 d24 (exd d24 (List.zip (["control"] : List Str) [a]).reverse)) a24 (exo a24 (fa mg "Recalls") (some d24))) a24 (fa mg "Recalls") := ⟨_, upd_same, .inr ⟨d24, _, rfl, by rw [upd_ne hn]; exact upd_same⟩⟩
    clear u
    generalize upd (upd G490 d24 (exd d24 (List.zip (["control"] : List Str) [a]).reverse)) a24 (exo a24 (fa mg "Recalls") (some d24)) = G519 at S fd k1 k2 k3 k4 k5 k6 k7 k8 k9 k10 k11 k12 k13 k14 k15 k16 k17 k18 k19 k20 k21 k22 k23 k24 ⊢
    intro a25 ha
    have u : Same G519 (upd G519 a25 (exo a25 (fa mg "Endless") none)) := same_new ha
    have S := S.trans u
    have fd := u _ _ fd
    have k1 := k1.same u
    have k2 := k2.same u
    have k3 := k3.same u
    have k4 := k4.same u
    have k5 := k5.same u
    have k6 := k6.same u
    have k7 := k7.same u
    have k8 := k8.same u
    have k9 := k9.same u
    have k10 := k10.same u
    have k11 := k11.same u
    have k12 := k12.same u
    have k13 := k13.same u
    have k14 := k14.same u
    have k15 := k15.same u
    have k16 := k16.same u
    have k17 := k17.same u
    have k18 := k18.same u
    have k19 := k19.same u
    have k20 := k20.same u
    have k21 := k21.same u
    have k22 := k22.same u
    have k23 := k23.same u
    have k24 := k24.same u
    have k25 : ErrAt (upd G519 a25 (exo a25 (fa mg "Endless") none)) a25 (fa mg "Endless") := ⟨_, upd_same, .inl rfl⟩
    clear u
    generalize upd G519 a25 (exo a25 (fa mg "Endless") none) = G549 at S fd k1 k2 k3 k4 k5 k6 k7 k8 k9 k10 k11 k12 k13 k14 k15 k16 k17 k18 k19 k20 k21 k22 k23 k24 k25 ⊢
    refine ⟨_, rfl, rfl, (by show 1 ≤ 1000; decide), fun a26 d26 ha hd hn => ?_⟩
    have u : Same G549 (upd (upd G549 d26 (exd d26 (List.zip (["control"] : List Str) [a]).reverse)) a26 (exo a26 (fa mg "NoControl") (some d26))) := same_made ha hd
    have S := S.trans u
    have fd := u _ _ fd
    have k1 := k1.same u
    have k2 := k2.same u
    have k3 := k3.same u
    have k4 := k4.same u
    have k5 := k5.same u
    have k6 := k6.same u
    have k7 := k7.same u
    have k8 := k8.same u
    have k9 := k9.same u
    have k10 := k10.same u
    have k11 := k11.same u
    have k12 := k12.same u
    have k13 := k13.same u
    have k14 := k14.same u
    have k15 := k15.same u
    have k16 := k16.same u
    have k17 := k17.same u
    have k18 := k18.same u
    have k19 := k19.same u
    have k20 := k20.same u
    have k21 := k21.same u
    have k22 := k22.same u
    have k23 := k23.same u
    have k24 := k24.same u
    have k25 := k25.same u
    have k26 : ErrAt (upd (upd G549 d26 (exd d26 (List.zip (["control"] : List Str) [a]).reverse)) a26 (exo a26 (fa mg "NoControl") (some d26))) a26 (fa mg "NoControl") := ⟨_, upd_same, .inr ⟨d26, _, rfl, by rw [upd_ne hn]; exact upd_same⟩⟩
    clear u
    generalize upd (upd G549 d26 (exd d26 (List.zip (["control"] : List Str) [a]).reverse)) a26 (exo a26 (fa mg "NoControl") (some d26)) = G580 at S fd k1 k2 k3 k4 k5 k6 k7 k8 k9 k10 k11 k12 k13 k14 k15 k16 k17 k18 k19 k20 k21 k22 k23 k24 k25 k26 ⊢
    refine ⟨_, rfl, rfl, (by show 1 ≤ 1000; decide), fun a27 d27 ha hd hn => ?_⟩
    have u : Same G580 (upd (upd G580 d27 (exd d27 (List.zip (["height"] : List Str) [a]).reverse)) a27 (exo a27 (fa mg "BadHeight") (some d27))) := same_made ha hd
    have S := S.trans u
    have fd := u _ _ fd
    have k1 := k1.same u
    have k2 := k2.same u
    have k3 := k3.same u
    have k4 := k4.same u
    have k5 := k5.same u
    have k6 := k6.same u
    have k7 := k7.same u
    have k8 := k8.same u
    have k9 := k9.same u
    have k10 := k10.same u
    have k11 := k11.same u
    have k12 := k12.same u
    have k13 := k13.same u
    have k14 := k14.same u
    have k15 := k15.same u
    have k16 := k16.same u
    have k17 := k17.same u
    have k18 := k18.same u
    have k19 := k19.same u
    have k20 := k20.same u
    have k21 := k21.same u
    have k22 := k22.same u
    have k23 := k23.same u
    have k24 := k24.same u
    have k25 := k25.same u
    have k26 := k26.same u
    have k27 : ErrAt (upd (upd G580 d27 (exd d27 (List.zip (["height"] : List Str) [a]).reverse)) a27 (exo a27 (fa mg "BadHeight") (some d27))) a27 (fa mg "BadHeight") := ⟨_, upd_same, .inr ⟨d27, _, rfl, by rw [upd_ne hn]; exact upd_same⟩⟩
    clear u
    generalize upd (upd G580 d27 (exd d27 (List.zip (["height"] : List Str) [a]).reverse)) a27 (exo a27 (fa mg "BadHeight") (some d27)) = G612 at S fd k1 k2 k3 k4 k5 k6 k7 k8 k9 k10 k11 k12 k13 k14 k15 k16 k17 k18 k19 k20 k21 k22 k23 k24 k25 k26 k27 ⊢
    refine ⟨(by show 7 ≤ sizeLine; decide), fun l3 hl => ?_⟩
    have u : Same G612 (upd G612 l3 (.lst [.ref a21, .ref a22, .ref a23, .ref a24, .ref a25, .ref a26, .ref a27])) := same_new hl
    have S := S.trans u
    have fd := u _ _ fd
    have k1 := k1.same u
    have k2 := k2.same u
    have k3 := k3.same u
    have k4 := k4.same u
    have k5 := k5.same u
    have k6 := k6.same u
    have k7 := k7.same u
    have k8 := k8.same u
    have k9 := k9.same u
    have k10 := k10.same u
    have k11 := k11.same u
    have k12 := k12.same u
    have k13 := k13.same u
    have k14 := k14.same u
    have k15 := k15.same u
    have k16 := k16.same u
    have k17 := k17.same u
    have k18 := k18.same u
    have k19 := k19.same u
    have k20 := k20.same u
    have k21 := k21.same u
    have k22 := k22.same u
    have k23 := k23.same u
    have k24 := k24.same u
    have k25 := k25.same u
    have k26 := k26.same u
    have k27 := k27.same u
    have ld : (upd G612 l3 (.lst [.ref a21, .ref a22, .ref a23, .ref a24, .ref a25, .ref a26, .ref a27])) l3 = some (.lst [.ref a21, .ref a22, .ref a23, .ref a24, .ref a25, .ref a26, .ref a27]) := upd_same
    clear u
    generalize upd G612 l3 (.lst [.ref a21, .ref a22, .ref a23, .ref a24, .ref a25, .ref a26, .ref a27]) = G645 at S fd k1 k2 k3 k4 k5 k6 k7 k8 k9 k10 k11 k12 k13 k14 k15 k16 k17 k18 k19 k20 k21 k22 k23 k24 k25 k26 k27 ld ⊢
    refine ⟨r2, l3, _, _, rfl, rfl, fd, ld, (by show 27 ≤ sizeLine; decide), fun r3 hr0 => ?_⟩
    clear fd ld
    have u : Same G645 (upd G645 r3 (.lst ([.ref a1, .ref a2, .ref a3, .ref a4, .ref a5, .ref a6, .ref a7, .ref a8, .ref a9, .ref a10, .ref a11, .ref a12, .ref a13, .ref a14, .ref a15, .ref a16, .ref a17, .ref a18, .ref a19, .ref a20] ++ [.ref a21, .ref a22, .ref a23, .ref a24, .ref a25, .ref a26, .ref a27]))) := same_new hr0
    have S := S.trans u
    have k1 := k1.same u
    have k2 := k2.same u
    have k3 := k3.same u
    have k4 := k4.same u
    have k5 := k5.same u
    have k6 := k6.same u
    have k7 := k7.same u
    have k8 := k8.same u
    have k9 := k9.same u
    have k10 := k10.same u
    have k11 := k11.same u
    have k12 := k12.same u
    have k13 := k13.same u
    have k14 := k14.same u
    have k15 := k15.same u
    have k16 := k16.same u
    have k17 := k17.same u
    have k18 := k18.same u
    have k19 := k19.same u
    have k20 := k20.same u
    have k21 := k21.same u
    have k22 := k22.same u
    have k23 := k23.same u
    have k24 := k24.same u
    have k25 := k25.same u
    have k26 := k26.same u
    have k27 := k27.same u
    have fd : (upd G645 r3 (.lst ([.ref a1, .ref a2, .ref a3, .ref a4, .ref a5, .ref a6, .ref a7, .ref a8, .ref a9, .ref a10, .ref a11, .ref a12, .ref a13, .ref a14, .ref a15, .ref a16, .ref a17, .ref a18, .ref a19, .ref a20] ++ [.ref a21, .ref a22, .ref a23, .ref a24, .ref a25, .ref a26, .ref a27]))) r3 = some (.lst [.ref a1, .ref a2, .ref a3, .ref a4, .ref a5, .ref a6, .ref a7, .ref a8, .ref a9, .ref a10, .ref a11, .ref a12, .ref a13, .ref a14, .ref a15, .ref a16, .ref a17, .ref a18, .ref a19, .ref a20, .ref a21, .ref a22, .ref a23, .ref a24, .ref a25, .ref a26, .ref a27]) := upd_same
    clear u
    generalize upd G645 r3 (.lst ([.ref a1, .ref a2, .ref a3, .ref a4, .ref a5, .ref a6, .ref a7, .ref a8, .ref a9, .ref a10, .ref a11, .ref a12, .ref a13, .ref a14, .ref a15, .ref a16, .ref a17, .ref a18, .ref a19, .ref a20] ++ [.ref a21, .ref a22, .ref a23, .ref a24, .ref a25, .ref a26, .ref a27])) = G680 at S k1 k2 k3 k4 k5 k6 k7 k8 k9 k10 k11 k12 k13 k14 k15 k16 k17 k18 k19 k20 k21 k22 k23 k24 k25 k26 k27 fd ⊢
    refine ⟨_, rfl, ?_⟩
    refine ⟨_, rfl, rfl, (by show 1 ≤ 1000; decide), fun a28 d28 ha hd hn => ?_⟩
    have u : Same G680 (upd (upd G680 d28 (exd d28 (List.zip (["name"] : List Str) [a]).reverse)) a28 (exo a28 (fa mg "BadRule") (some d28))) := same_made ha hd
    have S := S.trans u
    have fd := u _ _ fd
    have k1 := k1.same u
    have k2 := k2.same u
    have k3 := k3.same u
    have k4 := k4.same u
    have k5 := k5.same u
    have k6 := k6.same u
    have k7 := k7.same u
    have k8 := k8.same u
    have k9 := k9.same u
    have k10 := k10.same u
    have k11 := k11.same u
    have k12 := k12.same u
    have k13 := k13.same u
    have k14 := k14.same u
    have k15 := k15.same u
    have k16 := k16.same u
    have k17 := k17.same u
    have k18 := k18.same u
    have k19 := k19.same u
    have k20 := k20.same u
    have k21 := k21.same u
    have k22 := k22.same u
    have k23 := k23.same u
    have k24 := k24.same u
    have k25 := k25.same u
    have k26 := k26.same u
    have k27 := k27.same u
    have k28 : ErrAt (upd (upd G680 d28 (exd d28 (List.zip (["name"] : List Str) [a]).reverse)) a28 (exo a28 (fa mg "BadRule") (some d28))) a28 (fa mg "BadRule") := ⟨_, upd_same, .inr ⟨d28, _, rfl, by rw [upd_ne hn]; exact upd_same⟩⟩
    clear u
    generalize upd (upd G680 d28 (exd d28 (List.zip (["name"] : List Str) [a]).reverse)) a28 (exo a28 (fa mg "BadRule") (some d28)) = G714 at S fd k1 k2 k3 k4 k5 k6 k7 k8 k9 k10 k11 k12 k13 k14 k15 k16 k17 k18 k19 k20 k21 k22 k23 k24 k25 k26 k27 k28 ⊢
    refine ⟨_, rfl, rfl, (by show 1 ≤ 1000; decide), fun a29 d29 ha hd hn => ?_⟩
    have u : Same G714 (upd (upd G714 d29 (exd d29 (List.zip (["name"] : List Str) [a]).reverse)) a29 (exo a29 (fa mg "Ring") (some d29))) := same_made ha hd
    have S := S.trans u
    have fd := u _ _ fd
    have k1 := k1.same u
    have k2 := k2.same u
    have k3 := k3.same u
    have k4 := k4.same u
    have k5 := k5.same u
    have k6 := k6.same u
    have k7 := k7.same u
    have k8 := k8.same u
    have k9 := k9.same u
    have k10 := k10.same u
    have k11 := k11.same u
    have k12 := k12.same u
    have k13 := k13.same u
    have k14 := k14.same u
    have k15 := k15.same u
    have k16 := k16.same u
    have k17 := k17.same u
    have k18 := k18.same u
    have k19 := k19.same u
    have k20 := k20.same u
    have k21 := k21.same u
    have k22 := k22.same u
    have k23 := k23.same u
    have k24 := k24.same u
    have k25 := k25.same u
    have k26 := k26.same u
    have k27 := k27.same u
    have k28 := k28.same u
    have k29 : ErrAt (upd (upd G714 d29 (exd d29 (List.zip (["name"] : List Str) [a]).reverse)) a29 (exo a29 (fa mg "Ring") (some d29))) a29 (fa mg "Ring") := ⟨_, upd_same, .inr ⟨d29, _, rfl, by rw [upd_ne hn]; exact upd_same⟩⟩
    clear u
    generalize upd (upd G714 d29 (exd d29 (List.zip (["name"] : List Str) [a]).reverse)) a29 (exo a29 (fa mg "Ring") (some d29)) = G748 at S fd k1 k2 k3 k4 k5 k6 k7 k8 k9 k10 k11 k12 k13 k14 k15 k16 k17 k18 k19 k20 k21 k22 k23 k24 k25 k26 k27 k28 k29 ⊢
    refine ⟨_, rfl, rfl, (by show 1 ≤ 1000; decide), fun a30 d30 ha hd hn => ?_⟩
    have u : Same G748 (upd (upd G748 d30 (exd d30 (List.zip (["root"] : List Str) [a]).reverse)) a30 (exo a30 (fa mg "NoRule") (some d30))) := same_made ha hd
    have S := S.trans u
    have fd := u _ _ fd
    have k1 := k1.same u
    have k2 := k2.same u
    have k3 := k3.same u
    have k4 := k4.same u
    have k5 := k5.same u
    have k6 := k6.same u
    have k7 := k7.same u
    have k8 := k8.same u
    have k9 := k9.same u
    have k10 := k10.same u
    have k11 := k11.same u
    have k12 := k12.same u
    have k13 := k13.same u
    have k14 := k14.same u
    have k15 := k15.same u
    have k16 := k16.same u
    have k17 := k17.same u
    have k18 := k18.same u
    have k19 := k19.same u
    have k20 := k20.same u
    have k21 := k21.same u
    have k22 := k22.same u
    have k23 := k23.same u
    have k24 := k24.same u
    have k25 := k25.same u
    have k26 := k26.same u
    have k27 := k27.same u
    have k28 := k28.same u
    have k29 := k29.same u
    have k30 : ErrAt (upd (upd G748 d30 (exd d30 (List.zip (["root"] : List Str) [a]).reverse)) a30 (exo a30 (fa mg "NoRule") (some d30))) a30 (fa mg "NoRule") := ⟨_, upd_same, .inr ⟨d30, _, rfl, by rw [upd_ne hn]; exact upd_same⟩⟩
    clear u
    generalize upd (upd G748 d30 (exd d30 (List.zip (["root"] : List Str) [a]).reverse)) a30 (exo a30 (fa mg "NoRule") (some d30)) = G783 at S fd k1 k2 k3 k4 k5 k6 k7 k8 k9 k10 k11 k12 k13 k14 k15 k16 k17 k18 k19 k20 k21 k22 k23 k24 k25 k26 k27 k28 k29 k30 ⊢
    refine ⟨_, rfl, rfl, (by show 1 ≤ 1000; decide), fun a31 d31 ha hd hn => ?_⟩
    have u : Same G783 (upd (upd G783 d31 (exd d31 (List.zip (["pace"] : List Str) [a]).reverse)) a31 (exo a31 (fa mg "BadPace") (some d31))) := same_made ha hd
    have S := S.trans u
    have fd := u _ _ fd
    have k1 := k1.same u
    have k2 := k2.same u
    have k3 := k3.same u
    have k4 := k4.same u
    have k5 := k5.same u
    have k6 := k6.same u
    have k7 := k7.same u
    have k8 := k8.same u
    have k9 := k9.same u
    have k10 := k10.same u
    have k11 := k11.same u
    have k12 := k12.same u
    have k13 := k13.same u
    have k14 := k14.same u
    have k15 := k15.same u
    have k16 := k16.same u
    have k17 := k17.same u
    have k18 := k18.same u
    have k19 := k19.same u
    have k20 := k20.same u
    have k21 := k21.same u
    have k22 := k22.same u
    have k23 := k23.same u
    have k24 := k24.same u
    have k25 := k25.same u
    have k26 := k26.same u
    have k27 := k27.same u
    have k28 := k28.same u
    have k29 := k29.same u
    have k30 := k30.same u
    have k31 : ErrAt (upd (upd G783 d31 (exd d31 (List.zip (["pace"] : List Str) [a]).reverse)) a31 (exo a31 (fa mg "BadPace") (some d31))) a31 (fa mg "BadPace") := ⟨_, upd_same, .inr ⟨d31, _, rfl, by rw [upd_ne hn]; exact upd_same⟩⟩
    clear u
    generalize upd (upd G783 d31 (exd d31 (List.zip (["pace"] : List Str) [a]).reverse)) a31 (exo a31 (fa mg "BadPace") (some d31)) = G819 at S fd k1 k2 k3 k4 k5 k6 k7 k8 k9 k10 k11 k12 k13 k14 k15 k16 k17 k18 k19 k20 k21 k22 k23 k24 k25 k26 k27 k28 k29 k30 k31 ⊢
    refine ⟨_, rfl, rfl, (by show 1 ≤ 1000; decide), fun a32 d32 ha hd hn => ?_⟩
    have u : Same G819 (upd (upd G819 d32 (exd d32 (List.zip (["number"] : List Str) [a]).reverse)) a32 (exo a32 (fa mg "BadRank") (some d32))) := same_made ha hd
    have S := S.trans u
    have fd := u _ _ fd
    have k1 := k1.same u
    have k2 := k2.same u
    have k3 := k3.same u
    have k4 := k4.same u
    have k5 := k5.same u
    have k6 := k6.same u
    have k7 := k7.same u
    have k8 := k8.same u
    have k9 := k9.same u
    have k10 := k10.same u
    have k11 := k11.same u
    have k12 := k12.same u
    have k13 := k13.same u
    have k14 := k14.same u
    have k15 := k15.same u
    have k16 := k16.same u
    have k17 := k17.same u
    have k18 := k18.same u
    have k19 := k19.same u
    have k20 := k20.same u
    have k21 := k21.same u
    have k22 := k22.same u
    have k23 := k23.same u
    have k24 := k24.same u
    have k25 := k25.same u
    have k26 := k26.same u
    have k27 := k27.same u
    have k28 := k28.same u
    have k29 := k29.same u
    have k30 := k30.same u
    have k31 := k31.same u
    have k32 : ErrAt (upd (upd G819 d32 (exd d32 (List.zip (["number"] : List Str) [a]).reverse)) a32 (exo a32 (fa mg "BadRank") (some d32))) a32 (fa mg "BadRank") := ⟨_, upd_same, .inr ⟨d32, _, rfl, by rw [upd_ne hn]; exact upd_same⟩⟩
    clear u
    generalize upd (upd G819 d32 (exd d32 (List.zip (["number"] : List Str) [a]).reverse)) a32 (exo a32 (fa mg "BadRank") (some d32)) = G856 at S fd k1 k2 k3 k4 k5 k6 k7 k8 k9 k10 k11 k12 k13 k14 k15 k16 k17 k18 k19 k20 k21 k22 k23 k24 k25 k26 k27 k28 k29 k30 k31 k32 ⊢
    refine ⟨(by show 5 ≤ sizeLine; decide), fun l4 hl => ?_⟩
    have u : Same G856 (upd G856 l4 (.lst [.ref a28, .ref a29, .ref a30, .ref a31, .ref a32])) := same_new hl
    have S := S.trans u
    have fd := u _ _ fd
    have k1 := k1.same u
    have k2 := k2.same u
    have k3 := k3.same u
    have k4 := k4.same u
    have k5 := k5.same u
    have k6 := k6.same u
    have k7 := k7.same u
    have k8 := k8.same u
    have k9 := k9.same u
    have k10 := k10.same u
    have k11 := k11.same u
    have k12 := k12.same u
    have k13 := k13.same u
    have k14 := k14.same u
    have k15 := k15.same u
    have k16 := k16.same u
    have k17 := k17.same u
    have k18 := k18.same u
    have k19 := k19.same u
    have k20 := k20.same u
    have k21 := k21.same u
    have k22 := k22.same u
    have k23 := k23.same u
    have k24 := k24.same u
    have k25 := k25.same u
    have k26 := k26.same u
    have k27 := k27.same u
    have k28 := k28.same u
    have k29 := k29.same u
    have k30 := k30.same u
    have k31 := k31.same u
    have k32 := k32.same u
    have ld : (upd G856 l4 (.lst [.ref a28, .ref a29, .ref a30, .ref a31, .ref a32])) l4 = some (.lst [.ref a28, .ref a29, .ref a30, .ref a31, .ref a32]) := upd_same
    clear u
    generalize upd G856 l4 (.lst [.ref a28, .ref a29, .ref a30, .ref a31, .ref a32]) = G894 at S fd k1 k2 k3 k4 k5 k6 k7 k8 k9 k10 k11 k12 k13 k14 k15 k16 k17 k18 k19 k20 k21 k22 k23 k24 k25 k26 k27 k28 k29 k30 k31 k32 ld ⊢
    refine ⟨r3, l4, _, _, rfl, rfl, fd, ld, (by show 32 ≤ sizeLine; decide), fun r4 hr0 => ?_⟩
    clear fd ld
    have u : Same G894 (upd G894 r4 (.lst ([.ref a1, .ref a2, .ref a3, .ref a4, .ref a5, .ref a6, .ref a7, .ref a8, .ref a9, .ref a10, .ref a11, .ref a12, .ref a13, .ref a14, .ref a15, .ref a16, .ref a17, .ref a18, .ref a19, .ref a20, .ref a21, .ref a22, .ref a23, .ref a24, .ref a25, .ref a26, .ref a27] ++ [.ref a28, .ref a29, .ref a30, .ref a31, .ref a32]))) := same_new hr0
    have S := S.trans u
    have k1 := k1.same u
    have k2 := k2.same u
    have k3 := k3.same u
    have k4 := k4.same u
    have k5 := k5.same u
    have k6 := k6.same u
    have k7 := k7.same u
    have k8 := k8.same u
    have k9 := k9.same u
    have k10 := k10.same u
    have k11 := k11.same u
    have k12 := k12.same u
    have k13 := k13.same u
    have k14 := k14.same u
    have k15 := k15.same u
    have k16 := k16.same u
    have k17 := k17.same u
    have k18 := k18.same u
    have k19 := k19.same u
    have k20 := k20.same u
    have k21 := k21.same u
    have k22 := k22.same u
    have k23 := k23.same u
    have k24 := k24.same u
    have k25 := k25.same u
    have k26 := k26.same u
    have k27 := k27.same u
    have k28 := k28.same u
    have k29 := k29.same u
    have k30 := k30.same u
    have k31 := k31.same u
    have k32 := k32.same u
    have fd : (upd G894 r4 (.lst ([.ref a1, .ref a2, .ref a3, .ref a4, .ref a5, .ref a6, .ref a7, .ref a8, .ref a9, .ref a10, .ref a11, .ref a12, .ref a13, .ref a14, .ref a15, .ref a16, .ref a17, .ref a18, .ref a19, .ref a20, .ref a21, .ref a22, .ref a23, .ref a24, .ref a25, .ref a26, .ref a27] ++ [.ref a28, .ref a29, .ref a30, .ref a31, .ref a32]))) r4 = some (.lst [.ref a1, .ref a2, .ref a3, .ref a4, .ref a5, .ref a6, .ref a7, .ref a8, .ref a9, .ref a10, .ref a11, .ref a12, .ref a13, .ref a14, .ref a15, .ref a16, .ref a17, .ref a18, .ref a19, .ref a20, .ref a21, .ref a22, .ref a23, .ref a24, .ref a25, .ref a26, .ref a27, .ref a28, .ref a29, .ref a30, .ref a31, .ref a32]) := upd_same
    clear u
    generalize upd G894 r4 (.lst ([.ref a1, .ref a2, .ref a3, .ref a4, .ref a5, .ref a6, .ref a7, .ref a8, .ref a9, .ref a10, .ref a11, .ref a12, .ref a13, .ref a14, .ref a15, .ref a16, .ref a17, .ref a18, .ref a19, .ref a20, .ref a21, .ref a22, .ref a23, .ref a24, .ref a25, .ref a26, .ref a27] ++ [.ref a28, .ref a29, .ref a30, .ref a31, .ref a32])) = G934 at S k1 k2 k3 k4 k5 k6 k7 k8 k9 k10 k11 k12 k13 k14 k15 k16 k17 k18 k19 k20 k21 k22 k23 k24 k25 k26 k27 k28 k29 k30 k31 k32 fd ⊢
    exact ⟨_, rfl, k _ r4 [a1, a2, a3, a4, a5, a6, a7, a8, a9, a10, a11, a12, a13, a14, a15, a16, a17, a18, a19, a20, a21, a22, a23, a24, a25, a26, a27, a28, a29, a30, a31, a32] S fd (.cons k1 (.cons k2 (.cons k3 (.cons k4 (.cons k5 (.cons k6 (.cons k7 (.cons k8 (.cons k9 (.cons k10 (.cons k11 (.cons k12 (.cons k13 (.cons k14 (.cons k15 (.cons k16 (.cons k17 (.cons k18 (.cons k19 (.cons k20 (.cons k21 (.cons k22 (.cons k23 (.cons k24 (.cons k25 (.cons k26 (.cons k27 (.cons k28 (.cons k29 (.cons k30 (.cons k31 (.cons k32 .nil))))))))))))))))))))))))))))))))⟩
end
end My
namespace My
open PySem PySem.Spec PyProof.Rows L2

/-- isinstance of each of the kinds -/
def flL (x : Str) : List V := [V.bl (decide (x = "BadTold")), V.bl (decide (x = "BadValue")), V.bl (decide (x = "NoPlace")), V.bl (decide (x = "BadSize")), V.bl (decide (x = "Ring")), V.bl (decide (x = "NoKey")), V.bl (decide (x = "Unfit")), V.bl (decide (x = "Endless")), V.bl (decide (x = "TooMany"))]
/-- the kinds of the error x below n -/
def kOf (x : Str) (n : Nat) : List Int := ((List.range n).filter fun j => decide (kinL[j]? = some x)).map Int.ofNat
theorem kOf_snoc (x : Str) (n : Nat) : kOf x (n + 1) = kOf x n ++ (if kinL[n]? = some x then [(n : Int)] else []) := by
  unfold kOf
  rw [List.range_succ, List.filter_append, List.map_append]
  congr 1
  by_cases h : kinL[n]? = some x <;> simp [h]
theorem fl_at (x : Str) : ∀ n : Nat, n < 9 → atI (flL x) (0 + (n : Int)) = some (.bl (decide (kinL[n]? = some x))) := by
  intro n hn
  match n, hn with
  | 0, _ =>
    show some (V.bl (decide (x = "BadTold"))) = some (.bl (decide (some ("BadTold" : Str) = some x)))
    congr 2
    exact decide_eq_decide.mpr ⟨fun e => by rw [e], fun e => (Option.some.inj e).symm⟩
  | 1, _ =>
    show some (V.bl (decide (x = "BadValue"))) = some (.bl (decide (some ("BadValue" : Str) = some x)))
    congr 2
    exact decide_eq_decide.mpr ⟨fun e => by rw [e], fun e => (Option.some.inj e).symm⟩
  | 2, _ =>
    show some (V.bl (decide (x = "NoPlace"))) = some (.bl (decide (some ("NoPlace" : Str) = some x)))
    congr 2
    exact decide_eq_decide.mpr ⟨fun e => by rw [e], fun e => (Option.some.inj e).symm⟩
  | 3, _ =>
    show some (V.bl (decide (x = "BadSize"))) = some (.bl (decide (some ("BadSize" : Str) = some x)))
    congr 2
    exact decide_eq_decide.mpr ⟨fun e => by rw [e], fun e => (Option.some.inj e).symm⟩
  | 4, _ =>
    show some (V.bl (decide (x = "Ring"))) = some (.bl (decide (some ("Ring" : Str) = some x)))
    congr 2
    exact decide_eq_decide.mpr ⟨fun e => by rw [e], fun e => (Option.some.inj e).symm⟩
  | 5, _ =>
    show some (V.bl (decide (x = "NoKey"))) = some (.bl (decide (some ("NoKey" : Str) = some x)))
    congr 2
    exact decide_eq_decide.mpr ⟨fun e => by rw [e], fun e => (Option.some.inj e).symm⟩
  | 6, _ =>
    show some (V.bl (decide (x = "Unfit"))) = some (.bl (decide (some ("Unfit" : Str) = some x)))
    congr 2
    exact decide_eq_decide.mpr ⟨fun e => by rw [e], fun e => (Option.some.inj e).symm⟩
  | 7, _ =>
    show some (V.bl (decide (x = "Endless"))) = some (.bl (decide (some ("Endless" : Str) = some x)))
    congr 2
    exact decide_eq_decide.mpr ⟨fun e => by rw [e], fun e => (Option.some.inj e).symm⟩
  | 8, _ =>
    show some (V.bl (decide (x = "TooMany"))) = some (.bl (decide (some ("TooMany" : Str) = some x)))
    congr 2
    exact decide_eq_decide.mpr ⟨fun e => by rw [e], fun e => (Option.some.inj e).symm⟩
theorem kOf_len (x : Str) (n : Nat) : (kOf x n).length ≤ n := by
  unfold kOf
  rw [List.length_map]
  exact Nat.le_trans (List.length_filter_le _ _) (by rw [List.length_range]; exact Nat.le_refl _)
def spKinds (mg : Str → Option Value) : Sp := fun vs H Q _ => ∃ (a : Addr) (x : Str), vs = [.ref a] ∧ x ∈ errL ∧ ErrAt H a (fa mg x) ∧ ∀ H' l, H l = none → Same H H' → H' l = some (.lst ((kOf x 9).map V.int)) → Q (.ref l) H'
theorem none_back {H R : Hp} {d : Addr} (s : Same H R) (h : R d = none) : H d = none := by
  cases e : H d with
  | none => rfl
  | some o =>
    rw [s _ _ e] at h
    cases h
section
variable {P : Program} {w : World} {K : PySem.W.Frag} {mg : Str → Option Value} {base : Heap}
theorem ok_law_kinds (T : Txt P w K mg) : Ok P w K mg base CX0 1 "_law_kinds" ["_law_error"] (spKinds mg) := by
  refine T.law_kinds.F.ok sc_law_kinds (fun vs H Q E h => ?_) (fun cdv A outer s H vs Q E hr h => ?_)
  · obtain ⟨a, x, rfl, _⟩ := h
    rfl
  · obtain ⟨a, x, rfl, hx, ⟨d, ha, hd⟩, k⟩ := h
    refine ⟨_, (pss_cons (ps_set (i := 1) sc_law_kinds.nd rfl (Or.inr rfl) (pe_lst (pa_cons (pe_callB call_isV (by rfl) T.n_isinstance (by decide +kernel) (pa_cons (pv 0) (pa_cons (pe_glob (v := .ref (fa mg "BadTold")) (by rfl) T.e_BadTold.T.gC rfl) pa_nil))) (pa_cons (pe_callB call_isV (by rfl) T.n_isinstance (by decide +kernel) (pa_cons (pv 0) (pa_cons (pe_glob (v := .ref (fa mg "BadValue")) (by rfl) T.e_BadValue.T.gC rfl) pa_nil))) (pa_cons (pe_callB call_isV (by rfl) T.n_isinstance (by decide +kernel) (pa_cons (pv 0) (pa_cons (pe_glob (v := .ref (fa mg "NoPlace")) (by rfl) T.e_NoPlace.T.gC rfl) pa_nil))) pa_nil)))))
  (pss_cons (ps_set (i := 1) sc_law_kinds.nd rfl (Or.inr rfl) (pe_op op_cat (pv 1) (pe_lst (pa_cons (pe_callB call_isV (by rfl) T.n_isinstance (by decide +kernel) (pa_cons (pv 0) (pa_cons (pe_glob (v := .ref (fa mg "BadSize")) (by rfl) T.e_BadSize.T.gC rfl) pa_nil))) (pa_cons (pe_callB call_isV (by rfl) T.n_isinstance (by decide +kernel) (pa_cons (pv 0) (pa_cons (pe_glob (v := .ref (fa mg "Ring")) (by rfl) T.e_Ring.T.gC rfl) pa_nil))) (pa_cons (pe_callB call_isV (by rfl) T.n_isinstance (by decide +kernel) (pa_cons (pv 0) (pa_cons (pe_glob (v := .ref (fa mg "NoKey")) (by rfl) T.e_NoKey.T.gC rfl) pa_nil))) pa_nil))))))
  (pss_cons (ps_set (i := 1) sc_law_kinds.nd rfl (Or.inr rfl) (pe_op op_cat (pv 1) (pe_lst (pa_cons (pe_callB call_isV (by rfl) T.n_isinstance (by decide +kernel) (pa_cons (pv 0) (pa_cons (pe_glob (v := .ref (fa mg "Unfit")) (by rfl) T.e_Unfit.T.gC rfl) pa_nil))) (pa_cons (pe_callB call_isV (by rfl) T.n_isinstance (by decide +kernel) (pa_cons (pv 0) (pa_cons (pe_glob (v := .ref (fa mg "Endless")) (by rfl) T.e_Endless.T.gC rfl) pa_nil))) (pa_cons (pe_callB call_isV (by rfl) T.n_isinstance (by decide +kernel) (pa_cons (pv 0) (pa_cons (pe_glob (v := .ref (fa mg "TooMany")) (by rfl) T.e_TooMany.T.gC rfl) pa_nil))) pa_nil))))))
  (pss_one (ps_ret (pe_lc (own := [("_law_k", 2)]) (g := (gName 2)) (by rfl) sc_law_kinds.nd (pi_range1 (by rfl) T.n_range (pa_cons (pe_callB call_len_seq (by rfl) T.n_len (by decide +kernel) (pa_cons (pv 1) pa_nil)) pa_nil)) (blkOk_by (own := [("_law_k", 2)]) (N := ["_law_error", "_law_found", "_law_k"]) (sc := defScope s_law_kinds) (by decide +kernel)) (fun _ _ _ _ _ => (pg_name (i := 2) sc_law_kinds.nd rfl (Or.inl rfl))) (fun _ _ _ _ _ => (pts_one (pt_val (pe_ix (show IxR _ (rIxL K) from ix_list) (pv 1) (pv 2) (fun _ _ => rfl))))) (fun _ _ _ _ _ => (pv 2)))))))), ?_⟩
    have S : Same H H := fun _ _ h => h
    refine ⟨_, rfl, a, _, d, .ref (fa mg "BadTold"), .ref (fa mg "BadTold"), _, rfl, T.xc x hx, S _ _ ha, hd.imp id (fun ⟨dd, gs, e, h⟩ => ⟨dd, gs, e, S _ _ h⟩), (fun u hu => hu), T.xk x hx _ (by decide), ?_⟩
    refine ⟨_, rfl, a, _, d, .ref (fa mg "BadValue"), .ref (fa mg "BadValue"), _, rfl, T.xc x hx, S _ _ ha, hd.imp id (fun ⟨dd, gs, e, h⟩ => ⟨dd, gs, e, S _ _ h⟩), (fun u hu => hu), T.xk x hx _ (by decide), ?_⟩
    refine ⟨_, rfl, a, _, d, .ref (fa mg "NoPlace"), .ref (fa mg "NoPlace"), _, rfl, T.xc x hx, S _ _ ha, hd.imp id (fun ⟨dd, gs, e, h⟩ => ⟨dd, gs, e, S _ _ h⟩), (fun u hu => hu), T.xk x hx _ (by decide), ?_⟩
    refine ⟨(by show 3 ≤ sizeLine; decide), fun l0 hl => ?_⟩
    have fd : (upd H l0 (.lst [V.bl (decide (x = "BadTold")), V.bl (decide (x = "BadValue")), V.bl (decide (x = "NoPlace"))])) l0 = some (.lst [V.bl (decide (x = "BadTold")), V.bl (decide (x = "BadValue")), V.bl (decide (x = "NoPlace"))]) := upd_same
    have S := S.trans (same_new (o := .lst [V.bl (decide (x = "BadTold")), V.bl (decide (x = "BadValue")), V.bl (decide (x = "NoPlace"))]) hl)
    generalize upd H l0 (.lst [V.bl (decide (x = "BadTold")), V.bl (decide (x = "BadValue")), V.bl (decide (x = "NoPlace"))]) = G0 at fd S ⊢
    refine ⟨_, rfl, ?_⟩
    refine ⟨_, rfl, a, _, d, .ref (fa mg "BadSize"), .ref (fa mg "BadSize"), _, rfl, T.xc x hx, S _ _ ha, hd.imp id (fun ⟨dd, gs, e, h⟩ => ⟨dd, gs, e, S _ _ h⟩), (fun u hu => hu), T.xk x hx _ (by decide), ?_⟩
    refine ⟨_, rfl, a, _, d, .ref (fa mg "Ring"), .ref (fa mg "Ring"), _, rfl, T.xc x hx, S _ _ ha, hd.imp id (fun ⟨dd, gs, e, h⟩ => ⟨dd, gs, e, S _ _ h⟩), (fun u hu => hu), T.xk x hx _ (by decide), ?_⟩
    refine ⟨_, rfl, a, _, d, .ref (fa mg "NoKey"), .ref (fa mg "NoKey"), _, rfl, T.xc x hx, S _ _ ha, hd.imp id (fun ⟨dd, gs, e, h⟩ => ⟨dd, gs, e, S _ _ h⟩), (fun u hu => hu), T.xk x hx _ (by decide), ?_⟩
    refine ⟨(by show 3 ≤ sizeLine; decide), fun l1 hl => ?_⟩
    have fd := same_new (o := .lst [V.bl (decide (x = "BadSize")), V.bl (decide (x = "Ring")), V.bl (decide (x = "NoKey"))]) hl _ _ fd
    have ld : (upd G0 l1 (.lst [V.bl (decide (x = "BadSize")), V.bl (decide (x = "Ring")), V.bl (decide (x = "NoKey"))])) l1 = some (.lst [V.bl (decide (x = "BadSize")), V.bl (decide (x = "Ring")), V.bl (decide (x = "NoKey"))]) := upd_same
    have S := S.trans (same_new (o := .lst [V.bl (decide (x = "BadSize")), V.bl (decide (x = "Ring")), V.bl (decide (x = "NoKey"))]) hl)
    generalize upd G0 l1 (.lst [V.bl (decide (x = "BadSize")), V.bl (decide (x = "Ring")), V.bl (decide (x = "NoKey"))]) = G1 at fd ld S ⊢
    refine ⟨l0, l1, _, _, rfl, rfl, fd, ld, (by show 6 ≤ sizeLine; decide), fun r1 hr0 => ?_⟩
    clear fd ld
    have fd : (upd G1 r1 (.lst ([V.bl (decide (x = "BadTold")), V.bl (decide (x = "BadValue")), V.bl (decide (x = "NoPlace"))] ++ [V.bl (decide (x = "BadSize")), V.bl (decide (x = "Ring")), V.bl (decide (x = "NoKey"))]))) r1 = some (.lst [V.bl (decide (x = "BadTold")), V.bl (decide (x = "BadValue")), V.bl (decide (x = "NoPlace")), V.bl (decide (x = "BadSize")), V.bl (decide (x = "Ring")), V.bl (decide (x = "NoKey"))]) := upd_same
    have S := S.trans (same_new (o := .lst ([V.bl (decide (x = "BadTold")), V.bl (decide (x = "BadValue")), V.bl (decide (x = "NoPlace"))] ++ [V.bl (decide (x = "BadSize")), V.bl (decide (x = "Ring")), V.bl (decide (x = "NoKey"))])) hr0)
    generalize upd G1 r1 (.lst ([V.bl (decide (x = "BadTold")), V.bl (decide (x = "BadValue")), V.bl (decide (x = "NoPlace"))] ++ [V.bl (decide (x = "BadSize")), V.bl (decide (x = "Ring")), V.bl (decide (x = "NoKey"))])) = R1 at fd S ⊢
    refine ⟨_, rfl, ?_⟩
    refine ⟨_, rfl, a, _, d, .ref (fa mg "Unfit"), .ref (fa mg "Unfit"), _, rfl, T.xc x hx, S _ _ ha, hd.imp id (fun ⟨dd, gs, e, h⟩ => ⟨dd, gs, e, S _ _ h⟩), (fun u hu => hu), T.xk x hx _ (by decide), ?_⟩
    refine ⟨_, rfl, a, _, d, .ref (fa mg "Endless"), .ref (fa mg "Endless"), _, rfl, T.xc x hx, S _ _ ha, hd.imp id (fun ⟨dd, gs, e, h⟩ => ⟨dd, gs, e, S _ _ h⟩), (fun u hu => hu), T.xk x hx _ (by decide), ?_⟩
    refine ⟨_, rfl, a, _, d, .ref (fa mg "TooMany"), .ref (fa mg "TooMany"), _, rfl, T.xc x hx, S _ _ ha, hd.imp id (fun ⟨dd, gs, e, h⟩ => ⟨dd, gs, e, S _ _ h⟩), (fun u hu => hu), T.xk x hx _ (by decide), ?_⟩
    refine ⟨(by show 3 ≤ sizeLine; decide), fun l2 hl => ?_⟩
    have fd := same_new (o := .lst [V.bl (decide (x = "Unfit")), V.bl (decide (x = "Endless")), V.bl (decide (x = "TooMany"))]) hl _ _ fd
    have ld : (upd R1 l2 (.lst [V.bl (decide (x = "Unfit")), V.bl (decide (x = "Endless")), V.bl (decide (x = "TooMany"))])) l2 = some (.lst [V.bl (decide (x = "Unfit")), V.bl (decide (x = "Endless")), V.bl (decide (x = "TooMany"))]) := upd_same
    have S := S.trans (same_new (o := .lst [V.bl (decide (x = "Unfit")), V.bl (decide (x = "Endless")), V.bl (decide (x = "TooMany"))]) hl)
    generalize upd R1 l2 (.lst [V.bl (decide (x = "Unfit")), V.bl (decide (x = "Endless")), V.bl (decide (x = "TooMany"))]) = G2 at fd ld S ⊢
    refine ⟨r1, l2, _, _, rfl, rfl, fd, ld, (by show 9 ≤ sizeLine; decide), fun r2 hr0 => ?_⟩
    clear fd ld
    have fd : (upd G2 r2 (.lst ([V.bl (decide (x = "BadTold")), V.bl (decide (x = "BadValue")), V.bl (decide (x = "NoPlace")), V.bl (decide (x = "BadSize")), V.bl (decide (x = "Ring")), V.bl (decide (x = "NoKey"))] ++ [V.bl (decide (x = "Unfit")), V.bl (decide (x = "Endless")), V.bl (decide (x = "TooMany"))]))) r2 = some (.lst (flL x)) := upd_same
    have S := S.trans (same_new (o := .lst ([V.bl (decide (x = "BadTold")), V.bl (decide (x = "BadValue")), V.bl (decide (x = "NoPlace")), V.bl (decide (x = "BadSize")), V.bl (decide (x = "Ring")), V.bl (decide (x = "NoKey"))] ++ [V.bl (decide (x = "Unfit")), V.bl (decide (x = "Endless")), V.bl (decide (x = "TooMany"))])) hr0)
    generalize upd G2 r2 (.lst ([V.bl (decide (x = "BadTold")), V.bl (decide (x = "BadValue")), V.bl (decide (x = "NoPlace")), V.bl (decide (x = "BadSize")), V.bl (decide (x = "Ring")), V.bl (decide (x = "NoKey"))] ++ [V.bl (decide (x = "Unfit")), V.bl (decide (x = "Endless")), V.bl (decide (x = "TooMany"))])) = R2 at fd S ⊢
    refine ⟨_, rfl, r2, _, rfl, .inl (SqL.of fd), 9, rfl, by decide, by decide, fun D hD => ?_⟩
    refine lc_range (lo := 0) (n := 9) (fun i H3 => H3 = upd R2 D (.lst ((kOf x i).map V.int))) rfl ?_ ?_
    · rintro i H3 hi rfl
      refine ⟨rfl, _, rfl, _, rfl, r2, _, _, _, rfl, rfl, SqL.of (same_new hD _ _ fd), fl_at x i hi, _, rfl, ?_⟩
      rw [kOf_snoc]
      by_cases e : kinL[i]? = some x
      · rw [decide_eq_true e]
        refine iteT ⟨_, rfl, _, upd_same, ?_, ?_⟩
        · rw [List.length_map, sizeLine_eq]
          have := kOf_len x i
          omega
        · rw [upd_upd, if_pos e, List.map_append]
          show upd R2 D (.lst ((kOf x i).map V.int ++ [V.int (0 + (i : Int))])) = _
          rw [Int.zero_add]
          rfl
      · rw [decide_eq_false e]
        refine iteF ?_
        rw [if_neg e, List.append_nil]
    · rintro H3 rfl
      exact k _ D (none_back S hD) (S.trans (same_new hD)) upd_same
end
end My
namespace My
open PySem PySem.Spec PyProof.Rows L2

def rLenA (K : PySem.W.Frag) : List V → Hp → VK → Prop := fun xs H Q => ∃ p ys, xs = [.ref p] ∧ (SqL K H p ys ∨ SqT K H p ys) ∧ Q (.int ys.length) H
theorem ne_nil (n : Int) : (!(PyData.list ([n].map PyData.int)).eqv (.list [])) = true := by
  first
    | rfl
    | simp [PyData.eqv, PyData.eqvAll]
    | simp [PyData.eqv]
theorem iteT' {c : Bool} {A B : Prop} (h : c = true) (k : A) : (if c = true then A else B) := by rw [if_pos h]; exact k
theorem sort_eq {a b : List Int} (h : a.Perm b) (ha : a.Pairwise (· ≤ ·)) (hb : b.Pairwise (· ≤ ·)) : a = b := h.eq_of_pairwise (fun x y _ _ h1 h2 => Int.le_antisymm h1 h2) ha hb
theorem iteF' {c : Bool} {A B : Prop} (h : ¬ c = true) (k : B) : (if c = true then A else B) := by rw [if_neg h]; exact k
def dueD (a b c : PyData) : List PyData := [a, a, a, a, a, a, a, a, a, b, c, a, a, a, a, a, a, a, a, a, a, a, a, a, a, a, a, a, a, a]
theorem due_shw {H : Hp} {p : Addr} {a b c : V} {x y z : PyData} (ha : Any H p a x) (hb : Any H p b y) (hc : Any H p c z) : Paired (Shw H) (dueL a b c) (dueD x y z) ∧ (dueD x y z).all smallD = true := by
  refine ⟨.cons ha.s (.cons ha.s (.cons ha.s (.cons ha.s (.cons ha.s (.cons ha.s (.cons ha.s (.cons ha.s (.cons ha.s (.cons hb.s (.cons hc.s (.cons ha.s (.cons ha.s (.cons ha.s (.cons ha.s (.cons ha.s (.cons ha.s (.cons ha.s (.cons ha.s (.cons ha.s (.cons ha.s (.cons ha.s (.cons ha.s (.cons ha.s (.cons ha.s (.cons ha.s (.cons ha.s (.cons ha.s (.cons ha.s (.cons ha.s (.nil)))))))))))))))))))))))))))))), ?_⟩
  simp [dueD, ha.m, hb.m, hc.m]
/-- the lists of kinds of the first i errors -/
def flatK (i : Nat) : List Int := (errL.take i).flatMap fun x => kOf x 9
theorem flatK_snoc {i : Nat} {x : Str} (h : errL[i]? = some x) : flatK (i + 1) = flatK i ++ kOf x 9 := by
  unfold flatK
  rw [List.take_succ, h, List.flatMap_append]
  simp
theorem k_one : ∀ x ∈ errL, (kOf x 9).length ≤ 1 := by decide +kernel
theorem flat_few : ∀ i, (flatK i).length ≤ 32 := fun i => by
  have key : ∀ l : List Str, (∀ x ∈ l, x ∈ errL) → (l.flatMap fun x => kOf x 9).length ≤ l.length := by
    intro l
    induction l with
    | nil => intro _; exact Nat.le_refl _
    | cons a r ih =>
      intro h
      rw [List.flatMap_cons, List.length_append, List.length_cons]
      have h1 := k_one a (h a List.mem_cons_self)
      have h2 := ih fun x hx => h x (List.mem_cons_of_mem _ hx)
      omega
  have h1 := key (errL.take i) (fun x hx => List.mem_of_mem_take hx)
  rw [List.length_take] at h1
  have : errL.length = 32 := by decide +kernel
  unfold flatK
  omega
theorem flat_perm : (flatK 32).Perm [0, 1, 2, 3, 4, 5, 6, 7, 8] := by decide +kernel
theorem pair_at {α β : Type} {R : α → β → Prop} : ∀ {xs : List α} {ys : List β} {i : Nat} {x : α}, Paired R xs ys → xs[i]? = some x → ∃ y, ys[i]? = some y ∧ R x y
  | _, _, i, x, .nil, h => by simp at h
  | _, _, 0, x, .cons h t, e => by
    cases e
    exact ⟨_, rfl, h⟩
  | _, _, i + 1, x, .cons h t, e => by
    obtain ⟨y, h1, h2⟩ := pair_at t (by simpa using e)
    exact ⟨y, by simpa using h1, h2⟩
theorem pair_snoc {α β : Type} {R : α → β → Prop} {x : α} {y : β} (h : R x y) : ∀ {xs : List α} {ys : List β}, Paired R xs ys → Paired R (xs ++ [x]) (ys ++ [y])
  | _, _, .nil => .cons h .nil
  | _, _, .cons a b => .cons a (pair_snoc h b)
theorem pair_map {α β : Type} {R S : α → β → Prop} (f : ∀ x y, R x y → S x y) : ∀ {xs : List α} {ys : List β}, Paired R xs ys → Paired S xs ys
  | _, _, .nil => .nil
  | _, _, .cons a b => .cons (f _ _ a) (pair_map f b)

def spLaw (K : PySem.W.Frag) : Sp := fun vs H Q _ => ∃ (a : Addr) (ns : List Int), vs = [.ref a] ∧ SqL K H a (ns.map V.int) ∧ ns.length ≤ 63 ∧ ∀ H', Q (.bl true) H'
section
variable {P : Program} {w : World} {K : PySem.W.Frag} {mg : Str → Option Value} {base : Heap}
theorem ok_law (T : Txt P w K mg) {cv : Value} (hc : (fdOf K (fa mg "law")).code = cv) : LamX.FnAt P w K mg base CX0 (fa mg "law") (fdOf K (fa mg "law")) ["_law_script"] (spLaw K) := by
  refine LamX.FnAt.of (k := 4) T.law.F hc sc_law ⟨rfl, by decide, by decide⟩ (fun vs H Q E h => ?_) (fun outer s H vs Q E hr h => ?_)
  · obtain ⟨a, ns, rfl, _⟩ := h
    rfl
  · obtain ⟨a0, ns, rfl, hS, hlen, k⟩ := h
    refine ⟨_, (pss_cons (ps_set (i := 1) sc_law.nd rfl (Or.inl rfl) (pc T.law_pen (ok_law_pen T) (hr.mono (by decide)) (pa_cons (pv 0) pa_nil)))
  (pss_cons (ps_par3 (by rfl) sc_law.nd (i := 2) (j := 3) (l := 4) rfl rfl rfl (by decide) (by decide) (by decide) rfl rfl rfl (pa_cons (pc T.law_any (ok_law_any T) (hr.mono (by decide)) (pa_cons (pv 1) pa_nil)) (pa_cons (pc T.law_any (ok_law_any T) (hr.mono (by decide)) (pa_cons (pv 1) pa_nil)) (pa_cons (pc T.law_any (ok_law_any T) (hr.mono (by decide)) (pa_cons (pv 1) pa_nil)) pa_nil))) (by rfl))
  (pss_cons (ps_set (i := 5) sc_law.nd rfl (Or.inl rfl) (pe_lst (pa_cons (pv 2) (pa_cons (pv 2) (pa_cons (pv 2) (pa_cons (pv 2) (pa_cons (pv 2) (pa_cons (pv 2) (pa_cons (pv 2) (pa_cons (pv 2) (pa_cons (pv 2) (pa_cons (pv 3) (pa_cons (pv 4) (pa_cons (pv 2) (pa_cons (pv 2) (pa_cons (pv 2) (pa_cons (pv 2) (pa_cons (pv 2) pa_nil))))))))))))))))))
  (pss_cons (ps_set (i := 5) sc_law.nd rfl (Or.inl rfl) (pe_op op_cat (pv 5) (pe_lst (pa_cons (pv 2) (pa_cons (pv 2) (pa_cons (pv 2) (pa_cons (pv 2) (pa_cons (pv 2) (pa_cons (pv 2) (pa_cons (pv 2) (pa_cons (pv 2) (pa_cons (pv 2) (pa_cons (pv 2) (pa_cons (pv 2) (pa_cons (pv 2) (pa_cons (pv 2) (pa_cons (pv 2) pa_nil)))))))))))))))))
  (pss_cons (ps_if (PW.pt (pw_or (pt_cmpR op_ne (pe_callB (call_reprL T.sys rfl hr.units) (by rfl) T.n_repr (by decide +kernel) (pa_cons (pc T.law_by_position (ok_law_by_position T) (hr.mono (by decide)) (pa_cons (pv 2) (pa_cons (pv 3) (pa_cons (pv 4) pa_nil)))) pa_nil)) (pe_callB (call_reprL T.sys rfl hr.units) (by rfl) T.n_repr (by decide +kernel) (pa_cons (pv 5) pa_nil)) (nomark _)) (pw_or1 (pt_cmpR op_ne (pe_callB (call_reprL T.sys rfl hr.units) (by rfl) T.n_repr (by decide +kernel) (pa_cons (pc T.law_by_name (ok_law_by_name T) (hr.mono (by decide)) (pa_cons (pv 2) (pa_cons (pv 3) (pa_cons (pv 4) pa_nil)))) pa_nil)) (pe_callB (call_reprL T.sys rfl hr.units) (by rfl) T.n_repr (by decide +kernel) (pa_cons (pv 5) pa_nil)) (nomark _)))))
  (pss_one (ps_ret pe_bl))
  pss_nil)
  (pss_cons (ps_set (i := 6) sc_law.nd rfl (Or.inl rfl) (pc T.law_all_made (ok_law_all_made T) (hr.mono (by decide)) (pa_cons (pv 2) (pa_cons (pv 3) (pa_cons (pv 4) pa_nil)))))
  (pss_cons (ps_if (pt_cmpR (op_neD hr.units) (pe_lc (own := [("_law_error", 7)]) (g := (gName 7)) (by rfl) sc_law.nd (pi_list (pv 6)) (blkOk_by (own := [("_law_error", 7)]) (N := ["_law_script", "_law_pen_here", "_law_a", "_law_b", "_law_c", "_law_due", "_law_made", "_law_error", "_law_sorts", "_law_part"]) (sc := defScope s_law) (by decide +kernel)) (fun _ _ _ _ _ => (pg_name (i := 7) sc_law.nd rfl (Or.inl rfl))) (fun _ _ _ _ _ => (pts_one (PW.pt (pw_or (pt_not (pt_val (pe_callB (show CallR _ (.builtin "isinstance") (rIsV K) from call_isV) (by rfl) T.n_isinstance (by decide +kernel) (pa_cons (pv 7) (pa_cons (pe_glob (v := .ref (fa mg "WalksError")) (by rfl) T.c_WalksError rfl) pa_nil))))) (pw_or1 (pt_not (pt_val (pe_callB (show CallR _ (.builtin "isinstance") (rIsV K) from call_isV) (by rfl) T.n_isinstance (by decide +kernel) (pa_cons (pv 7) (pa_cons (pe_bltn (v := .ty "ValueError") (by rfl) T.n_ValueError PyProof.Rows.Boot.«ValueError» rfl) pa_nil)))))))))) (fun _ _ _ _ _ => (pv 7))) (pe_lst pa_nil) (nomark _))
  (pss_one (ps_ret pe_bl))
  pss_nil)
  (pss_cons (ps_setLc (i := 8) (own := [("_law_error", 7)]) (g := (gName 7)) (tt := tYes) (by rfl) sc_law.nd rfl rfl (sw_true rfl rfl rfl (by decide +kernel)) (pi_list (pv 6)) (blkOk_by (own := [("_law_error", 7)]) (N := ["_law_script", "_law_pen_here", "_law_a", "_law_b", "_law_c", "_law_due", "_law_made", "_law_error", "_law_sorts", "_law_part"]) (sc := defScope s_law) (by decide +kernel)) (fun _ _ _ _ _ => (pg_name (i := 7) sc_law.nd rfl (Or.inl rfl))) (fun _ _ _ _ _ => pts_nil) (fun _ _ _ _ _ => (pc T.law_kinds (ok_law_kinds T) (hr.mono (by decide)) (pa_cons (pv 7) pa_nil))))
  (pss_cons (ps_if (pt_cmpR (op_neD hr.units) (pe_lc (own := [("_law_part", 9)]) (g := (gName 9)) (by rfl) sc_law.nd (pi_list (pv 8)) (blkOk_by (own := [("_law_part", 9)]) (N := ["_law_script", "_law_pen_here", "_law_a", "_law_b", "_law_c", "_law_due", "_law_made", "_law_error", "_law_sorts", "_law_part"]) (sc := defScope s_law) (by decide +kernel)) (fun _ _ _ _ _ => (pg_name (i := 9) sc_law.nd rfl (Or.inl rfl))) (fun _ _ _ _ _ => (pts_one (pt_cmpR op_gt (pe_callB (show CallR _ (.builtin "len") (rLenA K) from call_len_seq) (by rfl) T.n_len (by decide +kernel) (pa_cons (pv 9) pa_nil)) pe_int (nomark _)))) (fun _ _ _ _ _ => (pv 9))) (pe_lst pa_nil) (nomark _))
  (pss_one (ps_ret pe_bl))
  pss_nil)
  (pss_cons (ps_if (pt_cmpR (op_neD hr.units) (pe_callB cr_sorted (by rfl) T.n_sorted (by decide +kernel) (pa_cons (pe_lc (own := [("_law_part", 9)]) (g := (gName 9)) (by rfl) sc_law.nd (pi_list (pv 8)) (blkOk_by (own := [("_law_part", 9)]) (N := ["_law_script", "_law_pen_here", "_law_a", "_law_b", "_law_c", "_law_due", "_law_made", "_law_error", "_law_sorts", "_law_part"]) (sc := defScope s_law) (by decide +kernel)) (fun _ _ _ _ _ => (pg_name (i := 9) sc_law.nd rfl (Or.inl rfl))) (fun _ _ _ _ _ => (pts_one (pt_cmpR (show OpR _ (compareOp .NotEq) (rNeD K) from op_neD hr.units) (pv 9) (pe_lst pa_nil) (nomark _)))) (fun _ _ _ _ _ => (pe_callTy call_int1 (by rfl) T.n_int (by decide +kernel) (pa_cons (pe_ix (show IxR _ (rIxL K) from ix_list) (pv 9) pe_int (fun _ _ => rfl)) pa_nil)))) pa_nil)) (pe_listRg rfl (by rfl) T.n_list (prg_1 (by rfl) T.n_range pe_int)) (nomark _))
  (pss_one (ps_ret pe_bl))
  pss_nil)
  (pss_one (ps_ret (pe_cmpR op_eq (pe_callB call_len_seq (by rfl) T.n_len (by decide +kernel) (pa_cons (pv 6) pa_nil)) pe_int (nomark _)))))))))))))), ?_⟩
    refine ⟨_, rfl, a0, ns, rfl, hS, hlen, fun H1 p s1 hp => ?_⟩
    refine ⟨_, rfl, p, _, rfl, hp, by decide, fun G1 va da q1 hp1 ha => ⟨_, rfl, p, _, rfl, hp1, by decide, fun G2 vb db q2 hp2 hb => ⟨_, rfl, p, _, rfl, hp2, by decide, fun G3 vc dc q3 hp3 hc => ?_⟩⟩⟩
    replace ha := (ha.sb q2).sb q3
    replace hb := hb.sb q3
    clear q1 q2 q3 hp1 hp2 hp3 hp
    refine ⟨_, _, _, rfl, ?_⟩
    refine ⟨_, rfl, _, rfl, _, rfl, _, rfl, _, rfl, _, rfl, _, rfl, _, rfl, _, rfl, _, rfl, _, rfl, _, rfl, _, rfl, _, rfl, _, rfl, _, rfl, (by show 16 ≤ sizeLine; decide), fun l hl => ?_⟩
    refine ⟨_, rfl, _, rfl, _, rfl, _, rfl, _, rfl, _, rfl, _, rfl, _, rfl, _, rfl, _, rfl, _, rfl, _, rfl, _, rfl, _, rfl, _, rfl, (by show 14 ≤ sizeLine; decide), fun l2 hl2 => ?_⟩
    refine ⟨l, l2, _, _, rfl, rfl, same_new hl2 _ _ upd_same, upd_same, (by show 30 ≤ sizeLine; decide), fun r hr0 => ?_⟩
    have S := (same_new (o := .lst [va, va, va, va, va, va, va, va, va, vb, vc, va, va, va, va, va]) hl).trans ((same_new (o := .lst [va, va, va, va, va, va, va, va, va, va, va, va, va, va]) hl2).trans (same_new (o := .lst ([va, va, va, va, va, va, va, va, va, vb, vc, va, va, va, va, va] ++ [va, va, va, va, va, va, va, va, va, va, va, va, va, va])) hr0))
    have fd : (upd (upd (upd G3 l (.lst [va, va, va, va, va, va, va, va, va, vb, vc, va, va, va, va, va])) l2 (.lst [va, va, va, va, va, va, va, va, va, va, va, va, va, va])) r (.lst ([va, va, va, va, va, va, va, va, va, vb, vc, va, va, va, va, va] ++ [va, va, va, va, va, va, va, va, va, va, va, va, va, va]))) r = some (.lst (dueL va vb vc)) := upd_same
    replace ha := ha.same S
    replace hb := hb.same S
    replace hc := hc.same S
    clear S hl hl2 hr0
    generalize upd (upd (upd G3 l (.lst [va, va, va, va, va, va, va, va, va, vb, vc, va, va, va, va, va])) l2 (.lst [va, va, va, va, va, va, va, va, va, va, va, va, va, va])) r (.lst ([va, va, va, va, va, va, va, va, va, vb, vc, va, va, va, va, va] ++ [va, va, va, va, va, va, va, va, va, va, va, va, va, va])) = G4 at *
    have dl : (dueD da db dc).length ≤ 1000 := by show 30 ≤ 1000; decide
    refine ⟨_, rfl, _, rfl, _, rfl, va, vb, vc, rfl, fun G5 l5 s5 h5 => ?_⟩
    replace ha := ha.same s5
    replace hb := hb.same s5
    replace hc := hc.same s5
    replace fd := s5 _ _ fd
    obtain ⟨pw, sm⟩ := due_shw ha hb hc
    refine ⟨l5, _, _, rfl, h5, pw, sm, dl, _, rfl, r, _, _, rfl, fd, pw, sm, dl, rfl, _, rfl, iteF' (by simp) ?_⟩
    refine ⟨_, rfl, _, rfl, _, rfl, va, vb, vc, rfl, fun G6 l6 s6 h6 => ?_⟩
    replace ha := ha.same s6
    replace hb := hb.same s6
    replace hc := hc.same s6
    replace fd := s6 _ _ fd
    obtain ⟨pw, sm⟩ := due_shw ha hb hc
    refine ⟨l6, _, _, rfl, h6, pw, sm, dl, _, rfl, r, _, _, rfl, fd, pw, sm, dl, rfl, _, rfl, iteF' (by simp) ?_⟩
    clear pw sm h5 h6 fd ha hb hc dl
    -- made
    refine ⟨_, rfl, _, rfl, _, rfl, va, vb, vc, rfl, fun G lm as s7 hm pa => ?_⟩
    have len32 : as.length = 32 := by rw [Paired.length pa]; decide +kernel
    clear s7 s5 s6 s1
    refine ⟨_, rfl, lm, rfl, ⟨_, SqL.of hm⟩, fun D hD => ?_⟩
    refine lc_list (K := K) (a := lm) (xs := as.map V.ref) (fun i H3 => H3 = upd G D (.lst [])) rfl (fun i H3 _ e => SqL.of (by rw [e]; exact same_new hD _ _ hm)) ?_ ?_
    · rintro i y H3 hi rfl
      rw [List.getElem?_map] at hi
      obtain ⟨q, hq, rfl⟩ := Option.map_eq_some_iff.mp hi
      obtain ⟨x, hx, he⟩ := pair_at pa hq
      have hxm := List.mem_of_getElem? hx
      obtain ⟨d, e1, e2⟩ := he.same (same_new (o := .lst []) hD)
      refine ⟨rfl, _, rfl, q, _, d, .ref (fa mg "WalksError"), .ref (fa mg "WalksError"), _, rfl, T.xc x hxm, e1, e2, (fun u hu => hu), T.xw x hxm, true, rfl, iteF ?_⟩
      refine ⟨_, rfl, q, _, d, .ty "ValueError", .type "ValueError", _, rfl, T.xc x hxm, e1, e2, (fun u hu => hu), T.xv x hxm, true, rfl, iteF rfl⟩
    rintro H3 rfl
    refine ⟨Nat.zero_le _, fun q hq => ?_⟩
    refine ⟨.list [], .list [], .lst (SqL.of (same_new hq _ _ upd_same)) .nil, .lst (SqL.of upd_same) .nil, by decide +kernel, by decide +kernel, _, rfl, iteF' (by decide +kernel) ?_⟩
    have S := (same_new (o := .lst []) hD).trans (same_new (o := .lst []) hq)
    replace hm := S _ _ hm
    replace pa := pair_map (fun x y h => ErrAt.same h S) pa
    clear S hD hq
    generalize upd (upd G D (.lst [])) q (.lst []) = J at *
    -- sorts
    refine ⟨_, rfl, lm, rfl, ⟨_, SqL.of hm⟩, fun D2 hD2 => ?_⟩
    have lmD : lm ≠ D2 := ne_of_none hm hD2
    refine lc_list (K := K) (a := lm) (xs := as.map V.ref) (fun i H3 => ∃ ls : List Addr, H3 D2 = some (.lst (ls.map V.ref)) ∧ Same J H3 ∧ ls.length ≤ i ∧ Paired (fun l x => H3 l = some (.lst ((kOf x 9).map V.int)) ∧ l ≠ D2) ls (errL.take i)) ⟨[], upd_same, same_new hD2, Nat.le_refl _, .nil⟩ (fun i H3 _ ⟨_, _, sj, _⟩ => SqL.of (sj _ _ hm)) ?_ ?_
    · rintro i y H3 hi ⟨ls, hl, sj, hll, pl⟩
      rw [List.getElem?_map] at hi
      obtain ⟨q, hq, rfl⟩ := Option.map_eq_some_iff.mp hi
      obtain ⟨x, hx, he⟩ := pair_at pa hq
      have hxm := List.mem_of_getElem? hx
      have hi32 : i < 32 := by rw [← len32]; exact (List.getElem?_eq_some_iff.mp hq).1
      refine ⟨rfl, _, rfl, q, x, rfl, hxm, he.same sj, fun H4 l4 hn4 s4 h4 => ?_⟩
      refine ⟨_, s4 _ _ hl, ?_, ls ++ [l4], ?_, ?_, ?_, ?_⟩
      · rw [List.length_map, sizeLine_eq]
        omega
      · rw [upd_same, List.map_append]
        rfl
      · intro b o e
        rw [upd_ne (ne_of_none e hD2)]
        exact s4 _ _ (sj _ _ e)
      · rw [List.length_append]
        show ls.length + 1 ≤ i + 1
        omega
      · rw [List.take_succ, hx]
        have n4 : l4 ≠ D2 := fun z => by
          rw [z, hl] at hn4
          cases hn4
        refine pair_snoc ⟨by rw [upd_ne n4]; exact h4, n4⟩ (pair_map (fun l x h => ⟨?_, h.2⟩) pl)
        rw [upd_ne h.2]
        exact s4 _ _ h.1
    rintro H3 ⟨ls, hls, sj, _, pl⟩
    have e32 : errL.take (as.map V.ref).length = errL := by
      rw [List.length_map, len32]
      decide +kernel
    rw [e32] at pl
    replace hm := sj _ _ hm
    replace pl : Paired (fun l x => H3 l = some (.lst ((kOf x 9).map V.int))) ls errL := pair_map (fun l x h => h.1) pl
    have lslen : ls.length = 32 := by rw [Paired.length pl]; decide +kernel
    clear sj pa hD2 e32 lmD
    -- parts of more than one
    refine ⟨_, rfl, D2, rfl, ⟨_, SqL.of hls⟩, fun D3 hD3 => ?_⟩
    refine lc_list (K := K) (a := D2) (xs := ls.map V.ref) (fun i H4 => H4 = upd H3 D3 (.lst [])) rfl (fun i H4 _ e => SqL.of (by rw [e]; exact same_new hD3 _ _ hls)) ?_ ?_
    · rintro i y H4 hi rfl
      rw [List.getElem?_map] at hi
      obtain ⟨q, hq, rfl⟩ := Option.map_eq_some_iff.mp hi
      obtain ⟨x, hx, he⟩ := pair_at pl hq
      have h1 := k_one x (List.mem_of_getElem? hx)
      refine ⟨rfl, _, rfl, q, _, rfl, .inl (SqL.of (same_new hD3 _ _ he)), _, _, rfl, rfl, _, rfl, iteF' ?_ rfl⟩
      rw [List.length_map]
      simp only [decide_eq_true_eq]
      omega
    rintro H4 rfl
    refine ⟨Nat.zero_le _, fun q hq => ?_⟩
    refine ⟨.list [], .list [], .lst (SqL.of (same_new hq _ _ upd_same)) .nil, .lst (SqL.of upd_same) .nil, by decide +kernel, by decide +kernel, _, rfl, iteF' (by decide +kernel) ?_⟩
    have S := (same_new (o := .lst []) hD3).trans (same_new (o := .lst []) hq)
    replace hm := S _ _ hm
    replace hls := S _ _ hls
    replace pl := pair_map (fun l x (h : H3 l = some (.lst ((kOf x 9).map V.int))) => S _ _ h) pl
    clear S hD3 hq
    generalize upd (upd H3 D3 (.lst [])) q (.lst []) = J2 at *
    -- the kinds in order
    refine ⟨_, rfl, D2, rfl, ⟨_, SqL.of hls⟩, fun D4 hD4 => ?_⟩
    refine lc_list (K := K) (a := D2) (xs := ls.map V.ref) (fun i H4 => H4 D4 = some (.lst ((flatK i).map V.int)) ∧ Same J2 H4) ⟨upd_same, same_new hD4⟩ (fun i H4 _ e => SqL.of (e.2 _ _ hls)) ?_ ?_
    · rintro i y H4 hi ⟨hf, sf⟩
      rw [List.getElem?_map] at hi
      obtain ⟨q, hq, rfl⟩ := Option.map_eq_some_iff.mp hi
      obtain ⟨x, hx, he⟩ := pair_at pl hq
      have h1 := k_one x (List.mem_of_getElem? hx)
      refine ⟨rfl, _, rfl, Nat.zero_le _, fun q2 hq2 => ?_⟩
      have s2 := same_new (o := .lst []) hq2
      refine ⟨.list ((kOf x 9).map PyData.int), .list [], .lst (SqL.of (s2 _ _ (sf _ _ he))) (dp_ints _), .lst (SqL.of upd_same) .nil, shaped_ints _, by decide +kernel, _, rfl, ?_⟩
      rw [flatK_snoc hx]
      match hk : kOf x 9, h1 with
      | [], _ =>
        refine iteF' (by decide +kernel) ⟨?_, sf.trans s2⟩
        rw [List.append_nil]
        exact s2 _ _ hf
      | [n], _ =>
        rw [hk] at he
        refine iteT' (ne_nil n) ?_
        refine ⟨_, rfl, q, [.int n], 0, .int n, rfl, rfl, SqL.of (s2 _ _ (sf _ _ he)), rfl, Or.inl ⟨_, rfl, _, s2 _ _ hf, ?_, ?_, ?_⟩⟩
        · rw [List.length_map, sizeLine_eq]
          have := flat_few i
          omega
        · rw [upd_same, List.map_append]
          rfl
        · intro b o e
          rw [upd_ne (ne_of_none e hD4)]
          exact s2 _ _ (sf _ _ e)
    rintro H4 ⟨hf, sf⟩
    have e32 : (ls.map V.ref).length = 32 := by rw [List.length_map, lslen]
    rw [e32] at hf
    replace hm := sf _ _ hm
    refine ⟨D4, flatK 32, rfl, SqL.of hf, Nat.lt_of_le_of_lt (flat_few 32) (by decide), fun ns' pp hperm hsort hpp => ?_⟩
    have ens : ns' = [0, 1, 2, 3, 4, 5, 6, 7, 8] := sort_eq (hperm.trans flat_perm) hsort (by decide +kernel)
    subst ens
    refine ⟨9, rfl, RgOk.of_le (by decide) (by decide) (by decide) (by decide), fun q hq => ?_⟩
    have erg : rgV 0 9 = ([0, 1, 2, 3, 4, 5, 6, 7, 8] : List Int).map V.int := by decide +kernel
    refine ⟨.list (([0, 1, 2, 3, 4, 5, 6, 7, 8] : List Int).map PyData.int), .list (([0, 1, 2, 3, 4, 5, 6, 7, 8] : List Int).map PyData.int), .lst (SqL.of (same_new hq _ _ upd_same)) (dp_ints _), .lst (SqL.of (by rw [erg]; exact upd_same)) (dp_ints _), shaped_ints _, shaped_ints _, _, rfl, iteF' (by decide +kernel) ?_⟩
    refine ⟨_, rfl, lm, _, rfl, .inl (SqL.of (same_new hq _ _ (same_new hpp _ _ hm))), rfl, ?_⟩
    have e : decide (V.int (((as.map V.ref).length : Nat) : Int) = V.int 32) = true := by
      rw [List.length_map, len32]
      rfl
    show Q (.bl (decide (V.int (((as.map V.ref).length : Nat) : Int) = V.int 32))) _
    rw [e]
    exact k _
end
end My
namespace My
open PySem PySem.Spec PyProof.Rows L2
open He
def dd (x : Str) (st : Stmt) : DefD := ⟨(x, none), x, x, defArgs st, defBody st, defScope st, [], []⟩
def fnL : List DefD := [dd "_law_pen" s_law_pen, dd "_law_draw" s_law_draw, dd "_law_pick" s_law_pick, dd "_law_any" s_law_any, dd "_law_by_position" s_law_by_position, dd "_law_by_name" s_law_by_name, dd "_law_all_made" s_law_all_made, dd "_law_kinds" s_law_kinds, dd "law" s_law]
def faL : List Fa := ([.glo "_law_pen", .glo "_law_draw", .glo "_law_pick", .glo "_law_any", .glo "_law_by_position", .glo "_law_by_name", .glo "_law_all_made", .glo "_law_kinds", .glo "law", .glo "BadTold", .glo "BadValue", .glo "NoPlace", .glo "BadSide", .glo "Taken", .glo "BadSize", .glo "BadOrder", .glo "OtherKeys", .glo "BadKey", .glo "TooMany", .glo "BadItem", .glo "BadStart", .glo "BadGives", .glo "BadEnd", .glo "BadCase", .glo "BadWish", .glo "BadStatement", .glo "BadText", .glo "NoKey", .glo "NoStart", .glo "BadPlan"] : List Fa) ++ ([.glo "NoKind", .glo "Unfit", .glo "Recalls", .glo "Endless", .glo "NoControl", .glo "BadHeight", .glo "BadRule", .glo "Ring", .glo "NoRule", .glo "BadPace", .glo "BadRank", .glo "WalksError", .free "int", .free "len", .free "abs", .free "list", .free "range", .free "repr", .free "isinstance", .free "ValueError", .free "sorted", .free "super"] : List Fa)
def iniL : List IniD := ([⟨"BadTold", s_BadTold_init, ["place"]⟩, ⟨"BadValue", s_BadValue_init, ["place"]⟩, ⟨"NoPlace", s_NoPlace_init, ["place"]⟩, ⟨"BadSide", s_BadSide_init, ["side"]⟩, ⟨"Taken", s_Taken_init, ["place"]⟩, ⟨"BadSize", s_BadSize_init, ["size"]⟩, ⟨"BadOrder", s_BadOrder_init, ["order"]⟩, ⟨"OtherKeys", s_OtherKeys_init, []⟩, ⟨"BadKey", s_BadKey_init, ["key"]⟩, ⟨"TooMany", s_TooMany_init, ["what", "many", "most"]⟩, ⟨"BadItem", s_BadItem_init, ["index"]⟩, ⟨"BadStart", s_BadStart_init, ["start"]⟩, ⟨"BadGives", s_BadGives_init, ["index"]⟩, ⟨"BadEnd", s_BadEnd_init, ["index"]⟩, ⟨"BadCase", s_BadCase_init, ["index"]⟩, ⟨"BadWish", s_BadWish_init, ["name"]⟩, ⟨"BadStatement", s_BadStatement_init, ["number"]⟩, ⟨"BadText", s_BadText_init, ["line"]⟩, ⟨"NoKey", s_NoKey_init, ["key"]⟩, ⟨"NoStart", s_NoStart_init, ["start"]⟩, ⟨"BadPlan", s_BadPlan_init, []⟩, ⟨"NoKind", s_NoKind_init, ["kind"]⟩, ⟨"Unfit", s_Unfit_init, []⟩, ⟨"Recalls", s_Recalls_init, ["control"]⟩, ⟨"Endless", s_Endless_init, []⟩, ⟨"NoControl", s_NoControl_init, ["control"]⟩, ⟨"BadHeight", s_BadHeight_init, ["height"]⟩, ⟨"BadRule", s_BadRule_init, ["name"]⟩, ⟨"Ring", s_Ring_init, ["name"]⟩, ⟨"NoRule", s_NoRule_init, ["root"]⟩] : List IniD) ++ ([⟨"BadPace", s_BadPace_init, ["pace"]⟩, ⟨"BadRank", s_BadRank_init, ["number"]⟩] : List IniD)
abbrev RR : PySem.W.OpenRow := PySem.W.OpenLaw.row PySem.Challenge.rw_searchwalks_k00_errors
def sysB (K : PySem.W.Frag) : Bool := match K.lookup sysModules with
  | some o => decide (o.cls = .type "dict")
  | none => false
theorem sysB_ok {K : PySem.W.Frag} (h : sysB K = true) : SysK K := by
  unfold sysB at h
  split at h
  · rename_i o e
    exact ⟨o, e, of_decide_eq_true h⟩
  · cases h
def exL (K : PySem.W.Frag) : Bool := sysB K && ((iniL.all fun d => errB RR.prog.main.file K (ga K d.cls) d.fs) && ((errL.all fun x => excB K (ga K x) && (decide (PySem.W.kitOne K (.ref (ga K x)) (.ref (ga K "WalksError")) = some true) && (decide (PySem.W.kitOne K (.ref (ga K x)) (.type "ValueError") = some true) &&
  (kinL.all fun y => decide (PySem.W.kitOne K (.ref (ga K x)) (.ref (ga K y)) = some (decide (x = y)))))))))
abbrev hkL (n : Nat) : PySem.W.Hook := hookM n faL fnL [] [] exL iniL
def obL (n : Nat) (s : PySem.W.SharedT) : AlM := obsM n faL fnL [] [] exL iniL (HandSHeadRun.getT s)
theorem obL_eq (n : Nat) (s : PySem.W.SharedT) : obL n s = (hkL n).obs s.abs := obsM_eq (HandSHeadRun.getT_eq s)
def loL : List Str := (["WalksError", "BadTold", "BadValue", "NoPlace", "BadSide", "Taken", "BadSize", "BadOrder", "OtherKeys", "BadKey", "TooMany", "BadItem", "BadStart", "BadGives", "BadEnd", "BadCase", "BadWish", "BadStatement", "BadText", "NoKey", "NoStart", "BadPlan", "NoKind", "Unfit", "Recalls", "Endless", "NoControl", "BadHeight", "BadRule", "Ring"] : List Str) ++ (["NoRule", "BadPace", "BadRank", "_law_pen", "_law_draw", "_law_pick", "_law_any", "_law_by_position", "_law_by_name", "_law_all_made", "_law_kinds"] : List Str)
abbrev RunL (w : World) : Prop := HandSHeadRun.RunEq RR (PySem.W.view RR.prog [43]) (hkL 4) (obL 4) 12000 loL w
theorem runF (w : World) : RunL (w.withFollow "special-get-raises" false) := by
  intro os
  kernel_rfl
theorem runT (w : World) : RunL (w.withFollow "special-get-raises" true) := by
  intro os
  kernel_rfl
theorem runL (w : World) : HandSHeadRun.RunEq RR (PySem.W.view RR.prog [43]) (hkL 4) (obL 4) 12000 loL w := PySem.W.byRow2 "special-get-raises" (P := RunL) runF runT w
end My
namespace My
open PySem PySem.Spec PyProof.Rows L2
open He
theorem at_mem {α : Type} {l : List α} {i : Nat} {x : α} (h : l[i]? = some x) : x ∈ l := List.mem_of_getElem? h
theorem es_BadTold : ErrS s_BadTold_init ["place"] := ⟨.mk (.cons .nil) rfl, ⟨_, rfl, rfl⟩, rfl, rfl, rfl, by decide +kernel, by decide +kernel, by decide +kernel, by decide +kernel, by decide +kernel, by decide⟩
theorem es_BadValue : ErrS s_BadValue_init ["place"] := ⟨.mk (.cons .nil) rfl, ⟨_, rfl, rfl⟩, rfl, rfl, rfl, by decide +kernel, by decide +kernel, by decide +kernel, by decide +kernel, by decide +kernel, by decide⟩
theorem es_NoPlace : ErrS s_NoPlace_init ["place"] := ⟨.mk (.cons .nil) rfl, ⟨_, rfl, rfl⟩, rfl, rfl, rfl, by decide +kernel, by decide +kernel, by decide +kernel, by decide +kernel, by decide +kernel, by decide⟩
theorem es_BadSide : ErrS s_BadSide_init ["side"] := ⟨.mk (.cons .nil) rfl, ⟨_, rfl, rfl⟩, rfl, rfl, rfl, by decide +kernel, by decide +kernel, by decide +kernel, by decide +kernel, by decide +kernel, by decide⟩
theorem es_Taken : ErrS s_Taken_init ["place"] := ⟨.mk (.cons .nil) rfl, ⟨_, rfl, rfl⟩, rfl, rfl, rfl, by decide +kernel, by decide +kernel, by decide +kernel, by decide +kernel, by decide +kernel, by decide⟩
theorem es_BadSize : ErrS s_BadSize_init ["size"] := ⟨.mk (.cons .nil) rfl, ⟨_, rfl, rfl⟩, rfl, rfl, rfl, by decide +kernel, by decide +kernel, by decide +kernel, by decide +kernel, by decide +kernel, by decide⟩
theorem es_BadOrder : ErrS s_BadOrder_init ["order"] := ⟨.mk (.cons .nil) rfl, ⟨_, rfl, rfl⟩, rfl, rfl, rfl, by decide +kernel, by decide +kernel, by decide +kernel, by decide +kernel, by decide +kernel, by decide⟩
theorem es_OtherKeys : ErrS s_OtherKeys_init [] := ⟨.mk .nil rfl, ⟨_, rfl, rfl⟩, rfl, rfl, rfl, by decide +kernel, by decide +kernel, by decide +kernel, by decide +kernel, by decide +kernel, by decide⟩
theorem es_BadKey : ErrS s_BadKey_init ["key"] := ⟨.mk (.cons .nil) rfl, ⟨_, rfl, rfl⟩, rfl, rfl, rfl, by decide +kernel, by decide +kernel, by decide +kernel, by decide +kernel, by decide +kernel, by decide⟩
theorem es_TooMany : ErrS s_TooMany_init ["what", "many", "most"] := ⟨.mk (.cons (.cons (.cons .nil))) rfl, ⟨_, rfl, rfl⟩, rfl, rfl, rfl, by decide +kernel, by decide +kernel, by decide +kernel, by decide +kernel, by decide +kernel, by decide⟩
theorem es_BadItem : ErrS s_BadItem_init ["index"] := ⟨.mk (.cons .nil) rfl, ⟨_, rfl, rfl⟩, rfl, rfl, rfl, by decide +kernel, by decide +kernel, by decide +kernel, by decide +kernel, by decide +kernel, by decide⟩
theorem es_BadStart : ErrS s_BadStart_init ["start"] := ⟨.mk (.cons .nil) rfl, ⟨_, rfl, rfl⟩, rfl, rfl, rfl, by decide +kernel, by decide +kernel, by decide +kernel, by decide +kernel, by decide +kernel, by decide⟩
theorem es_BadGives : ErrS s_BadGives_init ["index"] := ⟨.mk (.cons .nil) rfl, ⟨_, rfl, rfl⟩, rfl, rfl, rfl, by decide +kernel, by decide +kernel, by decide +kernel, by decide +kernel, by decide +kernel, by decide⟩
theorem es_BadEnd : ErrS s_BadEnd_init ["index"] := ⟨.mk (.cons .nil) rfl, ⟨_, rfl, rfl⟩, rfl, rfl, rfl, by decide +kernel, by decide +kernel, by decide +kernel, by decide +kernel, by decide +kernel, by decide⟩
theorem es_BadCase : ErrS s_BadCase_init ["index"] := ⟨.mk (.cons .nil) rfl, ⟨_, rfl, rfl⟩, rfl, rfl, rfl, by decide +kernel, by decide +kernel, by decide +kernel, by decide +kernel, by decide +kernel, by decide⟩
theorem es_BadWish : ErrS s_BadWish_init ["name"] := ⟨.mk (.cons .nil) rfl, ⟨_, rfl, rfl⟩, rfl, rfl, rfl, by decide +kernel, by decide +kernel, by decide +kernel, by decide +kernel, by decide +kernel, by decide⟩
theorem es_BadStatement : ErrS s_BadStatement_init ["number"] := ⟨.mk (.cons .nil) rfl, ⟨_, rfl, rfl⟩, rfl, rfl, rfl, by decide +kernel, by decide +kernel, by decide +kernel, by decide +kernel, by decide +kernel, by decide⟩
theorem es_BadText : ErrS s_BadText_init ["line"] := ⟨.mk (.cons .nil) rfl, ⟨_, rfl, rfl⟩, rfl, rfl, rfl, by decide +kernel, by decide +kernel, by decide +kernel, by decide +kernel, by decide +kernel, by decide⟩
theorem es_NoKey : ErrS s_NoKey_init ["key"] := ⟨.mk (.cons .nil) rfl, ⟨_, rfl, rfl⟩, rfl, rfl, rfl, by decide +kernel, by decide +kernel, by decide +kernel, by decide +kernel, by decide +kernel, by decide⟩
theorem es_NoStart : ErrS s_NoStart_init ["start"] := ⟨.mk (.cons .nil) rfl, ⟨_, rfl, rfl⟩, rfl, rfl, rfl, by decide +kernel, by decide +kernel, by decide +kernel, by decide +kernel, by decide +kernel, by decide⟩
theorem es_BadPlan : ErrS s_BadPlan_init [] := ⟨.mk .nil rfl, ⟨_, rfl, rfl⟩, rfl, rfl, rfl, by decide +kernel, by decide +kernel, by decide +kernel, by decide +kernel, by decide +kernel, by decide⟩
theorem es_NoKind : ErrS s_NoKind_init ["kind"] := ⟨.mk (.cons .nil) rfl, ⟨_, rfl, rfl⟩, rfl, rfl, rfl, by decide +kernel, by decide +kernel, by decide +kernel, by decide +kernel, by decide +kernel, by decide⟩
theorem es_Unfit : ErrS s_Unfit_init [] := ⟨.mk .nil rfl, ⟨_, rfl, rfl⟩, rfl, rfl, rfl, by decide +kernel, by decide +kernel, by decide +kernel, by decide +kernel, by decide +kernel, by decide⟩
theorem es_Recalls : ErrS s_Recalls_init ["control"] := ⟨.mk (.cons .nil) rfl, ⟨_, rfl, rfl⟩, rfl, rfl, rfl, by decide +kernel, by decide +kernel, by decide +kernel, by decide +kernel, by decide +kernel, by decide⟩
theorem es_Endless : ErrS s_Endless_init [] := ⟨.mk .nil rfl, ⟨_, rfl, rfl⟩, rfl, rfl, rfl, by decide +kernel, by decide +kernel, by decide +kernel, by decide +kernel, by decide +kernel, by decide⟩
theorem es_NoControl : ErrS s_NoControl_init ["control"] := ⟨.mk (.cons .nil) rfl, ⟨_, rfl, rfl⟩, rfl, rfl, rfl, by decide +kernel, by decide +kernel, by decide +kernel, by decide +kernel, by decide +kernel, by decide⟩
theorem es_BadHeight : ErrS s_BadHeight_init ["height"] := ⟨.mk (.cons .nil) rfl, ⟨_, rfl, rfl⟩, rfl, rfl, rfl, by decide +kernel, by decide +kernel, by decide +kernel, by decide +kernel, by decide +kernel, by decide⟩
theorem es_BadRule : ErrS s_BadRule_init ["name"] := ⟨.mk (.cons .nil) rfl, ⟨_, rfl, rfl⟩, rfl, rfl, rfl, by decide +kernel, by decide +kernel, by decide +kernel, by decide +kernel, by decide +kernel, by decide⟩
theorem es_Ring : ErrS s_Ring_init ["name"] := ⟨.mk (.cons .nil) rfl, ⟨_, rfl, rfl⟩, rfl, rfl, rfl, by decide +kernel, by decide +kernel, by decide +kernel, by decide +kernel, by decide +kernel, by decide⟩
theorem es_NoRule : ErrS s_NoRule_init ["root"] := ⟨.mk (.cons .nil) rfl, ⟨_, rfl, rfl⟩, rfl, rfl, rfl, by decide +kernel, by decide +kernel, by decide +kernel, by decide +kernel, by decide +kernel, by decide⟩
theorem es_BadPace : ErrS s_BadPace_init ["pace"] := ⟨.mk (.cons .nil) rfl, ⟨_, rfl, rfl⟩, rfl, rfl, rfl, by decide +kernel, by decide +kernel, by decide +kernel, by decide +kernel, by decide +kernel, by decide⟩
theorem es_BadRank : ErrS s_BadRank_init ["number"] := ⟨.mk (.cons .nil) rfl, ⟨_, rfl, rfl⟩, rfl, rfl, rfl, by decide +kernel, by decide +kernel, by decide +kernel, by decide +kernel, by decide +kernel, by decide⟩
theorem ex_BadTold {w : World} {K : PySem.W.Frag} {h : Heap} {mg : Str → Option Value} (X : K.In h) (G : h.Ns mainGlobals mg) (c : SaysM faL fnL [] [] exL iniL w h K) (hx : (iniL.all fun d => errB RR.prog.main.file K (ga K d.cls) d.fs) = true) (sup : mg "super" = none) : Ex RR.prog K mg "BadTold" s_BadTold_init ["place"] := by
  obtain ⟨g, e⟩ := fa_ga X G c.t.d (x := "BadTold") (at_mem (i := 9) rfl)
  have m : (⟨"BadTold", s_BadTold_init, ["place"]⟩ : IniD) ∈ iniL := at_mem (i := 0) rfl
  have x1 := List.all_eq_true.mp hx _ m
  have x2 := c.ini m
  rw [← e] at x1 x2
  exact err_ok (d := ⟨"BadTold", s_BadTold_init, ["place"]⟩) g x1 x2 es_BadTold sup (by decide +kernel) (fun _ _ _ _ _ _ _ _ us hl => match us, hl with | [_, _], _ => rfl)
theorem ex_BadValue {w : World} {K : PySem.W.Frag} {h : Heap} {mg : Str → Option Value} (X : K.In h) (G : h.Ns mainGlobals mg) (c : SaysM faL fnL [] [] exL iniL w h K) (hx : (iniL.all fun d => errB RR.prog.main.file K (ga K d.cls) d.fs) = true) (sup : mg "super" = none) : Ex RR.prog K mg "BadValue" s_BadValue_init ["place"] := by
  obtain ⟨g, e⟩ := fa_ga X G c.t.d (x := "BadValue") (at_mem (i := 10) rfl)
  have m : (⟨"BadValue", s_BadValue_init, ["place"]⟩ : IniD) ∈ iniL := at_mem (i := 1) rfl
  have x1 := List.all_eq_true.mp hx _ m
  have x2 := c.ini m
  rw [← e] at x1 x2
  exact err_ok (d := ⟨"BadValue", s_BadValue_init, ["place"]⟩) g x1 x2 es_BadValue sup (by decide +kernel) (fun _ _ _ _ _ _ _ _ us hl => match us, hl with | [_, _], _ => rfl)
theorem ex_NoPlace {w : World} {K : PySem.W.Frag} {h : Heap} {mg : Str → Option Value} (X : K.In h) (G : h.Ns mainGlobals mg) (c : SaysM faL fnL [] [] exL iniL w h K) (hx : (iniL.all fun d => errB RR.prog.main.file K (ga K d.cls) d.fs) = true) (sup : mg "super" = none) : Ex RR.prog K mg "NoPlace" s_NoPlace_init ["place"] := by
  obtain ⟨g, e⟩ := fa_ga X G c.t.d (x := "NoPlace") (at_mem (i := 11) rfl)
  have m : (⟨"NoPlace", s_NoPlace_init, ["place"]⟩ : IniD) ∈ iniL := at_mem (i := 2) rfl
  have x1 := List.all_eq_true.mp hx _ m
  have x2 := c.ini m
  rw [← e] at x1 x2
  exact err_ok (d := ⟨"NoPlace", s_NoPlace_init, ["place"]⟩) g x1 x2 es_NoPlace sup (by decide +kernel) (fun _ _ _ _ _ _ _ _ us hl => match us, hl with | [_, _], _ => rfl)
theorem ex_BadSide {w : World} {K : PySem.W.Frag} {h : Heap} {mg : Str → Option Value} (X : K.In h) (G : h.Ns mainGlobals mg) (c : SaysM faL fnL [] [] exL iniL w h K) (hx : (iniL.all fun d => errB RR.prog.main.file K (ga K d.cls) d.fs) = true) (sup : mg "super" = none) : Ex RR.prog K mg "BadSide" s_BadSide_init ["side"] := by
  obtain ⟨g, e⟩ := fa_ga X G c.t.d (x := "BadSide") (at_mem (i := 12) rfl)
  have m : (⟨"BadSide", s_BadSide_init, ["side"]⟩ : IniD) ∈ iniL := at_mem (i := 3) rfl
  have x1 := List.all_eq_true.mp hx _ m
  have x2 := c.ini m
  rw [← e] at x1 x2
  exact err_ok (d := ⟨"BadSide", s_BadSide_init, ["side"]⟩) g x1 x2 es_BadSide sup (by decide +kernel) (fun _ _ _ _ _ _ _ _ us hl => match us, hl with | [_, _], _ => rfl)
theorem ex_Taken {w : World} {K : PySem.W.Frag} {h : Heap} {mg : Str → Option Value} (X : K.In h) (G : h.Ns mainGlobals mg) (c : SaysM faL fnL [] [] exL iniL w h K) (hx : (iniL.all fun d => errB RR.prog.main.file K (ga K d.cls) d.fs) = true) (sup : mg "super" = none) : Ex RR.prog K mg "Taken" s_Taken_init ["place"] := by
  obtain ⟨g, e⟩ := fa_ga X G c.t.d (x := "Taken") (at_mem (i := 13) rfl)
  have m : (⟨"Taken", s_Taken_init, ["place"]⟩ : IniD) ∈ iniL := at_mem (i := 4) rfl
  have x1 := List.all_eq_true.mp hx _ m
  have x2 := c.ini m
  rw [← e] at x1 x2
  exact err_ok (d := ⟨"Taken", s_Taken_init, ["place"]⟩) g x1 x2 es_Taken sup (by decide +kernel) (fun _ _ _ _ _ _ _ _ us hl => match us, hl with | [_, _], _ => rfl)
theorem ex_BadSize {w : World} {K : PySem.W.Frag} {h : Heap} {mg : Str → Option Value} (X : K.In h) (G : h.Ns mainGlobals mg) (c : SaysM faL fnL [] [] exL iniL w h K) (hx : (iniL.all fun d => errB RR.prog.main.file K (ga K d.cls) d.fs) = true) (sup : mg "super" = none) : Ex RR.prog K mg "BadSize" s_BadSize_init ["size"] := by
  obtain ⟨g, e⟩ := fa_ga X G c.t.d (x := "BadSize") (at_mem (i := 14) rfl)
  have m : (⟨"BadSize", s_BadSize_init, ["size"]⟩ : IniD) ∈ iniL := at_mem (i := 5) rfl
  have x1 := List.all_eq_true.mp hx _ m
  have x2 := c.ini m
  rw [← e] at x1 x2
  exact err_ok (d := ⟨"BadSize", s_BadSize_init, ["size"]⟩) g x1 x2 es_BadSize sup (by decide +kernel) (fun _ _ _ _ _ _ _ _ us hl => match us, hl with | [_, _], _ => rfl)
theorem ex_BadOrder {w : World} {K : PySem.W.Frag} {h : Heap} {mg : Str → Option Value} (X : K.In h) (G : h.Ns mainGlobals mg) (c : SaysM faL fnL [] [] exL iniL w h K) (hx : (iniL.all fun d => errB RR.prog.main.file K (ga K d.cls) d.fs) = true) (sup : mg "super" = none) : Ex RR.prog K mg "BadOrder" s_BadOrder_init ["order"] := by
  obtain ⟨g, e⟩ := fa_ga X G c.t.d (x := "BadOrder") (at_mem (i := 15) rfl)
  have m : (⟨"BadOrder", s_BadOrder_init, ["order"]⟩ : IniD) ∈ iniL := at_mem (i := 6) rfl
  have x1 := List.all_eq_true.mp hx _ m
  have x2 := c.ini m
  rw [← e] at x1 x2
  exact err_ok (d := ⟨"BadOrder", s_BadOrder_init, ["order"]⟩) g x1 x2 es_BadOrder sup (by decide +kernel) (fun _ _ _ _ _ _ _ _ us hl => match us, hl with | [_, _], _ => rfl)
theorem ex_OtherKeys {w : World} {K : PySem.W.Frag} {h : Heap} {mg : Str → Option Value} (X : K.In h) (G : h.Ns mainGlobals mg) (c : SaysM faL fnL [] [] exL iniL w h K) (hx : (iniL.all fun d => errB RR.prog.main.file K (ga K d.cls) d.fs) = true) (sup : mg "super" = none) : Ex RR.prog K mg "OtherKeys" s_OtherKeys_init [] := by
  obtain ⟨g, e⟩ := fa_ga X G c.t.d (x := "OtherKeys") (at_mem (i := 16) rfl)
  have m : (⟨"OtherKeys", s_OtherKeys_init, []⟩ : IniD) ∈ iniL := at_mem (i := 7) rfl
  have x1 := List.all_eq_true.mp hx _ m
  have x2 := c.ini m
  rw [← e] at x1 x2
  exact err_ok (d := ⟨"OtherKeys", s_OtherKeys_init, []⟩) g x1 x2 es_OtherKeys sup (by decide +kernel) (fun _ _ _ _ _ _ _ _ us hl => match us, hl with | [_], _ => rfl)
theorem ex_BadKey {w : World} {K : PySem.W.Frag} {h : Heap} {mg : Str → Option Value} (X : K.In h) (G : h.Ns mainGlobals mg) (c : SaysM faL fnL [] [] exL iniL w h K) (hx : (iniL.all fun d => errB RR.prog.main.file K (ga K d.cls) d.fs) = true) (sup : mg "super" = none) : Ex RR.prog K mg "BadKey" s_BadKey_init ["key"] := by
  obtain ⟨g, e⟩ := fa_ga X G c.t.d (x := "BadKey") (at_mem (i := 17) rfl)
  have m : (⟨"BadKey", s_BadKey_init, ["key"]⟩ : IniD) ∈ iniL := at_mem (i := 8) rfl
  have x1 := List.all_eq_true.mp hx _ m
  have x2 := c.ini m
  rw [← e] at x1 x2
  exact err_ok (d := ⟨"BadKey", s_BadKey_init, ["key"]⟩) g x1 x2 es_BadKey sup (by decide +kernel) (fun _ _ _ _ _ _ _ _ us hl => match us, hl with | [_, _], _ => rfl)
theorem ex_TooMany {w : World} {K : PySem.W.Frag} {h : Heap} {mg : Str → Option Value} (X : K.In h) (G : h.Ns mainGlobals mg) (c : SaysM faL fnL [] [] exL iniL w h K) (hx : (iniL.all fun d => errB RR.prog.main.file K (ga K d.cls) d.fs) = true) (sup : mg "super" = none) : Ex RR.prog K mg "TooMany" s_TooMany_init ["what", "many", "most"] := by
  obtain ⟨g, e⟩ := fa_ga X G c.t.d (x := "TooMany") (at_mem (i := 18) rfl)
  have m : (⟨"TooMany", s_TooMany_init, ["what", "many", "most"]⟩ : IniD) ∈ iniL := at_mem (i := 9) rfl
  have x1 := List.all_eq_true.mp hx _ m
  have x2 := c.ini m
  rw [← e] at x1 x2
  exact err_ok (d := ⟨"TooMany", s_TooMany_init, ["what", "many", "most"]⟩) g x1 x2 es_TooMany sup (by decide +kernel) (fun _ _ _ _ _ _ _ _ us hl => match us, hl with | [_, _, _, _], _ => rfl)
theorem ex_BadItem {w : World} {K : PySem.W.Frag} {h : Heap} {mg : Str → Option Value} (X : K.In h) (G : h.Ns mainGlobals mg) (c : SaysM faL fnL [] [] exL iniL w h K) (hx : (iniL.all fun d => errB RR.prog.main.file K (ga K d.cls) d.fs) = true) (sup : mg "super" = none) : Ex RR.prog K mg "BadItem" s_BadItem_init ["index"] := by
  obtain ⟨g, e⟩ := fa_ga X G c.t.d (x := "BadItem") (at_mem (i := 19) rfl)
  have m : (⟨"BadItem", s_BadItem_init, ["index"]⟩ : IniD) ∈ iniL := at_mem (i := 10) rfl
  have x1 := List.all_eq_true.mp hx _ m
  have x2 := c.ini m
  rw [← e] at x1 x2
  exact err_ok (d := ⟨"BadItem", s_BadItem_init, ["index"]⟩) g x1 x2 es_BadItem sup (by decide +kernel) (fun _ _ _ _ _ _ _ _ us hl => match us, hl with | [_, _], _ => rfl)
theorem ex_BadStart {w : World} {K : PySem.W.Frag} {h : Heap} {mg : Str → Option Value} (X : K.In h) (G : h.Ns mainGlobals mg) (c : SaysM faL fnL [] [] exL iniL w h K) (hx : (iniL.all fun d => errB RR.prog.main.file K (ga K d.cls) d.fs) = true) (sup : mg "super" = none) : Ex RR.prog K mg "BadStart" s_BadStart_init ["start"] := by
  obtain ⟨g, e⟩ := fa_ga X G c.t.d (x := "BadStart") (at_mem (i := 20) rfl)
  have m : (⟨"BadStart", s_BadStart_init, ["start"]⟩ : IniD) ∈ iniL := at_mem (i := 11) rfl
  have x1 := List.all_eq_true.mp hx _ m
  have x2 := c.ini m
  rw [← e] at x1 x2
  exact err_ok (d := ⟨"BadStart", s_BadStart_init, ["start"]⟩) g x1 x2 es_BadStart sup (by decide +kernel) (fun _ _ _ _ _ _ _ _ us hl => match us, hl with | [_, _], _ => rfl)
theorem ex_BadGives {w : World} {K : PySem.W.Frag} {h : Heap} {mg : Str → Option Value} (X : K.In h) (G : h.Ns mainGlobals mg) (c : SaysM faL fnL [] [] exL iniL w h K) (hx : (iniL.all fun d => errB RR.prog.main.file K (ga K d.cls) d.fs) = true) (sup : mg "super" = none) : Ex RR.prog K mg "BadGives" s_BadGives_init ["index"] := by
  obtain ⟨g, e⟩ := fa_ga X G c.t.d (x := "BadGives") (at_mem (i := 21) rfl)
  have m : (⟨"BadGives", s_BadGives_init, ["index"]⟩ : IniD) ∈ iniL := at_mem (i := 12) rfl
  have x1 := List.all_eq_true.mp hx _ m
  have x2 := c.ini m
  rw [← e] at x1 x2
  exact err_ok (d := ⟨"BadGives", s_BadGives_init, ["index"]⟩) g x1 x2 es_BadGives sup (by decide +kernel) (fun _ _ _ _ _ _ _ _ us hl => match us, hl with | [_, _], _ => rfl)
theorem ex_BadEnd {w : World} {K : PySem.W.Frag} {h : Heap} {mg : Str → Option Value} (X : K.In h) (G : h.Ns mainGlobals mg) (c : SaysM faL fnL [] [] exL iniL w h K) (hx : (iniL.all fun d => errB RR.prog.main.file K (ga K d.cls) d.fs) = true) (sup : mg "super" = none) : Ex RR.prog K mg "BadEnd" s_BadEnd_init ["index"] := by
  obtain ⟨g, e⟩ := fa_ga X G c.t.d (x := "BadEnd") (at_mem (i := 22) rfl)
  have m : (⟨"BadEnd", s_BadEnd_init, ["index"]⟩ : IniD) ∈ iniL := at_mem (i := 13) rfl
  have x1 := List.all_eq_true.mp hx _ m
  have x2 := c.ini m
  rw [← e] at x1 x2
  exact err_ok (d := ⟨"BadEnd", s_BadEnd_init, ["index"]⟩) g x1 x2 es_BadEnd sup (by decide +kernel) (fun _ _ _ _ _ _ _ _ us hl => match us, hl with | [_, _], _ => rfl)
theorem ex_BadCase {w : World} {K : PySem.W.Frag} {h : Heap} {mg : Str → Option Value} (X : K.In h) (G : h.Ns mainGlobals mg) (c : SaysM faL fnL [] [] exL iniL w h K) (hx : (iniL.all fun d => errB RR.prog.main.file K (ga K d.cls) d.fs) = true) (sup : mg "super" = none) : Ex RR.prog K mg "BadCase" s_BadCase_init ["index"] := by
  obtain ⟨g, e⟩ := fa_ga X G c.t.d (x := "BadCase") (at_mem (i := 23) rfl)
  have m : (⟨"BadCase", s_BadCase_init, ["index"]⟩ : IniD) ∈ iniL := at_mem (i := 14) rfl
  have x1 := List.all_eq_true.mp hx _ m
  have x2 := c.ini m
  rw [← e] at x1 x2
  exact err_ok (d := ⟨"BadCase", s_BadCase_init, ["index"]⟩) g x1 x2 es_BadCase sup (by decide +kernel) (fun _ _ _ _ _ _ _ _ us hl => match us, hl with | [_, _], _ => rfl)
theorem ex_BadWish {w : World} {K : PySem.W.Frag} {h : Heap} {mg : Str → Option Value} (X : K.In h) (G : h.Ns mainGlobals mg) (c : SaysM faL fnL [] [] exL iniL w h K) (hx : (iniL.all fun d => errB RR.prog.main.file K (ga K d.cls) d.fs) = true) (sup : mg "super" = none) : Ex RR.prog K mg "BadWish" s_BadWish_init ["name"] := by
  obtain ⟨g, e⟩ := fa_ga X G c.t.d (x := "BadWish") (at_mem (i := 24) rfl)
  have m : (⟨"BadWish", s_BadWish_init, ["name"]⟩ : IniD) ∈ iniL := at_mem (i := 15) rfl
  have x1 := List.all_eq_true.mp hx _ m
  have x2 := c.ini m
  rw [← e] at x1 x2
  exact err_ok (d := ⟨"BadWish", s_BadWish_init, ["name"]⟩) g x1 x2 es_BadWish sup (by decide +kernel) (fun _ _ _ _ _ _ _ _ us hl => match us, hl with | [_, _], _ => rfl)
theorem ex_BadStatement {w : World} {K : PySem.W.Frag} {h : Heap} {mg : Str → Option Value} (X : K.In h) (G : h.Ns mainGlobals mg) (c : SaysM faL fnL [] [] exL iniL w h K) (hx : (iniL.all fun d => errB RR.prog.main.file K (ga K d.cls) d.fs) = true) (sup : mg "super" = none) : Ex RR.prog K mg "BadStatement" s_BadStatement_init ["number"] := by
  obtain ⟨g, e⟩ := fa_ga X G c.t.d (x := "BadStatement") (at_mem (i := 25) rfl)
  have m : (⟨"BadStatement", s_BadStatement_init, ["number"]⟩ : IniD) ∈ iniL := at_mem (i := 16) rfl
  have x1 := List.all_eq_true.mp hx _ m
  have x2 := c.ini m
  rw [← e] at x1 x2
  exact err_ok (d := ⟨"BadStatement", s_BadStatement_init, ["number"]⟩) g x1 x2 es_BadStatement sup (by decide +kernel) (fun _ _ _ _ _ _ _ _ us hl => match us, hl with | [_, _], _ => rfl)
theorem ex_BadText {w : World} {K : PySem.W.Frag} {h : Heap} {mg : Str → Option Value} (X : K.In h) (G : h.Ns mainGlobals mg) (c : SaysM faL fnL [] [] exL iniL w h K) (hx : (iniL.all fun d => errB RR.prog.main.file K (ga K d.cls) d.fs) = true) (sup : mg "super" = none) : Ex RR.prog K mg "BadText" s_BadText_init ["line"] := by
  obtain ⟨g, e⟩ := fa_ga X G c.t.d (x := "BadText") (at_mem (i := 26) rfl)
  have m : (⟨"BadText", s_BadText_init, ["line"]⟩ : IniD) ∈ iniL := at_mem (i := 17) rfl
  have x1 := List.all_eq_true.mp hx _ m
  have x2 := c.ini m
  rw [← e] at x1 x2
  exact err_ok (d := ⟨"BadText", s_BadText_init, ["line"]⟩) g x1 x2 es_BadText sup (by decide +kernel) (fun _ _ _ _ _ _ _ _ us hl => match us, hl with | [_, _], _ => rfl)
theorem ex_NoKey {w : World} {K : PySem.W.Frag} {h : Heap} {mg : Str → Option Value} (X : K.In h) (G : h.Ns mainGlobals mg) (c : SaysM faL fnL [] [] exL iniL w h K) (hx : (iniL.all fun d => errB RR.prog.main.file K (ga K d.cls) d.fs) = true) (sup : mg "super" = none) : Ex RR.prog K mg "NoKey" s_NoKey_init ["key"] := by
  obtain ⟨g, e⟩ := fa_ga X G c.t.d (x := "NoKey") (at_mem (i := 27) rfl)
  have m : (⟨"NoKey", s_NoKey_init, ["key"]⟩ : IniD) ∈ iniL := at_mem (i := 18) rfl
  have x1 := List.all_eq_true.mp hx _ m
  have x2 := c.ini m
  rw [← e] at x1 x2
  exact err_ok (d := ⟨"NoKey", s_NoKey_init, ["key"]⟩) g x1 x2 es_NoKey sup (by decide +kernel) (fun _ _ _ _ _ _ _ _ us hl => match us, hl with | [_, _], _ => rfl)
theorem ex_NoStart {w : World} {K : PySem.W.Frag} {h : Heap} {mg : Str → Option Value} (X : K.In h) (G : h.Ns mainGlobals mg) (c : SaysM faL fnL [] [] exL iniL w h K) (hx : (iniL.all fun d => errB RR.prog.main.file K (ga K d.cls) d.fs) = true) (sup : mg "super" = none) : Ex RR.prog K mg "NoStart" s_NoStart_init ["start"] := by
  obtain ⟨g, e⟩ := fa_ga X G c.t.d (x := "NoStart") (at_mem (i := 28) rfl)
  have m : (⟨"NoStart", s_NoStart_init, ["start"]⟩ : IniD) ∈ iniL := at_mem (i := 19) rfl
  have x1 := List.all_eq_true.mp hx _ m
  have x2 := c.ini m
  rw [← e] at x1 x2
  exact err_ok (d := ⟨"NoStart", s_NoStart_init, ["start"]⟩) g x1 x2 es_NoStart sup (by decide +kernel) (fun _ _ _ _ _ _ _ _ us hl => match us, hl with | [_, _], _ => rfl)
theorem ex_BadPlan {w : World} {K : PySem.W.Frag} {h : Heap} {mg : Str → Option Value} (X : K.In h) (G : h.Ns mainGlobals mg) (c : SaysM faL fnL [] [] exL iniL w h K) (hx : (iniL.all fun d => errB RR.prog.main.file K (ga K d.cls) d.fs) = true) (sup : mg "super" = none) : Ex RR.prog K mg "BadPlan" s_BadPlan_init [] := by
  obtain ⟨g, e⟩ := fa_ga X G c.t.d (x := "BadPlan") (at_mem (i := 29) rfl)
  have m : (⟨"BadPlan", s_BadPlan_init, []⟩ : IniD) ∈ iniL := at_mem (i := 20) rfl
  have x1 := List.all_eq_true.mp hx _ m
  have x2 := c.ini m
  rw [← e] at x1 x2
  exact err_ok (d := ⟨"BadPlan", s_BadPlan_init, []⟩) g x1 x2 es_BadPlan sup (by decide +kernel) (fun _ _ _ _ _ _ _ _ us hl => match us, hl with | [_], _ => rfl)
theorem ex_NoKind {w : World} {K : PySem.W.Frag} {h : Heap} {mg : Str → Option Value} (X : K.In h) (G : h.Ns mainGlobals mg) (c : SaysM faL fnL [] [] exL iniL w h K) (hx : (iniL.all fun d => errB RR.prog.main.file K (ga K d.cls) d.fs) = true) (sup : mg "super" = none) : Ex RR.prog K mg "NoKind" s_NoKind_init ["kind"] := by
  obtain ⟨g, e⟩ := fa_ga X G c.t.d (x := "NoKind") (at_mem (i := 30) rfl)
  have m : (⟨"NoKind", s_NoKind_init, ["kind"]⟩ : IniD) ∈ iniL := at_mem (i := 21) rfl
  have x1 := List.all_eq_true.mp hx _ m
  have x2 := c.ini m
  rw [← e] at x1 x2
  exact err_ok (d := ⟨"NoKind", s_NoKind_init, ["kind"]⟩) g x1 x2 es_NoKind sup (by decide +kernel) (fun _ _ _ _ _ _ _ _ us hl => match us, hl with | [_, _], _ => rfl)
theorem ex_Unfit {w : World} {K : PySem.W.Frag} {h : Heap} {mg : Str → Option Value} (X : K.In h) (G : h.Ns mainGlobals mg) (c : SaysM faL fnL [] [] exL iniL w h K) (hx : (iniL.all fun d => errB RR.prog.main.file K (ga K d.cls) d.fs) = true) (sup : mg "super" = none) : Ex RR.prog K mg "Unfit" s_Unfit_init [] := by
  obtain ⟨g, e⟩ := fa_ga X G c.t.d (x := "Unfit") (at_mem (i := 31) rfl)
  have m : (⟨"Unfit", s_Unfit_init, []⟩ : IniD) ∈ iniL := at_mem (i := 22) rfl
  have x1 := List.all_eq_true.mp hx _ m
  have x2 := c.ini m
  rw [← e] at x1 x2
  exact err_ok (d := ⟨"Unfit", s_Unfit_init, []⟩) g x1 x2 es_Unfit sup (by decide +kernel) (fun _ _ _ _ _ _ _ _ us hl => match us, hl with | [_], _ => rfl)
theorem ex_Recalls {w : World} {K : PySem.W.Frag} {h : Heap} {mg : Str → Option Value} (X : K.In h) (G : h.Ns mainGlobals mg) (c : SaysM faL fnL [] [] exL iniL w h K) (hx : (iniL.all fun d => errB RR.prog.main.file K (ga K d.cls) d.fs) = true) (sup : mg "super" = none) : Ex RR.prog K mg "Recalls" s_Recalls_init ["control"] := by
  obtain ⟨g, e⟩ := fa_ga X G c.t.d (x := "Recalls") (at_mem (i := 32) rfl)
  have m : (⟨"Recalls", s_Recalls_init, ["control"]⟩ : IniD) ∈ iniL := at_mem (i := 23) rfl
  have x1 := List.all_eq_true.mp hx _ m
  have x2 := c.ini m
  rw [← e] at x1 x2
  exact err_ok (d := ⟨"Recalls", s_Recalls_init, ["control"]⟩) g x1 x2 es_Recalls sup (by decide +kernel) (fun _ _ _ _ _ _ _ _ us hl => match us, hl with | [_, _], _ => rfl)
theorem ex_Endless {w : World} {K : PySem.W.Frag} {h : Heap} {mg : Str → Option Value} (X : K.In h) (G : h.Ns mainGlobals mg) (c : SaysM faL fnL [] [] exL iniL w h K) (hx : (iniL.all fun d => errB RR.prog.main.file K (ga K d.cls) d.fs) = true) (sup : mg "super" = none) : Ex RR.prog K mg "Endless" s_Endless_init [] := by
  obtain ⟨g, e⟩ := fa_ga X G c.t.d (x := "Endless") (at_mem (i := 33) rfl)
  have m : (⟨"Endless", s_Endless_init, []⟩ : IniD) ∈ iniL := at_mem (i := 24) rfl
  have x1 := List.all_eq_true.mp hx _ m
  have x2 := c.ini m
  rw [← e] at x1 x2
  exact err_ok (d := ⟨"Endless", s_Endless_init, []⟩) g x1 x2 es_Endless sup (by decide +kernel) (fun _ _ _ _ _ _ _ _ us hl => match us, hl with | [_], _ => rfl)
theorem ex_NoControl {w : World} {K : PySem.W.Frag} {h : Heap} {mg : Str → Option Value} (X : K.In h) (G : h.Ns mainGlobals mg) (c : SaysM faL fnL [] [] exL iniL w h K) (hx : (iniL.all fun d => errB RR.prog.main.file K (ga K d.cls) d.fs) = true) (sup : mg "super" = none) : Ex RR.prog K mg "NoControl" s_NoControl_init ["control"] := by
  obtain ⟨g, e⟩ := fa_ga X G c.t.d (x := "NoControl") (at_mem (i := 34) rfl)
  have m : (⟨"NoControl", s_NoControl_init, ["control"]⟩ : IniD) ∈ iniL := at_mem (i := 25) rfl
  have x1 := List.all_eq_true.mp hx _ m
  have x2 := c.ini m
  rw [← e] at x1 x2
  exact err_ok (d := ⟨"NoControl", s_NoControl_init, ["control"]⟩) g x1 x2 es_NoControl sup (by decide +kernel) (fun _ _ _ _ _ _ _ _ us hl => match us, hl with | [_, _], _ => rfl)
theorem ex_BadHeight {w : World} {K : PySem.W.Frag} {h : Heap} {mg : Str → Option Value} (X : K.In h) (G : h.Ns mainGlobals mg) (c : SaysM faL fnL [] [] exL iniL w h K) (hx : (iniL.all fun d => errB RR.prog.main.file K (ga K d.cls) d.fs) = true) (sup : mg "super" = none) : Ex RR.prog K mg "BadHeight" s_BadHeight_init ["height"] := by
  obtain ⟨g, e⟩ := fa_ga X G c.t.d (x := "BadHeight") (at_mem (i := 35) rfl)
  have m : (⟨"BadHeight", s_BadHeight_init, ["height"]⟩ : IniD) ∈ iniL := at_mem (i := 26) rfl
  have x1 := List.all_eq_true.mp hx _ m
  have x2 := c.ini m
  rw [← e] at x1 x2
  exact err_ok (d := ⟨"BadHeight", s_BadHeight_init, ["height"]⟩) g x1 x2 es_BadHeight sup (by decide +kernel) (fun _ _ _ _ _ _ _ _ us hl => match us, hl with | [_, _], _ => rfl)
theorem ex_BadRule {w : World} {K : PySem.W.Frag} {h : Heap} {mg : Str → Option Value} (X : K.In h) (G : h.Ns mainGlobals mg) (c : SaysM faL fnL [] [] exL iniL w h K) (hx : (iniL.all fun d => errB RR.prog.main.file K (ga K d.cls) d.fs) = true) (sup : mg "super" = none) : Ex RR.prog K mg "BadRule" s_BadRule_init ["name"] := by
  obtain ⟨g, e⟩ := fa_ga X G c.t.d (x := "BadRule") (at_mem (i := 36) rfl)
  have m : (⟨"BadRule", s_BadRule_init, ["name"]⟩ : IniD) ∈ iniL := at_mem (i := 27) rfl
  have x1 := List.all_eq_true.mp hx _ m
  have x2 := c.ini m
  rw [← e] at x1 x2
  exact err_ok (d := ⟨"BadRule", s_BadRule_init, ["name"]⟩) g x1 x2 es_BadRule sup (by decide +kernel) (fun _ _ _ _ _ _ _ _ us hl => match us, hl with | [_, _], _ => rfl)
theorem ex_Ring {w : World} {K : PySem.W.Frag} {h : Heap} {mg : Str → Option Value} (X : K.In h) (G : h.Ns mainGlobals mg) (c : SaysM faL fnL [] [] exL iniL w h K) (hx : (iniL.all fun d => errB RR.prog.main.file K (ga K d.cls) d.fs) = true) (sup : mg "super" = none) : Ex RR.prog K mg "Ring" s_Ring_init ["name"] := by
  obtain ⟨g, e⟩ := fa_ga X G c.t.d (x := "Ring") (at_mem (i := 37) rfl)
  have m : (⟨"Ring", s_Ring_init, ["name"]⟩ : IniD) ∈ iniL := at_mem (i := 28) rfl
  have x1 := List.all_eq_true.mp hx _ m
  have x2 := c.ini m
  rw [← e] at x1 x2
  exact err_ok (d := ⟨"Ring", s_Ring_init, ["name"]⟩) g x1 x2 es_Ring sup (by decide +kernel) (fun _ _ _ _ _ _ _ _ us hl => match us, hl with | [_, _], _ => rfl)
theorem ex_NoRule {w : World} {K : PySem.W.Frag} {h : Heap} {mg : Str → Option Value} (X : K.In h) (G : h.Ns mainGlobals mg) (c : SaysM faL fnL [] [] exL iniL w h K) (hx : (iniL.all fun d => errB RR.prog.main.file K (ga K d.cls) d.fs) = true) (sup : mg "super" = none) : Ex RR.prog K mg "NoRule" s_NoRule_init ["root"] := by
  obtain ⟨g, e⟩ := fa_ga X G c.t.d (x := "NoRule") (at_mem (i := 38) rfl)
  have m : (⟨"NoRule", s_NoRule_init, ["root"]⟩ : IniD) ∈ iniL := at_mem (i := 29) rfl
  have x1 := List.all_eq_true.mp hx _ m
  have x2 := c.ini m
  rw [← e] at x1 x2
  exact err_ok (d := ⟨"NoRule", s_NoRule_init, ["root"]⟩) g x1 x2 es_NoRule sup (by decide +kernel) (fun _ _ _ _ _ _ _ _ us hl => match us, hl with | [_, _], _ => rfl)
theorem ex_BadPace {w : World} {K : PySem.W.Frag} {h : Heap} {mg : Str → Option Value} (X : K.In h) (G : h.Ns mainGlobals mg) (c : SaysM faL fnL [] [] exL iniL w h K) (hx : (iniL.all fun d => errB RR.prog.main.file K (ga K d.cls) d.fs) = true) (sup : mg "super" = none) : Ex RR.prog K mg "BadPace" s_BadPace_init ["pace"] := by
  obtain ⟨g, e⟩ := fa_ga X G c.t.d (x := "BadPace") (at_mem (i := 39) rfl)
  have m : (⟨"BadPace", s_BadPace_init, ["pace"]⟩ : IniD) ∈ iniL := at_mem (i := 30) rfl
  have x1 := List.all_eq_true.mp hx _ m
  have x2 := c.ini m
  rw [← e] at x1 x2
  exact err_ok (d := ⟨"BadPace", s_BadPace_init, ["pace"]⟩) g x1 x2 es_BadPace sup (by decide +kernel) (fun _ _ _ _ _ _ _ _ us hl => match us, hl with | [_, _], _ => rfl)
theorem ex_BadRank {w : World} {K : PySem.W.Frag} {h : Heap} {mg : Str → Option Value} (X : K.In h) (G : h.Ns mainGlobals mg) (c : SaysM faL fnL [] [] exL iniL w h K) (hx : (iniL.all fun d => errB RR.prog.main.file K (ga K d.cls) d.fs) = true) (sup : mg "super" = none) : Ex RR.prog K mg "BadRank" s_BadRank_init ["number"] := by
  obtain ⟨g, e⟩ := fa_ga X G c.t.d (x := "BadRank") (at_mem (i := 40) rfl)
  have m : (⟨"BadRank", s_BadRank_init, ["number"]⟩ : IniD) ∈ iniL := at_mem (i := 31) rfl
  have x1 := List.all_eq_true.mp hx _ m
  have x2 := c.ini m
  rw [← e] at x1 x2
  exact err_ok (d := ⟨"BadRank", s_BadRank_init, ["number"]⟩) g x1 x2 es_BadRank sup (by decide +kernel) (fun _ _ _ _ _ _ _ _ us hl => match us, hl with | [_, _], _ => rfl)
theorem err_glo : ∀ x ∈ errL, Fa.glo x ∈ faL := by
  intro x hx
  have h : (errL.all fun x => faL.any fun f => match f with | .glo y => decide (y = x) | _ => false) = true := by decide +kernel
  obtain ⟨f, hf, e⟩ := List.any_eq_true.mp (List.all_eq_true.mp h x hx)
  split at e
  · rename_i y
    rw [← of_decide_eq_true e]
    exact hf
  · cases e
theorem kin_err : ∀ y ∈ kinL, y ∈ errL := by decide +kernel
theorem txt_of {w : World} {K : PySem.W.Frag} {h : Heap} {mg : Str → Option Value} (X : K.In h) (G : h.Ns mainGlobals mg) (c : SaysM faL fnL [] [] exL iniL w h K) : Txt RR.prog w K mg := by
  have cd := c.t.d
  obtain ⟨x0, hx⟩ := ba c.more
  obtain ⟨x1, x2⟩ := ba hx
  obtain ⟨gW, eW⟩ := fa_ga X G cd (x := "WalksError") (at_mem (i := 41) rfl)
  have sup : mg "super" = none := free_ok X G (cd.facts (at_mem (i := 51) rfl))
  have key : ∀ x ∈ errL, ExcC K (fa mg x) ∧ PySem.W.kitOne K (.ref (fa mg x)) (.ref (fa mg "WalksError")) = some true ∧ PySem.W.kitOne K (.ref (fa mg x)) (.type "ValueError") = some true ∧ ∀ y ∈ kinL, PySem.W.kitOne K (.ref (fa mg x)) (.ref (fa mg y)) = some (decide (x = y)) := fun x hx => by
    obtain ⟨_, e⟩ := fa_ga X G cd (x := x) (err_glo x hx)
    obtain ⟨a1, a⟩ := ba (List.all_eq_true.mp x2 x hx)
    obtain ⟨a2, a⟩ := ba a
    obtain ⟨a3, a4⟩ := ba a
    rw [e, eW]
    refine ⟨excB_ok a1, of_decide_eq_true a2, of_decide_eq_true a3, fun y hy => ?_⟩
    obtain ⟨_, ey⟩ := fa_ga X G cd (x := y) (err_glo y (kin_err y hy))
    rw [ey]
    exact of_decide_eq_true (List.all_eq_true.mp a4 y hy)
  exact { n_int := free_ok X G (cd.facts (at_mem (i := 42) rfl))
          n_len := free_ok X G (cd.facts (at_mem (i := 43) rfl))
          n_abs := free_ok X G (cd.facts (at_mem (i := 44) rfl))
          n_list := free_ok X G (cd.facts (at_mem (i := 45) rfl))
          n_range := free_ok X G (cd.facts (at_mem (i := 46) rfl))
          n_repr := free_ok X G (cd.facts (at_mem (i := 47) rfl))
          n_isinstance := free_ok X G (cd.facts (at_mem (i := 48) rfl))
          n_ValueError := free_ok X G (cd.facts (at_mem (i := 49) rfl))
          n_sorted := free_ok X G (cd.facts (at_mem (i := 50) rfl))
          n_super := free_ok X G (cd.facts (at_mem (i := 51) rfl))
          law_pen := df_of X G cd (at_mem (i := 0) rfl) (at_mem (i := 0) rfl) (fun _ _ _ _ _ _ us hl => match us, hl with | [_], _ => rfl)
          law_draw := df_of X G cd (at_mem (i := 1) rfl) (at_mem (i := 1) rfl) (fun _ _ _ _ _ _ us hl => match us, hl with | [_, _], _ => rfl)
          law_pick := df_of X G cd (at_mem (i := 2) rfl) (at_mem (i := 2) rfl) (fun _ _ _ _ _ _ us hl => match us, hl with | [_, _], _ => rfl)
          law_any := df_of X G cd (at_mem (i := 3) rfl) (at_mem (i := 3) rfl) (fun _ _ _ _ _ _ us hl => match us, hl with | [_], _ => rfl)
          law_by_position := df_of X G cd (at_mem (i := 4) rfl) (at_mem (i := 4) rfl) (fun _ _ _ _ _ _ us hl => match us, hl with | [_, _, _], _ => rfl)
          law_by_name := df_of X G cd (at_mem (i := 5) rfl) (at_mem (i := 5) rfl) (fun _ _ _ _ _ _ us hl => match us, hl with | [_, _, _], _ => rfl)
          law_all_made := df_of X G cd (at_mem (i := 6) rfl) (at_mem (i := 6) rfl) (fun _ _ _ _ _ _ us hl => match us, hl with | [_, _, _], _ => rfl)
          law_kinds := df_of X G cd (at_mem (i := 7) rfl) (at_mem (i := 7) rfl) (fun _ _ _ _ _ _ us hl => match us, hl with | [_], _ => rfl)
          law := df_of X G cd (at_mem (i := 8) rfl) (at_mem (i := 8) rfl) (fun _ _ _ _ _ _ us hl => match us, hl with | [_], _ => rfl)
          c_WalksError := gW
          sys := sysB_ok x0
          e_BadTold := ex_BadTold X G c x1 sup
          b_BadTold := kw_of (ex_BadTold X G c x1 sup) (fun _ _ _ _ _ _ _ _ _ ws hl => match ws, hl with | [_], _ => rfl)
          e_BadValue := ex_BadValue X G c x1 sup
          b_BadValue := kw_of (ex_BadValue X G c x1 sup) (fun _ _ _ _ _ _ _ _ _ ws hl => match ws, hl with | [_], _ => rfl)
          e_NoPlace := ex_NoPlace X G c x1 sup
          b_NoPlace := kw_of (ex_NoPlace X G c x1 sup) (fun _ _ _ _ _ _ _ _ _ ws hl => match ws, hl with | [_], _ => rfl)
          e_BadSide := ex_BadSide X G c x1 sup
          b_BadSide := kw_of (ex_BadSide X G c x1 sup) (fun _ _ _ _ _ _ _ _ _ ws hl => match ws, hl with | [_], _ => rfl)
          e_Taken := ex_Taken X G c x1 sup
          b_Taken := kw_of (ex_Taken X G c x1 sup) (fun _ _ _ _ _ _ _ _ _ ws hl => match ws, hl with | [_], _ => rfl)
          e_BadSize := ex_BadSize X G c x1 sup
          b_BadSize := kw_of (ex_BadSize X G c x1 sup) (fun _ _ _ _ _ _ _ _ _ ws hl => match ws, hl with | [_], _ => rfl)
          e_BadOrder := ex_BadOrder X G c x1 sup
          b_BadOrder := kw_of (ex_BadOrder X G c x1 sup) (fun _ _ _ _ _ _ _ _ _ ws hl => match ws, hl with | [_], _ => rfl)
          e_OtherKeys := ex_OtherKeys X G c x1 sup
          e_BadKey := ex_BadKey X G c x1 sup
          b_BadKey := kw_of (ex_BadKey X G c x1 sup) (fun _ _ _ _ _ _ _ _ _ ws hl => match ws, hl with | [_], _ => rfl)
          e_TooMany := ex_TooMany X G c x1 sup
          b_TooMany := kw_of (ex_TooMany X G c x1 sup) (fun _ _ _ _ _ _ _ _ _ ws hl => match ws, hl with | [_, _, _], _ => rfl)
          e_BadItem := ex_BadItem X G c x1 sup
          b_BadItem := kw_of (ex_BadItem X G c x1 sup) (fun _ _ _ _ _ _ _ _ _ ws hl => match ws, hl with | [_], _ => rfl)
          e_BadStart := ex_BadStart X G c x1 sup
          b_BadStart := kw_of (ex_BadStart X G c x1 sup) (fun _ _ _ _ _ _ _ _ _ ws hl => match ws, hl with | [_], _ => rfl)
          e_BadGives := ex_BadGives X G c x1 sup
          b_BadGives := kw_of (ex_BadGives X G c x1 sup) (fun _ _ _ _ _ _ _ _ _ ws hl => match ws, hl with | [_], _ => rfl)
          e_BadEnd := ex_BadEnd X G c x1 sup
          b_BadEnd := kw_of (ex_BadEnd X G c x1 sup) (fun _ _ _ _ _ _ _ _ _ ws hl => match ws, hl with | [_], _ => rfl)
          e_BadCase := ex_BadCase X G c x1 sup
          b_BadCase := kw_of (ex_BadCase X G c x1 sup) (fun _ _ _ _ _ _ _ _ _ ws hl => match ws, hl with | [_], _ => rfl)
          e_BadWish := ex_BadWish X G c x1 sup
          b_BadWish := kw_of (ex_BadWish X G c x1 sup) (fun _ _ _ _ _ _ _ _ _ ws hl => match ws, hl with | [_], _ => rfl)
          e_BadStatement := ex_BadStatement X G c x1 sup
          b_BadStatement := kw_of (ex_BadStatement X G c x1 sup) (fun _ _ _ _ _ _ _ _ _ ws hl => match ws, hl with | [_], _ => rfl)
          e_BadText := ex_BadText X G c x1 sup
          b_BadText := kw_of (ex_BadText X G c x1 sup) (fun _ _ _ _ _ _ _ _ _ ws hl => match ws, hl with | [_], _ => rfl)
          e_NoKey := ex_NoKey X G c x1 sup
          b_NoKey := kw_of (ex_NoKey X G c x1 sup) (fun _ _ _ _ _ _ _ _ _ ws hl => match ws, hl with | [_], _ => rfl)
          e_NoStart := ex_NoStart X G c x1 sup
          b_NoStart := kw_of (ex_NoStart X G c x1 sup) (fun _ _ _ _ _ _ _ _ _ ws hl => match ws, hl with | [_], _ => rfl)
          e_BadPlan := ex_BadPlan X G c x1 sup
          e_NoKind := ex_NoKind X G c x1 sup
          b_NoKind := kw_of (ex_NoKind X G c x1 sup) (fun _ _ _ _ _ _ _ _ _ ws hl => match ws, hl with | [_], _ => rfl)
          e_Unfit := ex_Unfit X G c x1 sup
          e_Recalls := ex_Recalls X G c x1 sup
          b_Recalls := kw_of (ex_Recalls X G c x1 sup) (fun _ _ _ _ _ _ _ _ _ ws hl => match ws, hl with | [_], _ => rfl)
          e_Endless := ex_Endless X G c x1 sup
          e_NoControl := ex_NoControl X G c x1 sup
          b_NoControl := kw_of (ex_NoControl X G c x1 sup) (fun _ _ _ _ _ _ _ _ _ ws hl => match ws, hl with | [_], _ => rfl)
          e_BadHeight := ex_BadHeight X G c x1 sup
          b_BadHeight := kw_of (ex_BadHeight X G c x1 sup) (fun _ _ _ _ _ _ _ _ _ ws hl => match ws, hl with | [_], _ => rfl)
          e_BadRule := ex_BadRule X G c x1 sup
          b_BadRule := kw_of (ex_BadRule X G c x1 sup) (fun _ _ _ _ _ _ _ _ _ ws hl => match ws, hl with | [_], _ => rfl)
          e_Ring := ex_Ring X G c x1 sup
          b_Ring := kw_of (ex_Ring X G c x1 sup) (fun _ _ _ _ _ _ _ _ _ ws hl => match ws, hl with | [_], _ => rfl)
          e_NoRule := ex_NoRule X G c x1 sup
          b_NoRule := kw_of (ex_NoRule X G c x1 sup) (fun _ _ _ _ _ _ _ _ _ ws hl => match ws, hl with | [_], _ => rfl)
          e_BadPace := ex_BadPace X G c x1 sup
          b_BadPace := kw_of (ex_BadPace X G c x1 sup) (fun _ _ _ _ _ _ _ _ _ ws hl => match ws, hl with | [_], _ => rfl)
          e_BadRank := ex_BadRank X G c x1 sup
          b_BadRank := kw_of (ex_BadRank X G c x1 sup) (fun _ _ _ _ _ _ _ _ _ ws hl => match ws, hl with | [_], _ => rfl)
          xc := fun x hx => (key x hx).1
          xw := fun x hx => (key x hx).2.1
          xv := fun x hx => (key x hx).2.2.1
          xk := fun x hx => (key x hx).2.2.2 }
theorem law_at {w : World} {mg : Str → Option Value} {f : Addr} {h : Heap} (Y : (hkL 4).says w h) (G : h.Ns mainGlobals mg) (hmg : mg ("law" : Str) = some (.ref f)) : ∃ K : PySem.W.Frag, K.In h ∧ LamX.LawAtA PySem.Challenge.rw_searchwalks_k00_errors w K CX0 63 "_law_script" mg f h := by
  obtain ⟨K, X, c⟩ := Y
  have T := txt_of X G c
  obtain ⟨g1, e1⟩ := fa_ga X G c.t.d (x := "law") (at_mem (i := 8) rfl)
  have ef : f = fa mg "law" := by
    rw [g1] at hmg
    exact (Value.ref.inj (Option.some.inj hmg)).symm
  refine ⟨K, X, fdOf K (fa mg "law"), [], spLaw K, (fun _ z => absurd z (by simp)), (fun _ z => absurd z (by simp)), (fun _ z => absurd z (by simp)), ?_, ?_, ?_⟩
  · intro s u
    obtain ⟨oc, od, kV, doc, pm, an, cdv, ct, osl, ef, lk, hcd⟩ := T.law.F.ex
    rw [ef]
    exact .of_eq rfl
  · intro H a ns hl _ _ hS
    exact ⟨a, ns, rfl, hS, hl, fun _ => rfl⟩
  · intro base _ _ _
    rw [ef]
    exact ok_law T rfl
end My
open PySem PySem.W PySem.Calls PyProof.Rows
theorem PySem.Challenge.cw_searchwalks_k00_errors_holds : PySem.Challenge.rw_searchwalks_k00_errors.Holds := by
  w_on; o_law
  refine HandSHeadRun.head_any (r := OpenLaw.row PySem.Challenge.rw_searchwalks_k00_errors) (q := view (OpenLaw.row PySem.Challenge.rw_searchwalks_k00_errors).prog [43]) (H := My.hkL 4) (ob := My.obL 4) (M := 12000) (loose := My.loL) (d := HandSHeadRun.topDef (OpenLaw.row PySem.Challenge.rw_searchwalks_k00_errors).prog 43) (kwd := []) (My.obL_eq 4)
    (by kernel_rfl) (fun s => by kernel_rfl) My.runL (by kernel_rfl) (by kernel_rfl) (by kernel_rfl) (by rfl) (by first | assumption | decide +kernel) (by decide +kernel) ⟨rfl, rfl, rfl, rfl, rfl, by decide +kernel⟩ ?hw ?hc
  case hw => w_witness2
  case hc =>
    refine LamX.walk_ofA (l := PySem.Challenge.rw_searchwalks_k00_errors) (n := 63) (x := "_law_script") (CX := fun _ => L2.CX0) rfl (by decide) (by kernel_rfl) ?F (fun _ _ _ _ _ z => z)
    intro w mg fa h Y G hmg0
    have hmg : mg ("law" : PySem.Str) = some (.ref fa) := by
      have e : (HandSHeadRun.topDef (OpenLaw.row PySem.Challenge.rw_searchwalks_k00_errors).prog 43).name = ("law" : PySem.Str) := by kernel_rfl
      rw [← e]
      exact hmg0
    exact My.law_at Y G hmg
