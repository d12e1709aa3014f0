import PyProof.Rows.All
import Wide.All
import OpenK.AllK
import Wide.FinOn
import PyProof.EqAt
import PyProof.EqKinds
import PyProof.NeKinds
import PyProof.TupleCall
import PyProof.DictMoreH
import Open.SpecLaws
import KE.OsGo
import HandS.ForSpec
import HandS.ForMost
import HandS.Conv
import HandS.RevRange
import HandS.NoneIn
import HandS.Evl
import HandS.HeadHook2
import PySem.Challenge.RW_turnwords_s01_answers
import WmSpec
import PyWqazae
set_option Elab.async false
set_option linter.all false
set_option maxRecDepth 100000
set_option maxHeartbeats 4000000
/-! # Rules that the layer lacks -/
namespace Tw
open PySem PySem.Spec PyProof.Rows L2 Evl

/-! ### a list against an empty list -/
theorem rc_eqNil {prog : Program} {w : World} {A : Around} {s : Shared} {l b : Addr} {items items2 : Array Value} (hl : s.heap.IsList l items) (hb : s.heap.IsList b items2) (he : items2.size = 0) (hu : A.units < cLine)
    (E Q : Value → Shared → Prop) (h : Q (.bool (items.size == 0)) s) : wpAny (model prog w) A (richCompare .Eq (.ref l) (.ref b)) Q E s := by
  obtain ⟨⟨cls, dd, data, sl⟩, ho, hc, n, hd⟩ := id hl
  obtain ⟨⟨cls2, dd2, data2, sl2⟩, ho2, hc2, n2, hd2⟩ := id hb
  simp only at hc hd hc2 hd2
  subst hc hd hc2 hd2
  have ta : s.TypeIs (.ref l) "list" := ⟨_, ho, rfl⟩
  have tb : s.TypeIs (.ref b) "list" := ⟨_, ho2, rfl⟩
  by_cases hz : items.size = 0
  · refine wpAny_richCompare_same_room (op := .Eq) ta tb F.slot_list_eq (call_meets F.slot_list_eq ta F.entry_list_eq (F.args_list_eq_2 _ _) (SeqAt.list_eqAt l b items items2 n n2 dd dd2 sl sl2 (hz.trans he.symm) (fun _ => true))
      ⟨ho, ho2, (fun j h1 _ => absurd h1 (by omega)), show Value.bool ((List.range items.size).all fun _ => true) ≠ Value.notImplemented ∧ Q (.bool ((List.range items.size).all fun _ => true)) s from ⟨(fun x => nomatch x), ?_⟩⟩) hu
    rw [hz] at h ⊢
    exact h
  · refine wpAny_richCompare_same_room (op := .Eq) ta tb F.slot_list_eq (call_meets F.slot_list_eq ta F.entry_list_eq (F.args_list_eq_2 _ _) (SeqAt.list_eq_lengthsAt l b items items2 n n2 dd dd2 sl sl2 (by rw [he]; simpa using hz))
      ⟨ho, ho2, show Value.bool false ≠ Value.notImplemented ∧ Q (.bool false) s from ⟨(fun x => nomatch x), ?_⟩⟩) hu
    have e : (items.size == 0) = false := by simpa using hz
    rw [e] at h
    exact h
theorem rc_neNil {prog : Program} {w : World} {A : Around} {s : Shared} {l b : Addr} {items items2 : Array Value} (hl : s.heap.IsList l items) (hb : s.heap.IsList b items2) (he : items2.size = 0) (hu : A.units < cLine)
    (E Q : Value → Shared → Prop) (h : Q (.bool (!(items.size == 0))) s) : wpAny (model prog w) A (richCompare .NotEq (.ref l) (.ref b)) Q E s := by
  obtain ⟨⟨cls, dd, data, sl⟩, ho, hc, n, hd⟩ := id hl
  obtain ⟨⟨cls2, dd2, data2, sl2⟩, ho2, hc2, n2, hd2⟩ := id hb
  simp only at hc hd hc2 hd2
  subst hc hd hc2 hd2
  have ta : s.TypeIs (.ref l) "list" := ⟨_, ho, rfl⟩
  have tb : s.TypeIs (.ref b) "list" := ⟨_, ho2, rfl⟩
  by_cases hz : items.size = 0
  · refine wpAny_richCompare_same_room (op := .NotEq) ta tb F.slot_list_ne (call_meets F.slot_list_ne ta F.entry_list_ne (F.args_list_ne_2 _ _) (SeqAt.list_neAt l b items items2 n n2 dd dd2 sl sl2 (hz.trans he.symm) (fun _ => true))
      ⟨ho, ho2, (fun j h1 _ => absurd h1 (by omega)), show Value.bool (!((List.range items.size).all fun _ => true)) ≠ Value.notImplemented ∧ Q (.bool (!((List.range items.size).all fun _ => true))) s from ⟨(fun x => nomatch x), ?_⟩⟩) hu
    rw [hz] at h ⊢
    exact h
  · refine wpAny_richCompare_same_room (op := .NotEq) ta tb F.slot_list_ne (call_meets F.slot_list_ne ta F.entry_list_ne (F.args_list_ne_2 _ _) (SeqAt.list_ne_lengthsAt l b items items2 n n2 dd dd2 sl sl2 (by rw [he]; simpa using hz))
      ⟨ho, ho2, show Value.bool true ≠ Value.notImplemented ∧ Q (.bool true) s from ⟨(fun x => nomatch x), ?_⟩⟩) hu
    have e : (items.size == 0) = false := by simpa using hz
    rw [e] at h
    exact h
def rEqN (K : PySem.W.Frag) : R2 := fun x y H Q => ∃ a b xs, x = .ref a ∧ y = .ref b ∧ SqL K H a xs ∧ SqL K H b [] ∧ Q (.bl xs.isEmpty) H
def rNeN (K : PySem.W.Frag) : R2 := fun x y H Q => ∃ a b xs, x = .ref a ∧ y = .ref b ∧ SqL K H a xs ∧ SqL K H b [] ∧ Q (.bl (!xs.isEmpty)) H
theorem size_is {xs : List V} {its : List Value} (r : Vals xs its) : (its.toArray.size == 0) = xs.isEmpty := by
  cases r with
  | nil => rfl
  | cons _ t => simp
theorem isl {X : Cx} {pins : List (Addr × Obj)} {σ : L2.St} {H : Hp} {s : Shared} {a : Addr} {its : Array Value} (p : PlainL s.heap a its) : s.heap.IsList a its := by
  obtain ⟨o, m, e, c, d, q⟩ := p
  exact ⟨o, e, c, m, q⟩
theorem op_eqN {X : Cx} (hu : X.A.units < cLine) : OpR X (compareOp .Eq) (rEqN X.K) := by
  intro pins s σ H x y v u Q I rx ry h
  obtain ⟨a, b, xs, rfl, rfl, h1, h2, q⟩ := h
  cases rx
  cases ry
  obtain ⟨i1, r1, p1, _⟩ := I.list h1
  obtain ⟨i2, r2, p2, _⟩ := I.list h2
  cases r2
  exact rc_eqNil (isl (X := X) (pins := pins) (σ := σ) (H := H) p1) (isl (X := X) (pins := pins) (σ := σ) (H := H) p2) rfl hu _ _ ⟨.bl xs.isEmpty, H, I, by rw [size_is r1] <;> rfl, q⟩
theorem op_neN {X : Cx} (hu : X.A.units < cLine) : OpR X (compareOp .NotEq) (rNeN X.K) := by
  intro pins s σ H x y v u Q I rx ry h
  obtain ⟨a, b, xs, rfl, rfl, h1, h2, q⟩ := h
  cases rx
  cases ry
  obtain ⟨i1, r1, p1, _⟩ := I.list h1
  obtain ⟨i2, r2, p2, _⟩ := I.list h2
  cases r2
  exact rc_neNil (isl (X := X) (pins := pins) (σ := σ) (H := H) p1) (isl (X := X) (pins := pins) (σ := σ) (H := H) p2) rfl hu _ _ ⟨.bl (!xs.isEmpty), H, I, by rw [size_is r1] <;> rfl, q⟩

/-! ### a target o.f -/
def gFld (K : PySem.W.Frag) (ta : TE) (f : Str) : TG := fun v σ H Q => ta σ H fun x H2 => ∃ a C dx fs, x = .ref a ∧ H2 a = some (.ins C dx fs) ∧ Cls K C ∧ NoAttr K C f ∧ fs.length < 1000 ∧ Q σ (upd H2 a (.ins C dx (putF f v fs)))
theorem pg_fld {X : Cx} {o : Expr} {f : Str} {pos : Pos} {ta : TE} (ha : PE X o ta)
    (hs : ∀ v, assign (.Attribute o f pos) X.env v = (do
      let ov ← holding [v] (eval o X.env)
      standAt pos.atName
      holding [v, ov] (setAttr ov f v)
      release [v, ov] []) := by intro _; rfl) : PG X (.Attribute o f pos) (gFld X.K ta f) := by
  refine ⟨fun pins s σ H v u Q I r h => ?_⟩
  rw [hs]
  refine wpAny_bind (wpAny_holding (thn (ha.run pins s σ H _ I h) fun ov s2 ⟨x, H2, I2, rx, a, C, dx, fs, ex, ea, c, n, l, q2⟩ => ?_))
  subst ex
  obtain rfl : ov = Value.ref a := rx
  refine wpAny_bind (wpAny_standAt (wpAny_bind (wpAny_holding (setattr_ok I2 ea c n l r fun s3 I3 => ?_))))
  exact wpAny_release ⟨σ, _, I3, q2⟩

/-! ### d.setdefault(y, z), the keys tuples -/
theorem d_setdT {X : Cx} {pins : List (Addr × Obj)} {σ : L2.St} {H : Hp} {s : Shared} {a b : Addr} {r : Value} {d : V} {k : List Key} {A : Around} {E : Value → Shared → Prop} {kvs : List (List Key × V)} {Q : Value → Shared → Prop} (hu : A.units + 1 < cLine)
    (I : Inv X pins σ H s) (e : H a = some (.dT kvs)) (eb : H b = some (.tup (k.map kV))) (rd : RelV d r) (hl : kvs.length < sizeLine)
    (h1 : ∀ v, valV kvs k = some v → ∀ (w' : Value) (s' : Shared), Inv X pins σ H s' → RelV v w' → Q w' s') (h2 : valV kvs k = none → ∀ (w' : Value) (s' : Shared), Inv X pins σ (upd H a (.dT (putK kvs k d))) s' → RelV d w' → Q w' s') :
    wpAny (model X.prog X.w) A (call (.builtin "dict.setdefault") [.ref a, .ref b, r]) Q E s := by
  obtain ⟨z, hd, xs, rel, dd⟩ := dt_of I.hok e
  have hz : xs.length ≤ sizeLine := by rw [← Paired.length rel]; exact z
  refine call_setdefault_heap (hsz := hz) (tupleKind_room_in1 hu) (key_of I.hok eb) hd dd (fun p hp => ?_) fun hn h' dd' hs => ?_
  · have q := rel.val k
    rw [hp] at q
    cases q0 : valV kvs k with
    | none =>
      rw [q0] at q
      exact (show False from q).elim
    | some v0 =>
      rw [q0] at q
      exact h1 v0 q0 _ _ (I.tok _) q
  · have q := rel.val k
    rw [hn] at q
    cases q0 : valV kvs k with
    | some v0 =>
      rw [q0] at q
      exact (show False from q).elim
    | none =>
      have hl2 : (putK kvs k d).length ≤ sizeLine := by
        have := length_putK kvs k d
        omega
      obtain ⟨q1, es, ep, hq, g2, g3, g4, _, g5⟩ := dd'
      refine h2 q0 _ _ (d_write (t' := s.toks + _) I (by rw [e]; exact True.intro) hs ⟨q1, hq⟩ ⟨hl2, hd, _, (rel.put k eb rd).keeps fun c ys ec => ?_, q1, es, ep, hq, g2, g3, g4, g5⟩) rd
      rw [upd_ne (ne_of ec e (fun z => nomatch z))]
      exact ec
def tDSetT (td ty tx : TE) : TE := fun σ H Q => td σ H fun x H1 => ∃ a, x = .ref a ∧ IsD H1 a ∧ ty σ H1 fun y H2 => tx σ H2 fun z H3 => ∃ (kvs : List (List Key × V)) (k : List Key) (b : Addr), H3 a = some (.dT kvs) ∧ y = .ref b ∧ H3 b = some (.tup (k.map kV)) ∧ kvs.length < sizeLine ∧
  (∀ v, valV kvs k = some v → Q v H3) ∧ (valV kvs k = none → Q z (upd H3 a (.dT (putK kvs k z))))
theorem pe_dsetT {X : Cx} {o e f : Expr} {td ty tx : TE} {apos cpos : Pos} (hu : X.A.units + 1 < cLine) (ho : PE X o td) (he : PE X e ty) (hf : PE X f tx) (m : M2 X o "setdefault" apos e f cpos) :
    PE X (.Call (.Attribute o "setdefault" apos) [e, f] [] cpos) (tDSetT td ty tx) := by
  refine ⟨fun pins s σ H Q I h => ?_⟩
  refine wpAny_Call_method m.base m.few m.line PySem.F.plainAttrs_dict PySem.F.slot_dict_setdefault PySem.F.type_dict_setdefault (thn (ho.run pins s σ H _ I h) fun u s1 ⟨x, H1, I1, rx, a, ex, d, q1⟩ => ?_)
  subst ex
  obtain rfl : u = Value.ref a := rx
  obtain ⟨t1, t2, _⟩ := isD_at I1 d
  refine ⟨t1, t2, ?_⟩
  rw [m.trees]
  refine Calls.callWith_builtin rfl (Calls.evalArgs_plain (Calls.spliced_cons (thn (he.run pins s1 σ H1 _ I1 q1) fun iv s2 ⟨y, H2, I2, ry, q2⟩ =>
    Calls.spliced_cons (thn (hf.run pins s2 σ H2 _ I2 q2) fun fv s3 ⟨z, H3, I3, rz, kvs, k, b, ea, ey, eb, hl, q3, q4⟩ => Calls.spliced_nil ?_))))
  subst ey
  obtain rfl : iv = Value.ref b := ry
  exact d_setdT hu I3 ea eb rz hl (fun v hv w' s4 I4 rw' => ⟨v, _, I4, rw', q3 v hv⟩) fun hn w' s4 I4 rw' => ⟨z, _, I4, rw', q4 hn⟩

/-! ### a new thing is read only from here on -/
def tFrz (td : TE) : TE := fun σ H Q => td σ H fun x H1 => ∃ d u, x = .ref d ∧ H1 d = some u ∧ Mut (some u) ∧ ∀ od, Q x (upd H1 d (.frz od u))
theorem pe_frz {X : Cx} {e : Expr} {td : TE} (he : PE X e td) : PE X e (tFrz td) := by
  refine ⟨fun pins s σ H Q I h => ?_⟩
  refine thn (he.run pins s σ H _ I h) fun v s1 ⟨x, H1, I1, r1, d, u, ex, hd, mu, q⟩ => ?_
  obtain ⟨od, I2⟩ := I1.lock hd mu
  exact ⟨x, _, I2, r1, q od⟩

/-! ### defs, methods, classes as callees -/
def CalF (P : Program) (w : World) (K : PySem.W.Frag) (mg : Str → Option Value) (base : Heap) (x : Str) (k : Nat) (ps : List Str) (sp : Sp) : Prop :=
  ∃ f fd, mg x = some (.ref f) ∧ PySem.W.keepIn K (.ref f) = true ∧ Binds K fd ps [] ∧ FnOk P w K mg base CX0 k f fd ps sp
def CalM (P : Program) (w : World) (K : PySem.W.Frag) (mg : Str → Option Value) (base : Heap) (C : Addr) (m : Str) (k : Nat) (ps : List Str) (sp : Sp) : Prop :=
  ∃ f fd, Cls K C ∧ Meth K C m f ∧ Binds K fd ps [] ∧ FnOk P w K mg base CX0 k f fd ps sp
def CalC (P : Program) (w : World) (K : PySem.W.Frag) (mg : Str → Option Value) (base : Heap) (x : Str) (C : Addr) (k : Nat) (ps : List Str) (sp : Sp) : Prop :=
  ∃ f fd, mg x = some (.ref C) ∧ Mk K C f ∧ Binds K fd ps [] ∧ FnOk P w K mg base CX0 k f fd ps sp
section
variable {X : Cx} {k : Nat} {C : Addr} {ps : List Str} {sp : Sp} {x m : Str} {p pos apos : Pos} {e o : Expr} {es : List Expr} {ta : TE} {t : TA}
theorem pe_cf (c : CalF X.prog X.w X.K X.mg X.base x k ps sp) (hr : Room k X.A) (hg : Gl X x) (ha : PA X (e :: es) t) (hdb : (x == ("__debug__" : Str)) = false := by decide) (he : starEach (e :: es) X.env = (false, eval e X.env) :: starEach es X.env := by rfl)
    (hpl : (backTo pos (starEach es X.env)).any (·.1) = false := by rfl) : PE X (.Call (.Name x p) (e :: es) [] pos) (tCall sp [] E0 t) := by
  obtain ⟨f, fd, hm, hk, hb, F⟩ := c
  exact pe_call F hr hg hm hk hb .nil pass0 ha hdb he hpl
theorem pe_cf0 (c : CalF X.prog X.w X.K X.mg X.base x k ps sp) (hr : Room k X.A) (hg : Gl X x) (hdb : (x == ("__debug__" : Str)) = false := by decide) : PE X (.Call (.Name x p) [] [] pos) (tCall sp [] E0 tNil) := by
  obtain ⟨f, fd, hm, hk, hb, F⟩ := c
  exact pe_call0 F hr hg hm hk hb .nil pass0 hdb
theorem pe_cm {pl : Sem Bool} (he : PE X o ta) (c : CalM X.prog X.w X.K X.mg X.base C m k ps sp) (hr : Room k X.A) (ha : PA X (e :: es) t)
    (hst : starEach (e :: es) X.env = (false, eval e X.env) :: starEach es X.env := by rfl) (hpl : (backTo pos (starEach es X.env)).any (·.1) = false := by rfl)
    (ht : eval (.Call (.Attribute o m apos) (e :: es) [] pos) X.env = (do
      let ov ← eval o X.env
      standAt apos.atName
      let (f, first) ← holding [ov] (getMethod ov m pl)
      callWith pos f first (backTo pos (starEach (e :: es) X.env)) (backToKw pos (keywordEach [] X.env))) := by rfl) : PE X (.Call (.Attribute o m apos) (e :: es) [] pos) (tMeth C m sp [] E0 ta t) := by
  obtain ⟨f, fd, hc, hm, hb, F⟩ := c
  exact pe_meth he hc hm F hr hb .nil pass0 ha hst hpl ht
theorem pe_cm0 {pl : Sem Bool} (he : PE X o ta) (c : CalM X.prog X.w X.K X.mg X.base C m k ps sp) (hr : Room k X.A)
    (ht : eval (.Call (.Attribute o m apos) [] [] pos) X.env = (do
      let ov ← eval o X.env
      standAt apos.atName
      let (f, first) ← holding [ov] (getMethod ov m pl)
      callWith pos f first (backTo pos (starEach [] X.env)) (backToKw pos (keywordEach [] X.env))) := by rfl) : PE X (.Call (.Attribute o m apos) [] [] pos) (tMeth C m sp [] E0 ta tNil) := by
  obtain ⟨f, fd, hc, hm, hb, F⟩ := c
  exact pe_meth0 he hc hm F hr hb .nil pass0 ht
theorem pe_mk (c : CalC X.prog X.w X.K X.mg X.base x C k ps sp) (hr : Room (k + 1) X.A) (hg : Gl X x) (ha : PA X (e :: es) t) (hdb : (x == ("__debug__" : Str)) = false := by decide)
    (he : starEach (e :: es) X.env = (false, eval e X.env) :: starEach es X.env := by rfl) (hpl : (backTo pos (starEach es X.env)).any (·.1) = false := by rfl) : PE X (.Call (.Name x p) (e :: es) [] pos) (tMake C sp [] E0 t) := by
  obtain ⟨f, fd, hm, M, hb, F⟩ := c
  exact pe_make M F hr hg hm hb .nil pass0 ha hdb he hpl
theorem pe_mk0 (c : CalC X.prog X.w X.K X.mg X.base x C k ps sp) (hr : Room (k + 1) X.A) (hg : Gl X x) (hdb : (x == ("__debug__" : Str)) = false := by decide) : PE X (.Call (.Name x p) [] [] pos) (tMake C sp [] E0 tNil) := by
  obtain ⟨f, fd, hm, M, hb, F⟩ := c
  exact pe_make0 M F hr hg hm hb .nil pass0 hdb
/-- a module's whole number -/
theorem pe_ci {i : Int} (hg : Gl X x) (hm : ∃ t, X.mg x = some (.int i t)) (hd : (x == ("__debug__" : Str)) = false := by decide) : PE X (.Name x p) (tC (.int i)) := by
  obtain ⟨t, hm⟩ := hm
  exact pe_glob hg hm ⟨t, rfl⟩ hd
theorem pe_cr {a : Addr} (hg : Gl X x) (hm : X.mg x = some (.ref a)) (hd : (x == ("__debug__" : Str)) = false := by decide) : PE X (.Name x p) (tC (.ref a)) := pe_glob hg hm rfl hd
end
end Tw

namespace Tw
open PySem PySem.Spec PyProof.Rows L2 Evl
structure Gs where
  K : PySem.W.Frag
  cM : Addr
  cT : Addr
  cA : Addr
  cD : Addr
  aNUMBERS : Addr
  aLISTS : Addr
def vNUMBERS : List V := [0, 1, 1, 3, 5, 1, 3, 3, 2, 3, 2, 1, 1, 1, 1, 1].map V.int
def vLISTS : List V := [0, 0, 0, 0, 0, 0, 0, 0, 0, 0, 0, 0, 1, 2, 2, 1].map V.int
structure Txt (G : Gs) (mg : Str → Option Value) : Prop where
  c_NOTHING : ∃ t, mg "NOTHING" = some (.int (-1) t)
  c_MOST_STATES : ∃ t, mg "MOST_STATES" = some (.int 24 t)
  c_MOST_ARCS : ∃ t, mg "MOST_ARCS" = some (.int 300 t)
  c_LONGEST : ∃ t, mg "LONGEST" = some (.int 16 t)
  c_PLACES : ∃ t, mg "PLACES" = some (.int 6 t)
  c_JOIN : ∃ t, mg "JOIN" = some (.int 6 t)
  c_FOLLOW : ∃ t, mg "FOLLOW" = some (.int 7 t)
  c_NEW : ∃ t, mg "NEW" = some (.int 1 t)
  c_AGAIN : ∃ t, mg "AGAIN" = some (.int 8 t)
  c_NUMBERS : mg "NUMBERS" = some (.ref G.aNUMBERS)
  c_LISTS : mg "LISTS" = some (.ref G.aLISTS)
  t_NUMBERS : ∀ H, SqT G.K H G.aNUMBERS vNUMBERS
  t_LISTS : ∀ H, SqT G.K H G.aLISTS vLISTS
  b_len : mg "len" = none
  b_int : mg "int" = none
  b_min : mg "min" = none
  b_list : mg "list" = none
  b_tuple : mg "tuple" = none
  b_range : mg "range" = none
  b_reversed : mg "reversed" = none
  k_M : Cls G.K G.cM
  k_T : Cls G.K G.cT
  k_A : Cls G.K G.cA
  k_D : Cls G.K G.cD
  n_states : NoAttr G.K G.cM "states"
  n_finals : NoAttr G.K G.cM "finals"
  n_arcs : NoAttr G.K G.cM "arcs"
  n_told_states : NoAttr G.K G.cM "told_states"
  n_told_arcs : NoAttr G.K G.cM "told_arcs"
  n_is_built : NoAttr G.K G.cM "is_built"
  n_machine : NoAttr G.K G.cT "machine"
  n_word : NoAttr G.K G.cT "word"
  n_silent : NoAttr G.K G.cT "silent"
  n_writing : NoAttr G.K G.cT "writing"
  n_turning : NoAttr G.K G.cA "turning"
  n_rows : NoAttr G.K G.cA "rows"
  n_places : NoAttr G.K G.cD "places"
def rInt1 : List V → Hp → VK → Prop := fun xs H Q => (∃ i, xs = [.int i] ∧ Q (.int i) H) ∨ ∃ k, xs = [.bl k] ∧ Q (.int (if k then 1 else 0)) H
def rTupleS (K : PySem.W.Frag) : List V → Hp → VK → Prop := fun xs H Q => ∃ p ys, xs = [.ref p] ∧ ((SqL K H p ys ∧ ∀ l, H l = none → Q (.ref l) (upd H l (.tup ys))) ∨ (SqT K H p ys ∧ Q (.ref p) H))
def rListDT : List V → Hp → VK → Prop := fun xs H Q => ∃ d kvs, xs = [V.ref d] ∧ Rd H d (.dT kvs) ∧ ∀ p bs, H p = none → IsKeys H kvs bs → Q (.ref p) (upd H p (.lst (bs.map V.ref)))
def rIsN : R2 := fun x y H Q => y = .non ∧ Q (.bl (decide (x = .non))) H
/-! ### the text by places (printed by gen.py) -/
def top (i : Nat) : Stmt := PySem.Challenge.pw_turnwords_s01_answers.main.body.getD i (.Pass ⟨0, 0, 0, 0⟩)
abbrev s_Machine_init : Stmt := inClass (top 4) 0
abbrev n_Machine_init : List Str := ["self", "states", "finals", "arcs"]
abbrev p_Machine_init : List Str := ["self", "states", "finals", "arcs"]
abbrev s_Machine_has_state : Stmt := inClass (top 4) 1
abbrev n_Machine_has_state : List Str := ["self", "number"]
abbrev p_Machine_has_state : List Str := ["self", "number"]
abbrev s_Machine_add_state : Stmt := inClass (top 4) 2
abbrev n_Machine_add_state : List Str := ["self"]
abbrev p_Machine_add_state : List Str := ["self"]
abbrev s_Machine_add_arc : Stmt := inClass (top 4) 3
abbrev n_Machine_add_arc : List Str := ["self", "arc"]
abbrev p_Machine_add_arc : List Str := ["self", "arc"]
abbrev s_Machine_set_final : Stmt := inClass (top 4) 4
abbrev n_Machine_set_final : List Str := ["self", "number", "is_final", "rest", "state"]
abbrev p_Machine_set_final : List Str := ["self", "number", "is_final"]
abbrev s_Machine_turn : Stmt := inClass (top 4) 5
abbrev n_Machine_turn : List Str := ["self", "start", "reads", "writes", "to"]
abbrev p_Machine_turn : List Str := ["self"]
abbrev s_moved : Stmt := top 6
abbrev n_moved : List Str := ["arcs", "by", "start", "reads", "writes", "to"]
abbrev p_moved : List Str := ["arcs", "by"]
abbrev s_is_too_great : Stmt := top 7
abbrev n_is_too_great : List Str := ["numbers"]
abbrev p_is_too_great : List Str := ["numbers"]
abbrev s_finished : Stmt := top 8
abbrev n_finished : List Str := ["machine", "numbers"]
abbrev p_finished : List Str := ["machine", "numbers"]
abbrev s_join_numbers : Stmt := top 9
abbrev n_join_numbers : List Str := ["a", "b"]
abbrev p_join_numbers : List Str := ["a", "b"]
abbrev s_follow_numbers : Stmt := top 11
abbrev n_follow_numbers : List Str := ["a", "b"]
abbrev p_follow_numbers : List Str := ["a", "b"]
abbrev s_again_numbers : Stmt := top 13
abbrev n_again_numbers : List Str := ["a"]
abbrev p_again_numbers : List Str := ["a"]
abbrev s_behind_numbers : Stmt := top 15
abbrev n_behind_numbers : List Str := ["a", "b", "arcs"]
abbrev p_behind_numbers : List Str := ["a", "b"]
abbrev s_behind_arcs : Stmt := top 16
abbrev n_behind_arcs : List Str := ["a", "b", "many", "found", "start", "reads", "writes", "to", "begin", "takes", "gives", "end", "k"]
abbrev p_behind_arcs : List Str := ["a", "b"]
abbrev s_Turning_note : Stmt := inClass (top 21) 1
abbrev n_Turning_note : List Str := ["self", "spot", "writes", "other"]
abbrev p_Turning_note : List Str := ["self", "spot", "writes", "other"]
abbrev s_Turning_spots : Stmt := inClass (top 21) 2
abbrev n_Turning_spots : List Str := ["self", "found", "at", "state"]
abbrev p_Turning_spots : List Str := ["self"]
abbrev s_Turning_is_end : Stmt := inClass (top 21) 3
abbrev n_Turning_is_end : List Str := ["self", "spot"]
abbrev p_Turning_is_end : List Str := ["self", "spot"]
abbrev s_Turning_closed : Stmt := inClass (top 21) 4
abbrev n_Turning_closed : List Str := ["self", "spots", "found", "waiting", "spot"]
abbrev p_Turning_closed : List Str := ["self", "spots"]
abbrev s_Turning_leads : Stmt := inClass (top 21) 9
abbrev n_Turning_leads : List Str := ["self", "spots", "known", "spot", "writes", "other"]
abbrev p_Turning_leads : List Str := ["self", "spots", "known"]
abbrev s_Turning_least_byte : Stmt := inClass (top 21) 10
abbrev n_Turning_least_byte : List Str := ["self", "spots", "known", "least", "found", "spot", "writes", "other"]
abbrev p_Turning_least_byte : List Str := ["self", "spots", "known", "least"]
abbrev s_come_to : Stmt := top 23
abbrev n_come_to : List Str := ["arcs", "states", "found", "state", "row", "waiting", "one", "begin", "end"]
abbrev p_come_to : List Str := ["arcs", "states"]
abbrev s_reached_spots : Stmt := top 25
abbrev n_reached_spots : List Str := ["turning", "found", "waiting", "spot", "writes", "other"]
abbrev p_reached_spots : List Str := ["turning"]
abbrev s_told : Stmt := top 32
abbrev n_told : List Str := ["number", "row", "text"]
abbrev p_told : List Str := ["number", "row", "text"]
abbrev s_is_written : Stmt := top 36
abbrev n_is_written : List Str := ["number"]
abbrev p_is_written : List Str := ["number"]
abbrev s_Desk_init : Stmt := inClass (top 37) 0
abbrev n_Desk_init : List Str := ["self"]
abbrev p_Desk_init : List Str := ["self"]
abbrev s_Desk_refusal : Stmt := inClass (top 37) 1
abbrev n_Desk_refusal : List Str := ["self", "places", "place"]
abbrev p_Desk_refusal : List Str := ["self", "places"]
abbrev s_Turning_init : Stmt := inClass (top 21) 0
abbrev n_Turning_init : List Str := ["self", "machine", "word", "at", "start", "reads", "writes", "to"]
abbrev p_Turning_init : List Str := ["self", "machine", "word"]
abbrev s_Turning_begin : Stmt := inClass (top 21) 5
abbrev n_Turning_begin : List Str := ["self"]
abbrev p_Turning_begin : List Str := ["self"]
abbrev s_Turning_step : Stmt := inClass (top 21) 6
abbrev n_Turning_step : List Str := ["self", "spots", "byte", "found", "spot", "writes", "other"]
abbrev p_Turning_step : List Str := ["self", "spots", "byte"]
abbrev s_Turning_has_end : Stmt := inClass (top 21) 7
abbrev n_Turning_has_end : List Str := ["self", "spots", "spot"]
abbrev p_Turning_has_end : List Str := ["self", "spots"]
abbrev s_circling_states : Stmt := top 24
abbrev n_circling_states : List Str := ["machine", "start", "reads", "writes", "to", "pairs", "reached", "found"]
abbrev p_circling_states : List Str := ["machine"]
abbrev s_leads_to_end : Stmt := top 26
abbrev n_leads_to_end : List Str := ["turning", "spot", "found", "waiting", "one", "writes", "other"]
abbrev p_leads_to_end : List Str := ["turning", "spot"]
abbrev s_told_word : Stmt := top 33
abbrev n_told_word : List Str := ["words"]
abbrev p_told_word : List Str := ["words"]
abbrev s_numbers_of_two : Stmt := top 34
abbrev n_numbers_of_two : List Str := ["word", "one", "other"]
abbrev p_numbers_of_two : List Str := ["word", "one", "other"]
abbrev s_Desk_state : Stmt := inClass (top 37) 3
abbrev n_Desk_state : List Str := ["self", "m", "machine"]
abbrev p_Desk_state : List Str := ["self", "m"]
abbrev s_Desk_final : Stmt := inClass (top 37) 4
abbrev n_Desk_final : List Str := ["self", "m", "number", "yes", "machine"]
abbrev p_Desk_final : List Str := ["self", "m", "number", "yes"]
abbrev s_Desk_arc : Stmt := inClass (top 37) 5
abbrev n_Desk_arc : List Str := ["self", "m", "arc", "machine", "start", "reads", "writes", "to"]
abbrev p_Desk_arc : List Str := ["self", "m", "arc"]
abbrev s_Desk_turn : Stmt := inClass (top 37) 6
abbrev n_Desk_turn : List Str := ["self", "m"]
abbrev p_Desk_turn : List Str := ["self", "m"]
abbrev s_Desk_size : Stmt := inClass (top 37) 7
abbrev n_Desk_size : List Str := ["self", "m", "machine"]
abbrev p_Desk_size : List Str := ["self", "m"]
abbrev s_new_net : Stmt := top 5
abbrev n_new_net : List Str := []
abbrev p_new_net : List Str := []
abbrev s_join : Stmt := top 10
abbrev n_join : List Str := ["a", "b", "first", "second", "arcs", "finals", "state"]
abbrev p_join : List Str := ["a", "b"]
abbrev s_follow : Stmt := top 12
abbrev n_follow : List Str := ["a", "b", "second", "arcs", "finals", "state"]
abbrev p_follow : List Str := ["a", "b"]
abbrev s_again : Stmt := top 14
abbrev n_again : List Str := ["a", "arcs", "state"]
abbrev p_again : List Str := ["a"]
abbrev s_behind : Stmt := top 17
abbrev n_behind : List Str := ["a", "b", "finals", "state", "other"]
abbrev p_behind : List Str := ["a", "b"]
abbrev s_keep : Stmt := top 18
abbrev n_keep : List Str := ["a", "arcs", "start", "reads", "writes", "to"]
abbrev p_keep : List Str := ["a"]
abbrev s_Turning_lengths : Stmt := inClass (top 21) 8
abbrev n_Turning_lengths : List Str := ["self", "closures", "spot", "rows", "many", "row"]
abbrev p_Turning_lengths : List Str := ["self"]
abbrev s_Answers_least_rest : Stmt := inClass (top 22) 1
abbrev n_Answers_least_rest : List Str := ["self", "spots", "many", "found", "left", "byte"]
abbrev p_Answers_least_rest : List Str := ["self", "spots", "many"]
abbrev s_Answers_spots_along : Stmt := inClass (top 22) 3
abbrev n_Answers_spots_along : List Str := ["self", "word", "found", "byte"]
abbrev p_Answers_spots_along : List Str := ["self", "word"]
abbrev s_Answers_init : Stmt := inClass (top 22) 0
abbrev n_Answers_init : List Str := ["self", "machine", "word"]
abbrev p_Answers_init : List Str := ["self", "machine", "word"]
abbrev s_Answers_first_from : Stmt := inClass (top 22) 2
abbrev n_Answers_first_from : List Str := ["self", "many", "length"]
abbrev p_Answers_first_from : List Str := ["self", "many"]
abbrev s_Answers_holds : Stmt := inClass (top 22) 5
abbrev n_Answers_holds : List Str := ["self", "word"]
abbrev p_Answers_holds : List Str := ["self", "word"]
abbrev s_is_endless : Stmt := top 27
abbrev n_is_endless : List Str := ["machine", "word", "turning", "circling", "spot"]
abbrev p_is_endless : List Str := ["machine", "word"]
abbrev s_made_of_two : Stmt := top 35
abbrev n_made_of_two : List Str := ["word", "one", "other"]
abbrev p_made_of_two : List Str := ["word", "one", "other"]
abbrev s_Desk_new : Stmt := inClass (top 37) 2
abbrev n_Desk_new : List Str := ["self", "m"]
abbrev p_Desk_new : List Str := ["self", "m"]
abbrev s_Desk_of_one : Stmt := inClass (top 37) 9
abbrev n_Desk_of_one : List Str := ["self", "is_again", "d", "a", "refusal"]
abbrev p_Desk_of_one : List Str := ["self", "is_again", "d", "a"]
abbrev s_Answers_next_after : Stmt := inClass (top 22) 4
abbrev n_Answers_next_after : List Str := ["self", "word", "spots", "k", "left", "byte", "rest"]
abbrev p_Answers_next_after : List Str := ["self", "word"]
abbrev s_Desk_of_two : Stmt := inClass (top 37) 8
abbrev n_Desk_of_two : List Str := ["self", "word", "d", "a", "b", "refusal", "one", "other"]
abbrev p_Desk_of_two : List Str := ["self", "word", "d", "a", "b"]
abbrev s_Desk_endless : Stmt := inClass (top 37) 13
abbrev n_Desk_endless : List Str := ["self", "m", "word"]
abbrev p_Desk_endless : List Str := ["self", "m", "word"]
abbrev s_Desk_next_word : Stmt := inClass (top 37) 10
abbrev n_Desk_next_word : List Str := ["self", "m", "word"]
abbrev p_Desk_next_word : List Str := ["self", "m", "word"]
abbrev s_Desk_later : Stmt := inClass (top 37) 11
abbrev n_Desk_later : List Str := ["self", "m", "word", "before"]
abbrev p_Desk_later : List Str := ["self", "m", "word", "before"]
abbrev s_Desk_holds : Stmt := inClass (top 37) 12
abbrev n_Desk_holds : List Str := ["self", "m", "word", "other"]
abbrev p_Desk_holds : List Str := ["self", "m", "word", "other"]
abbrev s_making : Stmt := top 43
abbrev n_making : List Str := ["desk", "word", "numbers"]
abbrev p_making : List Str := ["desk", "word", "numbers"]
abbrev s_of_words : Stmt := top 44
abbrev n_of_words : List Str := ["desk", "word", "m", "lists"]
abbrev p_of_words : List Str := ["desk", "word", "m", "lists"]
abbrev s_of_place : Stmt := top 45
abbrev n_of_place : List Str := ["desk", "word", "numbers", "lists", "refusal"]
abbrev p_of_place : List Str := ["desk", "word", "numbers", "lists"]
abbrev s_answers : Stmt := top 46
abbrev n_answers : List Str := ["calls", "desk", "found", "at", "word", "end", "numbers", "lists", "k", "begin", "got"]
abbrev p_answers : List Str := ["calls"]
end Tw

/-! # Plain words: machines of the program, notes, what is come to -/
namespace TW
structure PArc where
  src : Nat
  rd : Int
  wr : Int
  dst : Nat
deriving DecidableEq
structure PM where
  states : Nat
  finals : List Nat
  arcs : List PArc
  ts : Nat
  ta : Nat
  built : Bool
abbrev Spot := Nat × Nat
/-- a spot, what is written (-1: nothing), the other spot -/
abbrev Note := Spot × Int × Spot
structure PM.Ok (M : PM) : Prop where
  s1 : 1 ≤ M.states
  s2 : M.states ≤ 24
  ts : M.ts = M.states
  a1 : M.arcs.length ≤ M.ta
  a2 : M.ta ≤ 300
  nd : M.finals.Nodup
  fin : ∀ f ∈ M.finals, f < M.states
  src : ∀ a ∈ M.arcs, a.src < M.states
  dst : ∀ a ∈ M.arcs, a.dst < M.states
  rd : ∀ a ∈ M.arcs, -1 ≤ a.rd ∧ a.rd ≤ 255
  wr : ∀ a ∈ M.arcs, -1 ≤ a.wr ∧ a.wr ≤ 255
theorem nodup_bound : ∀ {n : Nat} {l : List Nat}, l.Nodup → (∀ x ∈ l, x < n) → l.length ≤ n
  | 0, l, _, h => by
    cases l with
    | nil => exact Nat.le_refl _
    | cons a r => exact absurd (h a (List.mem_cons_self ..)) (by omega)
  | n + 1, l, nd, h => by
    have h1 : (l.filter fun x => x != n).length ≤ n := nodup_bound (nd.filter _) fun x hx => by
      have := List.mem_filter.mp hx
      have h2 := h x this.1
      have h3 : x ≠ n := by simpa using this.2
      omega
    have h2 : l.length ≤ (l.filter fun x => x != n).length + 1 := by
      clear h h1
      induction l with
      | nil => simp
      | cons a r ih =>
        have nr := (List.nodup_cons.mp nd).2
        by_cases e : a = n
        · subst e
          have : r.filter (fun x => x != a) = r := List.filter_eq_self.mpr fun x hx => by
            have : x ≠ a := fun z => (List.nodup_cons.mp nd).1 (z ▸ hx)
            simpa using this
          simp [List.filter_cons, this]
        · have := ih nr
          simp [List.filter_cons, e]
          omega
    omega
theorem PM.Ok.fl {M : PM} (h : M.Ok) : M.finals.length ≤ 24 := Nat.le_trans (nodup_bound h.nd h.fin) h.s2
theorem PM.Ok.al {M : PM} (h : M.Ok) : M.arcs.length ≤ 300 := Nat.le_trans h.a1 h.a2

/-! ### making -/
def freshM : PM := ⟨1, [], [], 1, 0, false⟩
def PM.addState (M : PM) : PM := { M with states := M.states + 1, ts := M.ts + 1 }
def PM.addArc (M : PM) (a : PArc) : PM := { M with arcs := M.arcs ++ [a], ta := M.ta + 1 }
def setFin (l : List Nat) (k : Nat) (b : Bool) : List Nat := (l.filter fun s => s != k) ++ List.replicate (if b then 1 else 0) k
def PM.setFinal (M : PM) (k : Nat) (b : Bool) : PM := { M with finals := setFin M.finals k b }
def PArc.turn (a : PArc) : PArc := ⟨a.src, a.wr, a.rd, a.dst⟩
def PM.turn (M : PM) : PM := { M with arcs := M.arcs.map PArc.turn }
def PArc.shift (k : Nat) (a : PArc) : PArc := ⟨a.src + k, a.rd, a.wr, a.dst + k⟩
def jumpP (s t : Nat) : PArc := ⟨s, -1, -1, t⟩
def joinM (A B : PM) : PM := ⟨1 + A.states + B.states, A.finals.map (· + 1) ++ B.finals.map (· + (1 + A.states)), [jumpP 0 1, jumpP 0 (1 + A.states)] ++ A.arcs.map (PArc.shift 1) ++ B.arcs.map (PArc.shift (1 + A.states)), A.ts + B.ts + 1, A.ta + B.ta + 2, true⟩
def followM (A B : PM) : PM := ⟨A.states + B.states, B.finals.map (· + A.states), A.arcs ++ B.arcs.map (PArc.shift A.states) ++ A.finals.map (fun f => jumpP f A.states), A.ts + B.ts, A.ta + B.ta + A.ts, true⟩
def againM (A : PM) : PM := ⟨A.states + 1, [0], [jumpP 0 1] ++ A.arcs.map (PArc.shift 1) ++ A.finals.map (fun f => jumpP (f + 1) 0), A.ts + 1, A.ta + A.ts + 1, true⟩
def behindOne (B : PM) (a : PArc) : List PArc :=
  (if a.wr = -1 then (List.range B.states).map fun k => ⟨a.src * B.states + k, a.rd, -1, a.dst * B.states + k⟩ else []) ++
  (B.arcs.filter fun b => a.wr != -1 && b.rd == a.wr).map fun b => ⟨a.src * B.states + b.src, a.rd, b.wr, a.dst * B.states + b.dst⟩
def behindTwo (A B : PM) (b : PArc) : List PArc := if b.rd = -1 then (List.range A.states).map fun k => ⟨k * B.states + b.src, -1, b.wr, k * B.states + b.dst⟩ else []
def behindArcs (A B : PM) : List PArc := A.arcs.flatMap (behindOne B) ++ B.arcs.flatMap (behindTwo A B)
def behindM (A B : PM) : PM := ⟨A.states * B.states, A.finals.flatMap (fun f => B.finals.map fun g => f * B.states + g), behindArcs A B, A.ts * B.ts, A.ta * B.ta + A.ta * B.ts + A.ts * B.ta, true⟩
def PArc.keep (a : PArc) : PArc := ⟨a.src, a.rd, a.rd, a.dst⟩
def keepM (A : PM) : PM := ⟨A.states, A.finals, A.arcs.map PArc.keep, A.ts, A.ta, true⟩

/-! ### notes -/
def noteAt (x : List Int) (i : Nat) (a : PArc) : List Note :=
  if a.rd = -1 then [((i, a.src), a.wr, (i, a.dst))] else if x[i]? = some a.rd then [((i, a.src), a.wr, (i + 1, a.dst))] else []
def notes (M : PM) (x : List Int) : List Note := (List.range (x.length + 1)).flatMap fun i => M.arcs.flatMap (noteAt x i)
def sil (N : List Note) (s : Spot) : List Spot := (N.filter fun n => n.1 == s && n.2.1 == -1).map fun n => n.2.2
def wri (N : List Note) (s : Spot) : List (Int × Spot) := (N.filter fun n => n.1 == s && n.2.1 != -1).map fun n => (n.2.1, n.2.2)
theorem sil_app (N : List Note) (n : Note) (s : Spot) : sil (N ++ [n]) s = sil N s ++ if n.1 = s ∧ n.2.1 = -1 then [n.2.2] else [] := by
  unfold sil
  rw [List.filter_append, List.map_append]
  congr 1
  by_cases h : n.1 = s ∧ n.2.1 = -1
  · rw [if_pos h]; simp [h.1, h.2]
  · rw [if_neg h]; simp at h ⊢; intro a; exact h a
theorem wri_app (N : List Note) (n : Note) (s : Spot) : wri (N ++ [n]) s = wri N s ++ if n.1 = s ∧ n.2.1 ≠ -1 then [(n.2.1, n.2.2)] else [] := by
  unfold wri
  rw [List.filter_append, List.map_append]
  congr 1
  by_cases h : n.1 = s ∧ n.2.1 ≠ -1
  · rw [if_pos h]; simp [h.1, h.2]
  · rw [if_neg h]; simp at h ⊢; intro a; exact h a
theorem mem_sil {N : List Note} {s t : Spot} : t ∈ sil N s ↔ (s, -1, t) ∈ N := by
  unfold sil
  constructor
  · intro h
    obtain ⟨n, hn, e⟩ := List.mem_map.mp h
    obtain ⟨h1, h2⟩ := List.mem_filter.mp hn
    simp at h2
    obtain ⟨a, b, c⟩ := n
    simp at h2 e
    rw [← h2.1, ← h2.2, ← e]
    exact h1
  · intro h
    exact List.mem_map.mpr ⟨_, List.mem_filter.mpr ⟨h, by simp⟩, rfl⟩
theorem mem_wri {N : List Note} {s : Spot} {p : Int × Spot} : p ∈ wri N s ↔ (s, p.1, p.2) ∈ N ∧ p.1 ≠ -1 := by
  unfold wri
  constructor
  · intro h
    obtain ⟨n, hn, e⟩ := List.mem_map.mp h
    obtain ⟨h1, h2⟩ := List.mem_filter.mp hn
    simp at h2
    obtain ⟨a, b, c⟩ := n
    simp at h2
    rw [← e]
    refine ⟨?_, h2.2⟩
    rw [← h2.1]
    exact h1
  · rintro ⟨h, hp⟩
    exact List.mem_map.mpr ⟨_, List.mem_filter.mpr ⟨h, by simp [hp]⟩, rfl⟩
theorem noteAt_len (x : List Int) (i : Nat) (a : PArc) : (noteAt x i a).length ≤ 1 := by
  unfold noteAt
  split
  · simp
  · split <;> simp
theorem flat_len {α β : Type} {f : α → List β} {k : Nat} : ∀ {l : List α}, (∀ a ∈ l, (f a).length ≤ k) → (l.flatMap f).length ≤ l.length * k
  | [], _ => by simp
  | a :: r, h => by
    rw [List.flatMap_cons, List.length_append, List.length_cons, Nat.succ_mul]
    have h1 := h a (List.mem_cons_self ..)
    have h2 := flat_len (l := r) fun b hb => h b (List.mem_cons_of_mem _ hb)
    omega
theorem notes_len {M : PM} {x : List Int} (h : M.arcs.length ≤ 300) (hx : x.length ≤ 16) : (notes M x).length ≤ 5100 := by
  unfold notes
  have h1 : ((List.range (x.length + 1)).flatMap fun i => M.arcs.flatMap (noteAt x i)).length ≤ (List.range (x.length + 1)).length * 300 := flat_len fun i _ => by
    have := flat_len (f := noteAt x i) (k := 1) (l := M.arcs) fun a _ => noteAt_len x i a
    omega
  rw [List.length_range] at h1
  have : (x.length + 1) * 300 ≤ 17 * 300 := Nat.mul_le_mul_right _ (by omega)
  omega

/-! ### what is come to -/
inductive Star {α : Type} (adj : α → List α) : α → α → Prop
  | refl (a : α) : Star adj a a
  | snoc {a b c : α} : Star adj a b → c ∈ adj b → Star adj a c
theorem Star.trans {α : Type} {adj : α → List α} {a b c : α} (h : Star adj a b) (k : Star adj b c) : Star adj a c := by
  induction k with
  | refl => exact h
  | snoc _ m ih => exact .snoc ih m
theorem Star.one {α : Type} {adj : α → List α} {a b : α} (h : b ∈ adj a) : Star adj a b := .snoc (.refl a) h
theorem Star.head {α : Type} {adj : α → List α} {a b c : α} (h : b ∈ adj a) (k : Star adj b c) : Star adj a c := (Star.one h).trans k
theorem Star.cases_head {α : Type} {adj : α → List α} {a c : α} (h : Star adj a c) : a = c ∨ ∃ b, b ∈ adj a ∧ Star adj b c := by
  induction h with
  | refl => exact .inl rfl
  | snoc k m ih =>
    rcases ih with e | ⟨b, hb, r⟩
    · subst e
      exact .inr ⟨_, m, .refl _⟩
    · exact .inr ⟨b, hb, .snoc r m⟩
theorem Star.inv {α : Type} {adj : α → List α} {P : α → Prop} (hP : ∀ a b, P a → b ∈ adj a → P b) {a b : α} (h : Star adj a b) (ha : P a) : P b := by
  induction h with
  | refl => exact ha
  | snoc _ m ih => exact hP _ _ ih m

/-- a search: found so far, waiting still -/
structure Dfs {α : Type} (adj : α → List α) (l found waiting : List α) : Prop where
  nd : found.Nodup
  reach : ∀ s, s ∈ found ∨ s ∈ waiting → ∃ a ∈ l, Star adj a s
  all : ∀ a ∈ l, a ∈ found ∨ a ∈ waiting
  next : ∀ s ∈ found, ∀ t ∈ adj s, t ∈ found ∨ t ∈ waiting
section
variable {α : Type} {adj : α → List α} {l found waiting : List α}
theorem Dfs.start : Dfs adj l [] l := ⟨List.nodup_nil, fun s h => by
  rcases h with h | h
  · cases h
  · exact ⟨s, h, .refl s⟩, fun a h => .inr h, fun s h => by cases h⟩
theorem Dfs.old {s : α} (h : Dfs adj l found (waiting ++ [s])) (hs : s ∈ found) : Dfs adj l found waiting := by
  refine ⟨h.nd, fun t ht => h.reach t ?_, fun a ha => ?_, fun a ha t ht => ?_⟩
  · rcases ht with ht | ht
    · exact .inl ht
    · exact .inr (List.mem_append_left _ ht)
  · rcases h.all a ha with q | q
    · exact .inl q
    · rcases List.mem_append.mp q with q | q
      · exact .inr q
      · simp at q; subst q; exact .inl hs
  · rcases h.next a ha t ht with q | q
    · exact .inl q
    · rcases List.mem_append.mp q with q | q
      · exact .inr q
      · simp at q; subst q; exact .inl hs
theorem Dfs.new {s : α} (h : Dfs adj l found (waiting ++ [s])) (hs : s ∉ found) : Dfs adj l (found ++ [s]) (waiting ++ adj s) := by
  have hr : ∃ a ∈ l, Star adj a s := h.reach s (.inr (by simp))
  refine ⟨?_, fun t ht => ?_, fun a ha => ?_, fun a ha t ht => ?_⟩
  · rw [List.nodup_append]
    exact ⟨h.nd, by simp, fun a ha b hb => by simp at hb; subst hb; intro e; exact hs (e ▸ ha)⟩
  · rcases ht with ht | ht
    · rcases List.mem_append.mp ht with ht | ht
      · exact h.reach t (.inl ht)
      · simp at ht; subst ht; exact hr
    · rcases List.mem_append.mp ht with ht | ht
      · exact h.reach t (.inr (List.mem_append_left _ ht))
      · obtain ⟨a, ha, q⟩ := hr
        exact ⟨a, ha, .snoc q ht⟩
  · rcases h.all a ha with q | q
    · exact .inl (List.mem_append_left _ q)
    · rcases List.mem_append.mp q with q | q
      · exact .inr (List.mem_append_left _ q)
      · exact .inl (List.mem_append_right _ q)
  · rcases List.mem_append.mp ha with ha | ha
    · rcases h.next a ha t ht with q | q
      · exact .inl (List.mem_append_left _ q)
      · rcases List.mem_append.mp q with q | q
        · exact .inr (List.mem_append_left _ q)
        · exact .inl (List.mem_append_right _ q)
    · simp at ha; subst ha
      exact .inr (List.mem_append_right _ ht)
theorem Dfs.done (h : Dfs adj l found []) (s : α) : s ∈ found ↔ ∃ a ∈ l, Star adj a s := by
  refine ⟨fun hs => h.reach s (.inl hs), fun ⟨a, ha, q⟩ => ?_⟩
  have h0 : a ∈ found := by
    rcases h.all a ha with q | q
    · exact q
    · cases q
  exact q.inv (P := fun s => s ∈ found) (fun b c hb hc => by
    rcases h.next b hb c hc with q | q
    · exact q
    · cases q) h0
end
/-- how much some bring -/
def loadOf {α : Type} (adj : α → List α) (l : List α) : Nat := (l.map fun s => (adj s).length).sum
theorem load_snoc {α : Type} (adj : α → List α) (l : List α) (s : α) : loadOf adj (l ++ [s]) = loadOf adj l + (adj s).length := by
  unfold loadOf
  rw [List.map_append, List.sum_append]
  simp
theorem filt_sum {α β : Type} [DecidableEq α] (key : β → α) : ∀ (l : List α) (N : List β), l.Nodup → (l.map fun s => (N.filter fun n => decide (key n = s)).length).sum ≤ N.length
  | [], N, _ => by simp
  | a :: r, N, nd => by
    obtain ⟨h1, h2⟩ := List.nodup_cons.mp nd
    have ih := filt_sum key r (N.filter fun n => !decide (key n = a)) h2
    have e : (r.map fun s => (N.filter fun n => decide (key n = s)).length) = r.map fun s => ((N.filter fun n => !decide (key n = a)).filter fun n => decide (key n = s)).length := by
      apply List.map_congr_left
      intro s hs
      rw [List.filter_filter]
      congr 1
      apply List.filter_congr
      intro n _
      have hne : s ≠ a := fun z => h1 (z ▸ hs)
      by_cases q : key n = s
      · simp [q, hne]
      · simp [q]
    rw [List.map_cons, List.sum_cons, e]
    have h3 : (N.filter fun n => decide (key n = a)).length + (N.filter fun n => !decide (key n = a)).length = N.length := by
      clear ih e nd h1 h2
      induction N with
      | nil => rfl
      | cons b t ih =>
        by_cases q : key b = a
        · simp [List.filter_cons, q]; omega
        · simp [List.filter_cons, q]; omega
    omega
theorem load_bound {α β : Type} [DecidableEq α] (key : β → α) (N : List β) (adj : α → List α) (h : ∀ s, (adj s).length ≤ (N.filter fun n => decide (key n = s)).length) {l : List α} (nd : l.Nodup) : loadOf adj l ≤ N.length := by
  refine Nat.le_trans ?_ (filt_sum key l N nd)
  unfold loadOf
  clear nd
  induction l with
  | nil => simp
  | cons a r ih =>
    rw [List.map_cons, List.sum_cons, List.map_cons, List.sum_cons]
    have := h a
    omega
theorem sil_le (N : List Note) (s : Spot) : (sil N s).length ≤ (N.filter fun n => decide (n.1 = s)).length := by
  unfold sil
  rw [List.length_map]
  exact List.Sublist.length_le (by
    have e : (N.filter fun n => n.1 == s && n.2.1 == -1) = (N.filter fun n => decide (n.1 = s)).filter fun n => n.2.1 == -1 := by
      rw [List.filter_filter]
      apply List.filter_congr
      intro n _
      by_cases c : n.1 = s <;> simp [c]
    rw [e]
    exact List.filter_sublist)
theorem wri_le (N : List Note) (s : Spot) : (wri N s).length ≤ (N.filter fun n => decide (n.1 = s)).length := by
  unfold wri
  rw [List.length_map]
  exact List.Sublist.length_le (by
    have e : (N.filter fun n => n.1 == s && n.2.1 != -1) = (N.filter fun n => decide (n.1 = s)).filter fun n => n.2.1 != -1 := by
      rw [List.filter_filter]
      apply List.filter_congr
      intro n _
      by_cases c : n.1 = s <;> simp [c]
    rw [e]
    exact List.filter_sublist)
/-- both kinds -/
def both (N : List Note) (s : Spot) : List Spot := sil N s ++ (wri N s).map fun p => p.2
theorem both_le (N : List Note) (s : Spot) : (both N s).length ≤ (N.filter fun n => decide (n.1 = s)).length := by
  unfold both sil wri
  rw [List.length_append, List.length_map, List.length_map, List.length_map]
  induction N with
  | nil => simp
  | cons n r ih =>
    by_cases q : n.1 = s
    · by_cases z : n.2.1 = -1
      · simp [List.filter_cons, q, z] at ih ⊢; omega
      · simp [List.filter_cons, q, z] at ih ⊢; omega
    · simp [List.filter_cons, q] at ih ⊢; omega
/-- pairs of states -/
def nexts (l : List Spot) (s : Nat) : List Nat := (l.filter fun p => p.1 == s).map fun p => p.2
theorem nexts_le (l : List Spot) (s : Nat) : (nexts l s).length ≤ (l.filter fun p => decide (p.1 = s)).length := by
  unfold nexts
  rw [List.length_map]
  have e : (l.filter fun p => p.1 == s) = l.filter fun p => decide (p.1 = s) := List.filter_congr fun p _ => by by_cases c : p.1 = s <;> simp [c]
  rw [e]
  exact Nat.le_refl _

/-! ### sets of spots, words -/
def isEnd (M : PM) (x : List Int) (s : Spot) : Bool := s.1 == x.length && M.finals.contains s.2
def Able (N : List Note) (E : Spot → Bool) : Nat → Spot → Prop
  | 0, s => ∃ t, Star (sil N) s t ∧ E t = true
  | k + 1, s => ∃ t, Star (sil N) s t ∧ ∃ p ∈ wri N t, Able N E k p.2
def Begin (N : List Note) : Spot → Prop := fun u => Star (sil N) (0, 0) u
def StepS (N : List Note) (S : Spot → Prop) (b : Int) : Spot → Prop := fun u => ∃ s p, S s ∧ p ∈ wri N s ∧ p.1 = b ∧ Star (sil N) p.2 u
def Along (N : List Note) (y : List Int) : Spot → Prop := y.foldl (StepS N) (Begin N)
/-- b is the least, from low on, that leads from S to T -/
def LB (N : List Note) (S T : Spot → Prop) (low b : Int) : Prop := (∃ s p, S s ∧ p ∈ wri N s ∧ p.1 = b ∧ T p.2) ∧ low ≤ b ∧ ∀ s p, S s → p ∈ wri N s → T p.2 → low ≤ p.1 → b ≤ p.1
def NoB (N : List Note) (S T : Spot → Prop) (low : Int) : Prop := ∀ s p, S s → p ∈ wri N s → T p.2 → p.1 < low
inductive LeastW (N : List Note) (E : Spot → Bool) : (Spot → Prop) → Nat → List Int → Prop
  | nil (S : Spot → Prop) : LeastW N E S 0 []
  | cons {S : Spot → Prop} {k : Nat} {b : Int} {y : List Int} : LB N S (Able N E k) 0 b → LeastW N E (StepS N S b) k y → LeastW N E S (k + 1) (b :: y)
def NoLater (N : List Note) (E : Spot → Bool) : (Spot → Prop) → List Int → Prop
  | _, [] => True
  | S, c :: p => NoLater N E (StepS N S c) p ∧ NoB N S (Able N E p.length) (c + 1)
inductive LaterW (N : List Note) (E : Spot → Bool) : (Spot → Prop) → List Int → List Int → Prop
  | deep {S : Spot → Prop} {c : Int} {p y : List Int} : LaterW N E (StepS N S c) p y → LaterW N E S (c :: p) (c :: y)
  | here {S : Spot → Prop} {c d : Int} {p y : List Int} : NoLater N E (StepS N S c) p → LB N S (Able N E p.length) (c + 1) d → LeastW N E (StepS N S d) p.length y → LaterW N E S (c :: p) (d :: y)
/-- the answers of first_from and next_after -/
def FirstR (N : List Note) (E : Spot → Bool) (many : Nat) (ws : List (List Int)) : Prop :=
  (ws = [] ∧ ∀ k, many ≤ k → k ≤ 16 → ¬ Able N E k (0, 0)) ∨
  ∃ k y, ws = [y] ∧ many ≤ k ∧ k ≤ 16 ∧ Able N E k (0, 0) ∧ (∀ j, many ≤ j → j < k → ¬ Able N E j (0, 0)) ∧ LeastW N E (Begin N) k y
def NextR (N : List Note) (E : Spot → Bool) (p : List Int) (ws : List (List Int)) : Prop :=
  (∃ y, ws = [y] ∧ LaterW N E (Begin N) p y) ∨ (NoLater N E (Begin N) p ∧ FirstR N E (p.length + 1) ws)
def HoldsR (N : List Note) (E : Spot → Bool) (y : List Int) : Prop := ∃ s, Along N y s ∧ E s = true
/-- the pairs of arcs that read nothing -/
def stillPairs (M : PM) : List Spot := (M.arcs.filter fun a => a.rd == -1).map fun a => (a.src, a.dst)
def Circling (M : PM) (s : Nat) : Prop := ∃ a ∈ M.arcs, a.rd = -1 ∧ a.wr ≠ -1 ∧ a.src = s ∧ Star (nexts (stillPairs M)) a.dst s
def EndlessR (M : PM) (x : List Int) : Prop := ∃ s, Star (both (notes M x)) (0, 0) s ∧ Circling M s.2 ∧ ∃ t, Star (both (notes M x)) s t ∧ isEnd M x t = true
def allSpots (M : PM) (x : List Int) : List Spot := (List.range (x.length + 1)).flatMap fun i => (List.range M.states).map fun k => (i, k)
theorem LeastW.len {N : List Note} {E : Spot → Bool} {S : Spot → Prop} {k : Nat} {y : List Int} (h : LeastW N E S k y) : y.length = k := by
  induction h with
  | nil => rfl
  | cons _ _ ih => rw [List.length_cons, ih]
theorem LaterW.len {N : List Note} {E : Spot → Bool} {S : Spot → Prop} {p y : List Int} (h : LaterW N E S p y) : y.length = p.length := by
  induction h with
  | deep _ ih => rw [List.length_cons, List.length_cons, ih]
  | here _ _ q => rw [List.length_cons, List.length_cons, q.len]
theorem Along.snoc (N : List Note) (y : List Int) (b : Int) : Along N (y ++ [b]) = StepS N (Along N y) b := by
  unfold Along
  rw [List.foldl_append]
  rfl
/-- from further on -/
theorem later_from {N : List Note} {E : Spot → Bool} : ∀ (q : List Int) {S : Spot → Prop} {p z : List Int}, LaterW N E (q.foldl (StepS N) S) p z → LaterW N E S (q ++ p) (q ++ z)
  | [], _, _, _, h => h
  | _ :: q, _, _, _, h => .deep (later_from q h)
theorem mem_allSpots {M : PM} {x : List Int} {s : Spot} : s ∈ allSpots M x ↔ s.1 ≤ x.length ∧ s.2 < M.states := by
  unfold allSpots
  constructor
  · intro h
    obtain ⟨i, hi, h⟩ := List.mem_flatMap.mp h
    obtain ⟨k, hk, e⟩ := List.mem_map.mp h
    rw [← e]
    have := List.mem_range.mp hi
    have := List.mem_range.mp hk
    exact ⟨by show i ≤ x.length; omega, by assumption⟩
  · rintro ⟨h1, h2⟩
    exact List.mem_flatMap.mpr ⟨s.1, List.mem_range.mpr (by omega), List.mem_map.mpr ⟨s.2, List.mem_range.mpr h2, rfl⟩⟩
theorem nodup_flat {α β : Type} {f : α → List β} : ∀ {l : List α}, l.Nodup → (∀ a ∈ l, (f a).Nodup) → (∀ a ∈ l, ∀ b ∈ l, a ≠ b → ∀ z, z ∈ f a → z ∈ f b → False) → (l.flatMap f).Nodup
  | [], _, _, _ => List.nodup_nil
  | a :: r, nd, h1, h2 => by
    rw [List.flatMap_cons, List.nodup_append]
    obtain ⟨n1, n2⟩ := List.nodup_cons.mp nd
    refine ⟨h1 a (List.mem_cons_self ..), nodup_flat n2 (fun b hb => h1 b (List.mem_cons_of_mem _ hb)) (fun b hb c hc => h2 b (List.mem_cons_of_mem _ hb) c (List.mem_cons_of_mem _ hc)), fun z hz y hy e => ?_⟩
    obtain ⟨b, hb, hy⟩ := List.mem_flatMap.mp hy
    exact h2 a (List.mem_cons_self ..) b (List.mem_cons_of_mem _ hb) (fun q => n1 (q ▸ hb)) z hz (e ▸ hy)
theorem nodup_map {α β : Type} {f : α → β} (hf : ∀ a b, f a = f b → a = b) : ∀ {l : List α}, l.Nodup → (l.map f).Nodup
  | [], _ => List.nodup_nil
  | a :: r, nd => by
    obtain ⟨n1, n2⟩ := List.nodup_cons.mp nd
    rw [List.map_cons]
    refine List.nodup_cons.mpr ⟨fun h => ?_, nodup_map hf n2⟩
    obtain ⟨b, hb, e⟩ := List.mem_map.mp h
    exact n1 (hf _ _ e ▸ hb)
theorem nodup_allSpots (M : PM) (x : List Int) : (allSpots M x).Nodup := by
  unfold allSpots
  refine nodup_flat List.nodup_range (fun i _ => nodup_map (fun a b h => by injection h) List.nodup_range) fun i _ j _ hne z h1 h2 => ?_
  obtain ⟨_, _, e1⟩ := List.mem_map.mp h1
  obtain ⟨_, _, e2⟩ := List.mem_map.mp h2
  rw [← e2] at e1
  injection e1 with e1 _
  exact hne e1
theorem allSpots_len {M : PM} {x : List Int} (h : M.states ≤ 24) (hx : x.length ≤ 16) : (allSpots M x).length ≤ 408 := by
  unfold allSpots
  refine Nat.le_trans (flat_len (k := 24) fun a _ => by rw [List.length_map, List.length_range]; exact h) ?_
  rw [List.length_range]
  have : (x.length + 1) * 24 ≤ 17 * 24 := Nat.mul_le_mul_right _ (by omega)
  omega
theorem mem_notes {M : PM} {x : List Int} {n : Note} : n ∈ notes M x ↔ ∃ i, i ≤ x.length ∧ ∃ a ∈ M.arcs, n ∈ noteAt x i a := by
  unfold notes
  constructor
  · intro h
    obtain ⟨i, hi, h⟩ := List.mem_flatMap.mp h
    obtain ⟨a, ha, h⟩ := List.mem_flatMap.mp h
    exact ⟨i, by have := List.mem_range.mp hi; omega, a, ha, h⟩
  · rintro ⟨i, hi, a, ha, h⟩
    exact List.mem_flatMap.mpr ⟨i, List.mem_range.mpr (by omega), List.mem_flatMap.mpr ⟨a, ha, h⟩⟩
theorem mem_noteAt {x : List Int} {i : Nat} {a : PArc} {n : Note} : n ∈ noteAt x i a ↔ (a.rd = -1 ∧ n = ((i, a.src), a.wr, (i, a.dst))) ∨ (a.rd ≠ -1 ∧ x[i]? = some a.rd ∧ n = ((i, a.src), a.wr, (i + 1, a.dst))) := by
  unfold noteAt
  by_cases c : a.rd = -1
  · rw [if_pos c]; simp [c]
  · rw [if_neg c]
    by_cases d : x[i]? = some a.rd
    · rw [if_pos d]; simp [c, d]
    · rw [if_neg d]; simp [c, d]
theorem note_in {M : PM} {x : List Int} (ok : M.Ok) {n : Note} (h : n ∈ notes M x) : n.1 ∈ allSpots M x ∧ n.2.2 ∈ allSpots M x ∧ -1 ≤ n.2.1 ∧ n.2.1 ≤ 255 := by
  obtain ⟨i, hi, a, ha, h⟩ := mem_notes.mp h
  have h1 := ok.src a ha
  have h2 := ok.dst a ha
  have h3 := ok.wr a ha
  rcases mem_noteAt.mp h with ⟨_, e⟩ | ⟨_, q, e⟩
  · rw [e]
    exact ⟨mem_allSpots.mpr ⟨hi, h1⟩, mem_allSpots.mpr ⟨hi, h2⟩, h3⟩
  · rw [e]
    have := (List.getElem?_eq_some_iff.mp q).1
    exact ⟨mem_allSpots.mpr ⟨hi, h1⟩, mem_allSpots.mpr ⟨by show i + 1 ≤ x.length; omega, h2⟩, h3⟩
theorem end_in {M : PM} {x : List Int} (ok : M.Ok) {s : Spot} (h : isEnd M x s = true) : s ∈ allSpots M x := by
  unfold isEnd at h
  simp at h
  exact mem_allSpots.mpr ⟨Nat.le_of_eq h.1, ok.fin _ h.2⟩
theorem star_in {M : PM} {x : List Int} (ok : M.Ok) {s t : Spot} (h : Star (sil (notes M x)) s t) (ht : t ∈ allSpots M x) : s ∈ allSpots M x := by
  rcases h.cases_head with e | ⟨b, hb, _⟩
  · rw [e]; exact ht
  · exact (note_in ok (mem_sil.mp hb)).1
theorem able_in {M : PM} {x : List Int} (ok : M.Ok) {k : Nat} {s : Spot} (h : Able (notes M x) (isEnd M x) k s) : s ∈ allSpots M x := by
  cases k with
  | zero =>
    obtain ⟨t, h1, h2⟩ := h
    exact star_in ok h1 (end_in ok h2)
  | succ k =>
    obtain ⟨t, h1, p, hp, _⟩ := h
    exact star_in ok h1 (note_in ok (mem_wri.mp hp).1).1
end TW

/-! # How things lie in the heap; the promises -/
namespace Tw
open PySem PySem.Spec PyProof.Rows L2 Evl TW
abbrev iv (n : Nat) : V := .int (n : Int)
def keyOf (s : Spot) : List Key := [Sum.inl (s.1 : Int), Sum.inl (s.2 : Int)]
theorem keyOf_inj {s t : Spot} (h : keyOf s = keyOf t) : s = t := by
  unfold keyOf at h
  simp at h
  exact Prod.ext (by omega) (by omega)
/-- all tuples stand -/
def Tups (H H' : Hp) : Prop := ∀ b xs, H b = some (.tup xs) → H' b = some (.tup xs)
theorem Tups.refl (H : Hp) : Tups H H := fun _ _ h => h
theorem Tups.trans {H H1 H2 : Hp} (a : Tups H H1) (b : Tups H1 H2) : Tups H H2 := fun c xs h => b c xs (a c xs h)
theorem ex_tups {H H' : Hp} (e : Ex H H') : Tups H H' := fun b xs h => e b _ h
theorem tups_upd {H : Hp} {a : Addr} {o u : HO} (h : H a = some o) (hn : ∀ xs, o ≠ .tup xs) : Tups H (upd H a u) := fun b xs hb => by
  have : b ≠ a := fun z => by rw [z, h] at hb; exact hn xs (Option.some.inj hb)
  rw [upd_ne this]
  exact hb
theorem tups_new {H : Hp} {a : Addr} {u : HO} (h : H a = none) : Tups H (upd H a u) := ex_tups (Ex.new h)
/-- all but what stands at a -/
def Exc (a : Addr) (H H' : Hp) : Prop := ∀ b o, H b = some o → b ≠ a → H' b = some o
theorem Exc.of {a : Addr} {H H' : Hp} (e : Ex H H') : Exc a H H' := fun b o h _ => e b o h
theorem Exc.trans {a : Addr} {H H1 H2 : Hp} (x : Exc a H H1) (y : Exc a H1 H2) : Exc a H H2 := fun b o h n => y b o (x b o h n) n
theorem Exc.upd {a : Addr} {H : Hp} {o : HO} : Exc a H (upd H a o) := fun b u h n => by rw [upd_ne n]; exact h
/-- a tracked list of things of a kind -/
def ListOf {α : Type} (R : Hp → V → α → Prop) (H : Hp) (a : Addr) (l : List α) : Prop := ∃ vs, H a = some (.lst vs) ∧ Paired (R H) vs l
/-- a kind that stands as long as the tuples do -/
def Tm {α : Type} (R : Hp → V → α → Prop) : Prop := ∀ H H' v x, Tups H H' → R H v x → R H' v x
def SpotAt (H : Hp) (v : V) (s : Spot) : Prop := ∃ p, v = .ref p ∧ H p = some (.tup [iv s.1, iv s.2])
def ArcAt (H : Hp) (v : V) (c : PArc) : Prop := ∃ p, v = .ref p ∧ H p = some (.tup [iv c.src, .int c.rd, .int c.wr, iv c.dst])
def WrAt (H : Hp) (v : V) (x : Int × Spot) : Prop := ∃ p q, v = .ref p ∧ H p = some (.tup [.int x.1, .ref q]) ∧ H q = some (.tup [iv x.2.1, iv x.2.2])
theorem tm_spot : Tm SpotAt := fun _ _ _ _ t ⟨p, e, h⟩ => ⟨p, e, t _ _ h⟩
theorem tm_arc : Tm ArcAt := fun _ _ _ _ t ⟨p, e, h⟩ => ⟨p, e, t _ _ h⟩
theorem tm_wr : Tm WrAt := fun _ _ _ _ t ⟨p, q, e, h, k⟩ => ⟨p, q, e, t _ _ h, t _ _ k⟩
section
variable {α : Type} {R : Hp → V → α → Prop} {H H' : Hp} {a : Addr} {l : List α}
theorem pm {R : Hp → V → α → Prop} (m : Tm R) (t : Tups H H') {vs : List V} (h : Paired (R H) vs l) : Paired (R H') vs l := Paired.mapP h fun _ _ z => m _ _ _ _ t z
theorem ListOf.ex (h : ListOf R H a l) (m : Tm R) (e : Ex H H') : ListOf R H' a l := let ⟨vs, h1, h2⟩ := h; ⟨vs, e _ _ h1, pm m (ex_tups e) h2⟩
theorem ListOf.keep (h : ListOf R H a l) (m : Tm R) (t : Tups H H') (e : ∀ o, H a = some o → H' a = some o) : ListOf R H' a l := let ⟨vs, h1, h2⟩ := h; ⟨vs, e _ h1, pm m t h2⟩
theorem paired_at {β : Type} {F : β → α → Prop} : ∀ {l₁ : List β} {l₂ : List α} {i : Nat} {x : β}, Paired F l₁ l₂ → l₁[i]? = some x → ∃ y, l₂[i]? = some y ∧ F x y
  | _, _, _, _, .nil, e => by simp at e
  | _, _, 0, _, .cons r _, e => by simp at e; subst e; exact ⟨_, rfl, r⟩
  | _, _, i + 1, x, .cons _ t, e => by
    obtain ⟨u, h1, h2⟩ := paired_at (i := i) (x := x) t (by simpa using e)
    exact ⟨u, by simpa using h1, h2⟩
theorem paired_app {β : Type} {F : β → α → Prop} : ∀ {l₁ l₂ : List β} {m₁ m₂ : List α}, Paired F l₁ m₁ → Paired F l₂ m₂ → Paired F (l₁ ++ l₂) (m₁ ++ m₂)
  | _, _, _, _, .nil, s => s
  | _, _, _, _, .cons r t, s => .cons r (paired_app t s)
theorem ListOf.len {vs : List V} (h : Paired (R H) vs l) : vs.length = l.length := Paired.length h
end
abbrev SpotL := ListOf SpotAt
abbrev ArcL := ListOf ArcAt
abbrev WrL := ListOf WrAt
/-- a set of spots, as a new list -/
def SpotSet (H : Hp) (p : Addr) (S : Spot → Prop) : Prop := ∃ c, SpotL H p c ∧ c.Nodup ∧ c.length ≤ 12000 ∧ ∀ s, s ∈ c ↔ S s
/-- a set of spots, of numbers, as a dict's keys -/
def keysT (l : List Spot) : List (List Key × V) := l.map fun s => (keyOf s, .bl true)
def keysK (l : List Nat) : List (Key × V) := l.map fun (j : Nat) => (Sum.inl (j : Int), V.bl true)
def KnownD (H : Hp) (d : Addr) (T : Spot → Prop) : Prop := ∃ l, H d = some (.dT (keysT l)) ∧ l.length ≤ 12000 ∧ ∀ s, s ∈ l ↔ T s
def NatD (H : Hp) (d : Addr) (T : Nat → Prop) : Prop := ∃ l, H d = some (.dK (keysK l)) ∧ ∀ s, s ∈ l ↔ T s
def IntL (H : Hp) (a : Addr) (l : List Int) : Prop := H a = some (.lst (l.map V.int))
/-- a machine -/
def mF (st : Int) (f r : Addr) (ts ta : Int) (b : Bool) : List (Str × V) := [("states", .int st), ("finals", .ref f), ("arcs", .ref r), ("told_states", .int ts), ("told_arcs", .int ta), ("is_built", .bl b)]
def MachAt (G : Gs) (H : Hp) (a : Addr) (M : PM) : Prop := ∃ dx f r, H a = some (.ins G.cM dx (mF M.states f r M.ts M.ta M.built)) ∧ H f = some (.lst (M.finals.map iv)) ∧ ArcL H r M.arcs
theorem MachAt.ex {G : Gs} {H H' : Hp} {a : Addr} {M : PM} (h : MachAt G H a M) (e : Ex H H') : MachAt G H' a M := let ⟨dx, f, r, h1, h2, h3⟩ := h; ⟨dx, f, r, e _ _ h1, e _ _ h2, h3.ex tm_arc e⟩
/-- a machine whose lists H did not know; whose lists are not z -/
def MachNew (G : Gs) (H H' : Hp) (a : Addr) (M : PM) : Prop := ∃ dx f r, H' a = some (.ins G.cM dx (mF M.states f r M.ts M.ta M.built)) ∧ H' f = some (.lst (M.finals.map iv)) ∧ ArcL H' r M.arcs ∧ H f = none ∧ H r = none
def MachZ (G : Gs) (H : Hp) (a : Addr) (M : PM) (z : Addr) : Prop := ∃ dx f r, H a = some (.ins G.cM dx (mF M.states f r M.ts M.ta M.built)) ∧ H f = some (.lst (M.finals.map iv)) ∧ ArcL H r M.arcs ∧ f ≠ z ∧ r ≠ z
theorem MachNew.at {G : Gs} {H H' : Hp} {a : Addr} {M : PM} (h : MachNew G H H' a M) : MachAt G H' a M := let ⟨dx, f, r, h1, h2, h3, _⟩ := h; ⟨dx, f, r, h1, h2, h3⟩
theorem MachNew.back {G : Gs} {H H1 H' : Hp} {a : Addr} {M : PM} (h : MachNew G H1 H' a M) (e : Ex H H1) : MachNew G H H' a M := let ⟨dx, f, r, h1, h2, h3, h4, h5⟩ := h; ⟨dx, f, r, h1, h2, h3, fresh_back e h4, fresh_back e h5⟩
theorem MachNew.z {G : Gs} {H H' : Hp} {a z : Addr} {M : PM} {o : HO} (h : MachNew G H H' a M) (hz : H z = some o) : MachZ G H' a M z := let ⟨dx, f, r, h1, h2, h3, h4, h5⟩ := h; ⟨dx, f, r, h1, h2, h3, (ne_of_none hz h4).symm, (ne_of_none hz h5).symm⟩
theorem MachZ.at {G : Gs} {H : Hp} {a z : Addr} {M : PM} (h : MachZ G H a M z) : MachAt G H a M := let ⟨dx, f, r, h1, h2, h3, _⟩ := h; ⟨dx, f, r, h1, h2, h3⟩
theorem MachZ.ex {G : Gs} {H H' : Hp} {a z : Addr} {M : PM} (h : MachZ G H a M z) (e : Ex H H') : MachZ G H' a M z := let ⟨dx, f, r, h1, h2, h3, h4⟩ := h; ⟨dx, f, r, e _ _ h1, e _ _ h2, h3.ex tm_arc e, h4⟩
/-- the list of places; a list that is not the desk's -/
structure Lz where
  l : Addr
  z : Addr
/-- a turning -/
def tF (m w ds dw : Addr) : List (Str × V) := [("machine", .ref m), ("word", .ref w), ("silent", .ref ds), ("writing", .ref dw)]
def SilOk (H : Hp) (d : Addr) (N : List Note) : Prop := ∃ kvs, H d = some (.dT kvs) ∧ ∀ s, (valV kvs (keyOf s) = none ∧ sil N s = []) ∨ ∃ l, valV kvs (keyOf s) = some (.ref l) ∧ SpotL H l (sil N s)
def WriOk (H : Hp) (d : Addr) (N : List Note) : Prop := ∃ kvs, H d = some (.dT kvs) ∧ ∀ s, (valV kvs (keyOf s) = none ∧ wri N s = []) ∨ ∃ l, valV kvs (keyOf s) = some (.ref l) ∧ WrL H l (wri N s)
def TurnAt (G : Gs) (H : Hp) (t : Addr) (M : PM) (x : List Int) : Prop := M.Ok ∧ x.length ≤ 16 ∧ ∃ dx m w ds dw, H t = some (.ins G.cT dx (tF m w ds dw)) ∧ MachAt G H m M ∧ IntL H w x ∧ SilOk H ds (notes M x) ∧ WriOk H dw (notes M x)
theorem SilOk.ex {H H' : Hp} {d : Addr} {N : List Note} (h : SilOk H d N) (e : Ex H H') : SilOk H' d N := let ⟨k, h1, h2⟩ := h; ⟨k, e _ _ h1, fun s => (h2 s).elim .inl fun ⟨l, a, b⟩ => .inr ⟨l, a, b.ex tm_spot e⟩⟩
theorem WriOk.ex {H H' : Hp} {d : Addr} {N : List Note} (h : WriOk H d N) (e : Ex H H') : WriOk H' d N := let ⟨k, h1, h2⟩ := h; ⟨k, e _ _ h1, fun s => (h2 s).elim .inl fun ⟨l, a, b⟩ => .inr ⟨l, a, b.ex tm_wr e⟩⟩
theorem TurnAt.ex {G : Gs} {H H' : Hp} {t : Addr} {M : PM} {x : List Int} (h : TurnAt G H t M x) (e : Ex H H') : TurnAt G H' t M x :=
  let ⟨o, z, dx, m, w, ds, dw, h1, h2, h3, h4, h5⟩ := h; ⟨o, z, dx, m, w, ds, dw, e _ _ h1, h2.ex e, e _ _ h3, h4.ex e, h5.ex e⟩
theorem SpotSet.ex {H H' : Hp} {p : Addr} {S : Spot → Prop} (h : SpotSet H p S) (e : Ex H H') : SpotSet H' p S := let ⟨c, h1, h2⟩ := h; ⟨c, h1.ex tm_spot e, h2⟩
theorem KnownD.ex {H H' : Hp} {p : Addr} {S : Spot → Prop} (h : KnownD H p S) (e : Ex H H') : KnownD H' p S := let ⟨c, h1, h2⟩ := h; ⟨c, e _ _ h1, h2⟩
theorem NatD.ex {H H' : Hp} {p : Addr} {S : Nat → Prop} (h : NatD H p S) (e : Ex H H') : NatD H' p S := let ⟨c, h1, h2⟩ := h; ⟨c, e _ _ h1, h2⟩
/-- while it is being built, from H0 on; what it holds H0 does not know -/
structure Built (H0 H : Hp) (ds dw : Addr) (kS kW : List (List Key × V)) (N : List Note) : Prop where
  ex : Ex H0 H
  nS : H0 ds = none
  nW : H0 dw = none
  ne : ds ≠ dw
  hS : H ds = some (.dT kS)
  hW : H dw = some (.dT kW)
  lS : kS.length ≤ N.length
  lW : kW.length ≤ N.length
  vS : ∀ s, (valV kS (keyOf s) = none ∧ sil N s = []) ∨ ∃ l, valV kS (keyOf s) = some (.ref l) ∧ H0 l = none ∧ SpotL H l (sil N s)
  vW : ∀ s, (valV kW (keyOf s) = none ∧ wri N s = []) ∨ ∃ l, valV kW (keyOf s) = some (.ref l) ∧ H0 l = none ∧ WrL H l (wri N s)
  dS : ∀ s s' l, valV kS (keyOf s) = some (.ref l) → valV kS (keyOf s') = some (.ref l) → s = s'
  dW : ∀ s s' l, valV kW (keyOf s) = some (.ref l) → valV kW (keyOf s') = some (.ref l) → s = s'
  dSW : ∀ s s' l, valV kS (keyOf s) = some (.ref l) → valV kW (keyOf s') = some (.ref l) → False
/-- rows of places able -/
def RowsAt (H : Hp) (r : Addr) (M : PM) (x : List Int) : Prop := ∃ vs, H r = some (.lst vs) ∧ vs.length = 17 ∧ ∀ k v, vs[k]? = some v → ∃ d, v = .ref d ∧ KnownD H d (Able (notes M x) (isEnd M x) k)
def AnsAt (G : Gs) (H : Hp) (a : Addr) (M : PM) (x : List Int) : Prop := ∃ dx t r, H a = some (.ins G.cA dx [("turning", .ref t), ("rows", .ref r)]) ∧ TurnAt G H t M x ∧ RowsAt H r M x
theorem RowsAt.ex {H H' : Hp} {r : Addr} {M : PM} {x : List Int} (h : RowsAt H r M x) (e : Ex H H') : RowsAt H' r M x := let ⟨vs, h1, h2, h3⟩ := h; ⟨vs, e _ _ h1, h2, fun k v q => let ⟨d, e1, q⟩ := h3 k v q; ⟨d, e1, q.ex e⟩⟩
theorem AnsAt.ex {G : Gs} {H H' : Hp} {a : Addr} {M : PM} {x : List Int} (h : AnsAt G H a M x) (e : Ex H H') : AnsAt G H' a M x := let ⟨dx, t, r, h1, h2, h3⟩ := h; ⟨dx, t, r, e _ _ h1, h2.ex e, h3.ex e⟩
def WordAt (H : Hp) (v : V) (y : List Int) : Prop := ∃ q, v = .ref q ∧ IntL H q y
def WordsAt (H : Hp) (p : Addr) (ws : List (List Int)) : Prop := ListOf WordAt H p ws
theorem WordsAt.ex {H H' : Hp} {p : Addr} {ws : List (List Int)} (h : WordsAt H p ws) (e : Ex H H') : WordsAt H' p ws := let ⟨vs, h1, h2⟩ := h; ⟨vs, e _ _ h1, Paired.mapP h2 fun _ _ ⟨q, z, k⟩ => ⟨q, z, e _ _ k⟩⟩
def AlongAt (H : Hp) (p : Addr) (N : List Note) (y : List Int) : Prop := ∃ vs, H p = some (.lst vs) ∧ vs.length = y.length + 1 ∧ ∀ k v, vs[k]? = some v → ∃ q, v = .ref q ∧ SpotSet H q (Along N (y.take k))
theorem AlongAt.ex {H H' : Hp} {p : Addr} {N : List Note} {y : List Int} (h : AlongAt H p N y) (e : Ex H H') : AlongAt H' p N y := let ⟨vs, h1, h2, h3⟩ := h; ⟨vs, e _ _ h1, h2, fun k v q => let ⟨d, e1, q⟩ := h3 k v q; ⟨d, e1, q.ex e⟩⟩
def ReachAt (H : Hp) (d : Addr) (n : Nat) (l : List Spot) : Prop := ∃ kvs, H d = some (.dK kvs) ∧ ∀ i, i < n → ∃ r, valV kvs (Sum.inl (i : Int)) = some (.ref r) ∧ NatD H r (Star (nexts l) i)

/-! ### promises -/
def sp_Machine_init (G : Gs) : Sp := fun vs H Q _ => ∃ p dx st f r rs, vs = [.ref p, .int st, .ref f, .ref r] ∧ H p = some (.ins G.cM dx []) ∧ H r = some (.lst rs) ∧ Q .non (upd H p (.ins G.cM dx (mF st f r st rs.length false)))
def sp_Machine_has_state (G : Gs) : Sp := fun vs H Q _ => ∃ a n dx st f r ts ta b, vs = [.ref a, .int n] ∧ H a = some (.ins G.cM dx (mF st f r ts ta b)) ∧ Q (.bl (decide (n < st))) H
def sp_Machine_add_state (G : Gs) : Sp := fun vs H Q _ => ∃ a dx st f r ts ta b, vs = [.ref a] ∧ H a = some (.ins G.cM dx (mF st f r ts ta b)) ∧ Q (.int st) (upd H a (.ins G.cM dx (mF (st + 1) f r (ts + 1) ta b)))
def sp_Machine_add_arc (G : Gs) : Sp := fun vs H Q _ => ∃ a v dx st f r ts ta b rs, vs = [.ref a, v] ∧ H a = some (.ins G.cM dx (mF st f r ts ta b)) ∧ H r = some (.lst rs) ∧ rs.length ≤ 1000 ∧
  ∀ H' p, H p = none → Exc a H H' → H' p = some (.lst (rs ++ [v])) → H' a = some (.ins G.cM dx (mF st f p ts (ta + 1) b)) → Q .non H'
def sp_Machine_set_final (G : Gs) : Sp := fun vs H Q _ => ∃ a k y dx st f r ts ta b fs, vs = [.ref a, iv k, .bl y] ∧ H a = some (.ins G.cM dx (mF st f r ts ta b)) ∧ H f = some (.lst (fs.map iv)) ∧ fs.length ≤ 1000 ∧
  ∀ H' p, H p = none → Exc a H H' → H' p = some (.lst ((setFin fs k y).map iv)) → H' a = some (.ins G.cM dx (mF st p r ts ta b)) → Q .non H'
def sp_Machine_turn (G : Gs) : Sp := fun vs H Q _ => ∃ a dx st f r ts ta b l, vs = [.ref a] ∧ H a = some (.ins G.cM dx (mF st f r ts ta b)) ∧ ArcL H r l ∧ l.length ≤ 1000 ∧
  ∀ H' p, H p = none → Exc a H H' → ArcL H' p (l.map PArc.turn) → H' a = some (.ins G.cM dx (mF st f p ts ta b)) → Q .non H'
def sp_new_net (G : Gs) : Sp := fun vs H Q _ => vs = [] ∧ ∀ H' a, Ex H H' → H a = none → MachNew G H H' a freshM → Q (.ref a) H'
def sp_moved (G : Gs) : Sp := fun vs H Q _ => ∃ r k l, vs = [.ref r, iv k] ∧ ArcL H r l ∧ l.length ≤ 1000 ∧ ∀ H' p, Ex H H' → H p = none → ArcL H' p (l.map (PArc.shift k)) → Q (.ref p) H'
def sp_is_too_great (G : Gs) : Sp := fun vs H Q _ => ∃ p x y, vs = [.ref p] ∧ H p = some (.lst [.int x, .int y]) ∧ Q (.bl (decide (24 < x) || decide (300 < y))) H
def sp_finished (G : Gs) : Sp := fun vs H Q _ => ∃ a p dx st f r ts ta b x y, vs = [.ref a, .ref p] ∧ H a = some (.ins G.cM dx (mF st f r ts ta b)) ∧ H p = some (.lst [.int x, .int y]) ∧ Q (.ref a) (upd H a (.ins G.cM dx (mF st f r x y true)))
/-- two numbers of two machines, of one -/
def spNum2 (G : Gs) (n1 n2 : PM → PM → Nat) : Sp := fun vs H Q _ => ∃ a b A B, vs = [.ref a, .ref b] ∧ MachAt G H a A ∧ MachAt G H b B ∧ A.Ok ∧ B.Ok ∧ ∀ H' p, Ex H H' → H p = none → H' p = some (.lst [iv (n1 A B), iv (n2 A B)]) → Q (.ref p) H'
def spMade2 (G : Gs) (mk : PM → PM → PM) : Sp := fun vs H Q _ => ∃ a b A B, vs = [.ref a, .ref b] ∧ MachAt G H a A ∧ MachAt G H b B ∧ A.Ok ∧ B.Ok ∧ ∀ H' c, Ex H H' → H c = none → MachNew G H H' c (mk A B) → Q (.ref c) H'
def spMade1 (G : Gs) (mk : PM → PM) : Sp := fun vs H Q _ => ∃ a A, vs = [.ref a] ∧ MachAt G H a A ∧ A.Ok ∧ ∀ H' c, Ex H H' → H c = none → MachNew G H H' c (mk A) → Q (.ref c) H'
def sp_join_numbers (G : Gs) : Sp := spNum2 G (fun A B => A.ts + B.ts + 1) (fun A B => A.ta + B.ta + 2)
def sp_follow_numbers (G : Gs) : Sp := spNum2 G (fun A B => A.ts + B.ts) (fun A B => A.ta + B.ta + A.ts)
def sp_behind_numbers (G : Gs) : Sp := spNum2 G (fun A B => A.ts * B.ts) (fun A B => A.ta * B.ta + A.ta * B.ts + A.ts * B.ta)
def sp_again_numbers (G : Gs) : Sp := fun vs H Q _ => ∃ a A, vs = [.ref a] ∧ MachAt G H a A ∧ ∀ H' p, Ex H H' → H p = none → H' p = some (.lst [iv (A.ts + 1), iv (A.ta + A.ts + 1)]) → Q (.ref p) H'
def sp_join (G : Gs) : Sp := spMade2 G joinM
def sp_follow (G : Gs) : Sp := spMade2 G followM
def sp_behind (G : Gs) : Sp := spMade2 G behindM
def sp_again (G : Gs) : Sp := spMade1 G againM
def sp_keep (G : Gs) : Sp := spMade1 G keepM
def sp_behind_arcs (G : Gs) : Sp := fun vs H Q _ => ∃ a b A B, vs = [.ref a, .ref b] ∧ MachAt G H a A ∧ MachAt G H b B ∧ A.Ok ∧ B.Ok ∧ ∀ H' p, Ex H H' → H p = none → ArcL H' p (behindArcs A B) → Q (.ref p) H'
def sp_Turning_init (G : Gs) : Sp := fun vs H Q _ => ∃ t dx m w M x, vs = [.ref t, .ref m, .ref w] ∧ H t = some (.ins G.cT dx []) ∧ MachAt G H m M ∧ IntL H w x ∧ M.Ok ∧ x.length ≤ 16 ∧ ∀ H', Exc t H H' → TurnAt G H' t M x → Q .non H'
def sp_Turning_note (G : Gs) : Sp := fun vs H Q _ => ∃ t v1 wr v2 dx m w ds dw kS kW N s o H0, vs = [.ref t, v1, .int wr, v2] ∧ H0 t = some (.ins G.cT dx (tF m w ds dw)) ∧ Built H0 H ds dw kS kW N ∧ SpotAt H v1 s ∧ SpotAt H v2 o ∧ N.length ≤ 6000 ∧
  ∀ H' kS' kW', Built H0 H' ds dw kS' kW' (N ++ [(s, wr, o)]) → Q .non H'
def sp_Turning_spots (G : Gs) : Sp := fun vs H Q _ => ∃ t M x, vs = [.ref t] ∧ TurnAt G H t M x ∧ ∀ H' p, Ex H H' → H p = none → SpotL H' p (allSpots M x) → Q (.ref p) H'
def sp_Turning_is_end (G : Gs) : Sp := fun vs H Q _ => ∃ t v M x s, vs = [.ref t, v] ∧ TurnAt G H t M x ∧ SpotAt H v s ∧ Q (.bl (isEnd M x s)) H
def sp_Turning_closed (G : Gs) : Sp := fun vs H Q _ => ∃ t a M x l, vs = [.ref t, .ref a] ∧ TurnAt G H t M x ∧ SpotL H a l ∧ l.length ≤ 6000 ∧ ∀ H' p, Ex H H' → H p = none → SpotSet H' p (fun s => ∃ b ∈ l, Star (sil (notes M x)) b s) → Q (.ref p) H'
def sp_Turning_begin (G : Gs) : Sp := fun vs H Q _ => ∃ t M x, vs = [.ref t] ∧ TurnAt G H t M x ∧ ∀ H' p, Ex H H' → H p = none → SpotSet H' p (Begin (notes M x)) → Q (.ref p) H'
def sp_Turning_step (G : Gs) : Sp := fun vs H Q _ => ∃ t a b M x S, vs = [.ref t, .ref a, .int b] ∧ TurnAt G H t M x ∧ SpotSet H a S ∧ ∀ H' p, Ex H H' → H p = none → SpotSet H' p (StepS (notes M x) S b) → Q (.ref p) H'
def sp_Turning_has_end (G : Gs) : Sp := fun vs H Q _ => ∃ t a M x S, vs = [.ref t, .ref a] ∧ TurnAt G H t M x ∧ SpotSet H a S ∧ ∀ H' b, Ex H H' → (b = true ↔ ∃ s, S s ∧ isEnd M x s = true) → Q (.bl b) H'
def sp_Turning_lengths (G : Gs) : Sp := fun vs H Q _ => ∃ t M x, vs = [.ref t] ∧ TurnAt G H t M x ∧ ∀ H' r, Ex H H' → H r = none → RowsAt H' r M x → Q (.ref r) H'
def sp_Turning_leads (G : Gs) : Sp := fun vs H Q _ => ∃ t a d M x S U, vs = [.ref t, .ref a, .ref d] ∧ TurnAt G H t M x ∧ SpotSet H a S ∧ KnownD H d U ∧ ∀ H' b, Ex H H' → (b = true ↔ ∃ s p, S s ∧ p ∈ wri (notes M x) s ∧ U p.2) → Q (.bl b) H'
def sp_Turning_least_byte (G : Gs) : Sp := fun vs H Q _ => ∃ t a d low M x S U, vs = [.ref t, .ref a, .ref d, .int low] ∧ TurnAt G H t M x ∧ SpotSet H a S ∧ KnownD H d U ∧
  ∀ H' z, Ex H H' → ((z = -1 ∧ NoB (notes M x) S U low) ∨ LB (notes M x) S U low z) → Q (.int z) H'
def sp_Answers_init (G : Gs) : Sp := fun vs H Q _ => ∃ a dx m w M x, vs = [.ref a, .ref m, .ref w] ∧ H a = some (.ins G.cA dx []) ∧ MachAt G H m M ∧ IntL H w x ∧ M.Ok ∧ x.length ≤ 16 ∧ ∀ H', Exc a H H' → AnsAt G H' a M x → Q .non H'
def sp_Answers_least_rest (G : Gs) : Sp := fun vs H Q _ => ∃ a c k M x S, vs = [.ref a, .ref c, iv k] ∧ AnsAt G H a M x ∧ SpotSet H c S ∧ (∀ s u, S s → Star (sil (notes M x)) s u → S u) ∧ k ≤ 16 ∧
  (∀ j, k = j + 1 → ∃ s p, S s ∧ p ∈ wri (notes M x) s ∧ Able (notes M x) (isEnd M x) j p.2) ∧ ∀ H' p y, Ex H H' → H p = none → IntL H' p y → LeastW (notes M x) (isEnd M x) S k y → Q (.ref p) H'
def sp_Answers_first_from (G : Gs) : Sp := fun vs H Q _ => ∃ a many M x, vs = [.ref a, iv many] ∧ AnsAt G H a M x ∧ many ≤ 17 ∧ ∀ H' p ws, Ex H H' → H p = none → WordsAt H' p ws → FirstR (notes M x) (isEnd M x) many ws → Q (.ref p) H'
def sp_Answers_spots_along (G : Gs) : Sp := fun vs H Q _ => ∃ a w M x y, vs = [.ref a, .ref w] ∧ AnsAt G H a M x ∧ IntL H w y ∧ y.length ≤ 16 ∧ ∀ H' p, Ex H H' → H p = none → AlongAt H' p (notes M x) y → Q (.ref p) H'
def sp_Answers_next_after (G : Gs) : Sp := fun vs H Q _ => ∃ a w M x y, vs = [.ref a, .ref w] ∧ AnsAt G H a M x ∧ IntL H w y ∧ y.length ≤ 16 ∧ ∀ H' p ws, Ex H H' → H p = none → WordsAt H' p ws → NextR (notes M x) (isEnd M x) y ws → Q (.ref p) H'
def sp_Answers_holds (G : Gs) : Sp := fun vs H Q _ => ∃ a w M x y, vs = [.ref a, .ref w] ∧ AnsAt G H a M x ∧ IntL H w y ∧ y.length ≤ 16 ∧ ∀ H' b, Ex H H' → (b = true ↔ HoldsR (notes M x) (isEnd M x) y) → Q (.bl b) H'
def sp_come_to (G : Gs) : Sp := fun vs H Q _ => ∃ p n l, vs = [.ref p, iv n] ∧ SpotL H p l ∧ l.length ≤ 300 ∧ n ≤ 24 ∧ ∀ H' d, Ex H H' → H d = none → ReachAt H' d n l → Q (.ref d) H'
def sp_circling_states (G : Gs) : Sp := fun vs H Q _ => ∃ m M, vs = [.ref m] ∧ MachAt G H m M ∧ M.Ok ∧ ∀ H' d, Ex H H' → H d = none → NatD H' d (Circling M) → Q (.ref d) H'
def sp_reached_spots (G : Gs) : Sp := fun vs H Q _ => ∃ t M x, vs = [.ref t] ∧ TurnAt G H t M x ∧ ∀ H' d, Ex H H' → H d = none → KnownD H' d (Star (both (notes M x)) (0, 0)) → Q (.ref d) H'
def sp_leads_to_end (G : Gs) : Sp := fun vs H Q _ => ∃ t v M x s, vs = [.ref t, v] ∧ TurnAt G H t M x ∧ SpotAt H v s ∧ ∀ H' b, Ex H H' → (b = true ↔ ∃ u, Star (both (notes M x)) s u ∧ isEnd M x u = true) → Q (.bl b) H'
def sp_is_endless (G : Gs) : Sp := fun vs H Q _ => ∃ m w M x, vs = [.ref m, .ref w] ∧ MachAt G H m M ∧ IntL H w x ∧ M.Ok ∧ x.length ≤ 16 ∧ ∀ H' b, Ex H H' → (b = true ↔ EndlessR M x) → Q (.bl b) H'
/-- a new list of ints -/
def RetI (H : Hp) (Q : VK) (l : List Int) : Prop := ∀ H' p, Ex H H' → H p = none → IntL H' p l → Q (.ref p) H'
def toldW : List (List Int) → List Int
  | [] => [-4]
  | w :: _ => NLines.flat w.length [] w
def sp_told (G : Gs) : Sp := fun vs H Q _ => ∃ n r t row text, vs = [.int n, .ref r, .ref t] ∧ IntL H r row ∧ IntL H t text ∧ row.length ≤ 1000 ∧ text.length ≤ 1000 ∧ RetI H Q (NLines.flat n row text)
def sp_told_word (G : Gs) : Sp := fun vs H Q _ => ∃ p ws, vs = [.ref p] ∧ WordsAt H p ws ∧ (∀ w ∈ ws, w.length ≤ 1000) ∧ RetI H Q (toldW ws)
def sp_is_written (G : Gs) : Sp := fun vs H Q _ => ∃ n, vs = [.int n] ∧ Q (.bl (decide (-1 ≤ n) && decide (n ≤ 255))) H
def num1 (w : Int) (A B : PM) : Nat := if w = 6 then A.ts + B.ts + 1 else if w = 7 then A.ts + B.ts else A.ts * B.ts
def num2 (w : Int) (A B : PM) : Nat := if w = 6 then A.ta + B.ta + 2 else if w = 7 then A.ta + B.ta + A.ts else A.ta * B.ta + A.ta * B.ts + A.ts * B.ta
def madeOf (w : Int) (A B : PM) : PM := if w = 6 then joinM A B else if w = 7 then followM A B else behindM A B
def sp_numbers_of_two (G : Gs) : Sp := fun vs H Q _ => ∃ w a b A B, vs = [.int w, .ref a, .ref b] ∧ MachAt G H a A ∧ MachAt G H b B ∧ A.Ok ∧ B.Ok ∧ ∀ H' p, Ex H H' → H p = none → H' p = some (.lst [iv (num1 w A B), iv (num2 w A B)]) → Q (.ref p) H'
def sp_made_of_two (G : Gs) : Sp := fun vs H Q _ => ∃ w a b A B, vs = [.int w, .ref a, .ref b] ∧ MachAt G H a A ∧ MachAt G H b B ∧ A.Ok ∧ B.Ok ∧ ∀ H' c, Ex H H' → H c = none → MachNew G H H' c (madeOf w A B) → Q (.ref c) H'

/-! ### the desk -/
/-- the specification's arc as the program has it -/
def encB : Option UInt8 → Int
  | none => -1
  | some b => (b.toNat : Int)
def encA (a : Wm.Arc) : PArc := ⟨a.src, encB a.reads, encB a.writes, a.dst⟩
structure MRel (M : PM) (A : Wm.Mach) : Prop where
  st : A.net.states = M.states
  fin : ∀ f, f ∈ A.net.finals ↔ f ∈ M.finals
  arcs : ∀ c, c ∈ M.arcs ↔ ∃ a ∈ A.net.arcs, encA a = c
  ts : A.states = M.ts
  ta : A.arcs = M.ta
  op : A.open_ = !M.built
  len : M.built = false → A.net.arcs.length = M.arcs.length ∧ M.ta = M.arcs.length
def ORel : Option PM → Option Wm.Mach → Prop
  | none, none => True
  | some M, some A => MRel M A ∧ M.Ok
  | _, _ => False
def SimR (ps : List (Option PM)) (s : Wm.State) : Prop := ps.length = 6 ∧ s.length = 6 ∧ ∀ i, i < 6 → ORel (ps.getD i none) (s.getD i none)
def DeskAt (G : Gs) (H : Hp) (d : Addr) (L : Lz) (ps : List (Option PM)) : Prop := ∃ (dx : Addr) (vs : List V), H d = some (.ins G.cD dx [("places", .ref L.l)]) ∧ H L.l = some (.lst vs) ∧ vs.length = 6 ∧ ps.length = 6 ∧ (L.l ≠ L.z ∧ ∃ zs, H L.z = some (.lst zs)) ∧
  (∀ i, i < 6 → (vs[i]? = some V.non ∧ ps.getD i none = none) ∨ ∃ a M, vs[i]? = some (V.ref a) ∧ ps.getD i none = some M ∧ MachZ G H a M L.z) ∧ (∀ (i j : Nat) (a : Addr), vs[i]? = some (V.ref a) → vs[j]? = some (V.ref a) → i = j)
def DeskS (G : Gs) (H : Hp) (d : Addr) (L : Lz) (s : Wm.State) : Prop := ∃ ps, DeskAt G H d L ps ∧ SimR ps s
/-- all stands but the places and the instances -/
def Kp (L : Lz) (H H' : Hp) : Prop := ∀ b o, H b = some o → b ≠ L.l → (∀ C dx fs, o ≠ .ins C dx fs) → H' b = some o
def ansI (a : Wm.Ans) : List Int := NLines.flat a.ret a.nums (a.text.map fun b => (b.toNat : Int))
def DeskRet (G : Gs) (H : Hp) (d : Addr) (L : Lz) (Q : VK) (r : Wm.State × Wm.Ans) : Prop := ∀ H' p, Kp L H H' → H p = none → DeskS G H' d L r.1 → IntL H' p (ansI r.2) → Q (.ref p) H'
def There (s : Wm.State) (m : Nat) : Prop := m < 6 ∧ ∃ A, s.getD m none = some A
def refP (s : Wm.State) (ms : List Nat) : Int := if ms.any (fun m => decide (6 ≤ m)) = true then -1 else if ms.any (fun m => (s.getD m none).isNone) = true then -8 else 0
def bI (x : List UInt8) : List Int := x.map fun b => (b.toNat : Int)
def sp_Desk_init (G : Gs) : Sp := fun vs H Q _ => ∃ d dx, vs = [.ref d] ∧ H d = some (.ins G.cD dx []) ∧ ∀ H' l o, Exc d H H' → H l = none → H' l = some o → (∀ H2 z zs, Ex H' H2 → l ≠ z → H2 z = some (.lst zs) → DeskS G H2 d ⟨l, z⟩ Wm.start) → Q .non H'
def sp_Desk_refusal (G : Gs) : Sp := fun vs H Q _ => ∃ d p L s ms, vs = [.ref d, .ref p] ∧ DeskS G H d L s ∧ H p = some (.lst (ms.map iv)) ∧ ms.length ≤ 100 ∧ ∀ H', Ex H H' → Q (.int (refP s ms)) H'
def sp_Desk_new (G : Gs) : Sp := fun vs H Q _ => ∃ d m L s, vs = [.ref d, iv m] ∧ DeskS G H d L s ∧ DeskRet G H d L Q (Wm.step s (.new m))
def sp_Desk_state (G : Gs) : Sp := fun vs H Q _ => ∃ d m L s, vs = [.ref d, iv m] ∧ DeskS G H d L s ∧ There s m ∧ DeskRet G H d L Q (Wm.step s (.state m))
def sp_Desk_final (G : Gs) : Sp := fun vs H Q _ => ∃ d m k y L s, vs = [.ref d, iv m, iv k, iv y] ∧ DeskS G H d L s ∧ There s m ∧ DeskRet G H d L Q (Wm.step s (.final m k y))
def sp_Desk_arc (G : Gs) : Sp := fun vs H Q _ => ∃ d m t a r w b L s, vs = [.ref d, iv m, .ref t] ∧ H t = some (.tup [iv a, .int r, .int w, iv b]) ∧ DeskS G H d L s ∧ There s m ∧ DeskRet G H d L Q (Wm.step s (.arc m a r w b))
def sp_Desk_turn (G : Gs) : Sp := fun vs H Q _ => ∃ d m L s, vs = [.ref d, iv m] ∧ DeskS G H d L s ∧ There s m ∧ DeskRet G H d L Q (Wm.step s (.turn m))
def sp_Desk_size (G : Gs) : Sp := fun vs H Q _ => ∃ d m L s, vs = [.ref d, iv m] ∧ DeskS G H d L s ∧ There s m ∧ DeskRet G H d L Q (Wm.step s (.size m))
def twoC (w : Int) (d a b : Nat) : Wm.Call := if w = 6 then .join d a b else if w = 7 then .follow d a b else .behind d a b
def sp_Desk_of_two (G : Gs) : Sp := fun vs H Q _ => ∃ d w e a b L s, vs = [.ref d, .int w, iv e, iv a, iv b] ∧ DeskS G H d L s ∧ DeskRet G H d L Q (Wm.step s (twoC w e a b))
def oneC (k : Bool) (d a : Nat) : Wm.Call := if k = true then .again d a else .keep d a
def sp_Desk_of_one (G : Gs) : Sp := fun vs H Q _ => ∃ d k e a L s, vs = [.ref d, .bl k, iv e, iv a] ∧ DeskS G H d L s ∧ DeskRet G H d L Q (Wm.step s (oneC k e a))
def sp_Desk_next_word (G : Gs) : Sp := fun vs H Q _ => ∃ d m w x L s, vs = [.ref d, iv m, .ref w] ∧ IntL H w (bI x) ∧ DeskS G H d L s ∧ There s m ∧ DeskRet G H d L Q (Wm.step s (.next m x))
def sp_Desk_later (G : Gs) : Sp := fun vs H Q _ => ∃ d m w u x p L s, vs = [.ref d, iv m, .ref w, .ref u] ∧ IntL H w (bI x) ∧ IntL H u (bI p) ∧ DeskS G H d L s ∧ There s m ∧ DeskRet G H d L Q (Wm.step s (.later m x p))
def sp_Desk_holds (G : Gs) : Sp := fun vs H Q _ => ∃ d m w u x y L s, vs = [.ref d, iv m, .ref w, .ref u] ∧ IntL H w (bI x) ∧ IntL H u (bI y) ∧ DeskS G H d L s ∧ There s m ∧ DeskRet G H d L Q (Wm.step s (.holds m x y))
def sp_Desk_endless (G : Gs) : Sp := fun vs H Q _ => ∃ d m w x L s, vs = [.ref d, iv m, .ref w] ∧ IntL H w (bI x) ∧ DeskS G H d L s ∧ There s m ∧ DeskRet G H d L Q (Wm.step s (.endless m x))
inductive MakeC : Int → List Int → Wm.Call → Prop
  | new (m : Nat) : MakeC 1 [(m : Int)] (.new m)
  | join (d a b : Nat) : MakeC 6 [(d : Int), (a : Int), (b : Int)] (.join d a b)
  | follow (d a b : Nat) : MakeC 7 [(d : Int), (a : Int), (b : Int)] (.follow d a b)
  | again (d a : Nat) : MakeC 8 [(d : Int), (a : Int)] (.again d a)
  | behind (d a b : Nat) : MakeC 9 [(d : Int), (a : Int), (b : Int)] (.behind d a b)
  | keep (d a : Nat) : MakeC 10 [(d : Int), (a : Int)] (.keep d a)
inductive WordC : Int → Nat → List (List Int) → Wm.Call → Prop
  | next (m : Nat) (x : List UInt8) : WordC 12 m [bI x] (.next m x)
  | later (m : Nat) (x p : List UInt8) : WordC 13 m [bI x, bI p] (.later m x p)
  | holds (m : Nat) (x y : List UInt8) : WordC 14 m [bI x, bI y] (.holds m x y)
  | endless (m : Nat) (x : List UInt8) : WordC 15 m [bI x] (.endless m x)
inductive PlaceC : Int → List Int → List (List Int) → Wm.Call → Prop
  | state (m : Nat) : PlaceC 2 [(m : Int)] [] (.state m)
  | final (m s y : Nat) : PlaceC 3 [(m : Int), (s : Int), (y : Int)] [] (.final m s y)
  | arc (m a : Nat) (r w : Int) (b : Nat) : PlaceC 4 [(m : Int), (a : Int), r, w, (b : Int)] [] (.arc m a r w b)
  | turn (m : Nat) : PlaceC 5 [(m : Int)] [] (.turn m)
  | size (m : Nat) : PlaceC 11 [(m : Int)] [] (.size m)
  | word {w : Int} {m : Nat} {ws : List (List Int)} {c : Wm.Call} : WordC w m ws c → PlaceC w [(m : Int)] ws c
def sp_making (G : Gs) : Sp := fun vs H Q _ => ∃ d w p L s ns c, vs = [.ref d, .int w, .ref p] ∧ IntL H p ns ∧ DeskS G H d L s ∧ MakeC w ns c ∧ DeskRet G H d L Q (Wm.step s c)
def sp_of_words (G : Gs) : Sp := fun vs H Q _ => ∃ d w m p L s ws c, vs = [.ref d, .int w, iv m, .ref p] ∧ WordsAt H p ws ∧ DeskS G H d L s ∧ There s m ∧ WordC w m ws c ∧ DeskRet G H d L Q (Wm.step s c)
def sp_of_place (G : Gs) : Sp := fun vs H Q _ => ∃ d w p q L s ns ws c, vs = [.ref d, .int w, .ref p, .ref q] ∧ IntL H p ns ∧ WordsAt H q ws ∧ DeskS G H d L s ∧ PlaceC w ns ws c ∧ DeskRet G H d L Q (Wm.step s c)
def sp_answers (G : Gs) : Sp := fun vs H Q _ => ∃ a ns, vs = [.ref a] ∧ SqL G.K H a (ns.map V.int) ∧ ns.length ≤ 30000 ∧ PyWqazae.answers_asked ns = true ∧ ∀ H' p, IntL H' p (PyWqazae.answers ns) → Q (.ref p) H'
end Tw

namespace Tw
open PySem PySem.Spec PyProof.Rows L2 Evl
/-- slots: 0 self, 1 states, 2 finals, 3 arcs -/
def t_Machine_init (G : Gs) : TS :=
  (tSeq (sFld G.K (tVar 0) (tVar 1) "states")
  (tSeq (sFld G.K (tVar 0) (tVar 2) "finals")
  (tSeq (sFld G.K (tVar 0) (tVar 3) "arcs")
  (tSeq (sFld G.K (tVar 0) (tVar 1) "told_states")
  (tSeq (sFld G.K (tVar 0) (tCB (rLenS G.K) (tCons (tVar 3) tNil)) "told_arcs")
  (sFld G.K (tVar 0) (tC (.bl false)) "is_built"))))))
/-- slots: 0 self, 1 number -/
def t_Machine_has_state (G : Gs) : TS :=
  (tRet (tOp (rI0 fun i j => .bl (decide (i < j))) (tVar 1) (tFld G.K (tVar 0) "states")))
/-- slots: 0 self -/
def t_Machine_add_state (G : Gs) : TS :=
  (tSeq (sFldAug G.K (tVar 0) (tC (.int 1)) L2.rAdd "states")
  (tSeq (sFldAug G.K (tVar 0) (tC (.int 1)) L2.rAdd "told_states")
  (tRet (tOp (rI0 fun i j => .int (i - j)) (tFld G.K (tVar 0) "states") (tC (.int 1))))))
/-- slots: 0 self, 1 arc -/
def t_Machine_add_arc (G : Gs) : TS :=
  (tSeq (sFld G.K (tVar 0) (tOp rCat (tFld G.K (tVar 0) "arcs") (tLst (tCons (tVar 1) tNil))) "arcs")
  (sFldAug G.K (tVar 0) (tC (.int 1)) L2.rAdd "told_arcs"))
/-- slots: 0 self, 1 number, 2 is_final, 3 rest, 4 state -/
def t_Machine_set_final (G : Gs) : TS :=
  (tSeq (tAsg (tLc (iList G.K (tFld G.K (tVar 0) "finals")) (gName 4) (tTest (tOp rNe (tVar 4) (tVar 1))) (tVar 4) [4]) (gName 3))
  (sFld G.K (tVar 0) (tOp rCat (tVar 3) (tOp rRep (tLst (tCons (tVar 1) tNil)) (tCB rInt1 (tCons (tVar 2) tNil)))) "finals"))
/-- slots: 0 self, 1 start, 2 reads, 3 writes, 4 to -/
def t_Machine_turn (G : Gs) : TS :=
  (sFld G.K (tVar 0) (tLc (iList G.K (tFld G.K (tVar 0) "arcs")) (gTup G.K 4 (gCons (gName 1) (gCons (gName 2) (gCons (gName 3) (gCons (gName 4) gNil))))) tYes (tTup (tCons (tVar 1) (tCons (tVar 3) (tCons (tVar 2) (tCons (tVar 4) tNil))))) [1, 2, 3, 4]) "arcs")
/-- slots: 0 arcs, 1 by, 2 start, 3 reads, 4 writes, 5 to -/
def t_moved (G : Gs) : TS :=
  (tRet (tLc (iList G.K (tVar 0)) (gTup G.K 4 (gCons (gName 2) (gCons (gName 3) (gCons (gName 4) (gCons (gName 5) gNil))))) tYes (tTup (tCons (tOp (rI0 fun i j => .int (i + j)) (tVar 2) (tVar 1)) (tCons (tVar 3) (tCons (tVar 4) (tCons (tOp (rI0 fun i j => .int (i + j)) (tVar 5) (tVar 1)) tNil))))) [2, 3, 4, 5]))
/-- slots: 0 numbers -/
def t_is_too_great (G : Gs) : TS :=
  (tRet (tOrV (tOp (rI0 fun i j => .bl (decide (j < i))) (tOp (rIxL G.K) (tVar 0) (tC (.int 0))) (tC (.int (24)))) (tOp (rI0 fun i j => .bl (decide (j < i))) (tOp (rIxL G.K) (tVar 0) (tC (.int 1))) (tC (.int (300))))))
/-- slots: 0 machine, 1 numbers -/
def t_finished (G : Gs) : TS :=
  (tSeq (tAsg (tVar 1) (gUnl G.K 2 (gCons (gFld G.K (tVar 0) "told_states") (gCons (gFld G.K (tVar 0) "told_arcs") gNil))))
  (tSeq (sFld G.K (tVar 0) (tC (.bl true)) "is_built")
  (tRet (tVar 0))))
/-- slots: 0 a, 1 b -/
def t_join_numbers (G : Gs) : TS :=
  (tRet (tLst (tCons (tOp (rI0 fun i j => .int (i + j)) (tOp (rI0 fun i j => .int (i + j)) (tFld G.K (tVar 0) "told_states") (tFld G.K (tVar 1) "told_states")) (tC (.int 1))) (tCons (tOp (rI0 fun i j => .int (i + j)) (tOp (rI0 fun i j => .int (i + j)) (tFld G.K (tVar 0) "told_arcs") (tFld G.K (tVar 1) "told_arcs")) (tC (.int 2))) tNil))))
/-- slots: 0 a, 1 b -/
def t_follow_numbers (G : Gs) : TS :=
  (tRet (tLst (tCons (tOp (rI0 fun i j => .int (i + j)) (tFld G.K (tVar 0) "told_states") (tFld G.K (tVar 1) "told_states")) (tCons (tOp (rI0 fun i j => .int (i + j)) (tOp (rI0 fun i j => .int (i + j)) (tFld G.K (tVar 0) "told_arcs") (tFld G.K (tVar 1) "told_arcs")) (tFld G.K (tVar 0) "told_states")) tNil))))
/-- slots: 0 a -/
def t_again_numbers (G : Gs) : TS :=
  (tRet (tLst (tCons (tOp (rI0 fun i j => .int (i + j)) (tFld G.K (tVar 0) "told_states") (tC (.int 1))) (tCons (tOp (rI0 fun i j => .int (i + j)) (tOp (rI0 fun i j => .int (i + j)) (tFld G.K (tVar 0) "told_arcs") (tFld G.K (tVar 0) "told_states")) (tC (.int 1))) tNil))))
/-- slots: 0 a, 1 b, 2 arcs -/
def t_behind_numbers (G : Gs) : TS :=
  (tSeq (tAsg (tOp (rI0 fun i j => .int (i + j)) (tOp (rI0 fun i j => .int (i + j)) (tOp (rI CMul fun i j => .int (i * j)) (tFld G.K (tVar 0) "told_arcs") (tFld G.K (tVar 1) "told_arcs")) (tOp (rI CMul fun i j => .int (i * j)) (tFld G.K (tVar 0) "told_arcs") (tFld G.K (tVar 1) "told_states"))) (tOp (rI CMul fun i j => .int (i * j)) (tFld G.K (tVar 0) "told_states") (tFld G.K (tVar 1) "told_arcs"))) (gName 2))
  (tRet (tLst (tCons (tOp (rI CMul fun i j => .int (i * j)) (tFld G.K (tVar 0) "told_states") (tFld G.K (tVar 1) "told_states")) (tCons (tVar 2) tNil)))))
/-- slots: 0 a, 1 b, 2 many, 3 found, 4 start, 5 reads, 6 writes, 7 to, 8 begin, 9 takes, 10 gives, 11 end, 12 k -/
def t_behind_arcs (G : Gs) : TS :=
  (tSeq (tAsg (tFld G.K (tVar 1) "states") (gName 2))
  (tSeq (tAsg (tLst tNil) (gName 3))
  (tSeq (tFor (iList G.K (tFld G.K (tVar 0) "arcs")) (gTup G.K 4 (gCons (gName 4) (gCons (gName 5) (gCons (gName 6) (gCons (gName 7) gNil)))))
  (tCut (tIfS (tTest (tOp rEq (tVar 6) (tC (.int (-1))))) (tDrop (tBM G.K "list" rExtend (tVar 3) (tCons (tLc (iRng1 (tCons (tVar 2) tNil)) (gName 12) tYes (tTup (tCons (tOp (rI0 fun i j => .int (i + j)) (tOp (rI CMul fun i j => .int (i * j)) (tVar 4) (tVar 2)) (tVar 12)) (tCons (tVar 5) (tCons (tC (.int (-1))) (tCons (tOp (rI0 fun i j => .int (i + j)) (tOp (rI CMul fun i j => .int (i * j)) (tVar 7) (tVar 2)) (tVar 12)) tNil))))) [12]) tNil))) tNext)
  (tFor (iList G.K (tFld G.K (tVar 1) "arcs")) (gTup G.K 4 (gCons (gName 8) (gCons (gName 9) (gCons (gName 10) (gCons (gName 11) gNil)))))
  (tIfS (tAnd (tTest (tOp rNe (tVar 6) (tC (.int (-1))))) (tTest (tOp rEq (tVar 9) (tVar 6)))) (tDrop (tBM G.K "list" rAppend (tVar 3) (tCons (tTup (tCons (tOp (rI0 fun i j => .int (i + j)) (tOp (rI CMul fun i j => .int (i * j)) (tVar 4) (tVar 2)) (tVar 8)) (tCons (tVar 5) (tCons (tVar 10) (tCons (tOp (rI0 fun i j => .int (i + j)) (tOp (rI CMul fun i j => .int (i * j)) (tVar 7) (tVar 2)) (tVar 11)) tNil))))) tNil))) tNext))))
  (tSeq (tFor (iList G.K (tFld G.K (tVar 1) "arcs")) (gTup G.K 4 (gCons (gName 8) (gCons (gName 9) (gCons (gName 10) (gCons (gName 11) gNil)))))
  (tIfS (tTest (tOp rEq (tVar 9) (tC (.int (-1))))) (tDrop (tBM G.K "list" rExtend (tVar 3) (tCons (tLc (iRng1 (tCons (tFld G.K (tVar 0) "states") tNil)) (gName 12) tYes (tTup (tCons (tOp (rI0 fun i j => .int (i + j)) (tOp (rI CMul fun i j => .int (i * j)) (tVar 12) (tVar 2)) (tVar 8)) (tCons (tC (.int (-1))) (tCons (tVar 10) (tCons (tOp (rI0 fun i j => .int (i + j)) (tOp (rI CMul fun i j => .int (i * j)) (tVar 12) (tVar 2)) (tVar 11)) tNil))))) [12]) tNil))) tNext))
  (tRet (tVar 3))))))
/-- slots: 0 self, 1 spot, 2 writes, 3 other -/
def t_Turning_note (G : Gs) : TS :=
  (tIfS (tTest (tOp rEq (tVar 2) (tC (.int (-1))))) (tDrop (tBM G.K "list" rAppend (tDSetT (tFld G.K (tVar 0) "silent") (tVar 1) (tLst tNil)) (tCons (tVar 3) tNil))) (tDrop (tBM G.K "list" rAppend (tDSetT (tFld G.K (tVar 0) "writing") (tVar 1) (tLst tNil)) (tCons (tTup (tCons (tVar 2) (tCons (tVar 3) tNil))) tNil))))
/-- slots: 0 self, 1 found, 2 at, 3 state -/
def t_Turning_spots (G : Gs) : TS :=
  (tSeq (tAsg (tLst tNil) (gName 1))
  (tSeq (tFor (iRng1 (tCons (tOp (rI0 fun i j => .int (i + j)) (tCB (rLenS G.K) (tCons (tFld G.K (tVar 0) "word") tNil)) (tC (.int 1))) tNil)) (gName 2)
  (tDrop (tBM G.K "list" rExtend (tVar 1) (tCons (tLc (iRng1 (tCons (tFld G.K (tFld G.K (tVar 0) "machine") "states") tNil)) (gName 3) tYes (tTup (tCons (tVar 2) (tCons (tVar 3) tNil))) [3]) tNil))))
  (tRet (tVar 1))))
/-- slots: 0 self, 1 spot -/
def t_Turning_is_end (G : Gs) : TS :=
  (tRet (tAndV (tOp rEq (tOp (rIxT G.K) (tVar 1) (tC (.int 0))) (tCB (rLenS G.K) (tCons (tFld G.K (tVar 0) "word") tNil))) (tOp (rIn G.K false) (tOp (rIxT G.K) (tVar 1) (tC (.int 1))) (tFld G.K (tFld G.K (tVar 0) "machine") "finals"))))
/-- slots: 0 self, 1 spots, 2 found, 3 waiting, 4 spot -/
def t_Turning_closed (G : Gs) : TS :=
  (tSeq (tAsg tDNewT (gName 2))
  (tSeq (tAsg (tCB (rListS G.K) (tCons (tVar 1) tNil)) (gName 3))
  (tSeq (tWhile (tTest (tOp (rNeN G.K) (tVar 3) (tLst tNil)))
  (tSeq (tAsg (tBM0 G.K "list" rPop (tVar 3)) (gName 4))
  (tIfS (tB (tDNotIn (tVar 4) (tVar 2))) (tSeq (sDPut (tVar 2) (tVar 4) (tC (.bl true)))
  (tDrop (tBM G.K "list" rExtend (tVar 3) (tCons (tDGet2 (tFld G.K (tVar 0) "silent") (tVar 4) (tLst tNil)) tNil)))) tNext)))
  (tRet (tCB rListDT (tCons (tVar 2) tNil))))))
/-- slots: 0 self, 1 spots, 2 known, 3 spot, 4 writes, 5 other -/
def t_Turning_leads (G : Gs) : TS :=
  (tSeq (tFor (iList G.K (tVar 1)) (gName 3)
  (tIfS (tTest (tOp (rNeN G.K) (tLc (iList G.K (tDGet2 (tFld G.K (tVar 0) "writing") (tVar 3) (tLst tNil))) (gTup G.K 2 (gCons (gName 4) (gCons (gName 5) gNil))) (tB (tDIn (tVar 5) (tVar 2))) (tVar 5) [4, 5]) (tLst tNil))) (tRet (tC (.bl true))) tNext))
  (tRet (tC (.bl false))))
/-- slots: 0 self, 1 spots, 2 known, 3 least, 4 found, 5 spot, 6 writes, 7 other -/
def t_Turning_least_byte (G : Gs) : TS :=
  (tSeq (tAsg (tLst tNil) (gName 4))
  (tSeq (tFor (iList G.K (tVar 1)) (gName 5)
  (tFor (iList G.K (tDGet2 (tFld G.K (tVar 0) "writing") (tVar 5) (tLst tNil))) (gTup G.K 2 (gCons (gName 6) (gCons (gName 7) gNil)))
  (tIfS (tAnd (tTest (tOp (rI0 fun i j => .bl (decide (j ≤ i))) (tVar 6) (tVar 3))) (tB (tDIn (tVar 7) (tVar 2)))) (tDrop (tBM G.K "list" rAppend (tVar 4) (tCons (tVar 6) tNil))) tNext)))
  (tSeq (tIfS (tTest (tOp (rEqN G.K) (tVar 4) (tLst tNil))) (tRet (tC (.int (-1)))) tNext)
  (tRet (tCB (rMin G.K) (tCons (tVar 4) tNil))))))
/-- slots: 0 arcs, 1 states, 2 found, 3 state, 4 row, 5 waiting, 6 one, 7 begin, 8 end -/
def t_come_to (G : Gs) : TS :=
  (tSeq (tAsg tDNewK (gName 2))
  (tSeq (tFor (iRng1 (tCons (tVar 1) tNil)) (gName 3)
  (tSeq (tAsg tDNewK (gName 4))
  (tSeq (tAsg (tLst (tCons (tVar 3) tNil)) (gName 5))
  (tSeq (tWhile (tTest (tOp (rNeN G.K) (tVar 5) (tLst tNil)))
  (tSeq (tAsg (tBM0 G.K "list" rPop (tVar 5)) (gName 6))
  (tIfS (tB (tDNotIn (tVar 6) (tVar 4))) (tSeq (sDPut (tVar 4) (tVar 6) (tC (.bl true)))
  (tDrop (tBM G.K "list" rExtend (tVar 5) (tCons (tLc (iList G.K (tVar 0)) (gTup G.K 2 (gCons (gName 7) (gCons (gName 8) gNil))) (tTest (tOp rEq (tVar 7) (tVar 6))) (tVar 8) [7, 8]) tNil)))) tNext)))
  (sDPut (tVar 2) (tVar 3) (tVar 4))))))
  (tRet (tVar 2))))
/-- slots: 0 turning, 1 found, 2 waiting, 3 spot, 4 writes, 5 other -/
def t_reached_spots (G : Gs) : TS :=
  (tSeq (tAsg tDNewT (gName 1))
  (tSeq (tAsg (tLst (tCons (tTup (tCons (tC (.int 0)) (tCons (tC (.int 0)) tNil))) tNil)) (gName 2))
  (tSeq (tWhile (tTest (tOp (rNeN G.K) (tVar 2) (tLst tNil)))
  (tSeq (tAsg (tBM0 G.K "list" rPop (tVar 2)) (gName 3))
  (tIfS (tB (tDNotIn (tVar 3) (tVar 1))) (tSeq (sDPut (tVar 1) (tVar 3) (tC (.bl true)))
  (tSeq (tDrop (tBM G.K "list" rExtend (tVar 2) (tCons (tDGet2 (tFld G.K (tVar 0) "silent") (tVar 3) (tLst tNil)) tNil)))
  (tDrop (tBM G.K "list" rExtend (tVar 2) (tCons (tLc (iList G.K (tDGet2 (tFld G.K (tVar 0) "writing") (tVar 3) (tLst tNil))) (gTup G.K 2 (gCons (gName 4) (gCons (gName 5) gNil))) tYes (tVar 5) [4, 5]) tNil))))) tNext)))
  (tRet (tVar 1)))))
/-- slots: 0 number, 1 row, 2 text -/
def t_told (G : Gs) : TS :=
  (tSeq (tIfS (tAnd (tTest (tOp (rEqN G.K) (tVar 1) (tLst tNil))) (tTest (tOp (rEqN G.K) (tVar 2) (tLst tNil)))) (tRet (tLst (tCons (tVar 0) tNil))) tNext)
  (tRet (tOp rCat (tOp rCat (tOp rCat (tLst (tCons (tVar 0) (tCons (tCB (rLenS G.K) (tCons (tVar 1) tNil)) tNil))) (tVar 1)) (tLst (tCons (tCB (rLenS G.K) (tCons (tVar 2) tNil)) tNil))) (tVar 2))))
/-- slots: 0 number -/
def t_is_written (G : Gs) : TS :=
  (tRet (tChain (rI0 fun i j => .bl (decide (i ≤ j))) (rI0 fun i j => .bl (decide (i ≤ j))) (tC (.int (-1))) (tVar 0) (tC (.int 255))))
/-- slots: 0 self -/
def t_Desk_init (G : Gs) : TS :=
  (sFld G.K (tVar 0) (tOp rRep (tLst (tCons (tC .non) tNil)) (tC (.int (6)))) "places")
/-- slots: 0 self, 1 places, 2 place -/
def t_Desk_refusal (G : Gs) : TS :=
  (tSeq (tIfS (tTest (tOp (rNeN G.K) (tLc (iList G.K (tVar 1)) (gName 2) (tTest (tOp (rI0 fun i j => .bl (decide (j ≤ i))) (tVar 2) (tC (.int (6))))) (tVar 2) [2]) (tLst tNil))) (tRet (tUn (rU fun i => .int (-i)) (tC (.int 1)))) tNext)
  (tSeq (tIfS (tTest (tOp (rNeN G.K) (tLc (iList G.K (tVar 1)) (gName 2) (tTest (tOp rIsN (tOp (rIxL G.K) (tFld G.K (tVar 0) "places") (tVar 2)) (tC .non))) (tVar 2) [2]) (tLst tNil))) (tRet (tUn (rU fun i => .int (-i)) (tC (.int 8)))) tNext)
  (tRet (tC (.int 0)))))
/-- slots: 0 self, 1 machine, 2 word, 3 at, 4 start, 5 reads, 6 writes, 7 to -/
def t_Turning_init (G : Gs) : TS :=
  (tSeq (sFld G.K (tVar 0) (tVar 1) "machine")
  (tSeq (sFld G.K (tVar 0) (tVar 2) "word")
  (tSeq (sFld G.K (tVar 0) tDNewT "silent")
  (tSeq (sFld G.K (tVar 0) tDNewT "writing")
  (tFor (iRng1 (tCons (tOp (rI0 fun i j => .int (i + j)) (tCB (rLenS G.K) (tCons (tVar 2) tNil)) (tC (.int 1))) tNil)) (gName 3)
  (tFor (iList G.K (tFld G.K (tVar 1) "arcs")) (gTup G.K 4 (gCons (gName 4) (gCons (gName 5) (gCons (gName 6) (gCons (gName 7) gNil)))))
  (tIfS (tTest (tOp rEq (tVar 5) (tC (.int (-1))))) (tDrop (tMeth G.cT "note" (sp_Turning_note G) [] E0 (tVar 0) (tCons (tTup (tCons (tVar 3) (tCons (tVar 4) tNil))) (tCons (tVar 6) (tCons (tTup (tCons (tVar 3) (tCons (tVar 7) tNil))) tNil))))) (tIfS (tTest (tOp (rEqD G.K) (tSl (rSlL G.K) (tVar 2) (tPart (tVar 3)) (tPart (tOp (rI0 fun i j => .int (i + j)) (tVar 3) (tC (.int 1))))) (tLst (tCons (tVar 5) tNil)))) (tDrop (tMeth G.cT "note" (sp_Turning_note G) [] E0 (tVar 0) (tCons (tTup (tCons (tVar 3) (tCons (tVar 4) tNil))) (tCons (tVar 6) (tCons (tTup (tCons (tOp (rI0 fun i j => .int (i + j)) (tVar 3) (tC (.int 1))) (tCons (tVar 7) tNil))) tNil))))) tNext))))))))
/-- slots: 0 self -/
def t_Turning_begin (G : Gs) : TS :=
  (tRet (tMeth G.cT "closed" (sp_Turning_closed G) [] E0 (tVar 0) (tCons (tLst (tCons (tTup (tCons (tC (.int 0)) (tCons (tC (.int 0)) tNil))) tNil)) tNil)))
/-- slots: 0 self, 1 spots, 2 byte, 3 found, 4 spot, 5 writes, 6 other -/
def t_Turning_step (G : Gs) : TS :=
  (tSeq (tAsg (tLst tNil) (gName 3))
  (tSeq (tFor (iList G.K (tVar 1)) (gName 4)
  (tDrop (tBM G.K "list" rExtend (tVar 3) (tCons (tLc (iList G.K (tDGet2 (tFld G.K (tVar 0) "writing") (tVar 4) (tLst tNil))) (gTup G.K 2 (gCons (gName 5) (gCons (gName 6) gNil))) (tTest (tOp rEq (tVar 5) (tVar 2))) (tVar 6) [5, 6]) tNil))))
  (tRet (tMeth G.cT "closed" (sp_Turning_closed G) [] E0 (tVar 0) (tCons (tVar 3) tNil)))))
/-- slots: 0 self, 1 spots, 2 spot -/
def t_Turning_has_end (G : Gs) : TS :=
  (tRet (tOp (rNeN G.K) (tLc (iList G.K (tVar 1)) (gName 2) (tB (tMeth G.cT "is_end" (sp_Turning_is_end G) [] E0 (tVar 0) (tCons (tVar 2) tNil))) (tVar 2) [2]) (tLst tNil)))
/-- slots: 0 machine, 1 start, 2 reads, 3 writes, 4 to, 5 pairs, 6 reached, 7 found -/
def t_circling_states (G : Gs) : TS :=
  (tSeq (tAsg (tLc (iList G.K (tFld G.K (tVar 0) "arcs")) (gTup G.K 4 (gCons (gName 1) (gCons (gName 2) (gCons (gName 3) (gCons (gName 4) gNil))))) (tTest (tOp rEq (tVar 2) (tC (.int (-1))))) (tTup (tCons (tVar 1) (tCons (tVar 4) tNil))) [1, 2, 3, 4]) (gName 5))
  (tSeq (tAsg (tCall (sp_come_to G) [] E0 (tCons (tVar 5) (tCons (tFld G.K (tVar 0) "states") tNil))) (gName 6))
  (tSeq (tAsg tDNewK (gName 7))
  (tSeq (tFor (iList G.K (tFld G.K (tVar 0) "arcs")) (gTup G.K 4 (gCons (gName 1) (gCons (gName 2) (gCons (gName 3) (gCons (gName 4) gNil)))))
  (tIfS (tAnd (tTest (tOp rEq (tVar 2) (tC (.int (-1))))) (tAnd (tTest (tOp rNe (tVar 3) (tC (.int (-1))))) (tB (tDIn (tVar 1) (tDGet (tVar 6) (tVar 4)))))) (sDPut (tVar 7) (tVar 1) (tC (.bl true))) tNext))
  (tRet (tVar 7))))))
/-- slots: 0 turning, 1 spot, 2 found, 3 waiting, 4 one, 5 writes, 6 other -/
def t_leads_to_end (G : Gs) : TS :=
  (tSeq (tAsg tDNewT (gName 2))
  (tSeq (tAsg (tLst (tCons (tVar 1) tNil)) (gName 3))
  (tSeq (tWhile (tTest (tOp (rNeN G.K) (tVar 3) (tLst tNil)))
  (tSeq (tAsg (tBM0 G.K "list" rPop (tVar 3)) (gName 4))
  (tSeq (tIfS (tB (tMeth G.cT "is_end" (sp_Turning_is_end G) [] E0 (tVar 0) (tCons (tVar 4) tNil))) (tRet (tC (.bl true))) tNext)
  (tIfS (tB (tDNotIn (tVar 4) (tVar 2))) (tSeq (sDPut (tVar 2) (tVar 4) (tC (.bl true)))
  (tSeq (tDrop (tBM G.K "list" rExtend (tVar 3) (tCons (tDGet2 (tFld G.K (tVar 0) "silent") (tVar 4) (tLst tNil)) tNil)))
  (tDrop (tBM G.K "list" rExtend (tVar 3) (tCons (tLc (iList G.K (tDGet2 (tFld G.K (tVar 0) "writing") (tVar 4) (tLst tNil))) (gTup G.K 2 (gCons (gName 5) (gCons (gName 6) gNil))) tYes (tVar 6) [5, 6]) tNil))))) tNext))))
  (tRet (tC (.bl false))))))
/-- slots: 0 words -/
def t_told_word (G : Gs) : TS :=
  (tSeq (tIfS (tTest (tOp (rEqN G.K) (tVar 0) (tLst tNil))) (tRet (tLst (tCons (tUn (rU fun i => .int (-i)) (tC (.int 4))) tNil))) tNext)
  (tRet (tCall (sp_told G) [] E0 (tCons (tCB (rLenS G.K) (tCons (tOp (rIxL G.K) (tVar 0) (tC (.int 0))) tNil)) (tCons (tLst tNil) (tCons (tOp (rIxL G.K) (tVar 0) (tC (.int 0))) tNil))))))
/-- slots: 0 word, 1 one, 2 other -/
def t_numbers_of_two (G : Gs) : TS :=
  (tSeq (tIfS (tTest (tOp rEq (tVar 0) (tC (.int (6))))) (tRet (tCall (sp_join_numbers G) [] E0 (tCons (tVar 1) (tCons (tVar 2) tNil)))) tNext)
  (tSeq (tIfS (tTest (tOp rEq (tVar 0) (tC (.int (7))))) (tRet (tCall (sp_follow_numbers G) [] E0 (tCons (tVar 1) (tCons (tVar 2) tNil)))) tNext)
  (tRet (tCall (sp_behind_numbers G) [] E0 (tCons (tVar 1) (tCons (tVar 2) tNil))))))
/-- slots: 0 self, 1 m, 2 machine -/
def t_Desk_state (G : Gs) : TS :=
  (tSeq (tAsg (tOp (rIxL G.K) (tFld G.K (tVar 0) "places") (tVar 1)) (gName 2))
  (tSeq (tIfS (tB (tFld G.K (tVar 2) "is_built")) (tRet (tLst (tCons (tUn (rU fun i => .int (-i)) (tC (.int 3))) tNil))) tNext)
  (tSeq (tIfS (tTest (tOp (rI0 fun i j => .bl (decide (j ≤ i))) (tFld G.K (tVar 2) "states") (tC (.int (24))))) (tRet (tLst (tCons (tUn (rU fun i => .int (-i)) (tC (.int 2))) tNil))) tNext)
  (tRet (tLst (tCons (tMeth G.cM "add_state" (sp_Machine_add_state G) [] E0 (tVar 2) tNil) tNil))))))
/-- slots: 0 self, 1 m, 2 number, 3 yes, 4 machine -/
def t_Desk_final (G : Gs) : TS :=
  (tSeq (tAsg (tOp (rIxL G.K) (tFld G.K (tVar 0) "places") (tVar 1)) (gName 4))
  (tSeq (tIfS (tB (tFld G.K (tVar 4) "is_built")) (tRet (tLst (tCons (tUn (rU fun i => .int (-i)) (tC (.int 3))) tNil))) tNext)
  (tSeq (tIfS (tNot (tB (tMeth G.cM "has_state" (sp_Machine_has_state G) [] E0 (tVar 4) (tCons (tVar 2) tNil)))) (tRet (tLst (tCons (tUn (rU fun i => .int (-i)) (tC (.int 1))) tNil))) tNext)
  (tSeq (tDrop (tMeth G.cM "set_final" (sp_Machine_set_final G) [] E0 (tVar 4) (tCons (tVar 2) (tCons (tOp rNe (tVar 3) (tC (.int 0))) tNil))))
  (tRet (tLst (tCons (tC (.int 0)) tNil)))))))
/-- slots: 0 self, 1 m, 2 arc, 3 machine, 4 start, 5 reads, 6 writes, 7 to -/
def t_Desk_arc (G : Gs) : TS :=
  (tSeq (tAsg (tOp (rIxL G.K) (tFld G.K (tVar 0) "places") (tVar 1)) (gName 3))
  (tSeq (tAsg (tVar 2) (gTup G.K 4 (gCons (gName 4) (gCons (gName 5) (gCons (gName 6) (gCons (gName 7) gNil))))))
  (tSeq (tIfS (tB (tFld G.K (tVar 3) "is_built")) (tRet (tLst (tCons (tUn (rU fun i => .int (-i)) (tC (.int 3))) tNil))) tNext)
  (tSeq (tIfS (tOr (tNot (tB (tMeth G.cM "has_state" (sp_Machine_has_state G) [] E0 (tVar 3) (tCons (tVar 4) tNil)))) (tNot (tB (tMeth G.cM "has_state" (sp_Machine_has_state G) [] E0 (tVar 3) (tCons (tVar 7) tNil))))) (tRet (tLst (tCons (tUn (rU fun i => .int (-i)) (tC (.int 1))) tNil))) tNext)
  (tSeq (tIfS (tOr (tNot (tB (tCall (sp_is_written G) [] E0 (tCons (tVar 5) tNil)))) (tNot (tB (tCall (sp_is_written G) [] E0 (tCons (tVar 6) tNil))))) (tRet (tLst (tCons (tUn (rU fun i => .int (-i)) (tC (.int 1))) tNil))) tNext)
  (tSeq (tIfS (tTest (tOp (rI0 fun i j => .bl (decide (j ≤ i))) (tCB (rLenS G.K) (tCons (tFld G.K (tVar 3) "arcs") tNil)) (tC (.int (300))))) (tRet (tLst (tCons (tUn (rU fun i => .int (-i)) (tC (.int 2))) tNil))) tNext)
  (tSeq (tDrop (tMeth G.cM "add_arc" (sp_Machine_add_arc G) [] E0 (tVar 3) (tCons (tVar 2) tNil)))
  (tRet (tLst (tCons (tC (.int 0)) tNil))))))))))
/-- slots: 0 self, 1 m -/
def t_Desk_turn (G : Gs) : TS :=
  (tSeq (tDrop (tMeth G.cM "turn" (sp_Machine_turn G) [] E0 (tOp (rIxL G.K) (tFld G.K (tVar 0) "places") (tVar 1)) tNil))
  (tRet (tLst (tCons (tC (.int 0)) tNil))))
/-- slots: 0 self, 1 m, 2 machine -/
def t_Desk_size (G : Gs) : TS :=
  (tSeq (tAsg (tOp (rIxL G.K) (tFld G.K (tVar 0) "places") (tVar 1)) (gName 2))
  (tRet (tCall (sp_told G) [] E0 (tCons (tC (.int 0)) (tCons (tLst (tCons (tFld G.K (tVar 2) "told_states") (tCons (tFld G.K (tVar 2) "told_arcs") tNil))) (tCons (tLst tNil) tNil))))))
/-- slots:  -/
def t_new_net (G : Gs) : TS :=
  (tRet (tMake G.cM (sp_Machine_init G) [] E0 (tCons (tC (.int 1)) (tCons (tLst tNil) (tCons (tLst tNil) tNil)))))
/-- slots: 0 a, 1 b, 2 first, 3 second, 4 arcs, 5 finals, 6 state -/
def t_join (G : Gs) : TS :=
  (tSeq (tAsg (tC (.int 1)) (gName 2))
  (tSeq (tAsg (tOp (rI0 fun i j => .int (i + j)) (tC (.int 1)) (tFld G.K (tVar 0) "states")) (gName 3))
  (tSeq (tAsg (tLst (tCons (tTup (tCons (tC (.int 0)) (tCons (tC (.int (-1))) (tCons (tC (.int (-1))) (tCons (tVar 2) tNil))))) (tCons (tTup (tCons (tC (.int 0)) (tCons (tC (.int (-1))) (tCons (tC (.int (-1))) (tCons (tVar 3) tNil))))) tNil))) (gName 4))
  (tSeq (tAsg (tOp rCat (tOp rCat (tVar 4) (tCall (sp_moved G) [] E0 (tCons (tFld G.K (tVar 0) "arcs") (tCons (tVar 2) tNil)))) (tCall (sp_moved G) [] E0 (tCons (tFld G.K (tVar 1) "arcs") (tCons (tVar 3) tNil)))) (gName 4))
  (tSeq (tAsg (tOp rCat (tLc (iList G.K (tFld G.K (tVar 0) "finals")) (gName 6) tYes (tOp (rI0 fun i j => .int (i + j)) (tVar 6) (tVar 2)) [6]) (tLc (iList G.K (tFld G.K (tVar 1) "finals")) (gName 6) tYes (tOp (rI0 fun i j => .int (i + j)) (tVar 6) (tVar 3)) [6])) (gName 5))
  (tRet (tCall (sp_finished G) [] E0 (tCons (tMake G.cM (sp_Machine_init G) [] E0 (tCons (tOp (rI0 fun i j => .int (i + j)) (tOp (rI0 fun i j => .int (i + j)) (tC (.int 1)) (tFld G.K (tVar 0) "states")) (tFld G.K (tVar 1) "states")) (tCons (tVar 5) (tCons (tVar 4) tNil)))) (tCons (tCall (sp_join_numbers G) [] E0 (tCons (tVar 0) (tCons (tVar 1) tNil))) tNil)))))))))
/-- slots: 0 a, 1 b, 2 second, 3 arcs, 4 finals, 5 state -/
def t_follow (G : Gs) : TS :=
  (tSeq (tAsg (tFld G.K (tVar 0) "states") (gName 2))
  (tSeq (tAsg (tOp rCat (tOp rCat (tFld G.K (tVar 0) "arcs") (tCall (sp_moved G) [] E0 (tCons (tFld G.K (tVar 1) "arcs") (tCons (tVar 2) tNil)))) (tLc (iList G.K (tFld G.K (tVar 0) "finals")) (gName 5) tYes (tTup (tCons (tVar 5) (tCons (tC (.int (-1))) (tCons (tC (.int (-1))) (tCons (tVar 2) tNil))))) [5])) (gName 3))
  (tSeq (tAsg (tLc (iList G.K (tFld G.K (tVar 1) "finals")) (gName 5) tYes (tOp (rI0 fun i j => .int (i + j)) (tVar 5) (tVar 2)) [5]) (gName 4))
  (tRet (tCall (sp_finished G) [] E0 (tCons (tMake G.cM (sp_Machine_init G) [] E0 (tCons (tOp (rI0 fun i j => .int (i + j)) (tFld G.K (tVar 0) "states") (tFld G.K (tVar 1) "states")) (tCons (tVar 4) (tCons (tVar 3) tNil)))) (tCons (tCall (sp_follow_numbers G) [] E0 (tCons (tVar 0) (tCons (tVar 1) tNil))) tNil)))))))
/-- slots: 0 a, 1 arcs, 2 state -/
def t_again (G : Gs) : TS :=
  (tSeq (tAsg (tOp rCat (tLst (tCons (tTup (tCons (tC (.int 0)) (tCons (tC (.int (-1))) (tCons (tC (.int (-1))) (tCons (tC (.int 1)) tNil))))) tNil)) (tCall (sp_moved G) [] E0 (tCons (tFld G.K (tVar 0) "arcs") (tCons (tC (.int 1)) tNil)))) (gName 1))
  (tSeq (tAsg (tOp rCat (tVar 1) (tLc (iList G.K (tFld G.K (tVar 0) "finals")) (gName 2) tYes (tTup (tCons (tOp (rI0 fun i j => .int (i + j)) (tVar 2) (tC (.int 1))) (tCons (tC (.int (-1))) (tCons (tC (.int (-1))) (tCons (tC (.int 0)) tNil))))) [2])) (gName 1))
  (tRet (tCall (sp_finished G) [] E0 (tCons (tMake G.cM (sp_Machine_init G) [] E0 (tCons (tOp (rI0 fun i j => .int (i + j)) (tFld G.K (tVar 0) "states") (tC (.int 1))) (tCons (tLst (tCons (tC (.int 0)) tNil)) (tCons (tVar 1) tNil)))) (tCons (tCall (sp_again_numbers G) [] E0 (tCons (tVar 0) tNil)) tNil))))))
/-- slots: 0 a, 1 b, 2 finals, 3 state, 4 other -/
def t_behind (G : Gs) : TS :=
  (tSeq (tAsg (tLst tNil) (gName 2))
  (tSeq (tFor (iList G.K (tFld G.K (tVar 0) "finals")) (gName 3)
  (tDrop (tBM G.K "list" rExtend (tVar 2) (tCons (tLc (iList G.K (tFld G.K (tVar 1) "finals")) (gName 4) tYes (tOp (rI0 fun i j => .int (i + j)) (tOp (rI CMul fun i j => .int (i * j)) (tVar 3) (tFld G.K (tVar 1) "states")) (tVar 4)) [4]) tNil))))
  (tRet (tCall (sp_finished G) [] E0 (tCons (tMake G.cM (sp_Machine_init G) [] E0 (tCons (tOp (rI CMul fun i j => .int (i * j)) (tFld G.K (tVar 0) "states") (tFld G.K (tVar 1) "states")) (tCons (tVar 2) (tCons (tCall (sp_behind_arcs G) [] E0 (tCons (tVar 0) (tCons (tVar 1) tNil))) tNil)))) (tCons (tCall (sp_behind_numbers G) [] E0 (tCons (tVar 0) (tCons (tVar 1) tNil))) tNil))))))
/-- slots: 0 a, 1 arcs, 2 start, 3 reads, 4 writes, 5 to -/
def t_keep (G : Gs) : TS :=
  (tSeq (tAsg (tLc (iList G.K (tFld G.K (tVar 0) "arcs")) (gTup G.K 4 (gCons (gName 2) (gCons (gName 3) (gCons (gName 4) (gCons (gName 5) gNil))))) tYes (tTup (tCons (tVar 2) (tCons (tVar 3) (tCons (tVar 3) (tCons (tVar 5) tNil))))) [2, 3, 4, 5]) (gName 1))
  (tRet (tCall (sp_finished G) [] E0 (tCons (tMake G.cM (sp_Machine_init G) [] E0 (tCons (tFld G.K (tVar 0) "states") (tCons (tCB (rListS G.K) (tCons (tFld G.K (tVar 0) "finals") tNil)) (tCons (tVar 1) tNil)))) (tCons (tLst (tCons (tFld G.K (tVar 0) "told_states") (tCons (tFld G.K (tVar 0) "told_arcs") tNil))) tNil)))))
/-- slots: 0 self, 1 closures, 2 spot, 3 rows, 4 many, 5 row -/
def t_Turning_lengths (G : Gs) : TS :=
  (tSeq (tAsg tDNewT (gName 1))
  (tSeq (tFor (iList G.K (tMeth G.cT "spots" (sp_Turning_spots G) [] E0 (tVar 0) tNil)) (gName 2)
  (sDPut (tVar 1) (tVar 2) (tMeth G.cT "closed" (sp_Turning_closed G) [] E0 (tVar 0) (tCons (tLst (tCons (tVar 2) tNil)) tNil))))
  (tSeq (tAsg (tLst (tCons tDNewT tNil)) (gName 3))
  (tSeq (tFor (iKeys (tFrz (tVar 1))) (gName 2)
  (tIfS (tB (tMeth G.cT "has_end" (sp_Turning_has_end G) [] E0 (tVar 0) (tCons (tDGet (tVar 1) (tVar 2)) tNil))) (sDPut (tOp (rIxL G.K) (tVar 3) (tC (.int 0))) (tVar 2) (tC (.bl true))) tNext))
  (tSeq (tFor (iRng1 (tCons (tC (.int (16))) tNil)) (gName 4)
  (tSeq (tAsg tDNewT (gName 5))
  (tSeq (tFor (iKeys (tVar 1)) (gName 2)
  (tIfS (tB (tMeth G.cT "leads" (sp_Turning_leads G) [] E0 (tVar 0) (tCons (tDGet (tVar 1) (tVar 2)) (tCons (tOp (rIxL G.K) (tVar 3) (tUn (rU fun i => .int (-i)) (tC (.int 1)))) tNil)))) (sDPut (tVar 5) (tVar 2) (tC (.bl true))) tNext))
  (tDrop (tBM G.K "list" rAppend (tVar 3) (tCons (tVar 5) tNil))))))
  (tRet (tVar 3)))))))
/-- slots: 0 self, 1 spots, 2 many, 3 found, 4 left, 5 byte -/
def t_Answers_least_rest (G : Gs) : TS :=
  (tSeq (tAsg (tLst tNil) (gName 3))
  (tSeq (tFor (iRevR (tRg1 (tVar 2))) (gName 4)
  (tSeq (tAsg (tMeth G.cT "least_byte" (sp_Turning_least_byte G) [] E0 (tFld G.K (tVar 0) "turning") (tCons (tVar 1) (tCons (tOp (rIxL G.K) (tFld G.K (tVar 0) "rows") (tVar 4)) (tCons (tC (.int 0)) tNil)))) (gName 5))
  (tSeq (tDrop (tBM G.K "list" rAppend (tVar 3) (tCons (tVar 5) tNil)))
  (tAsg (tMeth G.cT "step" (sp_Turning_step G) [] E0 (tFld G.K (tVar 0) "turning") (tCons (tVar 1) (tCons (tVar 5) tNil))) (gName 1)))))
  (tRet (tVar 3))))
/-- slots: 0 self, 1 word, 2 found, 3 byte -/
def t_Answers_spots_along (G : Gs) : TS :=
  (tSeq (tAsg (tLst (tCons (tMeth G.cT "begin" (sp_Turning_begin G) [] E0 (tFld G.K (tVar 0) "turning") tNil) tNil)) (gName 2))
  (tSeq (tFor (iList G.K (tVar 1)) (gName 3)
  (tDrop (tBM G.K "list" rAppend (tVar 2) (tCons (tMeth G.cT "step" (sp_Turning_step G) [] E0 (tFld G.K (tVar 0) "turning") (tCons (tOp (rIxL G.K) (tVar 2) (tUn (rU fun i => .int (-i)) (tC (.int 1)))) (tCons (tVar 3) tNil))) tNil))))
  (tRet (tVar 2))))
/-- slots: 0 self, 1 machine, 2 word -/
def t_Answers_init (G : Gs) : TS :=
  (tSeq (sFld G.K (tVar 0) (tMake G.cT (sp_Turning_init G) [] E0 (tCons (tVar 1) (tCons (tVar 2) tNil))) "turning")
  (sFld G.K (tVar 0) (tMeth G.cT "lengths" (sp_Turning_lengths G) [] E0 (tFld G.K (tVar 0) "turning") tNil) "rows"))
/-- slots: 0 self, 1 many, 2 length -/
def t_Answers_first_from (G : Gs) : TS :=
  (tSeq (tFor (iRng2 (tCons (tVar 1) (tCons (tOp (rI0 fun i j => .int (i + j)) (tC (.int (16))) (tC (.int 1))) tNil))) (gName 2)
  (tIfS (tB (tDIn (tTup (tCons (tC (.int 0)) (tCons (tC (.int 0)) tNil))) (tOp (rIxL G.K) (tFld G.K (tVar 0) "rows") (tVar 2)))) (tRet (tLst (tCons (tMeth G.cA "least_rest" (sp_Answers_least_rest G) [] E0 (tVar 0) (tCons (tMeth G.cT "begin" (sp_Turning_begin G) [] E0 (tFld G.K (tVar 0) "turning") tNil) (tCons (tVar 2) tNil))) tNil))) tNext))
  (tRet (tLst tNil)))
/-- slots: 0 self, 1 word -/
def t_Answers_holds (G : Gs) : TS :=
  (tRet (tMeth G.cT "has_end" (sp_Turning_has_end G) [] E0 (tFld G.K (tVar 0) "turning") (tCons (tOp (rIxL G.K) (tMeth G.cA "spots_along" (sp_Answers_spots_along G) [] E0 (tVar 0) (tCons (tVar 1) tNil)) (tUn (rU fun i => .int (-i)) (tC (.int 1)))) tNil)))
/-- slots: 0 machine, 1 word, 2 turning, 3 circling, 4 spot -/
def t_is_endless (G : Gs) : TS :=
  (tSeq (tAsg (tMake G.cT (sp_Turning_init G) [] E0 (tCons (tVar 0) (tCons (tVar 1) tNil))) (gName 2))
  (tSeq (tAsg (tCall (sp_circling_states G) [] E0 (tCons (tVar 0) tNil)) (gName 3))
  (tSeq (tFor (iKeys (tFrz (tCall (sp_reached_spots G) [] E0 (tCons (tVar 2) tNil)))) (gName 4)
  (tIfS (tAnd (tB (tDIn (tOp (rIxT G.K) (tVar 4) (tC (.int 1))) (tVar 3))) (tB (tCall (sp_leads_to_end G) [] E0 (tCons (tVar 2) (tCons (tVar 4) tNil))))) (tRet (tC (.bl true))) tNext))
  (tRet (tC (.bl false))))))
/-- slots: 0 word, 1 one, 2 other -/
def t_made_of_two (G : Gs) : TS :=
  (tSeq (tIfS (tTest (tOp rEq (tVar 0) (tC (.int (6))))) (tRet (tCall (sp_join G) [] E0 (tCons (tVar 1) (tCons (tVar 2) tNil)))) tNext)
  (tSeq (tIfS (tTest (tOp rEq (tVar 0) (tC (.int (7))))) (tRet (tCall (sp_follow G) [] E0 (tCons (tVar 1) (tCons (tVar 2) tNil)))) tNext)
  (tRet (tCall (sp_behind G) [] E0 (tCons (tVar 1) (tCons (tVar 2) tNil))))))
/-- slots: 0 self, 1 m -/
def t_Desk_new (G : Gs) : TS :=
  (tSeq (tIfS (tTest (tOp (rI0 fun i j => .bl (decide (j ≤ i))) (tVar 1) (tC (.int (6))))) (tRet (tLst (tCons (tUn (rU fun i => .int (-i)) (tC (.int 1))) tNil))) tNext)
  (tSeq (tAsg (tCall (sp_new_net G) [] E0 tNil) (gSub (tFld G.K (tVar 0) "places") (tVar 1) rSetL))
  (tRet (tLst (tCons (tC (.int 0)) tNil)))))
/-- slots: 0 self, 1 is_again, 2 d, 3 a, 4 refusal -/
def t_Desk_of_one (G : Gs) : TS :=
  (tSeq (tAsg (tMeth G.cD "refusal" (sp_Desk_refusal G) [] E0 (tVar 0) (tCons (tLst (tCons (tVar 3) tNil)) tNil)) (gName 4))
  (tSeq (tIfS (tTest (tOp (rI0 fun i j => .bl (decide (i < j))) (tVar 4) (tC (.int 0)))) (tRet (tLst (tCons (tVar 4) tNil))) tNext)
  (tSeq (tIfS (tTest (tOp (rI0 fun i j => .bl (decide (j ≤ i))) (tVar 2) (tC (.int (6))))) (tRet (tLst (tCons (tUn (rU fun i => .int (-i)) (tC (.int 1))) tNil))) tNext)
  (tSeq (tIfS (tNot (tB (tVar 1))) (tSeq (tAsg (tCall (sp_keep G) [] E0 (tCons (tOp (rIxL G.K) (tFld G.K (tVar 0) "places") (tVar 3)) tNil)) (gSub (tFld G.K (tVar 0) "places") (tVar 2) rSetL))
  (tRet (tLst (tCons (tC (.int 0)) tNil)))) tNext)
  (tSeq (tIfS (tB (tCall (sp_is_too_great G) [] E0 (tCons (tCall (sp_again_numbers G) [] E0 (tCons (tOp (rIxL G.K) (tFld G.K (tVar 0) "places") (tVar 3)) tNil)) tNil))) (tRet (tLst (tCons (tUn (rU fun i => .int (-i)) (tC (.int 2))) tNil))) tNext)
  (tSeq (tAsg (tCall (sp_again G) [] E0 (tCons (tOp (rIxL G.K) (tFld G.K (tVar 0) "places") (tVar 3)) tNil)) (gSub (tFld G.K (tVar 0) "places") (tVar 2) rSetL))
  (tRet (tLst (tCons (tC (.int 0)) tNil)))))))))
/-- slots: 0 self, 1 word, 2 spots, 3 k, 4 left, 5 byte, 6 rest -/
def t_Answers_next_after (G : Gs) : TS :=
  (tSeq (tAsg (tMeth G.cA "spots_along" (sp_Answers_spots_along G) [] E0 (tVar 0) (tCons (tVar 1) tNil)) (gName 2))
  (tSeq (tFor (iRevR (tRg1 (tCB (rLenS G.K) (tCons (tVar 1) tNil)))) (gName 3)
  (tSeq (tAsg (tOp (rI0 fun i j => .int (i - j)) (tOp (rI0 fun i j => .int (i - j)) (tCB (rLenS G.K) (tCons (tVar 1) tNil)) (tVar 3)) (tC (.int 1))) (gName 4))
  (tSeq (tAsg (tMeth G.cT "least_byte" (sp_Turning_least_byte G) [] E0 (tFld G.K (tVar 0) "turning") (tCons (tOp (rIxL G.K) (tVar 2) (tVar 3)) (tCons (tOp (rIxL G.K) (tFld G.K (tVar 0) "rows") (tVar 4)) (tCons (tOp (rI0 fun i j => .int (i + j)) (tOp (rIxL G.K) (tVar 1) (tVar 3)) (tC (.int 1))) tNil)))) (gName 5))
  (tIfS (tTest (tOp (rI0 fun i j => .bl (decide (j ≤ i))) (tVar 5) (tC (.int 0)))) (tSeq (tAsg (tMeth G.cA "least_rest" (sp_Answers_least_rest G) [] E0 (tVar 0) (tCons (tMeth G.cT "step" (sp_Turning_step G) [] E0 (tFld G.K (tVar 0) "turning") (tCons (tOp (rIxL G.K) (tVar 2) (tVar 3)) (tCons (tVar 5) tNil))) (tCons (tVar 4) tNil))) (gName 6))
  (tRet (tLst (tCons (tOp rCat (tOp rCat (tSl (rSlL G.K) (tVar 1) tNoPart (tPart (tVar 3))) (tLst (tCons (tVar 5) tNil))) (tVar 6)) tNil)))) tNext))))
  (tRet (tMeth G.cA "first_from" (sp_Answers_first_from G) [] E0 (tVar 0) (tCons (tOp (rI0 fun i j => .int (i + j)) (tCB (rLenS G.K) (tCons (tVar 1) tNil)) (tC (.int 1))) tNil)))))
/-- slots: 0 self, 1 word, 2 d, 3 a, 4 b, 5 refusal, 6 one, 7 other -/
def t_Desk_of_two (G : Gs) : TS :=
  (tSeq (tAsg (tMeth G.cD "refusal" (sp_Desk_refusal G) [] E0 (tVar 0) (tCons (tLst (tCons (tVar 3) (tCons (tVar 4) tNil))) tNil)) (gName 5))
  (tSeq (tIfS (tTest (tOp (rI0 fun i j => .bl (decide (i < j))) (tVar 5) (tC (.int 0)))) (tRet (tLst (tCons (tVar 5) tNil))) tNext)
  (tSeq (tIfS (tTest (tOp (rI0 fun i j => .bl (decide (j ≤ i))) (tVar 2) (tC (.int (6))))) (tRet (tLst (tCons (tUn (rU fun i => .int (-i)) (tC (.int 1))) tNil))) tNext)
  (tSeq (tPar 6 7 (tCons (tOp (rIxL G.K) (tFld G.K (tVar 0) "places") (tVar 3)) (tCons (tOp (rIxL G.K) (tFld G.K (tVar 0) "places") (tVar 4)) tNil)))
  (tSeq (tIfS (tB (tCall (sp_is_too_great G) [] E0 (tCons (tCall (sp_numbers_of_two G) [] E0 (tCons (tVar 1) (tCons (tVar 6) (tCons (tVar 7) tNil)))) tNil))) (tRet (tLst (tCons (tUn (rU fun i => .int (-i)) (tC (.int 2))) tNil))) tNext)
  (tSeq (tAsg (tCall (sp_made_of_two G) [] E0 (tCons (tVar 1) (tCons (tVar 6) (tCons (tVar 7) tNil)))) (gSub (tFld G.K (tVar 0) "places") (tVar 2) rSetL))
  (tRet (tLst (tCons (tC (.int 0)) tNil)))))))))
/-- slots: 0 self, 1 m, 2 word -/
def t_Desk_endless (G : Gs) : TS :=
  (tSeq (tIfS (tTest (tOp (rI0 fun i j => .bl (decide (j < i))) (tCB (rLenS G.K) (tCons (tVar 2) tNil)) (tC (.int (16))))) (tRet (tLst (tCons (tUn (rU fun i => .int (-i)) (tC (.int 2))) tNil))) tNext)
  (tRet (tLst (tCons (tCB rInt1 (tCons (tCall (sp_is_endless G) [] E0 (tCons (tOp (rIxL G.K) (tFld G.K (tVar 0) "places") (tVar 1)) (tCons (tVar 2) tNil))) tNil)) tNil))))
/-- slots: 0 self, 1 m, 2 word -/
def t_Desk_next_word (G : Gs) : TS :=
  (tSeq (tIfS (tTest (tOp (rI0 fun i j => .bl (decide (j < i))) (tCB (rLenS G.K) (tCons (tVar 2) tNil)) (tC (.int (16))))) (tRet (tLst (tCons (tUn (rU fun i => .int (-i)) (tC (.int 2))) tNil))) tNext)
  (tRet (tCall (sp_told_word G) [] E0 (tCons (tMeth G.cA "first_from" (sp_Answers_first_from G) [] E0 (tMake G.cA (sp_Answers_init G) [] E0 (tCons (tOp (rIxL G.K) (tFld G.K (tVar 0) "places") (tVar 1)) (tCons (tVar 2) tNil))) (tCons (tC (.int 0)) tNil)) tNil))))
/-- slots: 0 self, 1 m, 2 word, 3 before -/
def t_Desk_later (G : Gs) : TS :=
  (tSeq (tIfS (tOr (tTest (tOp (rI0 fun i j => .bl (decide (j < i))) (tCB (rLenS G.K) (tCons (tVar 2) tNil)) (tC (.int (16))))) (tTest (tOp (rI0 fun i j => .bl (decide (j < i))) (tCB (rLenS G.K) (tCons (tVar 3) tNil)) (tC (.int (16)))))) (tRet (tLst (tCons (tUn (rU fun i => .int (-i)) (tC (.int 2))) tNil))) tNext)
  (tRet (tCall (sp_told_word G) [] E0 (tCons (tMeth G.cA "next_after" (sp_Answers_next_after G) [] E0 (tMake G.cA (sp_Answers_init G) [] E0 (tCons (tOp (rIxL G.K) (tFld G.K (tVar 0) "places") (tVar 1)) (tCons (tVar 2) tNil))) (tCons (tVar 3) tNil)) tNil))))
/-- slots: 0 self, 1 m, 2 word, 3 other -/
def t_Desk_holds (G : Gs) : TS :=
  (tSeq (tIfS (tOr (tTest (tOp (rI0 fun i j => .bl (decide (j < i))) (tCB (rLenS G.K) (tCons (tVar 2) tNil)) (tC (.int (16))))) (tTest (tOp (rI0 fun i j => .bl (decide (j < i))) (tCB (rLenS G.K) (tCons (tVar 3) tNil)) (tC (.int (16)))))) (tRet (tLst (tCons (tUn (rU fun i => .int (-i)) (tC (.int 2))) tNil))) tNext)
  (tRet (tLst (tCons (tCB rInt1 (tCons (tMeth G.cA "holds" (sp_Answers_holds G) [] E0 (tMake G.cA (sp_Answers_init G) [] E0 (tCons (tOp (rIxL G.K) (tFld G.K (tVar 0) "places") (tVar 1)) (tCons (tVar 2) tNil))) (tCons (tVar 3) tNil)) tNil)) tNil))))
/-- slots: 0 desk, 1 word, 2 numbers -/
def t_making (G : Gs) : TS :=
  (tSeq (tIfS (tTest (tOp rEq (tVar 1) (tC (.int (1))))) (tRet (tMeth G.cD "new" (sp_Desk_new G) [] E0 (tVar 0) (tCons (tOp (rIxL G.K) (tVar 2) (tC (.int 0))) tNil))) tNext)
  (tSeq (tIfS (tTest (tOp rEq (tCB (rLenS G.K) (tCons (tVar 2) tNil)) (tC (.int 3)))) (tRet (tMeth G.cD "of_two" (sp_Desk_of_two G) [] E0 (tVar 0) (tCons (tVar 1) (tCons (tOp (rIxL G.K) (tVar 2) (tC (.int 0))) (tCons (tOp (rIxL G.K) (tVar 2) (tC (.int 1))) (tCons (tOp (rIxL G.K) (tVar 2) (tC (.int 2))) tNil)))))) tNext)
  (tRet (tMeth G.cD "of_one" (sp_Desk_of_one G) [] E0 (tVar 0) (tCons (tOp rEq (tVar 1) (tC (.int (8)))) (tCons (tOp (rIxL G.K) (tVar 2) (tC (.int 0))) (tCons (tOp (rIxL G.K) (tVar 2) (tC (.int 1))) tNil)))))))
/-- slots: 0 desk, 1 word, 2 m, 3 lists -/
def t_of_words (G : Gs) : TS :=
  (tSeq (tIfS (tTest (tOp rEq (tVar 1) (tC (.int 12)))) (tRet (tMeth G.cD "next_word" (sp_Desk_next_word G) [] E0 (tVar 0) (tCons (tVar 2) (tCons (tOp (rIxL G.K) (tVar 3) (tC (.int 0))) tNil)))) tNext)
  (tSeq (tIfS (tTest (tOp rEq (tVar 1) (tC (.int 13)))) (tRet (tMeth G.cD "later" (sp_Desk_later G) [] E0 (tVar 0) (tCons (tVar 2) (tCons (tOp (rIxL G.K) (tVar 3) (tC (.int 0))) (tCons (tOp (rIxL G.K) (tVar 3) (tC (.int 1))) tNil))))) tNext)
  (tSeq (tIfS (tTest (tOp rEq (tVar 1) (tC (.int 14)))) (tRet (tMeth G.cD "holds" (sp_Desk_holds G) [] E0 (tVar 0) (tCons (tVar 2) (tCons (tOp (rIxL G.K) (tVar 3) (tC (.int 0))) (tCons (tOp (rIxL G.K) (tVar 3) (tC (.int 1))) tNil))))) tNext)
  (tRet (tMeth G.cD "endless" (sp_Desk_endless G) [] E0 (tVar 0) (tCons (tVar 2) (tCons (tOp (rIxL G.K) (tVar 3) (tC (.int 0))) tNil)))))))
/-- slots: 0 desk, 1 word, 2 numbers, 3 lists, 4 refusal -/
def t_of_place (G : Gs) : TS :=
  (tSeq (tAsg (tMeth G.cD "refusal" (sp_Desk_refusal G) [] E0 (tVar 0) (tCons (tSl (rSlL G.K) (tVar 2) tNoPart (tPart (tC (.int 1)))) tNil)) (gName 4))
  (tSeq (tIfS (tTest (tOp (rI0 fun i j => .bl (decide (i < j))) (tVar 4) (tC (.int 0)))) (tRet (tLst (tCons (tVar 4) tNil))) tNext)
  (tSeq (tIfS (tTest (tOp rEq (tVar 1) (tC (.int 2)))) (tRet (tMeth G.cD "state" (sp_Desk_state G) [] E0 (tVar 0) (tCons (tOp (rIxL G.K) (tVar 2) (tC (.int 0))) tNil))) tNext)
  (tSeq (tIfS (tTest (tOp rEq (tVar 1) (tC (.int 3)))) (tRet (tMeth G.cD "final" (sp_Desk_final G) [] E0 (tVar 0) (tCons (tOp (rIxL G.K) (tVar 2) (tC (.int 0))) (tCons (tOp (rIxL G.K) (tVar 2) (tC (.int 1))) (tCons (tOp (rIxL G.K) (tVar 2) (tC (.int 2))) tNil))))) tNext)
  (tSeq (tIfS (tTest (tOp rEq (tVar 1) (tC (.int 4)))) (tRet (tMeth G.cD "arc" (sp_Desk_arc G) [] E0 (tVar 0) (tCons (tOp (rIxL G.K) (tVar 2) (tC (.int 0))) (tCons (tCB (rTupleS G.K) (tCons (tSl (rSlL G.K) (tVar 2) (tPart (tC (.int 1))) tNoPart) tNil)) tNil)))) tNext)
  (tSeq (tIfS (tTest (tOp rEq (tVar 1) (tC (.int 5)))) (tRet (tMeth G.cD "turn" (sp_Desk_turn G) [] E0 (tVar 0) (tCons (tOp (rIxL G.K) (tVar 2) (tC (.int 0))) tNil))) tNext)
  (tSeq (tIfS (tTest (tOp rEq (tVar 1) (tC (.int 11)))) (tRet (tMeth G.cD "size" (sp_Desk_size G) [] E0 (tVar 0) (tCons (tOp (rIxL G.K) (tVar 2) (tC (.int 0))) tNil))) tNext)
  (tRet (tCall (sp_of_words G) [] E0 (tCons (tVar 0) (tCons (tVar 1) (tCons (tOp (rIxL G.K) (tVar 2) (tC (.int 0))) (tCons (tVar 3) tNil)))))))))))))
/-- slots: 0 calls, 1 desk, 2 found, 3 at, 4 word, 5 end, 6 numbers, 7 lists, 8 k, 9 begin, 10 got -/
def t_answers (G : Gs) : TS :=
  (tSeq (tAsg (tMake G.cD (sp_Desk_init G) [] E0 tNil) (gName 1))
  (tSeq (tAsg (tLst tNil) (gName 2))
  (tSeq (tAsg (tC (.int 0)) (gName 3))
  (tSeq (tWhile (tTest (tOp (rI0 fun i j => .bl (decide (i < j))) (tVar 3) (tCB (rLenS G.K) (tCons (tVar 0) tNil))))
  (tSeq (tAsg (tOp (rIxL G.K) (tVar 0) (tVar 3)) (gName 4))
  (tSeq (tAsg (tOp (rI0 fun i j => .int (i + j)) (tOp (rI0 fun i j => .int (i + j)) (tVar 3) (tC (.int 1))) (tOp (rIxT G.K) (tC (.ref G.aNUMBERS)) (tVar 4))) (gName 5))
  (tSeq (tAsg (tSl (rSlL G.K) (tVar 0) (tPart (tOp (rI0 fun i j => .int (i + j)) (tVar 3) (tC (.int 1)))) (tPart (tVar 5))) (gName 6))
  (tSeq (tAsg (tLst tNil) (gName 7))
  (tSeq (tFor (iRng1 (tCons (tOp (rIxT G.K) (tC (.ref G.aLISTS)) (tVar 4)) tNil)) (gName 8)
  (tSeq (tAsg (tOp (rI0 fun i j => .int (i + j)) (tVar 5) (tC (.int 1))) (gName 9))
  (tSeq (tAsg (tOp (rI0 fun i j => .int (i + j)) (tVar 9) (tOp (rIxL G.K) (tVar 0) (tOp (rI0 fun i j => .int (i - j)) (tVar 9) (tC (.int 1))))) (gName 5))
  (tDrop (tBM G.K "list" rAppend (tVar 7) (tCons (tSl (rSlL G.K) (tVar 0) (tPart (tVar 9)) (tPart (tVar 5))) tNil))))))
  (tCut (tIfS (tTest (tOp (rIn G.K false) (tVar 4) (tTup (tCons (tC (.int 1)) (tCons (tC (.int 6)) (tCons (tC (.int 7)) (tCons (tC (.int 8)) (tCons (tC (.int 9)) (tCons (tC (.int 10)) tNil))))))))) (tAsg (tCall (sp_making G) [] E0 (tCons (tVar 1) (tCons (tVar 4) (tCons (tVar 6) tNil)))) (gName 10)) (tAsg (tCall (sp_of_place G) [] E0 (tCons (tVar 1) (tCons (tVar 4) (tCons (tVar 6) (tCons (tVar 7) tNil))))) (gName 10)))
  (tSeq (tDrop (tBM G.K "list" rAppend (tVar 2) (tCons (tCB (rLenS G.K) (tCons (tVar 10) tNil)) tNil)))
  (tSeq (tDrop (tBM G.K "list" rExtend (tVar 2) (tCons (tVar 10) tNil)))
  (tAsg (tVar 5) (gName 3)))))))))))
  (tRet (tVar 2))))))
end Tw

/-! # Small words for the readings -/
namespace Tw
open PySem PySem.Spec PyProof.Rows L2 Evl TW
theorem sz6 {n : Nat} (h : n ≤ 1000000) : n ≤ sizeLine := Nat.le_trans h (by decide)
theorem lt6 {n : Nat} (h : n ≤ 1000000) : n < sizeLine := Nat.lt_of_le_of_lt h (by decide)
theorem ne_at {H : Hp} {a b : Addr} {o u : HO} (h : H a = some o) (h' : H b = some u) (d : o ≠ u) : a ≠ b := ne_of h h' d
theorem lst_ne_ins {xs : List V} {C dx : Addr} {fs : List (Str × V)} : HO.lst xs ≠ HO.ins C dx fs := fun z => nomatch z
theorem up_ne {H : Hp} {a b : Addr} {o u : HO} (h : H b = some u) (n : b ≠ a) : upd H a o b = some u := by rw [upd_ne n]; exact h
/-- .. some kept -/
theorem lc_filter {α β : Type} {R : Hp → V → α → Prop} {R' : Hp → V → β → Prop} (m' : Tm R') {K : PySem.W.Frag} {a : Addr} {vs : List V} {l : List α} {g : TG} {tt : TT} {te : TE} {sl : List Nat} {σ : L2.St} {H1 : Hp} {D : Addr} {Qd : Hp → Prop} (c : α → Bool) (f : α → β)
    (hD : H1 D = none) (hl : H1 a = some (.lst vs)) (m : Tm R) (hp : Paired (R H1) vs l) (hz : l.length ≤ 500000)
    (hs : ∀ x y H (Q : V → Hp → Prop) (N : Hp → Prop), R H x y → y ∈ l → Ex H1 H → (c y = true → ∀ v H', Ex H H' → R' H' v (f y) → Q v H') → (c y = false → ∀ H', Ex H H' → N H') →
      g x (wipe σ sl) H fun σ2 H2 => wipe σ2 sl = wipe σ sl ∧ tt σ2 H2 fun b H3 => if b = true then te σ2 H3 Q else N H3)
    (hd : ∀ H, Ex H1 H → ListOf R' H D ((l.filter c).map f) → Qd H) :
    ∃ W : Nat → Nat → Hp → Prop, (∃ m, W 0 m (upd H1 D (.lst []))) ∧ ∀ i m H, W i m H →
      ((Itl K a).stop i H ∧ Qd H) ∨ ((Itl K a).go i H ∧ ∃ Nx : Hp → Prop, (∀ H', Nx H' → ∃ m', m' < m ∧ W (i + 1) m' H') ∧ ∀ x H', (Itl K a).yld i H x H' → g x (wipe σ sl) H' fun σ2 H2 => wipe σ2 sl = wipe σ sl ∧ tt σ2 H2 fun b H3 =>
        if b = true then te σ2 H3 fun y H4 => ∃ acc, H4 D = some (.lst acc) ∧ acc.length < sizeLine ∧ Nx (upd H4 D (.lst (acc ++ [y]))) else Nx H3) := by
  have hlen : vs.length = l.length := Paired.length hp
  refine lc_list (xs := vs) (fun i H => Ex H1 H ∧ ∃ ys, H D = some (.lst ys) ∧ Paired (R' H) ys (((l.take i).filter c).map f)) ⟨Ex.new hD, [], upd_same, .nil⟩ (fun i H _ p => .of (p.1 _ _ hl)) (fun i x H hi p => ?_) (fun H p => ?_)
  · obtain ⟨e, ys, hy, py⟩ := p
    obtain ⟨y, hy2, ry⟩ := paired_at hp hi
    have hmem : y ∈ l := List.mem_of_getElem? hy2
    have et : l.take (i + 1) = l.take i ++ [y] := by
      rw [List.take_succ, hy2]
      rfl
    have hlen2 : ys.length ≤ l.length := by
      have q : ys.length = (((l.take i).filter c).map f).length := Paired.length py
      rw [List.length_map] at q
      have q2 := List.length_filter_le c (l.take i)
      rw [List.length_take] at q2
      omega
    refine hs x y H _ _ (m _ _ _ _ (ex_tups e) ry) hmem e (fun hc v H' e2 rv => ?_) (fun hc H' e2 => ?_)
    · refine ⟨ys, e2 _ _ hy, lt6 (by omega), Ex.mut (e.trans e2) hD, ys ++ [v], upd_same, ?_⟩
      rw [et, List.filter_append, List.map_append]
      have t : Tups H' (upd H' D (.lst (ys ++ [v]))) := tups_upd (e2 _ _ hy) (fun _ z => nomatch z)
      have e3 : [y].filter c = [y] := by simp [hc]
      rw [e3]
      exact paired_app (pm m' ((ex_tups e2).trans t) py) (.cons (m' _ _ _ _ t rv) .nil)
    · refine ⟨e.trans e2, ys, e2 _ _ hy, ?_⟩
      have e3 : [y].filter c = [] := by simp [hc]
      rw [et, List.filter_append, e3, List.append_nil]
      exact pm m' (ex_tups e2) py
  · obtain ⟨e, ys, hy, py⟩ := p
    rw [hlen, List.take_length] at py
    exact hd H e ⟨ys, hy, py⟩
/-- .. all kept -/
theorem lc_map {α β : Type} {R : Hp → V → α → Prop} {R' : Hp → V → β → Prop} (m' : Tm R') {K : PySem.W.Frag} {a : Addr} {vs : List V} {l : List α} {g : TG} {te : TE} {sl : List Nat} {σ : L2.St} {H1 : Hp} {D : Addr} {Qd : Hp → Prop} (f : α → β)
    (hD : H1 D = none) (hl : H1 a = some (.lst vs)) (m : Tm R) (hp : Paired (R H1) vs l) (hz : l.length ≤ 500000)
    (hs : ∀ x y H (Q : V → Hp → Prop) (N : Hp → Prop), R H x y → y ∈ l → Ex H1 H → (∀ v H', Ex H H' → R' H' v (f y) → Q v H') →
      g x (wipe σ sl) H fun σ2 H2 => wipe σ2 sl = wipe σ sl ∧ if true = true then te σ2 H2 Q else N H2)
    (hd : ∀ H, Ex H1 H → ListOf R' H D (l.map f) → Qd H) :
    ∃ W : Nat → Nat → Hp → Prop, (∃ m, W 0 m (upd H1 D (.lst []))) ∧ ∀ i m H, W i m H →
      ((Itl K a).stop i H ∧ Qd H) ∨ ((Itl K a).go i H ∧ ∃ Nx : Hp → Prop, (∀ H', Nx H' → ∃ m', m' < m ∧ W (i + 1) m' H') ∧ ∀ x H', (Itl K a).yld i H x H' → g x (wipe σ sl) H' fun σ2 H2 => wipe σ2 sl = wipe σ sl ∧ tYes σ2 H2 fun b H3 =>
        if b = true then te σ2 H3 fun y H4 => ∃ acc, H4 D = some (.lst acc) ∧ acc.length < sizeLine ∧ Nx (upd H4 D (.lst (acc ++ [y]))) else Nx H3) :=
  lc_filter m' (fun _ => true) f hD hl m hp hz (fun x y H Q N r hm e h1 _ => hs x y H Q N r hm e (h1 rfl)) (fun H e q => hd H e (by
    have e2 : l.filter (fun _ => true) = l := List.filter_eq_self.mpr fun _ _ => rfl
    rw [e2] at q
    exact q))
end Tw

/-! # What an expression gives, told by what it stands for -/
namespace Tw
open PySem PySem.Spec PyProof.Rows L2 Evl TW
def EL {α : Type} (R : Hp → V → α → Prop) (te : TE) (σ : L2.St) (H : Hp) (l : List α) : Prop := ∀ H1, Ex H H1 → ∀ Q : VK, (∀ p H2, Ex H1 H2 → ListOf R H2 p l → Q (.ref p) H2) → te σ H1 Q
def ELn {α : Type} (R : Hp → V → α → Prop) (te : TE) (σ : L2.St) (H : Hp) (l : List α) : Prop := ∀ H1, Ex H H1 → ∀ Q : VK, (∀ p H2, Ex H1 H2 → H1 p = none → ListOf R H2 p l → Q (.ref p) H2) → te σ H1 Q
def EU {α : Type} (R : Hp → V → α → Prop) (te : TE) (σ : L2.St) (H : Hp) (x : α) : Prop := ∀ H1, Ex H H1 → ∀ Q : VK, (∀ v H2, Ex H1 H2 → R H2 v x → Q v H2) → te σ H1 Q
section
variable {α β : Type} {R : Hp → V → α → Prop} {R' : Hp → V → β → Prop} {K : PySem.W.Frag} {σ : L2.St} {H H' : Hp} {ta tb te : TE} {v : V} {l l' : List α} {x : α}
theorem EL.mono (h : EL R te σ H l) (e : Ex H H') : EL R te σ H' l := fun H1 a Q q => h H1 (e.trans a) Q q
theorem ELn.mono (h : ELn R te σ H l) (e : Ex H H') : ELn R te σ H' l := fun H1 a Q q => h H1 (e.trans a) Q q
theorem EU.mono (h : EU R te σ H x) (e : Ex H H') : EU R te σ H' x := fun H1 a Q q => h H1 (e.trans a) Q q
theorem ELn.el (h : ELn R te σ H l) : EL R te σ H l := fun H1 a Q q => h H1 a Q fun p H2 e _ z => q p H2 e z
theorem el_var {i : Nat} {p : Addr} (m : Tm R) (h : σ[i]? = some (some (.ref p))) (hl : ListOf R H p l) : EL R (tVar i) σ H l := fun H1 e Q q => ⟨_, h, q p H1 (Ex.refl _) (hl.ex m e)⟩
theorem el_cat (m : Tm R) (ha : EL R ta σ H l) (hb : EL R tb σ H l') (hz : l.length + l'.length ≤ 1000000) : ELn R (tOp rCat ta tb) σ H (l ++ l') := fun H1 e Q q =>
  ha H1 e _ fun p H2 e2 h2 => hb H2 (e.trans e2) _ fun u H3 e3 h3 => by
    obtain ⟨xs, hx, px⟩ := h2.ex m e3
    obtain ⟨ys, hy, py⟩ := h3
    refine ⟨p, u, xs, ys, rfl, rfl, hx, hy, sz6 (by rw [ListOf.len px, ListOf.len py]; exact hz), fun w hw => ?_⟩
    have e4 : Ex H3 (upd H3 w (.lst (xs ++ ys))) := Ex.new hw
    exact q w _ ((e2.trans e3).trans e4) (fresh_back (e2.trans e3) hw) ⟨_, upd_same, paired_app (pm m (ex_tups e4) px) (pm m (ex_tups e4) py)⟩
theorem eu_of {ta : TA} {vs : List V} (h : EvA ta σ H vs) (hl : vs.length ≤ 100000) (hR : ∀ p H1, H1 p = some (.tup vs) → R H1 (.ref p) x) : EU R (tTup ta) σ H x := fun H1 e Q q =>
  Evl.eu_tup h hl H1 e Q fun p H2 _ e2 h2 => q _ _ e2 (hR p H2 h2)
theorem el_nil (m : Tm R) : ELn R (tLst tNil) σ H ([] : List α) := fun H1 e Q q => ⟨by show 0 ≤ sizeLine; decide, fun p hp => q p _ (Ex.new hp) hp ⟨_, upd_same, .nil⟩⟩
/-- one more at the front of a display -/
def EAs (R : Hp → V → α → Prop) (ta : TA) (σ : L2.St) (H : Hp) (l : List α) : Prop := ∀ H1, Ex H H1 → ∀ Q : List V → Hp → Prop, (∀ vs H2, Ex H1 H2 → Paired (R H2) vs l → Q vs H2) → ta σ H1 Q
theorem eas_nil : EAs R tNil σ H ([] : List α) := fun H1 e Q q => q _ _ (Ex.refl _) .nil
theorem eas_cons {tr : TA} (m : Tm R) (h : EU R te σ H x) (hr : EAs R tr σ H l) : EAs R (tCons te tr) σ H (x :: l) := fun H1 e Q q =>
  h H1 e _ fun v H2 e2 r => hr H2 (e.trans e2) _ fun vs H3 e3 p => q _ _ (e2.trans e3) (.cons (m _ _ _ _ (ex_tups e3) r) p)
theorem el_disp {ta : TA} (m : Tm R) (h : EAs R ta σ H l) (hz : l.length ≤ 1000000) : ELn R (tLst ta) σ H l := fun H1 e Q q =>
  h H1 e _ fun vs H2 e2 p => ⟨sz6 (by rw [ListOf.len p]; exact hz), fun u hu => q u _ (e2.trans (Ex.new hu)) (fresh_back e2 hu) ⟨_, upd_same, pm m (ex_tups (Ex.new hu)) p⟩⟩
/-- [e for x in xs] -/
theorem el_map {g : TG} {sl : List Nat} (m : Tm R) (m' : Tm R') (f : α → β) (ha : EL R ta σ H l) (hz : l.length ≤ 500000)
    (hs : ∀ x y H1 (Q : V → Hp → Prop) (N : Hp → Prop), R H1 x y → y ∈ l → Ex H H1 → (∀ v H', Ex H1 H' → R' H' v (f y) → Q v H') → g x (wipe σ sl) H1 fun σ2 H2 => wipe σ2 sl = wipe σ sl ∧ if true = true then te σ2 H2 Q else N H2) :
    ELn R' (tLc (iList K ta) g tYes te sl) σ H (l.map f) := fun H1 e Q q =>
  ha H1 e _ fun p H2 e2 ⟨xs, hx, px⟩ => ⟨p, rfl, ⟨_, .of hx⟩, fun D hD => lc_map (R := R) (R' := R') m' f hD hx m px hz (fun x y H3 Q1 N r hm e3 k => hs x y H3 Q1 N r hm ((e.trans e2).trans e3) k) fun H3 e3 hl => q D _ (e2.trans e3) (fresh_back e2 hD) hl⟩
theorem el_filter {g : TG} {tt : TT} {sl : List Nat} (m : Tm R) (m' : Tm R') (c : α → Bool) (f : α → β) (ha : EL R ta σ H l) (hz : l.length ≤ 500000)
    (hs : ∀ x y H1 (Q : V → Hp → Prop) (N : Hp → Prop), R H1 x y → y ∈ l → Ex H H1 → (c y = true → ∀ v H', Ex H1 H' → R' H' v (f y) → Q v H') → (c y = false → ∀ H', Ex H1 H' → N H') →
      g x (wipe σ sl) H1 fun σ2 H2 => wipe σ2 sl = wipe σ sl ∧ tt σ2 H2 fun b H3 => if b = true then te σ2 H3 Q else N H3) :
    ELn R' (tLc (iList K ta) g tt te sl) σ H ((l.filter c).map f) := fun H1 e Q q =>
  ha H1 e _ fun p H2 e2 ⟨xs, hx, px⟩ => ⟨p, rfl, ⟨_, .of hx⟩, fun D hD => lc_filter (R := R) (R' := R') m' c f hD hx m px hz (fun x y H3 Q1 N r hm e3 k1 k2 => hs x y H3 Q1 N r hm ((e.trans e2).trans e3) k1 k2) fun H3 e3 hl => q D _ (e2.trans e3) (fresh_back e2 hD) hl⟩
/-- [e for k in range(n)] -/
theorem el_range {ta : TA} {j : Nat} {sl : List Nat} (m' : Tm R') (n : Nat) (f : Nat → β) (ha : EvA ta σ H [.int (n : Int)]) (hz : n ≤ 500000) (hw : ∀ x, wipe ((wipe σ sl).set j (some x)) sl = wipe σ sl)
    (hs : ∀ i H1, i < n → Ex H H1 → EU R' te ((wipe σ sl).set j (some (.int (i : Int)))) H1 (f i)) : ELn R' (tLc (iRng1 ta) (gName j) tYes te sl) σ H ((List.range n).map f) := fun H1 e Q q =>
  ha H1 e _ fun H2 e2 => ⟨n, rfl, by omega, by omega, fun D hD => by
    have e3 : ((n : Int)).toNat = n := Int.toNat_natCast n
    rw [e3]
    refine lc_range (lo := 0) (n := n) (fun i H3 => Ex H2 H3 ∧ ∃ ys, H3 D = some (.lst ys) ∧ Paired (R' H3) ys ((List.range i).map f)) ⟨Ex.new hD, [], upd_same, .nil⟩ (fun i H3 hi p => ?_) (fun H3 p => ?_)
    · obtain ⟨e4, ys, hy, py⟩ := p
      have e0 : (0 : Int) + (i : Int) = (i : Int) := Int.zero_add _
      show wipe ((wipe σ sl).set j (some (.int ((0 : Int) + (i : Int))))) sl = wipe σ sl ∧ tYes ((wipe σ sl).set j (some (.int ((0 : Int) + (i : Int))))) H3 _
      rw [e0]
      refine ⟨hw _, ?_⟩
      unfold tYes
      dsimp only
      rw [if_pos rfl]
      refine hs i H3 hi ((e.trans e2).trans e4) H3 (Ex.refl _) _ fun v H4 e5 rv => ?_
      have hlen : ys.length = ((List.range i).map f).length := Paired.length py
      rw [List.length_map, List.length_range] at hlen
      refine ⟨ys, e5 _ _ hy, lt6 (by omega), Ex.mut (e4.trans e5) hD, ys ++ [v], upd_same, ?_⟩
      have t : Tups H4 (upd H4 D (.lst (ys ++ [v]))) := tups_upd (e5 _ _ hy) (fun _ z => nomatch z)
      rw [List.range_succ, List.map_append]
      exact paired_app (pm m' ((ex_tups e5).trans t) py) (.cons (m' _ _ _ _ t rv) .nil)
    · obtain ⟨e4, ys, hy, py⟩ := p
      exact q D _ (e2.trans e4) (fresh_back e2 hD) ⟨ys, hy, py⟩⟩
/-- xs.extend(e), xs a list of this def's own -/
theorem s_ext {D : Ends} {w : Addr} {xs : List V} (hw : H w = some (.lst xs)) (ho : ∀ H1 Q, Q (.ref w) H1 → ta σ H1 Q) (he : EL R te σ H l) (hz : xs.length + l.length ≤ 1000000)
    (k : ∀ H1 ys, Ex H H1 → Paired (R H1) ys l → D.nx σ (upd H1 w (.lst (xs ++ ys)))) : tDrop (tBM K "list" rExtend ta (tCons te tNil)) D σ H :=
  ho H _ ⟨.inl ⟨rfl, _, .of hw⟩, he H (Ex.refl _) _ fun p H2 e ⟨ys, hy, py⟩ => ⟨w, p, xs, ys, rfl, rfl, e _ _ hw, hy, sz6 (by rw [ListOf.len py]; exact hz), k H2 ys e py⟩⟩
end
section
variable {G : Gs} {mg : Str → Option Value} {σ : L2.St} {H H' : Hp} {ta tb te : TE} {v : V}
theorem ev_fldM (T : Txt G mg) {a dx f r : Addr} {st ts ta' : Int} {b : Bool} {fld : Str} {v : V} (ha : Ev ta σ H (.ref a)) (h : H a = some (.ins G.cM dx (mF st f r ts ta' b))) (n : NoAttr G.K G.cM fld) (hl : (mF st f r ts ta' b).lookup fld = some v) : Ev (tFld G.K ta fld) σ H v := fun H1 e Q q =>
  ha H1 e _ fun H2 e2 => ⟨a, G.cM, dx, _, v, rfl, e2 _ _ (e _ _ h), T.k_M, n, hl, q H2 e2⟩
theorem el_fldL {α : Type} {R : Hp → V → α → Prop} (m : Tm R) {p : Addr} {l : List α} (ha : Ev ta σ H (.ref p)) (h : ListOf R H p l) : EL R ta σ H l := fun H1 e Q q => ha H1 e _ fun H2 e2 => q p H2 e2 (h.ex m (e.trans e2))
end
def NatAt (_ : Hp) (v : V) (n : Nat) : Prop := v = iv n
theorem tm_nat : Tm NatAt := fun _ _ _ _ _ h => h
theorem nats_paired (H : Hp) : ∀ l : List Nat, Paired (NatAt H) (l.map iv) l
  | [] => .nil
  | _ :: r => .cons rfl (nats_paired H r)
theorem nats_of {H : Hp} : ∀ {vs : List V} {l : List Nat}, Paired (NatAt H) vs l → vs = l.map iv
  | _, _, .nil => rfl
  | _, _, .cons r t => by
    rw [List.map_cons, ← nats_of t]
    cases r
    rfl
theorem sz4 : 4 ≤ sizeLine := by decide
theorem sz2 : 2 ≤ sizeLine := by decide
theorem sz1 : 1 ≤ sizeLine := by decide
theorem sz0 : 0 ≤ sizeLine := by decide
section
variable {α : Type} {R : Hp → V → α → Prop} {σ : L2.St} {H : Hp} {te : TE} {v : V} {l : List α} {D : Ends} {tz : TS} {i : Nat}
theorem q_asgE (h : ELn R te σ H l) (k : ∀ p H1, Ex H H1 → H p = none → ListOf R H1 p l → tz D (σ.set i (some (.ref p))) H1) : tSeq (tAsg te (gName i)) tz D σ H := h H (Ex.refl _) _ fun p H1 e hp hl => k p H1 e hp hl
theorem s_asgE (h : ELn R te σ H l) (k : ∀ p H1, Ex H H1 → H p = none → ListOf R H1 p l → D.nx (σ.set i (some (.ref p))) H1) : tAsg te (gName i) D σ H := h H (Ex.refl _) _ fun p H1 e hp hl => k p H1 e hp hl
theorem s_retE (h : ELn R te σ H l) (k : ∀ p H1, Ex H H1 → H p = none → ListOf R H1 p l → D.rt (.ref p) H1) : tRet te D σ H := h H (Ex.refl _) _ fun p H1 e hp hl => k p H1 e hp hl
theorem cons_go {tr : TA} {Q : List V → Hp → Prop} (h : Ev te σ H v) (k : ∀ H1, Ex H H1 → tr σ H1 fun xs H2 => Q (v :: xs) H2) : tCons te tr σ H Q := h H (Ex.refl _) _ k
theorem cons_goE {tr : TA} {Q : List V → Hp → Prop} (h : EL R te σ H l) (k : ∀ p H1, Ex H H1 → ListOf R H1 p l → tr σ H1 fun xs H2 => Q (.ref p :: xs) H2) : tCons te tr σ H Q := h H (Ex.refl _) _ k
end
section
variable {α : Type} {R : Hp → V → α → Prop} {K : PySem.W.Frag} {σ : L2.St} {H : Hp} {tl : TE} {l : List α} {D : Ends} {tu : TS} {g : TG}
/-- a for over a list that stands since H0 -/
theorem s_forK (m : Tm R) {H0 : Hp} {p : Addr} (hl : ListOf R H0 p l) (h : Ev tl σ H (.ref p)) (Pv : Nat → L2.St → Hp → Prop) (h0 : ∀ H1, Ex H H1 → Pv 0 σ H1) (he : ∀ i σ' H', Pv i σ' H' → Ex H0 H')
    (hs : ∀ i x v σ' H', l[i]? = some x → R H' v x → Pv i σ' H' → g v σ' H' fun σ2 H2 => tu { D with nx := Pv (i + 1), ct := Pv (i + 1), bk := D.nx } σ2 H2) (hd : ∀ σ' H', Pv l.length σ' H' → D.nx σ' H') : tFor (iList K tl) g tu D σ H := by
  obtain ⟨vs, hv, pv⟩ := hl
  have hlen : vs.length = l.length := Paired.length pv
  refine h H (Ex.refl _) _ fun H1 e1 => ⟨p, rfl, ⟨vs, .of (he _ _ _ (h0 H1 e1) _ _ hv)⟩, for_list (K := K) (a := p) (xs := vs) Pv (h0 H1 e1) (fun i σ' H' _ q => .of (he i σ' H' q _ _ hv)) (fun i v σ' H' hi q => ?_) fun σ' H' q => ?_⟩
  · obtain ⟨x, hx, r⟩ := paired_at pv hi
    exact hs i x v σ' H' hx (m _ _ _ _ (ex_tups (he _ _ _ q)) r) q
  · rw [hlen] at q
    exact hd σ' H' q
theorem q_forK {tz : TS} (m : Tm R) {H0 : Hp} {p : Addr} (hl : ListOf R H0 p l) (h : Ev tl σ H (.ref p)) (Pv : Nat → L2.St → Hp → Prop) (h0 : ∀ H1, Ex H H1 → Pv 0 σ H1) (he : ∀ i σ' H', Pv i σ' H' → Ex H0 H')
    (hs : ∀ i x v σ' H', l[i]? = some x → R H' v x → Pv i σ' H' → g v σ' H' fun σ2 H2 => tu { D with nx := Pv (i + 1), ct := Pv (i + 1), bk := tz D } σ2 H2) (hd : ∀ σ' H', Pv l.length σ' H' → tz D σ' H') : tSeq (tFor (iList K tl) g tu) tz D σ H :=
  s_forK (D := { D with nx := tz D }) m hl h Pv h0 he hs hd
/-- a for over a list that has just come -/
theorem s_forE (m : Tm R) (h : EL R tl σ H l) (Pv : Addr → Hp → Nat → L2.St → Hp → Prop) (h0 : ∀ p H1, Ex H H1 → Pv p H1 0 σ H1) (hk : ∀ p H1 i σ' H', Pv p H1 i σ' H' → Tups H1 H' ∧ ∀ o, H1 p = some o → H' p = some o)
    (hs : ∀ p H1 i x v σ' H', Ex H H1 → l[i]? = some x → R H' v x → (∃ vs : List V, H' p = some (.lst vs) ∧ vs[i]? = some v) → Pv p H1 i σ' H' → g v σ' H' fun σ2 H2 => tu { D with nx := Pv p H1 (i + 1), ct := Pv p H1 (i + 1), bk := D.nx } σ2 H2) (hd : ∀ p H1 σ' H', Ex H H1 → Pv p H1 l.length σ' H' → D.nx σ' H') : tFor (iList K tl) g tu D σ H := by
  refine h H (Ex.refl _) _ fun p H1 e1 ⟨vs, hv, pv⟩ => ?_
  have hlen : vs.length = l.length := Paired.length pv
  refine ⟨p, rfl, ⟨vs, .of hv⟩, for_list (K := K) (a := p) (xs := vs) (Pv p H1) (h0 p H1 e1) (fun i σ' H' _ q => .of ((hk p H1 i σ' H' q).2 _ hv)) (fun i v σ' H' hi q => ?_) fun σ' H' q => ?_⟩
  · obtain ⟨x, hx, r⟩ := paired_at pv hi
    exact hs p H1 i x v σ' H' e1 hx (m _ _ _ _ (hk _ _ _ _ _ q).1 r) ⟨vs, (hk _ _ _ _ _ q).2 _ hv, hi⟩ q
  · rw [hlen] at q
    exact hd p H1 σ' H' e1 q
theorem q_forE {tz : TS} (m : Tm R) (h : EL R tl σ H l) (Pv : Addr → Hp → Nat → L2.St → Hp → Prop) (h0 : ∀ p H1, Ex H H1 → Pv p H1 0 σ H1) (hk : ∀ p H1 i σ' H', Pv p H1 i σ' H' → Tups H1 H' ∧ ∀ o, H1 p = some o → H' p = some o)
    (hs : ∀ p H1 i x v σ' H', Ex H H1 → l[i]? = some x → R H' v x → (∃ vs : List V, H' p = some (.lst vs) ∧ vs[i]? = some v) → Pv p H1 i σ' H' → g v σ' H' fun σ2 H2 => tu { D with nx := Pv p H1 (i + 1), ct := Pv p H1 (i + 1), bk := tz D } σ2 H2) (hd : ∀ p H1 σ' H', Ex H H1 → Pv p H1 l.length σ' H' → tz D σ' H') : tSeq (tFor (iList K tl) g tu) tz D σ H :=
  s_forE (D := { D with nx := tz D }) m h Pv h0 hk hs hd
end
theorem take_more {α : Type} {l : List α} {i : Nat} {x : α} (h : l[i]? = some x) : l.take (i + 1) = l.take i ++ [x] := by
  rw [List.take_succ, h]
  rfl
theorem take_len {α : Type} {l : List α} {i : Nat} {x : α} (h : l[i]? = some x) : i < l.length := (List.getElem?_eq_some_iff.mp h).1
/-- the def's own list: new since H0, holding these -/
def Own {α : Type} (R : Hp → V → α → Prop) (H0 H : Hp) (p : Addr) (l : List α) : Prop := Ex H0 H ∧ H0 p = none ∧ ListOf R H p l
section
variable {α : Type} {R : Hp → V → α → Prop} {K : PySem.W.Frag} {σ : L2.St} {H H0 H' : Hp} {p : Addr} {ta te : TE} {l l' : List α} {x : α} {D : Ends}
theorem Own.ex (h : Own R H0 H p l) (m : Tm R) (e : Ex H H') : Own R H0 H' p l := ⟨h.1.trans e, h.2.1, h.2.2.ex m e⟩
/-- p.extend(e) -/
theorem own_ext (m : Tm R) (o : Own R H0 H p l) (ho : Ev ta σ H (.ref p)) (he : EL R te σ H l') (hz : l.length + l'.length ≤ 1000000) (k : ∀ H1, Own R H0 H1 p (l ++ l') → D.nx σ H1) : tDrop (tBM K "list" rExtend ta (tCons te tNil)) D σ H := by
  obtain ⟨e0, n0, xs, hx, px⟩ := o
  refine ho H (Ex.refl _) _ fun H1 e1 => ⟨.inl ⟨rfl, _, .of (e1 _ _ hx)⟩, he H1 e1 _ fun q H2 e2 ⟨ys, hy, py⟩ => ⟨p, q, xs, ys, rfl, rfl, e2 _ _ (e1 _ _ hx), hy, sz6 (by rw [ListOf.len px, ListOf.len py]; exact hz), k _ ⟨Ex.mut (e0.trans (e1.trans e2)) n0, n0, _, upd_same, ?_⟩⟩⟩
  have t : Tups H2 (upd H2 p (.lst (xs ++ ys))) := tups_upd (e2 _ _ (e1 _ _ hx)) (fun _ z => nomatch z)
  exact paired_app (pm m ((ex_tups (e1.trans e2)).trans t) px) (pm m t py)
/-- p.append(e) -/
theorem own_app (m : Tm R) (o : Own R H0 H p l) (ho : Ev ta σ H (.ref p)) (he : EU R te σ H x) (hz : l.length ≤ 999999) (k : ∀ H1, Own R H0 H1 p (l ++ [x]) → D.nx σ H1) : tDrop (tBM K "list" rAppend ta (tCons te tNil)) D σ H := by
  obtain ⟨e0, n0, xs, hx, px⟩ := o
  refine ho H (Ex.refl _) _ fun H1 e1 => ⟨.inl ⟨rfl, _, .of (e1 _ _ hx)⟩, he H1 e1 _ fun v H2 e2 r => ⟨p, xs, v, rfl, rfl, e2 _ _ (e1 _ _ hx), lt6 (by rw [ListOf.len px]; omega), k _ ⟨Ex.mut (e0.trans (e1.trans e2)) n0, n0, _, upd_same, ?_⟩⟩⟩
  have t : Tups H2 (upd H2 p (.lst (xs ++ [v]))) := tups_upd (e2 _ _ (e1 _ _ hx)) (fun _ z => nomatch z)
  exact paired_app (pm m ((ex_tups (e1.trans e2)).trans t) px) (.cons (m _ _ _ _ t r) .nil)
end
/-- p.append(e), what else stands -/
theorem own_app2 {α : Type} {R : Hp → V → α → Prop} {K : PySem.W.Frag} {σ : L2.St} {H H0 : Hp} {p : Addr} {ta te : TE} {l : List α} {x : α} {D : Ends} (m : Tm R) (o : Own R H0 H p l) (ho : Ev ta σ H (.ref p)) (he : EU R te σ H x) (hz : l.length ≤ 999999)
    (k : ∀ H1, Own R H0 H1 p (l ++ [x]) → Exc p H H1 → Tups H H1 → D.nx σ H1) : tDrop (tBM K "list" rAppend ta (tCons te tNil)) D σ H := by
  obtain ⟨e0, n0, xs, hx, px⟩ := o
  refine ho H (Ex.refl _) _ fun H1 e1 => ⟨.inl ⟨rfl, _, .of (e1 _ _ hx)⟩, he H1 e1 _ fun v H2 e2 r => ?_⟩
  have t : Tups H2 (upd H2 p (.lst (xs ++ [v]))) := tups_upd (e2 _ _ (e1 _ _ hx)) (fun _ z => nomatch z)
  refine ⟨p, xs, v, rfl, rfl, e2 _ _ (e1 _ _ hx), lt6 (by rw [ListOf.len px]; omega), k _ ⟨Ex.mut (e0.trans (e1.trans e2)) n0, n0, _, upd_same, ?_⟩ ((Exc.of (e1.trans e2)).trans Exc.upd) ((ex_tups (e1.trans e2)).trans t)⟩
  exact paired_app (pm m ((ex_tups (e1.trans e2)).trans t) px) (.cons (m _ _ _ _ t r) .nil)
def IntAt (_ : Hp) (v : V) (n : Int) : Prop := v = .int n
theorem tm_int : Tm IntAt := fun _ _ _ _ _ h => h
theorem ints_paired (H : Hp) : ∀ l : List Int, Paired (IntAt H) (l.map V.int) l
  | [] => .nil
  | _ :: r => .cons rfl (ints_paired H r)
theorem ints_of {H : Hp} : ∀ {vs : List V} {l : List Int}, Paired (IntAt H) vs l → vs = l.map V.int
  | _, _, .nil => rfl
  | _, _, .cons r t => by
    rw [List.map_cons, ← ints_of t]
    cases r
    rfl
theorem intL_of {H : Hp} {p : Addr} {l : List Int} (h : ListOf IntAt H p l) : IntL H p l := by
  obtain ⟨vs, hv, pv⟩ := h
  rw [ints_of pv] at hv
  exact hv
theorem of_intL {H : Hp} {p : Addr} {l : List Int} (h : IntL H p l) : ListOf IntAt H p l := ⟨_, h, ints_paired H l⟩
theorem eu_int {σ : L2.St} {H : Hp} {te : TE} {n : Int} (h : Ev te σ H (.int n)) : EU IntAt te σ H n := fun H1 e Q q => h H1 e _ fun H2 e2 => q _ H2 e2 rfl
end Tw

/-! # Readings: the machine's methods -/
namespace Tw
open PySem PySem.Spec PyProof.Rows L2 Evl TW
section
variable {G : Gs} {mg : Str → Option Value} {vs : List V} {H : Hp} {Q : VK} {E : XK}
abbrev endsOf (Q : VK) : Ends := { nx := fun _ H' => Q .non H', rt := Q }
theorem pure_Machine_init (T : Txt G mg) (h : sp_Machine_init G vs H Q E) : t_Machine_init G (endsOf Q) (start n_Machine_init vs) H := by
  obtain ⟨p, dx, st, f, r, rs, rfl, hp, hr, k⟩ := h
  have ne : r ≠ p := ne_of hr hp (fun z => nomatch z)
  refine ⟨_, rfl, _, rfl, p, G.cM, dx, _, rfl, hp, T.k_M, T.n_states, (by show 0 < 1000; decide), ?_⟩
  refine ⟨_, rfl, _, rfl, p, G.cM, dx, _, rfl, upd_same, T.k_M, T.n_finals, (by show 1 < 1000; decide), ?_⟩
  refine ⟨_, rfl, _, rfl, p, G.cM, dx, _, rfl, upd_same, T.k_M, T.n_arcs, (by show 2 < 1000; decide), ?_⟩
  refine ⟨_, rfl, _, rfl, p, G.cM, dx, _, rfl, upd_same, T.k_M, T.n_told_states, (by show 3 < 1000; decide), ?_⟩
  refine ⟨_, rfl, r, rs, rfl, .inl (.of (by rw [upd_ne ne, upd_ne ne, upd_ne ne, upd_ne ne]; exact hr)), _, rfl, p, G.cM, dx, _, rfl, upd_same, T.k_M, T.n_told_arcs, (by show 4 < 1000; decide), ?_⟩
  refine ⟨_, rfl, p, G.cM, dx, _, rfl, upd_same, T.k_M, T.n_is_built, (by show 5 < 1000; decide), ?_⟩
  rw [upd_upd, upd_upd, upd_upd, upd_upd, upd_upd]
  exact k
theorem pure_Machine_has_state (T : Txt G mg) (h : sp_Machine_has_state G vs H Q E) : t_Machine_has_state G (endsOf Q) (start n_Machine_has_state vs) H := by
  obtain ⟨a, n, dx, st, f, r, ts, ta, b, rfl, ha, k⟩ := h
  exact ⟨_, rfl, _, rfl, a, G.cM, dx, _, _, rfl, ha, T.k_M, T.n_states, rfl, _, _, rfl, rfl, k⟩
theorem pure_Machine_add_state (T : Txt G mg) (h : sp_Machine_add_state G vs H Q E) : t_Machine_add_state G (endsOf Q) (start n_Machine_add_state vs) H := by
  obtain ⟨a, dx, st, f, r, ts, ta, b, rfl, ha, k⟩ := h
  refine ⟨_, rfl, a, G.cM, dx, _, _, rfl, ha, T.k_M, T.n_states, rfl, _, _, rfl, rfl, dx, _, ha, (by show 6 < 1000; decide), ?_⟩
  refine ⟨_, rfl, a, G.cM, dx, _, _, rfl, upd_same, T.k_M, T.n_told_states, rfl, _, _, rfl, rfl, dx, _, upd_same, (by show 6 < 1000; decide), ?_⟩
  refine ⟨_, rfl, a, G.cM, dx, _, _, rfl, upd_same, T.k_M, T.n_states, rfl, _, _, rfl, rfl, ?_⟩
  rw [upd_upd]
  have e : st + 1 - 1 = st := by omega
  show Q (.int (st + 1 - 1)) _
  rw [e]
  exact k
theorem pure_Machine_add_arc (T : Txt G mg) (h : sp_Machine_add_arc G vs H Q E) : t_Machine_add_arc G (endsOf Q) (start n_Machine_add_arc vs) H := by
  obtain ⟨a, v, dx, st, f, r, ts, ta, b, rs, rfl, ha, hr, hz, k⟩ := h
  refine ⟨_, rfl, a, G.cM, dx, _, _, rfl, ha, T.k_M, T.n_arcs, rfl, _, rfl, (by show 1 ≤ sizeLine; decide), fun q hq => ?_⟩
  have e1 : Ex H (upd H q (.lst [v])) := Ex.new hq
  refine ⟨r, q, rs, [v], rfl, rfl, e1 _ _ hr, upd_same, sz6 (by show rs.length + 1 ≤ _; omega), fun p hp => ?_⟩
  have e2 := e1.trans (Ex.new (o := .lst (rs ++ [v])) hp)
  refine ⟨_, rfl, a, G.cM, dx, _, rfl, e2 _ _ ha, T.k_M, T.n_arcs, (by show 6 < 1000; decide), ?_⟩
  refine ⟨_, rfl, a, G.cM, dx, _, _, rfl, upd_same, T.k_M, T.n_told_arcs, rfl, _, _, rfl, rfl, dx, _, upd_same, (by show 6 < 1000; decide), ?_⟩
  rw [upd_upd]
  have hp0 : H p = none := fresh_back e1 hp
  refine k _ p hp0 ((Exc.of e2).trans Exc.upd) ?_ upd_same
  rw [upd_ne (fun z => by rw [z, ha] at hp0; cases hp0), upd_same]
theorem pure_Machine_set_final (T : Txt G mg) (h : sp_Machine_set_final G vs H Q E) : t_Machine_set_final G (endsOf Q) (start n_Machine_set_final vs) H := by
  obtain ⟨a, k, y, dx, st, f, r, ts, ta, b, fs, rfl, ha, hf, hz, kk⟩ := h
  refine ⟨_, rfl, a, G.cM, dx, _, _, rfl, ha, T.k_M, T.n_finals, rfl, f, rfl, ⟨_, .of hf⟩, fun D hD => ?_⟩
  refine lc_filter (R := NatAt) (R' := NatAt) tm_nat (fun s => s != k) id hD hf tm_nat (nats_paired H fs) (by omega) (fun x s H1 Q1 N1 hx _ _ q1 q2 => ?_) fun H1 e1 ⟨ys, hy, py⟩ => ?_
  · cases hx
    refine ⟨rfl, _, rfl, _, rfl, rfl, _, rfl, ?_⟩
    by_cases c : s = k
    · subst c
      have e : (!decide (iv s = iv s)) = false := by simp
      rw [e]
      exact iteF (q2 (by simp) H1 (Ex.refl H1))
    · have e : (!decide (iv s = iv k)) = true := by simp; omega
      rw [e]
      exact iteT ⟨_, rfl, q1 (by simp [c]) _ H1 (Ex.refl H1) rfl⟩
  · have ey := nats_of py
    subst ey
    rw [List.map_id] at hy
    -- rest + [number] * int(is_final)
    refine ⟨_, rfl, _, rfl, (by show 1 ≤ sizeLine; decide), fun q hq => ?_⟩
    have e2 := Ex.new (o := .lst [iv k]) hq
    refine ⟨_, rfl, .inr ⟨y, rfl, ?_⟩⟩
    refine ⟨q, _, [iv k], rfl, rfl, upd_same, (by cases y <;> decide), (by cases y <;> decide), sz6 (by cases y <;> simp), fun u hu => ?_⟩
    have e3 := e2.trans (Ex.new (o := .lst (List.flatten (List.replicate ((if y then (1 : Int) else 0)).toNat [iv k]))) hu)
    refine ⟨D, u, _, _, rfl, rfl, e3 _ _ hy, upd_same, sz6 ?_, fun p hp => ?_⟩
    · rw [List.length_map]
      have := List.length_filter_le (fun s => s != k) fs
      cases y <;> simp <;> omega
    · have e4 := e1.trans (e3.trans (Ex.new (o := .lst ((fs.filter fun s => s != k).map iv ++ List.flatten (List.replicate ((if y then (1 : Int) else 0)).toNat [iv k]))) hp))
      refine ⟨_, rfl, a, G.cM, dx, _, rfl, e4 _ _ ha, T.k_M, T.n_finals, (by show 6 < 1000; decide), ?_⟩
      have hp0 : H p = none := fresh_back (e1.trans e3) hp
      refine kk _ p hp0 ((Exc.of e4).trans Exc.upd) ?_ upd_same
      rw [upd_ne (fun z => by rw [z, ha] at hp0; cases hp0), upd_same]
      unfold setFin
      rw [List.map_append]
      cases y <;> rfl
theorem pure_Machine_turn (T : Txt G mg) (h : sp_Machine_turn G vs H Q E) : t_Machine_turn G (endsOf Q) (start n_Machine_turn vs) H := by
  obtain ⟨a, dx, st, f, r, ts, ta, b, l, rfl, ha, ⟨rs, hr, pr⟩, hz, k⟩ := h
  refine ⟨_, rfl, a, G.cM, dx, _, _, rfl, ha, T.k_M, T.n_arcs, rfl, r, rfl, ⟨_, .of hr⟩, fun D hD => ?_⟩
  refine lc_map (R := ArcAt) (R' := ArcAt) tm_arc PArc.turn hD hr tm_arc pr (by omega) (fun x c H1 Q1 N1 hx _ _ q1 => ?_) fun H1 e1 hl => ?_
  · obtain ⟨p, rfl, hp⟩ := hx
    refine ⟨p, _, rfl, .of hp, rfl, _, _, rfl, _, _, rfl, _, _, rfl, _, _, rfl, rfl, rfl, iteT ?_⟩
    exact ⟨_, rfl, _, rfl, _, rfl, _, rfl, sz4, fun q hq => q1 _ _ (Ex.new hq) ⟨q, rfl, upd_same⟩⟩
  · refine ⟨_, rfl, a, G.cM, dx, _, rfl, e1 _ _ ha, T.k_M, T.n_arcs, (by show 6 < 1000; decide), ?_⟩
    have hne : D ≠ a := fun z => by rw [z, ha] at hD; cases hD
    refine k _ D hD ((Exc.of e1).trans Exc.upd) (hl.keep tm_arc (tups_upd (e1 _ _ ha) (fun _ z => nomatch z)) fun o ho => by rw [upd_ne hne]; exact ho) upd_same
theorem pure_moved (T : Txt G mg) (h : sp_moved G vs H Q E) : t_moved G (endsOf Q) (start n_moved vs) H := by
  obtain ⟨r, n, l, rfl, ⟨rs, hr, pr⟩, hz, k⟩ := h
  refine ⟨_, rfl, r, rfl, ⟨_, .of hr⟩, fun D hD => ?_⟩
  refine lc_map (R := ArcAt) (R' := ArcAt) tm_arc (PArc.shift n) hD hr tm_arc pr (by omega) (fun x c H1 Q1 N1 hx _ _ q1 => ?_) fun H1 e1 hl => k H1 D e1 hD hl
  obtain ⟨p, rfl, hp⟩ := hx
  refine ⟨p, _, rfl, .of hp, rfl, _, _, rfl, _, _, rfl, _, _, rfl, _, _, rfl, rfl, rfl, iteT ?_⟩
  exact ⟨_, rfl, _, rfl, _, _, rfl, rfl, _, rfl, _, rfl, _, rfl, _, rfl, _, _, rfl, rfl, sz4, fun q hq => q1 _ _ (Ex.new hq) ⟨q, rfl, upd_same⟩⟩
theorem pure_is_too_great (T : Txt G mg) (h : sp_is_too_great G vs H Q E) : t_is_too_great G (endsOf Q) (start n_is_too_great vs) H := by
  obtain ⟨p, x, y, rfl, hp, k⟩ := h
  refine ⟨_, rfl, p, _, _, _, rfl, rfl, .of hp, rfl, _, _, rfl, rfl, _, rfl, ?_⟩
  by_cases c : 24 < x
  · rw [decide_eq_true c] at k ⊢
    exact iteT k
  · rw [decide_eq_false c] at k ⊢
    exact iteF ⟨_, rfl, p, _, _, _, rfl, rfl, .of hp, rfl, _, _, rfl, rfl, k⟩
theorem pure_finished (T : Txt G mg) (h : sp_finished G vs H Q E) : t_finished G (endsOf Q) (start n_finished vs) H := by
  obtain ⟨a, p, dx, st, f, r, ts, ta, b, x, y, rfl, ha, hp, k⟩ := h
  refine ⟨_, rfl, p, _, rfl, .of hp, rfl, _, _, rfl, _, rfl, a, G.cM, dx, _, rfl, ha, T.k_M, T.n_told_states, (by show 6 < 1000; decide), ?_⟩
  refine ⟨_, _, rfl, _, rfl, a, G.cM, dx, _, rfl, upd_same, T.k_M, T.n_told_arcs, (by show 6 < 1000; decide), rfl, ?_⟩
  refine ⟨_, rfl, a, G.cM, dx, _, rfl, upd_same, T.k_M, T.n_is_built, (by show 6 < 1000; decide), _, rfl, ?_⟩
  rw [upd_upd, upd_upd]
  exact k
theorem pure_join_numbers (T : Txt G mg) (h : sp_join_numbers G vs H Q E) : t_join_numbers G (endsOf Q) (start n_join_numbers vs) H := by
  obtain ⟨a, b, A, B, rfl, ⟨dx, f, r, ha, _, _⟩, ⟨dy, f2, r2, hb, _, _⟩, _, _, k⟩ := h
  refine ⟨_, rfl, a, G.cM, dx, _, _, rfl, ha, T.k_M, T.n_told_states, rfl, _, rfl, b, G.cM, dy, _, _, rfl, hb, T.k_M, T.n_told_states, rfl, _, _, rfl, rfl, _, _, rfl, rfl, ?_⟩
  refine ⟨_, rfl, a, G.cM, dx, _, _, rfl, ha, T.k_M, T.n_told_arcs, rfl, _, rfl, b, G.cM, dy, _, _, rfl, hb, T.k_M, T.n_told_arcs, rfl, _, _, rfl, rfl, _, _, rfl, rfl, sz2, fun p hp => ?_⟩
  exact k _ p (Ex.new hp) hp upd_same
theorem pure_follow_numbers (T : Txt G mg) (h : sp_follow_numbers G vs H Q E) : t_follow_numbers G (endsOf Q) (start n_follow_numbers vs) H := by
  obtain ⟨a, b, A, B, rfl, ⟨dx, f, r, ha, _, _⟩, ⟨dy, f2, r2, hb, _, _⟩, _, _, k⟩ := h
  refine ⟨_, rfl, a, G.cM, dx, _, _, rfl, ha, T.k_M, T.n_told_states, rfl, _, rfl, b, G.cM, dy, _, _, rfl, hb, T.k_M, T.n_told_states, rfl, _, _, rfl, rfl, ?_⟩
  refine ⟨_, rfl, a, G.cM, dx, _, _, rfl, ha, T.k_M, T.n_told_arcs, rfl, _, rfl, b, G.cM, dy, _, _, rfl, hb, T.k_M, T.n_told_arcs, rfl, _, _, rfl, rfl, _, rfl, a, G.cM, dx, _, _, rfl, ha, T.k_M, T.n_told_states, rfl, _, _, rfl, rfl, sz2, fun p hp => ?_⟩
  exact k _ p (Ex.new hp) hp upd_same
theorem pure_again_numbers (T : Txt G mg) (h : sp_again_numbers G vs H Q E) : t_again_numbers G (endsOf Q) (start n_again_numbers vs) H := by
  obtain ⟨a, A, rfl, ⟨dx, f, r, ha, _, _⟩, k⟩ := h
  refine ⟨_, rfl, a, G.cM, dx, _, _, rfl, ha, T.k_M, T.n_told_states, rfl, _, _, rfl, rfl, ?_⟩
  refine ⟨_, rfl, a, G.cM, dx, _, _, rfl, ha, T.k_M, T.n_told_arcs, rfl, _, rfl, a, G.cM, dx, _, _, rfl, ha, T.k_M, T.n_told_states, rfl, _, _, rfl, rfl, _, _, rfl, rfl, sz2, fun p hp => ?_⟩
  exact k _ p (Ex.new hp) hp upd_same
theorem cm_of {i j : Nat} (h : i ≤ 1000) : CMul (i : Int) (j : Int) := .inl ⟨by omega, by omega⟩
theorem pure_behind_numbers (T : Txt G mg) (h : sp_behind_numbers G vs H Q E) : t_behind_numbers G (endsOf Q) (start n_behind_numbers vs) H := by
  obtain ⟨a, b, A, B, rfl, ⟨dx, f, r, ha, _, _⟩, ⟨dy, f2, r2, hb, _, _⟩, oa, ob, k⟩ := h
  have c1 : A.ta ≤ 1000 := by have := oa.a2; omega
  have c2 : A.ts ≤ 1000 := by have := oa.s2; have := oa.ts; omega
  refine ⟨_, rfl, a, G.cM, dx, _, _, rfl, ha, T.k_M, T.n_told_arcs, rfl, _, rfl, b, G.cM, dy, _, _, rfl, hb, T.k_M, T.n_told_arcs, rfl, _, _, rfl, rfl, cm_of c1, ?_⟩
  refine ⟨_, rfl, a, G.cM, dx, _, _, rfl, ha, T.k_M, T.n_told_arcs, rfl, _, rfl, b, G.cM, dy, _, _, rfl, hb, T.k_M, T.n_told_states, rfl, _, _, rfl, rfl, cm_of c1, _, _, rfl, rfl, ?_⟩
  refine ⟨_, rfl, a, G.cM, dx, _, _, rfl, ha, T.k_M, T.n_told_states, rfl, _, rfl, b, G.cM, dy, _, _, rfl, hb, T.k_M, T.n_told_arcs, rfl, _, _, rfl, rfl, cm_of c2, _, _, rfl, rfl, ?_⟩
  refine ⟨_, rfl, a, G.cM, dx, _, _, rfl, ha, T.k_M, T.n_told_states, rfl, _, rfl, b, G.cM, dy, _, _, rfl, hb, T.k_M, T.n_told_states, rfl, _, _, rfl, rfl, cm_of c2, _, rfl, sz2, fun p hp => ?_⟩
  exact k _ p (Ex.new hp) hp upd_same
end
end Tw

/-! # Readings: machines made of machines -/
namespace Tw
open PySem PySem.Spec PyProof.Rows L2 Evl TW
section
variable {G : Gs} {mg : Str → Option Value} {vs : List V} {H : Hp} {Q : VK} {E : XK}
theorem ex_up {H H' : Hp} {x : Addr} {o : HO} (e : Ex H H') (n : H x = none) : Ex H (upd H' x o) := Ex.mut e n
theorem made_go (T : Txt G mg) {σ : L2.St} {H1 : Hp} {targs : TA} {tn : TE} {st : Nat} {fin : List Nat} {arcs : List PArc} {n1 n2 : Nat} (e : Ex H H1)
    (ha : ∀ K : List V → Hp → Prop, (∀ H2 f r, Ex H1 H2 → H f = none → H r = none → ListOf NatAt H2 f fin → ArcL H2 r arcs → K [iv st, .ref f, .ref r] H2) → targs σ H1 K)
    (hn : ∀ H2, Ex H1 H2 → ∀ K : VK, (∀ H3 p, Ex H2 H3 → H3 p = some (.lst [iv n1, iv n2]) → K (.ref p) H3) → tn σ H2 K)
    (k : ∀ H' c, Ex H H' → H c = none → MachNew G H H' c ⟨st, fin, arcs, n1, n2, true⟩ → Q (.ref c) H') :
    tCall (sp_finished G) [] E0 (tCons (tMake G.cM (sp_Machine_init G) [] E0 targs) (tCons tn tNil)) σ H1 Q := by
  refine ha _ fun H2 f r e2 nf nr hf hr x dx nx nd ne => ?_
  obtain ⟨fs, hf, pf⟩ := hf
  have ef := nats_of pf
  subst ef
  obtain ⟨rs, hr, pr⟩ := hr
  have rx : r ≠ x := fun z => by rw [z, nx] at hr; cases hr
  have rd : r ≠ dx := fun z => by rw [z, nd] at hr; cases hr
  have e3 : Ex H2 (upd (upd H2 dx (.own x)) x (.ins G.cM dx [])) := ex_up (Ex.new nd) nx
  refine ⟨x, dx, st, f, r, rs, rfl, upd_same, e3 _ _ hr, rfl, ?_⟩
  have e4 : Ex H2 (upd (upd (upd H2 dx (.own x)) x (.ins G.cM dx [])) x (.ins G.cM dx (mF st f r st rs.length false))) := ex_up e3 nx
  refine hn _ (e2.trans e4) _ fun H5 p e5 hp => ?_
  have e6 := (e.trans e2).trans (e4.trans e5)
  have hx0 : H x = none := fresh_back (e.trans e2) nx
  refine ⟨x, p, dx, _, f, r, _, _, _, _, _, rfl, e5 _ _ upd_same, hp, ?_⟩
  refine k _ x (ex_up e6 hx0) hx0 ⟨dx, f, r, upd_same, ?_, ?_, nf, nr⟩
  · rw [upd_ne (ne_of_none hf nx)]
    exact e5 _ _ (e4 _ _ hf)
  · refine ListOf.keep (H := H5) ⟨rs, e5 _ _ (e4 _ _ hr), pm tm_arc (ex_tups (e4.trans e5)) pr⟩ tm_arc (tups_upd (e5 _ _ upd_same) (fun _ z => nomatch z)) fun o ho => by rw [upd_ne rx]; exact ho
theorem pure_new_net (T : Txt G mg) (h : sp_new_net G vs H Q E) : t_new_net G (endsOf Q) (start n_new_net vs) H := by
  obtain ⟨rfl, k⟩ := h
  refine ⟨sz0, fun f hf => ⟨sz0, fun r hr x dx nx nd ne => ?_⟩⟩
  have e1 : Ex H (upd H f (.lst [])) := Ex.new hf
  have e2 : Ex (upd H f (.lst [])) (upd (upd H f (.lst [])) r (.lst [])) := Ex.new hr
  have e3 : Ex (upd (upd H f (.lst [])) r (.lst [])) (upd (upd (upd (upd H f (.lst [])) r (.lst [])) dx (.own x)) x (.ins G.cM dx [])) := ex_up (Ex.new nd) nx
  have hr2 : upd (upd H f (.lst [])) r (.lst []) r = some (.lst []) := upd_same
  have hf2 : upd (upd H f (.lst [])) r (.lst []) f = some (.lst []) := e2 _ _ upd_same
  refine ⟨x, dx, 1, f, r, [], rfl, upd_same, e3 _ _ hr2, rfl, ?_⟩
  have hx0 : H x = none := fresh_back (e1.trans e2) nx
  refine k _ x (ex_up ((e1.trans e2).trans e3) hx0) hx0 ⟨dx, f, r, upd_same, ?_, ⟨[], ?_, .nil⟩, hf, fresh_back e1 hr⟩
  · rw [upd_ne (ne_of_none hf2 nx)]
    exact e3 _ _ hf2
  · rw [upd_ne (ne_of_none hr2 nx)]
    exact e3 _ _ hr2
/-- parts of a machine, read -/
theorem el_moved {σ : L2.St} {ta tb : TE} {l : List PArc} {k : Nat} (ha : EL ArcAt ta σ H l) (hb : Ev tb σ H (iv k)) (hz : l.length ≤ 1000) : EL ArcAt (tCall (sp_moved G) [] E0 (tCons ta (tCons tb tNil))) σ H (l.map (PArc.shift k)) := fun H1 e Q q =>
  ha H1 e _ fun p H2 e2 hl => hb H2 (e.trans e2) _ fun H3 e3 => ⟨p, k, l, rfl, hl.ex tm_arc e3, hz, fun H4 p4 e4 _ hl4 => q p4 H4 ((e2.trans e3).trans e4) hl4⟩
theorem el_fin (T : Txt G mg) {σ : L2.St} {ta : TE} {a : Addr} {M : PM} (ha : Ev ta σ H (.ref a)) (hm : MachAt G H a M) : EL NatAt (tFld G.K ta "finals") σ H M.finals := by
  obtain ⟨dx, f, r, h1, h2, h3⟩ := hm
  exact el_fldL tm_nat (ev_fldM T ha h1 T.n_finals rfl) ⟨_, h2, nats_paired _ _⟩
theorem el_arcs (T : Txt G mg) {σ : L2.St} {ta : TE} {a : Addr} {M : PM} (ha : Ev ta σ H (.ref a)) (hm : MachAt G H a M) : EL ArcAt (tFld G.K ta "arcs") σ H M.arcs := by
  obtain ⟨dx, f, r, h1, h2, h3⟩ := hm
  exact el_fldL tm_arc (ev_fldM T ha h1 T.n_arcs rfl) h3
theorem ev_states (T : Txt G mg) {σ : L2.St} {ta : TE} {a : Addr} {M : PM} (ha : Ev ta σ H (.ref a)) (hm : MachAt G H a M) : Ev (tFld G.K ta "states") σ H (iv M.states) := by
  obtain ⟨dx, f, r, h1, h2, h3⟩ := hm
  exact ev_fldM T ha h1 T.n_states rfl
theorem ev_tstates (T : Txt G mg) {σ : L2.St} {ta : TE} {a : Addr} {M : PM} (ha : Ev ta σ H (.ref a)) (hm : MachAt G H a M) : Ev (tFld G.K ta "told_states") σ H (iv M.ts) := by
  obtain ⟨dx, f, r, h1, h2, h3⟩ := hm
  exact ev_fldM T ha h1 T.n_told_states rfl
theorem ev_tarcs (T : Txt G mg) {σ : L2.St} {ta : TE} {a : Addr} {M : PM} (ha : Ev ta σ H (.ref a)) (hm : MachAt G H a M) : Ev (tFld G.K ta "told_arcs") σ H (iv M.ta) := by
  obtain ⟨dx, f, r, h1, h2, h3⟩ := hm
  exact ev_fldM T ha h1 T.n_told_arcs rfl
theorem ev_addN {σ : L2.St} {ta tb : TE} {i j : Nat} (ha : Ev ta σ H (iv i)) (hb : Ev tb σ H (iv j)) : Ev (tOp (rI0 fun i j => .int (i + j)) ta tb) σ H (iv (i + j)) := ev_op ha hb rv_I0
theorem ev_mulN {σ : L2.St} {ta tb : TE} {i j : Nat} (ha : Ev ta σ H (iv i)) (hb : Ev tb σ H (iv j)) (hi : i ≤ 1000) : Ev (tOp (rI CMul fun i j => .int (i * j)) ta tb) σ H (iv (i * j)) := by
  have h := ev_op ha hb (rv_I (g := fun i j => .int (i * j)) (cm_of (i := i) (j := j) hi))
  have e : (i : Int) * (j : Int) = ((i * j : Nat) : Int) := (Int.natCast_mul i j).symm
  refine ev_is h ?_
  show V.int ((i : Int) * (j : Int)) = V.int ((i * j : Nat) : Int)
  rw [e]
theorem eu_arc {σ : L2.St} {t1 t2 t3 t4 : TE} {c : PArc} (h1 : Ev t1 σ H (iv c.src)) (h2 : Ev t2 σ H (.int c.rd)) (h3 : Ev t3 σ H (.int c.wr)) (h4 : Ev t4 σ H (iv c.dst)) : EU ArcAt (tTup (tCons t1 (tCons t2 (tCons t3 (tCons t4 tNil))))) σ H c :=
  eu_of (ea_cons h1 (ea_cons h2 (ea_cons h3 (ea_cons h4 ea_nil)))) (by show 4 ≤ 100000; decide) fun p H1 hp => ⟨p, rfl, hp⟩
theorem num_go {σ : L2.St} {i j : Nat} {a b : Addr} {A B : PM} {n1 n2 : PM → PM → Nat} (hi : σ[i]? = some (some (.ref a))) (hj : σ[j]? = some (some (.ref b))) (ma : MachAt G H a A) (mb : MachAt G H b B) (oa : A.Ok) (ob : B.Ok) :
    ∀ H2, Ex H H2 → ∀ K : VK, (∀ H3 p, Ex H2 H3 → H3 p = some (.lst [iv (n1 A B), iv (n2 A B)]) → K (.ref p) H3) → tCall (spNum2 G n1 n2) [] E0 (tCons (tVar i) (tCons (tVar j) tNil)) σ H2 K := fun H2 e K k =>
  ⟨_, hi, _, hj, a, b, A, B, rfl, ma.ex e, mb.ex e, oa, ob, fun H3 p e3 _ hp => k H3 p e3 hp⟩
theorem pure_join (T : Txt G mg) (h : sp_join G vs H Q E) : t_join G (endsOf Q) (start n_join vs) H := by
  obtain ⟨a, b, A, B, rfl, ma, mb, oa, ob, k⟩ := h
  have fa := oa.fl
  have fb := ob.fl
  have la := oa.al
  have lb := ob.al
  refine q_asg (v := iv 1) ev_c fun H1 e1 => ?_
  refine q_asg (v := iv (1 + A.states)) (ev_addN ev_c (ev_states T (ev_var rfl) (ma.ex e1))) fun H2 e2 => ?_
  have e12 := e1.trans e2
  refine q_asgE (el_disp (R := ArcAt) (l := [jumpP 0 1, jumpP 0 (1 + A.states)]) tm_arc (eas_cons tm_arc (eu_arc ev_c ev_c ev_c (ev_var rfl)) (eas_cons tm_arc (eu_arc ev_c ev_c ev_c (ev_var rfl)) eas_nil)) (by simp)) fun p3 H3 e3 _ l3 => ?_
  have e13 := e12.trans e3
  refine q_asgE (el_cat (R := ArcAt) tm_arc (el_cat (R := ArcAt) tm_arc (el_var tm_arc rfl l3) (el_moved (el_arcs T (ev_var rfl) (ma.ex e13)) (ev_var rfl) (by omega)) (by simp; omega)).el (el_moved (el_arcs T (ev_var rfl) (mb.ex e13)) (ev_var rfl) (by omega)) (by simp; omega)) fun p4 H4 e4 n4 l4 => ?_
  have e14 := e13.trans e4
  refine q_asgE (el_cat (R := NatAt) tm_nat (el_map (R := NatAt) (R' := NatAt) tm_nat tm_nat (· + 1) (el_fin T (ev_var rfl) (ma.ex e14)) (by omega) (fun x y H5 Q1 N1 hx _ _ q1 => ?_)).el (el_map (R := NatAt) (R' := NatAt) tm_nat tm_nat (· + (1 + A.states)) (el_fin T (ev_var rfl) (mb.ex e14)) (by omega) (fun x y H5 Q1 N1 hx _ _ q1 => ?_)).el (by simp; omega)) fun p5 H5 e5 n5 l5 => ?_
  · cases hx
    exact ⟨rfl, iteT ⟨_, rfl, _, rfl, _, _, rfl, rfl, q1 _ H5 (Ex.refl _) rfl⟩⟩
  · cases hx
    exact ⟨rfl, iteT ⟨_, rfl, _, rfl, _, _, rfl, rfl, q1 _ H5 (Ex.refl _) rfl⟩⟩
  have e15 := e14.trans e5
  refine made_go T (st := 1 + A.states + B.states) (n1 := A.ts + B.ts + 1) (n2 := A.ta + B.ta + 2) e15 (fun K kk => ?_) (num_go (n1 := fun A B => A.ts + B.ts + 1) (n2 := fun A B => A.ta + B.ta + 2) rfl rfl (ma.ex e15) (mb.ex e15) oa ob) fun H' c e hc m => k H' c e hc m
  refine cons_go (ev_addN (ev_addN ev_c (ev_states T (ev_var rfl) (ma.ex e15))) (ev_states T (ev_var rfl) (mb.ex e15))) fun H6 e6 => ?_
  exact ⟨_, rfl, _, rfl, kk H6 p5 p4 e6 (fresh_back e14 n5) (fresh_back e13 n4) (l5.ex tm_nat e6) (l4.ex tm_arc (e5.trans e6))⟩
theorem pure_follow (T : Txt G mg) (h : sp_follow G vs H Q E) : t_follow G (endsOf Q) (start n_follow vs) H := by
  obtain ⟨a, b, A, B, rfl, ma, mb, oa, ob, k⟩ := h
  have fa := oa.fl
  have fb := ob.fl
  have la := oa.al
  have lb := ob.al
  refine q_asg (v := iv A.states) (ev_states T (ev_var rfl) ma) fun H1 e1 => ?_
  refine q_asgE (el_cat (R := ArcAt) tm_arc (el_cat (R := ArcAt) tm_arc (el_arcs T (ev_var rfl) (ma.ex e1)) (el_moved (el_arcs T (ev_var rfl) (mb.ex e1)) (ev_var rfl) (by omega)) (by simp; omega)).el
    (el_map (R := NatAt) (R' := ArcAt) tm_nat tm_arc (fun f => jumpP f A.states) (el_fin T (ev_var rfl) (ma.ex e1)) (by omega) (fun x y H5 Q1 N1 hx _ _ q1 => ?_)).el (by simp; omega)) fun p2 H2 e2 n2 l2 => ?_
  · cases hx
    exact ⟨rfl, iteT (eu_arc (c := jumpP y A.states) (ev_var rfl) ev_c ev_c (ev_var rfl) H5 (Ex.refl _) _ fun v H6 e6 r => q1 v H6 e6 r)⟩
  have e12 := e1.trans e2
  refine q_asgE (el_map (R := NatAt) (R' := NatAt) tm_nat tm_nat (· + A.states) (el_fin T (ev_var rfl) (mb.ex e12)) (by omega) (fun x y H5 Q1 N1 hx _ _ q1 => ?_)) fun p3 H3 e3 n3 l3 => ?_
  · cases hx
    exact ⟨rfl, iteT ⟨_, rfl, _, rfl, _, _, rfl, rfl, q1 _ H5 (Ex.refl _) rfl⟩⟩
  have e13 := e12.trans e3
  refine made_go T (st := A.states + B.states) (n1 := A.ts + B.ts) (n2 := A.ta + B.ta + A.ts) e13 (fun K kk => ?_) (num_go (n1 := fun A B => A.ts + B.ts) (n2 := fun A B => A.ta + B.ta + A.ts) rfl rfl (ma.ex e13) (mb.ex e13) oa ob) fun H' c e hc m => k H' c e hc m
  refine cons_go (ev_addN (ev_states T (ev_var rfl) (ma.ex e13)) (ev_states T (ev_var rfl) (mb.ex e13))) fun H6 e6 => ?_
  exact ⟨_, rfl, _, rfl, kk H6 p3 p2 e6 (fresh_back e12 n3) (fresh_back e1 n2) (l3.ex tm_nat e6) (l2.ex tm_arc (e3.trans e6))⟩
theorem pure_again (T : Txt G mg) (h : sp_again G vs H Q E) : t_again G (endsOf Q) (start n_again vs) H := by
  obtain ⟨a, A, rfl, ma, oa, k⟩ := h
  have fa := oa.fl
  have la := oa.al
  refine q_asgE (el_cat (R := ArcAt) tm_arc (el_disp (R := ArcAt) (l := [jumpP 0 1]) tm_arc (eas_cons tm_arc (eu_arc ev_c ev_c ev_c ev_c) eas_nil) (by simp)).el (el_moved (k := 1) (el_arcs T (ev_var rfl) ma) ev_c (by omega)) (by simp; omega)) fun p1 H1 e1 _ l1 => ?_
  refine q_asgE (el_cat (R := ArcAt) tm_arc (el_var tm_arc rfl l1)
    (el_map (R := NatAt) (R' := ArcAt) tm_nat tm_arc (fun f => jumpP (f + 1) 0) (el_fin T (ev_var rfl) (ma.ex e1)) (by omega) (fun x y H5 Q1 N1 hx _ _ q1 => ?_)).el (by simp; omega)) fun p2 H2 e2 n2 l2 => ?_
  · cases hx
    exact ⟨rfl, iteT (eu_arc (c := jumpP (y + 1) 0) (ev_addN (j := 1) (ev_var rfl) ev_c) ev_c ev_c ev_c H5 (Ex.refl _) _ fun v H6 e6 r => q1 v H6 e6 r)⟩
  have e12 := e1.trans e2
  refine made_go T (st := A.states + 1) (n1 := A.ts + 1) (n2 := A.ta + A.ts + 1) (fin := [0]) e12 (fun K kk => ?_) (fun H3 e3 K kk => ⟨_, rfl, a, A, rfl, ma.ex (e12.trans e3), fun H4 p e4 _ hp => kk H4 p e4 hp⟩) fun H' c e hc m => k H' c e hc m
  refine cons_go (ev_addN (j := 1) (ev_states T (ev_var rfl) (ma.ex e12)) ev_c) fun H6 e6 => ?_
  refine ⟨sz1, fun u hu => ?_⟩
  have e7 : Ex H6 (upd H6 u (.lst [.int 0])) := Ex.new hu
  exact ⟨_, rfl, kk _ u p2 (e6.trans e7) (fresh_back (e12.trans e6) hu) (fresh_back e1 n2) ⟨_, upd_same, .cons rfl .nil⟩ (l2.ex tm_arc (e6.trans e7))⟩
theorem pure_keep (T : Txt G mg) (h : sp_keep G vs H Q E) : t_keep G (endsOf Q) (start n_keep vs) H := by
  obtain ⟨a, A, rfl, ma, oa, k⟩ := h
  have fa := oa.fl
  have la := oa.al
  refine q_asgE (el_map (R := ArcAt) (R' := ArcAt) tm_arc tm_arc PArc.keep (el_arcs T (ev_var rfl) ma) (by omega) (fun x y H5 Q1 N1 hx _ _ q1 => ?_)) fun p1 H1 e1 n1 l1 => ?_
  · obtain ⟨p, rfl, hp⟩ := hx
    refine ⟨p, _, rfl, .of hp, rfl, _, _, rfl, _, _, rfl, _, _, rfl, _, _, rfl, rfl, rfl, iteT ?_⟩
    exact eu_arc (c := PArc.keep y) (ev_var rfl) (ev_var rfl) (ev_var rfl) (ev_var rfl) H5 (Ex.refl _) _ fun v H6 e6 r => q1 v H6 e6 r
  refine made_go T (st := A.states) (n1 := A.ts) (n2 := A.ta) e1 (fun K kk => ?_) (fun H3 e3 K kk => ?_) fun H' c e hc m => k H' c e hc m
  · refine cons_go (ev_states T (ev_var rfl) (ma.ex e1)) fun H2 e2 => ?_
    refine el_fin T (ev_var rfl) (ma.ex (e1.trans e2)) H2 (Ex.refl _) _ fun p3 H3 e3 ⟨ys, hy, py⟩ => ?_
    refine ⟨p3, ys, rfl, .inl (.of hy), fun u hu => ?_⟩
    have e4 : Ex H3 (upd H3 u (.lst ys)) := Ex.new hu
    exact ⟨_, rfl, kk _ u p1 (e2.trans (e3.trans e4)) (fresh_back (e1.trans (e2.trans e3)) hu) n1 ⟨ys, upd_same, py⟩ (l1.ex tm_arc (e2.trans (e3.trans e4)))⟩
  · refine el_lst (vs := [iv A.ts, iv A.ta]) (ea_cons (ev_tstates T (ev_var rfl) (ma.ex (e1.trans e3))) (ea_cons (ev_tarcs T (ev_var rfl) (ma.ex (e1.trans e3))) ea_nil)) (by show 2 ≤ 100000; decide) H3 (Ex.refl _) _ fun p H4 _ e4 hp => kk H4 p e4 hp
end
end Tw

/-! # Readings: one behind another -/
namespace Tw
open PySem PySem.Spec PyProof.Rows L2 Evl TW
section
variable {G : Gs} {mg : Str → Option Value} {vs : List V} {H : Hp} {Q : VK} {E : XK}
theorem behindOne_len {B : PM} (ob : B.Ok) (a : PArc) : (behindOne B a).length ≤ 324 := by
  unfold behindOne
  rw [List.length_append, List.length_map]
  have h1 := ob.s2
  have h2 := ob.al
  have h3 := List.length_filter_le (fun b : PArc => a.wr != -1 && b.rd == a.wr) B.arcs
  split <;> simp <;> omega
theorem behindTwo_len {A B : PM} (oa : A.Ok) (b : PArc) : (behindTwo A B b).length ≤ 24 := by
  unfold behindTwo
  have h1 := oa.s2
  split <;> simp <;> omega
theorem flat_take {α β : Type} {f : α → List β} {k : Nat} {l : List α} {i : Nat} (h : ∀ a ∈ l, (f a).length ≤ k) : ((l.take i).flatMap f).length ≤ l.length * k := by
  have h1 := flat_len (f := f) (k := k) (l := l.take i) fun a ha => h a (List.mem_of_mem_take ha)
  have h2 : (l.take i).length ≤ l.length := by rw [List.length_take]; omega
  exact Nat.le_trans h1 (Nat.mul_le_mul_right _ h2)
theorem pure_behind_arcs (T : Txt G mg) (h : sp_behind_arcs G vs H Q E) : t_behind_arcs G (endsOf Q) (start n_behind_arcs vs) H := by
  obtain ⟨a, b, A, B, rfl, ma, mb, oa, ob, k⟩ := h
  have la := oa.al
  have lb := ob.al
  obtain ⟨dxa, fa, ra, ha, _, hra⟩ := id ma
  obtain ⟨dxb, fb, rb, hb, _, hrb⟩ := id mb
  refine q_asg (v := iv B.states) (ev_states T (ev_var rfl) mb) fun H1 e1 => ?_
  refine q_asgE (el_nil (R := ArcAt) tm_arc) fun p H2 e2 hp l2 => ?_
  have e12 := e1.trans e2
  have hp0 : H p = none := fresh_back e1 hp
  -- the first loop
  refine q_forK (R := ArcAt) tm_arc hra (ev_fldM T (ev_var rfl) (e12 _ _ ha) T.n_arcs rfl)
    (fun i σ' H' => (∃ c1 c2 c3 c4 c5 c6 c7 c8 c9, σ' = [some (.ref a), some (.ref b), some (iv B.states), some (.ref p), c1, c2, c3, c4, c5, c6, c7, c8, c9]) ∧ Own ArcAt H H' p ((A.arcs.take i).flatMap (behindOne B)))
    (fun H3 e3 => ⟨⟨_, _, _, _, _, _, _, _, _, rfl⟩, e12.trans e3, hp0, l2.ex tm_arc e3⟩) (fun i σ' H' q => q.2.1) (fun i x v σ' H' hi r q => ?_) fun σ' H' q => ?_
  · obtain ⟨⟨c1, c2, c3, c4, c5, c6, c7, c8, c9, rfl⟩, o⟩ := q
    obtain ⟨pa, rfl, hpa⟩ := r
    refine ⟨pa, _, rfl, .of hpa, rfl, _, _, rfl, _, _, rfl, _, _, rfl, _, _, rfl, rfl, ?_⟩
    have hz : ((A.arcs.take i).flatMap (behindOne B)).length ≤ 300 * 324 := Nat.le_trans (flat_take fun x _ => behindOne_len ob x) (Nat.mul_le_mul_right _ la)
    have hsrc : x.src ≤ 1000 := by have := oa.src x (List.mem_of_getElem? hi); have := oa.s2; omega
    have hdst : x.dst ≤ 1000 := by have := oa.dst x (List.mem_of_getElem? hi); have := oa.s2; omega
    refine q_cut (M := fun σ' H' => σ' = [some (.ref a), some (.ref b), some (iv B.states), some (.ref p), some (iv x.src), some (.int x.rd), some (.int x.wr), some (iv x.dst), c5, c6, c7, c8, c9] ∧
      Own ArcAt H H' p ((A.arcs.take i).flatMap (behindOne B) ++ if x.wr = -1 then (List.range B.states).map fun k => (⟨x.src * B.states + k, x.rd, -1, x.dst * B.states + k⟩ : PArc) else [])) ?_ ?_
    rotate_left
    · rintro σ' H4 ⟨rfl, o4⟩
      refine s_forK (R := ArcAt) tm_arc hrb (ev_fldM T (ev_var rfl) (o4.1 _ _ hb) T.n_arcs rfl)
        (fun j σ' H' => (∃ c1 c2 c3 c4 c5, σ' = [some (.ref a), some (.ref b), some (iv B.states), some (.ref p), some (iv x.src), some (.int x.rd), some (.int x.wr), some (iv x.dst), c1, c2, c3, c4, c5]) ∧
          Own ArcAt H H' p ((A.arcs.take i).flatMap (behindOne B) ++ (if x.wr = -1 then (List.range B.states).map fun k => (⟨x.src * B.states + k, x.rd, -1, x.dst * B.states + k⟩ : PArc) else []) ++ ((B.arcs.take j).filter fun b => x.wr != -1 && b.rd == x.wr).map fun b => ⟨x.src * B.states + b.src, x.rd, b.wr, x.dst * B.states + b.dst⟩))
        (fun H5 e5 => ⟨⟨_, _, _, _, _, rfl⟩, by rw [List.take_zero, List.filter_nil, List.map_nil, List.append_nil]; exact o4.ex tm_arc e5⟩) (fun j σ' H' q => q.2.1) (fun j y v σ' H' hj r q => by
          obtain ⟨⟨c1, c2, c3, c4, c5, rfl⟩, o⟩ := q
          obtain ⟨pb, rfl, hpb⟩ := r
          refine ⟨pb, _, rfl, .of hpb, rfl, _, _, rfl, _, _, rfl, _, _, rfl, _, _, rfl, rfl, ?_⟩
          have ej : (B.arcs.take (j + 1)).filter (fun b => x.wr != -1 && b.rd == x.wr) = (B.arcs.take j).filter (fun b => x.wr != -1 && b.rd == x.wr) ++ if (x.wr != -1 && y.rd == x.wr) = true then [y] else [] := by
            rw [take_more hj, List.filter_append]
            congr 1
            by_cases c : (x.wr != -1 && y.rd == x.wr) = true
            · rw [if_pos c]; exact List.filter_cons_of_pos c
            · rw [if_neg c]; exact List.filter_cons_of_neg c
          refine s_if (b := x.wr != -1 && y.rd == x.wr) (et_and (et_test (ev_is (ev_op (ev_var rfl) ev_c (rv_ne rfl)) ?_)) fun _ => et_test (ev_is (ev_op (ev_var rfl) (ev_var rfl) (rv_eq rfl)) ?_)) (fun c H5 e5 => ?_) (fun c H5 e5 => ?_)
          · show V.bl (!decide (V.int x.wr = V.int (-1))) = _
            by_cases c : x.wr = -1 <;> simp [c]
          · show V.bl (decide (V.int y.rd = V.int x.wr)) = _
            by_cases c : y.rd = x.wr <;> simp [c]
          · have hl2 := List.length_filter_le (fun b : PArc => x.wr != -1 && b.rd == x.wr) (B.arcs.take j)
            have hl3 : (B.arcs.take j).length ≤ 300 := by rw [List.length_take]; omega
            refine own_app (R := ArcAt) (x := ⟨x.src * B.states + y.src, x.rd, y.wr, x.dst * B.states + y.dst⟩) tm_arc (o.ex tm_arc e5) (ev_var rfl) (eu_arc (ev_addN (ev_mulN (ev_var rfl) (ev_var rfl) hsrc) (ev_var rfl)) (ev_var rfl) (ev_var rfl) (ev_addN (ev_mulN (ev_var rfl) (ev_var rfl) hdst) (ev_var rfl))) ?_ fun H6 o6 => ⟨⟨_, _, _, _, _, rfl⟩, ?_⟩
            · have hs := ob.s2
              have hif : (if x.wr = -1 then (List.range B.states).map fun k => (⟨x.src * B.states + k, x.rd, -1, x.dst * B.states + k⟩ : PArc) else []).length ≤ 24 := by
                split
                · rw [List.length_map, List.length_range]; exact hs
                · exact Nat.zero_le _
              rw [List.length_append, List.length_append, List.length_map]
              omega
            · have ec : (if (x.wr != -1 && y.rd == x.wr) = true then [y] else []) = [y] := if_pos c
              rw [ej, ec, List.map_append, ← List.append_assoc]
              exact o6
          · refine ⟨⟨_, _, _, _, _, rfl⟩, ?_⟩
            have ec : (if (x.wr != -1 && y.rd == x.wr) = true then [y] else []) = [] := if_neg (by rw [c]; decide)
            rw [ej, ec, List.append_nil]
            exact o.ex tm_arc e5) (fun σ' H' q => by
          obtain ⟨⟨c1, c2, c3, c4, c5, rfl⟩, o⟩ := q
          refine ⟨⟨_, _, _, _, _, _, _, _, _, rfl⟩, ?_⟩
          rw [List.take_length] at o
          rw [take_more hi, List.flatMap_append]
          have e9 : [x].flatMap (behindOne B) = behindOne B x := by simp
          rw [e9]
          unfold behindOne
          rw [← List.append_assoc]
          exact o)
    refine s_if (b := decide (x.wr = -1)) (et_test (ev_is (ev_op (ev_var rfl) ev_c (rv_eq rfl)) ?_)) (fun c H3 e3 => ?_) (fun c H3 e3 => ?_)
    · show V.bl (decide (V.int x.wr = V.int (-1))) = _
      by_cases c : x.wr = -1 <;> simp [c]
    · have cc : x.wr = -1 := of_decide_eq_true c
      refine own_ext (R := ArcAt) (l' := (List.range B.states).map fun k => (⟨x.src * B.states + k, x.rd, -1, x.dst * B.states + k⟩ : PArc)) tm_arc (o.ex tm_arc e3) (ev_var rfl) (el_range tm_arc B.states _ (ea_cons (ev_var rfl) ea_nil) (by have := ob.s2; omega) (fun _ => rfl) fun i H4 _ _ => ?_).el ?_ fun H4 o4 => ⟨rfl, ?_⟩
      · exact eu_arc (ev_addN (ev_mulN (ev_var rfl) (ev_var rfl) hsrc) (ev_var rfl)) (ev_var rfl) ev_c (ev_addN (ev_mulN (ev_var rfl) (ev_var rfl) hdst) (ev_var rfl))
      · rw [List.length_map, List.length_range]
        have := ob.s2
        omega
      · rw [if_pos cc]
        exact o4
    · have cc : ¬ x.wr = -1 := of_decide_eq_false c
      refine ⟨rfl, ?_⟩
      rw [if_neg cc, List.append_nil]
      exact o.ex tm_arc e3
  · obtain ⟨⟨c1, c2, c3, c4, c5, c6, c7, c8, c9, rfl⟩, o⟩ := q
    rw [List.take_length] at o
    have hz : (A.arcs.flatMap (behindOne B)).length ≤ 300 * 324 := Nat.le_trans (flat_len fun x _ => behindOne_len ob x) (Nat.mul_le_mul_right _ la)
    refine q_forK (R := ArcAt) tm_arc hrb (ev_fldM T (ev_var rfl) (o.1 _ _ hb) T.n_arcs rfl)
      (fun i σ' H' => (∃ c1 c2 c3 c4 c5 c6 c7 c8 c9, σ' = [some (.ref a), some (.ref b), some (iv B.states), some (.ref p), c1, c2, c3, c4, c5, c6, c7, c8, c9]) ∧ Own ArcAt H H' p (A.arcs.flatMap (behindOne B) ++ (B.arcs.take i).flatMap (behindTwo A B)))
      (fun H3 e3 => ⟨⟨_, _, _, _, _, _, _, _, _, rfl⟩, by rw [List.take_zero, List.flatMap_nil, List.append_nil]; exact o.ex tm_arc e3⟩) (fun i σ' H' q => q.2.1) (fun i x v σ' H' hi r q => ?_) fun σ' H' q => ?_
    · obtain ⟨⟨c1, c2, c3, c4, c5, c6, c7, c8, c9, rfl⟩, o⟩ := q
      obtain ⟨pa, rfl, hpa⟩ := r
      refine ⟨pa, _, rfl, .of hpa, rfl, _, _, rfl, _, _, rfl, _, _, rfl, _, _, rfl, rfl, ?_⟩
      have hz2 : ((B.arcs.take i).flatMap (behindTwo A B)).length ≤ 300 * 24 := Nat.le_trans (flat_take fun x _ => behindTwo_len oa x) (Nat.mul_le_mul_right _ lb)
      have et : (B.arcs.take (i + 1)).flatMap (behindTwo A B) = (B.arcs.take i).flatMap (behindTwo A B) ++ behindTwo A B x := by
        rw [take_more hi, List.flatMap_append]
        simp
      refine s_if (b := decide (x.rd = -1)) (et_test (ev_is (ev_op (ev_var rfl) ev_c (rv_eq rfl)) ?_)) (fun c H3 e3 => ?_) (fun c H3 e3 => ?_)
      · show V.bl (decide (V.int x.rd = V.int (-1))) = _
        by_cases c : x.rd = -1 <;> simp [c]
      · have cc : x.rd = -1 := of_decide_eq_true c
        refine own_ext (R := ArcAt) (l' := behindTwo A B x) tm_arc (o.ex tm_arc e3) (ev_var rfl) ?_ ?_ fun H4 o4 => ⟨⟨_, _, _, _, _, _, _, _, _, rfl⟩, ?_⟩
        · unfold behindTwo
          rw [if_pos cc]
          refine (el_range tm_arc A.states _ (ea_cons (ev_states T (ev_var rfl) (ma.ex (o.1.trans e3))) ea_nil) (by have := oa.s2; omega) (fun _ => rfl) fun i H4 hi _ => ?_).el
          exact eu_arc (ev_addN (ev_mulN (ev_var rfl) (ev_var rfl) (by have := oa.s2; omega)) (ev_var rfl)) ev_c (ev_var rfl) (ev_addN (ev_mulN (ev_var rfl) (ev_var rfl) (by have := oa.s2; omega)) (ev_var rfl))
        · have := behindTwo_len (B := B) oa x
          rw [List.length_append]
          omega
        · rw [et, ← List.append_assoc]
          exact o4
      · have cc : ¬ x.rd = -1 := of_decide_eq_false c
        refine ⟨⟨_, _, _, _, _, _, _, _, _, rfl⟩, ?_⟩
        have e0 : behindTwo A B x = [] := by unfold behindTwo; rw [if_neg cc]
        rw [et, e0, List.append_nil]
        exact o.ex tm_arc e3
    · obtain ⟨⟨c1, c2, c3, c4, c5, c6, c7, c8, c9, rfl⟩, o⟩ := q
      rw [List.take_length] at o
      exact ⟨_, rfl, k H' p o.1 o.2.1 o.2.2⟩
theorem pure_behind (T : Txt G mg) (h : sp_behind G vs H Q E) : t_behind G (endsOf Q) (start n_behind vs) H := by
  obtain ⟨a, b, A, B, rfl, ma, mb, oa, ob, k⟩ := h
  have fa := oa.fl
  have fb := ob.fl
  obtain ⟨dxa, fA, ra, ha, hfa, hra⟩ := id ma
  refine q_asgE (el_nil (R := NatAt) tm_nat) fun p H1 e1 hp l1 => ?_
  refine q_forK (R := NatAt) tm_nat ⟨_, hfa, nats_paired H A.finals⟩ (ev_fldM T (ev_var rfl) (e1 _ _ ha) T.n_finals rfl)
    (fun i σ' H' => (∃ c1 c2, σ' = [some (.ref a), some (.ref b), some (.ref p), c1, c2]) ∧ Own NatAt H H' p ((A.finals.take i).flatMap fun f => B.finals.map fun g => f * B.states + g))
    (fun H3 e3 => ⟨⟨_, _, rfl⟩, e1.trans e3, hp, l1.ex tm_nat e3⟩) (fun i σ' H' q => q.2.1) (fun i x v σ' H' hi r q => ?_) fun σ' H' q => ?_
  · obtain ⟨⟨c1, c2, rfl⟩, o⟩ := q
    cases r
    have hz : ((A.finals.take i).flatMap fun f => B.finals.map fun g => f * B.states + g).length ≤ 24 * 24 := Nat.le_trans (flat_take (k := 24) fun x _ => by rw [List.length_map]; exact fb) (Nat.mul_le_mul_right _ fa)
    have hx : x ≤ 1000 := by have := oa.fin x (List.mem_of_getElem? hi); have := oa.s2; omega
    refine own_ext (R := NatAt) (l' := B.finals.map fun g => x * B.states + g) tm_nat o (ev_var rfl) (el_map (R := NatAt) (R' := NatAt) tm_nat tm_nat _ (el_fin T (ev_var rfl) (mb.ex o.1)) (by omega) (fun y g H5 Q1 N1 hy _ e5 q1 => ?_)).el (by rw [List.length_map]; omega) fun H4 o4 => ⟨⟨_, _, rfl⟩, ?_⟩
    · cases hy
      exact ⟨rfl, iteT ((ev_addN (ev_mulN (ev_var rfl) (ev_states T (ev_var rfl) (mb.ex (o.1.trans e5))) hx) (ev_var rfl)) H5 (Ex.refl _) _ fun H6 e6 => q1 _ H6 e6 rfl)⟩
    · rw [take_more hi, List.flatMap_append]
      have e9 : [x].flatMap (fun f => B.finals.map fun g => f * B.states + g) = B.finals.map fun g => x * B.states + g := by simp
      rw [e9]
      exact o4
  · obtain ⟨⟨c1, c2, rfl⟩, o⟩ := q
    rw [List.take_length] at o
    have e := o.1
    refine made_go T (st := A.states * B.states) (n1 := A.ts * B.ts) (n2 := A.ta * B.ta + A.ta * B.ts + A.ts * B.ta) e (fun K kk => ?_)
      (num_go (n1 := fun A B => A.ts * B.ts) (n2 := fun A B => A.ta * B.ta + A.ta * B.ts + A.ts * B.ta) rfl rfl (ma.ex e) (mb.ex e) oa ob) fun H' c e hc m => k H' c e hc m
    refine cons_go (ev_mulN (ev_states T (ev_var rfl) (ma.ex e)) (ev_states T (ev_var rfl) (mb.ex e)) (by have := oa.s2; omega)) fun H6 e6 => ?_
    exact ⟨_, rfl, _, rfl, _, rfl, a, b, A, B, rfl, ma.ex (e.trans e6), mb.ex (e.trans e6), oa, ob, fun H7 p7 e7 n7 l7 => kk H7 p p7 (e6.trans e7) o.2.1 (fresh_back (e.trans e6) n7) (o.2.2.ex tm_nat (e6.trans e7)) l7⟩
end
end Tw

/-! # Readings: what is come to without writing -/
namespace Tw
open PySem PySem.Spec PyProof.Rows L2 Evl TW
section
variable {G : Gs} {mg : Str → Option Value} {vs : List V} {H H' : Hp} {Q : VK} {E : XK} {K : PySem.W.Frag} {σ : L2.St} {ta tb te tv : TE} {t m w ds dw : Addr} {M : PM} {x : List Int} {s : Spot} {v : V}
theorem ev_fldT (T : Txt G mg) {dx : Addr} {fld : Str} {v : V} (ha : Ev ta σ H (.ref t)) (h : H t = some (.ins G.cT dx (tF m w ds dw))) (n : NoAttr G.K G.cT fld) (hl : (tF m w ds dw).lookup fld = some v) : Ev (tFld G.K ta fld) σ H v := fun H1 e Q q =>
  ha H1 e _ fun H2 e2 => ⟨t, G.cT, dx, _, v, rfl, e2 _ _ (e _ _ h), T.k_T, n, hl, q H2 e2⟩
theorem el_sil (T : Txt G mg) (h : TurnAt G H t M x) (ha : Ev ta σ H (.ref t)) (hv : Ev tv σ H v) (hs : SpotAt H v s) : EL SpotAt (tDGet2 (tFld G.K ta "silent") tv (tLst tNil)) σ H (sil (notes M x) s) := by
  obtain ⟨_, _, dx, m, w, ds, dw, ht, _, _, ⟨kvs, hk, hv2⟩, _⟩ := h
  obtain ⟨p, rfl, hp⟩ := hs
  intro H1 e1 Q q
  refine ev_fldT T ha ht T.n_silent rfl H1 e1 _ fun H2 e2 => ⟨ds, rfl, .inr ⟨kvs, .inl ((e1.trans e2) _ _ hk)⟩, ?_⟩
  refine hv H2 (e1.trans e2) _ fun H3 e3 => ⟨sz0, fun z hz => ?_⟩
  have e4 : Ex H3 (upd H3 z (.lst [])) := Ex.new hz
  have e14 := e1.trans (e2.trans (e3.trans e4))
  refine ⟨_, DGet.t (k := keyOf s) (e14 _ _ hk) (e14 _ _ hp), ?_⟩
  rcases hv2 s with ⟨h1, h2⟩ | ⟨l, h1, h2⟩
  · rw [h1]
    exact q z _ (e2.trans (e3.trans e4)) (by rw [h2]; exact ⟨[], upd_same, .nil⟩)
  · rw [h1]
    exact q l _ (e2.trans (e3.trans e4)) (h2.ex tm_spot e14)
theorem el_wri (T : Txt G mg) (h : TurnAt G H t M x) (ha : Ev ta σ H (.ref t)) (hv : Ev tv σ H v) (hs : SpotAt H v s) : EL WrAt (tDGet2 (tFld G.K ta "writing") tv (tLst tNil)) σ H (wri (notes M x) s) := by
  obtain ⟨_, _, dx, m, w, ds, dw, ht, _, _, _, ⟨kvs, hk, hv2⟩⟩ := h
  obtain ⟨p, rfl, hp⟩ := hs
  intro H1 e1 Q q
  refine ev_fldT T ha ht T.n_writing rfl H1 e1 _ fun H2 e2 => ⟨dw, rfl, .inr ⟨kvs, .inl ((e1.trans e2) _ _ hk)⟩, ?_⟩
  refine hv H2 (e1.trans e2) _ fun H3 e3 => ⟨sz0, fun z hz => ?_⟩
  have e4 : Ex H3 (upd H3 z (.lst [])) := Ex.new hz
  have e14 := e1.trans (e2.trans (e3.trans e4))
  refine ⟨_, DGet.t (k := keyOf s) (e14 _ _ hk) (e14 _ _ hp), ?_⟩
  rcases hv2 s with ⟨h1, h2⟩ | ⟨l, h1, h2⟩
  · rw [h1]
    exact q z _ (e2.trans (e3.trans e4)) (by rw [h2]; exact ⟨[], upd_same, .nil⟩)
  · rw [h1]
    exact q l _ (e2.trans (e3.trans e4)) (h2.ex tm_wr e14)
/-- xs != [], xs == [] -/
theorem ev_neNil {α : Type} {R : Hp → V → α → Prop} {l : List α} (h : EL R te σ H l) : Ev (tOp (rNeN K) te (tLst tNil)) σ H (.bl (!l.isEmpty)) := fun H1 e Q q =>
  h H1 e _ fun p H2 e2 ⟨vs, hv, pv⟩ => ⟨sz0, fun z hz => by
    have e3 : Ex H2 (upd H2 z (.lst [])) := Ex.new hz
    have el : vs.isEmpty = l.isEmpty := by cases pv <;> rfl
    refine ⟨p, z, vs, rfl, rfl, .of (e3 _ _ hv), .of upd_same, ?_⟩
    rw [el]
    exact q _ (e2.trans e3)⟩
theorem ev_eqNil {α : Type} {R : Hp → V → α → Prop} {l : List α} (h : EL R te σ H l) : Ev (tOp (rEqN K) te (tLst tNil)) σ H (.bl l.isEmpty) := fun H1 e Q q =>
  h H1 e _ fun p H2 e2 ⟨vs, hv, pv⟩ => ⟨sz0, fun z hz => by
    have e3 : Ex H2 (upd H2 z (.lst [])) := Ex.new hz
    have el : vs.isEmpty = l.isEmpty := by cases pv <;> rfl
    refine ⟨p, z, vs, rfl, rfl, .of (e3 _ _ hv), .of upd_same, ?_⟩
    rw [el]
    exact q _ (e2.trans e3)⟩
theorem inV_nats (k : Nat) : ∀ l : List Nat, inV (iv k) (l.map iv) = l.contains k
  | [] => rfl
  | a :: r => by
    have ih := inV_nats k r
    unfold inV at ih ⊢
    rw [List.map_cons, List.any_cons, ih, List.contains_cons]
    congr 1
    show decide ((a : Int) = (k : Int)) = (k == a)
    by_cases c : a = k
    · subst c; simp
    · have c' : ¬ k = a := fun z => c z.symm
      rw [beq_eq_false_iff_ne.mpr c']
      exact decide_eq_false (by omega)
theorem flat_nats : ∀ l : List Nat, (l.map iv).all flatV = true
  | [] => rfl
  | _ :: r => by rw [List.map_cons, List.all_cons, flat_nats r]; rfl
theorem pure_Turning_is_end (T : Txt G mg) (h : sp_Turning_is_end G vs H Q E) : t_Turning_is_end G (endsOf Q) (start n_Turning_is_end vs) H := by
  obtain ⟨t, v, M, x, s, rfl, ht, ⟨p, rfl, hp⟩, k⟩ := h
  obtain ⟨_, _, dx, m, w, ds, dw, h1, ⟨dm, f, r, hm, hf, _⟩, hw, _, _⟩ := ht
  refine ⟨_, rfl, p, _, _, _, rfl, rfl, .of hp, rfl, _, rfl, t, G.cT, dx, _, _, rfl, h1, T.k_T, T.n_word, rfl, w, _, rfl, .inl (.of hw), rfl, _, rfl, ?_⟩
  by_cases c : s.1 = x.length
  · have e : decide (iv s.1 = V.int ((x.map V.int).length : Int)) = true := decide_eq_true (by rw [List.length_map, c])
    rw [e]
    refine iteT ⟨_, rfl, p, _, _, _, rfl, rfl, .of hp, rfl, _, rfl, t, G.cT, dx, _, _, rfl, h1, T.k_T, T.n_machine, rfl, m, G.cM, dm, _, _, rfl, hm, T.k_M, T.n_finals, rfl, f, _, rfl, .inl (.of hf), rfl, flat_nats _, ?_⟩
    have e2 : isEnd M x s = inV (iv s.2) (M.finals.map iv) := by
      unfold isEnd
      rw [inV_nats, c]
      simp
    rw [e2] at k
    exact k
  · have e : decide (iv s.1 = V.int ((x.map V.int).length : Int)) = false := by
      rw [List.length_map]
      simp
      omega
    rw [e]
    refine iteF ?_
    have e2 : isEnd M x s = false := by
      unfold isEnd
      simp [c]
    rw [e2] at k
    exact k
/-! ### a search -/
structure Srch (H0 H : Hp) (fd wl : Addr) (found waiting : List Spot) : Prop where
  ex : Ex H0 H
  nf : H0 fd = none
  nw : H0 wl = none
  ne : fd ≠ wl
  hf : H fd = some (.dT (keysT found))
  hw : SpotL H wl waiting
theorem Srch.go {H0 : Hp} {fd wl : Addr} {found waiting : List Spot} (h : Srch H0 H fd wl found waiting) (e : Ex H H') : Srch H0 H' fd wl found waiting := ⟨h.ex.trans e, h.nf, h.nw, h.ne, e _ _ h.hf, h.hw.ex tm_spot e⟩
theorem valV_keysT (s : Spot) : ∀ l : List Spot, valV (keysT l) (keyOf s) = if s ∈ l then some (.bl true) else none
  | [] => by simp [keysT, valV_nil]
  | a :: r => by
    have ih := valV_keysT s r
    show valV ((keyOf a, .bl true) :: keysT r) (keyOf s) = _
    by_cases c : a = s
    · subst c
      rw [valV_pos rfl, if_pos (List.mem_cons_self ..)]
    · rw [valV_neg (fun z => c (keyOf_inj z)), ih]
      by_cases d : s ∈ r
      · rw [if_pos d, if_pos (List.mem_cons_of_mem _ d)]
      · rw [if_neg d, if_neg (fun z => (List.mem_cons.mp z).elim (fun z => c z.symm) d)]
theorem keysT_new {s : Spot} {l : List Spot} (h : s ∉ l) : putK (keysT l) (keyOf s) (.bl true) = keysT (l ++ [s]) := by
  rw [putK_new _ (by rw [valV_keysT, if_neg h])]
  unfold keysT
  rw [List.map_append]
  rfl
theorem keysT_len (l : List Spot) : (keysT l).length = l.length := by unfold keysT; rw [List.length_map]
/-- spot not in found, spot in known -/
theorem ev_notIn {d : Addr} {l : List Spot} (ha : Ev ta σ H v) (hb : Ev tb σ H (.ref d)) (hs : SpotAt H v s) (hd : H d = some (.dT (keysT l))) : Ev (tDNotIn ta tb) σ H (.bl (!decide (s ∈ l))) := fun H1 e Q q =>
  ha H1 e _ fun H2 e2 => hb H2 (e.trans e2) _ fun H3 e3 => by
    obtain ⟨p, rfl, hp⟩ := hs
    have e4 := (e.trans e2).trans e3
    refine ⟨d, _, rfl, DGet.t (k := keyOf s) (e4 _ _ hd) (e4 _ _ hp), ?_⟩
    rw [valV_keysT]
    have k := q H3 (e2.trans e3)
    by_cases c : s ∈ l
    · rw [if_pos c]; simpa [c] using k
    · rw [if_neg c]; simpa [c] using k
theorem ev_inD {d : Addr} {l : List Spot} (ha : Ev ta σ H v) (hb : Ev tb σ H (.ref d)) (hs : SpotAt H v s) (hd : H d = some (.dT (keysT l))) : Ev (tDIn ta tb) σ H (.bl (decide (s ∈ l))) := fun H1 e Q q =>
  ha H1 e _ fun H2 e2 => hb H2 (e.trans e2) _ fun H3 e3 => by
    obtain ⟨p, rfl, hp⟩ := hs
    have e4 := (e.trans e2).trans e3
    refine ⟨d, _, rfl, DGet.t (k := keyOf s) (e4 _ _ hd) (e4 _ _ hp), ?_⟩
    rw [valV_keysT]
    have k := q H3 (e2.trans e3)
    by_cases c : s ∈ l
    · rw [if_pos c]; simpa [c] using k
    · rw [if_neg c]; simpa [c] using k
/-- waiting.pop() -/
theorem srch_pop {H0 : Hp} {fd wl : Addr} {found waiting : List Spot} {i : Nat} {D : Ends} {tz : TS} (h : Srch H0 H fd wl found (waiting ++ [s])) (ha : ∀ (Q : VK), Q (.ref wl) H → ta σ H Q)
    (k : ∀ H1 v, Srch H0 H1 fd wl found waiting → SpotAt H1 v s → tz D (σ.set i (some v)) H1) : tSeq (tAsg (tBM0 K "list" rPop ta) (gName i)) tz D σ H := by
  obtain ⟨vs, hv, pv⟩ := h.hw
  have hlen : vs.length = (waiting ++ [s]).length := Paired.length pv
  rw [List.length_append, List.length_cons, List.length_nil] at hlen
  obtain ⟨v, hx⟩ : ∃ v, vs[vs.length - 1]? = some v := ⟨_, List.getElem?_eq_getElem (by omega)⟩
  obtain ⟨y, hy, ry⟩ := paired_at pv hx
  have ey : y = s := by
    have : vs.length - 1 = waiting.length := by omega
    rw [this] at hy
    simpa using hy.symm
  subst ey
  have pd : Paired (SpotAt H) vs.dropLast waiting := by
    have gen : ∀ {l₁ : List V} {l₂ : List Spot}, Paired (SpotAt H) l₁ l₂ → Paired (SpotAt H) l₁.dropLast l₂.dropLast := by
      intro l₁ l₂ p
      induction p with
      | nil => exact .nil
      | cons r t ih =>
        cases t with
        | nil => exact .nil
        | cons r2 t2 => exact .cons r ih
    have := gen pv
    rwa [List.dropLast_concat] at this
  refine ha _ ⟨.inl ⟨rfl, _, .of hv⟩, wl, vs, v, rfl, rfl, hv, hx, ?_⟩
  have t : Tups H (upd H wl (.lst vs.dropLast)) := tups_upd hv (fun _ z => nomatch z)
  exact k _ v ⟨Ex.mut h.ex h.nw, h.nf, h.nw, h.ne, by rw [upd_ne h.ne]; exact h.hf, _, upd_same, pm tm_spot t pd⟩ (tm_spot _ _ _ _ t ry)
/-- found[spot] = True -/
theorem srch_put {H0 : Hp} {fd wl : Addr} {found waiting : List Spot} {D : Ends} {tz : TS} (h : Srch H0 H fd wl found waiting) (hs : SpotAt H v s) (hn : s ∉ found) (hz : found.length ≤ 900000)
    (ha : ∀ (Q : VK), Q (.ref fd) H → ta σ H Q) (hb : ∀ (Q : VK), Q v H → tb σ H Q) (k : ∀ H1, Srch H0 H1 fd wl (found ++ [s]) waiting → SpotAt H1 v s → tz D σ H1) : tSeq (sDPut ta tb (tC (.bl true))) tz D σ H := by
  obtain ⟨p, rfl, hp⟩ := hs
  refine ha _ (hb _ ⟨fd, _, rfl, DPut.t (k := keyOf s) h.hf hp (by rw [keysT_len]; exact lt6 (by omega)), ?_⟩)
  rw [keysT_new hn]
  have t : Tups H (upd H fd (.dT (keysT (found ++ [s])))) := tups_upd h.hf (fun _ z => nomatch z)
  exact k _ ⟨Ex.mut h.ex h.nf, h.nf, h.nw, h.ne, upd_same, h.hw.keep tm_spot t fun o ho => by rw [upd_ne (Ne.symm h.ne)]; exact ho⟩ ⟨p, rfl, t _ _ hp⟩
/-- waiting.extend(e) -/
theorem srch_ext {H0 : Hp} {fd wl : Addr} {found waiting l : List Spot} {D : Ends} (h : Srch H0 H fd wl found waiting) (ho : Ev ta σ H (.ref wl)) (he : EL SpotAt te σ H l) (hz : waiting.length + l.length ≤ 1000000)
    (k : ∀ H1, Srch H0 H1 fd wl found (waiting ++ l) → Tups H H1 → D.nx σ H1) : tDrop (tBM K "list" rExtend ta (tCons te tNil)) D σ H := by
  obtain ⟨xs, hx, px⟩ := h.hw
  refine ho H (Ex.refl _) _ fun H1 e1 => ⟨.inl ⟨rfl, _, .of (e1 _ _ hx)⟩, he H1 e1 _ fun q H2 e2 ⟨ys, hy, py⟩ => ⟨wl, q, xs, ys, rfl, rfl, e2 _ _ (e1 _ _ hx), hy, sz6 (by rw [ListOf.len px, ListOf.len py]; exact hz), ?_⟩⟩
  have e12 := e1.trans e2
  have t : Tups H2 (upd H2 wl (.lst (xs ++ ys))) := tups_upd (e12 _ _ hx) (fun _ z => nomatch z)
  exact k _ ⟨Ex.mut (h.ex.trans e12) h.nw, h.nf, h.nw, h.ne, by rw [upd_ne h.ne]; exact e12 _ _ h.hf, _, upd_same, paired_app (pm tm_spot ((ex_tups e12).trans t) px) (pm tm_spot t py)⟩ ((ex_tups e12).trans t)
theorem isKeys_spots {l : List Spot} {bs : List Addr} : IsKeys H (keysT l) bs → Paired (SpotAt H) (bs.map V.ref) l := by
  intro h
  unfold IsKeys keysT at h
  induction l generalizing bs with
  | nil => cases h; exact .nil
  | cons a r ih =>
    cases h with
    | cons h1 h2 => exact .cons ⟨_, rfl, h1⟩ (ih h2)
theorem pop_last {α : Type} {l : List α} (h : l ≠ []) : ∃ r a, l = r ++ [a] := ⟨l.dropLast, l.getLast h, (List.dropLast_concat_getLast h).symm⟩
theorem pure_Turning_closed (T : Txt G mg) (h : sp_Turning_closed G vs H Q E) : t_Turning_closed G (endsOf Q) (start n_Turning_closed vs) H := by
  obtain ⟨t, a, M, x, l, rfl, ht, ⟨as, hl, pl⟩, hz, k⟩ := h
  have hN : (notes M x).length ≤ 5100 := notes_len ht.1.al ht.2.1
  intro fd hfd
  have e1 : Ex H (upd H fd (.dT [])) := Ex.new hfd
  refine ⟨_, rfl, a, as, rfl, .inl (.of (e1 _ _ hl)), fun wl hwl => ?_⟩
  have e2 : Ex (upd H fd (.dT [])) (upd (upd H fd (.dT [])) wl (.lst as)) := Ex.new hwl
  have hw0 : H wl = none := fresh_back e1 hwl
  have hne : fd ≠ wl := fun z => by rw [← z, upd_same] at hwl; cases hwl
  have s0 : Srch H (upd (upd H fd (.dT [])) wl (.lst as)) fd wl [] l := ⟨e1.trans e2, hfd, hw0, hne, e2 _ _ upd_same, as, upd_same, pm tm_spot (ex_tups (e1.trans e2)) pl⟩
  refine q_while (fun n σ' H' => ∃ found waiting c, σ' = [some (.ref t), some (.ref a), some (.ref fd), some (.ref wl), c] ∧ Srch H H' fd wl found waiting ∧ Dfs (sil (notes M x)) l found waiting ∧ n + loadOf (sil (notes M x)) found = waiting.length + (notes M x).length ∧ found.length + n ≤ l.length + (notes M x).length)
    (l.length + (notes M x).length) ⟨[], l, none, rfl, s0, Dfs.start, by simp [loadOf], by simp⟩ fun n σ' H' hw => ?_
  obtain ⟨found, waiting, c, rfl, sr, df, hn, hm⟩ := hw
  refine ⟨!waiting.isEmpty, et_test (ev_neNil (R := SpotAt) (el_var tm_spot rfl sr.hw)), fun hb H1 e => ?_, fun hb H1 e => ?_⟩
  · have hne2 : waiting ≠ [] := by intro z; rw [z] at hb; simp at hb
    obtain ⟨w', s, rfl⟩ := pop_last hne2
    rw [List.length_append, List.length_cons, List.length_nil] at hn
    refine ⟨fun σ2 H2 => ∃ n', n' < n ∧ ∃ found waiting c, σ2 = [some (.ref t), some (.ref a), some (.ref fd), some (.ref wl), c] ∧ Srch H H2 fd wl found waiting ∧ Dfs (sil (notes M x)) l found waiting ∧ n' + loadOf (sil (notes M x)) found = waiting.length + (notes M x).length ∧ found.length + n' ≤ l.length + (notes M x).length, fun σ2 H2 q => q, ?_⟩
    refine srch_pop (sr.go e) (fun Q q => ⟨_, rfl, q⟩) fun H2 v sr2 hs => ?_
    have tt := ht.ex sr2.ex
    have lb : loadOf (sil (notes M x)) found ≤ (notes M x).length := load_bound (fun n : Note => n.1) (notes M x) _ (fun s => sil_le _ s) df.nd
    refine s_if (b := !decide (s ∈ found)) (et_B (ev_notIn (ev_var rfl) (ev_var rfl) hs sr2.hf)) (fun hc H3 e3 => ?_) (fun hc H3 e3 => ?_)
    · have hc' : s ∉ found := by simpa using hc
      have df2 := df.new hc'
      have lb2 : loadOf (sil (notes M x)) (found ++ [s]) ≤ (notes M x).length := load_bound (fun n : Note => n.1) (notes M x) _ (fun s => sil_le _ s) df2.nd
      refine srch_put (sr2.go e3) (tm_spot _ _ _ _ (ex_tups e3) hs) hc' (by omega) (fun Q q => ⟨_, rfl, q⟩) (fun Q q => ⟨_, rfl, q⟩) fun H4 sr4 hs4 => ?_
      refine srch_ext sr4 (ev_var rfl) (el_sil T (ht.ex sr4.ex) (ev_var rfl) (ev_var rfl) hs4) ?_ fun H5 sr5 _ => ?_
      · have := load_snoc (sil (notes M x)) found s
        omega
      · have := load_snoc (sil (notes M x)) found s
        refine ⟨n - 1, by omega, _, _, _, rfl, sr5, df2, ?_, ?_⟩
        · rw [List.length_append]; omega
        · rw [List.length_append, List.length_cons, List.length_nil]; omega
    · have hc' : s ∈ found := by simpa using hc
      exact ⟨n - 1, by omega, found, w', _, rfl, sr2.go e3, df.old hc', by omega, by omega⟩
  · have he : waiting = [] := by cases waiting with | nil => rfl | cons a r => simp at hb
    subst he
    refine ⟨_, rfl, fd, _, rfl, .inl (e _ _ sr.hf), fun p bs hp hk => ?_⟩
    have e5 : Ex H1 (upd H1 p (.lst (bs.map V.ref))) := Ex.new hp
    have ez := (sr.ex.trans e)
    refine k _ p (ez.trans e5) (fresh_back ez hp) ⟨found, ⟨_, upd_same, pm tm_spot (ex_tups e5) (isKeys_spots hk)⟩, df.nd, by omega, fun s => df.done s⟩
end
end Tw

/-! # Readings: steps of a turning -/
namespace Tw
open PySem PySem.Spec PyProof.Rows L2 Evl TW
section
variable {G : Gs} {mg : Str → Option Value} {vs : List V} {H H' : Hp} {Q : VK} {E : XK} {K : PySem.W.Frag} {σ : L2.St} {ta tb te tv : TE} {t m w ds dw : Addr} {M : PM} {x : List Int} {s : Spot} {v : V}
theorem tF_meth {nm : Str} (h1 : (nm == ("machine" : Str)) = false) (h2 : (nm == ("word" : Str)) = false) (h3 : (nm == ("silent" : Str)) = false) (h4 : (nm == ("writing" : Str)) = false) : (tF m w ds dw).lookup nm = none :=
  (lk_past h1).trans ((lk_past h2).trans ((lk_past h3).trans ((lk_past h4).trans rfl)))
where lk_past {k g : Str} {v : V} {r : List (Str × V)} (h : (k == g) = false) : List.lookup k ((g, v) :: r) = List.lookup k r := by simp only [List.lookup, h]
/-- t.m(..) of a turning -/
theorem meth_t {sp : Sp} {nm : Str} {ta : TE} {tr : TA} {Q : VK} {E : XK} (h : TurnAt G H t M x) (ha : ∀ Q : VK, Q (.ref t) H → ta σ H Q) (hn : ∀ m w ds dw, (tF m w ds dw).lookup nm = none) (k : tr σ H fun vs H2 => sp (.ref t :: (vs ++ [])) H2 Q E) : tMeth G.cT nm sp [] E ta tr σ H Q := by
  obtain ⟨_, _, dx, m, w, ds, dw, h1, _⟩ := h
  exact ha _ ⟨t, dx, _, rfl, h1, hn _ _ _ _, k⟩
theorem eu_spot {i j : Nat} {t1 t2 : TE} (h1 : Ev t1 σ H (iv i)) (h2 : Ev t2 σ H (iv j)) : EU SpotAt (tTup (tCons t1 (tCons t2 tNil))) σ H (i, j) :=
  eu_of (ea_cons h1 (ea_cons h2 ea_nil)) (by show 2 ≤ 100000; decide) fun p H1 hp => ⟨p, rfl, hp⟩
theorem pure_Turning_begin (T : Txt G mg) (h : sp_Turning_begin G vs H Q E) : t_Turning_begin G (endsOf Q) (start n_Turning_begin vs) H := by
  obtain ⟨t, M, x, rfl, ht, k⟩ := h
  refine meth_t ht (fun Q q => ⟨_, rfl, q⟩) (fun _ _ _ _ => rfl) ?_
  refine cons_goE (R := SpotAt) (l := [(0, 0)]) (el_disp tm_spot (eas_cons tm_spot (eu_spot (i := 0) (j := 0) ev_c ev_c) eas_nil) (by simp)).el fun p H1 e1 l1 => ?_
  refine ⟨t, p, M, x, _, rfl, ht.ex e1, l1, by simp, fun H2 q e2 hq ss => k H2 q (e1.trans e2) (fresh_back e1 hq) ?_⟩
  obtain ⟨c, h1, h2, h3, h4⟩ := ss
  refine ⟨c, h1, h2, h3, fun s => (h4 s).trans ⟨fun ⟨b, hb, q⟩ => ?_, fun q => ⟨_, List.mem_cons_self .., q⟩⟩⟩
  have : b = (0, 0) := by simpa using hb
  subst this
  exact q
/-- what a set of spots writes together is no more than all notes -/
theorem sum_wri {N : List Note} {c : List Spot} (nd : c.Nodup) : (c.flatMap (wri N)).length ≤ N.length := by
  refine Nat.le_trans (Nat.le_of_eq ?_) (filt_sum (fun n : Note => n.1) c N nd |> fun h => Nat.le_trans (le_of_sum c) h)
  exact flat_sum c
where
  flat_sum (c : List Spot) : (c.flatMap (wri N)).length = (c.map fun s => (wri N s).length).sum := by
    induction c with
    | nil => rfl
    | cons a r ih => rw [List.flatMap_cons, List.length_append, List.map_cons, List.sum_cons, ih]
  le_of_sum (c : List Spot) : (c.map fun s => (wri N s).length).sum ≤ (c.map fun s => (N.filter fun n => decide (n.1 = s)).length).sum := by
    induction c with
    | nil => exact Nat.le_refl _
    | cons a r ih =>
      rw [List.map_cons, List.sum_cons, List.map_cons, List.sum_cons]
      have := wri_le N a
      omega
theorem sum_take {N : List Note} {c : List Spot} (nd : c.Nodup) (i : Nat) : ((c.take i).flatMap (wri N)).length ≤ N.length := sum_wri (nd.sublist (List.take_sublist i c))
theorem wri_all (N : List Note) (s : Spot) : (wri N s).length ≤ N.length := Nat.le_trans (wri_le N s) (List.length_filter_le _ _)
theorem pure_Turning_step (T : Txt G mg) (h : sp_Turning_step G vs H Q E) : t_Turning_step G (endsOf Q) (start n_Turning_step vs) H := by
  obtain ⟨t, a, b, M, x, S, rfl, ht, ⟨c, hl, nd, hc, hS⟩, k⟩ := h
  have hN : (notes M x).length ≤ 5100 := notes_len ht.1.al ht.2.1
  refine q_asgE (el_nil (R := SpotAt) tm_spot) fun p H1 e1 hp l1 => ?_
  have hle : ∀ i, ((c.take i).flatMap fun s => ((wri (notes M x) s).filter fun p => p.1 == b).map fun p => p.2).length ≤ (notes M x).length := fun i => by
    refine Nat.le_trans ?_ (sum_take nd i)
    generalize c.take i = d
    induction d with
    | nil => exact Nat.le_refl _
    | cons s r ih =>
      rw [List.flatMap_cons, List.length_append, List.flatMap_cons, List.length_append, List.length_map]
      have := List.length_filter_le (fun p : Int × Spot => p.1 == b) (wri (notes M x) s)
      omega
  refine q_forK (R := SpotAt) tm_spot hl (fun H2 e2 Q q => ⟨_, rfl, q H2 (Ex.refl _)⟩)
    (fun i σ' H' => (∃ c1 c2 c3, σ' = [some (.ref t), some (.ref a), some (.int b), some (.ref p), c1, c2, c3]) ∧ Own SpotAt H H' p ((c.take i).flatMap fun s => ((wri (notes M x) s).filter fun p => p.1 == b).map fun p => p.2))
    (fun H3 e3 => ⟨⟨_, _, _, rfl⟩, e1.trans e3, hp, l1.ex tm_spot e3⟩) (fun i σ' H' q => q.2.1) (fun i s v σ' H' hi r q => ?_) fun σ' H' q => ?_
  · obtain ⟨⟨c1, c2, c3, rfl⟩, o⟩ := q
    have tt := ht.ex o.1
    have hz := hle i
    have hw := wri_all (notes M x) s
    refine own_ext (R := SpotAt) (l' := ((wri (notes M x) s).filter fun p => p.1 == b).map fun p => p.2) tm_spot o (ev_var rfl)
      (el_filter (R := WrAt) (R' := SpotAt) tm_wr tm_spot (fun p => p.1 == b) (fun p => p.2) (el_wri T tt (ev_var rfl) (ev_var rfl) r) (by omega) (fun y z H4 Q1 N1 hy _ e4 q1 q2 => ?_)).el ?_ fun H4 o4 => ⟨⟨_, _, _, rfl⟩, ?_⟩
    · obtain ⟨pa, qa, rfl, h1, h2⟩ := hy
      refine ⟨pa, _, rfl, .of h1, rfl, _, _, rfl, _, _, rfl, rfl, rfl, _, rfl, _, rfl, rfl, _, rfl, ?_⟩
      by_cases cz : z.1 = b
      · have e : decide (V.int z.1 = V.int b) = true := decide_eq_true (by rw [cz])
        rw [e]
        exact iteT ⟨_, rfl, q1 (by simp [cz]) _ H4 (Ex.refl _) ⟨qa, rfl, h2⟩⟩
      · have e : decide (V.int z.1 = V.int b) = false := decide_eq_false (fun q => cz (by injection q))
        rw [e]
        exact iteF (q2 (by simp [cz]) H4 (Ex.refl _))
    · rw [List.length_map]
      have := List.length_filter_le (fun p : Int × Spot => p.1 == b) (wri (notes M x) s)
      omega
    · rw [take_more hi, List.flatMap_append]
      have e9 : [s].flatMap (fun s => ((wri (notes M x) s).filter fun p => p.1 == b).map fun p => p.2) = ((wri (notes M x) s).filter fun p => p.1 == b).map fun p => p.2 := by simp
      rw [e9]
      exact o4
  · obtain ⟨⟨c1, c2, c3, rfl⟩, o⟩ := q
    have hz := hle c.length
    rw [List.take_length] at o hz
    refine meth_t (ht.ex o.1) (fun Q q => ⟨_, rfl, q⟩) (fun _ _ _ _ => rfl) ?_
    refine ⟨_, rfl, t, p, M, x, _, rfl, ht.ex o.1, o.2.2, by omega, fun H2 q e2 hq ss => k H2 q (o.1.trans e2) (fresh_back o.1 hq) ?_⟩
    obtain ⟨d, h1, h2, h3, h4⟩ := ss
    refine ⟨d, h1, h2, h3, fun u => (h4 u).trans ⟨fun ⟨y, hy, q⟩ => ?_, fun ⟨s, p, hs, hp, eb, q⟩ => ⟨p.2, ?_, q⟩⟩⟩
    · obtain ⟨s, hs, hy⟩ := List.mem_flatMap.mp hy
      obtain ⟨z, hz, e⟩ := List.mem_map.mp hy
      obtain ⟨hz1, hz2⟩ := List.mem_filter.mp hz
      exact ⟨s, z, (hS s).mp hs, hz1, by simpa using hz2, by rw [e]; exact q⟩
    · exact List.mem_flatMap.mpr ⟨s, (hS s).mpr hs, List.mem_map.mpr ⟨p, List.mem_filter.mpr ⟨hp, by simp [eb]⟩, rfl⟩⟩
theorem pure_Turning_has_end (T : Txt G mg) (h : sp_Turning_has_end G vs H Q E) : t_Turning_has_end G (endsOf Q) (start n_Turning_has_end vs) H := by
  obtain ⟨t, a, M, x, S, rfl, ht, ⟨c, hl, nd, hc, hS⟩, k⟩ := h
  refine (ev_neNil (R := SpotAt) (l := (c.filter fun s => isEnd M x s).map id) (el_filter (R := SpotAt) (R' := SpotAt) tm_spot tm_spot (fun s => isEnd M x s) id (fun H1 e Q q => ⟨_, rfl, q _ H1 (Ex.refl _) (hl.ex tm_spot e)⟩) (by omega) (fun y z H4 Q1 N1 hy _ e4 q1 q2 => ?_)).el) H (Ex.refl _) _ fun H1 e1 => ?_
  · refine ⟨rfl, ?_⟩
    refine meth_t (ht.ex e4) (fun Q q => ⟨_, rfl, q⟩) (fun _ _ _ _ => rfl) ?_
    refine ⟨_, rfl, t, y, M, x, z, rfl, ht.ex e4, hy, _, rfl, ?_⟩
    by_cases c : isEnd M x z = true
    · rw [c]
      exact iteT ⟨_, rfl, q1 c _ H4 (Ex.refl _) hy⟩
    · have c' : isEnd M x z = false := by simpa using c
      rw [c']
      exact iteF (q2 c' H4 (Ex.refl _))
  · refine k _ _ e1 ?_
    rw [List.map_id]
    constructor
    · intro hb
      have : c.filter (fun s => isEnd M x s) ≠ [] := by intro z; rw [z] at hb; simp at hb
      obtain ⟨s, r, e⟩ := List.exists_cons_of_ne_nil this
      have hm : s ∈ c.filter fun s => isEnd M x s := by rw [e]; exact List.mem_cons_self ..
      exact ⟨s, (hS s).mp (List.mem_filter.mp hm).1, (List.mem_filter.mp hm).2⟩
    · rintro ⟨s, hs, he⟩
      have hm : s ∈ c.filter fun s => isEnd M x s := List.mem_filter.mpr ⟨(hS s).mpr hs, he⟩
      cases hf : c.filter fun s => isEnd M x s with
      | nil => rw [hf] at hm; cases hm
      | cons => rfl
theorem pure_Turning_spots (T : Txt G mg) (h : sp_Turning_spots G vs H Q E) : t_Turning_spots G (endsOf Q) (start n_Turning_spots vs) H := by
  obtain ⟨t, M, x, rfl, ht, k⟩ := h
  obtain ⟨ok, hx, dx, m, w, ds, dw, h1, hm, hw, _, _⟩ := id ht
  refine q_asgE (el_nil (R := SpotAt) tm_spot) fun p H1 e1 hp l1 => ?_
  have hlen : Ev (tCB (rLenS G.K) (tCons (tFld G.K (tVar 0) "word") tNil)) ([some (.ref t), some (.ref p), none, none] : L2.St) H1 (iv x.length) := by
    refine ev_is (ev_len (K := G.K) (ev_fldT T (ev_var rfl) (e1 _ _ h1) T.n_word rfl) (.of (e1 _ _ hw))) ?_
    rw [List.length_map]
  refine q_forR1 (n := ((x.length + 1 : Nat) : Int)) (ea_cons (ev_addN (j := 1) hlen ev_c) ea_nil) (by omega)
    (fun i σ' H' => (∃ c1 c2, σ' = [some (.ref t), some (.ref p), c1, c2]) ∧ Own SpotAt H H' p ((List.range i).flatMap fun i => (List.range M.states).map fun k => (i, k)))
    (fun H3 e3 => ⟨⟨_, _, rfl⟩, e1.trans e3, hp, l1.ex tm_spot e3⟩) (fun i σ' H' hi q => ?_) fun σ' H' q => ?_
  · obtain ⟨⟨c1, c2, rfl⟩, o⟩ := q
    have hs2 := ok.s2
    have hz : ((List.range i).flatMap fun i => (List.range M.states).map fun k => ((i, k) : Spot)).length ≤ 17 * 24 := by
      refine Nat.le_trans (flat_len (k := 24) fun a _ => by rw [List.length_map, List.length_range]; exact hs2) ?_
      rw [List.length_range]
      exact Nat.mul_le_mul_right _ (by omega)
    refine own_ext (R := SpotAt) (l' := (List.range M.states).map fun k => (i, k)) tm_spot o (ev_var rfl) (el_range tm_spot M.states _ (ea_cons (ev_states T (ev_fldT T (ev_var rfl) (o.1 _ _ h1) T.n_machine rfl) (hm.ex o.1)) ea_nil) (by omega) (fun _ => rfl) fun j H4 _ _ => ?_).el ?_ fun H4 o4 => ⟨⟨_, _, rfl⟩, ?_⟩
    · exact eu_spot (ev_var rfl) (ev_var rfl)
    · rw [List.length_map, List.length_range]
      omega
    · rw [List.range_succ, List.flatMap_append]
      have e9 : [i].flatMap (fun i => (List.range M.states).map fun k => ((i, k) : Spot)) = (List.range M.states).map fun k => (i, k) := by simp
      rw [e9]
      exact o4
  · obtain ⟨⟨c1, c2, rfl⟩, o⟩ := q
    rw [Int.toNat_natCast] at o
    exact ⟨_, rfl, k H' p o.1 o.2.1 o.2.2⟩
end
end Tw

/-! # Readings: leads, least_byte -/
namespace Tw
open PySem PySem.Spec PyProof.Rows L2 Evl TW
section
variable {G : Gs} {mg : Str → Option Value} {vs : List V} {H H' : Hp} {Q : VK} {E : XK} {K : PySem.W.Frag} {σ : L2.St} {ta tb te tv : TE} {t m w ds dw : Addr} {M : PM} {x : List Int} {s : Spot} {v : V}
theorem pure_Turning_leads (T : Txt G mg) (h : sp_Turning_leads G vs H Q E) : t_Turning_leads G (endsOf Q) (start n_Turning_leads vs) H := by
  obtain ⟨t, a, d, M, x, S, U, rfl, ht, ⟨c, hl, nd, hc, hS⟩, ⟨kl, hd, _, hU⟩, k⟩ := h
  have hN : (notes M x).length ≤ 5100 := notes_len ht.1.al ht.2.1
  refine q_forK (R := SpotAt) tm_spot hl (ev_var rfl)
    (fun i σ' H' => (∃ c1 c2 c3, σ' = [some (.ref t), some (.ref a), some (.ref d), c1, c2, c3]) ∧ Ex H H' ∧ ∀ s ∈ c.take i, ∀ p ∈ wri (notes M x) s, ¬ U p.2)
    (fun H1 e1 => ⟨⟨_, _, _, rfl⟩, e1, fun s hs => by rw [List.take_zero] at hs; cases hs⟩) (fun i σ' H' q => q.2.1) (fun i s v σ' H' hi r q => ?_) fun σ' H' q => ?_
  · obtain ⟨⟨c1, c2, c3, rfl⟩, e, no⟩ := q
    have hw := wri_all (notes M x) s
    have hsc : s ∈ c := List.mem_of_getElem? hi
    refine s_if (b := !(((wri (notes M x) s).filter fun p => decide (p.2 ∈ kl)).map fun p => p.2).isEmpty) (et_test (ev_neNil (R := SpotAt) (el_filter (R := WrAt) (R' := SpotAt) tm_wr tm_spot (fun p => decide (p.2 ∈ kl)) (fun p => p.2) (el_wri T (ht.ex e) (ev_var rfl) (ev_var rfl) r) (by omega) (fun y z H4 Q1 N1 hy _ e4 q1 q2 => ?_)).el)) (fun hb H1 e1 => ?_) (fun hb H1 e1 => ?_)
    · obtain ⟨pa, qa, rfl, h1, h2⟩ := hy
      refine ⟨pa, _, rfl, .of h1, rfl, _, _, rfl, _, _, rfl, rfl, rfl, ?_⟩
      refine et_B (ev_inD (l := kl) (s := z.2) (ev_var rfl) (ev_var rfl) ⟨qa, rfl, h2⟩ ((e.trans e4) _ _ hd)) H4 (Ex.refl _) _ fun H5 e5 => ?_
      by_cases cz : z.2 ∈ kl
      · rw [decide_eq_true cz]
        exact iteT ⟨_, rfl, q1 (decide_eq_true cz) _ H5 e5 ⟨qa, rfl, e5 _ _ h2⟩⟩
      · rw [decide_eq_false cz]
        exact iteF (q2 (decide_eq_false cz) H5 e5)
    · refine k _ _ (e.trans e1) ⟨fun _ => ?_, fun _ => rfl⟩
      have : (wri (notes M x) s).filter (fun p => decide (p.2 ∈ kl)) ≠ [] := by intro z; rw [z] at hb; simp at hb
      obtain ⟨p, r2, e2⟩ := List.exists_cons_of_ne_nil this
      have hm : p ∈ (wri (notes M x) s).filter fun p => decide (p.2 ∈ kl) := by rw [e2]; exact List.mem_cons_self ..
      obtain ⟨m1, m2⟩ := List.mem_filter.mp hm
      exact ⟨s, p, (hS s).mp hsc, m1, (hU _).mp (of_decide_eq_true m2)⟩
    · refine ⟨⟨_, _, _, rfl⟩, e.trans e1, fun u hu p hp hUp => ?_⟩
      rw [take_more hi] at hu
      rcases List.mem_append.mp hu with hu | hu
      · exact no u hu p hp hUp
      · have : u = s := by simpa using hu
        subst this
        have hm : p ∈ (wri (notes M x) u).filter fun p => decide (p.2 ∈ kl) := List.mem_filter.mpr ⟨hp, decide_eq_true ((hU _).mpr hUp)⟩
        cases hf : (wri (notes M x) u).filter fun p => decide (p.2 ∈ kl) with
        | nil => rw [hf] at hm; cases hm
        | cons => rw [hf] at hb; simp at hb
  · obtain ⟨⟨c1, c2, c3, rfl⟩, e, no⟩ := q
    rw [List.take_length] at no
    refine k _ _ e ⟨fun z => (nomatch z), fun ⟨s, p, hs, hp, hu⟩ => (no s ((hS s).mpr hs) p hp hu).elim⟩
/-- the bytes that lead from spots to known ones, from a least on -/
def leadB (kl : List Spot) (low : Int) (l : List (Int × Spot)) : List Int := (l.filter fun p => decide (low ≤ p.1) && decide (p.2 ∈ kl)).map fun p => p.1
theorem leadB_len (kl : List Spot) (low : Int) (l : List (Int × Spot)) : (leadB kl low l).length ≤ l.length := by
  unfold leadB
  rw [List.length_map]
  exact List.length_filter_le _ _
theorem leadB_snoc (kl : List Spot) (low : Int) (l : List (Int × Spot)) (y : Int × Spot) : leadB kl low (l ++ [y]) = leadB kl low l ++ if (decide (low ≤ y.1) && decide (y.2 ∈ kl)) = true then [y.1] else [] := by
  unfold leadB
  rw [List.filter_append, List.map_append]
  congr 1
  by_cases c : (decide (low ≤ y.1) && decide (y.2 ∈ kl)) = true
  · rw [if_pos c, show [y].filter (fun p => decide (low ≤ p.1) && decide (p.2 ∈ kl)) = [y] from List.filter_cons_of_pos (p := fun p : Int × Spot => decide (low ≤ p.1) && decide (p.2 ∈ kl)) c]; rfl
  · rw [if_neg c, show [y].filter (fun p => decide (low ≤ p.1) && decide (p.2 ∈ kl)) = [] from List.filter_cons_of_neg (p := fun p : Int × Spot => decide (low ≤ p.1) && decide (p.2 ∈ kl)) c]; rfl
theorem leadB_mem {kl : List Spot} {low z : Int} {l : List (Int × Spot)} : z ∈ leadB kl low l ↔ ∃ p ∈ l, p.1 = z ∧ low ≤ p.1 ∧ p.2 ∈ kl := by
  unfold leadB
  constructor
  · intro h
    obtain ⟨p, hp, e⟩ := List.mem_map.mp h
    obtain ⟨h1, h2⟩ := List.mem_filter.mp hp
    simp at h2
    exact ⟨p, h1, e, h2⟩
  · rintro ⟨p, h1, e, h2⟩
    exact List.mem_map.mpr ⟨p, List.mem_filter.mpr ⟨h1, by simpa using h2⟩, e⟩
theorem pure_Turning_least_byte (T : Txt G mg) (h : sp_Turning_least_byte G vs H Q E) : t_Turning_least_byte G (endsOf Q) (start n_Turning_least_byte vs) H := by
  obtain ⟨t, a, d, low, M, x, S, U, rfl, ht, ⟨c, hl, nd, hc, hS⟩, ⟨kl, hd, _, hU⟩, k⟩ := h
  have hN : (notes M x).length ≤ 5100 := notes_len ht.1.al ht.2.1
  have hle : ∀ i, ((c.take i).flatMap fun s => leadB kl low (wri (notes M x) s)).length ≤ (notes M x).length := fun i => by
    refine Nat.le_trans ?_ (sum_take nd i)
    generalize c.take i = d
    induction d with
    | nil => exact Nat.le_refl _
    | cons s r ih =>
      rw [List.flatMap_cons, List.length_append, List.flatMap_cons, List.length_append]
      have := leadB_len kl low (wri (notes M x) s)
      omega
  refine q_asgE (el_nil (R := IntAt) tm_int) fun pf H1 e1 hp l1 => ?_
  refine q_forK (R := SpotAt) tm_spot hl (ev_var rfl)
    (fun i σ' H' => (∃ c1 c2 c3, σ' = [some (.ref t), some (.ref a), some (.ref d), some (.int low), some (.ref pf), c1, c2, c3]) ∧ Own IntAt H H' pf ((c.take i).flatMap fun s => leadB kl low (wri (notes M x) s)))
    (fun H3 e3 => ⟨⟨_, _, _, rfl⟩, e1.trans e3, hp, l1.ex tm_int e3⟩) (fun i σ' H' q => q.2.1) (fun i s v σ' H' hi r q => ?_) fun σ' H' q => ?_
  · obtain ⟨⟨c1, c2, c3, rfl⟩, o⟩ := q
    have hz := hle i
    have hw := wri_all (notes M x) s
    refine s_forE (R := WrAt) tm_wr (el_wri T (ht.ex o.1) (ev_var rfl) (ev_var rfl) r)
      (fun p1 H1 j σ2 H2 => (∃ c2 c3, σ2 = [some (.ref t), some (.ref a), some (.ref d), some (.int low), some (.ref pf), some v, c2, c3]) ∧ Own IntAt H H2 pf (((c.take i).flatMap fun s => leadB kl low (wri (notes M x) s)) ++ leadB kl low ((wri (notes M x) s).take j)) ∧ Tups H1 H2 ∧ ∀ o, H1 p1 = some o → H2 p1 = some o)
      (fun p1 H1 e => ⟨⟨_, _, rfl⟩, by rw [List.take_zero]; show Own IntAt H H1 pf (_ ++ []); rw [List.append_nil]; exact o.ex tm_int e, Tups.refl _, fun _ h => h⟩) (fun p1 H1 j σ2 H2 q => q.2.2) (fun p1 H1 j y v2 σ2 H2 e hj r2 hat q => ?_) fun p1 H1 σ2 H2 e q => ?_
    · obtain ⟨⟨c2, c3, rfl⟩, o2, tu, kp⟩ := q
      obtain ⟨pa, qa, rfl, h1, h2⟩ := r2
      refine ⟨pa, _, rfl, .of h1, rfl, _, _, rfl, _, _, rfl, rfl, ?_⟩
      have el : leadB kl low ((wri (notes M x) s).take (j + 1)) = leadB kl low ((wri (notes M x) s).take j) ++ if (decide (low ≤ y.1) && decide (y.2 ∈ kl)) = true then [y.1] else [] := by
        rw [take_more hj, leadB_snoc]
      refine s_if (b := decide (low ≤ y.1) && decide (y.2 ∈ kl)) (et_and (et_test (ev_op (ev_var rfl) (ev_var rfl) rv_I0)) fun _ => et_B (ev_inD (l := kl) (s := y.2) (ev_var rfl) (ev_var rfl) ⟨qa, rfl, h2⟩ (o2.1 _ _ hd))) (fun hb H3 e3 => ?_) (fun hb H3 e3 => ?_)
      · have hz2 : (leadB kl low ((wri (notes M x) s).take j)).length ≤ (notes M x).length := by
          have h4 := leadB_len kl low ((wri (notes M x) s).take j)
          rw [List.length_take] at h4
          omega
        have hne : p1 ≠ pf := by
          intro z
          obtain ⟨vs1, hv1, hv2⟩ := hat
          obtain ⟨_, _, xs, hxs, px⟩ := o2
          rw [z, hxs] at hv1
          cases hv1
          obtain ⟨_, _, hint⟩ := paired_at px hv2
          cases hint
        refine own_app2 (R := IntAt) (x := y.1) tm_int (o2.ex tm_int e3) (ev_var rfl) (eu_int (ev_var rfl)) (by rw [List.length_append]; omega) fun H4 o4 ec t4 => ⟨⟨_, _, rfl⟩, ?_, (tu.trans (ex_tups e3)).trans t4, fun o ho => ec _ _ (e3 _ _ (kp _ ho)) hne⟩
        have eq : (if (decide (low ≤ y.1) && decide (y.2 ∈ kl)) = true then [y.1] else []) = [y.1] := if_pos hb
        rw [el, eq, ← List.append_assoc]
        exact o4
      · refine ⟨⟨_, _, rfl⟩, ?_, tu.trans (ex_tups e3), fun o ho => e3 _ _ (kp _ ho)⟩
        have eq : (if (decide (low ≤ y.1) && decide (y.2 ∈ kl)) = true then [y.1] else []) = [] := if_neg (by rw [hb]; decide)
        rw [el, eq, List.append_nil]
        exact o2.ex tm_int e3
    · obtain ⟨⟨c2, c3, rfl⟩, o2, _, _⟩ := q
      rw [List.take_length] at o2
      refine ⟨⟨_, _, _, rfl⟩, ?_⟩
      rw [take_more hi, List.flatMap_append]
      have e9 : [s].flatMap (fun s => leadB kl low (wri (notes M x) s)) = leadB kl low (wri (notes M x) s) := by simp
      rw [e9]
      exact o2
  · obtain ⟨⟨c1, c2, c3, rfl⟩, o⟩ := q
    rw [List.take_length] at o
    have mem : ∀ z, z ∈ (c.flatMap fun s => leadB kl low (wri (notes M x) s)) ↔ ∃ s p, S s ∧ p ∈ wri (notes M x) s ∧ U p.2 ∧ low ≤ p.1 ∧ p.1 = z := fun z => by
      rw [List.mem_flatMap]
      constructor
      · rintro ⟨s, hs, hz⟩
        obtain ⟨p, hp, e, h1, h2⟩ := leadB_mem.mp hz
        exact ⟨s, p, (hS s).mp hs, hp, (hU _).mp h2, h1, e⟩
      · rintro ⟨s, p, hs, hp, hu, h1, e⟩
        exact ⟨s, (hS s).mpr hs, leadB_mem.mpr ⟨p, hp, e, h1, (hU _).mpr hu⟩⟩
    refine q_when (b := (c.flatMap fun s => leadB kl low (wri (notes M x) s)).isEmpty) (et_test (ev_eqNil (R := IntAt) (el_var tm_int rfl o.2.2))) (fun hb H2 e2 => ?_) (fun hb H2 e2 => ?_)
    · refine k _ _ (o.1.trans e2) (.inl ⟨rfl, fun s p hs hp hu => ?_⟩)
      have hn : (c.flatMap fun s => leadB kl low (wri (notes M x) s)) = [] := List.isEmpty_iff.mp hb
      rcases Int.lt_or_le p.1 low with hlt | hge
      · exact hlt
      · have := (mem p.1).mpr ⟨s, p, hs, hp, hu, hge, rfl⟩
        rw [hn] at this
        cases this
    · have hn : (c.flatMap fun s => leadB kl low (wri (notes M x) s)) ≠ [] := fun z => by rw [z] at hb; cases hb
      have hL := intL_of (o.2.2.ex tm_int e2)
      refine ⟨_, rfl, pf, _, rfl, .of hL, List.length_pos_iff.mpr hn, fun z hz hmin => k _ _ (o.1.trans e2) (.inr ?_)⟩
      obtain ⟨s, p, hs, hp, hu, h1, e⟩ := (mem z).mp hz
      refine ⟨⟨s, p, hs, hp, e, hu⟩, by omega, fun s2 p2 hs2 hp2 hu2 h2 => hmin _ ((mem p2.1).mpr ⟨s2, p2, hs2, hp2, hu2, h2, rfl⟩)⟩
end
end Tw

/-! # Readings: note, Turning(..) -/
namespace Tw
open PySem PySem.Spec PyProof.Rows L2 Evl TW
structure DictL {α : Type} (R : Hp → V → α → Prop) (H0 H : Hp) (d : Addr) (kvs : List (List Key × V)) (c : Spot → List α) : Prop where
  hd : H d = some (.dT kvs)
  val : ∀ s, (valV kvs (keyOf s) = none ∧ c s = []) ∨ ∃ l, valV kvs (keyOf s) = some (.ref l) ∧ H0 l = none ∧ ListOf R H l (c s)
  inj : ∀ s s' l, valV kvs (keyOf s) = some (.ref l) → valV kvs (keyOf s') = some (.ref l) → s = s'
section
variable {α : Type} {R : Hp → V → α → Prop} {K : PySem.W.Frag} {H0 H : Hp} {d : Addr} {kvs : List (List Key × V)} {c : Spot → List α} {σ : L2.St} {td ty te : TE} {v1 : V} {s : Spot} {x : α} {D : Ends}
theorem DictL.lists (h : DictL R H0 H d kvs c) {s : Spot} {l : Addr} (hl : valV kvs (keyOf s) = some (.ref l)) : H0 l = none ∧ ListOf R H l (c s) := by
  rcases h.val s with ⟨h1, _⟩ | ⟨l', h1, h2, h3⟩
  · rw [h1] at hl; cases hl
  · rw [h1] at hl
    cases hl
    exact ⟨h2, h3⟩
/-- d.setdefault(y, []).append(e) -/
theorem set_app (m : Tm R) (h : DictL R H0 H d kvs c) (e0 : Ex H0 H) (nd : H0 d = none) (hs : SpotAt H v1 s) (hz : kvs.length ≤ 100000) (hc : (c s).length ≤ 100000)
    (htd : ∀ Q : VK, Q (.ref d) H → td σ H Q) (hty : ∀ H1 (Q : VK), Q v1 H1 → ty σ H1 Q) (he : ∀ H1, Tups H H1 → EU R te σ H1 x)
    (k : ∀ H' kvs', Ex H0 H' → DictL R H0 H' d kvs' (fun s' => c s' ++ if s = s' then [x] else []) → kvs'.length ≤ kvs.length + 1 → (∀ b o, H b = some o → b ≠ d → (∀ s l, valV kvs (keyOf s) = some (.ref l) → b ≠ l) → H' b = some o) →
      (∀ s l, valV kvs' (keyOf s) = some (.ref l) → valV kvs (keyOf s) = some (.ref l) ∨ H l = none) → Tups H H' → D.nx σ H') :
    tDrop (tBM K "list" rAppend (tDSetT td ty (tLst tNil)) (tCons te tNil)) D σ H := by
  obtain ⟨b, rfl, hb⟩ := hs
  refine htd _ ⟨d, rfl, .inr ⟨kvs, .inl h.hd⟩, hty _ _ ⟨sz0, fun z hzn => ?_⟩⟩
  have e1 : Ex H (upd H z (.lst [])) := Ex.new hzn
  refine ⟨kvs, keyOf s, b, e1 _ _ h.hd, rfl, e1 _ _ hb, lt6 (by omega), fun v hv => ?_, fun hv => ?_⟩
  · -- there is one
    rcases h.val s with ⟨h1, _⟩ | ⟨l, h1, h2, ⟨xs, hx, px⟩⟩
    · rw [h1] at hv; cases hv
    · rw [h1] at hv
      cases hv
      refine ⟨.inl ⟨rfl, _, .of (e1 _ _ hx)⟩, he _ (ex_tups e1) _ (Ex.refl _) _ fun w H2 e2 rw' => ?_⟩
      have hlen : xs.length = (c s).length := Paired.length px
      have hx2 : H2 l = some (.lst xs) := e2 _ _ (e1 _ _ hx)
      refine ⟨l, xs, w, rfl, rfl, hx2, lt6 (by omega), ?_⟩
      have t : Tups H2 (upd H2 l (.lst (xs ++ [w]))) := tups_upd hx2 (fun _ z => nomatch z)
      have e12 := e1.trans e2
      have tt := (ex_tups e12).trans t
      refine k _ kvs (Ex.mut (e0.trans e12) h2) ⟨by rw [upd_ne (ne_of h.hd hx (fun z => nomatch z))]; exact e12 _ _ h.hd, fun s' => ?_, h.inj⟩ (by omega) (fun b o hb' _ hn => by rw [upd_ne (hn s l h1)]; exact e12 _ _ hb') (fun s' l' h' => .inl h') tt
      by_cases cs : s = s'
      · subst cs
        refine .inr ⟨l, h1, h2, _, upd_same, ?_⟩
        rw [if_pos rfl]
        exact paired_app (pm m tt px) (.cons (m _ _ _ _ t rw') .nil)
      · rw [if_neg cs, List.append_nil]
        rcases h.val s' with q | ⟨l', g1, g2, g3⟩
        · exact .inl q
        · have hne : l' ≠ l := fun z => cs (h.inj s s' l h1 (by rw [← z]; exact g1))
          exact .inr ⟨l', g1, g2, g3.keep m tt fun o ho => by rw [upd_ne hne]; exact e12 _ _ ho⟩
  · -- a new one
    have hcs : c s = [] := by
      rcases h.val s with ⟨_, q⟩ | ⟨l, h1, _⟩
      · exact q
      · rw [h1] at hv; cases hv
    have zd : z ≠ d := fun q => by rw [q, h.hd] at hzn; cases hzn
    have nz : H0 z = none := fresh_back e0 hzn
    have hz1 : upd (upd H z (.lst [])) d (.dT (putK kvs (keyOf s) (.ref z))) z = some (.lst []) := by rw [upd_ne zd, upd_same]
    have t1 : Tups H (upd (upd H z (.lst [])) d (.dT (putK kvs (keyOf s) (.ref z)))) := (ex_tups e1).trans (tups_upd (e1 _ _ h.hd) (fun _ z => nomatch z))
    refine ⟨.inl ⟨rfl, _, .of hz1⟩, he _ t1 _ (Ex.refl _) _ fun w H2 e2 rw' => ?_⟩
    refine ⟨z, [], w, rfl, rfl, e2 _ _ hz1, lt6 (by simp), ?_⟩
    have t : Tups H2 (upd H2 z (.lst ([] ++ [w]))) := tups_upd (e2 _ _ hz1) (fun _ z => nomatch z)
    have tt := (t1.trans (ex_tups e2)).trans t
    have ee : Ex H0 H2 := (Ex.mut (e0.trans e1) nd).trans e2
    have hd2 : H2 d = some (.dT (putK kvs (keyOf s) (.ref z))) := e2 _ _ upd_same
    have hlen := length_putK kvs (keyOf s) (.ref z)
    have old : ∀ b o, H b = some o → b ≠ d → upd H2 z (.lst ([] ++ [w])) b = some o := fun b o hb' hbd => by
      have hbz : b ≠ z := ne_of_none hb' hzn
      rw [upd_ne hbz]
      exact e2 _ _ (by rw [upd_ne hbd, upd_ne hbz]; exact hb')
    have vput : ∀ s', valV (putK kvs (keyOf s) (.ref z)) (keyOf s') = if s = s' then some (.ref z) else valV kvs (keyOf s') := fun s' => by
      rw [valV_put]
      by_cases cs : s = s'
      · rw [if_pos cs, if_pos (by rw [cs])]
      · rw [if_neg cs, if_neg fun q => cs (keyOf_inj q).symm]
    refine k _ _ (Ex.mut ee nz) ⟨by rw [upd_ne (Ne.symm zd)]; exact hd2, fun s' => ?_, fun s1 s2 l h1 h2 => ?_⟩ hlen (fun b o hb' hbd _ => old b o hb' hbd) (fun s' l h' => ?_) tt
    · by_cases cs : s = s'
      · subst cs
        refine .inr ⟨z, by rw [vput, if_pos rfl], nz, _, upd_same, ?_⟩
        rw [if_pos rfl, hcs]
        exact .cons (m _ _ _ _ t rw') .nil
      · rw [if_neg cs, List.append_nil]
        rcases h.val s' with ⟨q1, q2⟩ | ⟨l', g1, g2, g3⟩
        · exact .inl ⟨by rw [vput, if_neg cs]; exact q1, q2⟩
        · refine .inr ⟨l', by rw [vput, if_neg cs]; exact g1, g2, g3.keep m tt fun o ho => old _ _ ho ?_⟩
          intro q
          obtain ⟨ys, hy, _⟩ := g3
          rw [q, h.hd] at hy
          cases hy
    · rw [vput] at h1 h2
      by_cases c1 : s = s1
      · by_cases c2 : s = s2
        · exact c1.symm.trans c2
        · rw [if_pos c1] at h1
          rw [if_neg c2] at h2
          cases h1
          obtain ⟨_, ys, hy, _⟩ := h.lists h2
          rw [hzn] at hy
          cases hy
      · rw [if_neg c1] at h1
        by_cases c2 : s = s2
        · rw [if_pos c2] at h2
          cases h2
          obtain ⟨_, ys, hy, _⟩ := h.lists h1
          rw [hzn] at hy
          cases hy
        · rw [if_neg c2] at h2
          exact h.inj _ _ _ h1 h2
    · rw [vput] at h'
      by_cases cs : s = s'
      · rw [if_pos cs] at h'
        cases h'
        exact .inr hzn
      · rw [if_neg cs] at h'
        exact .inl h'
end
section
variable {G : Gs} {mg : Str → Option Value} {vs : List V} {H H' H0 : Hp} {Q : VK} {E : XK} {ds dw : Addr} {kS kW : List (List Key × V)} {N : List Note}
theorem Built.dl (b : Built H0 H ds dw kS kW N) : DictL SpotAt H0 H ds kS (sil N) := ⟨b.hS, b.vS, b.dS⟩
theorem Built.dr (b : Built H0 H ds dw kS kW N) : DictL WrAt H0 H dw kW (wri N) := ⟨b.hW, b.vW, b.dW⟩
theorem sil_all (N : List Note) (s : Spot) : (sil N s).length ≤ N.length := Nat.le_trans (sil_le N s) (List.length_filter_le _ _)
theorem pure_Turning_note (T : Txt G mg) (h : sp_Turning_note G vs H Q E) : t_Turning_note G (endsOf Q) (start n_Turning_note vs) H := by
  obtain ⟨t, v1, wr, v2, dx, m, w, ds, dw, kS, kW, N, s, o, H0, rfl, ht, b, hs, ho, hz, k⟩ := h
  have ht' := b.ex _ _ ht
  refine s_if (b := decide (wr = -1)) (et_test (ev_is (ev_op (ev_var rfl) ev_c (rv_eq rfl)) ?_)) (fun c H1 e1 => ?_) (fun c H1 e1 => ?_)
  · show V.bl (decide (V.int wr = V.int (-1))) = _
    by_cases c : wr = -1 <;> simp [c]
  · have cw : wr = -1 := of_decide_eq_true c
    subst cw
    have b1 : Built H0 H1 ds dw kS kW N := ⟨b.ex.trans e1, b.nS, b.nW, b.ne, e1 _ _ b.hS, e1 _ _ b.hW, b.lS, b.lW, fun s => (b.vS s).elim .inl fun ⟨l, q1, q2, q3⟩ => .inr ⟨l, q1, q2, q3.ex tm_spot e1⟩, fun s => (b.vW s).elim .inl fun ⟨l, q1, q2, q3⟩ => .inr ⟨l, q1, q2, q3.ex tm_wr e1⟩, b.dS, b.dW, b.dSW⟩
    refine set_app (R := SpotAt) (x := o) tm_spot b1.dl b1.ex b1.nS (tm_spot _ _ _ _ (ex_tups e1) hs) (by have := b1.lS; omega) (by have := sil_all N s; omega) (fun Q q => ⟨_, rfl, t, G.cT, dx, _, _, rfl, e1 _ _ ht', T.k_T, T.n_silent, rfl, q⟩) (fun H2 Q q => ⟨_, rfl, q⟩) (fun H2 t2 H3 e3 Q q => ⟨_, rfl, q _ H3 (Ex.refl _) (tm_spot _ _ _ _ (((ex_tups e1).trans t2).trans (ex_tups e3)) ho)⟩) fun H' kS' ex' dl len fr nw tu => ?_
    have eS : ∀ s', sil (N ++ [(s, -1, o)]) s' = sil N s' ++ if s = s' then [o] else [] := fun s' => by rw [sil_app]; simp
    have eW : ∀ s', wri (N ++ [(s, -1, o)]) s' = wri N s' := fun s' => by rw [wri_app]; simp
    have keepW : ∀ s' l, valV kW (keyOf s') = some (.ref l) → ∀ o, H1 l = some o → H' l = some o := fun s' l hl o ho => by
      obtain ⟨_, ys, hy, _⟩ := b1.dr.lists hl
      exact fr l o ho (ne_of hy b1.hS (fun z => nomatch z)) fun s2 l2 h2 q => b1.dSW s2 s' l2 h2 (by rw [← q]; exact hl)
    refine k H' kS' kW ⟨ex', b1.nS, b1.nW, b1.ne, dl.hd, ?_, ?_, ?_, fun s' => ?_, fun s' => ?_, dl.inj, b1.dW, fun s1 s2 l h1 h2 => ?_⟩
    · refine fr _ _ b1.hW (Ne.symm b1.ne) fun s2 l2 h2 q => ?_
      obtain ⟨_, ys, hy, _⟩ := b1.dl.lists h2
      rw [← q, b1.hW] at hy
      cases hy
    · have := b1.lS
      rw [List.length_append, List.length_cons, List.length_nil]
      omega
    · have := b1.lW
      rw [List.length_append, List.length_cons, List.length_nil]
      omega
    · rw [eS]
      exact dl.val s'
    · rw [eW]
      rcases b1.vW s' with q | ⟨l, q1, q2, q3⟩
      · exact .inl q
      · exact .inr ⟨l, q1, q2, q3.keep tm_wr tu (keepW s' l q1)⟩
    · rcases nw s1 l h1 with q | q
      · exact b1.dSW s1 s2 l q h2
      · obtain ⟨_, ys, hy, _⟩ := b1.dr.lists h2
        rw [q] at hy
        cases hy
  · have cw : ¬ wr = -1 := of_decide_eq_false c
    have b1 : Built H0 H1 ds dw kS kW N := ⟨b.ex.trans e1, b.nS, b.nW, b.ne, e1 _ _ b.hS, e1 _ _ b.hW, b.lS, b.lW, fun s => (b.vS s).elim .inl fun ⟨l, q1, q2, q3⟩ => .inr ⟨l, q1, q2, q3.ex tm_spot e1⟩, fun s => (b.vW s).elim .inl fun ⟨l, q1, q2, q3⟩ => .inr ⟨l, q1, q2, q3.ex tm_wr e1⟩, b.dS, b.dW, b.dSW⟩
    obtain ⟨po, rfl, hpo⟩ := ho
    refine set_app (R := WrAt) (x := (wr, o)) tm_wr b1.dr b1.ex b1.nW (tm_spot _ _ _ _ (ex_tups e1) hs) (by have := b1.lW; omega) (by have := wri_all N s; omega) (fun Q q => ⟨_, rfl, t, G.cT, dx, _, _, rfl, e1 _ _ ht', T.k_T, T.n_writing, rfl, q⟩) (fun H2 Q q => ⟨_, rfl, q⟩) (fun H2 t2 H3 e3 Q q => ⟨_, rfl, _, rfl, sz2, fun p hp => ?_⟩) fun H' kW' ex' dl len fr nw tu => ?_
    · have e4 : Ex H3 (upd H3 p (.tup [.int wr, .ref po])) := Ex.new hp
      exact q _ _ e4 ⟨p, po, rfl, upd_same, e4 _ _ (e3 _ _ (t2 _ _ (e1 _ _ hpo)))⟩
    have eS : ∀ s', sil (N ++ [(s, wr, o)]) s' = sil N s' := fun s' => by rw [sil_app]; simp [cw]
    have eW : ∀ s', wri (N ++ [(s, wr, o)]) s' = wri N s' ++ if s = s' then [(wr, o)] else [] := fun s' => by rw [wri_app]; simp [cw]
    have keepS : ∀ s' l, valV kS (keyOf s') = some (.ref l) → ∀ o, H1 l = some o → H' l = some o := fun s' l hl o ho => by
      obtain ⟨_, ys, hy, _⟩ := b1.dl.lists hl
      exact fr l o ho (ne_of hy b1.hW (fun z => nomatch z)) fun s2 l2 h2 q => b1.dSW s' s2 l2 (by rw [← q]; exact hl) h2
    refine k H' kS kW' ⟨ex', b1.nS, b1.nW, b1.ne, ?_, dl.hd, ?_, ?_, fun s' => ?_, fun s' => ?_, b1.dS, dl.inj, fun s1 s2 l h1 h2 => ?_⟩
    · refine fr _ _ b1.hS b1.ne fun s2 l2 h2 q => ?_
      obtain ⟨_, ys, hy, _⟩ := b1.dr.lists h2
      rw [← q, b1.hS] at hy
      cases hy
    · have := b1.lS
      rw [List.length_append, List.length_cons, List.length_nil]
      omega
    · have := b1.lW
      rw [List.length_append, List.length_cons, List.length_nil]
      omega
    · rw [eS]
      rcases b1.vS s' with q | ⟨l, q1, q2, q3⟩
      · exact .inl q
      · exact .inr ⟨l, q1, q2, q3.keep tm_spot tu (keepS s' l q1)⟩
    · rw [eW]
      exact dl.val s'
    · rcases nw s2 l h2 with q | q
      · exact b1.dSW s1 s2 l h1 q
      · obtain ⟨_, ys, hy, _⟩ := b1.dl.lists h1
        rw [q] at hy
        cases hy
end
end Tw

/-! # Readings: Turning(..) -/
namespace Tw
open PySem PySem.Spec PyProof.Rows L2 Evl TW
section
variable {G : Gs} {mg : Str → Option Value} {vs : List V} {H H' H0 : Hp} {Q : VK} {E : XK} {K : PySem.W.Frag} {σ : L2.St}
theorem dp_ints : ∀ l : List Int, DpAll K H (l.map V.int) (l.map PyData.int)
  | [] => .nil
  | _ :: r => .cons (.int _) (dp_ints r)
theorem one_eq {x : List Int} {i : Nat} {r : Int} : PyData.eqv (.list (((x.drop i).take 1).map PyData.int)) (.list [.int r]) = decide (x[i]? = some r) := by
  cases h : x.drop i with
  | nil =>
    have e : x[i]? = none := by
      have := List.drop_eq_nil_iff.mp h
      exact List.getElem?_eq_none this
    rw [e]
    simp [PyData.eqv, PyData.eqvAll]
  | cons a t =>
    have e : x[i]? = some a := by
      have : (x.drop i)[0]? = some a := by rw [h]; rfl
      rw [List.getElem?_drop] at this
      simpa using this
    rw [e]
    show PyData.eqv (.list [.int a]) (.list [.int r]) = _
    by_cases c : a = r
    · subst c; simp [PyData.eqv, PyData.eqvAll]
    · simp [PyData.eqv, PyData.eqvAll, c]
theorem cut_one {x : List Int} {i : Nat} (hi : i ≤ x.length) : cutV (x.map V.int) (some (i : Int)) (some ((i + 1 : Nat) : Int)) = ((x.drop i).take 1).map V.int := by
  unfold cutV
  rw [HT.sIx_nat, HT.sIx_nat, List.length_map, List.map_take, List.map_drop, Nat.min_eq_left hi]
  by_cases c : i < x.length
  · rw [Nat.min_eq_left (by omega), show i + 1 - i = 1 from by omega]
  · have : i = x.length := by omega
    rw [Nat.min_eq_right (by omega), this, Nat.sub_self]
    rw [← List.map_drop, List.drop_length]
    rfl
theorem built_turn {t dx m w ds dw : Addr} {kS kW : List (List Key × V)} {M : PM} {x : List Int} (ok : M.Ok) (hx : x.length ≤ 16) (h0 : H0 t = some (.ins G.cT dx (tF m w ds dw))) (hm : MachAt G H0 m M) (hw : IntL H0 w x) (b : Built H0 H ds dw kS kW (notes M x)) : TurnAt G H t M x :=
  ⟨ok, hx, dx, m, w, ds, dw, b.ex _ _ h0, hm.ex b.ex, b.ex _ _ hw, ⟨kS, b.hS, fun s => (b.vS s).elim .inl fun ⟨l, q1, _, q3⟩ => .inr ⟨l, q1, q3⟩⟩, ⟨kW, b.hW, fun s => (b.vW s).elim .inl fun ⟨l, q1, _, q3⟩ => .inr ⟨l, q1, q3⟩⟩⟩
/-- a note of a turning that's being built -/
theorem note_go {t dx m w ds dw : Addr} {kS kW : List (List Key × V)} {N : List Note} {t1 t2 t3 : TE} {s o : Spot} {wr : Int} {D : Ends} (h0 : H0 t = some (.ins G.cT dx (tF m w ds dw))) (b : Built H0 H ds dw kS kW N) (hz : N.length ≤ 6000)
    (ht : σ[0]? = some (some (.ref t))) (h1 : EU SpotAt t1 σ H s) (h2 : Ev t2 σ H (.int wr)) (h3 : EU SpotAt t3 σ H o) (k : ∀ H' kS' kW', Built H0 H' ds dw kS' kW' (N ++ [(s, wr, o)]) → D.nx σ H') :
    tDrop (tMeth G.cT "note" (sp_Turning_note G) [] E0 (tVar 0) (tCons t1 (tCons t2 (tCons t3 tNil)))) D σ H := by
  refine ⟨_, ht, t, dx, _, rfl, b.ex _ _ h0, rfl, ?_⟩
  refine h1 H (Ex.refl _) _ fun v1 H1 e1 r1 => h2 H1 e1 _ fun H2 e2 => h3 H2 (e1.trans e2) _ fun v3 H3 e3 r3 => ?_
  have e := e1.trans (e2.trans e3)
  have b1 : Built H0 H3 ds dw kS kW N := ⟨b.ex.trans e, b.nS, b.nW, b.ne, e _ _ b.hS, e _ _ b.hW, b.lS, b.lW, fun s => (b.vS s).elim .inl fun ⟨l, q1, q2, q3⟩ => .inr ⟨l, q1, q2, q3.ex tm_spot e⟩, fun s => (b.vW s).elim .inl fun ⟨l, q1, q2, q3⟩ => .inr ⟨l, q1, q2, q3.ex tm_wr e⟩, b.dS, b.dW, b.dSW⟩
  exact ⟨t, v1, wr, v3, dx, m, w, ds, dw, kS, kW, N, s, o, H0, rfl, h0, b1, tm_spot _ _ _ _ (ex_tups (e2.trans e3)) r1, r3, hz, fun H' kS' kW' b' => k H' kS' kW' b'⟩
theorem Built.go {ds dw : Addr} {kS kW : List (List Key × V)} {N : List Note} (b : Built H0 H ds dw kS kW N) (e : Ex H H') : Built H0 H' ds dw kS kW N :=
  ⟨b.ex.trans e, b.nS, b.nW, b.ne, e _ _ b.hS, e _ _ b.hW, b.lS, b.lW, fun s => (b.vS s).elim .inl fun ⟨l, q1, q2, q3⟩ => .inr ⟨l, q1, q2, q3.ex tm_spot e⟩, fun s => (b.vW s).elim .inl fun ⟨l, q1, q2, q3⟩ => .inr ⟨l, q1, q2, q3.ex tm_wr e⟩, b.dS, b.dW, b.dSW⟩
theorem notes_take_len {M : PM} {x : List Int} (h : M.arcs.length ≤ 300) (hx : x.length ≤ 16) {i j : Nat} (hi : i ≤ x.length) : (((List.range i).flatMap fun i => M.arcs.flatMap (noteAt x i)) ++ (M.arcs.take j).flatMap (noteAt x i)).length ≤ 5100 := by
  rw [List.length_append]
  have h1 : ((List.range i).flatMap fun i => M.arcs.flatMap (noteAt x i)).length ≤ (List.range i).length * 300 := flat_len fun i _ => by
    have := flat_len (f := noteAt x i) (k := 1) (l := M.arcs) fun a _ => noteAt_len x i a
    omega
  have h2 := flat_take (f := noteAt x i) (k := 1) (l := M.arcs) (i := j) fun a _ => noteAt_len x i a
  rw [List.length_range] at h1
  have : i * 300 ≤ 16 * 300 := Nat.mul_le_mul_right _ (by omega)
  omega
theorem pure_Turning_init (T : Txt G mg) (h : sp_Turning_init G vs H Q E) : t_Turning_init G (endsOf Q) (start n_Turning_init vs) H := by
  obtain ⟨t, dx, m, w, M, x, rfl, ht, hm, hw, ok, hx, k⟩ := h
  have la := ok.al
  refine ⟨_, rfl, _, rfl, t, G.cT, dx, _, rfl, ht, T.k_T, T.n_machine, (by show 0 < 1000; decide), ?_⟩
  refine ⟨_, rfl, _, rfl, t, G.cT, dx, _, rfl, upd_same, T.k_T, T.n_word, (by show 1 < 1000; decide), ?_⟩
  intro ds hds
  have ne1 : ds ≠ t := fun z => by rw [z, upd_same] at hds; cases hds
  refine ⟨_, rfl, t, G.cT, dx, _, rfl, by rw [upd_ne (Ne.symm ne1)]; exact upd_same, T.k_T, T.n_silent, (by show 2 < 1000; decide), ?_⟩
  intro dw hdw
  have ne2 : dw ≠ t := fun z => by rw [z, upd_same] at hdw; cases hdw
  have ne3 : dw ≠ ds := fun z => by rw [z, upd_ne ne1, upd_same] at hdw; cases hdw
  refine ⟨_, rfl, t, G.cT, dx, _, rfl, by rw [upd_ne (Ne.symm ne2)]; exact upd_same, T.k_T, T.n_writing, (by show 3 < 1000; decide), ?_⟩
  have nds : H ds = none := by rw [upd_ne ne1, upd_ne ne1] at hds; exact hds
  have ndw : H dw = none := by rw [upd_ne ne2, upd_ne ne3, upd_ne ne2, upd_ne ne2] at hdw; exact hdw
  -- from here on
  have h0 : upd H t (.ins G.cT dx (tF m w ds dw)) t = some (.ins G.cT dx (tF m w ds dw)) := upd_same
  have c0 : Exc t H (upd H t (.ins G.cT dx (tF m w ds dw))) := Exc.upd
  generalize hH0 : upd H t (.ins G.cT dx (tF m w ds dw)) = H0 at h0 c0
  generalize hH1 : upd (upd (upd (upd (upd (upd H t _) t _) ds _) t _) dw _) t _ = H1
  have hb1 : ∀ b o, H b = some o → b ≠ t → H1 b = some o := fun b o hb hn => by
    rw [← hH1, upd_ne hn, upd_ne (ne_of_none hb ndw), upd_ne hn, upd_ne (ne_of_none hb nds), upd_ne hn, upd_ne hn]
    exact hb
  have ht1 : H1 t = some (.ins G.cT dx (tF m w ds dw)) := by rw [← hH1]; exact upd_same
  have b0 : Built H0 H1 ds dw [] [] [] := by
    refine ⟨fun b o hb => ?_, by rw [← hH0, upd_ne ne1]; exact nds, by rw [← hH0, upd_ne ne2]; exact ndw, Ne.symm ne3, ?_, ?_, Nat.le_refl _, Nat.le_refl _, fun s => .inl ⟨rfl, rfl⟩, fun s => .inl ⟨rfl, rfl⟩, fun _ _ _ h => (by cases h), fun _ _ _ h => (by cases h), fun _ _ _ h => (by cases h)⟩
    · by_cases c : b = t
      · rw [c] at hb ⊢
        rw [h0] at hb
        cases hb
        exact ht1
      · rw [← hH0, upd_ne c] at hb
        exact hb1 b o hb c
    · rw [← hH1, upd_ne ne1, upd_ne (Ne.symm ne3), upd_ne ne1, upd_same]
    · rw [← hH1, upd_ne ne2, upd_same]
  have hmt : m ≠ t := by
    obtain ⟨_, _, _, q, _⟩ := hm
    intro z
    rw [z, ht] at q
    injection q with q
    injection q with q1 _ q3
    cases q3
  have hm0 : MachAt G H0 m M := by
    obtain ⟨dm, f, r, q1, q2, q3⟩ := hm
    exact ⟨dm, f, r, c0 _ _ q1 hmt, c0 _ _ q2 (ne_of q2 ht (fun z => nomatch z)), q3.keep tm_arc (fun b xs hb => c0 _ _ hb (ne_of hb ht (fun z => nomatch z))) fun o ho => by
      obtain ⟨ys, hy, _⟩ := q3
      exact c0 _ _ ho (ne_of hy ht (fun z => nomatch z))⟩
  have hw0 : IntL H0 w x := c0 _ _ hw (ne_of hw ht (fun z => nomatch z))
  obtain ⟨dm, f, r, hm1, hm2, hm3⟩ := id hm0
  have hlen : ∀ σ : L2.St, σ[2]? = some (some (.ref w)) → Ev (tCB (rLenS G.K) (tCons (tVar 2) tNil)) σ H1 (iv x.length) := fun σ hσ => by
    refine ev_is (ev_len (K := G.K) (ev_var hσ) (.of (b0.ex _ _ hw0))) ?_
    rw [List.length_map]
  refine s_forR1 (n := ((x.length + 1 : Nat) : Int)) (ea_cons (ev_addN (j := 1) (hlen _ rfl) ev_c) ea_nil) (by omega)
    (fun i σ' H' => (∃ c1 c2 c3 c4 c5, σ' = [some (.ref t), some (.ref m), some (.ref w), c1, c2, c3, c4, c5]) ∧ ∃ kS kW, Built H0 H' ds dw kS kW ((List.range i).flatMap fun i => M.arcs.flatMap (noteAt x i)))
    (fun H3 e3 => ⟨⟨_, _, _, _, _, rfl⟩, [], [], b0.go e3⟩) (fun i σ' H' hi q => ?_) fun σ' H' q => ?_
  · obtain ⟨⟨c1, c2, c3, c4, c5, rfl⟩, kS, kW, b⟩ := q
    have hi' : i ≤ x.length := by omega
    refine s_forK (R := ArcAt) tm_arc hm3 (ev_fldM T (ev_var rfl) (b.ex _ _ hm1) T.n_arcs rfl)
      (fun j σ' H' => (∃ c2 c3 c4 c5, σ' = [some (.ref t), some (.ref m), some (.ref w), some (iv i), c2, c3, c4, c5]) ∧ ∃ kS kW, Built H0 H' ds dw kS kW (((List.range i).flatMap fun i => M.arcs.flatMap (noteAt x i)) ++ (M.arcs.take j).flatMap (noteAt x i)))
      (fun H4 e4 => ⟨⟨_, _, _, _, rfl⟩, kS, kW, by rw [List.take_zero, List.flatMap_nil, List.append_nil]; exact b.go e4⟩) (fun j σ' H' q => by obtain ⟨_, _, _, b⟩ := q; exact b.ex) (fun j a v σ' H' hj rr q => ?_) fun σ' H' q => ?_
    · obtain ⟨⟨c2, c3, c4, c5, rfl⟩, kS, kW, b⟩ := q
      obtain ⟨pa, rfl, hpa⟩ := rr
      refine ⟨pa, _, rfl, .of hpa, rfl, _, _, rfl, _, _, rfl, _, _, rfl, _, _, rfl, rfl, ?_⟩
      have hz := notes_take_len (M := M) (j := j) la hx hi'
      have et : (M.arcs.take (j + 1)).flatMap (noteAt x i) = (M.arcs.take j).flatMap (noteAt x i) ++ noteAt x i a := by
        rw [take_more hj, List.flatMap_append]
        simp
      refine s_if (b := decide (a.rd = -1)) (et_test (ev_is (ev_op (ev_var rfl) ev_c (rv_eq rfl)) ?_)) (fun c H4 e4 => ?_) (fun c H4 e4 => ?_)
      · show V.bl (decide (V.int a.rd = V.int (-1))) = _
        by_cases c : a.rd = -1 <;> simp [c]
      · have cw : a.rd = -1 := of_decide_eq_true c
        refine note_go (s := (i, a.src)) (o := (i, a.dst)) (wr := a.wr) h0 (b.go e4) (by omega) rfl (eu_spot (ev_var rfl) (ev_var rfl)) (ev_var rfl) (eu_spot (ev_var rfl) (ev_var rfl)) fun H5 kS5 kW5 b5 => ⟨⟨_, _, _, _, rfl⟩, kS5, kW5, ?_⟩
        rw [et, ← List.append_assoc]
        have e9 : noteAt x i a = [((i, a.src), a.wr, (i, a.dst))] := if_pos cw
        rw [e9]
        exact b5
      · have cw : ¬ a.rd = -1 := of_decide_eq_false c
        have evt : EvT (tTest (tOp (rEqD G.K) (tSl (rSlL G.K) (tVar 2) (tPart (tVar 3)) (tPart (tOp (rI0 fun i j => .int (i + j)) (tVar 3) (tC (.int 1))))) (tLst (tCons (tVar 5) tNil)))) [some (.ref t), some (.ref m), some (.ref w), some (iv i), some (iv a.src), some (.int a.rd), some (.int a.wr), some (iv a.dst)] H4 (decide (x[i]? = some a.rd)) := by
          refine et_test (ev_opLL (xs := ((x.drop i).take 1).map V.int) (ys := [.int a.rd]) ?_ (el_lst (ea_cons (ev_var rfl) ea_nil) (by show 1 ≤ 100000; decide)) fun p q H5 hp hq e5 => ?_)
          · have := el_sl (K := G.K) (te := tVar 2) (tl := tPart (tVar 3)) (th := tPart (tOp (rI0 fun i j => .int (i + j)) (tVar 3) (tC (.int 1)))) (σ := [some (.ref t), some (.ref m), some (.ref w), some (iv i), some (iv a.src), some (.int a.rd), some (.int a.wr), some (iv a.dst)]) (H := H4) (a := w) (xs := x.map V.int) (lo := some (i : Int)) (hi := some ((i + 1 : Nat) : Int)) (ev_var rfl) (eo_some (ev_var rfl)) (eo_some (ev_addN (i := i) (j := 1) (ev_var rfl) ev_c)) (.of (e4 _ _ (b.ex _ _ hw0)))
            rw [cut_one hi'] at this
            exact this
          · refine rv_val fun H6 e6 Q q => ?_
            refine ⟨.list (((x.drop i).take 1).map PyData.int), .list [.int a.rd], .lst (.of (e6 _ _ hp)) (dp_ints _), .lst (.of (e6 _ _ hq)) (.cons (.int _) .nil), ?_, rfl, ?_⟩
            · cases x.drop i with
              | nil => rfl
              | cons z r => rfl
            · rw [one_eq]
              exact q
        refine s_if (b := decide (x[i]? = some a.rd)) evt (fun c2 H5 e5 => ?_) (fun c2 H5 e5 => ?_)
        · have c2' : x[i]? = some a.rd := of_decide_eq_true c2
          refine note_go (s := (i, a.src)) (o := (i + 1, a.dst)) (wr := a.wr) h0 (b.go (e4.trans e5)) (by omega) rfl (eu_spot (ev_var rfl) (ev_var rfl)) (ev_var rfl) (eu_spot (ev_addN (j := 1) (ev_var rfl) ev_c) (ev_var rfl)) fun H5 kS5 kW5 b5 => ⟨⟨_, _, _, _, rfl⟩, kS5, kW5, ?_⟩
          rw [et, ← List.append_assoc]
          have e9 : noteAt x i a = [((i, a.src), a.wr, (i + 1, a.dst))] := by unfold noteAt; rw [if_neg cw, if_pos c2']
          rw [e9]
          exact b5
        · have c2' : ¬ x[i]? = some a.rd := of_decide_eq_false c2
          refine ⟨⟨_, _, _, _, rfl⟩, kS, kW, ?_⟩
          have e9 : noteAt x i a = [] := by unfold noteAt; rw [if_neg cw, if_neg c2']
          rw [et, e9, List.append_nil]
          exact b.go (e4.trans e5)
    · obtain ⟨⟨c2, c3, c4, c5, rfl⟩, kS, kW, b⟩ := q
      refine ⟨⟨_, _, _, _, _, rfl⟩, kS, kW, ?_⟩
      rw [List.take_length] at b
      rw [List.range_succ, List.flatMap_append]
      have e9 : [i].flatMap (fun i => M.arcs.flatMap (noteAt x i)) = M.arcs.flatMap (noteAt x i) := by simp
      rw [e9]
      exact b
  · obtain ⟨⟨c1, c2, c3, c4, c5, rfl⟩, kS, kW, b⟩ := q
    rw [Int.toNat_natCast] at b
    exact k H' (fun b1 o hb hn => b.ex _ _ (c0 _ _ hb hn)) (built_turn ok hx h0 hm0 hw0 b)
end
end Tw

/-! # Readings: lengths -/
namespace Tw
open PySem PySem.Spec PyProof.Rows L2 Evl TW
/-- a for over the keys of a locked dict -/
theorem for_keysT {d : Addr} {o : Obj} {kvs : List (List Key × V)} {g : TG} {tb : TS} {D : Ends} {σ : L2.St} {H : Hp} (Pv : Nat → L2.St → Hp → Prop) (h0 : Pv 0 σ H) (hl : ∀ i σ H, Pv i σ H → H d = some (.frz o (.dT kvs)))
    (hs : ∀ i k v q σ H, kvs[i]? = some (k, v) → H q = some (.tup (k.map kV)) → Pv i σ H → g (.ref q) σ H fun σ2 H2 => tb { D with nx := Pv (i + 1), ct := Pv (i + 1), bk := D.nx } σ2 H2) (hd : ∀ σ H, Pv kvs.length σ H → D.nx σ H) :
    ∃ W : Nat → Nat → L2.St → Hp → Prop, (∃ m, W 0 m σ H) ∧ ∀ i m σ H, W i m σ H →
      ((Itkt d o kvs).stop i H ∧ D.nx σ H) ∨ ((Itkt d o kvs).go i H ∧ ∃ N : L2.St → Hp → Prop, (∀ σ' H', N σ' H' → ∃ m', m' < m ∧ W (i + 1) m' σ' H') ∧ ∀ x H', (Itkt d o kvs).yld i H x H' → g x σ H' fun σ2 H2 => tb { D with nx := N, ct := N, bk := D.nx } σ2 H2) := by
  refine ⟨fun i m σ H => m = kvs.length - i ∧ i ≤ kvs.length ∧ Pv i σ H, ⟨kvs.length, by simp, Nat.zero_le _, h0⟩, ?_⟩
  rintro i m σ H ⟨rfl, hi, p⟩
  have q := hl i σ H p
  by_cases hlt : i < kvs.length
  · refine .inr ⟨⟨q, hlt⟩, Pv (i + 1), fun σ' H' p' => ⟨kvs.length - (i + 1), by omega, rfl, hlt, p'⟩, fun x H' y => ?_⟩
    obtain ⟨e, k, v, b, h1, h2, h3⟩ := y
    subst e h2
    exact hs i k v b σ _ h1 h3 p
  · have e : i = kvs.length := by omega
    subst e
    exact .inl ⟨⟨q, Nat.le_refl _⟩, hd σ H p⟩
section
variable {G : Gs} {mg : Str → Option Value} {vs : List V} {H H' H0 : Hp} {Q : VK} {E : XK} {K : PySem.W.Frag} {σ : L2.St}
/-- spots and what is come to from each -/
def Clos (H : Hp) (N : List Note) (kvs : List (List Key × V)) (l : List Spot) : Prop := Paired (fun kv s => kv.1 = keyOf s ∧ ∃ p, kv.2 = .ref p ∧ SpotSet H p (Star (sil N) s)) kvs l
theorem Clos.ex {N : List Note} {kvs : List (List Key × V)} {l : List Spot} (h : Clos H N kvs l) (e : Ex H H') : Clos H' N kvs l := Paired.mapP h fun _ _ ⟨a, p, b, c⟩ => ⟨a, p, b, c.ex e⟩
theorem Clos.find {N : List Note} {kvs : List (List Key × V)} {l : List Spot} (h : Clos H N kvs l) {s : Spot} (hs : s ∈ l) : ∃ p, valV kvs (keyOf s) = some (.ref p) ∧ SpotSet H p (Star (sil N) s) := by
  unfold Clos at h
  induction h with
  | nil => cases hs
  | @cons kv s' r1 r2 q t ih =>
    obtain ⟨h1, p, h2, h3⟩ := q
    by_cases c : s' = s
    · subst c
      exact ⟨p, by rw [valV_pos h1, h2], h3⟩
    · rw [valV_neg (fun z => c (keyOf_inj (h1.symm.trans z)))]
      rcases List.mem_cons.mp hs with e | e
      · exact (c e.symm).elim
      · exact ih e
theorem Clos.none {N : List Note} {kvs : List (List Key × V)} {l : List Spot} (h : Clos H N kvs l) {s : Spot} (hs : s ∉ l) : valV kvs (keyOf s) = none := by
  unfold Clos at h
  induction h with
  | nil => rfl
  | @cons kv s' r1 r2 q t ih =>
    rw [valV_neg (fun z => hs (by rw [keyOf_inj (q.1.symm.trans z)]; exact List.mem_cons_self ..))]
    exact ih fun z => hs (List.mem_cons_of_mem _ z)
theorem SpotSet.keep {p d : Addr} {S : Spot → Prop} {o : HO} (h : SpotSet H p S) (e : Exc d H H') (hd : H d = some o) (h1 : ∀ xs, o ≠ .lst xs) (h2 : ∀ xs, o ≠ .tup xs) : SpotSet H' p S := by
  obtain ⟨c, q, r⟩ := h
  refine ⟨c, q.keep tm_spot (fun b xs hb => e _ _ hb (ne_of hb hd (fun z => h2 xs z.symm))) (fun o ho => ?_), r⟩
  obtain ⟨ys, hy, _⟩ := q
  exact e _ _ ho (ne_of hy hd (fun z => h1 ys z.symm))
theorem Clos.keep {d : Addr} {o : HO} {N : List Note} {kvs : List (List Key × V)} {l : List Spot} (h : Clos H N kvs l) (e : Exc d H H') (hd : H d = some o) (h1 : ∀ xs, o ≠ .lst xs) (h2 : ∀ xs, o ≠ .tup xs) : Clos H' N kvs l :=
  Paired.mapP h fun _ _ ⟨a, p, b, c⟩ => ⟨a, p, b, c.keep e hd h1 h2⟩
theorem eu_ref {te : TE} {v : V} {s : Spot} (h : Ev te σ H v) (hs : SpotAt H v s) : EU SpotAt te σ H s := fun H1 e Q q => h H1 e _ fun H2 e2 => q v H2 e2 (tm_spot _ _ _ _ (ex_tups (e.trans e2)) hs)
theorem able_succ {N : List Note} {En : Spot → Bool} {k : Nat} {s : Spot} : Able N En (k + 1) s ↔ ∃ u p, Star (sil N) s u ∧ p ∈ wri N u ∧ Able N En k p.2 :=
  ⟨fun ⟨t, h1, p, h2, h3⟩ => ⟨t, p, h1, h2, h3⟩, fun ⟨t, p, h1, h2, h3⟩ => ⟨t, h1, p, h2, h3⟩⟩
theorem key_spot {q : Addr} {s : Spot} (h : H q = some (.tup ((keyOf s).map kV))) : SpotAt H (.ref q) s := ⟨q, rfl, h⟩
/-- spots so far of a kind -/
def Part (l : List Spot) (P : Spot → Prop) (i : Nat) (c : List Spot) : Prop := c.length ≤ i ∧ ∀ s, s ∈ c ↔ s ∈ l.take i ∧ P s
theorem Part.zero (l : List Spot) (P : Spot → Prop) : Part l P 0 [] := ⟨Nat.le_refl _, fun s => by simp⟩
theorem Part.yes {l : List Spot} {P : Spot → Prop} {i : Nat} {c : List Spot} {s : Spot} (h : Part l P i c) (hi : l[i]? = some s) (hp : P s) : Part l P (i + 1) (c ++ [s]) := by
  refine ⟨by rw [List.length_append, List.length_cons, List.length_nil]; have := h.1; omega, fun u => ?_⟩
  rw [take_more hi, List.mem_append, List.mem_append, h.2 u, List.mem_singleton]
  constructor
  · rintro (⟨a, b⟩ | e)
    · exact ⟨.inl a, b⟩
    · rw [e]; exact ⟨.inr rfl, hp⟩
  · rintro ⟨a | e, b⟩
    · exact .inl ⟨a, b⟩
    · exact .inr e
theorem Part.no {l : List Spot} {P : Spot → Prop} {i : Nat} {c : List Spot} {s : Spot} (h : Part l P i c) (hi : l[i]? = some s) (hp : ¬ P s) : Part l P (i + 1) c := by
  refine ⟨by have := h.1; omega, fun u => ?_⟩
  rw [take_more hi, List.mem_append, h.2 u, List.mem_singleton]
  constructor
  · rintro ⟨a, b⟩
    exact ⟨.inl a, b⟩
  · rintro ⟨a | e, b⟩
    · exact ⟨a, b⟩
    · rw [e] at b; exact (hp b).elim
theorem Part.new {l : List Spot} {P : Spot → Prop} {i : Nat} {c : List Spot} {s : Spot} (h : Part l P i c) (nd : l.Nodup) (hi : l[i]? = some s) : s ∉ c := fun hc => by
  have h1 := ((h.2 s).mp hc).1
  obtain ⟨j, hj⟩ := List.mem_iff_getElem?.mp h1
  rw [List.getElem?_take] at hj
  by_cases c : j < i
  · rw [if_pos c] at hj
    have := nd_ix nd hi hj
    omega
  · rw [if_neg c] at hj
    cases hj
theorem Part.full {l : List Spot} {P : Spot → Prop} {c : List Spot} (h : Part l P l.length c) (hP : ∀ s, P s → s ∈ l) : ∀ s, s ∈ c ↔ P s := fun s => by
  rw [h.2 s, List.take_length]
  exact ⟨fun z => z.2, fun z => ⟨hP s z, z⟩⟩
theorem q_newT {D : Ends} {tz : TS} {i : Nat} (k : ∀ d H1, H d = none → Ex H H1 → H1 d = some (.dT []) → tz D (σ.set i (some (.ref d))) H1) : tSeq (tAsg tDNewT (gName i)) tz D σ H := fun d hd => k d _ hd (Ex.new hd) upd_same
theorem q_newK {D : Ends} {tz : TS} {i : Nat} (k : ∀ d H1, H d = none → Ex H H1 → H1 d = some (.dK []) → tz D (σ.set i (some (.ref d))) H1) : tSeq (tAsg tDNewK (gName i)) tz D σ H := fun d hd => k d _ hd (Ex.new hd) upd_same
/-- for spot in closures, closures locked, from Hb on -/
theorem for_clos {Hb : Hp} {dc : Addr} {o : Obj} {kvs : List (List Key × V)} {N : List Note} {l : List Spot} {g : TG} {tb : TS} {D : Ends} (hb : Hb dc = some (.frz o (.dT kvs))) (hc : Clos Hb N kvs l) (Pv : Nat → L2.St → Hp → Prop) (h0 : Pv 0 σ H) (he : ∀ i σ H, Pv i σ H → Ex Hb H)
    (hs : ∀ i s v σ' H', l[i]? = some s → SpotAt H' v s → (∃ p, valV kvs (keyOf s) = some (.ref p) ∧ SpotSet H' p (Star (sil N) s)) → Pv i σ' H' → g v σ' H' fun σ2 H2 => tb { D with nx := Pv (i + 1), ct := Pv (i + 1), bk := D.nx } σ2 H2) (hd : ∀ σ H, Pv l.length σ H → D.nx σ H) :
    ∃ W : Nat → Nat → L2.St → Hp → Prop, (∃ m, W 0 m σ H) ∧ ∀ i m σ H, W i m σ H →
      ((Itkt dc o kvs).stop i H ∧ D.nx σ H) ∨ ((Itkt dc o kvs).go i H ∧ ∃ N : L2.St → Hp → Prop, (∀ σ' H', N σ' H' → ∃ m', m' < m ∧ W (i + 1) m' σ' H') ∧ ∀ x H', (Itkt dc o kvs).yld i H x H' → g x σ H' fun σ2 H2 => tb { D with nx := N, ct := N, bk := D.nx } σ2 H2) := by
  have hlen : kvs.length = l.length := Paired.length hc
  refine for_keysT Pv h0 (fun i σ H p => he i σ H p _ _ hb) (fun i k v q σ' H' hi hq p => ?_) fun σ H p => hd σ H (by rw [← hlen]; exact p)
  obtain ⟨s, hs1, hs2, _⟩ := paired_at hc hi
  have hs2' : k = keyOf s := hs2
  subst hs2'
  obtain ⟨u, h1, h2⟩ := hc.find (List.mem_of_getElem? hs1)
  exact hs i s _ σ' H' hs1 (key_spot hq) ⟨u, h1, h2.ex (he _ _ _ p)⟩ p
/-- closures[spot] -/
theorem ev_clos {ta tb : TE} {dc : Addr} {o : Obj} {kvs : List (List Key × V)} {v : V} {s : Spot} {p : Addr} (ha : Ev ta σ H (.ref dc)) (hb : Ev tb σ H v) (hs : SpotAt H v s) (hd : H dc = some (.frz o (.dT kvs))) (hv : valV kvs (keyOf s) = some (.ref p)) : Ev (tDGet ta tb) σ H (.ref p) := fun H1 e Q q =>
  ha H1 e _ fun H2 e2 => hb H2 (e.trans e2) _ fun H3 e3 => by
    obtain ⟨b, rfl, hbb⟩ := hs
    have e4 := (e.trans e2).trans e3
    exact ⟨dc, _, rfl, .inr ⟨kvs, keyOf s, b, .inr ⟨o, e4 _ _ hd⟩, rfl, e4 _ _ hbb, hv.symm⟩, q H3 (e2.trans e3)⟩
/-- d[spot] = True, a new key -/
theorem put_new {ta tb : TE} {D : Ends} {d : Addr} {l : List Spot} {v : V} {s : Spot} (hd : H d = some (.dT (keysT l))) (ha : Ev ta σ H (.ref d)) (hb : Ev tb σ H v) (hs : SpotAt H v s) (hn : s ∉ l) (hz : l.length ≤ 900000)
    (k : ∀ H1, (∀ H0, Ex H0 H → H0 d = none → Ex H0 H1) → Exc d H H1 → H1 d = some (.dT (keysT (l ++ [s]))) → D.nx σ H1) : sDPut ta tb (tC (.bl true)) D σ H := by
  refine ha H (Ex.refl _) _ fun H1 e1 => hb H1 e1 _ fun H2 e2 => ?_
  obtain ⟨b, rfl, hbb⟩ := hs
  have e := e1.trans e2
  refine ⟨d, _, rfl, DPut.t (k := keyOf s) (e _ _ hd) (e _ _ hbb) (by rw [keysT_len]; exact lt6 (by omega)), ?_⟩
  rw [keysT_new hn]
  exact k _ (fun H0 e0 n0 => Ex.mut (e0.trans e) n0) ((Exc.of e).trans Exc.upd) upd_same
theorem atI_last {α : Type} {xs : List α} {n : Nat} {x : α} (h : xs.length = n + 1) (hx : xs[n]? = some x) : atI xs (-1) = some x := by
  unfold atI ixN
  rw [h, if_neg (by omega), if_pos (by omega)]
  have e : ((-1 : Int) + ((n + 1 : Nat) : Int)).toNat = n := by omega
  rw [e]
  exact hx
theorem pure_Turning_lengths (T : Txt G mg) (h : sp_Turning_lengths G vs H Q E) : t_Turning_lengths G (endsOf Q) (start n_Turning_lengths vs) H := by
  obtain ⟨t, M, x, rfl, ht, k⟩ := h
  have ok := ht.1
  have nd := nodup_allSpots M x
  have hal := allSpots_len ok.s2 ht.2.1
  refine q_newT fun dc H1 hdc e1 hc1 => ?_
  -- closures
  refine q_forE (R := SpotAt) (l := allSpots M x) tm_spot (fun H2 e2 Q q => ?_)
    (fun p H1' i σ' H' => (∃ c2 c3 c4 c5, σ' = [some (.ref t), some (.ref dc), c2, c3, c4, c5]) ∧ Ex H H' ∧ (∃ kvs, H' dc = some (.dT kvs) ∧ Clos H' (notes M x) kvs ((allSpots M x).take i)) ∧ Tups H1' H' ∧ ∀ xs, H1' p = some xs → H' p = some xs)
    (fun p H2 e2 => ⟨⟨_, _, _, _, rfl⟩, e1.trans e2, ⟨[], e2 _ _ hc1, .nil⟩, Tups.refl _, fun _ h => h⟩) (fun p H2 i σ' H' q => ⟨q.2.2.2.1, q.2.2.2.2⟩) (fun p H2 i s v σ' H' e2 hi r hat q => ?_) fun p H2 σ' H' e2 q => ?_
  · exact meth_t (ht.ex (e1.trans e2)) (fun Q q => ⟨_, rfl, q⟩) (fun _ _ _ _ => rfl) ⟨t, M, x, rfl, ht.ex (e1.trans e2), fun H3 p e3 _ l3 => q p H3 e3 l3⟩
  · obtain ⟨⟨c2, c3, c4, c5, rfl⟩, e, ⟨kvs, hk, hcl⟩, tu, kp⟩ := q
    refine meth_t (ht.ex e) (fun Q q => ⟨_, rfl, q⟩) (fun _ _ _ _ => rfl) ?_
    refine cons_goE (R := SpotAt) (l := [s]) (el_disp tm_spot (eas_cons tm_spot (eu_ref (ev_var rfl) r) eas_nil) (by simp)).el fun p1 H3 e3 l3 => ?_
    refine ⟨t, p1, M, x, [s], rfl, ht.ex (e.trans e3), l3, by simp, fun H4 p4 e4 _ ss => ?_⟩
    have e34 := e3.trans e4
    obtain ⟨b, rfl, hb⟩ := tm_spot _ _ _ _ (ex_tups e34) r
    have hk4 := e34 _ _ hk
    have hnew : s ∉ (allSpots M x).take i := fun hm => by
      obtain ⟨j, hj⟩ := List.mem_iff_getElem?.mp hm
      rw [List.getElem?_take] at hj
      by_cases c : j < i
      · rw [if_pos c] at hj
        have := nd_ix nd hi hj
        omega
      · rw [if_neg c] at hj
        cases hj
    have hlen : kvs.length ≤ 408 := by
      have := Paired.length hcl
      rw [List.length_take] at this
      omega
    refine ⟨_, rfl, _, rfl, dc, _, rfl, DPut.t (k := keyOf s) hk4 hb (lt6 (by omega)), ⟨_, _, _, _, rfl⟩, Ex.mut (e.trans e34) hdc, ⟨_, upd_same, ?_⟩, ?_, fun o ho => ?_⟩
    · rw [putK_new _ (hcl.none hnew), take_more hi]
      have c4 : Clos H4 (notes M x) kvs ((allSpots M x).take i) := hcl.ex e34
      refine paired_app (c4.keep Exc.upd hk4 (fun _ z => nomatch z) (fun _ z => nomatch z)) (.cons ⟨rfl, p4, rfl, ?_⟩ .nil)
      have ss2 : SpotSet H4 p4 (Star (sil (notes M x)) s) := by
        obtain ⟨c, q1, q2, q3, q4⟩ := ss
        refine ⟨c, q1, q2, q3, fun u => (q4 u).trans ⟨fun ⟨b, hb, q⟩ => ?_, fun q => ⟨s, List.mem_cons_self .., q⟩⟩⟩
        have : b = s := by simpa using hb
        rw [this] at q
        exact q
      exact ss2.keep Exc.upd hk4 (fun _ z => nomatch z) (fun _ z => nomatch z)
    · exact (tu.trans (ex_tups e34)).trans (tups_upd hk4 (fun _ z => nomatch z))
    · have hp' := kp _ ho
      obtain ⟨vs1, hv1, _⟩ := hat
      have hne : p ≠ dc := ne_of hv1 hk (fun z => nomatch z)
      rw [upd_ne hne]
      exact e34 _ _ hp'
  · obtain ⟨⟨c2, c3, c4, c5, rfl⟩, e, ⟨kvs, hk, hcl⟩, _, _⟩ := q
    rw [List.take_length] at hcl
    -- rows = [{}]
    refine fun d0 hd0 => ⟨sz1, fun r hr => ?_⟩
    have e3 : Ex H' (upd H' d0 (.dT [])) := Ex.new hd0
    have e4 := e3.trans (Ex.new (o := .lst [.ref d0]) hr)
    have h0d : upd (upd H' d0 (.dT [])) r (.lst [.ref d0]) d0 = some (.dT []) := (Ex.new hr) _ _ upd_same
    have h0r : upd (upd H' d0 (.dT [])) r (.lst [.ref d0]) r = some (.lst [.ref d0]) := upd_same
    have nr : H' r = none := fresh_back e3 hr
    generalize upd (upd H' d0 (.dT [])) r (.lst [.ref d0]) = H4 at e4 h0d h0r
    -- the lock
    refine ⟨_, rfl, dc, _, rfl, e4 _ _ hk, True.intro, fun od => ⟨dc, od, rfl, .inr ⟨kvs, upd_same, ?_⟩⟩⟩
    have hbx : Ex H (upd H' dc (.frz od (.dT kvs))) := Ex.mut e hdc
    have hbc : Clos (upd H' dc (.frz od (.dT kvs))) (notes M x) kvs (allSpots M x) := hcl.keep Exc.upd hk (fun _ z => nomatch z) (fun _ z => nomatch z)
    have hbd : upd H' dc (.frz od (.dT kvs)) dc = some (.frz od (.dT kvs)) := upd_same
    have nd0 : upd H' dc (.frz od (.dT kvs)) d0 = none := by rw [upd_ne (fun z => by rw [z, hk] at hd0; cases hd0)]; exact hd0
    have nr0 : upd H' dc (.frz od (.dT kvs)) r = none := by rw [upd_ne (fun z => by rw [z, hk] at nr; cases nr)]; exact nr
    have hb5 : Ex (upd H' dc (.frz od (.dT kvs))) (upd H4 dc (.frz od (.dT kvs))) := fun b o hb => by
      by_cases c : b = dc
      · rw [c, upd_same] at hb ⊢; exact hb
      · rw [upd_ne c] at hb ⊢; exact e4 _ _ hb
    have h5d : upd H4 dc (.frz od (.dT kvs)) d0 = some (.dT []) := by rw [upd_ne (fun z => by rw [z, hk] at hd0; cases hd0)]; exact h0d
    have h5r : upd H4 dc (.frz od (.dT kvs)) r = some (.lst [.ref d0]) := by rw [upd_ne (fun z => by rw [z, hk] at nr; cases nr)]; exact h0r
    generalize upd H' dc (.frz od (.dT kvs)) = Hb at hbx hbc hbd nd0 nr0 hb5
    generalize upd H4 dc (.frz od (.dT kvs)) = H5 at hb5 h5d h5r
    have hdr : d0 ≠ r := ne_of h5d h5r (fun z => nomatch z)
    -- rows[0]
    refine for_clos (l := allSpots M x) hbd hbc (fun i σ' H' => (∃ c2 c4 c5, σ' = [some (.ref t), some (.ref dc), c2, some (.ref r), c4, c5]) ∧ Ex Hb H' ∧ H' r = some (.lst [.ref d0]) ∧ ∃ c, H' d0 = some (.dT (keysT c)) ∧ Part (allSpots M x) (Able (notes M x) (isEnd M x) 0) i c)
      ⟨⟨_, _, _, rfl⟩, hb5, h5r, [], h5d, Part.zero _ _⟩ (fun i σ' H' q => q.2.1) (fun i s v σ' H' hi hs hv q => ?_) fun σ' H' q => ?_
    · obtain ⟨⟨c2, c4, c5, rfl⟩, ex, hr6, c, hd6, pt⟩ := q
      obtain ⟨p, hv1, hv2⟩ := hv
      have tt := ht.ex (hbx.trans ex)
      refine meth_t tt (fun Q q => ⟨_, rfl, q⟩) (fun _ _ _ _ => rfl) ?_
      refine cons_go (ev_clos (ev_var rfl) (ev_var rfl) hs (ex _ _ hbd) hv1) fun H7 e7 => ?_
      refine ⟨t, p, M, x, _, rfl, tt.ex e7, hv2.ex e7, fun H8 b e8 hb => ⟨b, rfl, ?_⟩⟩
      have e78 := e7.trans e8
      by_cases cb : b = true
      · subst cb
        refine iteT ?_
        refine put_new (l := c) (s := s) (e78 _ _ hd6) (ev_op (ev_var rfl) ev_c (rv_ixL (.of (e78 _ _ hr6)) rfl)) (ev_var rfl) (tm_spot _ _ _ _ (ex_tups e78) hs) (pt.new nd hi) (by have := pt.1; have := take_len hi; omega) fun H9 hex hexc h9 => ?_
        exact ⟨⟨_, _, _, rfl⟩, hex _ (ex.trans e78) nd0, hexc _ _ (e78 _ _ hr6) (Ne.symm hdr), _, h9, pt.yes hi (hb.mp rfl)⟩
      · have cb' : b = false := by simpa using cb
        subst cb'
        exact iteF ⟨⟨_, _, _, rfl⟩, ex.trans e78, e78 _ _ hr6, c, e78 _ _ hd6, pt.no hi fun z => nomatch hb.mpr z⟩
    · obtain ⟨⟨c2, c4, c5, rfl⟩, ex, hr6, c, hd6, pt⟩ := q
      have kn0 : KnownD H' d0 (Able (notes M x) (isEnd M x) 0) := ⟨c, hd6, by have := pt.1; omega, pt.full fun s hs => able_in ok hs⟩
      refine q_forR1 (n := 16) (ea_cons ev_c ea_nil) (by omega)
        (fun i σ' H' => (∃ c2 c4 c5, σ' = [some (.ref t), some (.ref dc), c2, some (.ref r), c4, c5]) ∧ Ex Hb H' ∧ ∃ vs : List V, H' r = some (.lst vs) ∧ vs.length = i + 1 ∧ ∀ k v, vs[k]? = some v → ∃ d, v = .ref d ∧ KnownD H' d (Able (notes M x) (isEnd M x) k))
        (fun H7 e7 => ⟨⟨_, _, _, rfl⟩, ex.trans e7, [.ref d0], e7 _ _ hr6, rfl, fun k v hk => ?_⟩) (fun i σ' H' hi q => ?_) fun σ' H' q => ?_
      · cases k with
        | zero => cases hk; exact ⟨d0, rfl, kn0.ex e7⟩
        | succ k => simp at hk
      · obtain ⟨⟨c2, c4, c5, rfl⟩, ex, vs, hr7, hlen, hrows⟩ := q
        have hi16 : i < 16 := by omega
        refine q_newT fun dr H8 hdr8 e8 h8 => ?_
        obtain ⟨vl, hvl⟩ : ∃ v, vs[i]? = some v := ⟨_, List.getElem?_eq_getElem (by omega)⟩
        obtain ⟨dl, rfl, hkn⟩ := hrows i vl hvl
        refine ⟨_, rfl, dc, od, rfl, .inr ⟨kvs, (ex.trans e8) _ _ hbd, ?_⟩⟩
        refine for_clos (l := allSpots M x) hbd hbc (fun j σ2 H2 => (∃ c2, σ2 = [some (.ref t), some (.ref dc), c2, some (.ref r), some (iv i), some (.ref dr)]) ∧ Ex Hb H2 ∧ Ex H' H2 ∧ ∃ c, H2 dr = some (.dT (keysT c)) ∧ Part (allSpots M x) (Able (notes M x) (isEnd M x) (i + 1)) j c)
          ⟨⟨_, rfl⟩, ex.trans e8, e8, [], h8, Part.zero _ _⟩ (fun j σ2 H2 q => q.2.1) (fun j s v σ2 H2 hj hs hv q => ?_) fun σ2 H2 q => ?_
        · obtain ⟨⟨c2, rfl⟩, ex2, ex', c, hd9, pt⟩ := q
          obtain ⟨p, hv1, hv2⟩ := hv
          have tt := ht.ex (hbx.trans ex2)
          refine meth_t tt (fun Q q => ⟨_, rfl, q⟩) (fun _ _ _ _ => rfl) ?_
          refine cons_go (ev_clos (ev_var rfl) (ev_var rfl) hs (ex2 _ _ hbd) hv1) fun H10 e10 => ?_
          refine cons_go (v := .ref dl) (ev_op (ev_var rfl) (ev_un ev_c ru_neg) (rv_ixL (.of ((ex'.trans e10) _ _ hr7)) (atI_last hlen hvl))) fun H11 e11 => ?_
          have e1011 := e10.trans e11
          refine ⟨t, p, dl, M, x, _, _, rfl, tt.ex e1011, hv2.ex e1011, hkn.ex (ex'.trans e1011), fun H12 b e12 hb => ⟨b, rfl, ?_⟩⟩
          have e112 := e1011.trans e12
          by_cases cb : b = true
          · subst cb
            refine iteT ?_
            refine put_new (l := c) (s := s) (e112 _ _ hd9) (ev_var rfl) (ev_var rfl) (tm_spot _ _ _ _ (ex_tups e112) hs) (pt.new nd hj) (by have := pt.1; have := take_len hj; omega) fun H9 hex hexc h9 => ?_
            exact ⟨⟨_, rfl⟩, hex _ (ex2.trans e112) (fresh_back ex hdr8), hex _ (ex'.trans e112) hdr8, _, h9, pt.yes hj (able_succ.mpr (hb.mp rfl))⟩
          · have cb' : b = false := by simpa using cb
            subst cb'
            exact iteF ⟨⟨_, rfl⟩, ex2.trans e112, ex'.trans e112, c, e112 _ _ hd9, pt.no hj fun z => nomatch hb.mpr (able_succ.mp z)⟩
        · obtain ⟨⟨c2, rfl⟩, ex2, ex', c, hd9, pt⟩ := q
          have kn : KnownD H2 dr (Able (notes M x) (isEnd M x) (i + 1)) := ⟨c, hd9, by have := pt.1; omega, pt.full fun s hs => able_in ok hs⟩
          have hr9 := ex' _ _ hr7
          refine ⟨_, rfl, .inl ⟨rfl, _, .of hr9⟩, _, rfl, r, vs, .ref dr, rfl, rfl, hr9, lt6 (by omega), ?_⟩
          have kp : ∀ d U, KnownD H2 d U → KnownD (upd H2 r (.lst (vs ++ [.ref dr]))) d U := fun d U ⟨l, q1, q2⟩ => ⟨l, by rw [upd_ne (ne_of q1 hr9 (fun z => nomatch z))]; exact q1, q2⟩
          refine ⟨⟨_, _, _, rfl⟩, Ex.mut ex2 nr0, _, upd_same, by rw [List.length_append, List.length_cons, List.length_nil, hlen], fun k v hk => ?_⟩
          by_cases ck : k < vs.length
          · rw [List.getElem?_append_left ck] at hk
            obtain ⟨d, rfl, q⟩ := hrows k v hk
            exact ⟨d, rfl, kp _ _ (q.ex ex')⟩
          · rw [List.getElem?_append_right (by omega)] at hk
            have ek : k = i + 1 := by
              have : (k - vs.length) < 1 := by have := take_len hk; simpa using this
              omega
            subst ek
            have : v = .ref dr := by
              rw [hlen, Nat.sub_self] at hk
              exact (Option.some.inj hk).symm
            exact ⟨dr, this, kp _ _ kn⟩
      · obtain ⟨⟨c2, c4, c5, rfl⟩, ex, vs, hr7, hlen, hrows⟩ := q
        exact ⟨_, rfl, k H' r (hbx.trans ex) (fresh_back hbx nr0) ⟨vs, hr7, hlen, hrows⟩⟩
end
end Tw

/-! # Readings: answers in order -/
namespace Tw
open PySem PySem.Spec PyProof.Rows L2 Evl TW
/-- all stands but instances of fewer than two attributes -/
def bigO : HO → Prop
  | .ins _ _ fs => 2 ≤ fs.length
  | _ => True
def Bg (H H' : Hp) : Prop := ∀ b o, H b = some o → bigO o → H' b = some o
section
variable {G : Gs} {mg : Str → Option Value} {vs : List V} {H H' H0 : Hp} {Q : VK} {E : XK} {K : PySem.W.Frag} {σ : L2.St}
theorem Bg.of (e : Ex H H') : Bg H H' := fun b o h _ => e b o h
theorem Bg.trans {H1 : Hp} (a : Bg H H') (b : Bg H' H1) : Bg H H1 := fun c o h q => b c o (a c o h q) q
theorem Bg.exc {a C dx : Addr} {fs : List (Str × V)} (e : Exc a H H') (ha : H a = some (.ins C dx fs)) (hs : fs.length < 2) : Bg H H' := fun b o h q => e b o h fun z => by
  rw [z, ha] at h
  cases h
  have : 2 ≤ fs.length := q
  omega
theorem Bg.tups (e : Bg H H') : Tups H H' := fun b xs h => e b _ h True.intro
theorem ListOf.bg {α : Type} {R : Hp → V → α → Prop} {a : Addr} {l : List α} (h : ListOf R H a l) (m : Tm R) (e : Bg H H') : ListOf R H' a l := let ⟨vs, h1, h2⟩ := h; ⟨vs, e _ _ h1 True.intro, pm m e.tups h2⟩
theorem MachAt.bg {a : Addr} {M : PM} (h : MachAt G H a M) (e : Bg H H') : MachAt G H' a M := let ⟨dx, f, r, h1, h2, h3⟩ := h; ⟨dx, f, r, e _ _ h1 (by show 2 ≤ 6; decide), e _ _ h2 True.intro, h3.bg tm_arc e⟩
theorem SilOk.bg {d : Addr} {N : List Note} (h : SilOk H d N) (e : Bg H H') : SilOk H' d N := let ⟨k, h1, h2⟩ := h; ⟨k, e _ _ h1 True.intro, fun s => (h2 s).elim .inl fun ⟨l, a, b⟩ => .inr ⟨l, a, b.bg tm_spot e⟩⟩
theorem WriOk.bg {d : Addr} {N : List Note} (h : WriOk H d N) (e : Bg H H') : WriOk H' d N := let ⟨k, h1, h2⟩ := h; ⟨k, e _ _ h1 True.intro, fun s => (h2 s).elim .inl fun ⟨l, a, b⟩ => .inr ⟨l, a, b.bg tm_wr e⟩⟩
theorem TurnAt.bg {t : Addr} {M : PM} {x : List Int} (h : TurnAt G H t M x) (e : Bg H H') : TurnAt G H' t M x :=
  let ⟨o, z, dx, m, w, ds, dw, h1, h2, h3, h4, h5⟩ := h; ⟨o, z, dx, m, w, ds, dw, e _ _ h1 (by show 2 ≤ 4; decide), h2.bg e, e _ _ h3 True.intro, h4.bg e, h5.bg e⟩
theorem RowsAt.bg {r : Addr} {M : PM} {x : List Int} (h : RowsAt H r M x) (e : Bg H H') : RowsAt H' r M x := let ⟨vs, h1, h2, h3⟩ := h; ⟨vs, e _ _ h1 True.intro, h2, fun k v q => let ⟨d, e1, l, q1, q2⟩ := h3 k v q; ⟨d, e1, l, e _ _ q1 True.intro, q2⟩⟩
/-- Turning(machine, word) -/
theorem mk_turn {t1 t2 : TE} {m w : Addr} {M : PM} {x : List Int} (h1 : Ev t1 σ H (.ref m)) (h2 : Ev t2 σ H (.ref w)) (hm : MachAt G H m M) (hw : IntL H w x) (ok : M.Ok) (hx : x.length ≤ 16) (k : ∀ H' t, Ex H H' → H t = none → TurnAt G H' t M x → Q (.ref t) H') :
    tMake G.cT (sp_Turning_init G) [] E0 (tCons t1 (tCons t2 tNil)) σ H Q := by
  refine h1 H (Ex.refl _) _ fun H1 e1 => h2 H1 e1 _ fun H2 e2 => ?_
  intro t dx nt nd ne
  have e := e1.trans e2
  have e3 : Ex H2 (upd (upd H2 dx (.own t)) t (.ins G.cT dx [])) := ex_up (Ex.new nd) nt
  refine ⟨t, dx, m, w, M, x, rfl, upd_same, hm.ex (e.trans e3), e3 _ _ (e _ _ hw), ok, hx, fun H' ec tt => ⟨rfl, k H' t (fun b o hb => ec b o (e3 _ _ (e _ _ hb)) (ne_of_none (e _ _ hb) nt)) (fresh_back e nt) tt⟩⟩
theorem q_fld {ta tv : TE} {f : Str} {tz : TS} {D : Ends} (h : tv σ H fun y H1 => ta σ H1 fun x H2 => ∃ a C dx fs, x = .ref a ∧ H2 a = some (.ins C dx fs) ∧ Cls K C ∧ NoAttr K C f ∧ fs.length < 1000 ∧ tz D σ (upd H2 a (.ins C dx (putF f y fs)))) : tSeq (sFld K ta tv f) tz D σ H := h
theorem SpotSet.exc {p q : Addr} {S : Spot → Prop} (h : SpotSet H q S) (e : Exc p H H') (t : Tups H H') (ne : q ≠ p) : SpotSet H' q S := let ⟨c, h1, h2⟩ := h; ⟨c, h1.keep tm_spot t (fun o ho => e _ _ ho ne), h2⟩
theorem pure_Answers_init (T : Txt G mg) (h : sp_Answers_init G vs H Q E) : t_Answers_init G (endsOf Q) (start n_Answers_init vs) H := by
  obtain ⟨a, dx, m, w, M, x, rfl, ha, hm, hw, ok, hx, k⟩ := h
  refine q_fld (mk_turn (ev_var rfl) (ev_var rfl) hm hw ok hx fun H1 t e1 nt tt => ?_)
  have ha1 := e1 _ _ ha
  refine ⟨_, rfl, a, G.cA, dx, _, rfl, ha1, T.k_A, T.n_turning, (by show 0 < 1000; decide), ?_⟩
  have b1 : Bg H1 (upd H1 a (.ins G.cA dx (putF "turning" (.ref t) []))) := Bg.exc Exc.upd ha1 (by show 0 < 2; decide)
  have ta : t ≠ a := fun z => by rw [z, ha] at nt; cases nt
  have c1 : Exc a H (upd H1 a (.ins G.cA dx (putF "turning" (.ref t) []))) := (Exc.of e1).trans Exc.upd
  have ha2 : upd H1 a (.ins G.cA dx (putF "turning" (.ref t) [])) a = some (.ins G.cA dx (putF "turning" (.ref t) [])) := upd_same
  have tt2 := tt.bg b1
  generalize upd H1 a (.ins G.cA dx (putF "turning" (.ref t) [])) = H2 at b1 c1 ha2 tt2
  refine meth_t tt2 (fun Q q => ⟨_, rfl, a, G.cA, dx, _, _, rfl, ha2, T.k_A, T.n_turning, rfl, q⟩) (fun _ _ _ _ => rfl) ?_
  refine ⟨t, M, x, rfl, tt2, fun H3 r e3 nr rr => ?_⟩
  refine ⟨_, rfl, a, G.cA, dx, _, rfl, e3 _ _ ha2, T.k_A, T.n_rows, (by show 1 < 1000; decide), ?_⟩
  have b3 : Bg H3 (upd H3 a (.ins G.cA dx (putF "rows" (.ref r) (putF "turning" (.ref t) [])))) := Bg.exc Exc.upd (e3 _ _ ha2) (by show 1 < 2; decide)
  exact k _ ((c1.trans (Exc.of e3)).trans Exc.upd) ⟨dx, t, r, upd_same, (tt2.ex e3).bg b3, rr.bg b3⟩
theorem ev_turning (T : Txt G mg) {a dx t r : Addr} {te : TE} (ha : Ev te σ H (.ref a)) (h : H a = some (.ins G.cA dx [("turning", .ref t), ("rows", .ref r)])) : Ev (tFld G.K te "turning") σ H (.ref t) := fun H1 e Q q =>
  ha H1 e _ fun H2 e2 => ⟨a, G.cA, dx, _, _, rfl, e2 _ _ (e _ _ h), T.k_A, T.n_turning, rfl, q H2 e2⟩
theorem ev_rows (T : Txt G mg) {a dx t r : Addr} {te : TE} (ha : Ev te σ H (.ref a)) (h : H a = some (.ins G.cA dx [("turning", .ref t), ("rows", .ref r)])) : Ev (tFld G.K te "rows") σ H (.ref r) := fun H1 e Q q =>
  ha H1 e _ fun H2 e2 => ⟨a, G.cA, dx, _, _, rfl, e2 _ _ (e _ _ h), T.k_A, T.n_rows, rfl, q H2 e2⟩
/-- self.rows[k] -/
theorem ev_row (T : Txt G mg) {a dx t r : Addr} {te tk : TE} {M : PM} {x : List Int} {k : Nat} (ha : Ev te σ H (.ref a)) (h : H a = some (.ins G.cA dx [("turning", .ref t), ("rows", .ref r)])) (hr : RowsAt H r M x) (hk : Ev tk σ H (iv k)) (hz : k ≤ 16) :
    ∃ d, Ev (tOp (rIxL G.K) (tFld G.K te "rows") tk) σ H (.ref d) ∧ KnownD H d (Able (notes M x) (isEnd M x) k) := by
  obtain ⟨vs, h1, h2, h3⟩ := hr
  obtain ⟨v, hv⟩ : ∃ v, vs[k]? = some v := ⟨_, List.getElem?_eq_getElem (by omega)⟩
  obtain ⟨d, rfl, kn⟩ := h3 k v hv
  exact ⟨d, ev_op (ev_rows T ha h) hk (rv_ixL (.of h1) (atI_nat hv)), kn⟩
/-- t.m(e, ..) of a turning, as a value: the argument list told -/
theorem meth_tE {sp : Sp} {nm : Str} {t : Addr} {M : PM} {x : List Int} {ta : TE} {tr : TA} (h : TurnAt G H t M x) (ha : Ev ta σ H (.ref t)) (hn : ∀ m w ds dw, (tF m w ds dw).lookup nm = none) (k : ∀ H1, Ex H H1 → tr σ H1 fun vs H2 => sp (.ref t :: (vs ++ [])) H2 Q E) : tMeth G.cT nm sp [] E ta tr σ H Q := by
  obtain ⟨_, _, dx, m, w, ds, dw, h1, _⟩ := h
  exact ha H (Ex.refl _) _ fun H1 e1 => ⟨t, dx, _, rfl, e1 _ _ h1, hn _ _ _ _, k H1 e1⟩
theorem stepS_closed {N : List Note} {S : Spot → Prop} {b : Int} : ∀ s u, StepS N S b s → Star (sil N) s u → StepS N S b u := fun _ _ ⟨s, p, h1, h2, h3, h4⟩ q => ⟨s, p, h1, h2, h3, h4.trans q⟩
theorem can_able {N : List Note} {En : Spot → Bool} {S : Spot → Prop} {b : Int} {k : Nat} {s : Spot} {p : Int × Spot} (h1 : S s) (h2 : p ∈ wri N s) (h3 : p.1 = b) (h4 : Able N En k p.2) : ∀ j, k = j + 1 → ∃ s p, StepS N S b s ∧ p ∈ wri N s ∧ Able N En j p.2 := fun j ej => by
  subst ej
  obtain ⟨t, q1, p2, q2, q3⟩ := h4
  exact ⟨t, p2, ⟨s, p, h1, h2, h3, q1⟩, q2, q3⟩
/-- for k in reversed(range(n)) -/
theorem s_forRev {ta : TE} {n j : Nat} {D : Ends} {tu : TS} (h : Ev ta σ H (iv n)) (hn : n ≤ 100000) (Pv : Nat → L2.St → Hp → Prop) (h0 : ∀ H1, Ex H H1 → Pv 0 σ H1)
    (hs : ∀ i σ' H', i < n → Pv i σ' H' → tu { D with nx := Pv (i + 1), ct := Pv (i + 1), bk := D.nx } (σ'.set j (some (iv (n - 1 - i)))) H') (hd : ∀ σ' H', Pv n σ' H' → D.nx σ' H') : tFor (iRevR (tRg1 ta)) (gName j) tu D σ H :=
  h H (Ex.refl _) _ fun H1 e1 => ⟨(n : Int), rfl, by omega, by omega, by omega, by omega, by
    have e2 : ((n : Int) - 0).toNat = n := by omega
    rw [e2]
    refine for_rangeC (lo := 0 + (n : Int) - 1) (c := -1) (n := n) Pv (h0 H1 e1) (fun i σ' H' hi q => ?_) hd
    have e3 : (0 : Int) + (n : Int) - 1 + ((i : Nat) : Int) * (-1) = ((n - 1 - i : Nat) : Int) := by omega
    rw [e3]
    exact hs i σ' H' hi q⟩
theorem q_forRev {ta : TE} {n j : Nat} {D : Ends} {tu tz : TS} (h : Ev ta σ H (iv n)) (hn : n ≤ 100000) (Pv : Nat → L2.St → Hp → Prop) (h0 : ∀ H1, Ex H H1 → Pv 0 σ H1)
    (hs : ∀ i σ' H', i < n → Pv i σ' H' → tu { D with nx := Pv (i + 1), ct := Pv (i + 1), bk := tz D } (σ'.set j (some (iv (n - 1 - i)))) H') (hd : ∀ σ' H', Pv n σ' H' → tz D σ' H') : tSeq (tFor (iRevR (tRg1 ta)) (gName j) tu) tz D σ H :=
  s_forRev (D := { D with nx := tz D }) h hn Pv h0 hs hd
theorem pure_Answers_least_rest (T : Txt G mg) (h : sp_Answers_least_rest G vs H Q E) : t_Answers_least_rest G (endsOf Q) (start n_Answers_least_rest vs) H := by
  obtain ⟨a, c, n, M, x, S, rfl, ⟨dx, t, r, ha, ht, hr⟩, hS, hcl, hn, hcan, k⟩ := h
  have ok := ht.1
  refine q_asgE (el_nil (R := IntAt) tm_int) fun p H1 e1 hp l1 => ?_
  refine q_forRev (n := n) (ev_var rfl) (by omega)
    (fun i σ' H' => ∃ c' S' y, (∃ c4 c5, σ' = [some (.ref a), some (.ref c'), some (iv n), some (.ref p), c4, c5]) ∧ c' ≠ p ∧ Own IntAt H H' p y ∧ y.length = i ∧ SpotSet H' c' S' ∧ (∀ s u, S' s → Star (sil (notes M x)) s u → S' u) ∧
      (∀ j, n - i = j + 1 → ∃ s p, S' s ∧ p ∈ wri (notes M x) s ∧ Able (notes M x) (isEnd M x) j p.2) ∧ ∀ z, LeastW (notes M x) (isEnd M x) S' (n - i) z → LeastW (notes M x) (isEnd M x) S n (y ++ z))
    (fun H2 e2 => ⟨c, S, [], ⟨_, _, rfl⟩, (by obtain ⟨_, ⟨_, q, _⟩, _⟩ := hS; exact ne_of_none q hp), ⟨e1.trans e2, hp, l1.ex tm_int e2⟩, rfl, hS.ex (e1.trans e2), hcl, hcan, fun z h => h⟩) (fun i σ' H' hi q => ?_) fun σ' H' q => ?_
  · obtain ⟨c', S', y, ⟨c4, c5, rfl⟩, hne, o, hy, hS', hcl', hcan', hz⟩ := q
    have e := o.1
    obtain ⟨d, hrow, kn⟩ := ev_row T (σ := [some (.ref a), some (.ref c'), some (iv n), some (.ref p), some (iv (n - 1 - i)), c5]) (te := tVar 0) (tk := tVar 4) (k := n - 1 - i) (ev_var rfl) (e _ _ ha) (hr.ex e) (ev_var rfl) (by omega)
    have hni : n - i = (n - 1 - i) + 1 := by omega
    refine meth_tE (σ := [some (.ref a), some (.ref c'), some (iv n), some (.ref p), some (iv (n - 1 - i)), c5]) (ht.ex e) (ev_turning T (ev_var rfl) (e _ _ ha)) (fun _ _ _ _ => rfl) fun H2 e2 => ?_
    refine cons_go (ev_var rfl) fun H3 e3 => cons_go (hrow.mono (e2.trans e3)) fun H4 e4 => cons_go ev_c fun H5 e5 => ?_
    have e25 := e2.trans (e3.trans (e4.trans e5))
    refine ⟨t, c', d, 0, M, x, S', _, rfl, ht.ex (e.trans e25), hS'.ex e25, kn.ex e25, fun H6 z e6 hzb => ?_⟩
    have lb : LB (notes M x) S' (Able (notes M x) (isEnd M x) (n - 1 - i)) 0 z := by
      rcases hzb with ⟨_, nb⟩ | q
      · obtain ⟨s, p1, q1, q2, q3⟩ := hcan' _ hni
        have := nb s p1 q1 q2 q3
        have w1 := mem_wri.mp q2
        have w2 := (note_in ok w1.1).2.2.1
        have w3 := w1.2
        exact absurd this (by have w2' : -1 ≤ p1.1 := w2; omega)
      · exact q
    have e26 := e25.trans e6
    refine own_app2 (R := IntAt) (x := z) tm_int (o.ex tm_int e26) (ev_var rfl) (eu_int (ev_var rfl)) (by omega) fun H7 o7 ec7 t7 => ?_
    have e7 := o7.1
    refine meth_tE (σ := [some (.ref a), some (.ref c'), some (iv n), some (.ref p), some (iv (n - 1 - i)), some (.int z)]) (ht.ex e7) (ev_turning T (ev_var rfl) (e7 _ _ ha)) (fun _ _ _ _ => rfl) fun H8 e8 => ?_
    have hS7 : SpotSet H7 c' S' := (hS'.ex e26).exc ec7 t7 hne
    refine cons_go (ev_var rfl) fun H9 e9 => cons_go (ev_var rfl) fun H10 e10 => ?_
    have e710 := e8.trans (e9.trans e10)
    refine ⟨t, c', z, M, x, S', rfl, ht.ex (e7.trans e710), hS7.ex e710, fun H11 c2 e11 nc2 ss => ?_⟩
    have e711 := e710.trans e11
    have o11 := o7.ex tm_int e711
    obtain ⟨⟨s1, p1, q1, q2, q3, q4⟩, _, _⟩ := id lb
    refine ⟨c2, _, y ++ [z], ⟨_, _, rfl⟩, fun q => ?_, o11, by rw [List.length_append, List.length_cons, List.length_nil, hy], ss, stepS_closed, ?_, fun zz hzz => ?_⟩
    · obtain ⟨_, _, ys, hys, _⟩ := o7
      rw [q, e710 _ _ hys] at nc2
      cases nc2
    · have ee : n - (i + 1) = n - 1 - i := by omega
      rw [ee]
      exact can_able q1 q2 q3 q4
    · have ee : n - (i + 1) = n - 1 - i := by omega
      rw [ee] at hzz
      rw [List.append_assoc]
      refine hz _ ?_
      rw [hni]
      exact .cons lb hzz
  · obtain ⟨c', S', y, ⟨c4, c5, rfl⟩, hne, o, hy, hS', hcl', hcan', hz⟩ := q
    rw [Nat.sub_self] at hz
    have := hz [] (.nil _)
    rw [List.append_nil] at this
    exact ⟨_, rfl, k H' p y o.1 o.2.1 (intL_of o.2.2) this⟩
end
end Tw

/-! # Readings: answers in order, the rest -/
namespace Tw
open PySem PySem.Spec PyProof.Rows L2 Evl TW
section
variable {G : Gs} {mg : Str → Option Value} {vs : List V} {H H' H0 : Hp} {Q : VK} {E : XK} {K : PySem.W.Frag} {σ : L2.St}
theorem pure_Answers_spots_along (T : Txt G mg) (h : sp_Answers_spots_along G vs H Q E) : t_Answers_spots_along G (endsOf Q) (start n_Answers_spots_along vs) H := by
  obtain ⟨a, w, M, x, y, rfl, ⟨dx, t, r, ha, ht, hr⟩, hw, hy, k⟩ := h
  refine meth_tE (σ := [some (.ref a), some (.ref w), none, none]) ht (ev_turning T (ev_var rfl) ha) (fun _ _ _ _ => rfl) fun H1 e1 => ?_
  refine ⟨t, M, x, rfl, ht.ex e1, fun H2 q0 e2 nq0 s0 => ⟨sz1, fun p hp => ?_⟩⟩
  have e12 := e1.trans e2
  have e3 : Ex H2 (upd H2 p (.lst [.ref q0])) := Ex.new hp
  have hp0 : H p = none := fresh_back e12 hp
  have hp3 : upd H2 p (.lst [.ref q0]) p = some (.lst [.ref q0]) := upd_same
  have nq : q0 ≠ p := by
    obtain ⟨_, ⟨_, q, _⟩, _⟩ := s0
    exact ne_of_none q hp
  generalize upd H2 p (.lst [.ref q0]) = H3 at e3 hp3
  have e13 := e12.trans e3
  refine q_forK (R := IntAt) tm_int (of_intL hw) (ev_var rfl)
    (fun i σ' H' => (∃ c, σ' = [some (.ref a), some (.ref w), some (.ref p), c]) ∧ Ex H H' ∧ ∃ vs : List V, H' p = some (.lst vs) ∧ vs.length = i + 1 ∧ ∀ k v, vs[k]? = some v → ∃ q, v = .ref q ∧ q ≠ p ∧ SpotSet H' q (Along (notes M x) (y.take k)))
    (fun H4 e4 => ⟨⟨_, rfl⟩, e13.trans e4, [.ref q0], e4 _ _ hp3, rfl, fun k v hk => ?_⟩) (fun i σ' H' q => q.2.1) (fun i b v σ' H' hi rb q => ?_) fun σ' H' q => ?_
  · cases k with
    | zero => cases hk; exact ⟨q0, rfl, nq, s0.ex (e3.trans e4)⟩
    | succ k => simp at hk
  · obtain ⟨⟨c, rfl⟩, e, vs, hv, hlen, hall⟩ := q
    cases rb
    obtain ⟨vl, hvl⟩ : ∃ v, vs[i]? = some v := ⟨_, List.getElem?_eq_getElem (by omega)⟩
    obtain ⟨ql, rfl, nql, sl⟩ := hall i vl hvl
    have hi16 := take_len hi
    refine ⟨_, rfl, .inl ⟨rfl, _, .of hv⟩, ?_⟩
    refine meth_tE (σ := [some (.ref a), some (.ref w), some (.ref p), some (.int b)]) (ht.ex e) (ev_turning T (ev_var rfl) (e _ _ ha)) (fun _ _ _ _ => rfl) fun H5 e5 => ?_
    refine cons_go (v := .ref ql) (ev_op (ev_var rfl) (ev_un ev_c ru_neg) (rv_ixL (.of (e5 _ _ hv)) (atI_last hlen hvl))) fun H6 e6 => cons_go (ev_var rfl) fun H7 e7 => ?_
    have e57 := e5.trans (e6.trans e7)
    refine ⟨t, ql, b, M, x, _, rfl, ht.ex (e.trans e57), sl.ex e57, fun H8 q8 e8 nq8 s8 => ?_⟩
    have e58 := e57.trans e8
    have hv8 := e58 _ _ hv
    have nq8' : q8 ≠ p := fun z => by rw [z, e57 _ _ hv] at nq8; cases nq8
    refine ⟨p, vs, .ref q8, rfl, rfl, hv8, lt6 (by omega), ⟨_, rfl⟩, Ex.mut (e.trans e58) hp0, _, upd_same, by rw [List.length_append, List.length_cons, List.length_nil, hlen], fun k v hk => ?_⟩
    have tu : Tups H8 (upd H8 p (.lst (vs ++ [.ref q8]))) := tups_upd hv8 (fun _ z => nomatch z)
    by_cases ck : k < vs.length
    · rw [List.getElem?_append_left ck] at hk
      obtain ⟨q, rfl, nq, s⟩ := hall k v hk
      exact ⟨q, rfl, nq, (s.ex e58).exc Exc.upd tu nq⟩
    · rw [List.getElem?_append_right (by omega)] at hk
      have ek : k = i + 1 := by
        have : (k - vs.length) < 1 := by have := take_len hk; simpa using this
        omega
      subst ek
      have : v = .ref q8 := by
        rw [hlen, Nat.sub_self] at hk
        exact (Option.some.inj hk).symm
      refine ⟨q8, this, nq8', ?_⟩
      rw [take_more hi, Along.snoc]
      exact s8.exc Exc.upd tu nq8'
  · obtain ⟨⟨c, rfl⟩, e, vs, hv, hlen, hall⟩ := q
    exact ⟨_, rfl, k H' p e hp0 ⟨vs, hv, hlen, fun k v hk => let ⟨q, e1, _, s⟩ := hall k v hk; ⟨q, e1, s⟩⟩⟩
theorem ev_inDU {ta tb : TE} {d : Addr} {l : List Spot} {s : Spot} (ha : EU SpotAt ta σ H s) (hb : Ev tb σ H (.ref d)) (hd : H d = some (.dT (keysT l))) : Ev (tDIn ta tb) σ H (.bl (decide (s ∈ l))) := fun H1 e Q q =>
  ha H1 e _ fun v H2 e2 hs => hb H2 (e.trans e2) _ fun H3 e3 => by
    obtain ⟨p, rfl, hp⟩ := hs
    have e4 := (e.trans e2).trans e3
    refine ⟨d, _, rfl, DGet.t (k := keyOf s) (e4 _ _ hd) (e3 _ _ hp), ?_⟩
    rw [valV_keysT]
    have k := q H3 (e2.trans e3)
    by_cases c : s ∈ l
    · rw [if_pos c]; simpa [c] using k
    · rw [if_neg c]; simpa [c] using k
/-- a.m(..) of answers -/
theorem meth_aE {sp : Sp} {nm : Str} {a dx t r : Addr} {ta : TE} {tr : TA} (h : H a = some (.ins G.cA dx [("turning", .ref t), ("rows", .ref r)])) (ha : Ev ta σ H (.ref a)) (hn : List.lookup nm [(("turning" : Str), V.ref t), (("rows" : Str), V.ref r)] = none) (k : ∀ H1, Ex H H1 → tr σ H1 fun vs H2 => sp (.ref a :: (vs ++ [])) H2 Q E) : tMeth G.cA nm sp [] E ta tr σ H Q :=
  ha H (Ex.refl _) _ fun H1 e1 => ⟨a, dx, _, rfl, e1 _ _ h, hn, k H1 e1⟩
theorem along_closed {N : List Note} (y : List Int) : ∀ s u, Along N y s → Star (sil N) s u → Along N y u := by
  rcases List.eq_nil_or_concat y with e | ⟨z, b, e⟩
  · subst e
    intro s u h q
    exact Star.trans h q
  · subst e
    intro s u h q
    rw [List.concat_eq_append, Along.snoc] at h ⊢
    exact stepS_closed s u h q
theorem pure_Answers_holds (T : Txt G mg) (h : sp_Answers_holds G vs H Q E) : t_Answers_holds G (endsOf Q) (start n_Answers_holds vs) H := by
  obtain ⟨a, w, M, x, y, rfl, an, hw, hy, k⟩ := h
  obtain ⟨dx, t, r, ha, ht, hr⟩ := id an
  refine meth_tE (σ := [some (.ref a), some (.ref w)]) ht (ev_turning T (ev_var rfl) ha) (fun _ _ _ _ => rfl) fun H1 e1 => ?_
  refine meth_aE (σ := [some (.ref a), some (.ref w)]) (e1 _ _ ha) (ev_var rfl) rfl fun H2 e2 => ?_
  refine cons_go (ev_var rfl) fun H3 e3 => ?_
  have e13 := e1.trans (e2.trans e3)
  refine ⟨a, w, M, x, y, rfl, an.ex e13, e13 _ _ hw, hy, fun H4 p e4 _ al => ?_⟩
  obtain ⟨vs, hv, hlen, hall⟩ := al
  obtain ⟨vl, hvl⟩ : ∃ v, vs[y.length]? = some v := ⟨_, List.getElem?_eq_getElem (by omega)⟩
  obtain ⟨ql, rfl, sl⟩ := hall _ vl hvl
  rw [List.take_length] at sl
  refine ⟨_, rfl, p, vs, _, _, rfl, rfl, .of hv, atI_last hlen hvl, ?_⟩
  exact ⟨t, ql, M, x, _, rfl, ht.ex (e13.trans e4), sl, fun H5 b e5 hb => k H5 b ((e13.trans e4).trans e5) hb⟩
theorem words_one {p q : Addr} {y : List Int} (h : H p = some (.lst [.ref q])) (hq : IntL H q y) : WordsAt H p [y] := ⟨_, h, .cons ⟨q, rfl, hq⟩ .nil⟩
theorem can_first {N : List Note} {En : Spot → Bool} {k : Nat} (h : Able N En k (0, 0)) : ∀ j, k = j + 1 → ∃ s p, Begin N s ∧ p ∈ wri N s ∧ Able N En j p.2 := fun j e => by
  subst e
  obtain ⟨t, q1, p, q2, q3⟩ := h
  exact ⟨t, p, q1, q2, q3⟩
theorem pure_Answers_first_from (T : Txt G mg) (h : sp_Answers_first_from G vs H Q E) : t_Answers_first_from G (endsOf Q) (start n_Answers_first_from vs) H := by
  obtain ⟨a, many, M, x, rfl, an, hm, k⟩ := h
  obtain ⟨dx, t, r, ha, ht, hr⟩ := id an
  refine q_forR2 (lo := (many : Int)) (n := 17) (ea_cons (ev_var rfl) (ea_cons (ev_op ev_c ev_c rv_I0) ea_nil)) (by omega)
    (fun i σ' H' => (∃ c, σ' = [some (.ref a), some (iv many), c]) ∧ Ex H H' ∧ ∀ j, many ≤ j → j < many + i → ¬ Able (notes M x) (isEnd M x) j (0, 0))
    (fun H1 e1 => ⟨⟨_, rfl⟩, e1, fun j h1 h2 => by omega⟩) (fun i σ' H' hi q => ?_) fun σ' H' q => ?_
  · obtain ⟨⟨c, rfl⟩, e, no⟩ := q
    have hi16 : many + i ≤ 16 := by omega
    have hσ : ([some (.ref a), some (iv many), c] : L2.St).set 2 (some (V.int ((many : Int) + (i : Int)))) = [some (.ref a), some (iv many), some (iv (many + i))] := by
      show [some (V.ref a), some (iv many), some (V.int ((many : Int) + (i : Int)))] = [some (.ref a), some (iv many), some (V.int ((many + i : Nat) : Int))]
      rw [Int.natCast_add]
    rw [hσ]
    obtain ⟨d, hrow, ⟨kl, hd, _, hU⟩⟩ := ev_row T (σ := [some (.ref a), some (iv many), some (iv (many + i))]) (te := tVar 0) (tk := tVar 2) (k := many + i) (ev_var rfl) (e _ _ ha) (hr.ex e) (ev_var rfl) hi16
    refine s_if (b := decide (((0, 0) : Spot) ∈ kl)) (et_B (ev_inDU (eu_spot (i := 0) (j := 0) ev_c ev_c) hrow hd)) (fun hb H1 e1 => ?_) (fun hb H1 e1 => ?_)
    · have able : Able (notes M x) (isEnd M x) (many + i) (0, 0) := (hU _).mp (of_decide_eq_true hb)
      have e2 := e.trans e1
      refine meth_aE (σ := [some (.ref a), some (iv many), some (iv (many + i))]) (e2 _ _ ha) (ev_var rfl) rfl fun H2 e3 => ?_
      have e23 := e2.trans e3
      refine meth_tE (σ := [some (.ref a), some (iv many), some (iv (many + i))]) (ht.ex e23) (ev_turning T (ev_var rfl) (e23 _ _ ha)) (fun _ _ _ _ => rfl) fun H4 e4 => ?_
      refine ⟨t, M, x, rfl, ht.ex (e23.trans e4), fun H5 c5 e5 _ s5 => ?_⟩
      have e45 := (e23.trans e4).trans e5
      refine ⟨_, rfl, a, c5, many + i, M, x, Begin (notes M x), rfl, an.ex e45, s5, fun s u h q => Star.trans h q, hi16, can_first able, fun H6 p6 y e6 np6 hy ly => ⟨sz1, fun p hp => ?_⟩⟩
      have e7 : Ex H6 (upd H6 p (.lst [.ref p6])) := Ex.new hp
      have e46 := e45.trans e6
      exact k _ p [y] (e46.trans e7) (fresh_back e46 hp) (words_one upd_same (e7 _ _ hy)) (.inr ⟨many + i, y, rfl, by omega, hi16, able, no, ly⟩)
    · have nable : ¬ Able (notes M x) (isEnd M x) (many + i) (0, 0) := fun z => of_decide_eq_false hb ((hU _).mpr z)
      refine ⟨⟨_, rfl⟩, e.trans e1, fun j h1 h2 => ?_⟩
      by_cases c : j = many + i
      · rw [c]; exact nable
      · exact no j h1 (by omega)
  · obtain ⟨⟨c, rfl⟩, e, no⟩ := q
    refine ⟨sz0, fun p hp => ?_⟩
    refine k _ p [] (e.trans (Ex.new hp)) (fresh_back e hp) ⟨[], upd_same, .nil⟩ (.inl ⟨rfl, fun j h1 h2 => no j h1 (by omega)⟩)
end
end Tw

/-! # Readings: next_after -/
namespace Tw
open PySem PySem.Spec PyProof.Rows L2 Evl TW
section
variable {G : Gs} {mg : Str → Option Value} {vs : List V} {H H' H0 : Hp} {Q : VK} {E : XK} {K : PySem.W.Frag} {σ : L2.St}
theorem ev_subN {ta tb : TE} {i j : Nat} (ha : Ev ta σ H (iv i)) (hb : Ev tb σ H (iv j)) (h : j ≤ i) : Ev (tOp (rI0 fun i j => .int (i - j)) ta tb) σ H (iv (i - j)) := by
  refine ev_is (ev_op ha hb rv_I0) ?_
  show V.int ((i : Int) - (j : Int)) = V.int ((i - j : Nat) : Int)
  rw [Int.ofNat_sub h]
theorem ev_lenI {ta : TE} {p : Addr} {l : List Int} (ha : Ev ta σ H (.ref p)) (h : IntL H p l) : Ev (tCB (rLenS K) (tCons ta tNil)) σ H (iv l.length) := by
  refine ev_is (ev_len (K := K) ha (.of h)) ?_
  rw [List.length_map]
theorem cut_take {y : List Int} {k : Nat} : cutV (y.map V.int) none (some (k : Int)) = (y.take k).map V.int := by
  unfold cutV
  rw [HT.sIx_nat, HT.sIx_none, List.length_map, List.drop_zero, Nat.sub_zero, ← List.map_take]
  congr 1
  by_cases c : k ≤ y.length
  · rw [Nat.min_eq_left c]
  · rw [Nat.min_eq_right (by omega), List.take_length, List.take_of_length_le (by omega)]
theorem el_take {ta tb : TE} {p : Addr} {y : List Int} {k : Nat} (ha : Ev ta σ H (.ref p)) (hk : Ev tb σ H (iv k)) (h : IntL H p y) : EL IntAt (tSl (rSlL K) ta tNoPart (tPart tb)) σ H (y.take k) := fun H1 e Q q =>
  el_sl (K := K) (a := p) (xs := y.map V.int) (lo := none) (hi := some (k : Int)) ha eo_none (eo_some hk) (.of h) H1 e Q fun p2 H2 _ e2 h2 => q p2 H2 e2 (by rw [cut_take] at h2; exact of_intL h2)
theorem ev_ixI {ta tb : TE} {p : Addr} {y : List Int} {k : Nat} {c : Int} (ha : Ev ta σ H (.ref p)) (hk : Ev tb σ H (iv k)) (h : IntL H p y) (hc : y[k]? = some c) : Ev (tOp (rIxL K) ta tb) σ H (.int c) :=
  ev_op ha hk (rv_ixL (.of h) (atI_nat (by rw [List.getElem?_map, hc]; rfl)))
theorem drop_at {α : Type} {l : List α} {k : Nat} {c : α} (h : l[k]? = some c) : l.drop k = c :: l.drop (k + 1) := by
  obtain ⟨h1, h2⟩ := List.getElem?_eq_some_iff.mp h
  rw [List.drop_eq_getElem_cons h1, h2]
theorem pure_Answers_next_after (T : Txt G mg) (h : sp_Answers_next_after G vs H Q E) : t_Answers_next_after G (endsOf Q) (start n_Answers_next_after vs) H := by
  obtain ⟨a, w, M, x, y, rfl, an, hw, hy, k⟩ := h
  obtain ⟨dx, t, r, ha, ht, hr⟩ := id an
  have ok := ht.1
  refine meth_aE (σ := [some (.ref a), some (.ref w), none, none, none, none, none]) ha (ev_var rfl) rfl fun H1 e1 => ?_
  refine cons_go (ev_var rfl) fun H2 e2 => ?_
  have e12 := e1.trans e2
  refine ⟨a, w, M, x, y, rfl, an.ex e12, e12 _ _ hw, hy, fun H3 ps e3 _ al => ?_⟩
  have e13 := e12.trans e3
  obtain ⟨vs, hv, hlen, hall⟩ := al
  refine q_forRev (n := y.length) (ev_lenI (K := G.K) (ev_var rfl) (e13 _ _ hw)) (by omega)
    (fun i σ' H' => (∃ c3 c4 c5 c6, σ' = [some (.ref a), some (.ref w), some (.ref ps), c3, c4, c5, c6]) ∧ Ex H3 H' ∧ NoLater (notes M x) (isEnd M x) (Along (notes M x) (y.take (y.length - i))) (y.drop (y.length - i)))
    (fun H4 e4 => ⟨⟨_, _, _, _, rfl⟩, e4, by rw [Nat.sub_zero, List.drop_length]; exact True.intro⟩) (fun i σ' H' hi q => ?_) fun σ' H' q => ?_
  · obtain ⟨⟨c3, c4, c5, c6, rfl⟩, e, nl⟩ := q
    have ee := e13.trans e
    have hk : y.length - i = (y.length - 1 - i) + 1 := by omega
    rw [hk] at nl
    obtain ⟨c, hc⟩ : ∃ c, y[y.length - 1 - i]? = some c := ⟨_, List.getElem?_eq_getElem (by omega)⟩
    obtain ⟨vk, hvk⟩ : ∃ v, vs[y.length - 1 - i]? = some v := ⟨_, List.getElem?_eq_getElem (by omega)⟩
    obtain ⟨qk, rfl, sk⟩ := hall _ vk hvk
    have hdl : (y.drop (y.length - 1 - i + 1)).length = i := by rw [List.length_drop]; omega
    have hleft : y.length - (y.length - 1 - i) - 1 = i := by omega
    refine q_asg (v := iv i) ?_ fun H5 e5 => ?_
    · have := ev_subN (j := 1) (ev_subN (ev_lenI (K := G.K) (σ := [some (.ref a), some (.ref w), some (.ref ps), some (iv (y.length - 1 - i)), c4, c5, c6]) (ta := tVar 1) (ev_var rfl) (ee _ _ hw)) (ev_var (i := 3) (v := iv (y.length - 1 - i)) rfl) (by omega)) (ev_c (v := V.int 1)) (by omega)
      rw [hleft] at this
      exact this
    have e35 := ee.trans e5
    obtain ⟨d, hrow, kn⟩ := ev_row T (σ := [some (.ref a), some (.ref w), some (.ref ps), some (iv (y.length - 1 - i)), some (iv i), c5, c6]) (te := tVar 0) (tk := tVar 4) (k := i) (ev_var rfl) (e35 _ _ ha) (hr.ex e35) (ev_var rfl) (by omega)
    refine meth_tE (σ := [some (.ref a), some (.ref w), some (.ref ps), some (iv (y.length - 1 - i)), some (iv i), c5, c6]) (ht.ex e35) (ev_turning T (ev_var rfl) (e35 _ _ ha)) (fun _ _ _ _ => rfl) fun H6 e6 => ?_
    have hvv := e _ _ hv
    refine cons_go (v := .ref qk) (ev_op (ev_var rfl) (ev_var rfl) (rv_ixL (.of ((e5.trans e6) _ _ hvv)) (atI_nat hvk))) fun H7 e7 => cons_go (hrow.mono (e6.trans e7)) fun H8 e8 => ?_
    have e58 := (e5.trans e6).trans (e7.trans e8)
    refine cons_go (v := .int (c + 1)) (ev_op (ev_ixI (K := G.K) (ev_var rfl) (ev_var rfl) ((ee.trans e58) _ _ hw) hc) ev_c rv_I0) fun H9 e9 => ?_
    have e59 := e58.trans e9
    have e39 := ee.trans e59
    refine ⟨t, qk, d, c + 1, M, x, _, _, rfl, ht.ex e39, sk.ex (e.trans e59), kn.ex (e6.trans (e7.trans (e8.trans e9))), fun H10 z e10 hz => ?_⟩
    have e310 := e39.trans e10
    have e510 := e59.trans e10
    rcases hz with ⟨hz1, nb⟩ | lb
    · subst hz1
      refine s_if (b := false) (et_test (ev_op (ev_var rfl) ev_c rv_I0)) (fun hb => nomatch hb) (fun _ H11 e11 => ?_)
      refine ⟨⟨_, _, _, _, rfl⟩, (e.trans e510).trans e11, ?_⟩
      have ek : y.length - (i + 1) = y.length - 1 - i := by omega
      rw [ek, drop_at hc]
      refine ⟨?_, ?_⟩
      · rw [← Along.snoc, ← take_more hc]
        exact nl
      · rw [hdl]
        exact nb
    · obtain ⟨⟨s1, p1, q1, q2, q3, q4⟩, _, _⟩ := id lb
      have hz0 : 0 ≤ z := by
        have w1 := mem_wri.mp q2
        have w2 : -1 ≤ p1.1 := (note_in ok w1.1).2.2.1
        have w3 := w1.2
        omega
      refine s_if (b := decide (0 ≤ z)) (et_test (ev_op (ev_var rfl) ev_c rv_I0)) (fun _ H11 e11 => ?_) (fun hb => absurd hz0 (of_decide_eq_false hb))
      have e311 := e310.trans e11
      have e511 := e510.trans e11
      refine meth_aE (σ := [some (.ref a), some (.ref w), some (.ref ps), some (iv (y.length - 1 - i)), some (iv i), some (.int z), c6]) (e311 _ _ ha) (ev_var rfl) rfl fun H12 e12' => ?_
      have e312 := e311.trans e12'
      refine meth_tE (σ := [some (.ref a), some (.ref w), some (.ref ps), some (iv (y.length - 1 - i)), some (iv i), some (.int z), c6]) (ht.ex e312) (ev_turning T (ev_var rfl) (e312 _ _ ha)) (fun _ _ _ _ => rfl) fun H13 e13' => ?_
      refine cons_go (v := .ref qk) (ev_op (ev_var rfl) (ev_var rfl) (rv_ixL (.of ((e511.trans (e12'.trans e13')) _ _ hvv)) (atI_nat hvk))) fun H14 e14 => cons_go (ev_var rfl) fun H15 e15 => ?_
      have e315 := e312.trans (e13'.trans (e14.trans e15))
      have e515 := e511.trans (e12'.trans (e13'.trans (e14.trans e15)))
      refine ⟨t, qk, z, M, x, _, rfl, ht.ex e315, sk.ex (e.trans e515), fun H16 c16 e16 _ s16 => ?_⟩
      have e316 := e315.trans e16
      refine ⟨_, rfl, a, c16, i, M, x, _, rfl, an.ex e316, s16, stepS_closed, by omega, can_able q1 q2 q3 q4, fun H17 p17 rest e17 np17 hrest ly => ?_⟩
      have e317 := e316.trans e17
      have hk16 : y.length - 1 - i ≤ 16 := by omega
      have lrest := ly.len
      refine el_cat (R := IntAt) tm_int (el_cat (R := IntAt) tm_int (el_take (K := G.K) (ev_var rfl) (ev_var rfl) (e317 _ _ hw)) (el_disp (R := IntAt) (l := [z]) tm_int (eas_cons tm_int (eu_int (ev_var rfl)) eas_nil) (by simp)).el (by simp; omega)).el (el_var tm_int rfl (of_intL hrest)) (by simp; omega) H17 (Ex.refl _) _ fun pw H18 e18 _ lw => ⟨sz1, fun p hp => ?_⟩
      have e19 : Ex H18 (upd H18 p (.lst [.ref pw])) := Ex.new hp
      have e318 := e317.trans e18
      refine k _ p [y.take (y.length - 1 - i) ++ [z] ++ rest] (e318.trans e19) (fresh_back e318 hp) (words_one upd_same (e19 _ _ (intL_of lw))) (.inl ⟨_, rfl, ?_⟩)
      have lat : LaterW (notes M x) (isEnd M x) (Along (notes M x) (y.take (y.length - 1 - i))) (c :: y.drop (y.length - 1 - i + 1)) (z :: rest) := by
        refine .here ?_ (by rw [hdl]; exact lb) (by rw [hdl]; exact ly)
        rw [← Along.snoc, ← take_more hc]
        exact nl
      have := later_from (y.take (y.length - 1 - i)) lat
      rw [← drop_at hc, List.take_append_drop] at this
      rw [List.append_assoc]
      exact this
  · obtain ⟨⟨c3, c4, c5, c6, rfl⟩, e, nl⟩ := q
    have ee := e13.trans e
    rw [Nat.sub_self] at nl
    refine meth_aE (σ := [some (.ref a), some (.ref w), some (.ref ps), c3, c4, c5, c6]) (ee _ _ ha) (ev_var rfl) rfl fun H4 e4 => ?_
    refine cons_go (ev_addN (j := 1) (ev_lenI (K := G.K) (ev_var rfl) ((ee.trans e4) _ _ hw)) ev_c) fun H5 e5 => ?_
    have e35 := ee.trans (e4.trans e5)
    exact ⟨a, y.length + 1, M, x, rfl, an.ex e35, by omega, fun H6 p ws e6 np hws fr => k H6 p ws (e35.trans e6) (fresh_back e35 np) hws (.inr ⟨nl, fr⟩)⟩
end
end Tw

/-! # Readings: answers without end -/
namespace Tw
open PySem PySem.Spec PyProof.Rows L2 Evl TW
section
variable {G : Gs} {mg : Str → Option Value} {vs : List V} {H H' H0 : Hp} {Q : VK} {E : XK} {K : PySem.W.Frag} {σ : L2.St}
/-! ### dicts with keys that are numbers -/
theorem valV_keysK (n : Nat) : ∀ l : List Nat, valV (keysK l) (Sum.inl (n : Int)) = if n ∈ l then some (.bl true) else none
  | [] => by simp [keysK, valV_nil]
  | a :: r => by
    have ih := valV_keysK n r
    show valV ((Sum.inl (a : Int), V.bl true) :: keysK r) (Sum.inl (n : Int)) = _
    by_cases c : a = n
    · subst c
      rw [valV_pos rfl, if_pos (List.mem_cons_self ..)]
    · rw [valV_neg (fun z => c (by injection z with z; omega)), ih]
      by_cases d : n ∈ r
      · rw [if_pos d, if_pos (List.mem_cons_of_mem _ d)]
      · rw [if_neg d, if_neg (fun z => (List.mem_cons.mp z).elim (fun z => c z.symm) d)]
theorem keysK_new {n : Nat} {l : List Nat} (h : n ∉ l) : putK (keysK l) (Sum.inl (n : Int)) (.bl true) = keysK (l ++ [n]) := by
  rw [putK_new _ (by rw [valV_keysK, if_neg h])]
  unfold keysK
  rw [List.map_append]
  rfl
theorem keysK_len (l : List Nat) : (keysK l).length = l.length := by unfold keysK; rw [List.length_map]
theorem ev_notInK {ta tb : TE} {d : Addr} {l : List Nat} {n : Nat} (ha : Ev ta σ H (iv n)) (hb : Ev tb σ H (.ref d)) (hd : H d = some (.dK (keysK l))) : Ev (tDNotIn ta tb) σ H (.bl (!decide (n ∈ l))) := fun H1 e Q q =>
  ha H1 e _ fun H2 e2 => hb H2 (e.trans e2) _ fun H3 e3 => by
    have e4 := (e.trans e2).trans e3
    refine ⟨d, _, rfl, DGet.k (k := Sum.inl (n : Int)) (e4 _ _ hd), ?_⟩
    rw [valV_keysK]
    have k := q H3 (e2.trans e3)
    by_cases c : n ∈ l
    · rw [if_pos c]; simpa [c] using k
    · rw [if_neg c]; simpa [c] using k
theorem ev_inK {ta tb : TE} {d : Addr} {l : List Nat} {n : Nat} (ha : Ev ta σ H (iv n)) (hb : Ev tb σ H (.ref d)) (hd : H d = some (.dK (keysK l))) : Ev (tDIn ta tb) σ H (.bl (decide (n ∈ l))) := fun H1 e Q q =>
  ha H1 e _ fun H2 e2 => hb H2 (e.trans e2) _ fun H3 e3 => by
    have e4 := (e.trans e2).trans e3
    refine ⟨d, _, rfl, DGet.k (k := Sum.inl (n : Int)) (e4 _ _ hd), ?_⟩
    rw [valV_keysK]
    have k := q H3 (e2.trans e3)
    by_cases c : n ∈ l
    · rw [if_pos c]; simpa [c] using k
    · rw [if_neg c]; simpa [c] using k
/-- a search over numbers -/
structure SrchK (H0 H : Hp) (fd wl : Addr) (found waiting : List Nat) : Prop where
  ex : Ex H0 H
  nf : H0 fd = none
  nw : H0 wl = none
  ne : fd ≠ wl
  hf : H fd = some (.dK (keysK found))
  hw : H wl = some (.lst (waiting.map iv))
theorem SrchK.go {fd wl : Addr} {found waiting : List Nat} (h : SrchK H0 H fd wl found waiting) (e : Ex H H') : SrchK H0 H' fd wl found waiting := ⟨h.ex.trans e, h.nf, h.nw, h.ne, e _ _ h.hf, e _ _ h.hw⟩
theorem dfs_step {α : Type} {adj : α → List α} {l found waiting : List α} {s : α} {N n : Nat} (nd : Dfs adj l found (waiting ++ [s])) (hs : s ∉ found) (hn : n + loadOf adj found = (waiting ++ [s]).length + N) (lb : loadOf adj (found ++ [s]) ≤ N) (hm : found.length + n ≤ l.length + N) :
    n - 1 + loadOf adj (found ++ [s]) = (waiting ++ adj s).length + N ∧ (found ++ [s]).length + (n - 1) ≤ l.length + N ∧ (waiting ++ adj s).length ≤ n ∧ 1 ≤ n := by
  have := load_snoc adj found s
  rw [List.length_append, List.length_cons, List.length_nil] at hn
  refine ⟨?_, ?_, ?_, ?_⟩
  · rw [List.length_append]; omega
  · rw [List.length_append, List.length_cons, List.length_nil]; omega
  · rw [List.length_append]; omega
  · omega
theorem q_dput {ta tb tv : TE} {D : Ends} {tz : TS} (h : sDPut ta tb tv { D with nx := tz D } σ H) : tSeq (sDPut ta tb tv) tz D σ H := h
theorem pure_come_to (T : Txt G mg) (h : sp_come_to G vs H Q E) : t_come_to G (endsOf Q) (start n_come_to vs) H := by
  obtain ⟨pa, n, l, rfl, ⟨xs, hx, px⟩, hz, hn, k⟩ := h
  refine q_newK fun d H1 hd e1 hd1 => ?_
  refine q_forR1 (n := (n : Int)) (ea_cons (ev_var rfl) ea_nil) (by omega)
    (fun i σ' H' => (∃ c3 c4 c5 c6 c7 c8, σ' = [some (.ref pa), some (iv n), some (.ref d), c3, c4, c5, c6, c7, c8]) ∧ Ex H H' ∧ ∃ kvs, H' d = some (.dK kvs) ∧ kvs.length ≤ i ∧ ∀ j, j < i → ∃ r, r ≠ d ∧ valV kvs (Sum.inl (j : Int)) = some (.ref r) ∧ NatD H' r (Star (nexts l) j))
    (fun H2 e2 => ⟨⟨_, _, _, _, _, _, rfl⟩, e1.trans e2, [], e2 _ _ hd1, Nat.le_refl _, fun j hj => by omega⟩) (fun i σ' H' hi q => ?_) fun σ' H' q => ?_
  · obtain ⟨⟨c3, c4, c5, c6, c7, c8, rfl⟩, ex, kvs, hk, hkl, hall⟩ := q
    refine q_newK fun r H2 hr e2 hr2 => ?_
    have r0 : H r = none := fresh_back ex hr
    refine q_asgE (el_disp (R := NatAt) (l := [i]) tm_nat (eas_cons tm_nat (fun H3 e3 Q q => ⟨_, rfl, q _ H3 (Ex.refl _) rfl⟩) eas_nil) (by simp)) fun wl H3 e3 hwl l3 => ?_
    obtain ⟨ws, hws, pws⟩ := l3
    have ews := nats_of pws
    subst ews
    have wl0 : H' wl = none := fresh_back e2 hwl
    have ne : r ≠ wl := ne_of_none hr2 hwl
    have s0 : SrchK H' H3 r wl [] [i] := ⟨e2.trans e3, hr, wl0, ne, e3 _ _ hr2, hws⟩
    refine q_while (fun m σ2 H2 => ∃ found waiting c6 c7 c8, σ2 = [some (.ref pa), some (iv n), some (.ref d), some (iv i), some (.ref r), some (.ref wl), c6, c7, c8] ∧ SrchK H' H2 r wl found waiting ∧ Dfs (nexts l) [i] found waiting ∧ m + loadOf (nexts l) found = waiting.length + l.length ∧ found.length + m ≤ [i].length + l.length)
      (1 + l.length) ⟨[], [i], _, _, _, rfl, s0, Dfs.start, by simp [loadOf], by simp⟩ fun m σ2 H2 hw => ?_
    obtain ⟨found, waiting, c6, c7, c8, rfl, sr, df, hm, hm2⟩ := hw
    have exs := ex.trans sr.ex
    refine ⟨!waiting.isEmpty, et_test (ev_neNil (R := NatAt) (el_var tm_nat rfl ⟨_, sr.hw, nats_paired _ _⟩)), fun hb H4 e4 => ?_, fun hb H4 e4 => ?_⟩
    · have hne2 : waiting ≠ [] := by intro z; rw [z] at hb; simp at hb
      obtain ⟨w', s, rfl⟩ := pop_last hne2
      refine ⟨fun σ2 H2 => ∃ m', m' < m ∧ ∃ found waiting c6 c7 c8, σ2 = [some (.ref pa), some (iv n), some (.ref d), some (iv i), some (.ref r), some (.ref wl), c6, c7, c8] ∧ SrchK H' H2 r wl found waiting ∧ Dfs (nexts l) [i] found waiting ∧ m' + loadOf (nexts l) found = waiting.length + l.length ∧ found.length + m' ≤ [i].length + l.length, fun σ2 H2 q => q, ?_⟩
      have sr4 := sr.go e4
      have lb : loadOf (nexts l) found ≤ l.length := load_bound (fun p : Spot => p.1) l _ (fun s => nexts_le l s) df.nd
      refine ⟨_, rfl, .inl ⟨rfl, _, .of sr4.hw⟩, wl, _, iv s, rfl, rfl, sr4.hw, by simp, ?_⟩
      have edl : ((w' ++ [s]).map iv).dropLast = w'.map iv := by rw [List.map_append]; exact List.dropLast_concat
      rw [edl]
      have sr5 : SrchK H' (upd H4 wl (.lst (w'.map iv))) r wl found w' := ⟨Ex.mut sr4.ex sr4.nw, sr4.nf, sr4.nw, sr4.ne, by rw [upd_ne sr4.ne]; exact sr4.hf, upd_same⟩
      generalize upd H4 wl (.lst (w'.map iv)) = H5 at sr5
      refine s_if (b := !decide (s ∈ found)) (et_B (ev_notInK (n := s) (ev_var rfl) (ev_var rfl) sr5.hf)) (fun hc H6 e6 => ?_) (fun hc H6 e6 => ?_)
      · have hc' : s ∉ found := by simpa using hc
        have df2 := df.new hc'
        have lb2 : loadOf (nexts l) (found ++ [s]) ≤ l.length := load_bound (fun p : Spot => p.1) l _ (fun s => nexts_le l s) df2.nd
        obtain ⟨m1, m2, m3, m4⟩ := dfs_step df hc' hm lb2 hm2
        have sr6 := sr5.go e6
        refine q_dput ⟨_, rfl, _, rfl, r, _, rfl, DPut.k (k := Sum.inl (s : Int)) sr6.hf (by rw [keysK_len]; exact lt6 (by simp at hm2; omega)), ?_⟩
        rw [keysK_new hc']
        have sr7 : SrchK H' (upd H6 r (.dK (keysK (found ++ [s])))) r wl (found ++ [s]) w' := ⟨Ex.mut sr6.ex sr6.nf, sr6.nf, sr6.nw, sr6.ne, upd_same, by rw [upd_ne (Ne.symm sr6.ne)]; exact sr6.hw⟩
        generalize upd H6 r (.dK (keysK (found ++ [s]))) = H7 at sr7
        have o7 : Own NatAt H' H7 wl w' := ⟨sr7.ex, sr7.nw, _, sr7.hw, nats_paired _ _⟩
        have ex7 := ex.trans sr7.ex
        refine ⟨_, rfl, .inl ⟨rfl, _, .of sr7.hw⟩, ?_⟩
        refine (el_filter (R := SpotAt) (R' := NatAt) tm_spot tm_nat (fun p => p.1 == s) (fun p => p.2) (fun H8 e8 Q q => ⟨_, rfl, q pa H8 (Ex.refl _) ⟨xs, e8 _ _ (ex7 _ _ hx), pm tm_spot (ex_tups (ex7.trans e8)) px⟩⟩) (by omega) (fun y z H8 Q1 N1 hy _ e8 q1 q2 => ?_)) H7 (Ex.refl _) _ fun p8 H8 e8 _ ⟨ys, hys, pys⟩ => ?_
        · obtain ⟨pz, rfl, hpz⟩ := hy
          refine ⟨pz, _, rfl, .of hpz, rfl, _, _, rfl, _, _, rfl, rfl, rfl, _, rfl, _, rfl, rfl, _, rfl, ?_⟩
          by_cases cz : z.1 = s
          · have e : decide (iv z.1 = iv s) = true := decide_eq_true (by rw [cz])
            rw [e]
            exact iteT ⟨_, rfl, q1 (by simp [cz]) _ H8 (Ex.refl _) rfl⟩
          · have e : decide (iv z.1 = iv s) = false := decide_eq_false (fun q => cz (by injection q with q; omega))
            rw [e]
            exact iteF (q2 (by simp [cz]) H8 (Ex.refl _))
        · have eys := nats_of pys
          subst eys
          have sr8 := sr7.go e8
          have hwl8 : (w'.map iv).length + ((((l.filter fun p => p.1 == s).map fun p => p.2)).map iv).length ≤ 1000000 := by
            have : (nexts l s).length = (((l.filter fun p => p.1 == s).map fun p => p.2)).length := rfl
            rw [List.length_append] at m3
            rw [List.length_map, List.length_map]
            simp at hm2
            omega
          refine ⟨wl, p8, _, _, rfl, rfl, sr8.hw, hys, sz6 hwl8, m - 1, by omega, found ++ [s], w' ++ nexts l s, _, _, _, rfl, ⟨Ex.mut sr8.ex sr8.nw, sr8.nf, sr8.nw, sr8.ne, by rw [upd_ne sr8.ne]; exact sr8.hf, ?_⟩, df2, m1, m2⟩
          rw [upd_same, List.map_append]
          rfl
      · have hc' : s ∈ found := by simpa using hc
        rw [List.length_append, List.length_cons, List.length_nil] at hm
        exact ⟨m - 1, by omega, found, w', _, _, _, rfl, sr5.go e6, df.old hc', by omega, by omega⟩
    · have he : waiting = [] := by cases waiting with | nil => rfl | cons a r => simp at hb
      subst he
      have sr4 := sr.go e4
      have hd4 := (sr4.ex) _ _ hk
      have rd : r ≠ d := fun z => by rw [z, hk] at hr; cases hr
      have nat : NatD H4 r (Star (nexts l) i) := ⟨found, sr4.hf, fun s => by
        rw [df.done s]
        exact ⟨fun ⟨a, ha, q⟩ => by
          have : a = i := by simpa using ha
          rw [this] at q
          exact q, fun q => ⟨i, by simp, q⟩⟩⟩
      have hlen := length_putK kvs (Sum.inl (i : Int) : Key) (V.ref r)
      refine ⟨_, rfl, _, rfl, _, rfl, d, _, rfl, DPut.k (k := Sum.inl (i : Int)) hd4 (lt6 (by omega)), ⟨_, _, _, _, _, _, rfl⟩, Ex.mut (ex.trans sr4.ex) hd, _, upd_same, by omega, fun j hj => ?_⟩
      have kp : ∀ q T, q ≠ d → NatD H4 q T → NatD (upd H4 d (.dK (putK kvs (Sum.inl (i : Int)) (.ref r)))) q T := fun q T hq ⟨c, c1, c2⟩ => ⟨c, by rw [upd_ne hq]; exact c1, c2⟩
      by_cases cj : j = i
      · subst cj
        exact ⟨r, rd, by rw [valV_put, if_pos rfl], kp _ _ rd nat⟩
      · obtain ⟨q, q1, q2, q3⟩ := hall j (by omega)
        refine ⟨q, q1, ?_, kp _ _ q1 (q3.ex sr4.ex)⟩
        rw [valV_put, if_neg (fun z => cj (by injection z with z; omega))]
        exact q2
  · obtain ⟨⟨c3, c4, c5, c6, c7, c8, rfl⟩, ex, kvs, hk, hkl, hall⟩ := q
    rw [Int.toNat_natCast] at hall
    exact ⟨_, rfl, k H' d ex hd ⟨kvs, hk, fun i hi => let ⟨r, _, h2, h3⟩ := hall i hi; ⟨r, h2, h3⟩⟩⟩
end
end Tw

/-! # Readings: answers without end, the rest -/
namespace Tw
open PySem PySem.Spec PyProof.Rows L2 Evl TW
section
variable {G : Gs} {mg : Str → Option Value} {vs : List V} {H H' H0 : Hp} {Q : VK} {E : XK} {K : PySem.W.Frag} {σ : L2.St}
theorem q_seq {t u : TS} {D : Ends} (h : t { D with nx := u D } σ H) : tSeq t u D σ H := h
/-- the others of what is written -/
theorem el_others (T : Txt G mg) {ta tv : TE} {t : Addr} {M : PM} {x : List Int} {v : V} {s : Spot} {i j : Nat} (h : TurnAt G H t M x) (ha : Ev ta σ H (.ref t)) (hv : Ev tv σ H v) (hs : SpotAt H v s)
    (hi : ∀ x y : V, ((((wipe σ [i, j]).set i (some x)).set j (some y))[j]? = some (some y)) ∧ wipe (((wipe σ [i, j]).set i (some x)).set j (some y)) [i, j] = wipe σ [i, j]) :
    EL SpotAt (tLc (iList G.K (tDGet2 (tFld G.K ta "writing") tv (tLst tNil))) (gTup G.K 2 (gCons (gName i) (gCons (gName j) gNil))) tYes (tVar j) [i, j]) σ H ((wri (notes M x) s).map fun p => p.2) := by
  have hN : (notes M x).length ≤ 5100 := notes_len h.1.al h.2.1
  have hw := wri_all (notes M x) s
  refine (el_map (R := WrAt) (R' := SpotAt) tm_wr tm_spot (fun p => p.2) (el_wri T h ha hv hs) (by omega) (fun y z H4 Q1 N1 hy _ e4 q1 => ?_)).el
  obtain ⟨pa, qa, rfl, h1, h2⟩ := hy
  refine ⟨pa, _, rfl, .of h1, rfl, _, _, rfl, _, _, rfl, rfl, (hi _ _).2, iteT ⟨_, (hi _ _).1, q1 _ H4 (Ex.refl _) ⟨qa, rfl, h2⟩⟩⟩
theorem pure_reached_spots (T : Txt G mg) (h : sp_reached_spots G vs H Q E) : t_reached_spots G (endsOf Q) (start n_reached_spots vs) H := by
  obtain ⟨t, M, x, rfl, ht, k⟩ := h
  have hN : (notes M x).length ≤ 5100 := notes_len ht.1.al ht.2.1
  refine q_newT fun fd H1 hfd e1 hf1 => ?_
  refine q_asgE (el_disp (R := SpotAt) (l := [(0, 0)]) tm_spot (eas_cons tm_spot (eu_spot (i := 0) (j := 0) ev_c ev_c) eas_nil) (by simp)) fun wl H2 e2 hwl l2 => ?_
  have hw0 : H wl = none := fresh_back e1 hwl
  have hne : fd ≠ wl := ne_of_none hf1 hwl
  have s0 : Srch H H2 fd wl [] [(0, 0)] := ⟨e1.trans e2, hfd, hw0, hne, e2 _ _ hf1, l2⟩
  refine q_while (fun n σ' H' => ∃ found waiting c3 c4 c5, σ' = [some (.ref t), some (.ref fd), some (.ref wl), c3, c4, c5] ∧ Srch H H' fd wl found waiting ∧ Dfs (both (notes M x)) [(0, 0)] found waiting ∧ n + loadOf (both (notes M x)) found = waiting.length + (notes M x).length ∧ found.length + n ≤ 1 + (notes M x).length)
    (1 + (notes M x).length) ⟨[], [(0, 0)], _, _, _, rfl, s0, Dfs.start, by simp [loadOf], by simp⟩ fun n σ' H' hw => ?_
  obtain ⟨found, waiting, c3, c4, c5, rfl, sr, df, hn, hm⟩ := hw
  refine ⟨!waiting.isEmpty, et_test (ev_neNil (R := SpotAt) (el_var tm_spot rfl sr.hw)), fun hb H3 e => ?_, fun hb H3 e => ?_⟩
  · have hne2 : waiting ≠ [] := by intro z; rw [z] at hb; simp at hb
    obtain ⟨w', s, rfl⟩ := pop_last hne2
    refine ⟨fun σ2 H2 => ∃ n', n' < n ∧ ∃ found waiting c3 c4 c5, σ2 = [some (.ref t), some (.ref fd), some (.ref wl), c3, c4, c5] ∧ Srch H H2 fd wl found waiting ∧ Dfs (both (notes M x)) [(0, 0)] found waiting ∧ n' + loadOf (both (notes M x)) found = waiting.length + (notes M x).length ∧ found.length + n' ≤ 1 + (notes M x).length, fun σ2 H2 q => q, ?_⟩
    refine srch_pop (sr.go e) (fun Q q => ⟨_, rfl, q⟩) fun H4 v sr2 hs => ?_
    refine s_if (b := !decide (s ∈ found)) (et_B (ev_notIn (ev_var rfl) (ev_var rfl) hs sr2.hf)) (fun hc H5 e5 => ?_) (fun hc H5 e5 => ?_)
    · have hc' : s ∉ found := by simpa using hc
      have df2 := df.new hc'
      have lb2 : loadOf (both (notes M x)) (found ++ [s]) ≤ (notes M x).length := load_bound (fun n : Note => n.1) (notes M x) _ (fun s => both_le _ s) df2.nd
      obtain ⟨m1, m2, m3, m4⟩ := dfs_step df hc' hn lb2 hm
      rw [List.length_append] at m3
      have hsl : (sil (notes M x) s).length ≤ (both (notes M x) s).length := by unfold both; rw [List.length_append]; omega
      have hbl : (both (notes M x) s).length = (sil (notes M x) s).length + ((wri (notes M x) s).map fun p => p.2).length := by unfold both; rw [List.length_append]
      refine srch_put (sr2.go e5) (tm_spot _ _ _ _ (ex_tups e5) hs) hc' (by omega) (fun Q q => ⟨_, rfl, q⟩) (fun Q q => ⟨_, rfl, q⟩) fun H6 sr6 hs6 => ?_
      refine q_seq (srch_ext sr6 (ev_var rfl) (el_sil T (ht.ex sr6.ex) (ev_var rfl) (ev_var rfl) hs6) (by omega) fun H7 sr7 t7 => ?_)
      have hs7 := tm_spot _ _ _ _ t7 hs6
      refine srch_ext sr7 (ev_var rfl) (el_others T (ht.ex sr7.ex) (ev_var rfl) (ev_var rfl) hs7 fun _ _ => ⟨rfl, rfl⟩) (by rw [List.length_append]; omega) fun H8 sr8 _ => ?_
      refine ⟨n - 1, by omega, found ++ [s], w' ++ both (notes M x) s, _, _, _, rfl, ?_, df2, m1, m2⟩
      unfold both
      rw [← List.append_assoc]
      exact sr8
    · have hc' : s ∈ found := by simpa using hc
      have lb : loadOf (both (notes M x)) found ≤ (notes M x).length := load_bound (fun n : Note => n.1) (notes M x) _ (fun s => both_le _ s) df.nd
      rw [List.length_append, List.length_cons, List.length_nil] at hn
      exact ⟨n - 1, by omega, found, w', _, _, _, rfl, sr2.go e5, df.old hc', by omega, by omega⟩
  · have he : waiting = [] := by cases waiting with | nil => rfl | cons a r => simp at hb
    subst he
    refine ⟨_, rfl, k H3 fd (sr.ex.trans e) hfd ⟨found, e _ _ sr.hf, by omega, fun s => ?_⟩⟩
    rw [df.done s]
    exact ⟨fun ⟨a, ha, q⟩ => by
      have : a = (0, 0) := by simpa using ha
      rw [this] at q
      exact q, fun q => ⟨_, List.mem_cons_self .., q⟩⟩
theorem pure_leads_to_end (T : Txt G mg) (h : sp_leads_to_end G vs H Q E) : t_leads_to_end G (endsOf Q) (start n_leads_to_end vs) H := by
  obtain ⟨t, v0, M, x, s0', rfl, ht, hs0, k⟩ := h
  have hN : (notes M x).length ≤ 5100 := notes_len ht.1.al ht.2.1
  refine q_newT fun fd H1 hfd e1 hf1 => ?_
  refine q_asgE (el_disp (R := SpotAt) (l := [s0']) tm_spot (eas_cons tm_spot (eu_ref (ev_var rfl) (tm_spot _ _ _ _ (ex_tups e1) hs0)) eas_nil) (by simp)) fun wl H2 e2 hwl l2 => ?_
  have hw0 : H wl = none := fresh_back e1 hwl
  have hne : fd ≠ wl := ne_of_none hf1 hwl
  have s0 : Srch H H2 fd wl [] [s0'] := ⟨e1.trans e2, hfd, hw0, hne, e2 _ _ hf1, l2⟩
  refine q_while (fun n σ' H' => ∃ found waiting c3 c4 c5, σ' = [some (.ref t), some v0, some (.ref fd), some (.ref wl), c3, c4, c5] ∧ Srch H H' fd wl found waiting ∧ Dfs (both (notes M x)) [s0'] found waiting ∧ n + loadOf (both (notes M x)) found = waiting.length + (notes M x).length ∧ found.length + n ≤ 1 + (notes M x).length ∧ ∀ u ∈ found, isEnd M x u = false)
    (1 + (notes M x).length) ⟨[], [s0'], _, _, _, rfl, s0, Dfs.start, by simp [loadOf], by simp, fun u hu => by cases hu⟩ fun n σ' H' hw => ?_
  obtain ⟨found, waiting, c3, c4, c5, rfl, sr, df, hn, hm, hno⟩ := hw
  refine ⟨!waiting.isEmpty, et_test (ev_neNil (R := SpotAt) (el_var tm_spot rfl sr.hw)), fun hb H3 e => ?_, fun hb H3 e => ?_⟩
  · have hne2 : waiting ≠ [] := by intro z; rw [z] at hb; simp at hb
    obtain ⟨w', s, rfl⟩ := pop_last hne2
    refine ⟨fun σ2 H2 => ∃ n', n' < n ∧ ∃ found waiting c3 c4 c5, σ2 = [some (.ref t), some v0, some (.ref fd), some (.ref wl), c3, c4, c5] ∧ Srch H H2 fd wl found waiting ∧ Dfs (both (notes M x)) [s0'] found waiting ∧ n' + loadOf (both (notes M x)) found = waiting.length + (notes M x).length ∧ found.length + n' ≤ 1 + (notes M x).length ∧ ∀ u ∈ found, isEnd M x u = false, fun σ2 H2 q => q, ?_⟩
    have reach : ∃ a ∈ [s0'], Star (both (notes M x)) a s := df.reach s (.inr (by simp))
    refine srch_pop (sr.go e) (fun Q q => ⟨_, rfl, q⟩) fun H4 v sr2 hs => ?_
    have tt := ht.ex sr2.ex
    refine q_seq (D := ?_) ?_
    refine meth_t tt (fun Q q => ⟨_, rfl, q⟩) (fun _ _ _ _ => rfl) ?_
    refine ⟨_, rfl, t, v, M, x, s, rfl, tt, hs, _, rfl, ?_⟩
    by_cases ce : isEnd M x s = true
    · rw [ce]
      refine iteT ?_
      obtain ⟨a, ha, q⟩ := reach
      have : a = s0' := by simpa using ha
      rw [this] at q
      exact k H4 true sr2.ex ⟨fun _ => ⟨s, q, ce⟩, fun _ => rfl⟩
    · have ce' : isEnd M x s = false := by simpa using ce
      rw [ce']
      refine iteF ?_
      refine s_if (b := !decide (s ∈ found)) (et_B (ev_notIn (ev_var rfl) (ev_var rfl) hs sr2.hf)) (fun hc H5 e5 => ?_) (fun hc H5 e5 => ?_)
      · have hc' : s ∉ found := by simpa using hc
        have df2 := df.new hc'
        have lb2 : loadOf (both (notes M x)) (found ++ [s]) ≤ (notes M x).length := load_bound (fun n : Note => n.1) (notes M x) _ (fun s => both_le _ s) df2.nd
        obtain ⟨m1, m2, m3, m4⟩ := dfs_step df hc' hn lb2 hm
        rw [List.length_append] at m3
        have hbl : (both (notes M x) s).length = (sil (notes M x) s).length + ((wri (notes M x) s).map fun p => p.2).length := by unfold both; rw [List.length_append]
        refine srch_put (sr2.go e5) (tm_spot _ _ _ _ (ex_tups e5) hs) hc' (by omega) (fun Q q => ⟨_, rfl, q⟩) (fun Q q => ⟨_, rfl, q⟩) fun H6 sr6 hs6 => ?_
        refine q_seq (srch_ext sr6 (ev_var rfl) (el_sil T (ht.ex sr6.ex) (ev_var rfl) (ev_var rfl) hs6) (by omega) fun H7 sr7 t7 => ?_)
        have hs7 := tm_spot _ _ _ _ t7 hs6
        refine srch_ext sr7 (ev_var rfl) (el_others T (ht.ex sr7.ex) (ev_var rfl) (ev_var rfl) hs7 fun _ _ => ⟨rfl, rfl⟩) (by rw [List.length_append]; omega) fun H8 sr8 _ => ?_
        refine ⟨n - 1, by omega, found ++ [s], w' ++ both (notes M x) s, _, _, _, rfl, ?_, df2, m1, m2, fun u hu => ?_⟩
        · unfold both
          rw [← List.append_assoc]
          exact sr8
        · rcases List.mem_append.mp hu with hu | hu
          · exact hno u hu
          · have : u = s := by simpa using hu
            rw [this]
            exact ce'
      · have hc' : s ∈ found := by simpa using hc
        have lb : loadOf (both (notes M x)) found ≤ (notes M x).length := load_bound (fun n : Note => n.1) (notes M x) _ (fun s => both_le _ s) df.nd
        rw [List.length_append, List.length_cons, List.length_nil] at hn
        exact ⟨n - 1, by omega, found, w', _, _, _, rfl, sr2.go e5, df.old hc', by omega, by omega, hno⟩
  · have he : waiting = [] := by cases waiting with | nil => rfl | cons a r => simp at hb
    subst he
    refine k H3 false (sr.ex.trans e) ⟨fun z => (nomatch z), fun ⟨u, q, hu⟩ => ?_⟩
    have hm : u ∈ found := (df.done u).mpr ⟨s0', List.mem_cons_self .., q⟩
    rw [hno u hm] at hu
    exact hu
theorem keysK_old {n : Nat} {l : List Nat} (h : n ∈ l) : putK (keysK l) (Sum.inl (n : Int)) (.bl true) = keysK l := by
  unfold putK
  have e : ((keysK l).any fun kv => decide (kv.1 = (Sum.inl (n : Int) : Key))) = true := by
    rw [valV_any, valV_keysK, if_pos h]
    rfl
  rw [if_pos e]
  unfold keysK
  rw [List.map_map]
  apply List.map_congr_left
  intro a _
  show (if (Sum.inl (a : Int) : Key) = Sum.inl (n : Int) then ((Sum.inl (a : Int) : Key), V.bl true) else (Sum.inl (a : Int), V.bl true)) = (Sum.inl (a : Int), V.bl true)
  split <;> rfl
theorem pure_circling_states (T : Txt G mg) (h : sp_circling_states G vs H Q E) : t_circling_states G (endsOf Q) (start n_circling_states vs) H := by
  obtain ⟨m, M, rfl, hm, ok, k⟩ := h
  have la := ok.al
  obtain ⟨dm, f, r, hm1, hm2, hm3⟩ := id hm
  refine q_asgE (el_filter (R := ArcAt) (R' := SpotAt) tm_arc tm_spot (fun a => a.rd == -1) (fun a => (a.src, a.dst)) (el_arcs T (ev_var rfl) hm) (by omega) (fun y z H4 Q1 N1 hy _ e4 q1 q2 => ?_)) fun pp H1 e1 hpp lp => ?_
  · obtain ⟨pa, rfl, hpa⟩ := hy
    refine ⟨pa, _, rfl, .of hpa, rfl, _, _, rfl, _, _, rfl, _, _, rfl, _, _, rfl, rfl, rfl, _, rfl, rfl, _, rfl, ?_⟩
    by_cases c : z.rd = -1
    · have e : decide (V.int z.rd = V.int (-1)) = true := decide_eq_true (by rw [c])
      rw [e]
      exact iteT (eu_spot (ev_var rfl) (ev_var rfl) H4 (Ex.refl _) _ fun v H5 e5 rv => q1 (by simp [c]) v H5 e5 rv)
    · have e : decide (V.int z.rd = V.int (-1)) = false := decide_eq_false (fun q => c (by injection q))
      rw [e]
      exact iteF (q2 (by simp [c]) H4 (Ex.refl _))
  have hlp : (stillPairs M).length ≤ 300 := by
    unfold stillPairs
    rw [List.length_map]
    have := List.length_filter_le (fun a : PArc => a.rd == -1) M.arcs
    omega
  refine ⟨_, rfl, ?_⟩
  refine ev_states T (ev_var rfl) (hm.ex e1) H1 (Ex.refl _) _ fun H2 e2 => ?_
  refine ⟨pp, M.states, stillPairs M, rfl, lp.ex tm_spot e2, hlp, ok.s2, fun H3 dr e3 ndr re => ?_⟩
  have e13 := e1.trans (e2.trans e3)
  refine q_newK fun d H4 hd e4 hd4 => ?_
  have e14 := e13.trans e4
  have d0 : H d = none := fresh_back e13 hd
  obtain ⟨kvs, hk, hall⟩ := re
  refine q_forK (R := ArcAt) tm_arc hm3 (ev_fldM T (ev_var rfl) (e14 _ _ hm1) T.n_arcs rfl)
    (fun i σ' H' => (∃ c1 c2 c3 c4, σ' = [some (.ref m), c1, c2, c3, c4, some (.ref pp), some (.ref dr), some (.ref d)]) ∧ Ex H H' ∧ Ex H3 H' ∧ ∃ l, H' d = some (.dK (keysK l)) ∧ l.length ≤ i ∧ ∀ s, s ∈ l ↔ ∃ a ∈ M.arcs.take i, a.rd = -1 ∧ a.wr ≠ -1 ∧ a.src = s ∧ Star (nexts (stillPairs M)) a.dst s)
    (fun H5 e5 => ⟨⟨_, _, _, _, rfl⟩, e14.trans e5, e4.trans e5, [], e5 _ _ hd4, Nat.le_refl _, fun s => by simp⟩) (fun i σ' H' q => q.2.1) (fun i a v σ' H' hi ra q => ?_) fun σ' H' q => ?_
  · obtain ⟨⟨c1, c2, c3, c4, rfl⟩, ex, ex3, l, hl, hlen, hmem⟩ := q
    obtain ⟨pa, rfl, hpa⟩ := ra
    refine ⟨pa, _, rfl, .of hpa, rfl, _, _, rfl, _, _, rfl, _, _, rfl, _, _, rfl, rfl, ?_⟩
    have ha := List.mem_of_getElem? hi
    obtain ⟨q, hq1, c, hq2, hq3⟩ := hall a.dst (ok.dst a ha)
    have step : ∀ s, (∃ b ∈ M.arcs.take (i + 1), b.rd = -1 ∧ b.wr ≠ -1 ∧ b.src = s ∧ Star (nexts (stillPairs M)) b.dst s) ↔ (s ∈ l ∨ (a.rd = -1 ∧ a.wr ≠ -1 ∧ a.src = s ∧ Star (nexts (stillPairs M)) a.dst s)) := fun s => by
      rw [take_more hi, hmem s]
      constructor
      · rintro ⟨b, hb, r⟩
        rcases List.mem_append.mp hb with hb | hb
        · exact .inl ⟨b, hb, r⟩
        · have : b = a := by simpa using hb
          rw [this] at r
          exact .inr r
      · rintro (⟨b, hb, r⟩ | r)
        · exact ⟨b, List.mem_append_left _ hb, r⟩
        · exact ⟨a, by simp, r⟩
    refine s_if (b := decide (a.rd = -1) && (decide (a.wr ≠ -1) && decide (a.src ∈ c))) (et_and (et_test (ev_is (ev_op (ev_var rfl) ev_c (rv_eq rfl)) ?_)) fun _ => et_and (et_test (ev_is (ev_op (ev_var rfl) ev_c (rv_ne rfl)) ?_)) fun _ => et_B (ev_inK (d := q) (l := c) (n := a.src) (ev_var rfl) (fun H5 e5 Q qq => ?_) (ex3 _ _ hq2))) (fun hb H5 e5 => ?_) (fun hb H5 e5 => ?_)
    · show V.bl (decide (V.int a.rd = V.int (-1))) = _
      by_cases c : a.rd = -1 <;> simp [c]
    · show V.bl (!decide (V.int a.wr = V.int (-1))) = _
      by_cases c : a.wr = -1 <;> simp [c]
    · refine ⟨_, rfl, _, rfl, dr, _, rfl, .inl ⟨kvs, Sum.inl (a.dst : Int), .inl (e5 _ _ (ex3 _ _ hk)), rfl, hq1.symm⟩, qq H5 (Ex.refl _)⟩
    · simp at hb
      have good : a.rd = -1 ∧ a.wr ≠ -1 ∧ a.src = a.src ∧ Star (nexts (stillPairs M)) a.dst a.src := ⟨hb.1, hb.2.1, rfl, (hq3 _).mp hb.2.2⟩
      have hi300 := take_len hi
      refine ⟨_, rfl, _, rfl, d, _, rfl, DPut.k (k := Sum.inl (a.src : Int)) (e5 _ _ hl) (by rw [keysK_len]; exact lt6 (by omega)), ⟨_, _, _, _, rfl⟩, Ex.mut (ex.trans e5) d0, Ex.mut (ex3.trans e5) hd, ?_⟩
      by_cases cm : a.src ∈ l
      · refine ⟨l, by rw [keysK_old cm]; exact upd_same, by omega, fun s => ?_⟩
        rw [step s]
        exact ⟨.inl, fun z => z.elim (fun z => z) fun z => by rw [← z.2.2.1]; exact cm⟩
      · refine ⟨l ++ [a.src], by rw [keysK_new cm]; exact upd_same, by rw [List.length_append, List.length_cons, List.length_nil]; omega, fun s => ?_⟩
        rw [step s, List.mem_append, List.mem_singleton]
        constructor
        · rintro (z | z)
          · exact .inl z
          · rw [z]; exact .inr good
        · rintro (z | z)
          · exact .inl z
          · exact .inr z.2.2.1.symm
    · refine ⟨⟨_, _, _, _, rfl⟩, ex.trans e5, ex3.trans e5, l, e5 _ _ hl, by omega, fun s => ?_⟩
      rw [step s]
      refine ⟨.inl, fun z => z.elim (fun z => z) fun ⟨z1, z2, z3, z4⟩ => ?_⟩
      exfalso
      have : a.src ∈ c := (hq3 _).mpr (by rw [z3]; exact z4)
      simp [z1, z2, this] at hb
  · obtain ⟨⟨c1, c2, c3, c4, rfl⟩, ex, ex3, l, hl, hlen, hmem⟩ := q
    rw [List.take_length] at hmem
    exact ⟨_, rfl, k H' d ex d0 ⟨l, hl, fun s => hmem s⟩⟩
theorem ev_spotB {te : TE} {v : V} {s : Spot} (h : Ev te σ H v) (hs : SpotAt H v s) : Ev (tOp (rIxT K) te (tC (.int 1))) σ H (iv s.2) := by
  obtain ⟨p, rfl, hp⟩ := hs
  exact ev_op h ev_c (rv_ixT (.of hp) rfl)
theorem pure_is_endless (T : Txt G mg) (h : sp_is_endless G vs H Q E) : t_is_endless G (endsOf Q) (start n_is_endless vs) H := by
  obtain ⟨m, w, M, x, rfl, hm, hw, ok, hx, k⟩ := h
  refine q_seq (mk_turn (ev_var rfl) (ev_var rfl) hm hw ok hx fun H1 t e1 nt tt => ?_)
  refine q_seq ⟨_, rfl, m, M, rfl, hm.ex e1, ok, fun H2 dc e2 ndc nat => ?_⟩
  have e12 := e1.trans e2
  refine q_seq ⟨_, rfl, t, M, x, rfl, tt.ex e2, fun H3 d e3 nd kn => ?_⟩
  have e13 := e12.trans e3
  have d0 : H d = none := fresh_back e12 nd
  obtain ⟨c, hd, hc, hmem⟩ := kn
  refine ⟨d, _, rfl, hd, True.intro, fun od => ⟨d, od, rfl, .inr ⟨keysT c, upd_same, ?_⟩⟩⟩
  have hb0 : Ex H (upd H3 d (.frz od (.dT (keysT c)))) := Ex.mut e13 d0
  have hb2 : Ex H2 (upd H3 d (.frz od (.dT (keysT c)))) := Ex.mut e3 nd
  have hbd : upd H3 d (.frz od (.dT (keysT c))) d = some (.frz od (.dT (keysT c))) := upd_same
  generalize upd H3 d (.frz od (.dT (keysT c))) = H4 at hb0 hb2 hbd
  obtain ⟨cl, hcd, hcm⟩ := nat
  refine for_keysT (fun i σ' H' => (∃ c4, σ' = [some (.ref m), some (.ref w), some (.ref t), some (.ref dc), c4]) ∧ Ex H4 H' ∧ ∀ s ∈ c.take i, ¬ (Circling M s.2 ∧ ∃ u, Star (both (notes M x)) s u ∧ isEnd M x u = true))
    ⟨⟨_, rfl⟩, Ex.refl _, fun s hs => by simp at hs⟩ (fun i σ' H' q => q.2.1 _ _ hbd) (fun i k1 v q σ' H' hi hq p => ?_) fun σ' H' p => ?_
  · obtain ⟨⟨c4, rfl⟩, ex, no⟩ := p
    unfold keysT at hi
    rw [List.getElem?_map] at hi
    obtain ⟨s, hs, e⟩ := Option.map_eq_some_iff.mp hi
    injection e with e e'
    subst e
    have sp : SpotAt H' (.ref q) s := key_spot hq
    have ex2 := hb2.trans ex
    have tt' := tt.ex (e2.trans ex2)
    have post : ∀ b : Bool, (b = true ↔ (Circling M s.2 ∧ ∃ u, Star (both (notes M x)) s u ∧ isEnd M x u = true)) → ∀ H5, Ex H' H5 → (if b = true then tRet (tC (.bl true)) { nx := fun σ' H' => (∃ c4, σ' = [some (.ref m), some (.ref w), some (.ref t), some (.ref dc), c4]) ∧ Ex H4 H' ∧ ∀ s ∈ c.take (i + 1), ¬ (Circling M s.2 ∧ ∃ u, Star (both (notes M x)) s u ∧ isEnd M x u = true), rt := Q } [some (.ref m), some (.ref w), some (.ref t), some (.ref dc), some (.ref q)] H5 else (∃ c4, ([some (.ref m), some (.ref w), some (.ref t), some (.ref dc), some (.ref q)] : L2.St) = [some (.ref m), some (.ref w), some (.ref t), some (.ref dc), c4]) ∧ Ex H4 H5 ∧ ∀ s ∈ c.take (i + 1), ¬ (Circling M s.2 ∧ ∃ u, Star (both (notes M x)) s u ∧ isEnd M x u = true)) := fun b hb H5 e5 => by
      by_cases cb : b = true
      · rw [if_pos cb]
        obtain ⟨q1, u, q2, q3⟩ := hb.mp cb
        have hsm : s ∈ c := List.mem_of_getElem? hs
        exact k H5 true ((hb0.trans ex).trans e5) ⟨fun _ => ⟨s, (hmem s).mp hsm, q1, u, q2, q3⟩, fun _ => rfl⟩
      · rw [if_neg cb]
        refine ⟨⟨_, rfl⟩, ex.trans e5, fun u hu => ?_⟩
        rw [take_more hs] at hu
        rcases List.mem_append.mp hu with hu | hu
        · exact no u hu
        · have : u = s := by simpa using hu
          rw [this]
          exact fun z => cb (hb.mpr z)
    refine (et_B (ev_inK (d := dc) (l := cl) (n := s.2) (ev_spotB (K := G.K) (ev_var (i := 4) rfl) sp) (ev_var rfl) (ex2 _ _ hcd))) H' (Ex.refl _) _ fun H5 e5 => ?_
    by_cases cc : s.2 ∈ cl
    · rw [decide_eq_true cc]
      refine iteT ⟨_, rfl, _, rfl, t, .ref q, M, x, s, rfl, tt'.ex e5, tm_spot _ _ _ _ (ex_tups e5) sp, fun H6 b e6 hb => ⟨b, rfl, ?_⟩⟩
      exact post b ⟨fun z => ⟨(hcm _).mp cc, hb.mp z⟩, fun z => hb.mpr z.2⟩ H6 (e5.trans e6)
    · rw [decide_eq_false cc]
      refine iteF ?_
      exact post false ⟨fun z => (nomatch z), fun z => (cc ((hcm _).mpr z.1)).elim⟩ H5 e5
  · obtain ⟨⟨c4, rfl⟩, ex, no⟩ := p
    rw [keysT_len, List.take_length] at no
    exact k H' false (hb0.trans ex) ⟨fun z => (nomatch z), fun ⟨s, h1, h2, h3⟩ => (no s ((hmem s).mpr h1) ⟨h2, h3⟩).elim⟩
end
end Tw

/-! # Readings: what is told; of two -/
namespace Tw
open PySem PySem.Spec PyProof.Rows L2 Evl TW
section
variable {G : Gs} {mg : Str → Option Value} {vs : List V} {H H' H0 : Hp} {Q : VK} {E : XK} {K : PySem.W.Frag} {σ : L2.St}
theorem at0 {α : Type} (x : α) (l : List α) : atI (x :: l) 0 = some x := atI_nat (xs := x :: l) (j := 0) rfl
theorem nx_go {D : Ends} (h : D.nx σ H) : tNext D σ H := h
theorem ret_call {sp : Sp} {dvs : List V} {E : XK} {ta : TA} {D : Ends} (h : ta σ H fun vs H1 => sp (vs ++ dvs) H1 D.rt E) : tRet (tCall sp dvs E ta) D σ H := h
theorem ev_neg {n : Int} : Ev (tUn (rU fun i => .int (-i)) (tC (.int n))) σ H (.int (-n)) := fun H1 e Q q => ⟨n, rfl, q H1 (Ex.refl _)⟩
theorem el_varI {i : Nat} {p : Addr} {l : List Int} (h : σ[i]? = some (some (.ref p))) (hl : IntL H p l) : EL IntAt (tVar i) σ H l := el_var tm_int h (of_intL hl)
theorem el_int1 {te : TE} {n : Int} (h : Ev te σ H (.int n)) : ELn IntAt (tLst (tCons te tNil)) σ H [n] := el_disp tm_int (eas_cons tm_int (eu_int h) eas_nil) (by simp)
theorem el_int2 {te tf : TE} {n m : Int} (h : Ev te σ H (.int n)) (h2 : Ev tf σ H (.int m)) : ELn IntAt (tLst (tCons te (tCons tf tNil))) σ H [n, m] := el_disp tm_int (eas_cons tm_int (eu_int h) (eas_cons tm_int (eu_int h2) eas_nil)) (by simp)
theorem pure_told (T : Txt G mg) (h : sp_told G vs H Q E) : t_told G (endsOf Q) (start n_told vs) H := by
  obtain ⟨n, r, t, row, text, rfl, hr, ht, z1, z2, k⟩ := h
  refine q_if (b := row.isEmpty && text.isEmpty) (et_and (et_test (ev_eqNil (R := IntAt) (el_varI rfl hr))) fun _ => et_test (ev_eqNil (R := IntAt) (el_varI rfl ht))) (fun hb H1 e1 => ?_) (fun hb H1 e1 => ?_)
  · have e : NLines.flat n row text = [n] := by
      simp at hb
      unfold NLines.flat
      rw [if_pos hb]
    rw [e] at k
    exact s_retE (el_int1 (ev_var rfl)) fun p H2 e2 hp hl => k _ p (e1.trans e2) (fresh_back e1 hp) (intL_of hl)
  · have e : NLines.flat n row text = (([n, (row.length : Int)] ++ row) ++ [(text.length : Int)]) ++ text := by
      unfold NLines.flat
      rw [if_neg (fun q => by simp [q.1, q.2] at hb)]
      simp
    rw [e] at k
    have hr' := e1 _ _ hr
    have ht' := e1 _ _ ht
    refine s_retE (el_cat tm_int (el_cat tm_int (el_cat tm_int (el_int2 (ev_var rfl) (ev_lenI (K := G.K) (ev_var rfl) hr')).el (el_varI rfl hr') ?_).el (el_int1 (ev_lenI (K := G.K) (ev_var rfl) ht')).el ?_).el (el_varI rfl ht') ?_) fun p H2 e2 hp hl => k _ p (e1.trans e2) (fresh_back e1 hp) (intL_of hl)
    · simp; omega
    · simp; omega
    · simp; omega
theorem pure_told_word (T : Txt G mg) (h : sp_told_word G vs H Q E) : t_told_word G (endsOf Q) (start n_told_word vs) H := by
  obtain ⟨p, ws, rfl, hw, hz, k⟩ := h
  refine q_if (b := ws.isEmpty) (et_test (ev_eqNil (R := WordAt) (fun H1 e Q q => ⟨_, rfl, q p H1 (Ex.refl _) (hw.ex e)⟩))) (fun hb H1 e1 => ?_) (fun hb H1 e1 => ?_)
  · have e : ws = [] := by simpa using hb
    subst e
    exact s_retE (el_int1 ev_neg) fun p H2 e2 hp hl => k _ p (e1.trans e2) (fresh_back e1 hp) (intL_of hl)
  · cases ws with
    | nil => simp at hb
    | cons w rest =>
      obtain ⟨vs, hv, pv⟩ := hw.ex e1
      cases pv with
      | cons r t =>
        obtain ⟨q, rfl, hq⟩ := r
        have hwd := hz w (List.mem_cons_self ..)
        have ix : ∀ H2, Ex H1 H2 → Ev (tOp (rIxL G.K) (tVar 0) (tC (.int 0))) (start n_told_word [V.ref p]) H2 (.ref q) := fun H2 e2 => ev_op (ev_var rfl) ev_c (rv_ixL (.of (e2 _ _ hv)) (at0 _ _))
        show tRet (tCall (sp_told G) [] E0 (tCons (tCB (rLenS G.K) (tCons (tOp (rIxL G.K) (tVar 0) (tC (.int 0))) tNil)) (tCons (tLst tNil) (tCons (tOp (rIxL G.K) (tVar 0) (tC (.int 0))) tNil)))) (endsOf Q) _ _
        refine ret_call ?_
        refine cons_go (ev_lenI (K := G.K) (ix H1 (Ex.refl _)) hq) fun H2 e2 => ?_
        refine cons_goE (el_nil tm_int).el fun z H3 e3 hz' => ?_
        refine cons_go (ix H3 (e2.trans e3)) fun H4 e4 => ?_
        refine ⟨w.length, z, q, [], w, rfl, e4 _ _ (intL_of hz'), e4 _ _ (e3 _ _ (e2 _ _ hq)), by simp, hwd, fun H5 p5 e5 n5 h5 => ?_⟩
        have e15 := e1.trans (e2.trans (e3.trans (e4.trans e5)))
        exact k H5 p5 e15 (fresh_back (e1.trans (e2.trans (e3.trans e4))) n5) h5
theorem pure_is_written (T : Txt G mg) (h : sp_is_written G vs H Q E) : t_is_written G (endsOf Q) (start n_is_written vs) H := by
  obtain ⟨n, rfl, k⟩ := h
  refine ⟨_, rfl, _, _, rfl, rfl, _, rfl, ?_⟩
  by_cases c : (-1 : Int) ≤ n
  · rw [decide_eq_true c] at k ⊢
    exact iteT ⟨_, _, rfl, rfl, k⟩
  · rw [decide_eq_false c] at k ⊢
    exact iteF k
theorem et_isI {ta : TE} {n m : Int} (h : Ev ta σ H (.int n)) : EvT (tTest (tOp rEq ta (tC (.int m)))) σ H (decide (n = m)) := et_is (et_test (ev_op h ev_c (rv_eq rfl))) (by
  by_cases c : n = m
  · rw [c]; simp
  · rw [decide_eq_false c, decide_eq_false (fun z => c (V.int.inj z))])
theorem pure_numbers_of_two (T : Txt G mg) (h : sp_numbers_of_two G vs H Q E) : t_numbers_of_two G (endsOf Q) (start n_numbers_of_two vs) H := by
  obtain ⟨w, a, b, A, B, rfl, ha, hb, oa, ob, k⟩ := h
  refine q_if (et_isI (ev_var rfl)) (fun c H1 e1 => ?_) (fun c H1 e1 => ?_)
  · have c := of_decide_eq_true c
    refine ⟨_, rfl, _, rfl, a, b, A, B, rfl, ha.ex e1, hb.ex e1, oa, ob, fun H' p e n hp => k H' p (e1.trans e) (fresh_back e1 n) ?_⟩
    unfold num1 num2
    rw [if_pos c, if_pos c]
    exact hp
  · have c := of_decide_eq_false c
    refine q_if (et_isI (ev_var rfl)) (fun d H2 e2 => ?_) (fun d H2 e2 => ?_)
    · have d := of_decide_eq_true d
      have e12 := e1.trans e2
      refine ⟨_, rfl, _, rfl, a, b, A, B, rfl, ha.ex e12, hb.ex e12, oa, ob, fun H' p e n hp => k H' p (e12.trans e) (fresh_back e12 n) ?_⟩
      unfold num1 num2
      rw [if_neg c, if_neg c, if_pos d, if_pos d]
      exact hp
    · have d := of_decide_eq_false d
      have e12 := e1.trans e2
      refine ⟨_, rfl, _, rfl, a, b, A, B, rfl, ha.ex e12, hb.ex e12, oa, ob, fun H' p e n hp => k H' p (e12.trans e) (fresh_back e12 n) ?_⟩
      unfold num1 num2
      rw [if_neg c, if_neg c, if_neg d, if_neg d]
      exact hp
theorem pure_made_of_two (T : Txt G mg) (h : sp_made_of_two G vs H Q E) : t_made_of_two G (endsOf Q) (start n_made_of_two vs) H := by
  obtain ⟨w, a, b, A, B, rfl, ha, hb, oa, ob, k⟩ := h
  refine q_if (et_isI (ev_var rfl)) (fun c H1 e1 => ?_) (fun c H1 e1 => ?_)
  · have c := of_decide_eq_true c
    refine ⟨_, rfl, _, rfl, a, b, A, B, rfl, ha.ex e1, hb.ex e1, oa, ob, fun H' p e n hp => k H' p (e1.trans e) (fresh_back e1 n) (MachNew.back ?_ e1)⟩
    unfold madeOf
    rw [if_pos c]
    exact hp
  · have c := of_decide_eq_false c
    refine q_if (et_isI (ev_var rfl)) (fun d H2 e2 => ?_) (fun d H2 e2 => ?_)
    · have d := of_decide_eq_true d
      have e12 := e1.trans e2
      refine ⟨_, rfl, _, rfl, a, b, A, B, rfl, ha.ex e12, hb.ex e12, oa, ob, fun H' p e n hp => k H' p (e12.trans e) (fresh_back e12 n) (MachNew.back ?_ e12)⟩
      unfold madeOf
      rw [if_neg c, if_pos d]
      exact hp
    · have d := of_decide_eq_false d
      have e12 := e1.trans e2
      refine ⟨_, rfl, _, rfl, a, b, A, B, rfl, ha.ex e12, hb.ex e12, oa, ob, fun H' p e n hp => k H' p (e12.trans e) (fresh_back e12 n) (MachNew.back ?_ e12)⟩
      unfold madeOf
      rw [if_neg c, if_neg d]
      exact hp
end
end Tw

/-! # Plain law: machines made -/
namespace Tw
open TW
theorem encB_inj {a b : Option UInt8} (h : encB a = encB b) : a = b := by
  cases a with
  | none => cases b with
    | none => rfl
    | some b => exfalso; unfold encB at h; simp only at h; omega
  | some a => cases b with
    | none => exfalso; unfold encB at h; simp only at h; omega
    | some b =>
      unfold encB at h
      simp only at h
      have : a.toNat = b.toNat := by omega
      exact congrArg some (UInt8.toNat_inj.mp this)
theorem encB_none {a : Option UInt8} : encB a = -1 ↔ a = none := ⟨fun h => encB_inj (b := none) h, fun h => by rw [h]; rfl⟩
theorem encB_some {a : Option UInt8} {c : UInt8} : encB a = (c.toNat : Int) ↔ a = some c := ⟨fun h => encB_inj (b := some c) h, fun h => by rw [h]; rfl⟩
theorem encB_lo (a : Option UInt8) : -1 ≤ encB a := by
  cases a with
  | none => exact Int.le_refl _
  | some a => unfold encB; simp only; omega
theorem encB_hi (a : Option UInt8) : encB a ≤ 255 := by
  cases a with
  | none => decide
  | some a => unfold encB; simp only; have := a.toNat_lt; omega
/-- lists of the same members -/
def Same {α : Type} (l m : List α) : Prop := ∀ x, x ∈ l ↔ x ∈ m
section
variable {α β : Type} {l m l' m' : List α}
theorem Same.refl (l : List α) : Same l l := fun _ => Iff.rfl
theorem Same.symm (h : Same l m) : Same m l := fun x => (h x).symm
theorem Same.trans (h : Same l m) (k : Same m l') : Same l l' := fun x => (h x).trans (k x)
theorem Same.app (h : Same l m) (k : Same l' m') : Same (l ++ l') (m ++ m') := fun x => by rw [List.mem_append, List.mem_append, h x, k x]
theorem Same.map (h : Same l m) (f : α → β) : Same (l.map f) (m.map f) := fun x => by
  rw [List.mem_map, List.mem_map]
  exact ⟨fun ⟨a, q, e⟩ => ⟨a, (h a).mp q, e⟩, fun ⟨a, q, e⟩ => ⟨a, (h a).mpr q, e⟩⟩
theorem Same.flat {f g : α → List β} (h : Same l m) (k : ∀ a ∈ l, Same (f a) (g a)) : Same (l.flatMap f) (m.flatMap g) := fun x => by
  rw [List.mem_flatMap, List.mem_flatMap]
  exact ⟨fun ⟨a, q, e⟩ => ⟨a, (h a).mp q, (k a q x).mp e⟩, fun ⟨a, q, e⟩ => ⟨a, (h a).mpr q, (k a ((h a).mpr q) x).mpr e⟩⟩
theorem Same.cons (a : α) (h : Same l m) : Same (a :: l) (a :: m) := fun x => by rw [List.mem_cons, List.mem_cons, h x]
theorem Same.filt (h : Same l m) (p : α → Bool) : Same (l.filter p) (m.filter p) := fun x => by rw [List.mem_filter, List.mem_filter, h x]
end
theorem MRel.same {M : PM} {A : Wm.Mach} (h : MRel M A) : Same (A.net.arcs.map encA) M.arcs := fun c => by
  rw [h.arcs c, List.mem_map]
theorem MRel.fins {M : PM} {A : Wm.Mach} (h : MRel M A) : Same A.net.finals M.finals := h.fin
theorem arcs_of {M : PM} {A : Wm.Mach} (h : Same (A.net.arcs.map encA) M.arcs) : ∀ c, c ∈ M.arcs ↔ ∃ a ∈ A.net.arcs, encA a = c := fun c => by
  rw [← h c, List.mem_map]
theorem enc_shift (k : Nat) (a : Wm.Arc) : encA (a.shift k) = (encA a).shift k := rfl
theorem map_shift (k : Nat) (l : List Wm.Arc) : (l.map (Wm.Arc.shift k)).map encA = (l.map encA).map (PArc.shift k) := by
  rw [List.map_map, List.map_map]
  rfl
theorem same_dups (l : List Nat) : Same l.eraseDups l := fun x => by
  rw [List.mem_eraseDups]
/-! ### kept -/
theorem law_fresh : MRel freshM (Wm.Mach.of Wm.fresh) ∧ freshM.Ok := by
  refine ⟨⟨rfl, fun f => Iff.rfl, fun c => ⟨fun h => (nomatch h), fun ⟨a, h, _⟩ => (nomatch h)⟩, rfl, rfl, rfl, fun _ => ⟨rfl, rfl⟩⟩, ?_⟩
  exact ⟨Nat.le_refl _, by decide, rfl, Nat.le_refl _, by decide, List.nodup_nil, fun f h => (nomatch h), fun f h => (nomatch h), fun f h => (nomatch h), fun f h => (nomatch h), fun f h => (nomatch h)⟩
theorem law_addState {M : PM} {A : Wm.Mach} (h : MRel M A) (ok : M.Ok) (hb : M.built = false) (hs : M.states < 24) : MRel M.addState (Wm.Mach.of { A.net with states := A.net.states + 1 }) ∧ M.addState.Ok := by
  obtain ⟨l1, l2⟩ := h.len hb
  refine ⟨⟨?_, h.fin, h.arcs, ?_, ?_, ?_, fun _ => ⟨l1, l2⟩⟩, ?_⟩
  · show A.net.states + 1 = M.states + 1
    rw [h.st]
  · show A.net.states + 1 = M.ts + 1
    rw [h.st, ok.ts]
  · show A.net.arcs.length = M.ta
    rw [l1, l2]
  · show true = !M.built
    rw [hb]
    rfl
  · refine ⟨by show 1 ≤ M.states + 1; omega, by show M.states + 1 ≤ 24; omega, by show M.ts + 1 = M.states + 1; rw [ok.ts], ok.a1, ok.a2, ok.nd, fun f q => ?_, fun f q => ?_, fun f q => ?_, ok.rd, ok.wr⟩
    · exact Nat.lt_succ_of_lt (ok.fin f q)
    · exact Nat.lt_succ_of_lt (ok.src f q)
    · exact Nat.lt_succ_of_lt (ok.dst f q)
theorem setFin_nodup {l : List Nat} (h : l.Nodup) (k : Nat) (b : Bool) : (setFin l k b).Nodup := by
  unfold setFin
  rw [List.nodup_append]
  refine ⟨h.filter _, by cases b <;> simp, fun x hx y hy e => ?_⟩
  have h1 : x ≠ k := by simpa using (List.mem_filter.mp hx).2
  have h2 : y = k := by cases b <;> simp at hy; exact hy
  exact h1 (e.trans h2)
theorem mem_setFin {l : List Nat} {k : Nat} {b : Bool} {x : Nat} : x ∈ setFin l k b ↔ (x ∈ l ∧ x ≠ k) ∨ (b = true ∧ x = k) := by
  unfold setFin
  rw [List.mem_append, List.mem_filter]
  cases b <;> simp
theorem law_setFinal {M : PM} {A : Wm.Mach} (h : MRel M A) (ok : M.Ok) (hb : M.built = false) {k y : Nat} (hk : k < M.states) :
    MRel (M.setFinal k (decide (y ≠ 0))) (Wm.Mach.of { A.net with finals := if y ≠ 0 then (if A.net.finals.contains k = true then A.net.finals else k :: A.net.finals) else A.net.finals.filter fun (j : Nat) => j != k }) ∧ (M.setFinal k (decide (y ≠ 0))).Ok := by
  obtain ⟨l1, l2⟩ := h.len hb
  refine ⟨⟨h.st, fun f => ?_, h.arcs, ?_, ?_, ?_, fun _ => ⟨l1, l2⟩⟩, ?_⟩
  · show f ∈ (if y ≠ 0 then (if A.net.finals.contains k = true then A.net.finals else k :: A.net.finals) else A.net.finals.filter fun (j : Nat) => j != k) ↔ f ∈ setFin M.finals k (decide (y ≠ 0))
    rw [mem_setFin, ← h.fin f]
    by_cases c : y = 0
    · rw [if_neg (by simp [c]), List.mem_filter]
      simp [c]
    · rw [if_pos c]
      simp only [ne_eq, c, not_false_eq_true, decide_true, true_and]
      by_cases d : A.net.finals.contains k = true
      · rw [if_pos d]
        have d' : k ∈ A.net.finals := by simpa using d
        constructor
        · intro q
          by_cases e : f = k
          · exact .inr e
          · exact .inl ⟨q, e⟩
        · rintro (q | q)
          · exact q.1
          · rw [q]; exact d'
      · rw [if_neg d, List.mem_cons]
        constructor
        · rintro (q | q)
          · exact .inr q
          · by_cases e : f = k
            · exact .inr e
            · exact .inl ⟨q, e⟩
        · rintro (q | q)
          · exact .inr q.1
          · exact .inl q
  · show A.net.states = M.ts
    rw [h.st, ok.ts]
  · show A.net.arcs.length = M.ta
    rw [l1, l2]
  · show true = !M.built
    rw [hb]
    rfl
  · refine ⟨ok.s1, ok.s2, ok.ts, ok.a1, ok.a2, setFin_nodup ok.nd _ _, fun f q => ?_, ok.src, ok.dst, ok.rd, ok.wr⟩
    have q : f ∈ setFin M.finals k (decide (y ≠ 0)) := q
    rw [mem_setFin] at q
    rcases q with q | q
    · exact ok.fin f q.1
    · rw [q.2]; exact hk
theorem markOf_ok {z : Int} : (Wm.markOf z).isSome = (decide (-1 ≤ z) && decide (z ≤ 255)) := by
  unfold Wm.markOf
  by_cases c : z = -1
  · rw [if_pos c, c]
    rfl
  · rw [if_neg c]
    by_cases d : 0 ≤ z ∧ z ≤ 255
    · rw [if_pos d]
      have h1 : (-1 : Int) ≤ z := by omega
      simp [h1, d.2]
    · rw [if_neg d]
      by_cases e : (-1 : Int) ≤ z
      · have : ¬ z ≤ 255 := by omega
        simp [this]
      · simp [e]
theorem markOf_enc {z : Int} {o : Option UInt8} (h : Wm.markOf z = some o) : encB o = z := by
  unfold Wm.markOf at h
  by_cases c : z = -1
  · rw [if_pos c] at h
    cases h
    rw [c]
    rfl
  · rw [if_neg c] at h
    by_cases d : 0 ≤ z ∧ z ≤ 255
    · rw [if_pos d] at h
      cases h
      show (((UInt8.ofNat z.toNat).toNat : Nat) : Int) = z
      rw [UInt8.toNat_ofNat']
      omega
    · rw [if_neg d] at h
      cases h
theorem law_addArc {M : PM} {A : Wm.Mach} (h : MRel M A) (ok : M.Ok) (hb : M.built = false) {a b : Nat} {r w : Int} {i o : Option UInt8} (hi : Wm.markOf r = some i) (ho : Wm.markOf w = some o) (ha : a < M.states) (hb2 : b < M.states) (hl : M.arcs.length < 300) :
    MRel (M.addArc (PArc.mk a r w b)) (Wm.Mach.of { A.net with arcs := A.net.arcs ++ [(Wm.Arc.mk a i o b)] }) ∧ (M.addArc (PArc.mk a r w b)).Ok := by
  obtain ⟨l1, l2⟩ := h.len hb
  have er := markOf_enc hi
  have ew := markOf_enc ho
  have ea : encA (Wm.Arc.mk a i o b) = (PArc.mk a r w b) := by unfold encA; rw [er, ew]
  refine ⟨⟨h.st, h.fin, arcs_of ?_, ?_, ?_, ?_, fun _ => ⟨?_, ?_⟩⟩, ?_⟩
  · show Same ((A.net.arcs ++ [(Wm.Arc.mk a i o b)]).map encA) (M.arcs ++ [(PArc.mk a r w b)])
    rw [List.map_append]
    refine h.same.app ?_
    rw [List.map_cons, List.map_nil, ea]
    exact .refl _
  · show A.net.states = M.ts
    rw [h.st, ok.ts]
  · show (A.net.arcs ++ [(Wm.Arc.mk a i o b)]).length = M.ta + 1
    rw [List.length_append, l1, l2]
    rfl
  · show true = !M.built
    rw [hb]
    rfl
  · show (A.net.arcs ++ [(Wm.Arc.mk a i o b)]).length = (M.arcs ++ [(PArc.mk a r w b)]).length
    rw [List.length_append, List.length_append, l1]
    rfl
  · show M.ta + 1 = (M.arcs ++ [(PArc.mk a r w b)]).length
    rw [List.length_append, l2]
    rfl
  · have al : ∀ P : PArc → Prop, (∀ c ∈ M.arcs, P c) → P (PArc.mk a r w b) → ∀ c ∈ M.arcs ++ [(PArc.mk a r w b)], P c := fun P p1 p2 c q => by
      rcases List.mem_append.mp q with q | q
      · exact p1 c q
      · have : c = (PArc.mk a r w b) := by simpa using q
        rw [this]
        exact p2
    refine ⟨ok.s1, ok.s2, ok.ts, ?_, ?_, ok.nd, ok.fin, al _ ok.src ha, al _ ok.dst hb2, al _ ok.rd ?_, al _ ok.wr ?_⟩
    · show (M.arcs ++ [(PArc.mk a r w b)]).length ≤ M.ta + 1
      rw [List.length_append, l2]
      exact Nat.le_refl _
    · show M.ta + 1 ≤ 300
      omega
    · show -1 ≤ r ∧ r ≤ 255
      rw [← er]
      exact ⟨encB_lo _, encB_hi _⟩
    · show -1 ≤ w ∧ w ≤ 255
      rw [← ew]
      exact ⟨encB_lo _, encB_hi _⟩
theorem law_turn {M : PM} {A : Wm.Mach} (h : MRel M A) (ok : M.Ok) : MRel M.turn A.turn ∧ M.turn.Ok := by
  have hs : Same (A.turn.net.arcs.map encA) M.turn.arcs := by
    show Same ((A.net.arcs.map fun (a : Wm.Arc) => (⟨a.src, a.writes, a.reads, a.dst⟩ : Wm.Arc)).map encA) (M.arcs.map PArc.turn)
    have := h.same.map PArc.turn
    rw [List.map_map] at this ⊢
    exact this
  refine ⟨⟨h.st, h.fin, arcs_of hs, h.ts, h.ta, h.op, fun hb => ?_⟩, ?_⟩
  · obtain ⟨l1, l2⟩ := h.len hb
    refine ⟨?_, ?_⟩
    · show (A.net.arcs.map _).length = (M.arcs.map _).length
      rw [List.length_map, List.length_map, l1]
    · show M.ta = (M.arcs.map _).length
      rw [List.length_map, l2]
  · have al : ∀ P : PArc → Prop, (∀ c ∈ M.arcs, P c.turn) → ∀ c ∈ M.arcs.map PArc.turn, P c := fun P p c q => by
      obtain ⟨b, hb, e⟩ := List.mem_map.mp q
      rw [← e]
      exact p b hb
    refine ⟨ok.s1, ok.s2, ok.ts, ?_, ok.a2, ok.nd, ok.fin, al _ ok.src, al _ ok.dst, al _ ok.wr, al _ ok.rd⟩
    show (M.arcs.map _).length ≤ M.ta
    rw [List.length_map]
    exact ok.a1
theorem nodup_mapN {f : Nat → Nat} (hf : ∀ a b, f a = f b → a = b) {l : List Nat} (h : l.Nodup) : (l.map f).Nodup := nodup_map hf h
theorem mem_shift {P : PArc → Prop} {l : List PArc} {k : Nat} (h : ∀ c ∈ l, P (c.shift k)) : ∀ c ∈ l.map (PArc.shift k), P c := fun c q => by
  obtain ⟨b, hb, e⟩ := List.mem_map.mp q
  rw [← e]
  exact h b hb
theorem mem_app {α : Type} {P : α → Prop} {l m : List α} (h : ∀ c ∈ l, P c) (k : ∀ c ∈ m, P c) : ∀ c ∈ l ++ m, P c := fun c q => (List.mem_append.mp q).elim (h c) (k c)
theorem mem_mapI {α β : Type} {P : β → Prop} {l : List α} {f : α → β} (h : ∀ c ∈ l, P (f c)) : ∀ c ∈ l.map f, P c := fun c q => by
  obtain ⟨b, hb, e⟩ := List.mem_map.mp q
  rw [← e]
  exact h b hb
theorem mem_two {α : Type} {P : α → Prop} {a b : α} (h : P a) (k : P b) : ∀ c ∈ [a, b], P c := fun c q => by
  rcases List.mem_cons.mp q with q | q
  · rw [q]; exact h
  · rcases List.mem_cons.mp q with q | q
    · rw [q]; exact k
    · cases q
theorem mem_one {α : Type} {P : α → Prop} {a : α} (h : P a) : ∀ c ∈ [a], P c := fun c q => by
  rcases List.mem_cons.mp q with q | q
  · rw [q]; exact h
  · cases q
theorem law_join {M N : PM} {A B : Wm.Mach} (h : MRel M A) (k : MRel N B) (ok : M.Ok) (ok2 : N.Ok) (h1 : M.ts + N.ts + 1 ≤ 24) (h2 : M.ta + N.ta + 2 ≤ 300) : MRel (joinM M N) (Wm.join A B) ∧ (joinM M N).Ok := by
  refine ⟨⟨?_, ?_, arcs_of ?_, ?_, ?_, rfl, fun z => by cases z⟩, ?_⟩
  · show A.net.states + B.net.states + 1 = 1 + M.states + N.states
    rw [h.st, k.st]; omega
  · show Same (A.net.finals.map (fun (f : Nat) => f + 1) ++ B.net.finals.map fun (f : Nat) => f + 1 + A.net.states) (M.finals.map (· + 1) ++ N.finals.map (· + (1 + M.states)))
    have e : (fun f : Nat => f + 1 + A.net.states) = fun f => f + (1 + M.states) := funext fun f => by rw [h.st]; omega
    rw [e]
    exact (h.fins.map _).app (k.fins.map _)
  · show Same ((Wm.jump 0 1 :: Wm.jump 0 (1 + A.net.states) :: (A.net.arcs.map (Wm.Arc.shift 1) ++ B.net.arcs.map (Wm.Arc.shift (1 + A.net.states)))).map encA) ([jumpP 0 1, jumpP 0 (1 + M.states)] ++ M.arcs.map (PArc.shift 1) ++ N.arcs.map (PArc.shift (1 + M.states)))
    rw [List.map_cons, List.map_cons, List.map_append, map_shift, map_shift, h.st, List.append_assoc]
    exact Same.cons _ (Same.cons _ ((h.same.map _).app (k.same.map _)))
  · show A.states + B.states + 1 = M.ts + N.ts + 1
    rw [h.ts, k.ts]
  · show A.arcs + B.arcs + 2 = M.ta + N.ta + 2
    rw [h.ta, k.ta]
  · have t1 := ok.ts
    have t2 := ok2.ts
    have s1 := ok.s1
    have s2 := ok2.s1
    refine ⟨by show 1 ≤ 1 + M.states + N.states; omega, by show 1 + M.states + N.states ≤ 24; omega, by show M.ts + N.ts + 1 = 1 + M.states + N.states; omega, ?_, h2, ?_, ?_, ?_, ?_, ?_, ?_⟩
    · show ([jumpP 0 1, jumpP 0 (1 + M.states)] ++ M.arcs.map (PArc.shift 1) ++ N.arcs.map (PArc.shift (1 + M.states))).length ≤ M.ta + N.ta + 2
      have := ok.a1
      have := ok2.a1
      simp
      omega
    · show (M.finals.map (· + 1) ++ N.finals.map (· + (1 + M.states))).Nodup
      rw [List.nodup_append]
      refine ⟨nodup_mapN (fun a b e => by omega) ok.nd, nodup_mapN (fun a b e => by omega) ok2.nd, fun x hx y hy e => ?_⟩
      obtain ⟨a, ha, ea⟩ := List.mem_map.mp hx
      obtain ⟨b, hb, eb⟩ := List.mem_map.mp hy
      have := ok.fin a ha
      omega
    · refine mem_app (mem_mapI fun f q => ?_) (mem_mapI fun f q => ?_)
      · have := ok.fin f q; show f + 1 < 1 + M.states + N.states; omega
      · have := ok2.fin f q; show f + (1 + M.states) < 1 + M.states + N.states; omega
    · refine mem_app (mem_app (mem_two ?_ ?_) (mem_shift fun c q => ?_)) (mem_shift fun c q => ?_)
      · show 0 < 1 + M.states + N.states; omega
      · show 0 < 1 + M.states + N.states; omega
      · have := ok.src c q; show c.src + 1 < 1 + M.states + N.states; omega
      · have := ok2.src c q; show c.src + (1 + M.states) < 1 + M.states + N.states; omega
    · refine mem_app (mem_app (mem_two ?_ ?_) (mem_shift fun c q => ?_)) (mem_shift fun c q => ?_)
      · show 1 < 1 + M.states + N.states; omega
      · show 1 + M.states < 1 + M.states + N.states; omega
      · have := ok.dst c q; show c.dst + 1 < 1 + M.states + N.states; omega
      · have := ok2.dst c q; show c.dst + (1 + M.states) < 1 + M.states + N.states; omega
    · exact mem_app (mem_app (mem_two (by show (-1 : Int) ≤ -1 ∧ (-1 : Int) ≤ 255; decide) (by show (-1 : Int) ≤ -1 ∧ (-1 : Int) ≤ 255; decide)) (mem_shift fun c q => ok.rd c q)) (mem_shift fun c q => ok2.rd c q)
    · exact mem_app (mem_app (mem_two (by show (-1 : Int) ≤ -1 ∧ (-1 : Int) ≤ 255; decide) (by show (-1 : Int) ≤ -1 ∧ (-1 : Int) ≤ 255; decide)) (mem_shift fun c q => ok.wr c q)) (mem_shift fun c q => ok2.wr c q)
theorem map_jump (l : List Nat) (n : Nat) : (l.map fun (f : Nat) => Wm.jump f n).map encA = l.map fun f => jumpP f n := by
  rw [List.map_map]
  rfl
theorem map_jump0 (l : List Nat) : (l.map fun (f : Nat) => Wm.jump (f + 1) 0).map encA = l.map fun f => jumpP (f + 1) 0 := by
  rw [List.map_map]
  rfl
theorem law_follow {M N : PM} {A B : Wm.Mach} (h : MRel M A) (k : MRel N B) (ok : M.Ok) (ok2 : N.Ok) (h1 : M.ts + N.ts ≤ 24) (h2 : M.ta + N.ta + M.ts ≤ 300) : MRel (followM M N) (Wm.follow A B) ∧ (followM M N).Ok := by
  refine ⟨⟨?_, ?_, arcs_of ?_, ?_, ?_, rfl, fun z => by cases z⟩, ?_⟩
  · show A.net.states + B.net.states = M.states + N.states
    rw [h.st, k.st]
  · show Same (B.net.finals.map fun (f : Nat) => f + A.net.states) (N.finals.map (· + M.states))
    rw [h.st]
    exact k.fins.map _
  · show Same ((A.net.arcs ++ (B.net.arcs.map (Wm.Arc.shift A.net.states) ++ A.net.finals.eraseDups.map fun (f : Nat) => Wm.jump f A.net.states)).map encA) (M.arcs ++ N.arcs.map (PArc.shift M.states) ++ M.finals.map (fun f => jumpP f M.states))
    rw [List.map_append, List.map_append, map_shift, h.st, List.append_assoc, map_jump]
    exact h.same.app ((k.same.map _).app (((same_dups _).trans h.fins).map _))
  · show A.states + B.states = M.ts + N.ts
    rw [h.ts, k.ts]
  · show A.arcs + B.arcs + A.states = M.ta + N.ta + M.ts
    rw [h.ta, k.ta, h.ts]
  · have t1 := ok.ts
    have t2 := ok2.ts
    have s1 := ok.s1
    have s2 := ok2.s1
    have fl := nodup_bound ok.nd ok.fin
    refine ⟨by show 1 ≤ M.states + N.states; omega, by show M.states + N.states ≤ 24; omega, by show M.ts + N.ts = M.states + N.states; omega, ?_, h2, nodup_mapN (fun a b e => by omega) ok2.nd, mem_mapI fun f q => ?_, ?_, ?_, ?_, ?_⟩
    · show (M.arcs ++ N.arcs.map (PArc.shift M.states) ++ M.finals.map (fun f => jumpP f M.states)).length ≤ M.ta + N.ta + M.ts
      have := ok.a1
      have := ok2.a1
      simp
      omega
    · have := ok2.fin f q; show f + M.states < M.states + N.states; omega
    · refine mem_app (mem_app (fun c q => ?_) (mem_shift fun c q => ?_)) (mem_mapI fun f q => ?_)
      · have := ok.src c q; show c.src < M.states + N.states; omega
      · have := ok2.src c q; show c.src + M.states < M.states + N.states; omega
      · have := ok.fin f q; show f < M.states + N.states; omega
    · refine mem_app (mem_app (fun c q => ?_) (mem_shift fun c q => ?_)) (mem_mapI fun f q => ?_)
      · have := ok.dst c q; show c.dst < M.states + N.states; omega
      · have := ok2.dst c q; show c.dst + M.states < M.states + N.states; omega
      · show M.states < M.states + N.states; omega
    · exact mem_app (mem_app ok.rd (mem_shift fun c q => ok2.rd c q)) (mem_mapI fun f q => by show (-1 : Int) ≤ -1 ∧ (-1 : Int) ≤ 255; decide)
    · exact mem_app (mem_app ok.wr (mem_shift fun c q => ok2.wr c q)) (mem_mapI fun f q => by show (-1 : Int) ≤ -1 ∧ (-1 : Int) ≤ 255; decide)
theorem law_again {M : PM} {A : Wm.Mach} (h : MRel M A) (ok : M.Ok) (h1 : M.ts + 1 ≤ 24) (h2 : M.ta + M.ts + 1 ≤ 300) : MRel (againM M) (Wm.again A) ∧ (againM M).Ok := by
  refine ⟨⟨?_, fun f => Iff.rfl, arcs_of ?_, ?_, ?_, rfl, fun z => by cases z⟩, ?_⟩
  · show A.net.states + 1 = M.states + 1
    rw [h.st]
  · show Same ((Wm.jump 0 1 :: (A.net.arcs.map (Wm.Arc.shift 1) ++ A.net.finals.eraseDups.map fun (f : Nat) => Wm.jump (f + 1) 0)).map encA) ([jumpP 0 1] ++ M.arcs.map (PArc.shift 1) ++ M.finals.map (fun f => jumpP (f + 1) 0))
    rw [List.map_cons, List.map_append, map_shift, map_jump0, List.append_assoc]
    exact Same.cons _ ((h.same.map _).app (((same_dups _).trans h.fins).map _))
  · show A.states + 1 = M.ts + 1
    rw [h.ts]
  · show A.arcs + A.states + 1 = M.ta + M.ts + 1
    rw [h.ta, h.ts]
  · have t1 := ok.ts
    have s1 := ok.s1
    have fl := nodup_bound ok.nd ok.fin
    refine ⟨by show 1 ≤ M.states + 1; omega, by show M.states + 1 ≤ 24; omega, by show M.ts + 1 = M.states + 1; omega, ?_, h2, by show [0].Nodup; simp, mem_one (by show 0 < M.states + 1; omega), ?_, ?_, ?_, ?_⟩
    · show ([jumpP 0 1] ++ M.arcs.map (PArc.shift 1) ++ M.finals.map (fun f => jumpP (f + 1) 0)).length ≤ M.ta + M.ts + 1
      have := ok.a1
      simp
      omega
    · refine mem_app (mem_app (mem_one ?_) (mem_shift fun c q => ?_)) (mem_mapI fun f q => ?_)
      · show 0 < M.states + 1; omega
      · have := ok.src c q; show c.src + 1 < M.states + 1; omega
      · have := ok.fin f q; show f + 1 < M.states + 1; omega
    · refine mem_app (mem_app (mem_one ?_) (mem_shift fun c q => ?_)) (mem_mapI fun f q => ?_)
      · show 1 < M.states + 1; omega
      · have := ok.dst c q; show c.dst + 1 < M.states + 1; omega
      · show 0 < M.states + 1; omega
    · exact mem_app (mem_app (mem_one (by show (-1 : Int) ≤ -1 ∧ (-1 : Int) ≤ 255; decide)) (mem_shift fun c q => ok.rd c q)) (mem_mapI fun f q => by show (-1 : Int) ≤ -1 ∧ (-1 : Int) ≤ 255; decide)
    · exact mem_app (mem_app (mem_one (by show (-1 : Int) ≤ -1 ∧ (-1 : Int) ≤ 255; decide)) (mem_shift fun c q => ok.wr c q)) (mem_mapI fun f q => by show (-1 : Int) ≤ -1 ∧ (-1 : Int) ≤ 255; decide)
theorem law_keep {M : PM} {A : Wm.Mach} (h : MRel M A) (ok : M.Ok) : MRel (keepM M) (Wm.keep A) ∧ (keepM M).Ok := by
  refine ⟨⟨h.st, h.fin, arcs_of ?_, h.ts, h.ta, rfl, fun z => by cases z⟩, ?_⟩
  · show Same ((A.net.arcs.map fun (a : Wm.Arc) => (⟨a.src, a.reads, a.reads, a.dst⟩ : Wm.Arc)).map encA) (M.arcs.map PArc.keep)
    have := h.same.map PArc.keep
    rw [List.map_map] at this ⊢
    exact this
  · refine ⟨ok.s1, ok.s2, ok.ts, ?_, ok.a2, ok.nd, ok.fin, mem_mapI ok.src, mem_mapI ok.dst, mem_mapI ok.rd, mem_mapI ok.rd⟩
    show (M.arcs.map _).length ≤ M.ta
    rw [List.length_map]
    exact ok.a1
theorem pair_lt {a k A n : Nat} (h : a < A) (hk : k < n) : a * n + k < A * n := by
  have : (a + 1) * n ≤ A * n := Nat.mul_le_mul_right _ h
  rw [Nat.add_mul] at this
  omega
theorem pair_inj {a b j k n : Nat} (hj : j < n) (hk : k < n) (h : a * n + j = b * n + k) : a = b ∧ j = k := by
  have h1 : a = b := by
    rcases Nat.lt_trichotomy a b with c | c | c
    · have : (a + 1) * n ≤ b * n := Nat.mul_le_mul_right _ c
      rw [Nat.add_mul] at this
      omega
    · exact c
    · have : (b + 1) * n ≤ a * n := Nat.mul_le_mul_right _ c
      rw [Nat.add_mul] at this
      omega
  subst h1
  exact ⟨rfl, by omega⟩
theorem mem_one_behind {B : PM} {a p : PArc} : p ∈ behindOne B a ↔ (a.wr = -1 ∧ ∃ k, k < B.states ∧ p = ⟨a.src * B.states + k, a.rd, -1, a.dst * B.states + k⟩) ∨ (a.wr ≠ -1 ∧ ∃ b ∈ B.arcs, b.rd = a.wr ∧ p = ⟨a.src * B.states + b.src, a.rd, b.wr, a.dst * B.states + b.dst⟩) := by
  unfold behindOne
  rw [List.mem_append, List.mem_map]
  by_cases c : a.wr = -1
  · rw [if_pos c, List.mem_map]
    constructor
    · rintro (⟨k, hk, e⟩ | ⟨b, hb, e⟩)
      · exact .inl ⟨c, k, List.mem_range.mp hk, e.symm⟩
      · have := (List.mem_filter.mp hb).2
        simp [c] at this
    · rintro (⟨_, k, hk, e⟩ | ⟨q, _⟩)
      · exact .inl ⟨k, List.mem_range.mpr hk, e.symm⟩
      · exact absurd c q
  · rw [if_neg c]
    constructor
    · rintro (q | ⟨b, hb, e⟩)
      · cases q
      · obtain ⟨h1, h2⟩ := List.mem_filter.mp hb
        simp at h2
        exact .inr ⟨c, b, h1, h2.2, e.symm⟩
    · rintro (⟨q, _⟩ | ⟨_, b, hb, e1, e⟩)
      · exact absurd q c
      · exact .inr ⟨b, List.mem_filter.mpr ⟨hb, by simp [c, e1]⟩, e.symm⟩
theorem mem_two_behind {A B : PM} {b p : PArc} : p ∈ behindTwo A B b ↔ b.rd = -1 ∧ ∃ k, k < A.states ∧ p = ⟨k * B.states + b.src, -1, b.wr, k * B.states + b.dst⟩ := by
  unfold behindTwo
  by_cases c : b.rd = -1
  · rw [if_pos c, List.mem_map]
    constructor
    · rintro ⟨k, hk, e⟩
      exact ⟨c, k, List.mem_range.mp hk, e.symm⟩
    · rintro ⟨_, k, hk, e⟩
      exact ⟨k, List.mem_range.mpr hk, e.symm⟩
  · rw [if_neg c]
    exact ⟨fun q => (nomatch q), fun q => absurd q.1 c⟩
theorem map_flat {α β γ : Type} (f : α → List β) (g : β → γ) (l : List α) : (l.flatMap f).map g = l.flatMap fun a => (f a).map g := by
  induction l with
  | nil => rfl
  | cons a r ih => rw [List.flatMap_cons, List.map_append, ih, List.flatMap_cons]
theorem flat_map {α β γ : Type} (f : β → List γ) (g : α → β) (l : List α) : (l.map g).flatMap f = l.flatMap fun a => f (g a) := by
  induction l with
  | nil => rfl
  | cons a r ih => rw [List.map_cons, List.flatMap_cons, ih, List.flatMap_cons]
theorem same_one {N : PM} {B : Wm.Mach} (k : MRel N B) (a : Wm.Arc) : Same ((match a.writes with
    | none => (List.range B.net.states).map fun (t : Nat) => (⟨a.src * B.net.states + t, a.reads, none, a.dst * B.net.states + t⟩ : Wm.Arc)
    | some c => B.net.arcs.filterMap fun (b : Wm.Arc) => if b.reads = some c then some ⟨a.src * B.net.states + b.src, a.reads, b.writes, a.dst * B.net.states + b.dst⟩ else none).map encA) (behindOne N (encA a)) := fun p => by
  rw [mem_one_behind, List.mem_map, k.st]
  cases hw : a.writes with
  | none =>
    have e : (encA a).wr = -1 := by show encB a.writes = -1; rw [hw]; rfl
    constructor
    · rintro ⟨q, hq, e1⟩
      obtain ⟨t, ht, e2⟩ := List.mem_map.mp hq
      refine .inl ⟨e, t, List.mem_range.mp ht, ?_⟩
      rw [← e1, ← e2]
      rfl
    · rintro (⟨_, t, ht, e1⟩ | ⟨q, _⟩)
      · exact ⟨_, List.mem_map.mpr ⟨t, List.mem_range.mpr ht, rfl⟩, e1.symm⟩
      · exact absurd e q
  | some c =>
    have e : (encA a).wr = (c.toNat : Int) := by show encB a.writes = _; rw [hw]; rfl
    have e' : (encA a).wr ≠ -1 := by rw [e]; omega
    constructor
    · rintro ⟨q, hq, e1⟩
      obtain ⟨b, hb, e2⟩ := List.mem_filterMap.mp hq
      by_cases cb : b.reads = some c
      · rw [if_pos cb] at e2
        injection e2 with e2
        refine .inr ⟨e', encA b, (k.arcs _).mpr ⟨b, hb, rfl⟩, ?_, ?_⟩
        · rw [e]; show encB b.reads = _; rw [cb]; rfl
        · rw [← e1, ← e2]; rfl
      · rw [if_neg cb] at e2
        cases e2
    · rintro (⟨q, _⟩ | ⟨_, b, hb, e1, e2⟩)
      · exact absurd q e'
      · obtain ⟨b', hb', eb⟩ := (k.arcs _).mp hb
        have cb : b'.reads = some c := by
          rw [e, ← eb] at e1
          exact encB_some.mp e1
        refine ⟨_, List.mem_filterMap.mpr ⟨b', hb', by rw [if_pos cb]⟩, ?_⟩
        rw [e2, ← eb]
        rfl
theorem same_two {M N : PM} {A B : Wm.Mach} (h : MRel M A) (k : MRel N B) (b : Wm.Arc) : Same ((if b.reads.isNone = true then (List.range A.net.states).map fun (s : Nat) => (⟨s * B.net.states + b.src, none, b.writes, s * B.net.states + b.dst⟩ : Wm.Arc) else []).map encA) (behindTwo M N (encA b)) := fun p => by
  rw [mem_two_behind, h.st, k.st, List.mem_map]
  by_cases c : b.reads.isNone = true
  · rw [if_pos c]
    have c' : b.reads = none := by cases hb : b.reads with
      | none => rfl
      | some _ => rw [hb] at c; cases c
    have e : (encA b).rd = -1 := by show encB b.reads = -1; rw [c']; rfl
    constructor
    · rintro ⟨q, hq, e1⟩
      obtain ⟨t, ht, e2⟩ := List.mem_map.mp hq
      refine ⟨e, t, List.mem_range.mp ht, ?_⟩
      rw [← e1, ← e2]
      rfl
    · rintro ⟨_, t, ht, e1⟩
      exact ⟨_, List.mem_map.mpr ⟨t, List.mem_range.mpr ht, rfl⟩, e1.symm⟩
  · rw [if_neg c]
    refine ⟨fun ⟨q, hq, _⟩ => (nomatch hq), fun ⟨q, _⟩ => ?_⟩
    have : b.reads = none := encB_none.mp q
    rw [this] at c
    exact absurd rfl c
theorem law_behind {M N : PM} {A B : Wm.Mach} (h : MRel M A) (k : MRel N B) (ok : M.Ok) (ok2 : N.Ok) (h1 : M.ts * N.ts ≤ 24) (h2 : M.ta * N.ta + M.ta * N.ts + M.ts * N.ta ≤ 300) : MRel (behindM M N) (Wm.behind A B) ∧ (behindM M N).Ok := by
  have t1 := ok.ts
  have t2 := ok2.ts
  refine ⟨⟨?_, ?_, arcs_of ?_, ?_, ?_, rfl, fun z => by cases z⟩, ?_⟩
  · show A.net.states * B.net.states = M.states * N.states
    rw [h.st, k.st]
  · show Same (A.net.finals.flatMap (fun (f : Nat) => B.net.finals.map fun (g : Nat) => f * B.net.states + g)) (M.finals.flatMap (fun f => N.finals.map fun g => f * N.states + g))
    rw [k.st]
    exact h.fins.flat fun f _ => k.fins.map _
  · refine Same.trans ?_ (Same.app (h.same.flat (f := behindOne N) (g := behindOne N) fun a _ => .refl _) (k.same.flat (f := behindTwo M N) (g := behindTwo M N) fun a _ => .refl _))
    rw [flat_map, flat_map]
    show Same ((A.net.arcs.flatMap _ ++ B.net.arcs.flatMap _).map encA) _
    rw [List.map_append, map_flat, map_flat]
    exact Same.app ((Same.refl _).flat fun a _ => same_one k a) ((Same.refl _).flat fun b _ => same_two h k b)
  · show A.states * B.states = M.ts * N.ts
    rw [h.ts, k.ts]
  · show A.arcs * B.arcs + A.arcs * B.states + A.states * B.arcs = M.ta * N.ta + M.ta * N.ts + M.ts * N.ta
    rw [h.ts, k.ts, h.ta, k.ta]
  · have al : ∀ P : PArc → Prop, (∀ a ∈ M.arcs, ∀ j, j < N.states → P ⟨a.src * N.states + j, a.rd, -1, a.dst * N.states + j⟩) → (∀ a ∈ M.arcs, ∀ b ∈ N.arcs, P ⟨a.src * N.states + b.src, a.rd, b.wr, a.dst * N.states + b.dst⟩) → (∀ b ∈ N.arcs, ∀ j, j < M.states → P ⟨j * N.states + b.src, -1, b.wr, j * N.states + b.dst⟩) → ∀ c ∈ behindArcs M N, P c := fun P p1 p2 p3 c q => by
      rcases List.mem_append.mp q with q | q
      · obtain ⟨a, ha, q⟩ := List.mem_flatMap.mp q
        rcases mem_one_behind.mp q with ⟨_, j, hj, e⟩ | ⟨_, b, hb, _, e⟩
        · rw [e]; exact p1 a ha j hj
        · rw [e]; exact p2 a ha b hb
      · obtain ⟨b, hb, q⟩ := List.mem_flatMap.mp q
        obtain ⟨_, j, hj, e⟩ := mem_two_behind.mp q
        rw [e]; exact p3 b hb j hj
    refine ⟨?_, ?_, ?_, ?_, h2, ?_, ?_, ?_, ?_, ?_, ?_⟩
    · exact Nat.mul_pos ok.s1 ok2.s1
    · show M.states * N.states ≤ 24
      rw [← t1, ← t2]; exact h1
    · show M.ts * N.ts = M.states * N.states
      rw [t1, t2]
    · show (M.arcs.flatMap (behindOne N) ++ N.arcs.flatMap (behindTwo M N)).length ≤ M.ta * N.ta + M.ta * N.ts + M.ts * N.ta
      rw [List.length_append]
      have b1 : (M.arcs.flatMap (behindOne N)).length ≤ M.arcs.length * (N.arcs.length + N.states) := flat_len fun a _ => by
        unfold behindOne
        rw [List.length_append, List.length_map]
        have q1 := List.length_filter_le (fun b : PArc => a.wr != -1 && b.rd == a.wr) N.arcs
        by_cases c : a.wr = -1
        · rw [if_pos c, List.length_map, List.length_range]; omega
        · rw [if_neg c, List.length_nil]; omega
      have b2 : (N.arcs.flatMap (behindTwo M N)).length ≤ N.arcs.length * M.states := flat_len fun b _ => by
        unfold behindTwo
        by_cases c : b.rd = -1
        · rw [if_pos c, List.length_map, List.length_range]; exact Nat.le_refl _
        · rw [if_neg c]; exact Nat.zero_le _
      have b3 : M.arcs.length * (N.arcs.length + N.states) ≤ M.ta * (N.ta + N.ts) := Nat.mul_le_mul ok.a1 (by have := ok2.a1; omega)
      have b4 : N.arcs.length * M.states ≤ N.ta * M.ts := Nat.mul_le_mul ok2.a1 (by omega)
      have b5 := Nat.le_trans b1 b3
      have b6 := Nat.le_trans b2 b4
      rw [Nat.mul_add] at b5
      rw [Nat.mul_comm N.ta M.ts] at b6
      exact Nat.add_le_add b5 b6
    · refine nodup_flat ok.nd (fun f _ => nodup_mapN (fun a b e => by omega) ok2.nd) fun f hf g hg hne z hz hz2 => ?_
      obtain ⟨i, hi, e1⟩ := List.mem_map.mp hz
      obtain ⟨j, hj, e2⟩ := List.mem_map.mp hz2
      exact hne (pair_inj (ok2.fin i hi) (ok2.fin j hj) (e1.trans e2.symm)).1
    · intro f hf
      obtain ⟨a, ha, hf⟩ := List.mem_flatMap.mp hf
      obtain ⟨b, hb, e⟩ := List.mem_map.mp hf
      rw [← e]
      exact pair_lt (ok.fin a ha) (ok2.fin b hb)
    · exact al _ (fun a ha j hj => pair_lt (ok.src a ha) hj) (fun a ha b hb => pair_lt (ok.src a ha) (ok2.src b hb)) (fun b hb j hj => pair_lt hj (ok2.src b hb))
    · exact al _ (fun a ha j hj => pair_lt (ok.dst a ha) hj) (fun a ha b hb => pair_lt (ok.dst a ha) (ok2.dst b hb)) (fun b hb j hj => pair_lt hj (ok2.dst b hb))
    · exact al _ (fun a ha j hj => ok.rd a ha) (fun a ha b hb => ok.rd a ha) (fun b hb j hj => by show (-1 : Int) ≤ -1 ∧ (-1 : Int) ≤ 255; decide)
    · exact al _ (fun a ha j hj => by show (-1 : Int) ≤ -1 ∧ (-1 : Int) ≤ 255; decide) (fun a ha b hb => ok2.wr b hb) (fun b hb j hj => ok2.wr b hb)
end Tw

/-! # Plain law: boards of bits -/
namespace Tw
open TW
/-! ### bits -/
theorem fold_bits {α : Type} {P : α → Prop} [DecidablePred P] (d : α → Nat) : ∀ (l : List α) (t j : Nat), (l.foldl (fun t a => if P a then t ||| 2 ^ (d a) else t) t).testBit j = true ↔ t.testBit j = true ∨ ∃ a ∈ l, P a ∧ d a = j
  | [], t, j => by simp
  | a :: r, t, j => by
    rw [List.foldl_cons, fold_bits d r]
    by_cases c : P a
    · rw [if_pos c, Nat.testBit_or, Nat.testBit_two_pow]
      simp only [Bool.or_eq_true, decide_eq_true_eq, List.mem_cons]
      constructor
      · rintro ((q | q) | ⟨b, hb, q⟩)
        · exact .inl q
        · exact .inr ⟨a, .inl rfl, c, q⟩
        · exact .inr ⟨b, .inr hb, q⟩
      · rintro (q | ⟨b, hb | hb, q1, q2⟩)
        · exact .inl (.inl q)
        · rw [hb] at q2; exact .inl (.inr q2)
        · exact .inr ⟨b, hb, q1, q2⟩
    · rw [if_neg c]
      simp only [List.mem_cons]
      constructor
      · rintro (q | ⟨b, hb, q⟩)
        · exact .inl q
        · exact .inr ⟨b, .inr hb, q⟩
      · rintro (q | ⟨b, hb | hb, q1, q2⟩)
        · exact .inl q
        · rw [hb] at q1; exact absurd q1 c
        · exact .inr ⟨b, hb, q1, q2⟩
theorem fold_ors {α : Type} {P : α → Prop} [DecidablePred P] (d : α → Nat) : ∀ (l : List α) (t j : Nat), (l.foldl (fun t a => if P a then t ||| d a else t) t).testBit j = true ↔ t.testBit j = true ∨ ∃ a ∈ l, P a ∧ (d a).testBit j = true
  | [], t, j => by simp
  | a :: r, t, j => by
    rw [List.foldl_cons, fold_ors d r]
    by_cases c : P a
    · rw [if_pos c, Nat.testBit_or]
      simp only [Bool.or_eq_true, List.mem_cons]
      constructor
      · rintro ((q | q) | ⟨b, hb, q⟩)
        · exact .inl q
        · exact .inr ⟨a, .inl rfl, c, q⟩
        · exact .inr ⟨b, .inr hb, q⟩
      · rintro (q | ⟨b, hb | hb, q1, q2⟩)
        · exact .inl (.inl q)
        · rw [hb] at q2; exact .inl (.inr q2)
        · exact .inr ⟨b, hb, q1, q2⟩
    · rw [if_neg c]
      simp only [List.mem_cons]
      constructor
      · rintro (q | ⟨b, hb, q⟩)
        · exact .inl q
        · exact .inr ⟨b, .inr hb, q⟩
      · rintro (q | ⟨b, hb | hb, q1, q2⟩)
        · exact .inl q
        · rw [hb] at q1; exact absurd q1 c
        · exact .inr ⟨b, hb, q1, q2⟩
theorem onto_bit (l : List Wm.Arc) (m j : Nat) : (Wm.onto l m).testBit j = true ↔ ∃ a ∈ l, m.testBit a.src = true ∧ a.dst = j := by
  unfold Wm.onto
  rw [fold_bits (P := fun a : Wm.Arc => m.testBit a.src = true) Wm.Arc.dst l 0 j]
  simp
theorem outOf_bit (l : List Wm.Arc) (m j : Nat) : (Wm.outOf l m).testBit j = true ↔ ∃ a ∈ l, m.testBit a.dst = true ∧ a.src = j := by
  unfold Wm.outOf
  rw [fold_bits (P := fun a : Wm.Arc => m.testBit a.dst = true) Wm.Arc.src l 0 j]
  simp
theorem fins_bit (l : List Nat) (j : Nat) : (l.foldl (fun (m f : Nat) => m ||| 2 ^ f) 0).testBit j = true ↔ j ∈ l := by
  have h := fold_bits (P := fun _ : Nat => True) id l 0 j
  simp only [if_true, id] at h
  rw [h]
  simp
theorem and_bit {a b : Nat} : a &&& b ≠ 0 ↔ ∃ j, a.testBit j = true ∧ b.testBit j = true := by
  constructor
  · intro h
    refine Classical.byContradiction fun n => h (Nat.eq_of_testBit_eq fun j => ?_)
    rw [Nat.testBit_and, Nat.zero_testBit]
    cases ha : a.testBit j with
    | false => rfl
    | true => cases hb : b.testBit j with
      | false => rfl
      | true => exact absurd ⟨j, ha, hb⟩ n
  · rintro ⟨j, ha, hb⟩ e
    have : (a &&& b).testBit j = true := by rw [Nat.testBit_and, ha, hb]; rfl
    rw [e, Nat.zero_testBit] at this
    cases this
theorem forth_bit (t : List Nat) (m j : Nat) : (Wm.forth t m).testBit j = true ↔ ∃ s, m.testBit s = true ∧ s < t.length ∧ (t.getD s 0).testBit j = true := by
  unfold Wm.forth
  rw [fold_ors (P := fun x : Nat × Nat => m.testBit x.2 = true) Prod.fst t.zipIdx 0 j]
  simp only [Nat.zero_testBit, Bool.false_eq_true, false_or]
  constructor
  · rintro ⟨⟨v, i⟩, h1, h2, h3⟩
    have h1 := List.mk_mem_zipIdx_iff_getElem?.mp h1
    refine ⟨i, h2, (List.getElem?_eq_some_iff.mp h1).1, ?_⟩
    rw [List.getD_eq_getElem?_getD, h1]
    exact h3
  · rintro ⟨s, h1, h2, h3⟩
    refine ⟨(t[s], s), List.mk_mem_zipIdx_iff_getElem?.mpr (List.getElem?_eq_getElem h2), h1, ?_⟩
    rw [List.getD_eq_getElem?_getD, List.getElem?_eq_getElem h2] at h3
    exact h3
theorem backs_bit (t : List Nat) (m s : Nat) : (Wm.backs t m).testBit s = true ↔ s < t.length ∧ ∃ j, (t.getD s 0).testBit j = true ∧ m.testBit j = true := by
  unfold Wm.backs
  have e : (fun (a : Nat) (x : Nat × Nat) => if x.1 &&& m = 0 then a else a ||| 2 ^ x.2) = fun (a : Nat) (x : Nat × Nat) => if x.1 &&& m ≠ 0 then a ||| 2 ^ x.2 else a := by
    funext a x
    by_cases c : x.1 &&& m = 0
    · rw [if_pos c, if_neg (fun z => z c)]
    · rw [if_neg c, if_pos c]
  rw [e, fold_bits (P := fun x : Nat × Nat => x.1 &&& m ≠ 0) Prod.snd t.zipIdx 0 s]
  simp only [Nat.zero_testBit, Bool.false_eq_true, false_or]
  constructor
  · rintro ⟨⟨v, i⟩, h1, h2, h3⟩
    have h1 := List.mk_mem_zipIdx_iff_getElem?.mp h1
    have h3 : i = s := h3
    subst h3
    refine ⟨(List.getElem?_eq_some_iff.mp h1).1, ?_⟩
    rw [List.getD_eq_getElem?_getD, h1]
    exact and_bit.mp h2
  · rintro ⟨h1, h2⟩
    refine ⟨(t[s], s), List.mk_mem_zipIdx_iff_getElem?.mpr (List.getElem?_eq_getElem h1), ?_, rfl⟩
    rw [List.getD_eq_getElem?_getD, List.getElem?_eq_getElem h1] at h2
    exact and_bit.mpr h2
/-! ### rounds -/
inductive RT {α : Type} (R : α → α → Prop) : α → α → Prop
  | refl (a : α) : RT R a a
  | snoc {a b c : α} : RT R a b → R b c → RT R a c
section
variable {α : Type} {R : α → α → Prop}
theorem RT.trans {a b c : α} (h : RT R a b) (k : RT R b c) : RT R a c := by
  induction k with
  | refl => exact h
  | snoc _ m ih => exact .snoc ih m
theorem RT.one {a b : α} (h : R a b) : RT R a b := .snoc (.refl a) h
theorem star_rt {adj : α → List α} (h : ∀ a b, b ∈ adj a ↔ R a b) {a b : α} : Star adj a b ↔ RT R a b := by
  constructor
  · intro s
    induction s with
    | refl => exact .refl _
    | snoc _ m ih => exact .snoc ih ((h _ _).mp m)
  · intro s
    induction s with
    | refl => exact .refl _
    | snoc _ m ih => exact .snoc ih ((h _ _).mpr m)
end
/-- an arc of these leads from state to state -/
def Ar (l : List Wm.Arc) (s t : Nat) : Prop := ∃ a ∈ l, a.src = s ∧ a.dst = t
theorem gone_step (l : List Wm.Arc) : ∀ (k m : Nat), Wm.goneOn l (k + 1) m = Wm.goneOn l k m ||| Wm.onto l (Wm.goneOn l k m)
  | 0, m => rfl
  | k + 1, m => by
    show Wm.goneOn l (k + 1) (m ||| Wm.onto l m) = _
    rw [gone_step l k]
    rfl
theorem gone_succ (l : List Wm.Arc) (k m t : Nat) : (Wm.goneOn l (k + 1) m).testBit t = true ↔ (Wm.goneOn l k m).testBit t = true ∨ ∃ u, (Wm.goneOn l k m).testBit u = true ∧ Ar l u t := by
  rw [gone_step, Nat.testBit_or, Bool.or_eq_true, onto_bit]
  constructor
  · rintro (q | ⟨a, h1, h2, h3⟩)
    · exact .inl q
    · exact .inr ⟨a.src, h2, a, h1, rfl, h3⟩
  · rintro (q | ⟨u, h1, a, h2, h3, h4⟩)
    · exact .inl q
    · exact .inr ⟨a, h2, by rw [h3]; exact h1, h4⟩
theorem gone_sound (l : List Wm.Arc) (s : Nat) : ∀ (k t : Nat), (Wm.goneOn l k (2 ^ s)).testBit t = true → RT (Ar l) s t
  | 0, t, h => by
    have h : (2 ^ s).testBit t = true := h
    rw [Nat.testBit_two_pow] at h
    have h : s = t := of_decide_eq_true h
    rw [h]
    exact .refl _
  | k + 1, t, h => by
    rcases (gone_succ l k _ t).mp h with q | ⟨u, q1, q2⟩
    · exact gone_sound l s k t q
    · exact .snoc (gone_sound l s k u q1) q2
theorem gone_mono (l : List Wm.Arc) (k m t : Nat) (h : (Wm.goneOn l k m).testBit t = true) : (Wm.goneOn l (k + 1) m).testBit t = true := (gone_succ l k m t).mpr (.inl h)
/-- come to late: that many states -/
theorem gone_late {n : Nat} {l : List Wm.Arc} (hl : ∀ a ∈ l, a.dst < n) {s : Nat} (hs : s < n) : ∀ (k t : Nat), (Wm.goneOn l k (2 ^ s)).testBit t = true → (∀ j, k = j + 1 → ¬ (Wm.goneOn l j (2 ^ s)).testBit t = true) →
    ∃ L : List Nat, L.Nodup ∧ L.length = k + 1 ∧ (∀ u ∈ L, u < n) ∧ ∀ u ∈ L, (Wm.goneOn l k (2 ^ s)).testBit u = true
  | 0, t, h, _ => by
    have h0 : (2 ^ s).testBit t = true := h
    rw [Nat.testBit_two_pow] at h0
    have h0 : s = t := of_decide_eq_true h0
    subst h0
    exact ⟨[s], by simp, rfl, fun u hu => by simp at hu; omega, fun u hu => by simp at hu; rw [hu]; exact h⟩
  | k + 1, t, h, hn => by
    have hk := hn k rfl
    rcases (gone_succ l k _ t).mp h with q | ⟨u, q1, q2⟩
    · exact absurd q hk
    · obtain ⟨L, h1, h2, h3, h4⟩ := gone_late hl hs k u q1 (fun j e z => hk (by
        subst e
        exact (gone_succ l j _ t).mpr (.inr ⟨u, z, q2⟩)))
      refine ⟨L ++ [t], ?_, by rw [List.length_append, h2]; rfl, fun v hv => ?_, fun v hv => ?_⟩
      · rw [List.nodup_append]
        refine ⟨h1, by simp, fun a ha b hb e => ?_⟩
        have hb : b = t := by simpa using hb
        rw [hb] at e
        rw [e] at ha
        exact hk (h4 t ha)
      · rcases List.mem_append.mp hv with hv | hv
        · exact h3 v hv
        · have hv : v = t := by simpa using hv
          obtain ⟨a, ha, _, hd⟩ := q2
          rw [hv, ← hd]
          exact hl a ha
      · rcases List.mem_append.mp hv with hv | hv
        · exact gone_mono l k _ v (h4 v hv)
        · have hv : v = t := by simpa using hv
          rw [hv]
          exact h
theorem gone_bit {n : Nat} {l : List Wm.Arc} (hl : ∀ a ∈ l, a.dst < n) {s : Nat} (hs : s < n) (t : Nat) : (Wm.goneOn l n (2 ^ s)).testBit t = true ↔ RT (Ar l) s t := by
  refine ⟨gone_sound l s n t, fun h => ?_⟩
  induction h with
  | refl =>
    have : ∀ k, (Wm.goneOn l k (2 ^ s)).testBit s = true := fun k => by
      induction k with
      | zero => show (2 ^ s).testBit s = true; rw [Nat.testBit_two_pow]; exact decide_eq_true rfl
      | succ k ih => exact gone_mono l k _ s ih
    exact this n
  | @snoc b c _ m ih =>
    refine Classical.byContradiction fun hn => ?_
    have h1 : (Wm.goneOn l (n + 1) (2 ^ s)).testBit c = true := (gone_succ l n _ c).mpr (.inr ⟨b, ih, m⟩)
    obtain ⟨L, q1, q2, q3, _⟩ := gone_late hl hs (n + 1) c h1 (fun j e => by
      have : j = n := by omega
      rw [this]
      exact hn)
    have := nodup_bound q1 q3
    omega
theorem reaches_at {n : Nat} {l : List Wm.Arc} {s : Nat} (hs : s < n) : (Wm.reaches n l).getD s 0 = Wm.goneOn l n (2 ^ s) := by
  unfold Wm.reaches
  rw [List.getD_eq_getElem?_getD, List.getElem?_map, List.getElem?_range hs]
  rfl
theorem reaches_len (n : Nat) (l : List Wm.Arc) : (Wm.reaches n l).length = n := by
  unfold Wm.reaches
  rw [List.length_map, List.length_range]
theorem forth_reach {n : Nat} {l : List Wm.Arc} (hl : ∀ a ∈ l, a.dst < n) (m t : Nat) : (Wm.forth (Wm.reaches n l) m).testBit t = true ↔ ∃ s, m.testBit s = true ∧ s < n ∧ RT (Ar l) s t := by
  rw [forth_bit, reaches_len]
  constructor
  · rintro ⟨s, h1, h2, h3⟩
    rw [reaches_at h2] at h3
    exact ⟨s, h1, h2, (gone_bit hl h2 t).mp h3⟩
  · rintro ⟨s, h1, h2, h3⟩
    refine ⟨s, h1, h2, ?_⟩
    rw [reaches_at h2]
    exact (gone_bit hl h2 t).mpr h3
theorem backs_reach {n : Nat} {l : List Wm.Arc} (hl : ∀ a ∈ l, a.dst < n) (m s : Nat) : (Wm.backs (Wm.reaches n l) m).testBit s = true ↔ s < n ∧ ∃ j, RT (Ar l) s j ∧ m.testBit j = true := by
  rw [backs_bit, reaches_len]
  constructor
  · rintro ⟨h1, j, h2, h3⟩
    rw [reaches_at h1] at h2
    exact ⟨h1, j, (gone_bit hl h1 j).mp h2, h3⟩
  · rintro ⟨h1, j, h2, h3⟩
    refine ⟨h1, j, ?_, h3⟩
    rw [reaches_at h1]
    exact (gone_bit hl h1 j).mpr h2
/-! ### fronts -/
def bt (l : List Nat) (p : Spot) : Prop := (l.getD p.1 0).testBit p.2 = true
/-- an arc leads from spot to spot: one that reads nothing, one that reads -/
def Ed (n : Nat) (l : List Wm.Arc) (q : List (List Wm.Arc)) (s t : Spot) : Prop := (t.1 = s.1 ∧ s.1 ≤ n ∧ Ar l s.2 t.2) ∨ (t.1 = s.1 + 1 ∧ s.1 < n ∧ Ar (q.getD s.1 []) s.2 t.2)
theorem drop_getD {α : Type} (q : List α) (i : Nat) (d : α) : (q.drop 1).getD i d = q.getD (i + 1) d := by
  rw [List.getD_eq_getElem?_getD, List.getElem?_drop, List.getD_eq_getElem?_getD, Nat.add_comm]
theorem headD_getD {α : Type} (q : List α) (d : α) : q.headD d = q.getD 0 d := by
  cases q <;> rfl
theorem cons_getD {α : Type} (a : α) (q : List α) (i : Nat) (d : α) : (a :: q).getD (i + 1) d = q.getD i d := rfl
theorem far_getD {l : List Nat} {i : Nat} (h : l.length ≤ i) : l.getD i 0 = 0 := by
  rw [List.getD_eq_getElem?_getD, List.getElem?_eq_none h]
  rfl
theorem bt_row {l : List Nat} {p : Spot} (h : bt l p) : p.1 < l.length := by
  refine Classical.byContradiction fun c => ?_
  unfold bt at h
  rw [far_getD (by omega), Nat.zero_testBit] at h
  cases h
theorem forthOn_len (t : List Nat) : ∀ (l : List Nat) (q : List (List Wm.Arc)) (c : Nat), (Wm.forthOn t q c l).length = l.length
  | [], q, c => rfl
  | m :: r, q, c => congrArg (· + 1) (forthOn_len t r _ _)
theorem forthOn_0 (t : List Nat) (q : List (List Wm.Arc)) (c m : Nat) (r : List Nat) : (Wm.forthOn t q c (m :: r)).getD 0 0 = Wm.forth t (m ||| c) := rfl
theorem forthOn_s (t : List Nat) : ∀ (l : List Nat) (q : List (List Wm.Arc)) (c i : Nat), i + 1 < l.length → (Wm.forthOn t q c l).getD (i + 1) 0 = Wm.forth t (l.getD (i + 1) 0 ||| Wm.onto (q.getD i []) ((Wm.forthOn t q c l).getD i 0))
  | [], _, _, _, h => by simp at h
  | [_], _, _, _, h => by simp at h
  | m :: m' :: r, q, c, 0, _ => by
    show Wm.forth t (m' ||| Wm.onto (q.headD []) (Wm.forth t (m ||| c))) = _
    rw [headD_getD]
    rfl
  | m :: m' :: r, q, c, i + 1, h => by
    have ih := forthOn_s t (m' :: r) (q.drop 1) (Wm.onto (q.headD []) (Wm.forth t (m ||| c))) i (by simp at h ⊢; omega)
    rw [drop_getD] at ih
    exact ih
theorem backOn_len (t : List Nat) : ∀ (l : List Nat) (q : List (List Wm.Arc)), (Wm.backOn t q l).length = l.length
  | [], q => rfl
  | m :: r, q => congrArg (· + 1) (backOn_len t r _)
theorem backOn_s (t : List Nat) : ∀ (l : List Nat) (q : List (List Wm.Arc)) (i : Nat), i < l.length → (Wm.backOn t q l).getD i 0 = Wm.backs t (l.getD i 0 ||| Wm.outOf (q.getD i []) ((Wm.backOn t q l).getD (i + 1) 0))
  | [], _, _, h => by simp at h
  | m :: r, q, 0, _ => by
    show Wm.backs t (m ||| Wm.outOf (q.headD []) ((Wm.backOn t (q.drop 1) r).headD 0)) = _
    rw [headD_getD, headD_getD]
    rfl
  | m :: r, q, i + 1, h => by
    have ih := backOn_s t r (q.drop 1) i (by simp at h; omega)
    rw [drop_getD] at ih
    exact ih
/-- arcs within so many states -/
structure Inn (S n : Nat) (l : List Wm.Arc) (q : List (List Wm.Arc)) : Prop where
  l1 : ∀ a ∈ l, a.src < S ∧ a.dst < S
  q1 : ∀ i, ∀ a ∈ q.getD i [], a.src < S ∧ a.dst < S
theorem row_rt {n : Nat} {l : List Wm.Arc} {q : List (List Wm.Arc)} {i s t : Nat} (hi : i ≤ n) (h : RT (Ar l) s t) : RT (Ed n l q) (i, s) (i, t) := by
  induction h with
  | refl => exact .refl _
  | snoc _ m ih => exact .snoc ih (.inl ⟨rfl, hi, m⟩)
theorem forth_sem {S n : Nat} {l : List Wm.Arc} {q : List (List Wm.Arc)} (hi : Inn S n l q) {f : List Nat} (hf : f.length = n + 1) (hb : ∀ p, bt f p → p.2 < S) (p : Spot) :
    bt (Wm.forthOn (Wm.reaches S l) q 0 f) p ↔ ∃ o, bt f o ∧ RT (Ed n l q) o p := by
  have hl : ∀ a ∈ l, a.dst < S := fun a ha => (hi.l1 a ha).2
  have hlen : (Wm.forthOn (Wm.reaches S l) q 0 f).length = n + 1 := by rw [forthOn_len, hf]
  have r0 : (Wm.forthOn (Wm.reaches S l) q 0 f).getD 0 0 = Wm.forth (Wm.reaches S l) (f.getD 0 0) := by
    cases f with
    | nil => simp at hf
    | cons m r => rw [forthOn_0, Nat.or_zero]; rfl
  have rs : ∀ i, i < n → (Wm.forthOn (Wm.reaches S l) q 0 f).getD (i + 1) 0 = Wm.forth (Wm.reaches S l) (f.getD (i + 1) 0 ||| Wm.onto (q.getD i []) ((Wm.forthOn (Wm.reaches S l) q 0 f).getD i 0)) := fun i hin => forthOn_s _ f q 0 i (by omega)
  constructor
  · obtain ⟨i, t⟩ := p
    intro h
    have hin : i < n + 1 := by have := bt_row h; rw [hlen] at this; exact this
    revert t
    induction i with
    | zero =>
      intro t h
      unfold bt at h
      rw [r0, forth_reach hl] at h
      obtain ⟨s, h1, h2, h3⟩ := h
      exact ⟨(0, s), h1, row_rt (by omega) h3⟩
    | succ i ih =>
      intro t h
      unfold bt at h
      rw [rs i (by omega), forth_reach hl] at h
      obtain ⟨s, h1, h2, h3⟩ := h
      rw [Nat.testBit_or, Bool.or_eq_true, onto_bit] at h1
      rcases h1 with h1 | ⟨a, ha, h4, h5⟩
      · exact ⟨(i + 1, s), h1, row_rt (by omega) h3⟩
      · obtain ⟨o, ho, r⟩ := ih (by omega) a.src h4
        exact ⟨o, ho, (r.snoc (.inr ⟨rfl, by show i < n; omega, a, ha, rfl, h5⟩)).trans (row_rt (by omega) h3)⟩
  · rintro ⟨o, ho, r⟩
    have sub : ∀ i t, i < n + 1 → (f.getD i 0).testBit t = true → t < S → bt (Wm.forthOn (Wm.reaches S l) q 0 f) (i, t) := fun i t hin h hs => by
      unfold bt
      cases i with
      | zero => rw [r0, forth_reach hl]; exact ⟨t, h, hs, .refl _⟩
      | succ i =>
        rw [rs i (by omega), forth_reach hl]
        exact ⟨t, by rw [Nat.testBit_or, h]; rfl, hs, .refl _⟩
    induction r with
    | refl => exact sub o.1 o.2 (by have := bt_row ho; rw [hf] at this; exact this) ho (hb o ho)
    | @snoc b c _ m ih =>
      obtain ⟨i, u⟩ := b
      obtain ⟨j, t⟩ := c
      rcases m with ⟨e, h1, h2⟩ | ⟨e, h1, a, ha, h2, h3⟩
      · have e : j = i := e
        subst e
        unfold bt at ih ⊢
        cases j with
        | zero =>
          rw [r0, forth_reach hl] at ih ⊢
          obtain ⟨s, q1, q2, q3⟩ := ih
          exact ⟨s, q1, q2, q3.snoc h2⟩
        | succ i =>
          have h1 : i + 1 ≤ n := h1
          rw [rs i (by omega), forth_reach hl] at ih ⊢
          obtain ⟨s, q1, q2, q3⟩ := ih
          exact ⟨s, q1, q2, q3.snoc h2⟩
      · have e : j = i + 1 := e
        subst e
        have h1 : i < n := h1
        unfold bt at ih ⊢
        rw [rs i h1, forth_reach hl]
        have h3 : a.dst = t := h3
        refine ⟨t, ?_, by rw [← h3]; exact (hi.q1 i a ha).2, .refl _⟩
        rw [Nat.testBit_or, Bool.or_eq_true, onto_bit]
        exact .inr ⟨a, ha, by rw [h2]; exact ih, h3⟩
theorem back_sem {S n : Nat} {l : List Wm.Arc} {q : List (List Wm.Arc)} (hi : Inn S n l q) {f : List Nat} (hf : f.length = n + 1) (hb : ∀ p, bt f p → p.2 < S) (p : Spot) :
    bt (Wm.backOn (Wm.reaches S l) q f) p ↔ ∃ o, RT (Ed n l q) p o ∧ bt f o := by
  have hl : ∀ a ∈ l, a.dst < S := fun a ha => (hi.l1 a ha).2
  have hlen : (Wm.backOn (Wm.reaches S l) q f).length = n + 1 := by rw [backOn_len, hf]
  have rs : ∀ i, i < n + 1 → (Wm.backOn (Wm.reaches S l) q f).getD i 0 = Wm.backs (Wm.reaches S l) (f.getD i 0 ||| Wm.outOf (q.getD i []) ((Wm.backOn (Wm.reaches S l) q f).getD (i + 1) 0)) := fun i hin => backOn_s _ f q i (by omega)
  constructor
  · obtain ⟨i, s⟩ := p
    intro h
    have hin : i < n + 1 := by have := bt_row h; rw [hlen] at this; exact this
    have key : ∀ k i s, i + k = n → bt (Wm.backOn (Wm.reaches S l) q f) (i, s) → ∃ o, RT (Ed n l q) (i, s) o ∧ bt f o := by
      intro k
      induction k with
      | zero =>
        intro i s e h
        unfold bt at h
        rw [rs i (by omega), backs_reach hl] at h
        obtain ⟨h1, j, h2, h3⟩ := h
        rw [Nat.testBit_or, Bool.or_eq_true, outOf_bit] at h3
        rcases h3 with h3 | ⟨a, ha, h4, h5⟩
        · exact ⟨(i, j), row_rt (by omega) h2, h3⟩
        · rw [far_getD (by rw [hlen]; omega), Nat.zero_testBit] at h4
          cases h4
      | succ k ih =>
        intro i s e h
        unfold bt at h
        rw [rs i (by omega), backs_reach hl] at h
        obtain ⟨h1, j, h2, h3⟩ := h
        rw [Nat.testBit_or, Bool.or_eq_true, outOf_bit] at h3
        rcases h3 with h3 | ⟨a, ha, h4, h5⟩
        · exact ⟨(i, j), row_rt (by omega) h2, h3⟩
        · obtain ⟨o, r, ho⟩ := ih (i + 1) a.dst (by omega) h4
          exact ⟨o, (row_rt (by omega) h2).trans ((RT.one (.inr ⟨rfl, by show i < n; omega, a, ha, h5, rfl⟩)).trans r), ho⟩
    exact key (n - i) i s (by omega) h
  · rintro ⟨o, r, ho⟩
    have h0 : bt (Wm.backOn (Wm.reaches S l) q f) o := by
      have := bt_row ho
      unfold bt
      rw [rs o.1 (by omega), backs_reach hl]
      exact ⟨hb o ho, o.2, .refl _, by rw [Nat.testBit_or, ho]; rfl⟩
    clear ho
    induction r with
    | refl => exact h0
    | @snoc b c _ m ih =>
      refine ih ?_
      obtain ⟨i, u⟩ := b
      obtain ⟨j, t⟩ := c
      rcases m with ⟨e, h1, h2⟩ | ⟨e, h1, a, ha, h2, h3⟩
      · have e : j = i := e
        subst e
        have h1 : j ≤ n := h1
        unfold bt at h0 ⊢
        rw [rs j (by omega), backs_reach hl] at h0 ⊢
        obtain ⟨q1, v, q2, q3⟩ := h0
        obtain ⟨a, ha, e1, e2⟩ := id h2
        have e1 : a.src = u := e1
        exact ⟨by show u < S; rw [← e1]; exact (hi.l1 a ha).1, v, (RT.one h2).trans q2, q3⟩
      · have e : j = i + 1 := e
        subst e
        have h1 : i < n := h1
        unfold bt at h0 ⊢
        rw [rs i (by omega), backs_reach hl]
        have h2 : a.src = u := h2
        have h3 : a.dst = t := h3
        refine ⟨by show u < S; rw [← h2]; exact (hi.q1 i a ha).1, u, .refl _, ?_⟩
        rw [Nat.testBit_or, Bool.or_eq_true, outOf_bit]
        exact .inr ⟨a, ha, by rw [h3]; exact h0, h2⟩
end Tw

/-! # Plain law: a board's words -/
namespace Tw
open TW
/-- what a net's board stands for -/
structure Brd (M : PM) (A : Wm.Mach) (x : List UInt8) : Prop where
  rel : MRel M A
  ok : M.Ok
section
variable {M : PM} {A : Wm.Mach} {x : List UInt8}
theorem Brd.arc (h : Brd M A x) {a : Wm.Arc} (ha : a ∈ A.net.arcs) : a.src < A.net.states ∧ a.dst < A.net.states := by
  have := (h.rel.arcs (encA a)).mpr ⟨a, ha, rfl⟩
  rw [h.rel.st]
  exact ⟨h.ok.src _ this, h.ok.dst _ this⟩
theorem mem_still {N : Wm.Net} {p : Wm.Arc → Bool} {a : Wm.Arc} : a ∈ N.still p ↔ a ∈ N.arcs ∧ a.reads = none ∧ p a = true := by
  unfold Wm.Net.still
  rw [List.mem_filter, Bool.and_eq_true]
  cases a.reads <;> simp
theorem reading_len {N : Wm.Net} {p : Wm.Arc → Bool} : (N.reading x p).length = x.length := by
  unfold Wm.Net.reading
  rw [List.length_map]
theorem mem_reading {N : Wm.Net} {p : Wm.Arc → Bool} {a : Wm.Arc} {i : Nat} : a ∈ (N.reading x p).getD i [] ↔ a ∈ N.arcs ∧ (∃ c, x[i]? = some c ∧ a.reads = some c) ∧ p a = true := by
  unfold Wm.Net.reading
  rw [List.getD_eq_getElem?_getD, List.getElem?_map]
  cases hx : x[i]? with
  | none => simp
  | some c =>
    show a ∈ (N.arcs.filter fun (a : Wm.Arc) => a.reads == some c && p a) ↔ _
    rw [List.mem_filter, Bool.and_eq_true]
    constructor
    · rintro ⟨h1, h2, h3⟩
      exact ⟨h1, ⟨c, rfl, by simpa using h2⟩, h3⟩
    · rintro ⟨h1, ⟨d, e, h2⟩, h3⟩
      injection e with e
      subst e
      exact ⟨h1, by simpa using h2, h3⟩
theorem Brd.inn (h : Brd M A x) (p : Wm.Arc → Bool) : Inn A.net.states x.length (A.net.still p) (A.net.reading x p) := ⟨fun a ha => h.arc (mem_still.mp ha).1, fun i a ha => h.arc (mem_reading.mp ha).1⟩
theorem bI_at {i : Nat} {z : Int} : (bI x)[i]? = some z ↔ ∃ c, x[i]? = some c ∧ z = (c.toNat : Int) := by
  unfold bI
  rw [List.getElem?_map]
  cases x[i]? with
  | none => simp
  | some c =>
    simp only [Option.map_some, Option.some.injEq]
    constructor
    · intro e; exact ⟨c, rfl, e.symm⟩
    · rintro ⟨d, e, e2⟩; rw [e, e2]
theorem bI_len : (bI x).length = x.length := by unfold bI; rw [List.length_map]
/-- notes by arcs -/
theorem note_ed (h : Brd M A x) {s t : Spot} {w : Int} : (s, w, t) ∈ notes M (bI x) ↔ ∃ a ∈ A.net.arcs, encB a.writes = w ∧ a.src = s.2 ∧ a.dst = t.2 ∧ ((a.reads = none ∧ t.1 = s.1 ∧ s.1 ≤ x.length) ∨ (∃ c, x[s.1]? = some c ∧ a.reads = some c ∧ t.1 = s.1 + 1)) := by
  rw [mem_notes]
  constructor
  · rintro ⟨i, hi, pa, hpa, hn⟩
    obtain ⟨a, ha, ea⟩ := (h.rel.arcs pa).mp hpa
    subst ea
    rw [bI_len] at hi
    rcases mem_noteAt.mp hn with ⟨h1, e⟩ | ⟨h1, h2, e⟩
    · injection e with e1 e2
      injection e2 with e2 e3
      refine ⟨a, ha, e2.symm, by rw [e1]; rfl, by rw [e3]; rfl, .inl ⟨encB_none.mp h1, by rw [e1, e3], by rw [e1]; exact hi⟩⟩
    · injection e with e1 e2
      injection e2 with e2 e3
      obtain ⟨c, hc, hz⟩ := bI_at.mp h2
      refine ⟨a, ha, e2.symm, by rw [e1]; rfl, by rw [e3]; rfl, .inr ⟨c, by rw [e1]; exact hc, encB_some.mp hz, by rw [e1, e3]⟩⟩
  · rintro ⟨a, ha, h1, h2, h3, h4⟩
    have hpa := (h.rel.arcs (encA a)).mpr ⟨a, ha, rfl⟩
    obtain ⟨i, u⟩ := s
    obtain ⟨j, v⟩ := t
    rcases h4 with ⟨hr, e, hi⟩ | ⟨c, hc, hr, e⟩
    · refine ⟨i, by rw [bI_len]; exact hi, encA a, hpa, mem_noteAt.mpr (.inl ⟨encB_none.mpr hr, ?_⟩)⟩
      have e : j = i := e
      have h2 : a.src = u := h2
      have h3 : a.dst = v := h3
      subst e h1 h2 h3
      rfl
    · have hi : i < x.length := (List.getElem?_eq_some_iff.mp hc).1
      refine ⟨i, by rw [bI_len]; omega, encA a, hpa, mem_noteAt.mpr (.inr ⟨?_, bI_at.mpr ⟨c, hc, encB_some.mpr hr⟩, ?_⟩)⟩
      · intro z
        have := encB_none.mp z
        rw [hr] at this
        cases this
      · have e : j = i + 1 := e
        have h2 : a.src = u := h2
        have h3 : a.dst = v := h3
        subst e h1 h2 h3
        rfl
theorem ed_iff {N : Wm.Net} {p : Wm.Arc → Bool} {s t : Spot} : Ed x.length (N.still p) (N.reading x p) s t ↔ ∃ a ∈ N.arcs, p a = true ∧ a.src = s.2 ∧ a.dst = t.2 ∧ ((a.reads = none ∧ t.1 = s.1 ∧ s.1 ≤ x.length) ∨ (∃ c, x[s.1]? = some c ∧ a.reads = some c ∧ t.1 = s.1 + 1)) := by
  unfold Ed Ar
  constructor
  · rintro (⟨e, hi, a, ha, h1, h2⟩ | ⟨e, hi, a, ha, h1, h2⟩)
    · obtain ⟨q1, q2, q3⟩ := mem_still.mp ha
      exact ⟨a, q1, q3, h1, h2, .inl ⟨q2, e, hi⟩⟩
    · obtain ⟨q1, ⟨c, q2, q3⟩, q4⟩ := mem_reading.mp ha
      exact ⟨a, q1, q4, h1, h2, .inr ⟨c, q2, q3, e⟩⟩
  · rintro ⟨a, ha, hp, h1, h2, ⟨q1, e, hi⟩ | ⟨c, q1, q2, e⟩⟩
    · exact .inl ⟨e, hi, a, mem_still.mpr ⟨ha, q1, hp⟩, h1, h2⟩
    · exact .inr ⟨e, (List.getElem?_eq_some_iff.mp q1).1, a, mem_reading.mpr ⟨ha, ⟨c, q1, q2⟩, hp⟩, h1, h2⟩
/-- quiet arcs -/
def qu (a : Wm.Arc) : Bool := a.writes.isNone
def ld (a : Wm.Arc) : Bool := a.writes.isSome
def wc (c : UInt8) (a : Wm.Arc) : Bool := a.writes == some c
abbrev EdQ (A : Wm.Mach) (x : List UInt8) : Spot → Spot → Prop := Ed x.length (A.net.still qu) (A.net.reading x qu)
abbrev EdA (A : Wm.Mach) (x : List UInt8) : Spot → Spot → Prop := Ed x.length (A.net.still fun _ => true) (A.net.reading x fun _ => true)
abbrev EdC (A : Wm.Mach) (x : List UInt8) (c : UInt8) : Spot → Spot → Prop := Ed x.length (A.net.still (wc c)) (A.net.reading x (wc c))
theorem qu_iff {a : Wm.Arc} : qu a = true ↔ a.writes = none := by unfold qu; cases a.writes <;> simp
theorem wc_iff {a : Wm.Arc} {c : UInt8} : wc c a = true ↔ a.writes = some c := by unfold wc; simp
theorem sil_ed (h : Brd M A x) (s t : Spot) : t ∈ sil (notes M (bI x)) s ↔ EdQ A x s t := by
  rw [mem_sil, note_ed h]
  show _ ↔ Ed x.length (A.net.still qu) (A.net.reading x qu) s t
  rw [ed_iff]
  constructor
  · rintro ⟨a, ha, h1, h2⟩
    exact ⟨a, ha, qu_iff.mpr (encB_none.mp h1), h2⟩
  · rintro ⟨a, ha, h1, h2⟩
    exact ⟨a, ha, encB_none.mpr (qu_iff.mp h1), h2⟩
theorem wri_ed (h : Brd M A x) (s : Spot) (p : Int × Spot) : p ∈ wri (notes M (bI x)) s ↔ ∃ c : UInt8, p.1 = (c.toNat : Int) ∧ EdC A x c s p.2 := by
  rw [mem_wri, note_ed h]
  constructor
  · rintro ⟨⟨a, ha, h1, h2⟩, h3⟩
    cases hw : a.writes with
    | none => rw [hw] at h1; exact absurd h1.symm h3
    | some c =>
      refine ⟨c, by rw [← h1, hw]; rfl, ed_iff.mpr ⟨a, ha, wc_iff.mpr hw, h2⟩⟩
  · rintro ⟨c, e, h1⟩
    obtain ⟨a, ha, hw, h2⟩ := ed_iff.mp h1
    refine ⟨⟨a, ha, ?_, h2⟩, by rw [e]; omega⟩
    rw [wc_iff.mp hw, e]
    rfl
theorem both_ed (h : Brd M A x) (s t : Spot) : t ∈ both (notes M (bI x)) s ↔ EdA A x s t := by
  unfold both
  rw [List.mem_append, List.mem_map, sil_ed h]
  constructor
  · rintro (q | ⟨p, hp, e⟩)
    · obtain ⟨a, ha, _, h2⟩ := ed_iff.mp q
      exact ed_iff.mpr ⟨a, ha, rfl, h2⟩
    · obtain ⟨c, _, q⟩ := (wri_ed h s p).mp hp
      rw [e] at q
      obtain ⟨a, ha, _, h2⟩ := ed_iff.mp q
      exact ed_iff.mpr ⟨a, ha, rfl, h2⟩
  · intro q
    obtain ⟨a, ha, _, h2⟩ := ed_iff.mp q
    cases hw : a.writes with
    | none => exact .inl (ed_iff.mpr ⟨a, ha, qu_iff.mpr hw, h2⟩)
    | some c => exact .inr ⟨((c.toNat : Int), t), (wri_ed h s _).mpr ⟨c, rfl, ed_iff.mpr ⟨a, ha, wc_iff.mpr hw, h2⟩⟩, rfl⟩
theorem sil_rt (h : Brd M A x) (s t : Spot) : Star (sil (notes M (bI x))) s t ↔ RT (EdQ A x) s t := star_rt (sil_ed h)
theorem both_rt (h : Brd M A x) (s t : Spot) : Star (both (notes M (bI x))) s t ↔ RT (EdA A x) s t := star_rt (both_ed h)
/-- a front of this board -/
structure Fr (A : Wm.Mach) (x : List UInt8) (f : List Nat) : Prop where
  len : f.length = x.length + 1
  bd : ∀ p, bt f p → p.2 < A.net.states
theorem rt_bound {S n : Nat} {l : List Wm.Arc} {q : List (List Wm.Arc)} (hi : Inn S n l q) {o p : Spot} (h : RT (Ed n l q) o p) (ho : o.2 < S) : p.2 < S := by
  cases h with
  | refl => exact ho
  | snoc _ m =>
    rcases m with ⟨_, _, a, ha, _, h3⟩ | ⟨_, _, a, ha, _, h3⟩
    · rw [← h3]; exact (hi.l1 a ha).2
    · rw [← h3]; exact (hi.q1 _ a ha).2
theorem rt_bound2 {S n : Nat} {l : List Wm.Arc} {q : List (List Wm.Arc)} (hi : Inn S n l q) {o p : Spot} (h : RT (Ed n l q) o p) (hp : p.2 < S) : o.2 < S := by
  induction h with
  | refl => exact hp
  | snoc _ m ih =>
    refine ih ?_
    rcases m with ⟨_, _, a, ha, h3, _⟩ | ⟨_, _, a, ha, h3, _⟩
    · rw [← h3]; exact (hi.l1 a ha).1
    · rw [← h3]; exact (hi.q1 _ a ha).1
theorem quiet_fr (h : Brd M A x) {f : List Nat} (hf : Fr A x f) : Fr A x ((A.net.board x).quiet f) ∧ ∀ p, bt ((A.net.board x).quiet f) p ↔ ∃ o, bt f o ∧ RT (EdQ A x) o p := by
  have sem := forth_sem (h.inn qu) hf.len hf.bd
  refine ⟨⟨(forthOn_len _ f _ 0).trans hf.len, fun p hp => ?_⟩, sem⟩
  obtain ⟨o, ho, r⟩ := (sem p).mp hp
  exact rt_bound (h.inn qu) r (hf.bd o ho)
theorem backQ_fr (h : Brd M A x) {f : List Nat} (hf : Fr A x f) : Fr A x (Wm.backOn (A.net.board x).close (A.net.board x).quiets f) ∧ ∀ p, bt (Wm.backOn (A.net.board x).close (A.net.board x).quiets f) p ↔ ∃ o, RT (EdQ A x) p o ∧ bt f o := by
  have sem := back_sem (h.inn qu) hf.len hf.bd
  refine ⟨⟨(backOn_len _ f _).trans hf.len, fun p hp => ?_⟩, sem⟩
  obtain ⟨o, r, ho⟩ := (sem p).mp hp
  exact rt_bound2 (h.inn qu) r (hf.bd o ho)
theorem rep_getD (n i : Nat) : (List.replicate n 0).getD i 0 = 0 := by
  rw [List.getD_eq_getElem?_getD, List.getElem?_replicate]
  split <;> rfl
theorem bit_one {j : Nat} : (1 : Nat).testBit j = true ↔ j = 0 := by
  have : (1 : Nat) = 2 ^ 0 := rfl
  rw [this, Nat.testBit_two_pow]
  constructor
  · intro h; exact (of_decide_eq_true h).symm
  · intro h; exact decide_eq_true h.symm
theorem beg_bt (n : Nat) (p : Spot) : bt (Wm.beginning n) p ↔ p = (0, 0) := by
  obtain ⟨i, s⟩ := p
  unfold bt Wm.beginning
  cases i with
  | zero =>
    show (1 : Nat).testBit s = true ↔ _
    rw [bit_one]
    exact ⟨fun e => by rw [e], fun e => by injection e⟩
  | succ i =>
    show ((List.replicate n 0).getD i 0).testBit s = true ↔ _
    rw [rep_getD, Nat.zero_testBit]
    exact ⟨fun e => (nomatch e), fun e => by injection e with e _; cases e⟩
theorem beg_fr (h : Brd M A x) : Fr A x (Wm.beginning x.length) := ⟨by unfold Wm.beginning; simp, fun p hp => by
  rw [(beg_bt _ p).mp hp, h.rel.st]
  exact h.ok.s1⟩
theorem end_bt (n f : Nat) (p : Spot) : bt (Wm.ending n f) p ↔ p.1 = n ∧ f.testBit p.2 = true := by
  obtain ⟨i, s⟩ := p
  unfold bt Wm.ending
  rw [List.getD_eq_getElem?_getD]
  show (((List.replicate n 0 ++ [f])[i]?).getD 0).testBit s = true ↔ i = n ∧ f.testBit s = true
  rcases Nat.lt_trichotomy i n with c | c | c
  · rw [List.getElem?_append_left (by rw [List.length_replicate]; exact c), List.getElem?_replicate, if_pos c]
    show (0 : Nat).testBit s = true ↔ _
    rw [Nat.zero_testBit]
    exact ⟨fun e => (nomatch e), fun e => by omega⟩
  · rw [List.getElem?_append_right (by rw [List.length_replicate]; omega), List.length_replicate, c, Nat.sub_self]
    exact ⟨fun e => ⟨rfl, e⟩, fun e => e.2⟩
  · rw [List.getElem?_append_right (by rw [List.length_replicate]; omega), List.length_replicate, List.getElem?_eq_none (by simp; omega)]
    show (0 : Nat).testBit s = true ↔ _
    rw [Nat.zero_testBit]
    exact ⟨fun e => (nomatch e), fun e => by omega⟩
abbrev finB (A : Wm.Mach) : Nat := A.net.finals.foldl (fun (m f : Nat) => m ||| 2 ^ f) 0
theorem isEnd_iff (h : Brd M A x) (p : Spot) : isEnd M (bI x) p = true ↔ p.1 = x.length ∧ (finB A).testBit p.2 = true := by
  unfold isEnd
  rw [bI_len, Bool.and_eq_true, fins_bit]
  simp only [beq_iff_eq, List.contains_iff_mem]
  rw [h.rel.fin]
theorem end_fr (h : Brd M A x) : Fr A x (Wm.ending x.length (finB A)) := ⟨by unfold Wm.ending; simp, fun p hp => by
  have := ((end_bt _ _ p).mp hp).2
  rw [fins_bit] at this
  rw [h.rel.st]
  exact h.ok.fin _ ((h.rel.fin _).mp this)⟩
theorem first_fr (h : Brd M A x) : Fr A x (A.net.board x).first ∧ ∀ p, bt (A.net.board x).first p ↔ Begin (notes M (bI x)) p := by
  obtain ⟨h1, h2⟩ := quiet_fr h (beg_fr h)
  refine ⟨h1, fun p => (h2 p).trans ?_⟩
  unfold Begin
  rw [sil_rt h]
  constructor
  · rintro ⟨o, ho, r⟩
    rw [(beg_bt _ o).mp ho] at r
    exact r
  · intro r
    exact ⟨_, (beg_bt _ _).mpr rfl, r⟩
theorem last_getD : ∀ {n : Nat} {f : List Nat}, f.length = n + 1 → f.getLastD 0 = f.getD n 0
  | 0, [a], _ => rfl
  | n + 1, a :: b :: r, h => by
    have := last_getD (n := n) (f := b :: r) (by simpa using h)
    rw [cons_getD]
    exact this
theorem ends_iff (h : Brd M A x) {f : List Nat} (hf : Fr A x f) : (A.net.board x).ends f = true ↔ ∃ p, bt f p ∧ isEnd M (bI x) p = true := by
  unfold Wm.Board.ends
  show ((f.getLastD 0 &&& finB A) != 0) = true ↔ _
  rw [last_getD hf.len, bne_iff_ne, and_bit]
  constructor
  · rintro ⟨j, h1, h2⟩
    exact ⟨(x.length, j), h1, (isEnd_iff h _).mpr ⟨rfl, h2⟩⟩
  · rintro ⟨⟨i, j⟩, h1, h2⟩
    obtain ⟨e, h3⟩ := (isEnd_iff h _).mp h2
    have e : i = x.length := e
    subst e
    exact ⟨j, h1, h3⟩
/-! ### a byte written -/
theorem writing_still (c : UInt8) (N : Wm.Net) : Wm.writing c (N.still ld) = N.still (wc c) := by
  unfold Wm.writing Wm.Net.still
  rw [List.filter_filter]
  apply List.filter_congr
  intro a _
  unfold ld wc
  cases a.writes <;> cases a.reads <;> simp
theorem writing_reading (c : UInt8) (N : Wm.Net) (i : Nat) : Wm.writing c ((N.reading x ld).getD i []) = (N.reading x (wc c)).getD i [] := by
  unfold Wm.Net.reading
  rw [List.getD_eq_getElem?_getD, List.getD_eq_getElem?_getD, List.getElem?_map, List.getElem?_map]
  cases x[i]? with
  | none => rfl
  | some d =>
    show Wm.writing c (N.arcs.filter _) = N.arcs.filter _
    unfold Wm.writing
    rw [List.filter_filter]
    apply List.filter_congr
    intro a _
    unfold ld wc
    cases a.writes <;> simp [Bool.and_comm]
theorem behindOn_len (c : UInt8) (lo : List Wm.Arc) : ∀ (f : List Nat) (q : List (List Wm.Arc)) (k : Nat), (Wm.behindOn c lo q k f).length = f.length
  | [], q, k => rfl
  | m :: r, q, k => congrArg (· + 1) (behindOn_len c lo r _ _)
theorem behindOn_s (c : UInt8) (lo : List Wm.Arc) : ∀ (f : List Nat) (q : List (List Wm.Arc)) (k i : Nat), i + 1 < f.length → (Wm.behindOn c lo q k f).getD (i + 1) 0 = Wm.onto lo (f.getD (i + 1) 0) ||| Wm.onto (Wm.writing c (q.getD i [])) (f.getD i 0)
  | [], _, _, _, h => by simp at h
  | [_], _, _, _, h => by simp at h
  | m :: m' :: r, q, k, 0, _ => by
    show (Wm.onto lo m' ||| Wm.onto (Wm.writing c (q.headD [])) m) = _
    rw [headD_getD]
    rfl
  | m :: m' :: r, q, k, i + 1, h => by
    have ih := behindOn_s c lo (m' :: r) (q.drop 1) (Wm.onto (Wm.writing c (q.headD [])) m) i (by simp at h ⊢; omega)
    rw [drop_getD] at ih
    exact ih
theorem behind_bt {N : Wm.Net} {c : UInt8} {f : List Nat} (hf : f.length = x.length + 1) (p : Spot) : bt (Wm.behindOn c (Wm.writing c (N.still ld)) (N.reading x ld) 0 f) p ↔ ∃ o, bt f o ∧ Ed x.length (N.still (wc c)) (N.reading x (wc c)) o p := by
  obtain ⟨i, t⟩ := p
  have hlen : (Wm.behindOn c (Wm.writing c (N.still ld)) (N.reading x ld) 0 f).length = x.length + 1 := (behindOn_len _ _ _ _ _).trans hf
  rw [writing_still] at hlen ⊢
  constructor
  · intro h
    have hin : i < x.length + 1 := by have := bt_row h; rw [hlen] at this; exact this
    unfold bt at h
    cases i with
    | zero =>
      cases f with
      | nil => simp at hf
      | cons m r =>
        have h : (Wm.onto (N.still (wc c)) m ||| 0).testBit t = true := h
        rw [Nat.or_zero, onto_bit] at h
        obtain ⟨a, ha, h1, h2⟩ := h
        exact ⟨(0, a.src), h1, .inl ⟨rfl, Nat.zero_le _, a, ha, rfl, h2⟩⟩
    | succ i =>
      rw [behindOn_s c _ f _ 0 i (by omega), writing_reading, Nat.testBit_or, Bool.or_eq_true, onto_bit, onto_bit] at h
      rcases h with ⟨a, ha, h1, h2⟩ | ⟨a, ha, h1, h2⟩
      · exact ⟨(i + 1, a.src), h1, .inl ⟨rfl, by show i + 1 ≤ x.length; omega, a, ha, rfl, h2⟩⟩
      · exact ⟨(i, a.src), h1, .inr ⟨rfl, by show i < x.length; omega, a, ha, rfl, h2⟩⟩
  · rintro ⟨⟨j, u⟩, ho, ⟨e, hj, a, ha, h1, h2⟩ | ⟨e, hj, a, ha, h1, h2⟩⟩
    · have e : i = j := e
      subst e
      have hj : i ≤ x.length := hj
      have h1 : a.src = u := h1
      have h2 : a.dst = t := h2
      unfold bt at ho ⊢
      cases i with
      | zero =>
        cases f with
        | nil => simp at hf
        | cons m r =>
          show (Wm.onto (N.still (wc c)) m ||| 0).testBit t = true
          rw [Nat.or_zero, onto_bit]
          exact ⟨a, ha, by rw [h1]; exact ho, h2⟩
      | succ i =>
        rw [behindOn_s c _ f _ 0 i (by omega), writing_reading, Nat.testBit_or, Bool.or_eq_true, onto_bit, onto_bit]
        exact .inl ⟨a, ha, by rw [h1]; exact ho, h2⟩
    · have e : i = j + 1 := e
      subst e
      have hj : j < x.length := hj
      have h1 : a.src = u := h1
      have h2 : a.dst = t := h2
      unfold bt at ho ⊢
      rw [behindOn_s c _ f _ 0 j (by omega), writing_reading, Nat.testBit_or, Bool.or_eq_true, onto_bit, onto_bit]
      exact .inr ⟨a, ha, by rw [h1]; exact ho, h2⟩
theorem ed_in {S n : Nat} {l : List Wm.Arc} {q : List (List Wm.Arc)} (hi : Inn S n l q) {o p : Spot} (h : Ed n l q o p) : o.2 < S ∧ p.2 < S := by
  rcases h with ⟨_, _, a, ha, h1, h2⟩ | ⟨_, _, a, ha, h1, h2⟩
  · rw [← h1, ← h2]; exact hi.l1 a ha
  · rw [← h1, ← h2]; exact hi.q1 _ a ha
theorem wrote_fr (h : Brd M A x) {f : List Nat} (hf : Fr A x f) (c : UInt8) : Fr A x ((A.net.board x).wrote c f) ∧ ∀ p, bt ((A.net.board x).wrote c f) p ↔ StepS (notes M (bI x)) (bt f) (c.toNat : Int) p := by
  have hb : Fr A x (Wm.behindOn c (Wm.writing c (A.net.still ld)) (A.net.reading x ld) 0 f) := ⟨(behindOn_len _ _ _ _ _).trans hf.len, fun p hp => by
    obtain ⟨o, _, r⟩ := (behind_bt hf.len p).mp hp
    exact (ed_in (h.inn (wc c)) r).2⟩
  obtain ⟨h1, h2⟩ := quiet_fr h hb
  refine ⟨h1, fun p => (h2 p).trans ?_⟩
  unfold StepS
  constructor
  · rintro ⟨o, ho, r⟩
    obtain ⟨s, hs, e⟩ := (behind_bt hf.len o).mp ho
    exact ⟨s, ((c.toNat : Int), o), hs, (wri_ed h s _).mpr ⟨c, rfl, e⟩, rfl, (sil_rt h _ _).mpr r⟩
  · rintro ⟨s, q, hs, hq, e, r⟩
    obtain ⟨d, e2, hd⟩ := (wri_ed h s q).mp hq
    have : d = c := by
      rw [e2] at e
      exact UInt8.toNat_inj.mp (by omega)
    subst this
    exact ⟨q.2, (behind_bt hf.len q.2).mpr ⟨s, hs, hd⟩, (sil_rt h _ _).mp r⟩
/-! ### places able -/
theorem beforeOn_len (lo : List Wm.Arc) : ∀ (f : List Nat) (q : List (List Wm.Arc)), (Wm.beforeOn lo q f).length = f.length
  | [], q => rfl
  | m :: r, q => congrArg (· + 1) (beforeOn_len lo r _)
theorem beforeOn_s (lo : List Wm.Arc) : ∀ (f : List Nat) (q : List (List Wm.Arc)) (i : Nat), i < f.length → (Wm.beforeOn lo q f).getD i 0 = Wm.outOf lo (f.getD i 0) ||| Wm.outOf (q.getD i []) (f.getD (i + 1) 0)
  | [], _, _, h => by simp at h
  | m :: r, q, 0, _ => by
    show (Wm.outOf lo m ||| Wm.outOf (q.headD []) (r.headD 0)) = _
    rw [headD_getD, headD_getD]
    rfl
  | m :: r, q, i + 1, h => by
    have ih := beforeOn_s lo r (q.drop 1) i (by simp at h; omega)
    rw [drop_getD] at ih
    exact ih
theorem before_bt {N : Wm.Net} {f : List Nat} (hf : f.length = x.length + 1) (p : Spot) : bt (Wm.beforeOn (N.still ld) (N.reading x ld) f) p ↔ ∃ o, Ed x.length (N.still ld) (N.reading x ld) p o ∧ bt f o := by
  obtain ⟨i, s⟩ := p
  have hlen : (Wm.beforeOn (N.still ld) (N.reading x ld) f).length = x.length + 1 := (beforeOn_len _ _ _).trans hf
  constructor
  · intro h
    have hin : i < x.length + 1 := by have := bt_row h; rw [hlen] at this; exact this
    unfold bt at h
    rw [beforeOn_s _ f _ i (by omega), Nat.testBit_or, Bool.or_eq_true, outOf_bit, outOf_bit] at h
    rcases h with ⟨a, ha, h1, h2⟩ | ⟨a, ha, h1, h2⟩
    · exact ⟨(i, a.dst), .inl ⟨rfl, by show i ≤ x.length; omega, a, ha, h2, rfl⟩, h1⟩
    · have hi : i < x.length := by
        obtain ⟨_, ⟨c, hc, _⟩, _⟩ := mem_reading.mp ha
        exact (List.getElem?_eq_some_iff.mp hc).1
      exact ⟨(i + 1, a.dst), .inr ⟨rfl, hi, a, ha, h2, rfl⟩, h1⟩
  · rintro ⟨⟨j, u⟩, ⟨e, hj, a, ha, h1, h2⟩ | ⟨e, hj, a, ha, h1, h2⟩, ho⟩
    · have e : j = i := e
      subst e
      have hj : j ≤ x.length := hj
      have h1 : a.src = s := h1
      have h2 : a.dst = u := h2
      unfold bt at ho ⊢
      rw [beforeOn_s _ f _ j (by omega), Nat.testBit_or, Bool.or_eq_true, outOf_bit, outOf_bit]
      exact .inl ⟨a, ha, by rw [h2]; exact ho, h1⟩
    · have e : j = i + 1 := e
      subst e
      have hj : i < x.length := hj
      have h1 : a.src = s := h1
      have h2 : a.dst = u := h2
      unfold bt at ho ⊢
      rw [beforeOn_s _ f _ i (by omega), Nat.testBit_or, Bool.or_eq_true, outOf_bit, outOf_bit]
      exact .inr ⟨a, ha, by rw [h2]; exact ho, h1⟩
theorem ld_ed {N : Wm.Net} {s t : Spot} : Ed x.length (N.still ld) (N.reading x ld) s t ↔ ∃ c, Ed x.length (N.still (wc c)) (N.reading x (wc c)) s t := by
  constructor
  · intro h
    obtain ⟨a, ha, hl, h2⟩ := ed_iff.mp h
    cases hw : a.writes with
    | none => unfold ld at hl; rw [hw] at hl; cases hl
    | some c => exact ⟨c, ed_iff.mpr ⟨a, ha, wc_iff.mpr hw, h2⟩⟩
  · rintro ⟨c, h⟩
    obtain ⟨a, ha, hl, h2⟩ := ed_iff.mp h
    refine ed_iff.mpr ⟨a, ha, ?_, h2⟩
    unfold ld
    rw [wc_iff.mp hl]
    rfl
theorem before_fr (h : Brd M A x) {f : List Nat} (hf : Fr A x f) : Fr A x (Wm.beforeOn (A.net.board x).loud (A.net.board x).louds f) := ⟨(beforeOn_len _ _ _).trans hf.len, fun p hp => by
  obtain ⟨o, r, _⟩ := (before_bt hf.len p).mp hp
  exact (ed_in (h.inn ld) r).1⟩
/-- the k-th table from a front -/
def tabN (b : Wm.Board) : Nat → List Nat → List Nat
  | 0, l => l
  | k + 1, l => tabN b k (Wm.backOn b.close b.quiets (Wm.beforeOn b.loud b.louds l))
theorem able_len (b : Wm.Board) : ∀ (m : Nat) (l : List Nat), (b.able m l).length = m + 1
  | 0, l => rfl
  | m + 1, l => congrArg (· + 1) (able_len b m _)
theorem able_at (b : Wm.Board) : ∀ (m k : Nat) (l : List Nat), k ≤ m → (b.able m l)[k]? = some (tabN b k l)
  | 0, 0, l, _ => rfl
  | 0, k + 1, l, h => by omega
  | m + 1, 0, l, _ => rfl
  | m + 1, k + 1, l, h => able_at b m k _ (by omega)
theorem tab_fr (h : Brd M A x) : ∀ (k j : Nat) (l : List Nat), Fr A x l → (∀ p, bt l p ↔ Able (notes M (bI x)) (isEnd M (bI x)) j p) → Fr A x (tabN (A.net.board x) k l) ∧ ∀ p, bt (tabN (A.net.board x) k l) p ↔ Able (notes M (bI x)) (isEnd M (bI x)) (j + k) p
  | 0, j, l, hf, hl => ⟨hf, hl⟩
  | k + 1, j, l, hf, hl => by
    obtain ⟨h1, h2⟩ := backQ_fr h (before_fr h hf)
    have := tab_fr h k (j + 1) _ h1 fun p => by
      rw [h2 p]
      show _ ↔ ∃ t, Star (sil (notes M (bI x))) p t ∧ ∃ q ∈ wri (notes M (bI x)) t, Able (notes M (bI x)) (isEnd M (bI x)) j q.2
      constructor
      · rintro ⟨o, r, ho⟩
        obtain ⟨u, e, hu⟩ := (before_bt hf.len o).mp ho
        obtain ⟨c, e⟩ := ld_ed.mp e
        exact ⟨o, (sil_rt h _ _).mpr r, ((c.toNat : Int), u), (wri_ed h o _).mpr ⟨c, rfl, e⟩, (hl u).mp hu⟩
      · rintro ⟨o, r, q, hq, ab⟩
        obtain ⟨c, _, e⟩ := (wri_ed h o q).mp hq
        exact ⟨o, (sil_rt h _ _).mp r, (before_bt hf.len o).mpr ⟨q.2, ld_ed.mpr ⟨c, e⟩, (hl q.2).mpr ab⟩⟩
    rw [Nat.add_assoc, Nat.add_comm 1 k] at this
    exact this
/-- the tables: places able -/
theorem tables_at (h : Brd M A x) {k : Nat} (hk : k ≤ 16) : ∃ f, ((A.net.board x).tables)[k]? = some f ∧ Fr A x f ∧ ∀ p, bt f p ↔ Able (notes M (bI x)) (isEnd M (bI x)) k p := by
  obtain ⟨h1, h2⟩ := backQ_fr h (end_fr h)
  have h3 : ∀ p, bt (Wm.backOn (A.net.board x).close (A.net.board x).quiets (Wm.ending x.length (finB A))) p ↔ Able (notes M (bI x)) (isEnd M (bI x)) 0 p := fun p => by
    rw [h2 p]
    show _ ↔ ∃ t, Star (sil (notes M (bI x))) p t ∧ isEnd M (bI x) t = true
    constructor
    · rintro ⟨o, r, ho⟩
      exact ⟨o, (sil_rt h _ _).mpr r, (isEnd_iff h o).mpr ((end_bt _ _ o).mp ho)⟩
    · rintro ⟨o, r, ho⟩
      exact ⟨o, (sil_rt h _ _).mp r, (end_bt _ _ o).mpr ((isEnd_iff h o).mp ho)⟩
  have h4 := tab_fr h k 0 _ h1 h3
  rw [Nat.zero_add] at h4
  exact ⟨_, able_at _ 16 k _ hk, h4⟩
end
end Tw

/-! # Plain law: answers in order -/
namespace Tw
open TW
/-- o is the least of these bytes -/
def Lst (C : UInt8 → Prop) (o : Option UInt8) : Prop := (o = none ∧ ∀ c, ¬ C c) ∨ ∃ c, o = some c ∧ C c ∧ ∀ d, C d → c.toNat ≤ d.toNat
theorem Lst.congr {C C' : UInt8 → Prop} {o : Option UInt8} (h : Lst C o) (e : ∀ c, C c ↔ C' c) : Lst C' o := by
  rcases h with ⟨h1, h2⟩ | ⟨c, h1, h2, h3⟩
  · exact .inl ⟨h1, fun c q => h2 c ((e c).mpr q)⟩
  · exact .inr ⟨c, h1, (e c).mp h2, fun d q => h3 d ((e d).mpr q)⟩
/-- low lets it pass -/
def Pas (low : Option UInt8) (c : UInt8) : Prop := ∀ d, low = some d → d.toNat < c.toNat
theorem lesser_ok {C : UInt8 → Prop} {low o : Option UInt8} {c : UInt8} (h : Lst C o) : Lst (fun z => C z ∨ (z = c ∧ Pas low c)) (Wm.lesser low o c) := by
  unfold Wm.lesser
  by_cases l : low.any (fun (d : UInt8) => decide (c ≤ d)) = true
  · rw [if_pos l]
    refine h.congr fun z => ⟨.inl, fun q => q.elim (fun q => q) fun ⟨_, p⟩ => ?_⟩
    exfalso
    cases hl : low with
    | none => rw [hl] at l; cases l
    | some d =>
      rw [hl] at l
      have l : c ≤ d := by simpa using l
      have := p d hl
      have l : c.toNat ≤ d.toNat := UInt8.le_iff_toNat_le.mp l
      omega
  · rw [if_neg l]
    have p : Pas low c := fun d e => by
      rw [e] at l
      have l : ¬ c ≤ d := by simpa using l
      have l : ¬ c.toNat ≤ d.toNat := fun q => l (UInt8.le_iff_toNat_le.mpr q)
      omega
    rcases h with ⟨h1, h2⟩ | ⟨d, h1, h2, h3⟩
    · rw [h1]
      refine .inr ⟨c, rfl, .inr ⟨rfl, p⟩, fun e q => ?_⟩
      rcases q with q | ⟨q, _⟩
      · exact absurd q (h2 e)
      · rw [q]; exact Nat.le_refl _
    · rw [h1]
      show Lst _ (if c < d then some c else some d)
      by_cases k : c < d
      · rw [if_pos k]
        have k : c.toNat < d.toNat := UInt8.lt_iff_toNat_lt.mp k
        refine .inr ⟨c, rfl, .inr ⟨rfl, p⟩, fun e q => ?_⟩
        rcases q with q | ⟨q, _⟩
        · have := h3 e q; omega
        · rw [q]; exact Nat.le_refl _
      · rw [if_neg k]
        have k : ¬ c.toNat < d.toNat := fun q => k (UInt8.lt_iff_toNat_lt.mpr q)
        refine .inr ⟨d, rfl, .inl h2, fun e q => ?_⟩
        rcases q with q | ⟨q, _⟩
        · exact h3 e q
        · rw [q]; omega
theorem pickIn_ok {low : Option UInt8} {m t : Nat} : ∀ (l : List Wm.Arc) {C : UInt8 → Prop} {o : Option UInt8}, Lst C o → Lst (fun z => C z ∨ ∃ a ∈ l, a.writes = some z ∧ m.testBit a.src = true ∧ t.testBit a.dst = true ∧ Pas low z) (Wm.pickIn low l m t o)
  | [], C, o, h => h.congr fun z => ⟨.inl, fun q => q.elim (fun q => q) fun ⟨a, ha, _⟩ => (nomatch ha)⟩
  | a :: r, C, o, h => by
    unfold Wm.pickIn
    rw [List.foldl_cons]
    cases hw : a.writes with
    | none =>
      refine (pickIn_ok r h).congr fun z => ⟨fun q => q.elim .inl fun ⟨b, hb, q⟩ => .inr ⟨b, List.mem_cons_of_mem _ hb, q⟩, fun q => q.elim .inl fun ⟨b, hb, q⟩ => ?_⟩
      rcases List.mem_cons.mp hb with hb | hb
      · rw [hb, hw] at q; exact absurd q.1 (fun z => nomatch z)
      · exact .inr ⟨b, hb, q⟩
    | some c =>
      dsimp only
      by_cases k : m.testBit a.src = true ∧ t.testBit a.dst = true
      · rw [if_pos k]
        refine (pickIn_ok r (lesser_ok (low := low) (c := c) h)).congr fun z => ⟨fun q => ?_, fun q => ?_⟩
        · rcases q with (q | ⟨q1, q2⟩) | ⟨b, hb, q⟩
          · exact .inl q
          · exact .inr ⟨a, List.mem_cons_self .., by rw [hw, q1], k.1, k.2, by rw [q1]; exact q2⟩
          · exact .inr ⟨b, List.mem_cons_of_mem _ hb, q⟩
        · rcases q with q | ⟨b, hb, q1, q2, q3, q4⟩
          · exact .inl (.inl q)
          · rcases List.mem_cons.mp hb with hb | hb
            · rw [hb, hw] at q1
              injection q1 with q1
              exact .inl (.inr ⟨q1.symm, by rw [q1]; exact q4⟩)
            · exact .inr ⟨b, hb, q1, q2, q3, q4⟩
      · rw [if_neg k]
        refine (pickIn_ok r h).congr fun z => ⟨fun q => q.elim .inl fun ⟨b, hb, q⟩ => .inr ⟨b, List.mem_cons_of_mem _ hb, q⟩, fun q => q.elim .inl fun ⟨b, hb, q1, q2, q3, q4⟩ => ?_⟩
        rcases List.mem_cons.mp hb with hb | hb
        · rw [hb] at q2 q3; exact absurd ⟨q2, q3⟩ k
        · exact .inr ⟨b, hb, q1, q2, q3, q4⟩
/-- candidates by rows -/
def Cand (lo : List Wm.Arc) (q : List (List Wm.Arc)) (l t : List Nat) (z : UInt8) : Prop := ∃ i, i < l.length ∧ ((∃ a ∈ lo, a.writes = some z ∧ (l.getD i 0).testBit a.src = true ∧ (t.getD i 0).testBit a.dst = true) ∨ ∃ a ∈ q.getD i [], a.writes = some z ∧ (l.getD i 0).testBit a.src = true ∧ (t.getD (i + 1) 0).testBit a.dst = true)
theorem pickOn_ok {low : Option UInt8} {lo : List Wm.Arc} : ∀ (l t : List Nat) (q : List (List Wm.Arc)) {C : UInt8 → Prop} {o : Option UInt8}, l.length = t.length → Lst C o → Lst (fun z => C z ∨ (Cand lo q l t z ∧ Pas low z)) (Wm.pickOn low lo q l t o)
  | [], [], q, C, o, _, h => h.congr fun z => ⟨.inl, fun q => q.elim (fun q => q) fun ⟨⟨i, hi, _⟩, _⟩ => by simp at hi⟩
  | m :: l, k :: t, q, C, o, e, h => by
    unfold Wm.pickOn
    rw [headD_getD, headD_getD]
    refine (pickOn_ok l t (q.drop 1) (by simpa using e) (pickIn_ok (low := low) (q.getD 0 []) (m := m) (t := t.getD 0 0) (pickIn_ok (low := low) lo (m := m) (t := k) h))).congr fun z => ⟨fun w => ?_, fun w => ?_⟩
    · rcases w with ((w | ⟨a, ha, w1, w2, w3, w4⟩) | ⟨a, ha, w1, w2, w3, w4⟩) | ⟨⟨i, hi, w⟩, w4⟩
      · exact .inl w
      · exact .inr ⟨⟨0, by simp, .inl ⟨a, ha, w1, w2, w3⟩⟩, w4⟩
      · exact .inr ⟨⟨0, by simp, .inr ⟨a, ha, w1, w2, w3⟩⟩, w4⟩
      · rw [drop_getD] at w
        exact .inr ⟨⟨i + 1, by simp; exact hi, w⟩, w4⟩
    · rcases w with w | ⟨⟨i, hi, w⟩, w4⟩
      · exact .inl (.inl (.inl w))
      · cases i with
        | zero =>
          rcases w with ⟨a, ha, w1, w2, w3⟩ | ⟨a, ha, w1, w2, w3⟩
          · exact .inl (.inl (.inr ⟨a, ha, w1, w2, w3, w4⟩))
          · exact .inl (.inr ⟨a, ha, w1, w2, w3, w4⟩)
        | succ i =>
          refine .inr ⟨⟨i, by simp at hi; exact hi, ?_⟩, w4⟩
          rw [drop_getD]
          exact w
section
variable {M : PM} {A : Wm.Mach} {x : List UInt8}
theorem cand_iff {N : Wm.Net} {l t : List Nat} (hl : l.length = x.length + 1) (ht : t.length = x.length + 1) (z : UInt8) : Cand (N.still ld) (N.reading x ld) l t z ↔ ∃ o u, bt l o ∧ Ed x.length (N.still (wc z)) (N.reading x (wc z)) o u ∧ bt t u := by
  constructor
  · rintro ⟨i, hi, ⟨a, ha, h1, h2, h3⟩ | ⟨a, ha, h1, h2, h3⟩⟩
    · obtain ⟨q1, q2, q3⟩ := mem_still.mp ha
      exact ⟨(i, a.src), (i, a.dst), h2, ed_iff.mpr ⟨a, q1, wc_iff.mpr h1, rfl, rfl, .inl ⟨q2, rfl, by show i ≤ x.length; omega⟩⟩, h3⟩
    · obtain ⟨q1, ⟨c, hc, q2⟩, q3⟩ := mem_reading.mp ha
      exact ⟨(i, a.src), (i + 1, a.dst), h2, ed_iff.mpr ⟨a, q1, wc_iff.mpr h1, rfl, rfl, .inr ⟨c, hc, q2, rfl⟩⟩, h3⟩
  · rintro ⟨⟨i, s⟩, ⟨j, v⟩, h1, h2, h3⟩
    have hi := bt_row h1
    obtain ⟨a, ha, hw, e1, e2, h4⟩ := ed_iff.mp h2
    have hw := wc_iff.mp hw
    have hld : ld a = true := by unfold ld; rw [hw]; rfl
    have e1 : a.src = s := e1
    have e2 : a.dst = v := e2
    subst e1 e2
    refine ⟨i, hi, ?_⟩
    rcases h4 with ⟨hr, e, _⟩ | ⟨c, hc, hr, e⟩
    · have e : j = i := e
      subst e
      exact .inl ⟨a, mem_still.mpr ⟨ha, hr, hld⟩, hw, h1, h3⟩
    · have e : j = i + 1 := e
      subst e
      exact .inr ⟨a, mem_reading.mpr ⟨ha, ⟨c, hc, hr⟩, hld⟩, hw, h1, h3⟩
/-- the least byte, in the program's words -/
theorem pick_ok (h : Brd M A x) {low : Option UInt8} {l t : List Nat} (hl : Fr A x l) (ht : Fr A x t) : Lst (fun z => (∃ s p, bt l s ∧ p ∈ wri (notes M (bI x)) s ∧ p.1 = (z.toNat : Int) ∧ bt t p.2) ∧ Pas low z) ((A.net.board x).pick low l t) := by
  refine (pickOn_ok (low := low) (lo := A.net.still ld) l t (A.net.reading x ld) (C := fun _ => False) (o := none) (by rw [hl.len, ht.len]) (.inl ⟨rfl, fun _ q => q⟩)).congr fun z => ?_
  rw [cand_iff hl.len ht.len]
  constructor
  · rintro (q | ⟨⟨o, u, h1, h2, h3⟩, q⟩)
    · exact q.elim
    · exact ⟨⟨o, ((z.toNat : Int), u), h1, (wri_ed h o _).mpr ⟨z, rfl, h2⟩, rfl, h3⟩, q⟩
  · rintro ⟨⟨s, p, h1, h2, h3, h4⟩, q⟩
    obtain ⟨c, e, h5⟩ := (wri_ed h s p).mp h2
    have : c = z := by
      rw [h3] at e
      exact UInt8.toNat_inj.mp (by omega)
    subst this
    exact .inr ⟨⟨s, p.2, h1, h5, h4⟩, q⟩
def lowI : Option UInt8 → Int
  | none => 0
  | some c => (c.toNat : Int) + 1
theorem pas_iff {low : Option UInt8} {z : UInt8} : Pas low z ↔ lowI low ≤ (z.toNat : Int) := by
  cases low with
  | none => exact ⟨fun _ => by show (0 : Int) ≤ _; omega, fun _ d e => by cases e⟩
  | some c =>
    constructor
    · intro h; have := h c rfl; show (c.toNat : Int) + 1 ≤ _; omega
    · intro h d e
      injection e with e
      subst e
      have h : (c.toNat : Int) + 1 ≤ (z.toNat : Int) := h
      omega
theorem wri_byte (h : Brd M A x) {s : Spot} {p : Int × Spot} (hp : p ∈ wri (notes M (bI x)) s) : ∃ c : UInt8, p.1 = (c.toNat : Int) := by
  obtain ⟨c, e, _⟩ := (wri_ed h s p).mp hp
  exact ⟨c, e⟩
theorem pick_some (h : Brd M A x) {low : Option UInt8} {l t : List Nat} (hl : Fr A x l) (ht : Fr A x t) {S U : Spot → Prop} (hS : ∀ p, bt l p ↔ S p) (hU : ∀ p, bt t p ↔ U p) {b : Int} (k : LB (notes M (bI x)) S U (lowI low) b) : ∃ c : UInt8, b = (c.toNat : Int) ∧ (A.net.board x).pick low l t = some c := by
  obtain ⟨⟨s, p, k1, k2, k3, k4⟩, k5, k6⟩ := k
  obtain ⟨c, hc⟩ := wri_byte h k2
  rw [k3] at hc
  refine ⟨c, hc, ?_⟩
  rcases pick_ok h (low := low) hl ht with ⟨h1, h2⟩ | ⟨d, h1, ⟨⟨s', p', d1, d2, d3, d4⟩, d5⟩, h3⟩
  · exact absurd ⟨⟨s, p, (hS s).mpr k1, k2, by rw [k3, hc], (hU _).mpr k4⟩, pas_iff.mpr (by rw [← hc]; exact k5)⟩ (h2 c)
  · have a1 : d.toNat ≤ c.toNat := h3 c ⟨⟨s, p, (hS s).mpr k1, k2, by rw [k3, hc], (hU _).mpr k4⟩, pas_iff.mpr (by rw [← hc]; exact k5)⟩
    have a2 := k6 s' p' ((hS _).mp d1) d2 ((hU _).mp d4) (by rw [d3]; exact pas_iff.mp d5)
    rw [d3, hc] at a2
    have : d = c := UInt8.toNat_inj.mp (by omega)
    rw [h1, this]
theorem pick_none (h : Brd M A x) {low : Option UInt8} {l t : List Nat} (hl : Fr A x l) (ht : Fr A x t) {S U : Spot → Prop} (hS : ∀ p, bt l p ↔ S p) (hU : ∀ p, bt t p ↔ U p) (k : NoB (notes M (bI x)) S U (lowI low)) : (A.net.board x).pick low l t = none := by
  rcases pick_ok h (low := low) hl ht with ⟨h1, h2⟩ | ⟨d, h1, ⟨⟨s', p', d1, d2, d3, d4⟩, d5⟩, h3⟩
  · exact h1
  · have := k s' p' ((hS _).mp d1) d2 ((hU _).mp d4)
    have q := pas_iff.mp d5
    rw [d3] at this
    omega
/-- rows of places able, the next first -/
def Rows (M : PM) (A : Wm.Mach) (x : List UInt8) : List (List Nat) → Prop
  | [] => True
  | t :: r => Fr A x t ∧ (∀ p, bt t p ↔ Able (notes M (bI x)) (isEnd M (bI x)) r.length p) ∧ Rows M A x r
theorem rows_of (h : Brd M A x) : ∀ k, k ≤ 17 → (((A.net.board x).tables.take k).reverse).length = k ∧ Rows M A x ((A.net.board x).tables.take k).reverse
  | 0, _ => ⟨rfl, True.intro⟩
  | k + 1, hk => by
    obtain ⟨f, h1, h2, h3⟩ := tables_at h (k := k) (by omega)
    obtain ⟨i1, i2⟩ := rows_of h k (by omega)
    rw [take_more' h1, List.reverse_append]
    refine ⟨congrArg (· + 1) i1, ?_⟩
    show Rows M A x (f :: (List.take k (A.net.board x).tables).reverse)
    refine ⟨h2, ?_, i2⟩
    rw [i1]
    exact h3
where
  take_more' {α : Type} {l : List α} {i : Nat} {y : α} (h : l[i]? = some y) : l.take (i + 1) = l.take i ++ [y] := by
    rw [List.take_succ, h]
    rfl
/-- closed by going on without writing -/
def Clo (M : PM) (x : List UInt8) (S : Spot → Prop) : Prop := ∀ s u, S s → Star (sil (notes M (bI x))) s u → S u
theorem clo_step {S : Spot → Prop} {b : Int} : Clo M x (StepS (notes M (bI x)) S b) := fun s u ⟨a, p, h1, h2, h3, h4⟩ r => ⟨a, p, h1, h2, h3, h4.trans r⟩
theorem clo_begin : Clo M x (Begin (notes M (bI x))) := fun s u h r => Star.trans h r
theorem stepS_congr {N : List Note} {S S' : Spot → Prop} (h : ∀ p, S p ↔ S' p) (b : Int) (p : Spot) : StepS N S b p ↔ StepS N S' b p := ⟨fun ⟨s, q, h1, h2⟩ => ⟨s, q, (h s).mp h1, h2⟩, fun ⟨s, q, h1, h2⟩ => ⟨s, q, (h s).mpr h1, h2⟩⟩
theorem wrote_S (h : Brd M A x) {l : List Nat} (hl : Fr A x l) {S : Spot → Prop} (hS : ∀ p, bt l p ↔ S p) (c : UInt8) : Fr A x ((A.net.board x).wrote c l) ∧ ∀ p, bt ((A.net.board x).wrote c l) p ↔ StepS (notes M (bI x)) S (c.toNat : Int) p := by
  obtain ⟨h1, h2⟩ := wrote_fr h hl c
  exact ⟨h1, fun p => (h2 p).trans (stepS_congr hS _ p)⟩
theorem least_some (h : Brd M A x) : ∀ (ts : List (List Nat)) (l : List Nat) (S : Spot → Prop) (y : List Int), Rows M A x ts → Fr A x l → (∀ p, bt l p ↔ S p) → Clo M x S → (∃ s, S s ∧ Able (notes M (bI x)) (isEnd M (bI x)) ts.length s) → LeastW (notes M (bI x)) (isEnd M (bI x)) S ts.length y → ∃ z, y = bI z ∧ (A.net.board x).least ts l = some z
  | [], l, S, y, _, hl, hS, hc, ⟨s, hs, u, r, e⟩, w => by
    cases w
    refine ⟨[], rfl, ?_⟩
    unfold Wm.Board.least
    rw [if_pos ((ends_iff h hl).mpr ⟨u, (hS u).mpr (hc s u hs r), e⟩)]
  | t :: r, l, S, y, hr, hl, hS, hc, _, w => by
    obtain ⟨r1, r2, r3⟩ := hr
    cases w with
    | @cons _ _ b y lb w =>
      obtain ⟨c, e, hp⟩ := pick_some h (low := none) hl r1 hS r2 lb
      subst e
      obtain ⟨w1, w2⟩ := wrote_S h hl hS c
      obtain ⟨⟨s, p, k1, k2, k3, k4⟩, _⟩ := lb
      obtain ⟨z, e, hz⟩ := least_some h r _ _ y r3 w1 w2 clo_step ⟨p.2, ⟨s, p, k1, k2, k3, .refl _⟩, k4⟩ w
      refine ⟨c :: z, by rw [e]; rfl, ?_⟩
      unfold Wm.Board.least
      rw [hp]
      show ((A.net.board x).least r ((A.net.board x).wrote c l)).map _ = _
      rw [hz]
      rfl
theorem least_none (h : Brd M A x) (ts : List (List Nat)) (l : List Nat) (S : Spot → Prop) (hr : Rows M A x ts) (hl : Fr A x l) (hS : ∀ p, bt l p ↔ S p) (hn : ¬ ∃ s, S s ∧ Able (notes M (bI x)) (isEnd M (bI x)) ts.length s) : (A.net.board x).least ts l = none := by
  cases ts with
  | nil =>
    unfold Wm.Board.least
    rw [if_neg]
    intro e
    obtain ⟨p, h1, h2⟩ := (ends_iff h hl).mp e
    exact hn ⟨p, (hS p).mp h1, p, .refl _, h2⟩
  | cons t r =>
    obtain ⟨r1, r2, r3⟩ := hr
    unfold Wm.Board.least
    rw [pick_none h (low := none) hl r1 hS r2 (fun s p h1 h2 h3 => (hn ⟨s, h1, s, .refl _, p, h2, h3⟩).elim)]
theorem later_none (h : Brd M A x) : ∀ (p : List UInt8) (ts : List (List Nat)) (l : List Nat) (S : Spot → Prop), ts.length = p.length → Rows M A x ts → Fr A x l → (∀ p, bt l p ↔ S p) → NoLater (notes M (bI x)) (isEnd M (bI x)) S (bI p) → (A.net.board x).later ts l p = none
  | [], ts, l, S, e, _, _, _, _ => by
    cases ts with
    | nil => rfl
    | cons _ _ => simp at e
  | c :: p, [], _, _, e, _, _, _, _ => by simp at e
  | c :: p, t :: r, l, S, e, hr, hl, hS, ⟨n1, n2⟩ => by
    obtain ⟨r1, r2, r3⟩ := hr
    have e : r.length = p.length := by simpa using e
    obtain ⟨w1, w2⟩ := wrote_S h hl hS c
    have i := later_none h p r _ _ e r3 w1 w2 n1
    have bl : (bI p).length = r.length := by rw [bI_len, e]
    unfold Wm.Board.later
    rw [i]
    show (match (A.net.board x).pick (some c) l t with
      | none => none
      | some d => _) = none
    rw [pick_none h (low := some c) hl r1 hS (U := Able (notes M (bI x)) (isEnd M (bI x)) (List.map (fun b : UInt8 => (b.toNat : Int)) p).length) (fun q => by
      rw [show (List.map (fun b : UInt8 => (b.toNat : Int)) p).length = r.length from bl]
      exact r2 q) n2]
theorem later_some (h : Brd M A x) : ∀ (p : List UInt8) (ts : List (List Nat)) (l : List Nat) (S : Spot → Prop) (y : List Int), ts.length = p.length → Rows M A x ts → Fr A x l → (∀ p, bt l p ↔ S p) → LaterW (notes M (bI x)) (isEnd M (bI x)) S (bI p) y → ∃ z, y = bI z ∧ (A.net.board x).later ts l p = some z
  | [], ts, l, S, y, e, _, _, _, w => by cases w
  | c :: p, [], _, _, _, e, _, _, _, _ => by simp at e
  | c :: p, t :: r, l, S, y, e, hr, hl, hS, w => by
    obtain ⟨r1, r2, r3⟩ := hr
    have e : r.length = p.length := by simpa using e
    have bl : (bI p).length = r.length := by rw [bI_len, e]
    have w : LaterW (notes M (bI x)) (isEnd M (bI x)) S ((c.toNat : Int) :: bI p) y := w
    cases w with
    | @deep _ _ _ y ww =>
      obtain ⟨w1, w2⟩ := wrote_S h hl hS c
      obtain ⟨z, e2, hz⟩ := later_some h p r _ _ y e r3 w1 w2 ww
      refine ⟨c :: z, by rw [e2]; rfl, ?_⟩
      unfold Wm.Board.later
      rw [hz]
      rfl
    | @here _ _ d _ y n1 lb ww =>
      obtain ⟨w1, w2⟩ := wrote_S h hl hS c
      have i := later_none h p r _ _ e r3 w1 w2 n1
      rw [bl] at lb ww
      obtain ⟨d', e2, hp⟩ := pick_some h (low := some c) hl r1 hS r2 lb
      subst e2
      obtain ⟨v1, v2⟩ := wrote_S h hl hS d'
      obtain ⟨⟨s, q, k1, k2, k3, k4⟩, _⟩ := lb
      obtain ⟨z, e3, hz⟩ := least_some h r _ _ y r3 v1 v2 clo_step ⟨q.2, ⟨s, q, k1, k2, k3, .refl _⟩, k4⟩ ww
      refine ⟨d' :: z, by rw [e3]; rfl, ?_⟩
      unfold Wm.Board.later
      rw [i]
      show (match (A.net.board x).pick (some c) l t with
        | none => none
        | some d => _) = _
      rw [hp]
      show ((A.net.board x).least r ((A.net.board x).wrote d' l)).map _ = _
      rw [hz]
      rfl
theorem find_range {β : Type} {f : Nat → Option β} {n k : Nat} {v : β} (hk : k < n) (h : f k = some v) (hn : ∀ j, j < k → f j = none) : (List.range n).findSome? f = some v := by
  have e : List.range n = (List.range n).take k ++ k :: (List.range n).drop (k + 1) := by
    have h1 : k < (List.range n).length := by rw [List.length_range]; exact hk
    have h2 : (List.range n).drop k = k :: (List.range n).drop (k + 1) := by
      rw [List.drop_eq_getElem_cons h1, List.getElem_range]
    rw [← h2, List.take_append_drop]
  rw [List.findSome?_eq_some_iff]
  refine ⟨(List.range n).take k, k, (List.range n).drop (k + 1), e, h, fun j hj => hn j ?_⟩
  rw [List.take_range] at hj
  have := List.mem_range.mp hj
  omega
theorem find_range0 {β : Type} {f : Nat → Option β} {n : Nat} (hn : ∀ j, j < n → f j = none) : (List.range n).findSome? f = none := by
  rw [List.findSome?_eq_none_iff]
  intro j hj
  exact hn j (List.mem_range.mp hj)
/-- words told, an answer -/
def Sm (ws : List (List Int)) (o : Option (List UInt8)) : Prop := (ws = [] ∧ o = none) ∨ ∃ z, ws = [bI z] ∧ o = some z
theorem sm_told {ws : List (List Int)} {o : Option (List UInt8)} (h : Sm ws o) : toldW ws = ansI (Wm.answer o) := by
  rcases h with ⟨h1, h2⟩ | ⟨z, h1, h2⟩
  · rw [h1, h2]; rfl
  · rw [h1, h2]
    show NLines.flat ((bI z).length : Int) [] (bI z) = NLines.flat (z.length : Int) [] (bI z)
    rw [bI_len]
theorem from_ok (h : Brd M A x) {many : Nat} {ws : List (List Int)} (w : FirstR (notes M (bI x)) (isEnd M (bI x)) many ws) : Sm ws ((A.net.board x).from_ (A.net.board x).tables many) := by
  obtain ⟨f1, f2⟩ := first_fr h
  have no : ∀ k, k ≤ 16 → ¬ Able (notes M (bI x)) (isEnd M (bI x)) k (0, 0) → (A.net.board x).least ((A.net.board x).tables.take k).reverse (A.net.board x).first = none := fun k hk hn => by
    obtain ⟨i1, i2⟩ := rows_of h k (by omega)
    refine least_none h _ _ _ i2 f1 f2 fun ⟨s, hs, ab⟩ => hn ?_
    rw [i1] at ab
    cases k with
    | zero =>
      obtain ⟨u, r, e⟩ := ab
      exact ⟨u, Star.trans hs r, e⟩
    | succ k =>
      obtain ⟨u, r, e⟩ := ab
      exact ⟨u, Star.trans hs r, e⟩
  rcases w with ⟨e, hn⟩ | ⟨k, y, e, hm, hk, ab, hn, lw⟩
  · refine .inl ⟨e, find_range0 fun j hj => ?_⟩
    by_cases c : j < many
    · rw [if_pos c]
    · rw [if_neg c]
      have hj : j < 17 := hj
      exact no j (by omega) (hn j (by omega) (by omega))
  · obtain ⟨i1, i2⟩ := rows_of h k (by omega)
    obtain ⟨z, e2, hz⟩ := least_some h _ _ _ y i2 f1 f2 clo_begin ⟨(0, 0), .refl _, by rw [i1]; exact ab⟩ (by rw [i1]; exact lw)
    refine .inr ⟨z, by rw [e, e2], find_range (k := k) (by show k < 17; omega) (by rw [if_neg (by omega)]; exact hz) fun j hj => ?_⟩
    by_cases c : j < many
    · rw [if_pos c]
    · rw [if_neg c]
      exact no j (by omega) (hn j (by omega) hj)
theorem law_next (r : MRel M A) (ok : M.Ok) {ws : List (List Int)} (w : FirstR (notes M (bI x)) (isEnd M (bI x)) 0 ws) : toldW ws = ansI (Wm.answer (A.net.next x none)) := sm_told (from_ok ⟨r, ok⟩ w)
theorem law_later (r : MRel M A) (ok : M.Ok) {p : List UInt8} (hp : p.length ≤ 16) {ws : List (List Int)} (w : NextR (notes M (bI x)) (isEnd M (bI x)) (bI p) ws) : toldW ws = ansI (Wm.answer (A.net.next x (some p))) := by
  have h : Brd M A x := ⟨r, ok⟩
  obtain ⟨f1, f2⟩ := first_fr h
  obtain ⟨i1, i2⟩ := rows_of h p.length (by omega)
  refine sm_told ?_
  rcases w with ⟨y, e, w⟩ | ⟨n, w⟩
  · obtain ⟨z, e2, hz⟩ := later_some h p _ _ _ y i1 i2 f1 f2 w
    refine .inr ⟨z, by rw [e, e2], ?_⟩
    unfold Wm.Net.next
    dsimp only
    rw [hz]
  · have hz := later_none h p _ _ _ i1 i2 f1 f2 n
    rw [bI_len] at w
    have := from_ok h w
    unfold Wm.Net.next
    dsimp only
    rw [hz]
    exact this
theorem along_fr (h : Brd M A x) : ∀ (y : List UInt8) (l : List Nat) (S : Spot → Prop), Fr A x l → (∀ p, bt l p ↔ S p) → Fr A x (y.foldl (fun (l : Wm.Front) (c : UInt8) => (A.net.board x).wrote c l) l) ∧ ∀ p, bt (y.foldl (fun (l : Wm.Front) (c : UInt8) => (A.net.board x).wrote c l) l) p ↔ ((bI y).foldl (StepS (notes M (bI x))) S) p
  | [], l, S, hl, hS => ⟨hl, hS⟩
  | c :: y, l, S, hl, hS => by
    obtain ⟨h1, h2⟩ := wrote_S h hl hS c
    exact along_fr h y _ _ h1 h2
theorem law_holds (r : MRel M A) (ok : M.Ok) {y : List UInt8} : HoldsR (notes M (bI x)) (isEnd M (bI x)) (bI y) ↔ A.net.holds x y = true := by
  have h : Brd M A x := ⟨r, ok⟩
  obtain ⟨f1, f2⟩ := first_fr h
  obtain ⟨g1, g2⟩ := along_fr h y _ _ f1 f2
  unfold Wm.Net.holds
  dsimp only
  rw [ends_iff h g1]
  unfold HoldsR
  constructor
  · rintro ⟨s, h1, h2⟩
    exact ⟨s, (g2 s).mpr h1, h2⟩
  · rintro ⟨s, h1, h2⟩
    exact ⟨s, (g2 s).mp h1, h2⟩
theorem still_nexts (h : Brd M A x) (s t : Nat) : t ∈ nexts (stillPairs M) s ↔ Ar (A.net.still fun _ => true) s t := by
  unfold nexts stillPairs Ar
  rw [List.mem_map]
  constructor
  · rintro ⟨p, hp, e⟩
    obtain ⟨h1, h2⟩ := List.mem_filter.mp hp
    obtain ⟨pa, hpa, e2⟩ := List.mem_map.mp h1
    obtain ⟨h3, h4⟩ := List.mem_filter.mp hpa
    obtain ⟨a, ha, ea⟩ := (h.rel.arcs pa).mp h3
    subst ea
    have h4 : (encA a).rd = -1 := by simpa using h4
    have h2 : p.1 = s := by simpa using h2
    refine ⟨a, mem_still.mpr ⟨ha, encB_none.mp h4, rfl⟩, ?_, ?_⟩
    · rw [← h2, ← e2]; rfl
    · rw [← e, ← e2]; rfl
  · rintro ⟨a, ha, h1, h2⟩
    obtain ⟨q1, q2, _⟩ := mem_still.mp ha
    refine ⟨(s, t), List.mem_filter.mpr ⟨List.mem_map.mpr ⟨encA a, List.mem_filter.mpr ⟨(h.rel.arcs _).mpr ⟨a, q1, rfl⟩, ?_⟩, ?_⟩, by simp⟩, rfl⟩
    · have : (encA a).rd = -1 := encB_none.mpr q2
      simp [this]
    · show (a.src, a.dst) = (s, t)
      rw [h1, h2]
theorem circ_iff (h : Brd M A x) (s : Nat) : (A.net.circles (Wm.reaches A.net.states (A.net.still fun _ => true))).testBit s = true ↔ Circling M s := by
  unfold Wm.Net.circles
  refine (fold_bits (P := fun a : Wm.Arc => ((Wm.reaches A.net.states (A.net.still fun _ => true)).getD a.dst 0).testBit a.src = true) Wm.Arc.src (A.net.still ld) 0 s).trans ?_
  simp only [Nat.zero_testBit, Bool.false_eq_true, false_or]
  have hl : ∀ a ∈ A.net.still (fun _ => true), a.dst < A.net.states := fun a ha => (h.arc (mem_still.mp ha).1).2
  unfold Circling
  constructor
  · rintro ⟨a, ha, h1, h2⟩
    obtain ⟨q1, q2, q3⟩ := mem_still.mp ha
    have hd := (h.arc q1).2
    rw [reaches_at hd, gone_bit hl hd] at h1
    refine ⟨encA a, (h.rel.arcs _).mpr ⟨a, q1, rfl⟩, encB_none.mpr q2, fun z => ?_, h2, (star_rt (still_nexts h)).mpr ?_⟩
    · have := encB_none.mp z
      unfold ld at q3
      rw [this] at q3
      cases q3
    · rw [h2] at h1
      exact h1
  · rintro ⟨pa, hpa, h1, h2, h3, h4⟩
    obtain ⟨a, ha, e⟩ := (h.rel.arcs pa).mp hpa
    subst e
    have hd := (h.arc ha).2
    have h3 : a.src = s := h3
    refine ⟨a, mem_still.mpr ⟨ha, encB_none.mp h1, ?_⟩, ?_, h3⟩
    · unfold ld
      cases hw : a.writes with
      | none => exact absurd (encB_none.mpr hw) h2
      | some c => rfl
    · rw [reaches_at hd, gone_bit hl hd, h3]
      exact (star_rt (still_nexts h)).mp h4
theorem zip_any {f g : List Nat} {n c : Nat} (hf : f.length = n) (hg : g.length = n) : ((f.zip g).any fun (z : Nat × Nat) => z.1 &&& z.2 &&& c != 0) = true ↔ ∃ p : Spot, bt f p ∧ bt g p ∧ c.testBit p.2 = true := by
  rw [List.any_eq_true]
  constructor
  · rintro ⟨z, hz, h⟩
    obtain ⟨i, hi⟩ := List.getElem?_of_mem hz
    rw [List.getElem?_zip_eq_some] at hi
    have h : z.1 &&& z.2 &&& c ≠ 0 := by simpa using h
    obtain ⟨j, h1, h2⟩ := and_bit.mp h
    rw [Nat.testBit_and, Bool.and_eq_true] at h1
    refine ⟨(i, j), ?_, ?_, h2⟩
    · unfold bt; rw [List.getD_eq_getElem?_getD, hi.1]; exact h1.1
    · unfold bt; rw [List.getD_eq_getElem?_getD, hi.2]; exact h1.2
  · rintro ⟨⟨i, j⟩, h1, h2, h3⟩
    have i1 := bt_row h1
    have i2 := bt_row h2
    have i1 : i < f.length := i1
    have i2 : i < g.length := i2
    refine ⟨(f[i], g[i]), ?_, ?_⟩
    · have : (f.zip g)[i]? = some (f[i], g[i]) := List.getElem?_zip_eq_some.mpr ⟨List.getElem?_eq_getElem i1, List.getElem?_eq_getElem i2⟩
      exact List.mem_of_getElem? this
    · unfold bt at h1 h2
      rw [List.getD_eq_getElem?_getD, List.getElem?_eq_getElem i1] at h1
      rw [List.getD_eq_getElem?_getD, List.getElem?_eq_getElem i2] at h2
      have : f[i] &&& g[i] &&& c ≠ 0 := and_bit.mpr ⟨j, by rw [Nat.testBit_and, Bool.and_eq_true]; exact ⟨h1, h2⟩, h3⟩
      simpa using this
theorem law_endless (r : MRel M A) (ok : M.Ok) : EndlessR M (bI x) ↔ A.net.endless x = true := by
  have h : Brd M A x := ⟨r, ok⟩
  unfold Wm.Net.endless
  dsimp only
  have fs := forth_sem (h.inn fun _ => true) (beg_fr h).len (beg_fr h).bd
  have bs := back_sem (h.inn fun _ => true) (end_fr h).len (end_fr h).bd
  rw [zip_any (n := x.length + 1) ((forthOn_len _ _ _ _).trans (beg_fr h).len) ((backOn_len _ _ _).trans (end_fr h).len)]
  unfold EndlessR
  constructor
  · rintro ⟨s, h1, h2, t, h3, h4⟩
    refine ⟨s, (fs s).mpr ⟨(0, 0), (beg_bt _ _).mpr rfl, (both_rt h _ _).mp h1⟩, (bs s).mpr ⟨t, (both_rt h _ _).mp h3, (end_bt _ _ t).mpr ((isEnd_iff h t).mp h4)⟩, (circ_iff h s.2).mpr h2⟩
  · rintro ⟨s, h1, h2, h3⟩
    obtain ⟨o, ho, q⟩ := (fs s).mp h1
    rw [(beg_bt _ o).mp ho] at q
    obtain ⟨t, q2, ht⟩ := (bs s).mp h2
    exact ⟨s, (both_rt h _ _).mpr q, (circ_iff h s.2).mp h3, t, (both_rt h _ _).mpr q2, (isEnd_iff h t).mpr ((end_bt _ _ t).mp ht)⟩
end
end Tw

/-! # Plain law: calls in a list -/
namespace Tw
open TW
theorem whole_id (c : List (List Int)) : PyWqazae.whole c = c := by
  unfold PyWqazae.whole
  split <;> rfl
def numL : List Nat := [0, 1, 1, 3, 5, 1, 3, 3, 2, 3, 2, 1, 1, 1, 1, 1]
def lstL : List Nat := [0, 0, 0, 0, 0, 0, 0, 0, 0, 0, 0, 0, 1, 2, 2, 1]
theorem shape_tab {p : Int} {n k : Nat} (h : PyWqazae.shape p = some (n, k)) : p = (p.toNat : Int) ∧ numL[p.toNat]? = some n ∧ lstL[p.toNat]? = some k := by
  have hp : p = 1 ∨ p = 2 ∨ p = 3 ∨ p = 4 ∨ p = 5 ∨ p = 6 ∨ p = 7 ∨ p = 8 ∨ p = 9 ∨ p = 10 ∨ p = 11 ∨ p = 12 ∨ p = 13 ∨ p = 14 ∨ p = 15 := by
    refine Classical.byContradiction fun q => ?_
    have e : PyWqazae.shape p = none := by
      unfold PyWqazae.shape
      rw [if_neg (by omega), if_neg (by omega), if_neg (by omega), if_neg (by omega), if_neg (by omega), if_neg (by omega), if_neg (by omega), if_neg (by omega), if_neg (by omega), if_neg (by omega), if_neg (by omega), if_neg (by omega), if_neg (by omega), if_neg (by omega), if_neg (by omega)]
    rw [e] at h
    cases h
  rcases hp with rfl | rfl | rfl | rfl | rfl | rfl | rfl | rfl | rfl | rfl | rfl | rfl | rfl | rfl | rfl <;>
  · have h : some _ = some (n, k) := h
    injection h with h
    injection h with h1 h2
    subst h1 h2
    exact ⟨rfl, rfl, rfl⟩
theorem calls_cons {f : Nat} {p : Int} {r : List Int} {cs : List (List (List Int))} (h : PyFlat.calls PyWqazae.shape f (p :: r) = some cs) : ∃ f' n k xs t cs', PyWqazae.shape p = some (n, k) ∧ n ≤ r.length ∧ PyFlat.rows k (r.drop n) = some (xs, t) ∧ PyFlat.calls PyWqazae.shape f' t = some cs' ∧ cs = ((p :: r.take n) :: xs) :: cs' := by
  cases f with
  | zero => cases h
  | succ f =>
    unfold PyFlat.calls PyFlat.call at h
    dsimp only at h
    cases hs : PyWqazae.shape p with
    | none => rw [hs] at h; cases h
    | some nk =>
      obtain ⟨n, k⟩ := nk
      rw [hs] at h
      dsimp only at h
      by_cases c : r.length < n
      · rw [if_pos c] at h; cases h
      · rw [if_neg c] at h
        cases hr : PyFlat.rows k (r.drop n) with
        | none => rw [hr] at h; cases h
        | some xt =>
          obtain ⟨xs, t⟩ := xt
          rw [hr] at h
          dsimp only at h
          cases hc : PyFlat.calls PyWqazae.shape f t with
          | none => rw [hc] at h; cases h
          | some cs' =>
            rw [hc] at h
            injection h with h
            exact ⟨f, n, k, xs, t, cs', rfl, by omega, hr, hc, h.symm⟩
theorem calls_nil {f : Nat} {cs : List (List (List Int))} (h : PyFlat.calls PyWqazae.shape f [] = some cs) : cs = [] := by
  cases f <;> (unfold PyFlat.calls at h; injection h with h; exact h.symm)
theorem rows_succ {k : Nat} {r t : List Int} {xs : List (List Int)} (h : PyFlat.rows (k + 1) r = some (xs, t)) : ∃ (n : Nat) (q : List Int) (xs' : List (List Int)), r = (n : Int) :: q ∧ n ≤ q.length ∧ PyFlat.rows k (q.drop n) = some (xs', t) ∧ xs = q.take n :: xs' := by
  unfold PyFlat.rows at h
  cases r with
  | nil => unfold PyFlat.row at h; cases h
  | cons z q =>
    unfold PyFlat.row at h
    dsimp only at h
    by_cases c : 0 ≤ z ∧ z.toNat ≤ q.length
    · rw [if_pos c] at h
      dsimp only at h
      cases hr : PyFlat.rows k (q.drop z.toNat) with
      | none => rw [hr] at h; cases h
      | some xt =>
        obtain ⟨xs', t'⟩ := xt
        rw [hr] at h
        injection h with h
        injection h with h1 h2
        subst h2
        exact ⟨z.toNat, q, xs', by rw [Int.toNat_of_nonneg c.1], c.2, hr, h1.symm⟩
    · rw [if_neg c] at h; cases h
theorem rows_zero {r t : List Int} {xs : List (List Int)} (h : PyFlat.rows 0 r = some (xs, t)) : xs = [] ∧ t = r := by
  unfold PyFlat.rows at h
  injection h with h
  injection h with h1 h2
  exact ⟨h1.symm, h2.symm⟩
theorem play_played : ∀ (l : List (List (List Int))) (s : Wm.State), WmNeutral.play s l = PyFlat.played WmNeutral.step s l
  | [], s => rfl
  | c :: r, s => congrArg ((WmNeutral.step s c).2 :: ·) (play_played r _)
theorem fold_from (l : List (List Int)) : ∀ m : Nat, l.foldl (fun (n : Nat) (a : List Int) => n + WmNeutral.sizeOf a) m = m + l.foldl (fun (n : Nat) (a : List Int) => n + WmNeutral.sizeOf a) 0 := by
  induction l with
  | nil => intro m; rfl
  | cons a r ih =>
    intro m
    rw [List.foldl_cons, List.foldl_cons, ih, ih (0 + _)]
    omega
theorem told_len : ∀ l : List (List Int), (PyFlat.told l).length ≤ l.foldl (fun (n : Nat) (a : List Int) => n + WmNeutral.sizeOf a) 0 + 3 * l.length
  | [] => Nat.le_refl _
  | a :: r => by
    have ih := told_len r
    rw [List.foldl_cons, fold_from]
    have e : (PyFlat.told (a :: r)).length = (a.length + 1) + (PyFlat.told r).length := by
      unfold PyFlat.told
      rw [List.flatMap_cons, List.length_append, List.length_cons]
    rw [e, List.length_cons]
    have : a.length ≤ WmNeutral.sizeOf a + 2 := by
      unfold WmNeutral.sizeOf
      by_cases c : a.length ≤ 1
      · rw [if_pos c]; omega
      · rw [if_neg c]; omega
    omega
theorem played_len (s : Wm.State) (l : List (List (List Int))) : (PyFlat.played WmNeutral.step s l).length = l.length := by
  induction l generalizing s with
  | nil => rfl
  | cons c r ih => exact congrArg (· + 1) (ih _)
/-- what is asked -/
theorem asked_of {ns : List Int} (h : PyWqazae.answers_asked ns = true) : ∃ cs, PyFlat.calls PyWqazae.shape ns.length ns = some cs ∧ (∀ c ∈ cs, WmNeutral.asked1 c = true) ∧ PyWqazae.answers ns = PyFlat.told (PyFlat.played WmNeutral.step Wm.start cs) ∧ (PyWqazae.answers ns).length ≤ 1001200 := by
  unfold PyWqazae.answers_asked PyWqazae.calls at h
  unfold PyWqazae.answers PyWqazae.calls
  cases hc : PyFlat.calls PyWqazae.shape ns.length ns with
  | none => rw [hc] at h; cases h
  | some cs =>
    rw [hc] at h
    have e : cs.map PyWqazae.whole = cs := by
      have : PyWqazae.whole = id := funext whole_id
      rw [this, List.map_id]
    dsimp only at h ⊢
    rw [e] at h ⊢
    rw [Bool.and_eq_true] at h
    have h := h.2
    unfold WmNeutral.asked at h
    rw [Bool.and_eq_true, Bool.and_eq_true, Bool.and_eq_true] at h
    obtain ⟨⟨⟨h1, _⟩, h3⟩, h4⟩ := h
    have h3 := of_decide_eq_true h3
    have h4 := of_decide_eq_true h4
    have h4 : (WmNeutral.play Wm.start cs).foldl (fun (n : Nat) (a : List Int) => n + WmNeutral.sizeOf a) 0 < 1000000 := h4
    rw [play_played] at h4
    refine ⟨cs, rfl, fun c hc => List.all_eq_true.mp h1 c hc, rfl, ?_⟩
    have := told_len (PyFlat.played WmNeutral.step Wm.start cs)
    rw [played_len] at this
    show (PyFlat.told (PyFlat.played WmNeutral.step Wm.start cs)).length ≤ _
    omega
theorem nat_of {m : Int} (h : WmNeutral.whole32 m = true) : ∃ k : Nat, m = (k : Int) := by
  unfold WmNeutral.whole32 at h
  rw [Bool.and_eq_true] at h
  exact ⟨m.toNat, (Int.toNat_of_nonneg (of_decide_eq_true h.1)).symm⟩
theorem bytes_of : ∀ {x : List Int}, (∀ z ∈ x, 0 ≤ z ∧ z ≤ 255) → ∃ b : List UInt8, x = bI b
  | [], _ => ⟨[], rfl⟩
  | z :: x, h => by
    obtain ⟨b, e⟩ := bytes_of (x := x) fun y hy => h y (List.mem_cons_of_mem _ hy)
    obtain ⟨h1, h2⟩ := h z (List.mem_cons_self ..)
    refine ⟨UInt8.ofNat z.toNat :: b, ?_⟩
    rw [e]
    show z :: bI b = (((UInt8.ofNat z.toNat).toNat : Nat) : Int) :: bI b
    rw [UInt8.toNat_ofNat']
    congr 1
    omega
theorem long_of {x : List Int} (h : WmNeutral.long x 66000 0 255 = true) : ∃ b : List UInt8, x = bI b := by
  unfold WmNeutral.long at h
  rw [Bool.and_eq_true] at h
  refine bytes_of fun z hz => ?_
  have := List.all_eq_true.mp h.2 z hz
  rw [Bool.and_eq_true] at this
  exact ⟨of_decide_eq_true this.1, of_decide_eq_true this.2⟩
theorem bytesOf_bI (b : List UInt8) : NLines.bytesOf (bI b) = b := by
  unfold NLines.bytesOf bI
  rw [List.map_map]
  conv => rhs; rw [← List.map_id b]
  apply List.map_congr_left
  intro c _
  show UInt8.ofNat ((c.toNat : Int)).toNat = c
  rw [Int.toNat_natCast]
  exact UInt8.ofNat_toNat
def mkB (p : Int) : Bool := p == 1 || p == 6 || p == 7 || p == 8 || p == 9 || p == 10
/-- the call that is asked -/
theorem asked_call {c : List (List Int)} (h : WmNeutral.asked1 c = true) : ∃ p ns ws k, c = (p :: ns) :: ws ∧ WmNeutral.callOf c = some k ∧ ((mkB p = true ∧ MakeC p ns k) ∨ (mkB p = false ∧ PlaceC p ns ws k)) := by
  unfold WmNeutral.asked1 at h
  split at h
  · obtain ⟨m, rfl⟩ := nat_of h
    exact ⟨_, _, _, _, rfl, rfl, .inl ⟨rfl, .new m⟩⟩
  · obtain ⟨m, rfl⟩ := nat_of h
    exact ⟨_, _, _, _, rfl, rfl, .inr ⟨rfl, .state m⟩⟩
  · simp only [Bool.and_eq_true] at h
    obtain ⟨⟨h1, h2⟩, h3⟩ := h
    obtain ⟨m, rfl⟩ := nat_of h1
    obtain ⟨s, rfl⟩ := nat_of h2
    obtain ⟨y, rfl⟩ := nat_of h3
    exact ⟨_, _, _, _, rfl, rfl, .inr ⟨rfl, .final m s y⟩⟩
  · simp only [Bool.and_eq_true] at h
    obtain ⟨⟨⟨⟨⟨⟨h1, h2⟩, h3⟩, _⟩, _⟩, _⟩, _⟩ := h
    obtain ⟨m, rfl⟩ := nat_of h1
    obtain ⟨a, rfl⟩ := nat_of h2
    obtain ⟨b, rfl⟩ := nat_of h3
    exact ⟨_, _, _, _, rfl, rfl, .inr ⟨rfl, .arc m a _ _ b⟩⟩
  · obtain ⟨m, rfl⟩ := nat_of h
    exact ⟨_, _, _, _, rfl, rfl, .inr ⟨rfl, .turn m⟩⟩
  · simp only [Bool.and_eq_true] at h
    obtain ⟨⟨h1, h2⟩, h3⟩ := h
    obtain ⟨m, rfl⟩ := nat_of h1
    obtain ⟨s, rfl⟩ := nat_of h2
    obtain ⟨y, rfl⟩ := nat_of h3
    exact ⟨_, _, _, _, rfl, rfl, .inl ⟨rfl, .join m s y⟩⟩
  · simp only [Bool.and_eq_true] at h
    obtain ⟨⟨h1, h2⟩, h3⟩ := h
    obtain ⟨m, rfl⟩ := nat_of h1
    obtain ⟨s, rfl⟩ := nat_of h2
    obtain ⟨y, rfl⟩ := nat_of h3
    exact ⟨_, _, _, _, rfl, rfl, .inl ⟨rfl, .follow m s y⟩⟩
  · simp only [Bool.and_eq_true] at h
    obtain ⟨h1, h2⟩ := h
    obtain ⟨m, rfl⟩ := nat_of h1
    obtain ⟨s, rfl⟩ := nat_of h2
    exact ⟨_, _, _, _, rfl, rfl, .inl ⟨rfl, .again m s⟩⟩
  · simp only [Bool.and_eq_true] at h
    obtain ⟨⟨h1, h2⟩, h3⟩ := h
    obtain ⟨m, rfl⟩ := nat_of h1
    obtain ⟨s, rfl⟩ := nat_of h2
    obtain ⟨y, rfl⟩ := nat_of h3
    exact ⟨_, _, _, _, rfl, rfl, .inl ⟨rfl, .behind m s y⟩⟩
  · simp only [Bool.and_eq_true] at h
    obtain ⟨h1, h2⟩ := h
    obtain ⟨m, rfl⟩ := nat_of h1
    obtain ⟨s, rfl⟩ := nat_of h2
    exact ⟨_, _, _, _, rfl, rfl, .inl ⟨rfl, .keep m s⟩⟩
  · obtain ⟨m, rfl⟩ := nat_of h
    exact ⟨_, _, _, _, rfl, rfl, .inr ⟨rfl, .size m⟩⟩
  · simp only [Bool.and_eq_true] at h
    obtain ⟨h1, h2⟩ := h
    obtain ⟨m, rfl⟩ := nat_of h1
    obtain ⟨x, rfl⟩ := long_of h2
    exact ⟨_, _, _, .next m x, rfl, by show some (Wm.Call.next m (NLines.bytesOf (bI x))) = _; rw [bytesOf_bI], .inr ⟨rfl, .word (.next m x)⟩⟩
  · simp only [Bool.and_eq_true] at h
    obtain ⟨⟨h1, h2⟩, h3⟩ := h
    obtain ⟨m, rfl⟩ := nat_of h1
    obtain ⟨x, rfl⟩ := long_of h2
    obtain ⟨y, rfl⟩ := long_of h3
    exact ⟨_, _, _, .later m x y, rfl, by show some (Wm.Call.later m (NLines.bytesOf (bI x)) (NLines.bytesOf (bI y))) = _; rw [bytesOf_bI, bytesOf_bI], .inr ⟨rfl, .word (.later m x y)⟩⟩
  · simp only [Bool.and_eq_true] at h
    obtain ⟨⟨h1, h2⟩, h3⟩ := h
    obtain ⟨m, rfl⟩ := nat_of h1
    obtain ⟨x, rfl⟩ := long_of h2
    obtain ⟨y, rfl⟩ := long_of h3
    exact ⟨_, _, _, .holds m x y, rfl, by show some (Wm.Call.holds m (NLines.bytesOf (bI x)) (NLines.bytesOf (bI y))) = _; rw [bytesOf_bI, bytesOf_bI], .inr ⟨rfl, .word (.holds m x y)⟩⟩
  · simp only [Bool.and_eq_true] at h
    obtain ⟨h1, h2⟩ := h
    obtain ⟨m, rfl⟩ := nat_of h1
    obtain ⟨x, rfl⟩ := long_of h2
    exact ⟨_, _, _, .endless m x, rfl, by show some (Wm.Call.endless m (NLines.bytesOf (bI x))) = _; rw [bytesOf_bI], .inr ⟨rfl, .word (.endless m x)⟩⟩
  · cases h
theorem step_call {c : List (List Int)} {k : Wm.Call} (h : WmNeutral.callOf c = some k) (s : Wm.State) : WmNeutral.step s c = ((Wm.step s k).1, ansI (Wm.step s k).2) := by
  unfold WmNeutral.step
  rw [h]
  rfl
end Tw

/-! # Readings: the desk -/
namespace Tw
open PySem PySem.Spec PyProof.Rows L2 Evl TW
theorem getD_set {α : Type} {l : List α} {i j : Nat} {x d : α} : (l.set i x).getD j d = if i = j ∧ j < l.length then x else l.getD j d := by
  rw [List.getD_eq_getElem?_getD, List.getElem?_set, List.getD_eq_getElem?_getD]
  by_cases c : i = j
  · subst c
    by_cases e : i < l.length
    · simp [e]
    · simp [e]
  · simp [c]
theorem SimR.put {ps : List (Option PM)} {s : Wm.State} {i : Nat} {o : Option PM} {u : Option Wm.Mach} (h : SimR ps s) (r : ORel o u) : SimR (ps.set i o) (s.set i u) := by
  obtain ⟨h1, h2, h3⟩ := h
  refine ⟨by rw [List.length_set]; exact h1, by rw [List.length_set]; exact h2, fun j hj => ?_⟩
  rw [getD_set, getD_set, h1, h2]
  by_cases c : i = j ∧ j < 6
  · rw [if_pos c, if_pos c]; exact r
  · rw [if_neg c, if_neg c]; exact h3 j hj
theorem ixN_nat {n k : Nat} (h : k < n) : ixN n (k : Int) = some k := by
  unfold ixN
  rw [if_pos (by omega), if_pos (by omega), Int.toNat_natCast]
/-- what goes on while a call is answered -/
structure Went (L : Lz) (H H' : Hp) : Prop where
  kp : Kp L H H'
  dm : ∀ p, H' p = none → H p = none
section
variable {G : Gs} {mg : Str → Option Value} {vs : List V} {H H' H0 H1 H2 : Hp} {Q : VK} {E : XK} {K : PySem.W.Frag} {σ : L2.St} {d a c : Addr} {L : Lz} {s s' : Wm.State} {M M' : PM} {ps : List (Option PM)}
theorem Went.of (e : Ex H H') : Went L H H' := ⟨fun b o h _ _ => e b o h, fun p hp => fresh_back e hp⟩
theorem Went.trans (x : Went L H H1) (y : Went L H1 H2) : Went L H H2 := ⟨fun b o h n k => y.kp b o (x.kp b o h n k) n k, fun p hp => x.dm p (y.dm p hp)⟩
theorem Went.exc {C dx : Addr} {fs : List (Str × V)} {o : HO} (e : Exc a H H') (ha : H a = some (.ins C dx fs)) (ha' : H' a = some o) : Went L H H' := by
  refine ⟨fun b u h _ k => e b u h fun z => ?_, fun p hp => ?_⟩
  · rw [z, ha] at h
    exact k _ _ _ (Option.some.inj h).symm
  · cases hq : H p with
    | none => rfl
    | some u =>
      by_cases z : p = a
      · rw [z, ha'] at hp; cases hp
      · rw [e p u hq z] at hp; cases hp
theorem Went.put {u o : HO} (hL : H L.l = some u) : Went L H (upd H L.l o) := by
  refine ⟨fun b u h n _ => up_ne h n, fun p hp => ?_⟩
  by_cases z : p = L.l
  · rw [z, upd_same] at hp; cases hp
  · rw [upd_ne z] at hp; exact hp
theorem DeskAt.ex (h : DeskAt G H d L ps) (e : Ex H H') : DeskAt G H' d L ps := by
  obtain ⟨dx, vs, h1, h2, h3, h4, ⟨hz, zs, hzs⟩, h5, h6⟩ := h
  exact ⟨dx, vs, e _ _ h1, e _ _ h2, h3, h4, ⟨hz, zs, e _ _ hzs⟩, fun i hi => (h5 i hi).elim .inl fun ⟨a, M, q1, q2, q3⟩ => .inr ⟨a, M, q1, q2, q3.ex e⟩, h6⟩
theorem DeskS.ex (h : DeskS G H d L s) (e : Ex H H') : DeskS G H' d L s := let ⟨ps, a, b⟩ := h; ⟨ps, a.ex e, b⟩
theorem MachZ.offL {l z : Addr} {vs : List V} {v0 : V} {o : HO} (h : MachZ G H a M z) (hL : H l = some (.lst vs)) (h0 : vs[0]? = some v0) (hv : v0 = .non ∨ ∃ b C dx fs, v0 = .ref b ∧ H b = some (.ins C dx fs)) : MachZ G (upd H l o) a M z := by
  obtain ⟨dx, f, r, h1, h2, h3, h6⟩ := h
  have n1 : a ≠ l := ne_of h1 hL (fun z => nomatch z)
  have n2 : f ≠ l := fun z => by
    rw [z, hL] at h2
    have e : vs = M.finals.map iv := by injection h2 with e; injection e
    rw [e, List.getElem?_map] at h0
    obtain ⟨x, _, e2⟩ := Option.map_eq_some_iff.mp h0
    rcases hv with q | ⟨b, _, _, _, q, _⟩
    · rw [q] at e2; cases e2
    · rw [q] at e2; cases e2
  have n3 : r ≠ l := fun z => by
    obtain ⟨ws, h4, h5⟩ := h3
    rw [z, hL] at h4
    have e : vs = ws := by injection h4 with e; injection e
    rw [← e] at h5
    obtain ⟨y, _, p, e2, hp⟩ := paired_at h5 h0
    rcases hv with q | ⟨b, _, _, _, q, hb⟩
    · rw [q] at e2; cases e2
    · rw [q] at e2
      injection e2 with e2
      rw [e2, hp] at hb
      cases hb
  exact ⟨dx, f, r, up_ne h1 n1, up_ne h2 n2, h3.keep tm_arc (tups_upd hL (fun _ z => nomatch z)) fun o ho => up_ne ho n3, h6⟩
theorem MachZ.exc {z : Addr} (h : MachZ G H a M z) {b C dx : Addr} {fs : List (Str × V)} (e : Exc b H H') (hb : H b = some (.ins C dx fs)) (n : a ≠ b) : MachZ G H' a M z := by
  obtain ⟨dx, f, r, h1, h2, h3, h6⟩ := h
  have t : Tups H H' := fun p xs hp => e p _ hp (ne_of hp hb (fun z => nomatch z))
  refine ⟨dx, f, r, e _ _ h1 n, e _ _ h2 (ne_of h2 hb (fun z => nomatch z)), h3.keep tm_arc t fun o ho => e _ _ ho fun z => ?_, h6⟩
  obtain ⟨ws, h4, _⟩ := h3
  rw [z, hb] at h4
  cases h4
theorem DeskAt.at0 {vs : List V} (h3 : vs.length = 6) (h5 : ∀ i, i < 6 → (vs[i]? = some V.non ∧ ps.getD i none = none) ∨ ∃ a M, vs[i]? = some (V.ref a) ∧ ps.getD i none = some M ∧ MachZ G H a M L.z) : ∃ v0, vs[0]? = some v0 ∧ (v0 = .non ∨ ∃ b C dx fs, v0 = .ref b ∧ H b = some (.ins C dx fs)) := by
  rcases h5 0 (by decide) with ⟨q, _⟩ | ⟨a, M, q, _, dx, f, r, h1, _⟩
  · exact ⟨_, q, .inl rfl⟩
  · exact ⟨_, q, .inr ⟨_, _, _, _, rfl, h1⟩⟩
/-- a new machine put in its place -/
theorem DeskAt.put {dx : Addr} {vs : List V} {i : Nat} (hi : i < 6) (h1 : H d = some (.ins G.cD dx [("places", .ref L.l)])) (h2 : H L.l = some (.lst vs)) (h3 : vs.length = 6) (h4 : ps.length = 6) (hz : L.l ≠ L.z ∧ ∃ zs, H L.z = some (.lst zs))
    (h5 : ∀ i, i < 6 → (vs[i]? = some V.non ∧ ps.getD i none = none) ∨ ∃ a M, vs[i]? = some (V.ref a) ∧ ps.getD i none = some M ∧ MachZ G H a M L.z) (h6 : ∀ (i j : Nat) (a : Addr), vs[i]? = some (V.ref a) → vs[j]? = some (V.ref a) → i = j)
    (hn : ∀ j : Nat, vs[j]? ≠ some (V.ref c)) (hm : MachZ G H c M L.z) : DeskAt G (upd H L.l (.lst (vs.set i (.ref c)))) d L (ps.set i (some M)) := by
  obtain ⟨v0, q1, q2⟩ := DeskAt.at0 h3 h5
  have hdL : d ≠ L.l := ne_of h1 h2 (fun z => nomatch z)
  refine ⟨dx, _, up_ne h1 hdL, upd_same, by rw [List.length_set]; exact h3, by rw [List.length_set]; exact h4, ⟨hz.1, hz.2.elim fun zs h => ⟨zs, up_ne h hz.1.symm⟩⟩, fun j hj => ?_, fun j k b hj hk => ?_⟩
  · rw [getD_set, h4, List.getElem?_set]
    by_cases e : i = j
    · subst e
      rw [if_pos rfl, if_pos (by omega), if_pos ⟨rfl, hi⟩]
      exact .inr ⟨c, M, rfl, rfl, hm.offL h2 q1 q2⟩
    · rw [if_neg e, if_neg (fun z => e z.1)]
      rcases h5 j hj with q | ⟨b, N, z1, z2, z3⟩
      · exact .inl q
      · exact .inr ⟨b, N, z1, z2, z3.offL h2 q1 q2⟩
  · rw [List.getElem?_set] at hj hk
    by_cases e : i = j
    · subst e
      rw [if_pos rfl, if_pos (by omega)] at hj
      by_cases e2 : i = k
      · exact e2
      · rw [if_neg e2] at hk
        have e3 : c = b := by injection hj with q; injection q
        rw [← e3] at hk
        exact absurd hk (hn k)
    · rw [if_neg e] at hj
      by_cases e2 : i = k
      · subst e2
        rw [if_pos rfl, if_pos (by omega)] at hk
        have e3 : c = b := by injection hk with q; injection q
        rw [← e3] at hj
        exact absurd hj (hn j)
      · rw [if_neg e2] at hk
        exact h6 j k b hj hk
/-- a machine changed where it stands -/
theorem DeskAt.mut {dx : Addr} {vs : List V} {i : Nat} (hi : i < 6) (h1 : H d = some (.ins G.cD dx [("places", .ref L.l)])) (h2 : H L.l = some (.lst vs)) (h3 : vs.length = 6) (h4 : ps.length = 6) (hz : L.l ≠ L.z ∧ ∃ zs, H L.z = some (.lst zs))
    (h5 : ∀ i, i < 6 → (vs[i]? = some V.non ∧ ps.getD i none = none) ∨ ∃ a M, vs[i]? = some (V.ref a) ∧ ps.getD i none = some M ∧ MachZ G H a M L.z) (h6 : ∀ (i j : Nat) (a : Addr), vs[i]? = some (V.ref a) → vs[j]? = some (V.ref a) → i = j)
    (hv : vs[i]? = some (V.ref a)) (ha : MachAt G H a M) (e : Exc a H H') (hm : MachZ G H' a M' L.z) : DeskAt G H' d L (ps.set i (some M')) := by
  obtain ⟨dm, f, r, hi1, _, _⟩ := ha
  have hda : d ≠ a := ne_of h1 hi1 (fun z => by injection z with z1 z2 z3; exact absurd (congrArg List.length z3) (by decide : ¬ (1 = 6)))
  refine ⟨dx, vs, e _ _ h1 hda, e _ _ h2 (ne_of h2 hi1 (fun z => nomatch z)), h3, by rw [List.length_set]; exact h4, ⟨hz.1, hz.2.elim fun zs h => ⟨zs, e _ _ h (ne_of h hi1 (fun z => nomatch z))⟩⟩, fun j hj => ?_, h6⟩
  rw [getD_set, h4]
  by_cases q : i = j
  · subst q
    rw [if_pos ⟨rfl, hi⟩]
    exact .inr ⟨a, M', hv, rfl, hm⟩
  · rw [if_neg (fun z => q z.1)]
    rcases h5 j hj with z | ⟨b, N, z1, z2, z3⟩
    · exact .inl z
    · exact .inr ⟨b, N, z1, z2, z3.exc e hi1 fun w => q (h6 i j a hv (by rw [← w]; exact z1))⟩
theorem SimR.at {i : Nat} (h : SimR ps s) (hi : i < 6) {A : Wm.Mach} (e : s.getD i none = some A) : ∃ M, ps.getD i none = some M ∧ MRel M A ∧ M.Ok := by
  have := h.2.2 i hi
  rw [e] at this
  cases hp : ps.getD i none with
  | none => rw [hp] at this; exact this.elim
  | some M => rw [hp] at this; exact ⟨M, rfl, this⟩
/-- self.places[m] -/
structure Got (G : Gs) (H : Hp) (d : Addr) (L : Lz) (ps : List (Option PM)) (s : Wm.State) (m : Nat) (a : Addr) (M : PM) (A : Wm.Mach) : Prop where
  lt : m < 6
  as : s.getD m none = some A
  pm : ps.getD m none = some M
  rel : MRel M A
  ok : M.Ok
  az : MachZ G H a M L.z
  ev : ∃ dx vs, H d = some (.ins G.cD dx [("places", .ref L.l)]) ∧ H L.l = some (.lst vs) ∧ vs[m]? = some (.ref a)
theorem Got.at_ {m : Nat} {A : Wm.Mach} (g : Got G H d L ps s m a M A) : MachAt G H a M := g.az.at
theorem desk_get {m : Nat} (hd : DeskAt G H d L ps) (sr : SimR ps s) (ht : There s m) : ∃ a M A, Got G H d L ps s m a M A := by
  obtain ⟨hm, A, hA⟩ := ht
  obtain ⟨M, h1, h2, h3⟩ := sr.at hm hA
  obtain ⟨dx, vs, q1, q2, q3, q4, qz, q5, q6⟩ := hd
  rcases q5 m hm with ⟨_, z⟩ | ⟨a, N, z1, z2, z3⟩
  · rw [h1] at z; cases z
  · rw [h1] at z2
    cases z2
    exact ⟨a, M, A, hm, hA, h1, h2, h3, z3, dx, vs, q1, q2, z1⟩
theorem ev_places (T : Txt G mg) {dx : Addr} {te : TE} (ha : Ev te σ H (.ref d)) (h : H d = some (.ins G.cD dx [("places", .ref L.l)])) : Ev (tFld G.K te "places") σ H (.ref L.l) := fun H1 e Q q =>
  ha H1 e _ fun H2 e2 => ⟨d, G.cD, dx, _, _, rfl, e2 _ _ (e _ _ h), T.k_D, T.n_places, rfl, q H2 e2⟩
theorem Got.place (T : Txt G mg) {m : Nat} {A : Wm.Mach} {te tk : TE} (g : Got G H d L ps s m a M A) (ha : Ev te σ H (.ref d)) (hk : Ev tk σ H (iv m)) : Ev (tOp (rIxL G.K) (tFld G.K te "places") tk) σ H (.ref a) := by
  obtain ⟨dx, vs, h1, h2, h3⟩ := g.ev
  exact ev_op (ev_places T ha h1) hk (rv_ixL (.of h2) (atI_nat h3))
theorem Got.ex {m : Nat} {A : Wm.Mach} (g : Got G H d L ps s m a M A) (e : Ex H H') : Got G H' d L ps s m a M A := by
  obtain ⟨dx, vs, h1, h2, h3⟩ := g.ev
  exact ⟨g.lt, g.as, g.pm, g.rel, g.ok, g.az.ex e, dx, vs, e _ _ h1, e _ _ h2, h3⟩
theorem ofM_there {m : Nat} {f : Wm.Mach → Wm.State × Wm.Ans} {A : Wm.Mach} (h : m < 6) (e : s.getD m none = some A) : Wm.ofM s m f = f A := by
  unfold Wm.ofM
  rw [if_neg (by show ¬ 6 ≤ m; omega), e]
theorem ansI_says (n : Int) : ansI (Wm.says n) = [n] := rfl
/-- [n] given back -/
theorem desk_retV {D : Ends} {r : Wm.State × Wm.Ans} {n : Int} (k : DeskRet G H d L D.rt r) (hr : r = (s', Wm.says n)) (hd : DeskS G H1 d L s') (w : Went L H H1) : ∀ p, H1 p = none → D.rt (.ref p) (upd H1 p (.lst [.int n])) := fun p hp => by
  have e : Ex H1 (upd H1 p (.lst [.int n])) := Ex.new hp
  refine k _ p (w.trans (Went.of e)).kp (w.dm p hp) ?_ ?_
  · rw [hr]; exact hd.ex e
  · rw [hr, ansI_says]; exact upd_same
theorem desk_ret {D : Ends} {r : Wm.State × Wm.Ans} {te : TE} {n : Int} (k : DeskRet G H d L D.rt r) (hr : r = (s', Wm.says n)) (hd : DeskS G H1 d L s') (w : Went L H H1) (h : Ev te σ H1 (.int n)) : tRet (tLst (tCons te tNil)) D σ H1 :=
  h H1 (Ex.refl _) _ fun H2 e2 => ⟨sz1, desk_retV k hr (hd.ex e2) (w.trans (Went.of e2))⟩
theorem pure_Desk_init (T : Txt G mg) (h : sp_Desk_init G vs H Q E) : t_Desk_init G (endsOf Q) (start n_Desk_init vs) H := by
  obtain ⟨d, dx, rfl, hd, k⟩ := h
  refine ⟨sz1, fun p hp => ⟨p, 6, [.non], rfl, rfl, upd_same, by decide, by decide, sz6 (by decide), fun q hq => ?_⟩⟩
  have e1 : Ex H (upd H p (.lst [V.non])) := Ex.new hp
  have e2 : Ex (upd H p (.lst [V.non])) (upd (upd H p (.lst [V.non])) q (.lst (List.replicate (6 : Int).toNat [V.non]).flatten)) := Ex.new hq
  have e12 := e1.trans e2
  have hq0 : H q = none := fresh_back e1 hq
  have hqd : q ≠ d := fun z => by rw [z, hd] at hq0; cases hq0
  refine ⟨_, rfl, d, G.cD, dx, _, rfl, e12 _ _ hd, T.k_D, T.n_places, (by show 0 < 1000; decide), ?_⟩
  refine k _ q _ ((Exc.of e12).trans Exc.upd) hq0 (by rw [upd_ne hqd, upd_same]) fun H2 z zs e3 hz hzs => ⟨List.replicate 6 none, ⟨dx, [.non, .non, .non, .non, .non, .non], e3 _ _ upd_same, e3 _ _ ?_, rfl, rfl, ⟨hz, zs, hzs⟩, fun i hi => .inl ?_, fun i j a hi hj => ?_⟩, ⟨rfl, rfl, fun i hi => ?_⟩⟩
  · rw [upd_ne hqd, upd_same]
    rfl
  · rcases i with _ | _ | _ | _ | _ | _ | i
    · exact ⟨rfl, rfl⟩
    · exact ⟨rfl, rfl⟩
    · exact ⟨rfl, rfl⟩
    · exact ⟨rfl, rfl⟩
    · exact ⟨rfl, rfl⟩
    · exact ⟨rfl, rfl⟩
    · omega
  · exfalso
    have hl := (List.getElem?_eq_some_iff.mp hi).1
    have hl : i < 6 := hl
    rcases i with _ | _ | _ | _ | _ | _ | i
    · cases hi
    · cases hi
    · cases hi
    · cases hi
    · cases hi
    · cases hi
    · omega
  · show ORel ((List.replicate 6 none).getD i none) ((List.replicate 6 none).getD i none)
    rw [List.getD_eq_getElem?_getD, List.getD_eq_getElem?_getD, List.getElem?_replicate, List.getElem?_replicate, if_pos hi, if_pos hi]
    exact True.intro
theorem pure_Desk_refusal (T : Txt G mg) (h : sp_Desk_refusal G vs H Q E) : t_Desk_refusal G (endsOf Q) (start n_Desk_refusal vs) H := by
  obtain ⟨d, p, L, s, ms, rfl, ⟨ps, da, sr⟩, hp, hz, k⟩ := h
  have lp : ListOf NatAt H p ms := ⟨_, hp, nats_paired _ _⟩
  refine q_if (b := !((ms.filter fun m => decide (6 ≤ m)).map id).isEmpty) (et_test (ev_neNil (R := NatAt) (el_filter (R := NatAt) (R' := NatAt) tm_nat tm_nat (fun m => decide (6 ≤ m)) id (el_var tm_nat rfl lp) (by omega) (fun y z H4 Q1 N1 hy _ e4 q1 q2 => ?_)).el)) (fun hb H1 e1 => ?_) (fun hb H1 e1 => ?_)
  · cases hy
    refine ⟨rfl, _, rfl, _, _, rfl, rfl, _, rfl, ?_⟩
    by_cases c : 6 ≤ z
    · have e : decide ((6 : Int) ≤ (z : Int)) = true := decide_eq_true (by omega)
      rw [e]
      exact iteT ⟨_, rfl, q1 (decide_eq_true c) _ H4 (Ex.refl H4) rfl⟩
    · have e : decide ((6 : Int) ≤ (z : Int)) = false := decide_eq_false (by omega)
      rw [e]
      exact iteF (q2 (decide_eq_false c) H4 (Ex.refl H4))
  · have e : refP s ms = -1 := by
      unfold refP
      rw [if_pos]
      rw [List.map_id] at hb
      cases hf : ms.filter fun m => decide (6 ≤ m) with
      | nil => rw [hf] at hb; simp at hb
      | cons x r =>
        have : x ∈ ms.filter fun m => decide (6 ≤ m) := by rw [hf]; exact List.mem_cons_self ..
        obtain ⟨q1, q2⟩ := List.mem_filter.mp this
        exact List.any_eq_true.mpr ⟨x, q1, q2⟩
    rw [e] at k
    exact s_ret ev_neg fun H2 e2 => k H2 (e1.trans e2)
  · have hlt : ∀ m ∈ ms, m < 6 := fun m hm => by
      rw [List.map_id] at hb
      by_cases c : 6 ≤ m
      · have : m ∈ ms.filter fun m => decide (6 ≤ m) := List.mem_filter.mpr ⟨hm, decide_eq_true c⟩
        cases hf : ms.filter fun m => decide (6 ≤ m) with
        | nil => rw [hf] at this; cases this
        | cons x r => rw [hf] at hb; simp at hb
      · omega
    have hany : (ms.any fun m => decide (6 ≤ m)) = false := by
      rw [List.any_eq_false]
      intro m hm
      have := hlt m hm
      simp
      omega
    have da1 := da.ex e1
    obtain ⟨dx, vs, d1, d2, d3, d4, dz, d5, d6⟩ := da1
    have hnone : ∀ m, m < 6 → (vs[m]? = some V.non ∧ (s.getD m none).isNone = true) ∨ (∃ a, vs[m]? = some (V.ref a)) ∧ (s.getD m none).isNone = false := fun m hm => by
      have h3 := sr.2.2 m hm
      rcases d5 m hm with ⟨q1, q2⟩ | ⟨a, M, q1, q2, _⟩
      · rw [q2] at h3
        cases hs : s.getD m none with
        | none => exact .inl ⟨q1, rfl⟩
        | some A => rw [hs] at h3; exact h3.elim
      · rw [q2] at h3
        cases hs : s.getD m none with
        | none => rw [hs] at h3; exact h3.elim
        | some A => exact .inr ⟨⟨a, q1⟩, rfl⟩
    refine q_if (b := !((ms.filter fun m => (s.getD m none).isNone).map id).isEmpty) (et_test (ev_neNil (R := NatAt) (el_filter (R := NatAt) (R' := NatAt) tm_nat tm_nat (fun m => (s.getD m none).isNone) id (el_var tm_nat rfl (lp.ex tm_nat e1)) (by omega) (fun y z H4 Q1 N1 hy hmem e4 q1 q2 => ?_)).el)) (fun hb2 H2 e2 => ?_) (fun hb2 H2 e2 => ?_)
    · cases hy
      rcases hnone z (hlt z hmem) with ⟨z1, z2⟩ | ⟨⟨a, z1⟩, z2⟩
      · refine ⟨rfl, _, rfl, d, G.cD, dx, _, _, rfl, e4 _ _ d1, T.k_D, T.n_places, rfl, _, rfl, L.l, vs, _, V.non, rfl, rfl, .of (e4 _ _ d2), atI_nat z1, rfl, _, rfl, ?_⟩
        exact iteT ⟨_, rfl, q1 z2 _ H4 (Ex.refl H4) rfl⟩
      · refine ⟨rfl, _, rfl, d, G.cD, dx, _, _, rfl, e4 _ _ d1, T.k_D, T.n_places, rfl, _, rfl, L.l, vs, _, V.ref a, rfl, rfl, .of (e4 _ _ d2), atI_nat z1, rfl, _, rfl, ?_⟩
        exact iteF (q2 z2 H4 (Ex.refl H4))
    · have e : refP s ms = -8 := by
        unfold refP
        rw [if_neg (by rw [hany]; decide), if_pos]
        rw [List.map_id] at hb2
        cases hf : ms.filter fun m => (s.getD m none).isNone with
        | nil => rw [hf] at hb2; simp at hb2
        | cons x r =>
          have : x ∈ ms.filter fun m => (s.getD m none).isNone := by rw [hf]; exact List.mem_cons_self ..
          obtain ⟨q1, q2⟩ := List.mem_filter.mp this
          exact List.any_eq_true.mpr ⟨x, q1, q2⟩
      rw [e] at k
      exact s_ret ev_neg fun H3 e3 => k H3 ((e1.trans e2).trans e3)
    · have e : refP s ms = 0 := by
        unfold refP
        rw [if_neg (by rw [hany]; decide), if_neg]
        intro h
        obtain ⟨m, q1, q2⟩ := List.any_eq_true.mp h
        rw [List.map_id] at hb2
        have : m ∈ ms.filter fun m => (s.getD m none).isNone := List.mem_filter.mpr ⟨q1, q2⟩
        cases hf : ms.filter fun m => (s.getD m none).isNone with
        | nil => rw [hf] at this; cases this
        | cons x r => rw [hf] at hb2; simp at hb2
      rw [e] at k
      exact k H2 (e1.trans e2)
end
end Tw

/-! # Readings: the desk's calls that build -/
namespace Tw
open PySem PySem.Spec PyProof.Rows L2 Evl TW
section
variable {G : Gs} {mg : Str → Option Value} {vs : List V} {H H' H0 H1 H2 : Hp} {Q : VK} {E : XK} {K : PySem.W.Frag} {σ : L2.St} {d a c : Addr} {L : Lz} {s s' : Wm.State} {M M' : PM} {ps : List (Option PM)}
theorem DeskAt.new_ne (da : DeskAt G H d L ps) {p : Addr} (np : H p = none) : p ≠ L.z := by
  obtain ⟨_, _, _, _, _, _, ⟨_, zs, h⟩, _⟩ := da
  exact (ne_of_none h np).symm
/-- the desk, a machine in it changed -/
theorem Got.mut {m : Nat} {A A' : Wm.Mach} (g : Got G H d L ps s m a M A) (da : DeskAt G H d L ps) (sr : SimR ps s) (e : Exc a H H') (hm : MachZ G H' a M' L.z) (r : MRel M' A' ∧ M'.Ok) : DeskS G H' d L (s.set m (some A')) ∧ Went L H H' := by
  obtain ⟨dx, vs, q1, q2, q3, q4, qz, q5, q6⟩ := da
  obtain ⟨dx', vs', z1, z2, z3⟩ := g.ev
  have ev : vs' = vs := by rw [q2] at z2; injection z2 with z2; injection z2 with z2; exact z2.symm
  subst ev
  obtain ⟨_, _, _, w1, _⟩ := id g.at_
  obtain ⟨_, _, _, w2, _⟩ := id hm
  exact ⟨⟨ps.set m (some M'), DeskAt.mut g.lt q1 q2 q3 q4 qz q5 q6 z3 g.at_ e hm, sr.put (o := some M') (u := some A') r⟩, Went.exc e w1 w2⟩
/-- a new machine put in its place -/
theorem desk_put (T : Txt G mg) {D : Ends} {te : TE} {ti : TE} {to : TE} {i : Nat} {N : PM} {B : Wm.Mach} {tz : TS} (da : DeskAt G H d L ps) (sr : SimR ps s) (hi : i < 6) (ho : ∀ H1, Ex H H1 → Ev to σ H1 (.ref d)) (hk : ∀ H1, Ex H H1 → Ev ti σ H1 (iv i))
    (hm : ∀ K : VK, (∀ H1 c, Ex H H1 → H c = none → MachNew G H H1 c N → K (.ref c) H1) → te σ H K) (r : MRel N B ∧ N.Ok) (k : ∀ H', Went L H H' → DeskS G H' d L (s.set i (some B)) → tz D σ H') :
    tSeq (tAsg te (gSub (tFld G.K to "places") ti rSetL)) tz D σ H := by
  refine hm _ fun H1 c e nc mc => ?_
  obtain ⟨dx, vs, q1, q2, q3, q4, qz, q5, q6⟩ := da.ex e
  refine ev_places T (ho H1 e) q1 H1 (Ex.refl _) _ fun H2 e2 => hk H2 (e.trans e2) H2 (Ex.refl _) _ fun H3 e3 => ?_
  have e13 := e2.trans e3
  refine ⟨L.l, vs, _, i, rfl, rfl, e13 _ _ q2, by rw [q3]; exact ixN_nat hi, ?_⟩
  obtain ⟨_, vs0, p1, p2, p3, p4, pz, p5, p6⟩ := da
  have ev : vs0 = vs := by
    have := e _ _ p2
    rw [q2] at this
    injection this with z
    injection z with z
    exact z.symm
  subst ev
  have hn : ∀ j : Nat, vs0[j]? ≠ some (V.ref c) := fun j z => by
    have hj : j < 6 := by have := (List.getElem?_eq_some_iff.mp z).1; omega
    rcases p5 j hj with ⟨w, _⟩ | ⟨b, M, w, _, _, _, _, hb, _⟩
    · rw [w] at z; cases z
    · rw [w] at z
      injection z with z
      injection z with z
      rw [z, nc] at hb
      cases hb
  refine k _ ((Went.of (e.trans e13)).trans (Went.put (e13 _ _ q2))) ⟨ps.set i (some N), DeskAt.put hi (e13 _ _ q1) (e13 _ _ q2) q3 q4 ⟨qz.1, qz.2.elim fun zs h => ⟨zs, e13 _ _ h⟩⟩ (fun j hj => (q5 j hj).elim .inl fun ⟨b, M, w1, w2, w3⟩ => .inr ⟨b, M, w1, w2, w3.ex e13⟩) q6 hn (pz.2.elim fun zs h => (mc.z h).ex e13), sr.put (o := some N) (u := some B) r⟩
theorem et_ge {ta : TE} {n m : Nat} (h : Ev ta σ H (iv n)) : EvT (tTest (tOp (rI0 fun i j => .bl (decide (j ≤ i))) ta (tC (.int (m : Int))))) σ H (decide (m ≤ n)) := et_is (et_test (ev_op h ev_c rv_I0)) (by
  by_cases c : m ≤ n
  · rw [decide_eq_true c]; exact decide_eq_true (by omega)
  · rw [decide_eq_false c]; exact decide_eq_false (by omega))
theorem et_gt {ta : TE} {n m : Nat} (h : Ev ta σ H (iv n)) : EvT (tTest (tOp (rI0 fun i j => .bl (decide (j < i))) ta (tC (.int (m : Int))))) σ H (decide (m < n)) := et_is (et_test (ev_op h ev_c rv_I0)) (by
  by_cases c : m < n
  · rw [decide_eq_true c]; exact decide_eq_true (by omega)
  · rw [decide_eq_false c]; exact decide_eq_false (by omega))
theorem et_built (T : Txt G mg) {ta : TE} (ha : Ev ta σ H (.ref a)) (hm : MachAt G H a M) : EvT (tB (tFld G.K ta "is_built")) σ H M.built := by
  obtain ⟨dx, f, r, h1, h2, h3⟩ := hm
  exact et_B (ev_fldM T ha h1 T.n_is_built rfl)
theorem pure_Desk_new (T : Txt G mg) (h : sp_Desk_new G vs H Q E) : t_Desk_new G (endsOf Q) (start n_Desk_new vs) H := by
  obtain ⟨d, m, L, s, rfl, hd, k⟩ := h
  refine q_if (et_ge (m := 6) (ev_var rfl)) (fun c H1 e1 => ?_) (fun c H1 e1 => ?_)
  · have c := of_decide_eq_true c
    exact desk_ret k (by show (if 6 ≤ m then _ else _) = _; rw [if_pos c]) (hd.ex e1) (Went.of e1) ev_neg
  · have c := of_decide_eq_false c
    obtain ⟨ps, da, sr⟩ := hd.ex e1
    refine desk_put (te := tCall (sp_new_net G) [] E0 tNil) (to := tVar 0) (ti := tVar 1) (σ := start n_Desk_new [V.ref d, iv m]) T (i := m) (N := freshM) (B := Wm.Mach.of Wm.fresh) da sr (by omega) (fun H2 e2 => ev_var rfl) (fun H2 e2 => ev_var rfl) (fun K q => ⟨rfl, fun H2 c2 e2 n2 m2 => q H2 c2 e2 n2 m2⟩) law_fresh fun H2 w2 d2 => ?_
    exact desk_ret k (by show (if 6 ≤ m then _ else _) = _; rw [if_neg c]; rfl) d2 ((Went.of e1).trans w2) ev_c
theorem pure_Desk_state (T : Txt G mg) (h : sp_Desk_state G vs H Q E) : t_Desk_state G (endsOf Q) (start n_Desk_state vs) H := by
  obtain ⟨d, m, L, s, rfl, hd, ht, k⟩ := h
  obtain ⟨ps, da, sr⟩ := hd
  obtain ⟨a, M, A, g⟩ := desk_get da sr ht
  refine q_asg (g.place T (ev_var rfl) (ev_var rfl)) fun H1 e1 => ?_
  have st : Wm.step s (.state m) = if A.open_ = true then (if 24 ≤ A.net.states then (s, Wm.says (-2)) else Wm.puts s m { A.net with states := A.net.states + 1 } (Wm.says (A.net.states : Int))) else (s, Wm.says (-3)) := ofM_there g.lt g.as
  have g1 := g.ex e1
  refine q_if (et_built T (ev_var rfl) g1.at_) (fun c H2 e2 => ?_) (fun c H2 e2 => ?_)
  · refine desk_ret k (by rw [st, g.rel.op, c]; rfl) (s' := s) ⟨ps, da.ex (e1.trans e2), sr⟩ (Went.of (e1.trans e2)) ev_neg
  · have e12 := e1.trans e2
    refine q_if (et_ge (m := 24) (ev_states T (ev_var rfl) (g1.ex e2).at_)) (fun c2 H3 e3 => ?_) (fun c2 H3 e3 => ?_)
    · have c2 := of_decide_eq_true c2
      refine desk_ret k (by rw [st, g.rel.op, c, g.rel.st]; show (if 24 ≤ M.states then _ else _) = _; rw [if_pos c2]) (s' := s) ⟨ps, da.ex (e12.trans e3), sr⟩ (Went.of (e12.trans e3)) ev_neg
    · have c2 := of_decide_eq_false c2
      have e13 := e12.trans e3
      have g3 := g.ex e13
      obtain ⟨dx, f, r, h1, h2, h3, hz⟩ := id g3.az
      refine ⟨_, rfl, a, dx, _, rfl, h1, rfl, a, dx, _, f, r, _, _, _, rfl, h1, sz1, ?_⟩
      have fa : f ≠ a := ne_of h2 h1 (fun z => nomatch z)
      have ra : r ≠ a := fun z => by
        obtain ⟨ws, h4, _⟩ := h3
        rw [z, h1] at h4
        cases h4
      have md := g3.mut (M' := M.addState) (da.ex e13) sr (Exc.upd (o := .ins G.cM dx (mF ((M.states : Int) + 1) f r ((M.ts : Int) + 1) M.ta M.built))) ⟨dx, f, r, upd_same, up_ne h2 fa, h3.keep tm_arc (tups_upd h1 (fun _ z => nomatch z)) fun o ho => up_ne ho ra, hz⟩ (law_addState g.rel g.ok c (by omega))
      exact desk_retV (n := (M.states : Int)) k (by rw [st, g.rel.op, c, g.rel.st]; show (if 24 ≤ M.states then _ else _) = _; rw [if_neg c2]; unfold Wm.puts; rw [← g.rel.st]) md.1 ((Went.of e13).trans md.2)
theorem hs_go {te : TE} {tk : TE} {n : Nat} {m : MachAt G H a M} (ha : Ev te σ H (.ref a)) (hk : Ev tk σ H (iv n)) : EvT (tB (tMeth G.cM "has_state" (sp_Machine_has_state G) [] E0 te (tCons tk tNil))) σ H (decide (n < M.states)) := fun H1 e1 Q q =>
  ha H1 e1 _ fun H2 e2 => by
    obtain ⟨dx, f, r, h1, h2, h3⟩ := m.ex (e1.trans e2)
    refine ⟨a, dx, _, rfl, h1, rfl, hk H2 (e1.trans e2) _ fun H3 e3 => ⟨a, _, dx, _, f, r, _, _, _, rfl, e3 _ _ h1, _, rfl, ?_⟩⟩
    have e : decide ((n : Int) < (M.states : Int)) = decide (n < M.states) := by
      by_cases c : n < M.states
      · rw [decide_eq_true c]; exact decide_eq_true (by omega)
      · rw [decide_eq_false c]; exact decide_eq_false (by omega)
    rw [e]
    exact q H3 (e2.trans e3)
theorem pure_Desk_final (T : Txt G mg) (h : sp_Desk_final G vs H Q E) : t_Desk_final G (endsOf Q) (start n_Desk_final vs) H := by
  obtain ⟨d, m, kk, y, L, s, rfl, hd, ht, k⟩ := h
  obtain ⟨ps, da, sr⟩ := hd
  obtain ⟨a, M, A, g⟩ := desk_get da sr ht
  refine q_asg (g.place T (ev_var rfl) (ev_var rfl)) fun H1 e1 => ?_
  have st : Wm.step s (.final m kk y) = if A.open_ = true then (if A.net.states ≤ kk then (s, Wm.says (-1)) else Wm.puts s m { A.net with finals := if y ≠ 0 then (if A.net.finals.contains kk = true then A.net.finals else kk :: A.net.finals) else A.net.finals.filter fun (j : Nat) => j != kk } (Wm.says 0)) else (s, Wm.says (-3)) := ofM_there g.lt g.as
  have g1 := g.ex e1
  refine q_if (et_built T (ev_var rfl) g1.at_) (fun c H2 e2 => ?_) (fun c H2 e2 => ?_)
  · refine desk_ret k (by rw [st, g.rel.op, c]; rfl) (s' := s) ⟨ps, da.ex (e1.trans e2), sr⟩ (Went.of (e1.trans e2)) ev_neg
  · have e12 := e1.trans e2
    refine q_if (et_not (hs_go (m := (g1.ex e2).at_) (ev_var rfl) (ev_var rfl))) (fun c2 H3 e3 => ?_) (fun c2 H3 e3 => ?_)
    · have c2 : M.states ≤ kk := by simpa using c2
      refine desk_ret k (by rw [st, g.rel.op, c, g.rel.st]; show (if M.states ≤ kk then _ else _) = _; rw [if_pos c2]) (s' := s) ⟨ps, da.ex (e12.trans e3), sr⟩ (Went.of (e12.trans e3)) ev_neg
    · have c2 : kk < M.states := by simpa using c2
      have e13 := e12.trans e3
      have g3 := g.ex e13
      obtain ⟨dx, f, r, h1, h2, h3, hz⟩ := id g3.az
      refine ⟨_, rfl, a, dx, _, rfl, h1, rfl, _, rfl, _, rfl, rfl, ?_⟩
      have ey : (!decide (iv y = V.int 0)) = decide (y ≠ 0) := by
        by_cases z : y = 0
        · rw [z]; rfl
        · rw [decide_eq_true z, decide_eq_false (fun q => z (by injection q with q; omega))]; rfl
      rw [ey]
      refine ⟨a, kk, _, dx, _, f, r, _, _, _, M.finals, rfl, h1, h2, by have := g.ok.fl; omega, fun H4 p np ec hp ha => ?_⟩
      have h3' : ArcL H4 r M.arcs := h3.keep tm_arc (fun b xs hb => ec _ _ hb (ne_of hb h1 (fun z => nomatch z))) fun o ho => ec _ _ ho fun z => by
        obtain ⟨ws, h4, _⟩ := h3
        rw [z, h1] at h4
        cases h4
      have md := g3.mut (M' := M.setFinal kk (decide (y ≠ 0))) (da.ex e13) sr ec ⟨dx, p, r, ha, hp, h3', (da.ex e13).new_ne np, hz.2⟩ (law_setFinal g.rel g.ok c c2)
      show tRet (tLst (tCons (tC (.int 0)) tNil)) (endsOf Q) ([] : L2.St) _
      exact desk_ret k (by rw [st, g.rel.op, c, g.rel.st]; show (if M.states ≤ kk then _ else _) = _; rw [if_neg (by omega)]; rfl) md.1 ((Went.of e13).trans md.2) ev_c
theorem pure_Desk_turn (T : Txt G mg) (h : sp_Desk_turn G vs H Q E) : t_Desk_turn G (endsOf Q) (start n_Desk_turn vs) H := by
  obtain ⟨d, m, L, s, rfl, hd, ht, k⟩ := h
  obtain ⟨ps, da, sr⟩ := hd
  obtain ⟨a, M, A, g⟩ := desk_get da sr ht
  have st : Wm.step s (.turn m) = (s.set m (some A.turn), Wm.says 0) := ofM_there g.lt g.as
  refine g.place T (ev_var rfl) (ev_var rfl) H (Ex.refl _) _ fun H1 e1 => ?_
  have g1 := g.ex e1
  obtain ⟨dx, f, r, h1, h2, h3, hz⟩ := id g1.az
  refine ⟨a, dx, _, rfl, h1, rfl, a, dx, _, f, r, _, _, _, M.arcs, rfl, h1, h3, by have := g.ok.al; omega, fun H4 p np ec hp ha => ?_⟩
  have md := g1.mut (M' := M.turn) (da.ex e1) sr ec ⟨dx, f, p, ha, ec _ _ h2 (ne_of h2 h1 (fun z => nomatch z)), hp, hz.1, (da.ex e1).new_ne np⟩ (law_turn g.rel g.ok)
  show tRet (tLst (tCons (tC (.int 0)) tNil)) (endsOf Q) ([] : L2.St) _
  exact desk_ret k st md.1 ((Went.of e1).trans md.2) ev_c
theorem pure_Desk_size (T : Txt G mg) (h : sp_Desk_size G vs H Q E) : t_Desk_size G (endsOf Q) (start n_Desk_size vs) H := by
  obtain ⟨d, m, L, s, rfl, hd, ht, k⟩ := h
  obtain ⟨ps, da, sr⟩ := hd
  obtain ⟨a, M, A, g⟩ := desk_get da sr ht
  have st : Wm.step s (.size m) = (s, Wm.tells 0 [A.states, A.arcs]) := ofM_there g.lt g.as
  refine q_asg (g.place T (ev_var rfl) (ev_var rfl)) fun H1 e1 => ?_
  have g1 := g.ex e1
  refine ret_call ?_
  refine cons_go ev_c fun Hz ez => ?_
  have gz := g1.ex ez
  refine cons_goE (el_int2 (ev_tstates T (ev_var rfl) gz.at_) (ev_tarcs T (ev_var rfl) gz.at_)).el fun p H2 e2 lp => ?_
  refine cons_goE (el_nil tm_int).el fun q H3 e3 lq => ?_
  refine ⟨0, p, q, _, _, rfl, e3 _ _ (intL_of lp), intL_of lq, by simp, by simp, fun H4 u e4 nu hu => ?_⟩
  have e1z := e1.trans ez
  have e14 := e1z.trans (e2.trans (e3.trans e4))
  refine k H4 u (Went.of e14).kp (fresh_back (e1z.trans (e2.trans e3)) nu) ?_ ?_
  · rw [st]; exact ⟨ps, da.ex e14, sr⟩
  · rw [st]
    show IntL H4 u (NLines.flat 0 [((A.states : Nat) : Int), ((A.arcs : Nat) : Int)] [])
    rw [g.rel.ts, g.rel.ta]
    exact hu
theorem pure_Desk_arc (T : Txt G mg) (h : sp_Desk_arc G vs H Q E) : t_Desk_arc G (endsOf Q) (start n_Desk_arc vs) H := by
  obtain ⟨d, m, t, a0, r0, w0, b0, L, s, rfl, htp, hd, ht, k⟩ := h
  obtain ⟨ps, da, sr⟩ := hd
  obtain ⟨a, M, A, g⟩ := desk_get da sr ht
  have st : Wm.step s (.arc m a0 r0 w0 b0) = if A.open_ = true then (match Wm.markOf r0, Wm.markOf w0 with
    | some i, some o => if A.net.states ≤ a0 ∨ A.net.states ≤ b0 then (s, Wm.says (-1)) else if Wm.ARCS ≤ A.net.arcs.length then (s, Wm.says (-2)) else Wm.puts s m { A.net with arcs := A.net.arcs ++ [⟨a0, i, o, b0⟩] } (Wm.says 0)
    | _, _ => (s, Wm.says (-1))) else (s, Wm.says (-3)) := ofM_there g.lt g.as
  refine q_asg (g.place T (ev_var rfl) (ev_var rfl)) fun H1 e1 => ?_
  have g1 := g.ex e1
  have htp1 := e1 _ _ htp
  refine ⟨_, rfl, t, _, rfl, .of htp1, rfl, _, _, rfl, _, _, rfl, _, _, rfl, _, _, rfl, rfl, ?_⟩
  refine q_if (et_built T (ev_var rfl) g1.at_) (fun c H2 e2 => ?_) (fun c H2 e2 => ?_)
  · refine desk_ret k (by rw [st, g.rel.op, c]; rfl) (s' := s) ⟨ps, da.ex (e1.trans e2), sr⟩ (Went.of (e1.trans e2)) ev_neg
  · have e12 := e1.trans e2
    have g2 := g1.ex e2
    have st2 := st
    rw [g.rel.op, c, g.rel.st] at st2
    have st2 : Wm.step s (.arc m a0 r0 w0 b0) = (match Wm.markOf r0, Wm.markOf w0 with
      | some i, some o => if M.states ≤ a0 ∨ M.states ≤ b0 then (s, Wm.says (-1)) else if Wm.ARCS ≤ A.net.arcs.length then (s, Wm.says (-2)) else Wm.puts s m { A.net with arcs := A.net.arcs ++ [⟨a0, i, o, b0⟩] } (Wm.says 0)
      | _, _ => (s, Wm.says (-1))) := st2
    refine q_if (et_or (et_not (hs_go (m := g2.at_) (ev_var rfl) (ev_var rfl))) fun _ => et_not (hs_go (m := g2.at_) (ev_var rfl) (ev_var rfl))) (fun c2 H3 e3 => ?_) (fun c2 H3 e3 => ?_)
    · have c2 : M.states ≤ a0 ∨ M.states ≤ b0 := by simpa using c2
      refine desk_ret k ?_ (s' := s) ⟨ps, da.ex (e12.trans e3), sr⟩ (Went.of (e12.trans e3)) ev_neg
      rw [st2]
      cases Wm.markOf r0 with
      | none => rfl
      | some i => cases Wm.markOf w0 with
        | none => rfl
        | some o => show (if M.states ≤ a0 ∨ M.states ≤ b0 then _ else _) = _; rw [if_pos c2]
    · have c2 : ¬ (M.states ≤ a0 ∨ M.states ≤ b0) := fun z => by simp at c2; omega
      have e13 := e12.trans e3
      have wr : ∀ (z : Int) (i : Nat), ([some (.ref d), some (iv m), some (.ref t), some (.ref a), some (iv a0), some (.int r0), some (.int w0), some (iv b0)] : L2.St)[i]? = some (some (.int z)) → ∀ H4, EvT (tB (tCall (sp_is_written G) [] E0 (tCons (tVar i) tNil))) ([some (.ref d), some (iv m), some (.ref t), some (.ref a), some (iv a0), some (.int r0), some (.int w0), some (iv b0)] : L2.St) H4 (Wm.markOf z).isSome := fun z i hz H4 => by
        rw [markOf_ok]
        exact et_B fun H5 e5 Q q => ⟨_, hz, z, rfl, q H5 (Ex.refl _)⟩
      refine q_if (et_or (et_not (wr r0 5 rfl H3)) fun _ => et_not (wr w0 6 rfl H3)) (fun c3 H4 e4 => ?_) (fun c3 H4 e4 => ?_)
      · refine desk_ret k ?_ (s' := s) ⟨ps, da.ex (e13.trans e4), sr⟩ (Went.of (e13.trans e4)) ev_neg
        rw [st2]
        cases h1 : Wm.markOf r0 with
        | none => rfl
        | some i => cases h2 : Wm.markOf w0 with
          | none => rfl
          | some o => rw [h1, h2] at c3; cases c3
      · obtain ⟨i, hi⟩ : ∃ i, Wm.markOf r0 = some i := by
          cases h1 : Wm.markOf r0 with
          | none => rw [h1] at c3; cases c3
          | some i => exact ⟨i, rfl⟩
        obtain ⟨o, ho⟩ : ∃ o, Wm.markOf w0 = some o := by
          cases h1 : Wm.markOf w0 with
          | none => rw [h1, hi] at c3; cases c3
          | some i => exact ⟨i, rfl⟩
        have st3 : Wm.step s (.arc m a0 r0 w0 b0) = if 300 ≤ A.net.arcs.length then (s, Wm.says (-2)) else Wm.puts s m { A.net with arcs := A.net.arcs ++ [⟨a0, i, o, b0⟩] } (Wm.says 0) := by
          rw [st2, hi, ho]
          show (if M.states ≤ a0 ∨ M.states ≤ b0 then _ else _) = _
          rw [if_neg c2]
          rfl
        obtain ⟨l1, l2⟩ := g.rel.len c
        rw [l1] at st3
        have e14 := e13.trans e4
        have g4 := g.ex e14
        obtain ⟨dx, f, r, h1, h2, h3, hz⟩ := id g4.az
        obtain ⟨rs, hrs, prs⟩ := id h3
        have rl : rs.length = M.arcs.length := Paired.length prs
        refine q_if (et_ge (m := 300) (n := M.arcs.length) (ev_is (ev_len (K := G.K) (ev_fldM T (ev_var rfl) h1 T.n_arcs rfl) (.of hrs)) (by rw [rl]))) (fun c4 H5 e5 => ?_) (fun c4 H5 e5 => ?_)
        · have c4 := of_decide_eq_true c4
          exact desk_ret k (by rw [st3, if_pos c4]) (s' := s) ⟨ps, da.ex (e14.trans e5), sr⟩ (Went.of (e14.trans e5)) ev_neg
        · have c4 := of_decide_eq_false c4
          rw [if_neg c4] at st3
          have e15 := e14.trans e5
          refine ⟨_, rfl, a, dx, _, rfl, e5 _ _ h1, rfl, _, rfl, a, .ref t, dx, _, f, r, _, _, _, rs, rfl, e5 _ _ h1, e5 _ _ hrs, by omega, fun H6 p np ec hp ha => ?_⟩
          have tt : Tups H5 H6 := fun b xs hb => ec _ _ hb (ne_of hb (e5 _ _ h1) (fun z => nomatch z))
          have md := (g4.ex e5).mut (M' := M.addArc ⟨a0, r0, w0, b0⟩) (da.ex e15) sr ec ⟨dx, f, p, ha, ec _ _ (e5 _ _ h2) (ne_of h2 h1 (fun z => nomatch z)), ⟨_, hp, paired_app (pm tm_arc ((ex_tups e5).trans tt) prs) (.cons ⟨t, rfl, tt _ _ (e15 _ _ htp)⟩ .nil)⟩, hz.1, (da.ex e15).new_ne np⟩ (law_addArc g.rel g.ok c hi ho (by omega) (by omega) (by omega))
          show tRet (tLst (tCons (tC (.int 0)) tNil)) (endsOf Q) ([] : L2.St) _
          exact desk_ret k st3 md.1 ((Went.of e15).trans md.2) ev_c
end
end Tw

/-! # Readings: the desk's calls that make one of two, of one -/
namespace Tw
open PySem PySem.Spec PyProof.Rows L2 Evl TW
section
variable {G : Gs} {mg : Str → Option Value} {vs : List V} {H H' H0 H1 H2 : Hp} {Q : VK} {E : XK} {K : PySem.W.Frag} {σ : L2.St} {d a c : Addr} {L : Lz} {s s' : Wm.State} {M M' : PM} {ps : List (Option PM)}
theorem refuse_go {te tl : TE} {ms : List Nat} (hd : DeskS G H d L s) (ha : Ev te σ H (.ref d)) (hl : EL NatAt tl σ H ms) (hz : ms.length ≤ 100) : Ev (tMeth G.cD "refusal" (sp_Desk_refusal G) [] E0 te (tCons tl tNil)) σ H (.int (refP s ms)) := fun H1 e1 Q q =>
  ha H1 e1 _ fun H2 e2 => by
    have e12 := e1.trans e2
    obtain ⟨ps, ⟨dx, vs, d1, _⟩, _⟩ := hd.ex e12
    refine ⟨d, dx, _, rfl, d1, rfl, hl H2 e12 _ fun p H3 e3 lp => ?_⟩
    obtain ⟨ws, h1, h2⟩ := lp
    have := nats_of h2
    subst this
    exact ⟨d, p, L, s, ms, rfl, hd.ex (e12.trans e3), h1, hz, fun H4 e4 => q H4 (e2.trans (e3.trans e4))⟩
theorem et_lt0 {ta : TE} {n : Int} (h : Ev ta σ H (.int n)) : EvT (tTest (tOp (rI0 fun i j => .bl (decide (i < j))) ta (tC (.int 0)))) σ H (decide (n < 0)) := et_test (ev_op h ev_c rv_I0)
theorem ref_one (m : Nat) : (refP s [m] = -1 ∧ 6 ≤ m) ∨ (refP s [m] = -8 ∧ m < 6 ∧ s.getD m none = none) ∨ (refP s [m] = 0 ∧ There s m) := by
  unfold refP
  by_cases c : 6 ≤ m
  · left
    rw [if_pos (by simp [c])]
    exact ⟨rfl, c⟩
  · right
    rw [if_neg (by simp [c])]
    cases h : s.getD m none with
    | none => left; rw [if_pos (by rw [List.any_cons, h]; rfl)]; exact ⟨rfl, by omega, rfl⟩
    | some A => right; rw [if_neg (by rw [List.any_cons, h]; simp)]; exact ⟨rfl, by omega, A, h⟩
theorem ref_two (m n : Nat) : (refP s [m, n] = -1 ∧ (6 ≤ m ∨ 6 ≤ n)) ∨ (refP s [m, n] = -8 ∧ m < 6 ∧ n < 6 ∧ (s.getD m none = none ∨ s.getD n none = none)) ∨ (refP s [m, n] = 0 ∧ There s m ∧ There s n) := by
  unfold refP
  by_cases c : 6 ≤ m ∨ 6 ≤ n
  · left
    rw [if_pos (by simp; exact c)]
    exact ⟨rfl, c⟩
  · right
    rw [if_neg (by simp; omega)]
    cases h : s.getD m none with
    | none => left; rw [if_pos (by rw [List.any_cons, h]; rfl)]; exact ⟨rfl, by omega, by omega, .inl rfl⟩
    | some A => cases h2 : s.getD n none with
      | none => left; rw [if_pos (by rw [List.any_cons, List.any_cons, h2]; simp)]; exact ⟨rfl, by omega, by omega, .inr rfl⟩
      | some B => right; rw [if_neg (by rw [List.any_cons, List.any_cons, h, h2]; simp)]; exact ⟨rfl, ⟨by omega, A, h⟩, by omega, B, h2⟩
theorem ofM_far {m : Nat} {f : Wm.Mach → Wm.State × Wm.Ans} (h : 6 ≤ m) : Wm.ofM s m f = (s, Wm.says (-1)) := by
  unfold Wm.ofM
  exact if_pos h
theorem ofM_none {m : Nat} {f : Wm.Mach → Wm.State × Wm.Ans} (h : m < 6) (e : s.getD m none = none) : Wm.ofM s m f = (s, Wm.says (-8)) := by
  unfold Wm.ofM
  rw [if_neg (by show ¬ 6 ≤ m; omega), e]
theorem ofM_ref {m : Nat} {f : Wm.Mach → Wm.State × Wm.Ans} (h : refP s [m] < 0) : Wm.ofM s m f = (s, Wm.says (refP s [m])) := by
  rcases ref_one (s := s) m with ⟨e, q⟩ | ⟨e, q1, q2⟩ | ⟨e, _⟩
  · rw [e]; exact ofM_far q
  · rw [e]; exact ofM_none q1 q2
  · rw [e] at h; exact absurd h (by decide)
theorem ref_there {m : Nat} (h : ¬ refP s [m] < 0) : There s m := by
  rcases ref_one (s := s) m with ⟨e, q⟩ | ⟨e, q1, q2⟩ | ⟨e, t⟩
  · rw [e] at h; exact absurd (by decide) h
  · rw [e] at h; exact absurd (by decide) h
  · exact t
theorem ofTwo_ref {m n : Nat} {f : Wm.Mach → Wm.Mach → Wm.State × Wm.Ans} (h : refP s [m, n] < 0) : Wm.ofTwo s m n f = (s, Wm.says (refP s [m, n])) := by
  rcases ref_two (s := s) m n with ⟨e, q⟩ | ⟨e, q1, q2, q3⟩ | ⟨e, _⟩
  · rw [e]; unfold Wm.ofTwo; exact if_pos q
  · rw [e]
    unfold Wm.ofTwo
    rw [if_neg (by show ¬ (6 ≤ m ∨ 6 ≤ n); omega)]
    cases hm : s.getD m none with
    | none => exact ofM_none q1 hm
    | some A =>
      rw [ofM_there q1 hm]
      rcases q3 with q3 | q3
      · rw [hm] at q3; cases q3
      · exact ofM_none q2 q3
  · rw [e] at h; exact absurd h (by decide)
theorem ref_both {m n : Nat} (h : ¬ refP s [m, n] < 0) : There s m ∧ There s n := by
  rcases ref_two (s := s) m n with ⟨e, q⟩ | ⟨e, q1, q2⟩ | ⟨e, t⟩
  · rw [e] at h; exact absurd (by decide) h
  · rw [e] at h; exact absurd (by decide) h
  · exact t
theorem ofTwo_there {m n : Nat} {f : Wm.Mach → Wm.Mach → Wm.State × Wm.Ans} {A B : Wm.Mach} (h : m < 6) (e : s.getD m none = some A) (h2 : n < 6) (e2 : s.getD n none = some B) : Wm.ofTwo s m n f = f A B := by
  unfold Wm.ofTwo
  rw [if_neg (by show ¬ (6 ≤ m ∨ 6 ≤ n); omega), ofM_there h e, ofM_there h2 e2]
def mkW (w : Int) (A B : Wm.Mach) : Wm.Mach := if w = 6 then Wm.join A B else if w = 7 then Wm.follow A B else Wm.behind A B
theorem step_two (w : Int) (e a b : Nat) : Wm.step s (twoC w e a b) = Wm.ofTwo s a b fun M P => Wm.makes s e (mkW w M P) := by
  unfold twoC mkW
  by_cases c : w = 6
  · rw [if_pos c]; simp only [if_pos c]; rfl
  · rw [if_neg c]
    by_cases c2 : w = 7
    · rw [if_pos c2]; simp only [if_neg c, if_pos c2]; rfl
    · rw [if_neg c2]; simp only [if_neg c, if_neg c2]; rfl
theorem law_two {w : Int} {M N : PM} {A B : Wm.Mach} (h : MRel M A) (k : MRel N B) (ok : M.Ok) (ok2 : N.Ok) : (mkW w A B).states = num1 w M N ∧ (mkW w A B).arcs = num2 w M N ∧ (num1 w M N ≤ 24 → num2 w M N ≤ 300 → MRel (madeOf w M N) (mkW w A B) ∧ (madeOf w M N).Ok) := by
  unfold mkW num1 num2 madeOf
  by_cases c : w = 6
  · simp only [if_pos c]
    exact ⟨by show A.states + B.states + 1 = _; rw [h.ts, k.ts], by show A.arcs + B.arcs + 2 = _; rw [h.ta, k.ta], law_join h k ok ok2⟩
  · simp only [if_neg c]
    by_cases c2 : w = 7
    · simp only [if_pos c2]
      exact ⟨by show A.states + B.states = _; rw [h.ts, k.ts], by show A.arcs + B.arcs + A.states = _; rw [h.ta, k.ta, h.ts], law_follow h k ok ok2⟩
    · simp only [if_neg c2]
      exact ⟨by show A.states * B.states = _; rw [h.ts, k.ts], by show A.arcs * B.arcs + A.arcs * B.states + A.states * B.arcs = _; rw [h.ta, k.ta, h.ts, k.ts], law_behind h k ok ok2⟩
theorem great_go {tn : TE} {x y : Nat} (hn : ∀ H2, Ex H H2 → ∀ K : VK, (∀ H3 p, Ex H2 H3 → H3 p = some (.lst [iv x, iv y]) → K (.ref p) H3) → tn σ H2 K) : EvT (tB (tCall (sp_is_too_great G) [] E0 (tCons tn tNil))) σ H (decide (24 < x) || decide (300 < y)) := fun H1 e1 Q q => by
  refine hn H1 e1 _ fun H3 p e3 hp => ⟨p, _, _, rfl, hp, _, rfl, ?_⟩
  have b1 : decide ((24 : Int) < (x : Int)) = decide (24 < x) := by
    by_cases c : 24 < x
    · rw [decide_eq_true c]; exact decide_eq_true (by omega)
    · rw [decide_eq_false c]; exact decide_eq_false (by omega)
  have b2 : decide ((300 : Int) < (y : Int)) = decide (300 < y) := by
    by_cases c : 300 < y
    · rw [decide_eq_true c]; exact decide_eq_true (by omega)
    · rw [decide_eq_false c]; exact decide_eq_false (by omega)
  rw [b1, b2]
  exact q H3 e3
theorem makes_far {e : Nat} {A : Wm.Mach} (h : 6 ≤ e) : Wm.makes s e A = (s, Wm.says (-1)) := by
  unfold Wm.makes
  exact if_pos h
theorem makes_great {e : Nat} {A : Wm.Mach} (h : ¬ 6 ≤ e) (k : 24 < A.states ∨ 300 < A.arcs) : Wm.makes s e A = (s, Wm.says (-2)) := by
  unfold Wm.makes
  exact (if_neg h).trans (if_pos k)
theorem makes_ok {e : Nat} {A : Wm.Mach} (h : ¬ 6 ≤ e) (k : ¬ (24 < A.states ∨ 300 < A.arcs)) : Wm.makes s e A = (s.set e (some A), Wm.says 0) := by
  unfold Wm.makes
  exact (if_neg h).trans (if_neg k)
theorem pure_Desk_of_two (T : Txt G mg) (h : sp_Desk_of_two G vs H Q E) : t_Desk_of_two G (endsOf Q) (start n_Desk_of_two vs) H := by
  obtain ⟨d, w, e, a, b, L, s, rfl, hd, k⟩ := h
  rw [step_two] at k
  refine q_asg (refuse_go (ms := [a, b]) hd (ev_var rfl) (el_disp (R := NatAt) (l := [a, b]) tm_nat (eas_cons tm_nat (fun H1 _ Q q => ⟨_, rfl, q _ H1 (Ex.refl _) rfl⟩) (eas_cons tm_nat (fun H1 _ Q q => ⟨_, rfl, q _ H1 (Ex.refl _) rfl⟩) eas_nil)) (by simp)).el (by simp)) fun H1 e1 => ?_
  refine q_if (et_lt0 (ev_var rfl)) (fun c1 H2 e2 => ?_) (fun c1 H2 e2 => ?_)
  · have c1 := of_decide_eq_true c1
    exact desk_ret k (ofTwo_ref c1) (hd.ex (e1.trans e2)) (Went.of (e1.trans e2)) (ev_var rfl)
  · have c1 := of_decide_eq_false c1
    have e12 := e1.trans e2
    obtain ⟨t1, t2⟩ := ref_both c1
    obtain ⟨ps, da, sr⟩ := hd.ex e12
    obtain ⟨p1, M, A, g⟩ := desk_get da sr t1
    obtain ⟨p2, N, B, g'⟩ := desk_get da sr t2
    rw [ofTwo_there g.lt g.as g'.lt g'.as] at k
    refine q_if (et_ge (m := 6) (ev_var rfl)) (fun c2 H3 e3 => ?_) (fun c2 H3 e3 => ?_)
    · have c2 := of_decide_eq_true c2
      exact desk_ret k (makes_far c2) (hd.ex (e12.trans e3)) (Went.of (e12.trans e3)) ev_neg
    · have c2 := of_decide_eq_false c2
      refine (g.ex e3).place T (te := tVar 0) (tk := tVar 3) (ev_var rfl) (ev_var rfl) H3 (Ex.refl _) _ fun H4 e4 => ?_
      have e34 := e3.trans e4
      refine (g'.ex e34).place T (te := tVar 0) (tk := tVar 4) (ev_var rfl) (ev_var rfl) H4 (Ex.refl _) _ fun H5 e5 => ?_
      have e35 := e34.trans e5
      refine ⟨_, _, rfl, ?_⟩
      obtain ⟨l1, l2, l3⟩ := law_two (w := w) g.rel g'.rel g.ok g'.ok
      dsimp only
      refine q_if (great_go (x := num1 w M N) (y := num2 w M N) fun H6 e6 K q => ⟨_, rfl, _, rfl, _, rfl, w, p1, p2, M, N, rfl, g.at_.ex (e35.trans e6), g'.at_.ex (e35.trans e6), g.ok, g'.ok, fun H7 p e7 _ hp => q H7 p e7 hp⟩) (fun c3 H6 e6 => ?_) (fun c3 H6 e6 => ?_)
      · have c3 : 24 < num1 w M N ∨ 300 < num2 w M N := by simpa using c3
        have e16 := e12.trans (e35.trans e6)
        exact desk_ret k (makes_great c2 (by rw [l1, l2]; exact c3)) (hd.ex e16) (Went.of e16) ev_neg
      · have c3 : ¬ (24 < num1 w M N ∨ 300 < num2 w M N) := fun z => by simp at c3; omega
        have e36 := e35.trans e6
        have e16 := e12.trans e36
        obtain ⟨q1, q2⟩ := l3 (by omega) (by omega)
        refine desk_put (te := tCall (sp_made_of_two G) [] E0 (tCons (tVar 1) (tCons (tVar 6) (tCons (tVar 7) tNil)))) (to := tVar 0) (ti := tVar 2) (σ := [some (.ref d), some (.int w), some (iv e), some (iv a), some (iv b), some (.int (refP s [a, b])), some (.ref p1), some (.ref p2)]) T (i := e) (N := madeOf w M N) (B := mkW w A B) (da.ex e36) sr (by omega) (fun _ _ => ev_var rfl) (fun _ _ => ev_var rfl) (fun K q => ⟨_, rfl, _, rfl, _, rfl, w, p1, p2, M, N, rfl, g.at_.ex e36, g'.at_.ex e36, g.ok, g'.ok, fun H7 p e7 n7 hp => q H7 p e7 n7 hp⟩) ⟨q1, q2⟩ fun H7 w7 d7 => ?_
        exact desk_ret k (makes_ok c2 (by rw [l1, l2]; exact c3)) d7 ((Went.of e16).trans w7) ev_c
theorem pure_Desk_of_one (T : Txt G mg) (h : sp_Desk_of_one G vs H Q E) : t_Desk_of_one G (endsOf Q) (start n_Desk_of_one vs) H := by
  obtain ⟨d, kb, e, a, L, s, rfl, hd, k⟩ := h
  have st : Wm.step s (oneC kb e a) = Wm.ofM s a fun M => Wm.makes s e (if kb = true then Wm.again M else Wm.keep M) := by
    unfold oneC
    cases kb <;> rfl
  rw [st] at k
  refine q_asg (refuse_go (ms := [a]) hd (ev_var rfl) (el_disp (R := NatAt) (l := [a]) tm_nat (eas_cons tm_nat (fun H1 _ Q q => ⟨_, rfl, q _ H1 (Ex.refl _) rfl⟩) eas_nil) (by simp)).el (by simp)) fun H1 e1 => ?_
  refine q_if (et_lt0 (ev_var rfl)) (fun c1 H2 e2 => ?_) (fun c1 H2 e2 => ?_)
  · have c1 := of_decide_eq_true c1
    exact desk_ret k (ofM_ref c1) (hd.ex (e1.trans e2)) (Went.of (e1.trans e2)) (ev_var rfl)
  · have c1 := of_decide_eq_false c1
    have e12 := e1.trans e2
    obtain ⟨ps, da, sr⟩ := hd.ex e12
    obtain ⟨p1, M, A, g⟩ := desk_get da sr (ref_there c1)
    rw [ofM_there g.lt g.as] at k
    refine q_if (et_ge (m := 6) (ev_var rfl)) (fun c2 H3 e3 => ?_) (fun c2 H3 e3 => ?_)
    · have c2 := of_decide_eq_true c2
      exact desk_ret k (makes_far c2) (hd.ex (e12.trans e3)) (Went.of (e12.trans e3)) ev_neg
    · have c2 := of_decide_eq_false c2
      have e13 := e12.trans e3
      have g3 := g.ex e3
      refine q_if (et_not (et_B (ev_var (v := .bl kb) rfl))) (fun c3 H4 e4 => ?_) (fun c3 H4 e4 => ?_)
      · have c3 : kb = false := by simpa using c3
        subst c3
        have e14 := e13.trans e4
        have g4 := g3.ex e4
        have s2 := g.ok.s2
        have tt := g.ok.ts
        have a2 := g.ok.a2
        refine desk_put (te := tCall (sp_keep G) [] E0 (tCons (tOp (rIxL G.K) (tFld G.K (tVar 0) "places") (tVar 3)) tNil)) (to := tVar 0) (ti := tVar 2) (σ := [some (.ref d), some (.bl false), some (iv e), some (iv a), some (.int (refP s [a]))]) T (i := e) (N := keepM M) (B := Wm.keep A) (da.ex (e3.trans e4)) sr (by omega) (fun _ _ => ev_var rfl) (fun _ _ => ev_var rfl) (fun K q => g4.place T (ev_var rfl) (ev_var rfl) H4 (Ex.refl _) _ fun H5 e5 => ⟨p1, M, rfl, g4.at_.ex e5, g.ok, fun H6 p e6 n6 hp => q H6 p (e5.trans e6) (fresh_back e5 n6) (hp.back e5)⟩) (law_keep g.rel g.ok) fun H7 w7 d7 => ?_
        exact desk_ret k (makes_ok c2 (by show ¬ (24 < A.states ∨ 300 < A.arcs); rw [g.rel.ts, g.rel.ta]; omega)) d7 ((Went.of e14).trans w7) ev_c
      · have c3 : kb = true := by simpa using c3
        subst c3
        have e14 := e13.trans e4
        have g4 := g3.ex e4
        have l1 : (Wm.again A).states = M.ts + 1 := by show A.states + 1 = _; rw [g.rel.ts]
        have l2 : (Wm.again A).arcs = M.ta + M.ts + 1 := by show A.arcs + A.states + 1 = _; rw [g.rel.ts, g.rel.ta]
        have k : DeskRet G H d L Q (Wm.makes s e (Wm.again A)) := k
        refine q_if (great_go (tn := tCall (sp_again_numbers G) [] E0 (tCons (tOp (rIxL G.K) (tFld G.K (tVar 0) "places") (tVar 3)) tNil)) (σ := [some (.ref d), some (.bl true), some (iv e), some (iv a), some (.int (refP s [a]))]) (x := M.ts + 1) (y := M.ta + M.ts + 1) fun H6 e6 K q => (g4.ex e6).place T (ev_var rfl) (ev_var rfl) H6 (Ex.refl _) _ fun H7 e7 => ⟨p1, M, rfl, (g4.ex e6).at_.ex e7, fun H8 p e8 _ hp => q H8 p (e7.trans e8) hp⟩) (fun c5 H6 e6 => ?_) (fun c5 H6 e6 => ?_)
        · have c5 : 24 < M.ts + 1 ∨ 300 < M.ta + M.ts + 1 := by simpa using c5
          have e16 := e14.trans e6
          exact desk_ret k (makes_great c2 (by rw [l1, l2]; exact c5)) (hd.ex e16) (Went.of e16) ev_neg
        · have c5 : ¬ (24 < M.ts + 1 ∨ 300 < M.ta + M.ts + 1) := fun z => by simp at c5; omega
          have e16 := e14.trans e6
          have g6 := g4.ex e6
          refine desk_put (te := tCall (sp_again G) [] E0 (tCons (tOp (rIxL G.K) (tFld G.K (tVar 0) "places") (tVar 3)) tNil)) (to := tVar 0) (ti := tVar 2) (σ := [some (.ref d), some (.bl true), some (iv e), some (iv a), some (.int (refP s [a]))]) T (i := e) (N := againM M) (B := Wm.again A) (da.ex (e3.trans (e4.trans e6))) sr (by omega) (fun _ _ => ev_var rfl) (fun _ _ => ev_var rfl) (fun K q => g6.place T (ev_var rfl) (ev_var rfl) H6 (Ex.refl _) _ fun H7 e7 => ⟨p1, M, rfl, g6.at_.ex e7, g.ok, fun H8 p e8 n8 hp => q H8 p (e7.trans e8) (fresh_back e7 n8) (hp.back e7)⟩) (law_again g.rel g.ok (by omega) (by omega)) fun H7 w7 d7 => ?_
          exact desk_ret k (makes_ok c2 (by rw [l1, l2]; exact c5)) d7 ((Went.of e16).trans w7) ev_c
end
end Tw

/-! # Readings: the desk's calls about words -/
namespace Tw
open PySem PySem.Spec PyProof.Rows L2 Evl TW
section
variable {G : Gs} {mg : Str → Option Value} {vs : List V} {H H' H0 H1 H2 : Hp} {Q : VK} {E : XK} {K : PySem.W.Frag} {σ : L2.St} {d a c : Addr} {L : Lz} {s s' : Wm.State} {M M' : PM} {ps : List (Option PM)}
/-- Answers(machine, word) -/
theorem mk_ans {t1 t2 : TE} {m w : Addr} {x : List Int} (h1 : Ev t1 σ H (.ref m)) (h2 : Ev t2 σ H (.ref w)) (hm : MachAt G H m M) (hw : IntL H w x) (ok : M.Ok) (hx : x.length ≤ 16) (k : ∀ H' a, Ex H H' → H a = none → AnsAt G H' a M x → Q (.ref a) H') :
    tMake G.cA (sp_Answers_init G) [] E0 (tCons t1 (tCons t2 tNil)) σ H Q := by
  refine h1 H (Ex.refl _) _ fun H1 e1 => h2 H1 e1 _ fun H2 e2 => ?_
  intro t dx nt nd ne
  have e := e1.trans e2
  have e3 : Ex H2 (upd (upd H2 dx (.own t)) t (.ins G.cA dx [])) := ex_up (Ex.new nd) nt
  exact ⟨t, dx, m, w, M, x, rfl, upd_same, hm.ex (e.trans e3), e3 _ _ (e _ _ hw), ok, hx, fun H' ec tt => ⟨rfl, k H' t (fun b o hb => ec b o (e3 _ _ (e _ _ hb)) (ne_of_none (e _ _ hb) nt)) (fresh_back e nt) tt⟩⟩
/-- Answers(..).m(..) -/
theorem ans_meth {sp : Sp} {nm : Str} {tr : TA} {t1 t2 : TE} {m w : Addr} {x : List Int} (h1 : Ev t1 σ H (.ref m)) (h2 : Ev t2 σ H (.ref w)) (hm : MachAt G H m M) (hw : IntL H w x) (ok : M.Ok) (hx : x.length ≤ 16) (hn : List.lookup nm [(("turning" : Str), V.non), (("rows" : Str), V.non)] = none)
    (k : ∀ H' a, Ex H H' → AnsAt G H' a M x → tr σ H' fun vs H2 => sp (.ref a :: (vs ++ [])) H2 Q E) : tMeth G.cA nm sp [] E (tMake G.cA (sp_Answers_init G) [] E0 (tCons t1 (tCons t2 tNil))) tr σ H Q := by
  refine mk_ans h1 h2 hm hw ok hx fun H' a e _ an => ?_
  obtain ⟨dx, t, r, ha, _⟩ := id an
  refine ⟨a, dx, _, rfl, ha, ?_, k H' a e an⟩
  have z : ∀ u v : V, List.lookup nm [(("turning" : Str), u), (("rows" : Str), v)] = none := fun u v => by
    unfold List.lookup at hn ⊢
    cases c : (nm == ("turning" : Str)) with
    | true => rw [c] at hn; cases hn
    | false =>
      rw [c] at hn
      unfold List.lookup at hn ⊢
      dsimp only at hn ⊢
      cases c2 : (nm == ("rows" : Str)) with
      | true => rw [c2] at hn; cases hn
      | false => rfl
  exact z _ _
theorem first_small {N : List Note} {En : Spot → Bool} {many : Nat} {ws : List (List Int)} (h : FirstR N En many ws) : ∀ w ∈ ws, w.length ≤ 1000 := fun w hw => by
  rcases h with ⟨e, _⟩ | ⟨k, y, e, _, hk, _, _, l⟩
  · rw [e] at hw; cases hw
  · rw [e] at hw
    have : w = y := by simpa using hw
    rw [this, l.len]
    omega
theorem next_small {N : List Note} {En : Spot → Bool} {p : List Int} {ws : List (List Int)} (hp : p.length ≤ 16) (h : NextR N En p ws) : ∀ w ∈ ws, w.length ≤ 1000 := fun w hw => by
  rcases h with ⟨y, e, l⟩ | ⟨_, f⟩
  · rw [e] at hw
    have : w = y := by simpa using hw
    rw [this, l.len]
    omega
  · exact first_small f w hw
theorem word_there {m : Nat} {l : List Wm.Bytes} {f : Wm.Net → Wm.Ans} {A : Wm.Mach} (h : m < 6) (e : s.getD m none = some A) : Wm.word s m l f = (s, if l.all (fun (x : Wm.Bytes) => decide (x.length ≤ 16)) = true then f A.net else Wm.says (-2)) := ofM_there h e
/-- an answer given back -/
theorem desk_retI {r : Wm.State × Wm.Ans} {n : Wm.Ans} {l : List Int} (k : DeskRet G H d L Q r) (hr : r = (s, n)) (hl : l = ansI n) (hd : DeskS G H d L s) (e : Ex H H1) : RetI H1 Q l := fun H2 p e2 np hp => by
  refine k H2 p (Went.of (e.trans e2)).kp (fresh_back e np) ?_ ?_
  · rw [hr]; exact hd.ex (e.trans e2)
  · rw [hr]
    show IntL H2 p (ansI n)
    rw [← hl]
    exact hp
theorem pure_Desk_next_word (T : Txt G mg) (h : sp_Desk_next_word G vs H Q E) : t_Desk_next_word G (endsOf Q) (start n_Desk_next_word vs) H := by
  obtain ⟨d, m, w, x, L, s, rfl, hw, hd, ht, k⟩ := h
  obtain ⟨ps, da, sr⟩ := id hd
  obtain ⟨a, M, A, g⟩ := desk_get da sr ht
  have st : Wm.step s (.next m x) = (s, if [x].all (fun (x : Wm.Bytes) => decide (x.length ≤ 16)) = true then Wm.answer (A.net.next x none) else Wm.says (-2)) := word_there (l := [x]) (f := fun N => Wm.answer (N.next x none)) g.lt g.as
  refine q_if (et_gt (m := 16) (ev_is (ev_lenI (K := G.K) (ev_var rfl) hw) rfl)) (fun c H1 e1 => ?_) (fun c H1 e1 => ?_)
  · have c := of_decide_eq_true c
    rw [bI_len] at c
    exact desk_ret k (by rw [st, if_neg (by simp; omega)]) (hd.ex e1) (Went.of e1) ev_neg
  · have c := of_decide_eq_false c
    have cl := c
    rw [bI_len] at cl
    show tRet (tCall (sp_told_word G) [] E0 (tCons (tMeth G.cA "first_from" (sp_Answers_first_from G) [] E0 (tMake G.cA (sp_Answers_init G) [] E0 (tCons (tOp (rIxL G.K) (tFld G.K (tVar 0) "places") (tVar 1)) (tCons (tVar 2) tNil))) (tCons (tC (.int 0)) tNil)) tNil)) (endsOf Q) _ H1
    refine ret_call ?_
    refine ans_meth ((g.ex e1).place T (ev_var rfl) (ev_var rfl)) (ev_var rfl) (g.ex e1).at_ (e1 _ _ hw) g.ok (by omega) rfl fun H2 b e2 an => ?_
    refine ⟨b, 0, M, _, rfl, an, by omega, fun H3 p ws e3 _ hws fr => ?_⟩
    have e13 := e1.trans (e2.trans e3)
    exact ⟨p, ws, rfl, hws, first_small fr, desk_retI k (by rw [st, if_pos (by simp; omega)]) (law_next g.rel g.ok fr) hd e13⟩
theorem pure_Desk_later (T : Txt G mg) (h : sp_Desk_later G vs H Q E) : t_Desk_later G (endsOf Q) (start n_Desk_later vs) H := by
  obtain ⟨d, m, w, u, x, p, L, s, rfl, hw, hu, hd, ht, k⟩ := h
  obtain ⟨ps, da, sr⟩ := id hd
  obtain ⟨a, M, A, g⟩ := desk_get da sr ht
  have st : Wm.step s (.later m x p) = (s, if [x, p].all (fun (x : Wm.Bytes) => decide (x.length ≤ 16)) = true then Wm.answer (A.net.next x (some p)) else Wm.says (-2)) := word_there (l := [x, p]) (f := fun N => Wm.answer (N.next x (some p))) g.lt g.as
  refine q_if (et_or (et_gt (m := 16) (ev_is (ev_lenI (K := G.K) (ev_var rfl) hw) rfl)) fun _ => et_gt (m := 16) (ev_is (ev_lenI (K := G.K) (ev_var rfl) hu) rfl)) (fun c H1 e1 => ?_) (fun c H1 e1 => ?_)
  · have c : 16 < (bI x).length ∨ 16 < (bI p).length := by simpa using c
    rw [bI_len, bI_len] at c
    exact desk_ret k (by rw [st, if_neg (by simp; omega)]) (hd.ex e1) (Went.of e1) ev_neg
  · have c : (bI x).length ≤ 16 ∧ (bI p).length ≤ 16 := by simpa using c
    have cl := c
    rw [bI_len, bI_len] at cl
    show tRet (tCall (sp_told_word G) [] E0 (tCons (tMeth G.cA "next_after" (sp_Answers_next_after G) [] E0 (tMake G.cA (sp_Answers_init G) [] E0 (tCons (tOp (rIxL G.K) (tFld G.K (tVar 0) "places") (tVar 1)) (tCons (tVar 2) tNil))) (tCons (tVar 3) tNil)) tNil)) (endsOf Q) _ H1
    refine ret_call ?_
    refine ans_meth ((g.ex e1).place T (ev_var rfl) (ev_var rfl)) (ev_var rfl) (g.ex e1).at_ (e1 _ _ hw) g.ok c.1 rfl fun H2 b e2 an => ?_
    refine ⟨_, rfl, b, u, M, _, bI p, rfl, an, (e1.trans e2) _ _ hu, c.2, fun H3 q ws e3 _ hws fr => ?_⟩
    have e13 := e1.trans (e2.trans e3)
    exact ⟨q, ws, rfl, hws, next_small c.2 fr, desk_retI k (by rw [st, if_pos (by simp; omega)]) (law_later g.rel g.ok cl.2 fr) hd e13⟩
theorem pure_Desk_holds (T : Txt G mg) (h : sp_Desk_holds G vs H Q E) : t_Desk_holds G (endsOf Q) (start n_Desk_holds vs) H := by
  obtain ⟨d, m, w, u, x, y, L, s, rfl, hw, hu, hd, ht, k⟩ := h
  obtain ⟨ps, da, sr⟩ := id hd
  obtain ⟨a, M, A, g⟩ := desk_get da sr ht
  have st : Wm.step s (.holds m x y) = (s, if [x, y].all (fun (x : Wm.Bytes) => decide (x.length ≤ 16)) = true then Wm.says (if A.net.holds x y = true then 1 else 0) else Wm.says (-2)) := word_there (l := [x, y]) (f := fun N => Wm.says (if N.holds x y = true then 1 else 0)) g.lt g.as
  refine q_if (et_or (et_gt (m := 16) (ev_is (ev_lenI (K := G.K) (ev_var rfl) hw) rfl)) fun _ => et_gt (m := 16) (ev_is (ev_lenI (K := G.K) (ev_var rfl) hu) rfl)) (fun c H1 e1 => ?_) (fun c H1 e1 => ?_)
  · have c : 16 < (bI x).length ∨ 16 < (bI y).length := by simpa using c
    rw [bI_len, bI_len] at c
    exact desk_ret k (by rw [st, if_neg (by simp; omega)]) (hd.ex e1) (Went.of e1) ev_neg
  · have c : (bI x).length ≤ 16 ∧ (bI y).length ≤ 16 := by simpa using c
    have cl := c
    rw [bI_len, bI_len] at cl
    show tRet (tLst (tCons (tCB rInt1 (tCons (tMeth G.cA "holds" (sp_Answers_holds G) [] E0 (tMake G.cA (sp_Answers_init G) [] E0 (tCons (tOp (rIxL G.K) (tFld G.K (tVar 0) "places") (tVar 1)) (tCons (tVar 2) tNil))) (tCons (tVar 3) tNil)) tNil)) tNil)) (endsOf Q) ([some (.ref d), some (iv m), some (.ref w), some (.ref u)] : L2.St) H1
    refine ans_meth (σ := [some (.ref d), some (iv m), some (.ref w), some (.ref u)]) (t1 := tOp (rIxL G.K) (tFld G.K (tVar 0) "places") (tVar 1)) (t2 := tVar 2) ((g.ex e1).place T (ev_var rfl) (ev_var rfl)) (ev_var rfl) (g.ex e1).at_ (e1 _ _ hw) g.ok c.1 rfl fun H2 b e2 an => ?_
    refine ⟨_, rfl, b, u, M, _, bI y, rfl, an, (e1.trans e2) _ _ hu, c.2, fun H3 kb e3 hb => .inr ⟨kb, rfl, sz1, ?_⟩⟩
    have e13 := e1.trans (e2.trans e3)
    refine desk_retV (D := endsOf Q) (s' := s) k ?_ (hd.ex e13) (Went.of e13)
    rw [st, if_pos (by simp; omega)]
    have hh := hb.trans (law_holds g.rel g.ok)
    cases kb with
    | true => rw [if_pos (hh.mp rfl)]; rfl
    | false => rw [if_neg (fun z => nomatch hh.mpr z)]; rfl
theorem pure_Desk_endless (T : Txt G mg) (h : sp_Desk_endless G vs H Q E) : t_Desk_endless G (endsOf Q) (start n_Desk_endless vs) H := by
  obtain ⟨d, m, w, x, L, s, rfl, hw, hd, ht, k⟩ := h
  obtain ⟨ps, da, sr⟩ := id hd
  obtain ⟨a, M, A, g⟩ := desk_get da sr ht
  have st : Wm.step s (.endless m x) = (s, if [x].all (fun (x : Wm.Bytes) => decide (x.length ≤ 16)) = true then Wm.says (if A.net.endless x = true then 1 else 0) else Wm.says (-2)) := word_there (l := [x]) (f := fun N => Wm.says (if N.endless x = true then 1 else 0)) g.lt g.as
  refine q_if (et_gt (m := 16) (ev_is (ev_lenI (K := G.K) (ev_var rfl) hw) rfl)) (fun c H1 e1 => ?_) (fun c H1 e1 => ?_)
  · have c := of_decide_eq_true c
    rw [bI_len] at c
    exact desk_ret k (by rw [st, if_neg (by simp; omega)]) (hd.ex e1) (Went.of e1) ev_neg
  · have c := of_decide_eq_false c
    have cl := c
    rw [bI_len] at cl
    show tRet (tLst (tCons (tCB rInt1 (tCons (tCall (sp_is_endless G) [] E0 (tCons (tOp (rIxL G.K) (tFld G.K (tVar 0) "places") (tVar 1)) (tCons (tVar 2) tNil))) tNil)) tNil)) (endsOf Q) ([some (.ref d), some (iv m), some (.ref w)] : L2.St) H1
    refine (g.ex e1).place T (σ := [some (.ref d), some (iv m), some (.ref w)]) (te := tVar 0) (tk := tVar 1) (ev_var rfl) (ev_var rfl) H1 (Ex.refl _) _ fun H2 e2 => ?_
    have e12 := e1.trans e2
    refine ⟨_, rfl, a, w, M, _, rfl, g.at_.ex e12, e12 _ _ hw, g.ok, by omega, fun H3 kb e3 hb => .inr ⟨kb, rfl, sz1, ?_⟩⟩
    have e13 := e12.trans e3
    refine desk_retV (D := endsOf Q) (s' := s) k ?_ (hd.ex e13) (Went.of e13)
    rw [st, if_pos (by simp; omega)]
    have hh := hb.trans (law_endless g.rel g.ok)
    cases kb with
    | true => rw [if_pos (hh.mp rfl)]; rfl
    | false => rw [if_neg (fun z => nomatch hh.mpr z)]; rfl
/-! ### which call it is -/
theorem ev_at {te : TE} {p : Addr} {ns : List Int} {k : Nat} {n : Int} (ha : Ev te σ H (.ref p)) (h : IntL H p ns) (hk : ns[k]? = some n) : Ev (tOp (rIxL K) te (tC (.int (k : Int)))) σ H (.int n) := ev_ixI ha ev_c h hk
theorem ev_word {te : TE} {p q : Addr} {ws : List (List Int)} {k : Nat} {vs : List V} (ha : Ev te σ H (.ref p)) (h : H p = some (.lst vs)) (hk : vs[k]? = some (.ref q)) : Ev (tOp (rIxL K) te (tC (.int (k : Int)))) σ H (.ref q) := ev_op ha ev_c (rv_ixL (.of h) (atI_nat hk))
end
end Tw

/-! # Readings: which call it is -/
namespace Tw
open PySem PySem.Spec PyProof.Rows L2 Evl TW
section
variable {G : Gs} {mg : Str → Option Value} {vs : List V} {H H' H0 H1 H2 : Hp} {Q : VK} {E : XK} {K : PySem.W.Frag} {σ : L2.St} {d a c : Addr} {L : Lz} {s s' : Wm.State} {M M' : PM} {ps : List (Option PM)}
theorem DeskRet.went {r : Wm.State × Wm.Ans} (k : DeskRet G H d L Q r) (w : Went L H H1) : DeskRet G H1 d L Q r := fun H' p kp np ds il => k H' p (fun b o h n q => kp b o (w.kp b o h n q) n q) (w.dm p np) ds il
theorem DeskRet.ex {r : Wm.State × Wm.Ans} (k : DeskRet G H d L Q r) (e : Ex H H1) : DeskRet G H1 d L Q r := k.went (Went.of e)
theorem desk_meth {sp : Sp} {nm : Str} {te : TE} {tr : TA} (hd : DeskS G H d L s) (ha : Ev te σ H (.ref d)) (hn : ∀ u : V, List.lookup nm [(("places" : Str), u)] = none) (k : ∀ H1, Ex H H1 → tr σ H1 fun vs H2 => sp (.ref d :: (vs ++ [])) H2 Q E) : tMeth G.cD nm sp [] E te tr σ H Q :=
  ha H (Ex.refl _) _ fun H1 e1 => by
    obtain ⟨ps, ⟨dx, vs, d1, _⟩, _⟩ := hd.ex e1
    exact ⟨d, dx, _, rfl, d1, hn _, k H1 e1⟩
theorem ret_meth {C : Addr} {nm : Str} {sp : Sp} {dvs : List V} {te : TE} {ta : TA} {D : Ends} (h : tMeth C nm sp dvs E te ta σ H D.rt) : tRet (tMeth C nm sp dvs E te ta) D σ H := h
theorem ev_ati {te : TE} {p : Addr} {ns : List Int} (k : Nat) {n : Int} (ha : Ev te σ H (.ref p)) (h : IntL H p ns) (hk : ns[k]? = some n) : Ev (tOp (rIxL K) te (tC (.int (k : Int)))) σ H (.int n) := ev_ixI ha ev_c h hk
theorem ev_wordi {te : TE} {p q : Addr} (k : Nat) {vs : List V} (ha : Ev te σ H (.ref p)) (h : H p = some (.lst vs)) (hk : vs[k]? = some (.ref q)) : Ev (tOp (rIxL K) te (tC (.int (k : Int)))) σ H (.ref q) := ev_op ha ev_c (rv_ixL (.of h) (atI_nat hk))
theorem making_two (T : Txt G mg) {w : Int} {e a b : Nat} {p : Addr} (hw : w ≠ 1) (hd : DeskS G H d L s) (hp : IntL H p [(e : Int), (a : Int), (b : Int)]) (k : DeskRet G H d L Q (Wm.step s (twoC w e a b))) : t_making G (endsOf Q) (start n_making [V.ref d, V.int w, V.ref p]) H := by
  refine q_if (et_isI (ev_var rfl)) (fun c H1 e1 => absurd (of_decide_eq_true c) hw) (fun c H1 e1 => ?_)
  refine q_if (et_isI (n := 3) (m := 3) (ev_is (ev_lenI (K := G.K) (ev_var rfl) (e1 _ _ hp)) rfl)) (fun c H2 e2 => ?_) (fun c H2 e2 => absurd rfl (of_decide_eq_false c))
  have e12 := e1.trans e2
  have hp2 := e12 _ _ hp
  refine ret_meth (desk_meth (hd.ex e12) (ev_var rfl) (fun _ => rfl) fun H3 e3 => ?_)
  refine cons_go (ev_var rfl) fun H4 e4 => cons_go (ev_ati 0 (ev_var rfl) ((e3.trans e4) _ _ hp2) rfl) fun H5 e5 => cons_go (ev_ati 1 (ev_var rfl) ((e3.trans (e4.trans e5)) _ _ hp2) rfl) fun H6 e6 => cons_go (ev_ati 2 (ev_var rfl) ((e3.trans (e4.trans (e5.trans e6))) _ _ hp2) rfl) fun H7 e7 => ?_
  have e17 := e12.trans (e3.trans (e4.trans (e5.trans (e6.trans e7))))
  exact ⟨d, w, e, a, b, L, s, rfl, hd.ex e17, k.ex e17⟩
theorem making_one (T : Txt G mg) {w : Int} {kb : Bool} {e a : Nat} {p : Addr} (hw : w ≠ 1) (hk : decide (V.int w = V.int 8) = kb) (hd : DeskS G H d L s) (hp : IntL H p [(e : Int), (a : Int)]) (k : DeskRet G H d L Q (Wm.step s (oneC kb e a))) : t_making G (endsOf Q) (start n_making [V.ref d, V.int w, V.ref p]) H := by
  refine q_if (et_isI (ev_var rfl)) (fun c H1 e1 => absurd (of_decide_eq_true c) hw) (fun c H1 e1 => ?_)
  refine q_if (et_isI (n := 2) (m := 3) (ev_is (ev_lenI (K := G.K) (ev_var rfl) (e1 _ _ hp)) rfl)) (fun c H2 e2 => absurd (of_decide_eq_true c) (by decide)) (fun c H2 e2 => ?_)
  have e12 := e1.trans e2
  have hp2 := e12 _ _ hp
  show tRet (tMeth G.cD "of_one" (sp_Desk_of_one G) [] E0 (tVar 0) (tCons (tOp rEq (tVar 1) (tC (.int (8)))) (tCons (tOp (rIxL G.K) (tVar 2) (tC (.int 0))) (tCons (tOp (rIxL G.K) (tVar 2) (tC (.int 1))) tNil)))) (endsOf Q) ([some (.ref d), some (.int w), some (.ref p)] : L2.St) H2
  refine ret_meth (desk_meth (hd.ex e12) (ev_var rfl) (fun _ => rfl) fun H3 e3 => ?_)
  refine cons_go (ev_is (ev_op (ev_var rfl) ev_c (rv_eq rfl)) (congrArg V.bl hk)) fun H4 e4 => cons_go (ev_ati 0 (ev_var rfl) ((e3.trans e4) _ _ hp2) rfl) fun H5 e5 => cons_go (ev_ati 1 (ev_var rfl) ((e3.trans (e4.trans e5)) _ _ hp2) rfl) fun H6 e6 => ?_
  have e17 := e12.trans (e3.trans (e4.trans (e5.trans e6)))
  exact ⟨d, kb, e, a, L, s, rfl, hd.ex e17, k.ex e17⟩
theorem pure_making (T : Txt G mg) (h : sp_making G vs H Q E) : t_making G (endsOf Q) (start n_making vs) H := by
  obtain ⟨d, w, p, L, s, ns, c, rfl, hp, hd, mc, k⟩ := h
  cases mc with
  | new m =>
    refine q_if (et_isI (ev_var rfl)) (fun c H1 e1 => ?_) (fun c H1 e1 => absurd rfl (of_decide_eq_false c))
    refine ret_meth (desk_meth (hd.ex e1) (ev_var rfl) (fun _ => rfl) fun H3 e3 => ?_)
    refine cons_go (ev_ati 0 (ev_var rfl) ((e1.trans e3) _ _ hp) rfl) fun H4 e4 => ?_
    have e14 := e1.trans (e3.trans e4)
    exact ⟨d, m, L, s, rfl, hd.ex e14, k.ex e14⟩
  | join e a b => exact making_two T (by decide) hd hp k
  | follow e a b => exact making_two T (by decide) hd hp k
  | behind e a b => exact making_two T (by decide) hd hp k
  | again e a => exact making_one T (kb := true) (by decide) rfl hd hp k
  | keep e a => exact making_one T (kb := false) (by decide) rfl hd hp k
theorem one_word {p : Addr} {x : List Int} (h : WordsAt H p [x]) : ∃ q, H p = some (.lst [.ref q]) ∧ IntL H q x := by
  obtain ⟨vs, h1, h2⟩ := h
  cases h2 with
  | cons r t =>
    cases t
    obtain ⟨q, rfl, hq⟩ := r
    exact ⟨q, h1, hq⟩
theorem two_words {p : Addr} {x y : List Int} (h : WordsAt H p [x, y]) : ∃ q u, H p = some (.lst [.ref q, .ref u]) ∧ IntL H q x ∧ IntL H u y := by
  obtain ⟨vs, h1, h2⟩ := h
  cases h2 with
  | cons r t =>
    cases t with
    | cons r2 t =>
      cases t
      obtain ⟨q, rfl, hq⟩ := r
      obtain ⟨u, rfl, hu⟩ := r2
      exact ⟨q, u, h1, hq, hu⟩
theorem pure_of_words (T : Txt G mg) (h : sp_of_words G vs H Q E) : t_of_words G (endsOf Q) (start n_of_words vs) H := by
  obtain ⟨d, w, m, p, L, s, ws, c, rfl, hp, hd, ht, wc, k⟩ := h
  cases wc with
  | next m x =>
    obtain ⟨q, h1, h2⟩ := one_word hp
    refine q_if (et_isI (ev_var rfl)) (fun c H1 e1 => ?_) (fun c H1 e1 => absurd rfl (of_decide_eq_false c))
    refine ret_meth (desk_meth (hd.ex e1) (ev_var rfl) (fun _ => rfl) fun H3 e3 => ?_)
    refine cons_go (ev_var rfl) fun H4 e4 => cons_go (ev_wordi 0 (ev_var rfl) ((e1.trans (e3.trans e4)) _ _ h1) rfl) fun H5 e5 => ?_
    have e15 := e1.trans (e3.trans (e4.trans e5))
    exact ⟨d, m, q, x, L, s, rfl, e15 _ _ h2, hd.ex e15, ht, k.ex e15⟩
  | later m x y =>
    obtain ⟨q, u, h1, h2, h3⟩ := two_words hp
    refine q_if (et_isI (ev_var rfl)) (fun c H1 e1 => absurd (of_decide_eq_true c) (by decide)) (fun c H1 e1 => ?_)
    refine q_if (et_isI (ev_var rfl)) (fun c H2 e2 => ?_) (fun c H2 e2 => absurd rfl (of_decide_eq_false c))
    have e12 := e1.trans e2
    refine ret_meth (desk_meth (hd.ex e12) (ev_var rfl) (fun _ => rfl) fun H3 e3 => ?_)
    refine cons_go (ev_var rfl) fun H4 e4 => cons_go (ev_wordi 0 (ev_var rfl) ((e12.trans (e3.trans e4)) _ _ h1) rfl) fun H5 e5 => cons_go (ev_wordi 1 (ev_var rfl) ((e12.trans (e3.trans (e4.trans e5))) _ _ h1) rfl) fun H6 e6 => ?_
    have e15 := e12.trans (e3.trans (e4.trans (e5.trans e6)))
    exact ⟨d, m, q, u, x, y, L, s, rfl, e15 _ _ h2, e15 _ _ h3, hd.ex e15, ht, k.ex e15⟩
  | holds m x y =>
    obtain ⟨q, u, h1, h2, h3⟩ := two_words hp
    refine q_if (et_isI (ev_var rfl)) (fun c H1 e1 => absurd (of_decide_eq_true c) (by decide)) (fun c H1 e1 => ?_)
    refine q_if (et_isI (ev_var rfl)) (fun c H1 e1 => absurd (of_decide_eq_true c) (by decide)) (fun c H2 e2 => ?_)
    refine q_if (et_isI (ev_var rfl)) (fun c H2a e2a => ?_) (fun c H2 e2 => absurd rfl (of_decide_eq_false c))
    have e12 := e1.trans (e2.trans e2a)
    refine ret_meth (desk_meth (hd.ex e12) (ev_var rfl) (fun _ => rfl) fun H3 e3 => ?_)
    refine cons_go (ev_var rfl) fun H4 e4 => cons_go (ev_wordi 0 (ev_var rfl) ((e12.trans (e3.trans e4)) _ _ h1) rfl) fun H5 e5 => cons_go (ev_wordi 1 (ev_var rfl) ((e12.trans (e3.trans (e4.trans e5))) _ _ h1) rfl) fun H6 e6 => ?_
    have e15 := e12.trans (e3.trans (e4.trans (e5.trans e6)))
    exact ⟨d, m, q, u, x, y, L, s, rfl, e15 _ _ h2, e15 _ _ h3, hd.ex e15, ht, k.ex e15⟩
  | endless m x =>
    obtain ⟨q, h1, h2⟩ := one_word hp
    refine q_if (et_isI (ev_var rfl)) (fun c H1 e1 => absurd (of_decide_eq_true c) (by decide)) (fun c H1 e1 => ?_)
    refine q_if (et_isI (ev_var rfl)) (fun c H1 e1 => absurd (of_decide_eq_true c) (by decide)) (fun c H2 e2 => ?_)
    refine q_if (et_isI (ev_var rfl)) (fun c H1 e1 => absurd (of_decide_eq_true c) (by decide)) (fun c H2a e2a => ?_)
    have e12 := e1.trans (e2.trans e2a)
    show tRet (tMeth G.cD "endless" (sp_Desk_endless G) [] E0 (tVar 0) (tCons (tVar 2) (tCons (tOp (rIxL G.K) (tVar 3) (tC (.int 0))) tNil))) (endsOf Q) ([some (.ref d), some (.int 15), some (iv m), some (.ref p)] : L2.St) H2a
    refine ret_meth (desk_meth (hd.ex e12) (ev_var rfl) (fun _ => rfl) fun H3 e3 => ?_)
    refine cons_go (ev_var rfl) fun H4 e4 => cons_go (ev_wordi 0 (ev_var rfl) ((e12.trans (e3.trans e4)) _ _ h1) rfl) fun H5 e5 => ?_
    have e15 := e12.trans (e3.trans (e4.trans e5))
    exact ⟨d, m, q, x, L, s, rfl, e15 _ _ h2, hd.ex e15, ht, k.ex e15⟩
theorem el_nat {te : TE} {m : Nat} (h : EL IntAt te σ H [(m : Int)]) : EL NatAt te σ H [m] := fun H1 e Q q => h H1 e Q fun p H2 e2 ⟨vs, h1, h2⟩ => q p H2 e2 (by
  cases h2 with
  | cons r t =>
    cases t
    exact ⟨_, h1, .cons r .nil⟩)
theorem pure_of_place (T : Txt G mg) (h : sp_of_place G vs H Q E) : t_of_place G (endsOf Q) (start n_of_place vs) H := by
  obtain ⟨d, w, p, q, L, s, ns, ws, c, rfl, hp, hq, hd, pc, k⟩ := h
  obtain ⟨m, rest, en, f, ef⟩ : ∃ (m : Nat) (rest : List Int), ns = (m : Int) :: rest ∧ ∃ f, Wm.step s c = Wm.ofM s m f := by
    cases pc with
    | state m => exact ⟨m, _, rfl, _, rfl⟩
    | final m s y => exact ⟨m, _, rfl, _, rfl⟩
    | arc m a r w b => exact ⟨m, _, rfl, _, rfl⟩
    | turn m => exact ⟨m, _, rfl, _, rfl⟩
    | size m => exact ⟨m, _, rfl, _, rfl⟩
    | word wc => cases wc with
      | next m x => exact ⟨_, _, rfl, _, rfl⟩
      | later m x y => exact ⟨_, _, rfl, _, rfl⟩
      | holds m x y => exact ⟨_, _, rfl, _, rfl⟩
      | endless m x => exact ⟨_, _, rfl, _, rfl⟩
  refine q_asg (refuse_go (ms := [m]) hd (ev_var rfl) (el_nat (by
    have := el_take (K := G.K) (σ := start n_of_place [V.ref d, V.int w, V.ref p, V.ref q]) (ta := tVar 2) (tb := tC (.int 1)) (k := 1) (ev_var rfl) ev_c hp
    rw [en] at this
    exact this)) (by simp)) fun H1 e1 => ?_
  refine q_if (et_lt0 (ev_var rfl)) (fun c1 H2 e2 => ?_) (fun c1 H2 e2 => ?_)
  · have c1 := of_decide_eq_true c1
    rw [ef] at k
    exact desk_ret k (ofM_ref c1) (hd.ex (e1.trans e2)) (Went.of (e1.trans e2)) (ev_var rfl)
  · have c1 := of_decide_eq_false c1
    have ht := ref_there c1
    have e12 := e1.trans e2
    have hp2 := e12 _ _ hp
    have hd2 := hd.ex e12
    have hq2 := hq.ex e12
    have k2 := k.ex e12
    clear e12 e2 e1 hp hd hq k ef
    generalize H2 = H at hp2 hd2 hq2 k2
    cases pc with
    | state m' =>
      have e : m' = m := by injection en with e; omega
      subst e
      refine q_if (et_isI (ev_var rfl)) (fun c H1 e1 => ?_) (fun c H1 e1 => absurd rfl (of_decide_eq_false c))
      refine ret_meth (desk_meth (hd2.ex e1) (ev_var rfl) (fun _ => rfl) fun H3 e3 => ?_)
      refine cons_go (ev_ati 0 (ev_var rfl) ((e1.trans e3) _ _ hp2) rfl) fun H4 e4 => ?_
      have e14 := e1.trans (e3.trans e4)
      exact ⟨d, _, L, s, rfl, hd2.ex e14, ht, k2.ex e14⟩
    | final m' kk y =>
      have e : m' = m := by injection en with e; omega
      subst e
      refine q_if (et_isI (ev_var rfl)) (fun c H1 e1 => absurd (of_decide_eq_true c) (by decide)) (fun c H1 e1 => ?_)
      refine q_if (et_isI (ev_var rfl)) (fun c H2 e2 => ?_) (fun c H1 e1 => absurd rfl (of_decide_eq_false c))
      have e12 := e1.trans e2
      refine ret_meth (desk_meth (hd2.ex e12) (ev_var rfl) (fun _ => rfl) fun H3 e3 => ?_)
      refine cons_go (ev_ati 0 (ev_var rfl) ((e12.trans e3) _ _ hp2) rfl) fun H4 e4 => cons_go (ev_ati 1 (ev_var rfl) ((e12.trans (e3.trans e4)) _ _ hp2) rfl) fun H5 e5 => cons_go (ev_ati 2 (ev_var rfl) ((e12.trans (e3.trans (e4.trans e5))) _ _ hp2) rfl) fun H6 e6 => ?_
      have e14 := e12.trans (e3.trans (e4.trans (e5.trans e6)))
      exact ⟨d, _, kk, y, L, s, rfl, hd2.ex e14, ht, k2.ex e14⟩
    | arc m' a0 r0 w0 b0 =>
      have e : m' = m := by injection en with e; omega
      subst e
      refine q_if (et_isI (ev_var rfl)) (fun c H1 e1 => absurd (of_decide_eq_true c) (by decide)) (fun c H1 e1 => ?_)
      refine q_if (et_isI (ev_var rfl)) (fun c H1 e1 => absurd (of_decide_eq_true c) (by decide)) (fun c H2 e2 => ?_)
      refine q_if (et_isI (ev_var rfl)) (fun c H2a e2a => ?_) (fun c H1 e1 => absurd rfl (of_decide_eq_false c))
      have e12 := e1.trans (e2.trans e2a)
      refine ret_meth (desk_meth (hd2.ex e12) (ev_var rfl) (fun _ => rfl) fun H3 e3 => ?_)
      refine cons_go (ev_ati 0 (ev_var rfl) ((e12.trans e3) _ _ hp2) rfl) fun H4 e4 => ?_
      have e14 := e12.trans (e3.trans e4)
      have hp4 := e14 _ _ hp2
      refine ⟨_, rfl, 1, rfl, p, _, rfl, .of hp4, fun z hz => ?_⟩
      refine ⟨z, _, rfl, .inl ⟨.of upd_same, fun u hu => ?_⟩⟩
      have e5 : Ex H4 (upd H4 z (.lst (cutV (List.map V.int [(m' : Int), (a0 : Int), r0, w0, (b0 : Int)]) (some 1) none))) := Ex.new hz
      have e6 := e14.trans (e5.trans (Ex.new (o := .tup (cutV (List.map V.int [(m' : Int), (a0 : Int), r0, w0, (b0 : Int)]) (some 1) none)) hu))
      exact ⟨d, m', u, a0, r0, w0, b0, L, s, rfl, upd_same, hd2.ex e6, ht, k2.ex e6⟩
    | turn m' =>
      have e : m' = m := by injection en with e; omega
      subst e
      refine q_if (et_isI (ev_var rfl)) (fun c H1 e1 => absurd (of_decide_eq_true c) (by decide)) (fun c H1 e1 => ?_)
      refine q_if (et_isI (ev_var rfl)) (fun c H1 e1 => absurd (of_decide_eq_true c) (by decide)) (fun c H2 e2 => ?_)
      refine q_if (et_isI (ev_var rfl)) (fun c H1 e1 => absurd (of_decide_eq_true c) (by decide)) (fun c H2a e2a => ?_)
      refine q_if (et_isI (ev_var rfl)) (fun c H2b e2b => ?_) (fun c H1 e1 => absurd rfl (of_decide_eq_false c))
      have e12 := e1.trans (e2.trans (e2a.trans e2b))
      refine ret_meth (desk_meth (hd2.ex e12) (ev_var rfl) (fun _ => rfl) fun H3 e3 => ?_)
      refine cons_go (ev_ati 0 (ev_var rfl) ((e12.trans e3) _ _ hp2) rfl) fun H4 e4 => ?_
      have e14 := e12.trans (e3.trans e4)
      exact ⟨d, _, L, s, rfl, hd2.ex e14, ht, k2.ex e14⟩
    | size m' =>
      have e : m' = m := by injection en with e; omega
      subst e
      refine q_if (et_isI (ev_var rfl)) (fun c H1 e1 => absurd (of_decide_eq_true c) (by decide)) (fun c H1 e1 => ?_)
      refine q_if (et_isI (ev_var rfl)) (fun c H1 e1 => absurd (of_decide_eq_true c) (by decide)) (fun c H2 e2 => ?_)
      refine q_if (et_isI (ev_var rfl)) (fun c H1 e1 => absurd (of_decide_eq_true c) (by decide)) (fun c H2a e2a => ?_)
      refine q_if (et_isI (ev_var rfl)) (fun c H1 e1 => absurd (of_decide_eq_true c) (by decide)) (fun c H2b e2b => ?_)
      refine q_if (et_isI (ev_var rfl)) (fun c H2c e2c => ?_) (fun c H1 e1 => absurd rfl (of_decide_eq_false c))
      have e12 := e1.trans (e2.trans (e2a.trans (e2b.trans e2c)))
      refine ret_meth (desk_meth (hd2.ex e12) (ev_var rfl) (fun _ => rfl) fun H3 e3 => ?_)
      refine cons_go (ev_ati 0 (ev_var rfl) ((e12.trans e3) _ _ hp2) rfl) fun H4 e4 => ?_
      have e14 := e12.trans (e3.trans e4)
      exact ⟨d, _, L, s, rfl, hd2.ex e14, ht, k2.ex e14⟩
    | @word _ m' _ _ wc =>
      have e : m' = m := by injection en with e; omega
      subst e
      have nw : w ≠ 2 ∧ w ≠ 3 ∧ w ≠ 4 ∧ w ≠ 5 ∧ w ≠ 11 := by cases wc <;> decide
      refine q_if (et_isI (ev_var rfl)) (fun c H1 e1 => absurd (of_decide_eq_true c) nw.1) (fun _ H1 e1 => ?_)
      refine q_if (et_isI (ev_var rfl)) (fun c H1 e1 => absurd (of_decide_eq_true c) nw.2.1) (fun _ H2 e2 => ?_)
      refine q_if (et_isI (ev_var rfl)) (fun c H1 e1 => absurd (of_decide_eq_true c) nw.2.2.1) (fun _ H2a e2a => ?_)
      refine q_if (et_isI (ev_var rfl)) (fun c H1 e1 => absurd (of_decide_eq_true c) nw.2.2.2.1) (fun _ H2b e2b => ?_)
      refine q_if (et_isI (ev_var rfl)) (fun c H1 e1 => absurd (of_decide_eq_true c) nw.2.2.2.2) (fun _ H2c e2c => ?_)
      have e12 := e1.trans (e2.trans (e2a.trans (e2b.trans e2c)))
      show tRet (tCall (sp_of_words G) [] E0 (tCons (tVar 0) (tCons (tVar 1) (tCons (tOp (rIxL G.K) (tVar 2) (tC (.int 0))) (tCons (tVar 3) tNil))))) (endsOf Q) ([some (.ref d), some (.int w), some (.ref p), some (.ref q), some (.int (refP s [m']))] : L2.St) H2c
      refine ret_call ?_
      refine cons_go (ev_var rfl) fun H3 e3 => cons_go (ev_var rfl) fun H4 e4 => cons_go (ev_ati 0 (ev_var rfl) ((e12.trans (e3.trans e4)) _ _ hp2) rfl) fun H5 e5 => cons_go (ev_var rfl) fun H6 e6 => ?_
      have e14 := e12.trans (e3.trans (e4.trans (e5.trans e6)))
      exact ⟨d, w, m', q, L, s, ws, c, rfl, hq2.ex e14, hd2.ex e14, ht, wc, k2.ex e14⟩
end
end Tw

/-! # Readings: answers -/
namespace Tw
open PySem PySem.Spec PyProof.Rows L2 Evl TW
/-- all stands but instances -/
def Kb (H H' : Hp) : Prop := ∀ b o, H b = some o → (∀ C dx fs, o ≠ .ins C dx fs) → H' b = some o
section
variable {G : Gs} {mg : Str → Option Value} {vs : List V} {H H' H0 H1 H2 : Hp} {Q : VK} {E : XK} {K : PySem.W.Frag} {σ : L2.St} {d a c : Addr} {L : Lz} {s s' : Wm.State} {M M' : PM} {ps : List (Option PM)}
theorem Kb.ex (h : Kb H H1) (e : Ex H1 H2) : Kb H H2 := fun b o hb n => e _ _ (h b o hb n)
theorem Kb.kp (h : Kb H H1) (k : Kp L H1 H2) (n : H L.l = none) : Kb H H2 := fun b o hb q => k b o (h b o hb q) (ne_of_none hb n) q
theorem Kb.up (h : Kb H H1) {z : Addr} {o : HO} (n : H z = none) : Kb H (upd H1 z o) := fun b u hb q => up_ne (h b u hb q) (ne_of_none hb n)
theorem sq_kb {xs : List V} (h : SqL K H a xs) (w : Kb H H') : SqL K H' a xs := by
  rcases h with (h | ⟨o, h⟩) | h
  · exact .inl (.inl (w _ _ h (fun _ _ _ z => nomatch z)))
  · exact .inl (.inr ⟨o, w _ _ h (fun _ _ _ z => nomatch z)⟩)
  · exact .inr h
theorem DeskS.upz {ys : List V} (h : DeskS G H d L s) : DeskS G (upd H L.z (.lst ys)) d L s := by
  obtain ⟨ps, ⟨dx, vs, h1, h2, h3, h4, ⟨hz, zs, hzs⟩, h5, h6⟩, sr⟩ := h
  refine ⟨ps, ⟨dx, vs, up_ne h1 (ne_of h1 hzs (fun z => nomatch z)), up_ne h2 hz, h3, h4, ⟨hz, ys, upd_same⟩, fun i hi => (h5 i hi).elim .inl fun ⟨b, M, q1, q2, dm, f, r, z1, z2, z3, z4, z5⟩ => .inr ⟨b, M, q1, q2, dm, f, r, up_ne z1 (ne_of z1 hzs (fun z => nomatch z)), up_ne z2 z4, z3.keep tm_arc (tups_upd hzs (fun _ z => nomatch z)) fun o ho => up_ne ho z5, z4, z5⟩, h6⟩, sr⟩
theorem cut_nat {y : List Int} {i j : Nat} (hi : i ≤ j) (hj : j ≤ y.length) : cutV (y.map V.int) (some (i : Int)) (some (j : Int)) = ((y.drop i).take (j - i)).map V.int := by
  unfold cutV
  rw [HT.sIx_nat, HT.sIx_nat, List.length_map, Nat.min_eq_left (show i ≤ y.length by omega), Nat.min_eq_left hj, ← List.map_drop, ← List.map_take]
theorem el_cut {ta tb tc : TE} {p : Addr} {y : List Int} {i j : Nat} (ha : Ev ta σ H (.ref p)) (hb : Ev tb σ H (iv i)) (hc : Ev tc σ H (iv j)) (h : SqL K H p (y.map V.int)) (hi : i ≤ j) (hj : j ≤ y.length) : ELn IntAt (tSl (rSlL K) ta (tPart tb) (tPart tc)) σ H ((y.drop i).take (j - i)) := fun H1 e Q q =>
  Evl.el_sl (K := K) (a := p) (xs := y.map V.int) (lo := some (i : Int)) (hi := some (j : Int)) ha (eo_some hb) (eo_some hc) h H1 e Q fun p2 H2 n2 e2 h2 => q p2 H2 e2 n2 (by rw [cut_nat hi hj] at h2; exact of_intL h2)
theorem ev_ixS {ta tb : TE} {p : Addr} {y : List Int} {k : Nat} {c : Int} (ha : Ev ta σ H (.ref p)) (hk : Ev tb σ H (iv k)) (h : SqL K H p (y.map V.int)) (hc : y[k]? = some c) : Ev (tOp (rIxL K) ta tb) σ H (.int c) :=
  ev_op ha hk (rv_ixL h (atI_nat (by rw [List.getElem?_map, hc]; rfl)))
theorem ev_tab {tb : TE} {p : Addr} {l : List Nat} {k n : Nat} (hk : Ev tb σ H (iv k)) (h : ∀ H, SqT K H p (l.map iv)) (hc : l[k]? = some n) : Ev (tOp (rIxT K) (tC (.ref p)) tb) σ H (iv n) :=
  ev_op ev_c hk (rv_ixT (h H) (atI_nat (by rw [List.getElem?_map, hc]; rfl)))
theorem q_append {ta te : TE} {p : Addr} {xs : List V} {v : V} {D : Ends} {tz : TS} (hp : H p = some (.lst xs)) (ho : Ev ta σ H (.ref p)) (he : Ev te σ H v) (hz : xs.length ≤ 2000000) (k : ∀ H1, Ex H H1 → tz D σ (upd H1 p (.lst (xs ++ [v])))) : tSeq (tDrop (tBM K "list" rAppend ta (tCons te tNil))) tz D σ H :=
  ho H (Ex.refl _) _ fun H1 e1 => ⟨.inl ⟨rfl, _, .of (e1 _ _ hp)⟩, he H1 e1 _ fun H2 e2 => ⟨p, xs, v, rfl, rfl, e2 _ _ (e1 _ _ hp), Nat.lt_of_le_of_lt hz (by decide), k H2 (e1.trans e2)⟩⟩
theorem q_extend {ta te : TE} {p g : Addr} {xs ys : List V} {D : Ends} {tz : TS} (hp : H p = some (.lst xs)) (hg : H g = some (.lst ys)) (ho : Ev ta σ H (.ref p)) (he : Ev te σ H (.ref g)) (hz : xs.length + ys.length ≤ 2000000) (k : ∀ H1, Ex H H1 → tz D σ (upd H1 p (.lst (xs ++ ys)))) : tSeq (tDrop (tBM K "list" rExtend ta (tCons te tNil))) tz D σ H :=
  ho H (Ex.refl _) _ fun H1 e1 => ⟨.inl ⟨rfl, _, .of (e1 _ _ hp)⟩, he H1 e1 _ fun H2 e2 => ⟨p, g, xs, ys, rfl, rfl, e2 _ _ (e1 _ _ hp), e2 _ _ (e1 _ _ hg), Nat.le_trans hz (by decide), k H2 (e1.trans e2)⟩⟩
theorem s_appendL {ta te : TE} {p : Addr} {xs : List V} {l : List Int} {D : Ends} (hp : H p = some (.lst xs)) (ho : Ev ta σ H (.ref p)) (he : ELn IntAt te σ H l) (hz : xs.length ≤ 2000000) (k : ∀ H1 g, Ex H H1 → H g = none → IntL H1 g l → D.nx σ (upd H1 p (.lst (xs ++ [.ref g])))) : tDrop (tBM K "list" rAppend ta (tCons te tNil)) D σ H :=
  ho H (Ex.refl _) _ fun H1 e1 => ⟨.inl ⟨rfl, _, .of (e1 _ _ hp)⟩, he H1 e1 _ fun g H2 e2 ng lg => ⟨p, xs, .ref g, rfl, rfl, e2 _ _ (e1 _ _ hp), Nat.lt_of_le_of_lt hz (by decide), k H2 g (e1.trans e2) (fresh_back e1 ng) (intL_of lg)⟩⟩
/-- words in a list that is not z -/
def WordZ (z : Addr) (H : Hp) (v : V) (y : List Int) : Prop := ∃ q, v = .ref q ∧ q ≠ z ∧ IntL H q y
theorem wordz_exc {z : Addr} {vs : List V} {l : List (List Int)} (h : Paired (WordZ z H) vs l) (e : Exc z H H') : Paired (WordZ z H') vs l := Paired.mapP h fun _ _ ⟨q, e1, n, k⟩ => ⟨q, e1, n, e _ _ k n⟩
theorem mk_contains : ∀ q : Nat, q < 16 → mkB (q : Int) = ([1, 6, 7, 8, 9, 10] : List Nat).contains q := by decide
theorem told_cons (a : List Int) (l : List (List Int)) : PyFlat.told (a :: l) = (a.length : Int) :: (a ++ PyFlat.told l) := by
  unfold PyFlat.told
  rw [List.flatMap_cons]
  rfl
theorem pure_answers (T : Txt G mg) (h : sp_answers G vs H Q E) : t_answers G (endsOf Q) (start n_answers vs) H := by
  obtain ⟨a, ns, rfl, hsq, hlen, hask, k⟩ := h
  obtain ⟨cs0, hc0, hok0, hans, hal⟩ := asked_of hask
  -- desk = Desk()
  intro d dx nd ndx ne
  have e0 : Ex H (upd (upd H dx (.own d)) d (.ins G.cD dx [])) := ex_up (Ex.new ndx) nd
  refine ⟨d, dx, rfl, upd_same, fun H1 l ol ec nl hl hdesk => ⟨rfl, ?_⟩⟩
  have e1 : Ex H H1 := fun b o hb => ec b o (e0 _ _ hb) (ne_of_none hb nd)
  have nl0 : H l = none := fresh_back e0 nl
  refine q_asgE (el_nil (R := IntAt) tm_int) fun fo H2 e2 nfo lfo => ?_
  have hfo : H2 fo = some (.lst (([] : List Int).map V.int)) := intL_of lfo
  have nfo0 : H fo = none := fresh_back e1 nfo
  have hlf : l ≠ fo := ne_of_none hl nfo
  have hd2 : DeskS G H2 d ⟨l, fo⟩ Wm.start := hdesk H2 fo _ e2 hlf hfo
  refine q_asg (v := iv 0) ev_c fun H3 e3 => ?_
  refine q_while (fun m σ' H' => ∃ at_ st cs out c4 c5 c6 c7 c8 c9 c10, σ' = [some (.ref a), some (.ref d), some (.ref fo), some (iv at_), c4, c5, c6, c7, c8, c9, c10] ∧ m + at_ = ns.length ∧ (∃ f, PyFlat.calls PyWqazae.shape f (ns.drop at_) = some cs) ∧ (∀ c ∈ cs, WmNeutral.asked1 c = true) ∧ out ++ PyFlat.told (PyFlat.played WmNeutral.step st cs) = PyWqazae.answers ns ∧ Kb H H' ∧ DeskS G H' d ⟨l, fo⟩ st ∧ H' fo = some (.lst (out.map V.int)))
    ns.length ⟨0, Wm.start, cs0, [], _, _, _, _, _, _, _, rfl, rfl, ⟨_, hc0⟩, hok0, hans.symm, fun b o hb _ => e3 _ _ (e2 _ _ (e1 _ _ hb)), hd2.ex e3, e3 _ _ hfo⟩ fun m σ' H' hw => ?_
  obtain ⟨at_, st, cs, out, c4, c5, c6, c7, c8, c9, c10, rfl, hm, ⟨f, hcalls⟩, hok, hout, kb, hd, hf⟩ := hw
  have sq := sq_kb hsq kb
  refine ⟨decide (at_ < ns.length), et_test (ev_is (ev_op (ev_var rfl) (ev_len (K := G.K) (ev_var rfl) sq) rv_I0) ?_), fun hb H4 e4 => ?_, fun hb H4 e4 => ?_⟩
  · show V.bl (decide ((at_ : Int) < ((ns.map V.int).length : Int))) = _
    rw [List.length_map]
    by_cases c : at_ < ns.length
    · rw [decide_eq_true c, decide_eq_true (by omega)]
    · rw [decide_eq_false c, decide_eq_false (by omega)]
  · have hlt := of_decide_eq_true hb
    refine ⟨fun σ2 H2 => ∃ m', m' < m ∧ ∃ at_ st cs out c4 c5 c6 c7 c8 c9 c10, σ2 = [some (.ref a), some (.ref d), some (.ref fo), some (iv at_), c4, c5, c6, c7, c8, c9, c10] ∧ m' + at_ = ns.length ∧ (∃ f, PyFlat.calls PyWqazae.shape f (ns.drop at_) = some cs) ∧ (∀ c ∈ cs, WmNeutral.asked1 c = true) ∧ out ++ PyFlat.told (PyFlat.played WmNeutral.step st cs) = PyWqazae.answers ns ∧ Kb H H2 ∧ DeskS G H2 d ⟨l, fo⟩ st ∧ H2 fo = some (.lst (out.map V.int)), fun σ2 H2 q => q, ?_⟩
    obtain ⟨p, hp⟩ : ∃ p, ns[at_]? = some p := ⟨_, List.getElem?_eq_getElem hlt⟩
    rw [drop_at hp] at hcalls
    obtain ⟨f', n, kk, xs, t, cs', hshape, hn, hrows, hcalls', hcs⟩ := calls_cons hcalls
    obtain ⟨hpq, hnq, hkq⟩ := shape_tab hshape
    generalize p.toNat = q at hpq hnq hkq
    subst hpq
    rw [List.length_drop] at hn
    rw [List.drop_drop] at hrows
    subst hcs
    refine q_asg (v := .int (q : Int)) (ev_ixS (ev_var rfl) (ev_var rfl) (ex_l e4 sq) hp) fun H5 e5 => ?_
    have e45 := e4.trans e5
    refine q_asg (v := iv (at_ + 1 + n)) (ev_addN (ev_addN (j := 1) (ev_var rfl) ev_c) (ev_tab (l := numL) (k := q) (ev_var rfl) (fun H => T.t_NUMBERS H) hnq)) fun H6 e6 => ?_
    have e46 := e45.trans e6
    refine q_asgE (el_cut (i := at_ + 1) (j := at_ + 1 + n) (ev_var rfl) (ev_addN (j := 1) (ev_var rfl) ev_c) (ev_var rfl) (ex_l e46 sq) (by omega) (by omega)) fun p6 H7 e7 _ l6 => ?_
    have e47 := e46.trans e7
    rw [Nat.add_sub_cancel_left] at l6
    refine q_asgE (el_nil (R := IntAt) tm_int) fun p7 H8 e8 n7 l7 => ?_
    have hp7 : H8 p7 = some (.lst []) := intL_of l7
    have hkk2 : kk ≤ 2 := by
      have hq : q < 16 := (List.getElem?_eq_some_iff.mp hkq).1
      have : ∀ q, q < 16 → ∀ k, lstL[q]? = some k → k ≤ 2 := by decide +revert
      exact this q hq kk hkq
    refine q_forR1 (n := (kk : Int)) (ea_cons (ev_tab (l := lstL) (k := q) (ev_var rfl) (fun H => T.t_LISTS H) hkq) ea_nil) (by omega)
      (fun i σ' H' => ∃ e c8 c9, σ' = [some (.ref a), some (.ref d), some (.ref fo), some (iv at_), some (.int (q : Int)), some (iv e), some (.ref p6), some (.ref p7), c8, c9, c10] ∧ Ex H7 H' ∧ at_ + 1 + n ≤ e ∧ e ≤ ns.length ∧ ∃ done todo, xs = done ++ todo ∧ done.length = i ∧ PyFlat.rows (kk - i) (ns.drop e) = some (todo, t) ∧ ∃ vs, H' p7 = some (.lst vs) ∧ Paired (WordZ p7 H') vs done)
      (fun H9 e9 => ⟨at_ + 1 + n, _, _, rfl, e8.trans e9, Nat.le_refl _, by omega, [], xs, rfl, rfl, hrows, [], e9 _ _ hp7, .nil⟩) (fun i σ' H' hi pv => ?_) fun σ' H' pv => ?_
    · obtain ⟨e, c8', c9', rfl, ex, hle, hel, done, todo, hxs, hdl, hrow, vs, hvs, pvs⟩ := pv
      have hki : kk - i = (kk - i - 1) + 1 := by omega
      rw [hki] at hrow
      obtain ⟨n0, qq, xs', hqq, hn0, hrow', htodo⟩ := rows_succ hrow
      have hel2 : e < ns.length := by
        refine Classical.byContradiction fun c => ?_
        rw [List.drop_eq_nil_of_le (by omega)] at hqq
        cases hqq
      have he0 : ns[e]? = some (n0 : Int) := by
        have := List.getElem?_drop (xs := ns) (i := e) (j := 0)
        rw [hqq] at this
        simpa using this.symm
      have hqd : qq = ns.drop (e + 1) := by
        rw [drop_at he0] at hqq
        injection hqq with _ hqq
        exact hqq.symm
      subst hqd
      rw [List.length_drop] at hn0
      rw [List.drop_drop] at hrow'
      have sq2 : SqL G.K H' a (ns.map V.int) := ex_l (e47.trans ex) sq
      refine q_asg (v := iv (e + 1)) (ev_addN (j := 1) (ev_var rfl) ev_c) fun H9 e9 => ?_
      refine q_asg (v := iv (e + 1 + n0)) (ev_addN (ev_var rfl) (ev_ixS (k := e) (ev_var rfl) (ev_subN (i := e + 1) (j := 1) (ev_var rfl) ev_c (by omega)) (ex_l e9 sq2) he0)) fun H10 e10 => ?_
      have e910 := e9.trans e10
      have hvl : vs.length = i := by rw [← hdl]; exact Paired.length pvs
      refine s_appendL (e910 _ _ hvs) (ev_var rfl) (el_cut (i := e + 1) (j := e + 1 + n0) (ev_var rfl) (ev_var rfl) (ev_var rfl) (ex_l e910 sq2) (by omega) (by omega)) (by rw [hvl]; omega) fun H12 pw e12 npw lw => ?_
      have e912 := e910.trans e12
      rw [Nat.add_sub_cancel_left] at lw
      have npw7 : pw ≠ p7 := fun z => by rw [z, e910 _ _ hvs] at npw; cases npw
      refine ⟨e + 1 + n0, _, _, rfl, Ex.mut (ex.trans e912) n7, by omega, by omega, done ++ [(ns.drop (e + 1)).take n0], xs', ?_, ?_, ?_, vs ++ [.ref pw], upd_same, ?_⟩
      · rw [hxs, htodo, List.append_assoc]; rfl
      · rw [List.length_append, hdl]; rfl
      · rw [← hrow']
        congr 1
      · exact paired_app (wordz_exc (wordz_exc pvs (Exc.of e912)) Exc.upd) (.cons ⟨pw, rfl, npw7, up_ne lw npw7⟩ .nil)
    · obtain ⟨e, c8', c9', rfl, ex, hle, hel, done, todo, hxs, hdl, hrow, vs, hvs, pvs⟩ := pv
      have hkk : kk - (kk : Int).toNat = 0 := by omega
      rw [hkk] at hrow
      obtain ⟨ht1, ht2⟩ := rows_zero hrow
      subst ht1
      rw [List.append_nil] at hxs
      subst hxs
      have e4' := e47.trans ex
      have kb' := kb.ex e4'
      have hd' := hd.ex e4'
      have hf' := e4' _ _ hf
      have h6' : IntL H' p6 ((ns.drop (at_ + 1)).take n) := ex _ _ (intL_of l6)
      have hw' : WordsAt H' p7 xs := ⟨vs, hvs, Paired.mapP pvs fun _ _ ⟨q, e1, _, k⟩ => ⟨q, e1, k⟩⟩
      obtain ⟨p', ns', ws', kc, hcc, hcall, hkind⟩ := asked_call (hok _ (List.mem_cons_self ..))
      injection hcc with hcc1 hcc2
      injection hcc1 with hcc1 hcc3
      subst hcc1 hcc2 hcc3
      refine q_cut (M := fun σ2 H2 => ∃ gp, σ2 = [some (.ref a), some (.ref d), some (.ref fo), some (iv at_), some (.int (q : Int)), some (iv e), some (.ref p6), some (.ref p7), c8', c9', some (.ref gp)] ∧ Kp ⟨l, fo⟩ H' H2 ∧ gp ≠ fo ∧ DeskS G H2 d ⟨l, fo⟩ (Wm.step st kc).1 ∧ IntL H2 gp (ansI (Wm.step st kc).2)) ?_ ?_
      · refine s_if (b := mkB (q : Int)) (et_test (ev_is (ev_inU (xs := ([1, 6, 7, 8, 9, 10] : List Nat).map iv) (ev_var rfl) (Evl.eu_tup (ea_cons ev_c (ea_cons ev_c (ea_cons ev_c (ea_cons ev_c (ea_cons ev_c (ea_cons ev_c ea_nil)))))) (by decide)) rfl rfl) ?_)) (fun hb H9 e9 => ?_) (fun hb H9 e9 => ?_)
        · show V.bl (inV (iv q) (([1, 6, 7, 8, 9, 10] : List Nat).map iv)) = _
          rw [inV_nats, mk_contains q (List.getElem?_eq_some_iff.mp hnq).1]
        · rcases hkind with ⟨_, mc⟩ | ⟨z, _⟩
          · refine ⟨_, rfl, _, rfl, _, rfl, d, _, p6, ⟨l, fo⟩, st, _, kc, rfl, e9 _ _ h6', hd'.ex e9, mc, fun H10 gp kp np ds il => ⟨gp, rfl, fun b o hb nb no => kp b o (e9 _ _ hb) nb no, fun z => ?_, ds, il⟩⟩
            rw [z, e9 _ _ hf'] at np
            cases np
          · rw [hb] at z; cases z
        · rcases hkind with ⟨z, _⟩ | ⟨_, pc⟩
          · rw [hb] at z; cases z
          · refine ⟨_, rfl, _, rfl, _, rfl, _, rfl, d, _, p6, p7, ⟨l, fo⟩, st, _, _, kc, rfl, e9 _ _ h6', hw'.ex e9, hd'.ex e9, pc, fun H10 gp kp np ds il => ⟨gp, rfl, fun b o hb nb no => kp b o (e9 _ _ hb) nb no, fun z => ?_, ds, il⟩⟩
            rw [z, e9 _ _ hf'] at np
            cases np
      · rintro σ2 H9 ⟨gp, rfl, kp, ngf, ds, il⟩
        have kb9 : Kb H H9 := kb'.kp kp nl0
        have hf9 : H9 fo = some (.lst (out.map V.int)) := kp _ _ hf' hlf.symm (fun _ _ _ z => nomatch z)
        have hst := step_call hcall st
        have hout2 : (out ++ ((ansI (Wm.step st kc).2).length : Int) :: ansI (Wm.step st kc).2) ++ PyFlat.told (PyFlat.played WmNeutral.step (Wm.step st kc).1 cs') = PyWqazae.answers ns := by
          rw [← hout, List.append_assoc]
          congr 1
          show _ = PyFlat.told ((WmNeutral.step st _).2 :: PyFlat.played WmNeutral.step (WmNeutral.step st _).1 cs')
          rw [told_cons, hst]
          rfl
        have hsz : out.length + 1 + (ansI (Wm.step st kc).2).length ≤ 1001200 := by
          have := congrArg List.length hout2
          rw [List.length_append, List.length_append, List.length_cons] at this
          omega
        generalize ansI (Wm.step st kc).2 = got at il hout2 hsz
        refine q_append (v := iv got.length) hf9 (ev_var rfl) (ev_lenI (K := G.K) (ev_var rfl) il) (by rw [List.length_map]; omega) fun H10 e10 => ?_
        have hf10 : upd H10 fo (.lst (out.map V.int ++ [iv got.length])) fo = some (.lst (out.map V.int ++ [iv got.length])) := upd_same
        have il10 : IntL (upd H10 fo (.lst (out.map V.int ++ [iv got.length]))) gp got := up_ne (e10 _ _ il) ngf
        have kb10 : Kb H (upd H10 fo (.lst (out.map V.int ++ [iv got.length]))) := (kb9.ex e10).up nfo0
        have ds10 : DeskS G (upd H10 fo (.lst (out.map V.int ++ [iv got.length]))) d ⟨l, fo⟩ (Wm.step st kc).1 := (ds.ex e10).upz
        generalize upd H10 fo (.lst (out.map V.int ++ [iv got.length])) = H11 at hf10 il10 kb10 ds10
        refine q_extend hf10 il10 (ev_var rfl) (ev_var rfl) (by simp; omega) fun H12 e12 => ?_
        refine ⟨_, rfl, ns.length - e, by omega, e, (Wm.step st kc).1, cs', out ++ ((got.length : Int) :: got), _, _, _, _, _, _, _, rfl, by omega, ⟨f', ?_⟩, fun c hc => hok c (List.mem_cons_of_mem _ hc), hout2, (kb10.ex e12).up nfo0, (ds10.ex e12).upz, ?_⟩
        · rw [← ht2]; exact hcalls'
        · rw [upd_same, List.map_append, List.append_assoc]
          rfl
  · have hge : ns.length ≤ at_ := by have := of_decide_eq_false hb; omega
    rw [List.drop_eq_nil_of_le hge] at hcalls
    have := calls_nil hcalls
    subst this
    have e : out = PyWqazae.answers ns := by rw [← hout]; exact (List.append_nil out).symm
    refine ⟨_, rfl, k H4 fo ?_⟩
    rw [← e]
    exact e4 _ _ hf
end
end Tw

namespace Tw
open PySem PySem.Spec PyProof.Rows L2 Evl
section
variable {P : Program} {w : World} {mg : Str → Option Value} {base : Heap} {G : Gs}
theorem sc_Machine_init : FnScope n_Machine_init p_Machine_init (defScope s_Machine_init) := ⟨rfl, rfl, rfl, by decide +kernel, rfl, by decide +kernel, by decide +kernel⟩
theorem tie_Machine_init {f : Addr} {cdv : Value} {A : Around} {outer : List Env} {s : Shared} {H : Hp} {E : XK} (T : Txt G mg) 
    (hr : Room 0 (A.deeper (envOfC "Machine.__init__" (defScope s_Machine_init) s.heap.objs.size f cdv))) :
    PSs (cxOf CX0 P w G.K mg base n_Machine_init "Machine.__init__" (defScope s_Machine_init) f cdv A outer s H E).nox (defBody s_Machine_init) (t_Machine_init G) := by
  have hu := hu_of hr
  have hw := hr.units
  have hv := hr.units0
  exact (pss_cons (ps_fld (pv 0) (pv 1) rfl)
  (pss_cons (ps_fld (pv 0) (pv 2) rfl)
  (pss_cons (ps_fld (pv 0) (pv 3) rfl)
  (pss_cons (ps_fld (pv 0) (pv 1) rfl)
  (pss_cons (ps_fld (pv 0) (pe_callB call_len_seq rfl T.b_len PySem.boot_len (pa_cons (pv 3) pa_nil)) rfl)
  (pss_one (ps_fld (pv 0) pe_bl rfl)))))))
theorem sc_Machine_has_state : FnScope n_Machine_has_state p_Machine_has_state (defScope s_Machine_has_state) := ⟨rfl, rfl, rfl, by decide +kernel, rfl, by decide +kernel, by decide +kernel⟩
theorem tie_Machine_has_state {f : Addr} {cdv : Value} {A : Around} {outer : List Env} {s : Shared} {H : Hp} {E : XK} (T : Txt G mg) 
    (hr : Room 0 (A.deeper (envOfC "Machine.has_state" (defScope s_Machine_has_state) s.heap.objs.size f cdv))) :
    PSs (cxOf CX0 P w G.K mg base n_Machine_has_state "Machine.has_state" (defScope s_Machine_has_state) f cdv A outer s H E).nox (defBody s_Machine_has_state) (t_Machine_has_state G) := by
  have hu := hu_of hr
  have hw := hr.units
  have hv := hr.units0
  exact (pss_one (ps_ret (pe_cmpR op_lt (pv 1) (pe_fld (pv 0) rfl) (nomark _))))
theorem sc_Machine_add_state : FnScope n_Machine_add_state p_Machine_add_state (defScope s_Machine_add_state) := ⟨rfl, rfl, rfl, by decide +kernel, rfl, by decide +kernel, by decide +kernel⟩
theorem tie_Machine_add_state {f : Addr} {cdv : Value} {A : Around} {outer : List Env} {s : Shared} {H : Hp} {E : XK} (T : Txt G mg) 
    (hr : Room 0 (A.deeper (envOfC "Machine.add_state" (defScope s_Machine_add_state) s.heap.objs.size f cdv))) :
    PSs (cxOf CX0 P w G.K mg base n_Machine_add_state "Machine.add_state" (defScope s_Machine_add_state) f cdv A outer s H E).nox (defBody s_Machine_add_state) (t_Machine_add_state G) := by
  have hu := hu_of hr
  have hw := hr.units
  have hv := hr.units0
  exact (pss_cons (ps_fldaug (pv 0) pe_int in_add)
  (pss_cons (ps_fldaug (pv 0) pe_int in_add)
  (pss_one (ps_ret (pe_op op_sub (pe_fld (pv 0) rfl) pe_int)))))
theorem sc_Machine_add_arc : FnScope n_Machine_add_arc p_Machine_add_arc (defScope s_Machine_add_arc) := ⟨rfl, rfl, rfl, by decide +kernel, rfl, by decide +kernel, by decide +kernel⟩
theorem tie_Machine_add_arc {f : Addr} {cdv : Value} {A : Around} {outer : List Env} {s : Shared} {H : Hp} {E : XK} (T : Txt G mg) 
    (hr : Room 0 (A.deeper (envOfC "Machine.add_arc" (defScope s_Machine_add_arc) s.heap.objs.size f cdv))) :
    PSs (cxOf CX0 P w G.K mg base n_Machine_add_arc "Machine.add_arc" (defScope s_Machine_add_arc) f cdv A outer s H E).nox (defBody s_Machine_add_arc) (t_Machine_add_arc G) := by
  have hu := hu_of hr
  have hw := hr.units
  have hv := hr.units0
  exact (pss_cons (ps_fld (pv 0) (pe_op op_cat (pe_fld (pv 0) rfl) (pe_lst (pa_cons (pv 1) pa_nil))) rfl)
  (pss_one (ps_fldaug (pv 0) pe_int in_add)))
theorem sc_Machine_set_final : FnScope n_Machine_set_final p_Machine_set_final (defScope s_Machine_set_final) := ⟨rfl, rfl, rfl, by decide +kernel, rfl, by decide +kernel, by decide +kernel⟩
theorem tie_Machine_set_final {f : Addr} {cdv : Value} {A : Around} {outer : List Env} {s : Shared} {H : Hp} {E : XK} (T : Txt G mg) 
    (hr : Room 0 (A.deeper (envOfC "Machine.set_final" (defScope s_Machine_set_final) s.heap.objs.size f cdv))) :
    PSs (cxOf CX0 P w G.K mg base n_Machine_set_final "Machine.set_final" (defScope s_Machine_set_final) f cdv A outer s H E).nox (defBody s_Machine_set_final) (t_Machine_set_final G) := by
  have hu := hu_of hr
  have hw := hr.units
  have hv := hr.units0
  exact (pss_cons (ps_setLc (i := 3) (own := [("state", 4)]) (g := (gName 4)) (tt := (tTest (tOp rNe (tVar 4) (tVar 1)))) rfl sc_Machine_set_final.nd rfl rfl (sw_true rfl rfl rfl (by decide +kernel)) (pi_list (pe_fld (pv 0) rfl)) (blkOk_by (own := [("state", 4)]) (N := n_Machine_set_final) (sc := defScope s_Machine_set_final) (by decide +kernel)) (fun _ _ _ _ _ => (pg_name (i := 4) sc_Machine_set_final.nd rfl (Or.inl rfl))) (fun _ _ _ _ _ => (pts_one (pt_cmpR op_ne (pv 4) (pv 1) (nomark _)))) (fun _ _ _ _ _ => (pv 4)))
  (pss_one (ps_fld (pv 0) (pe_op op_cat (pv 3) (pe_op op_rep (pe_lst (pa_cons (pv 1) pa_nil)) (pe_callTy call_int1 rfl T.b_int (by decide +kernel) (pa_cons (pv 2) pa_nil)))) rfl)))
theorem sc_Machine_turn : FnScope n_Machine_turn p_Machine_turn (defScope s_Machine_turn) := ⟨rfl, rfl, rfl, by decide +kernel, rfl, by decide +kernel, by decide +kernel⟩
theorem tie_Machine_turn {f : Addr} {cdv : Value} {A : Around} {outer : List Env} {s : Shared} {H : Hp} {E : XK} (T : Txt G mg) 
    (hr : Room 0 (A.deeper (envOfC "Machine.turn" (defScope s_Machine_turn) s.heap.objs.size f cdv))) :
    PSs (cxOf CX0 P w G.K mg base n_Machine_turn "Machine.turn" (defScope s_Machine_turn) f cdv A outer s H E).nox (defBody s_Machine_turn) (t_Machine_turn G) := by
  have hu := hu_of hr
  have hw := hr.units
  have hv := hr.units0
  exact (pss_one (ps_fld (pv 0) (pe_lc (own := [("start", 1), ("reads", 2), ("writes", 3), ("to", 4)]) (g := (gTup G.K 4 (gCons (gName 1) (gCons (gName 2) (gCons (gName 3) (gCons (gName 4) gNil)))))) (tt := tYes) rfl sc_Machine_turn.nd (pi_list (pe_fld (pv 0) rfl)) (blkOk_by (own := [("start", 1), ("reads", 2), ("writes", 3), ("to", 4)]) (N := n_Machine_turn) (sc := defScope s_Machine_turn) (by decide +kernel)) (fun _ _ _ _ _ => (pg_tup rfl (pgs_cons (pg_name (i := 1) sc_Machine_turn.nd rfl (Or.inl rfl)) (pgs_cons (pg_name (i := 2) sc_Machine_turn.nd rfl (Or.inl rfl)) (pgs_cons (pg_name (i := 3) sc_Machine_turn.nd rfl (Or.inl rfl)) (pgs_cons (pg_name (i := 4) sc_Machine_turn.nd rfl (Or.inl rfl)) pgs_nil)))))) (fun _ _ _ _ _ => pts_nil) (fun _ _ _ _ _ => (pe_tup (pa_cons (pv 1) (pa_cons (pv 3) (pa_cons (pv 2) (pa_cons (pv 4) pa_nil))))))) rfl))
theorem sc_moved : FnScope n_moved p_moved (defScope s_moved) := ⟨rfl, rfl, rfl, by decide +kernel, rfl, by decide +kernel, by decide +kernel⟩
theorem tie_moved {f : Addr} {cdv : Value} {A : Around} {outer : List Env} {s : Shared} {H : Hp} {E : XK} (T : Txt G mg) 
    (hr : Room 0 (A.deeper (envOfC "moved" (defScope s_moved) s.heap.objs.size f cdv))) :
    PSs (cxOf CX0 P w G.K mg base n_moved "moved" (defScope s_moved) f cdv A outer s H E).nox (defBody s_moved) (t_moved G) := by
  have hu := hu_of hr
  have hw := hr.units
  have hv := hr.units0
  exact (pss_one (ps_ret (pe_lc (own := [("start", 2), ("reads", 3), ("writes", 4), ("to", 5)]) (g := (gTup G.K 4 (gCons (gName 2) (gCons (gName 3) (gCons (gName 4) (gCons (gName 5) gNil)))))) (tt := tYes) rfl sc_moved.nd (pi_list (pv 0)) (blkOk_by (own := [("start", 2), ("reads", 3), ("writes", 4), ("to", 5)]) (N := n_moved) (sc := defScope s_moved) (by decide +kernel)) (fun _ _ _ _ _ => (pg_tup rfl (pgs_cons (pg_name (i := 2) sc_moved.nd rfl (Or.inl rfl)) (pgs_cons (pg_name (i := 3) sc_moved.nd rfl (Or.inl rfl)) (pgs_cons (pg_name (i := 4) sc_moved.nd rfl (Or.inl rfl)) (pgs_cons (pg_name (i := 5) sc_moved.nd rfl (Or.inl rfl)) pgs_nil)))))) (fun _ _ _ _ _ => pts_nil) (fun _ _ _ _ _ => (pe_tup (pa_cons (pe_op op_add (pv 2) (pv 1)) (pa_cons (pv 3) (pa_cons (pv 4) (pa_cons (pe_op op_add (pv 5) (pv 1)) pa_nil)))))))))
theorem sc_is_too_great : FnScope n_is_too_great p_is_too_great (defScope s_is_too_great) := ⟨rfl, rfl, rfl, by decide +kernel, rfl, by decide +kernel, by decide +kernel⟩
theorem tie_is_too_great {f : Addr} {cdv : Value} {A : Around} {outer : List Env} {s : Shared} {H : Hp} {E : XK} (T : Txt G mg) 
    (hr : Room 0 (A.deeper (envOfC "is_too_great" (defScope s_is_too_great) s.heap.objs.size f cdv))) :
    PSs (cxOf CX0 P w G.K mg base n_is_too_great "is_too_great" (defScope s_is_too_great) f cdv A outer s H E).nox (defBody s_is_too_great) (t_is_too_great G) := by
  have hu := hu_of hr
  have hw := hr.units
  have hv := hr.units0
  exact (pss_one (ps_ret (pe_or (pe_cmpR op_gt (pe_ix ix_list (pv 0) pe_int (fun _ _ => rfl)) (pe_ci rfl T.c_MOST_STATES) (nomark _)) (pe_one (pe_cmpR op_gt (pe_ix ix_list (pv 0) pe_int (fun _ _ => rfl)) (pe_ci rfl T.c_MOST_ARCS) (nomark _))))))
theorem sc_finished : FnScope n_finished p_finished (defScope s_finished) := ⟨rfl, rfl, rfl, by decide +kernel, rfl, by decide +kernel, by decide +kernel⟩
theorem tie_finished {f : Addr} {cdv : Value} {A : Around} {outer : List Env} {s : Shared} {H : Hp} {E : XK} (T : Txt G mg) 
    (hr : Room 0 (A.deeper (envOfC "finished" (defScope s_finished) s.heap.objs.size f cdv))) :
    PSs (cxOf CX0 P w G.K mg base n_finished "finished" (defScope s_finished) f cdv A outer s H E).nox (defBody s_finished) (t_finished G) := by
  have hu := hu_of hr
  have hw := hr.units
  have hv := hr.units0
  exact (pss_cons (ps_asg (pv 1) (pg_unl rfl (pgs_cons (pg_fld (pv 0)) (pgs_cons (pg_fld (pv 0)) pgs_nil))))
  (pss_cons (ps_fld (pv 0) pe_bl rfl)
  (pss_one (ps_ret (pv 0)))))
theorem sc_join_numbers : FnScope n_join_numbers p_join_numbers (defScope s_join_numbers) := ⟨rfl, rfl, rfl, by decide +kernel, rfl, by decide +kernel, by decide +kernel⟩
theorem tie_join_numbers {f : Addr} {cdv : Value} {A : Around} {outer : List Env} {s : Shared} {H : Hp} {E : XK} (T : Txt G mg) 
    (hr : Room 0 (A.deeper (envOfC "join_numbers" (defScope s_join_numbers) s.heap.objs.size f cdv))) :
    PSs (cxOf CX0 P w G.K mg base n_join_numbers "join_numbers" (defScope s_join_numbers) f cdv A outer s H E).nox (defBody s_join_numbers) (t_join_numbers G) := by
  have hu := hu_of hr
  have hw := hr.units
  have hv := hr.units0
  exact (pss_one (ps_ret (pe_lst (pa_cons (pe_op op_add (pe_op op_add (pe_fld (pv 0) rfl) (pe_fld (pv 1) rfl)) pe_int) (pa_cons (pe_op op_add (pe_op op_add (pe_fld (pv 0) rfl) (pe_fld (pv 1) rfl)) pe_int) pa_nil)))))
theorem sc_follow_numbers : FnScope n_follow_numbers p_follow_numbers (defScope s_follow_numbers) := ⟨rfl, rfl, rfl, by decide +kernel, rfl, by decide +kernel, by decide +kernel⟩
theorem tie_follow_numbers {f : Addr} {cdv : Value} {A : Around} {outer : List Env} {s : Shared} {H : Hp} {E : XK} (T : Txt G mg) 
    (hr : Room 0 (A.deeper (envOfC "follow_numbers" (defScope s_follow_numbers) s.heap.objs.size f cdv))) :
    PSs (cxOf CX0 P w G.K mg base n_follow_numbers "follow_numbers" (defScope s_follow_numbers) f cdv A outer s H E).nox (defBody s_follow_numbers) (t_follow_numbers G) := by
  have hu := hu_of hr
  have hw := hr.units
  have hv := hr.units0
  exact (pss_one (ps_ret (pe_lst (pa_cons (pe_op op_add (pe_fld (pv 0) rfl) (pe_fld (pv 1) rfl)) (pa_cons (pe_op op_add (pe_op op_add (pe_fld (pv 0) rfl) (pe_fld (pv 1) rfl)) (pe_fld (pv 0) rfl)) pa_nil)))))
theorem sc_again_numbers : FnScope n_again_numbers p_again_numbers (defScope s_again_numbers) := ⟨rfl, rfl, rfl, by decide +kernel, rfl, by decide +kernel, by decide +kernel⟩
theorem tie_again_numbers {f : Addr} {cdv : Value} {A : Around} {outer : List Env} {s : Shared} {H : Hp} {E : XK} (T : Txt G mg) 
    (hr : Room 0 (A.deeper (envOfC "again_numbers" (defScope s_again_numbers) s.heap.objs.size f cdv))) :
    PSs (cxOf CX0 P w G.K mg base n_again_numbers "again_numbers" (defScope s_again_numbers) f cdv A outer s H E).nox (defBody s_again_numbers) (t_again_numbers G) := by
  have hu := hu_of hr
  have hw := hr.units
  have hv := hr.units0
  exact (pss_one (ps_ret (pe_lst (pa_cons (pe_op op_add (pe_fld (pv 0) rfl) pe_int) (pa_cons (pe_op op_add (pe_op op_add (pe_fld (pv 0) rfl) (pe_fld (pv 0) rfl)) pe_int) pa_nil)))))
theorem sc_behind_numbers : FnScope n_behind_numbers p_behind_numbers (defScope s_behind_numbers) := ⟨rfl, rfl, rfl, by decide +kernel, rfl, by decide +kernel, by decide +kernel⟩
theorem tie_behind_numbers {f : Addr} {cdv : Value} {A : Around} {outer : List Env} {s : Shared} {H : Hp} {E : XK} (T : Txt G mg) 
    (hr : Room 0 (A.deeper (envOfC "behind_numbers" (defScope s_behind_numbers) s.heap.objs.size f cdv))) :
    PSs (cxOf CX0 P w G.K mg base n_behind_numbers "behind_numbers" (defScope s_behind_numbers) f cdv A outer s H E).nox (defBody s_behind_numbers) (t_behind_numbers G) := by
  have hu := hu_of hr
  have hw := hr.units
  have hv := hr.units0
  exact (pss_cons (ps_set (i := 2) sc_behind_numbers.nd rfl (Or.inl rfl) (pe_op op_add (pe_op op_add (pe_op op_mul (pe_fld (pv 0) rfl) (pe_fld (pv 1) rfl)) (pe_op op_mul (pe_fld (pv 0) rfl) (pe_fld (pv 1) rfl))) (pe_op op_mul (pe_fld (pv 0) rfl) (pe_fld (pv 1) rfl))))
  (pss_one (ps_ret (pe_lst (pa_cons (pe_op op_mul (pe_fld (pv 0) rfl) (pe_fld (pv 1) rfl)) (pa_cons (pv 2) pa_nil))))))
theorem sc_behind_arcs : FnScope n_behind_arcs p_behind_arcs (defScope s_behind_arcs) := ⟨rfl, rfl, rfl, by decide +kernel, rfl, by decide +kernel, by decide +kernel⟩
theorem tie_behind_arcs {f : Addr} {cdv : Value} {A : Around} {outer : List Env} {s : Shared} {H : Hp} {E : XK} (T : Txt G mg) 
    (hr : Room 0 (A.deeper (envOfC "behind_arcs" (defScope s_behind_arcs) s.heap.objs.size f cdv))) :
    PSs (cxOf CX0 P w G.K mg base n_behind_arcs "behind_arcs" (defScope s_behind_arcs) f cdv A outer s H E).nox (defBody s_behind_arcs) (t_behind_arcs G) := by
  have hu := hu_of hr
  have hw := hr.units
  have hv := hr.units0
  exact (pss_cons (ps_set (i := 2) sc_behind_arcs.nd rfl (Or.inr rfl) (pe_fld (pv 1) rfl))
  (pss_cons (ps_set (i := 3) sc_behind_arcs.nd rfl (Or.inl rfl) (pe_lst pa_nil))
  (pss_cons (ps_for PassesOwn.never rfl (pi_list (pe_fld (pv 0) rfl)) (pg_tup rfl (pgs_cons (pg_name (i := 4) sc_behind_arcs.nd rfl (Or.inr rfl)) (pgs_cons (pg_name (i := 5) sc_behind_arcs.nd rfl (Or.inr rfl)) (pgs_cons (pg_name (i := 6) sc_behind_arcs.nd rfl (Or.inl rfl)) (pgs_cons (pg_name (i := 7) sc_behind_arcs.nd rfl (Or.inr rfl)) pgs_nil)))))
  (pss_cut (ps_if (pt_cmpR op_eq (pv 6) (pe_ci rfl T.c_NOTHING) (nomark _)) (pss_one (ps_expr (pe_bm PySem.F.plainAttrs_list PySem.F.slot_list_extend PySem.F.type_list_extend mt_extend (pv 3) (pa_cons (pe_lc (own := [("k", 12)]) (g := (gName 12)) (tt := tYes) rfl sc_behind_arcs.nd (pi_range1 rfl T.b_range (pa_cons (pv 2) pa_nil)) (blkOk_by (own := [("k", 12)]) (N := n_behind_arcs) (sc := defScope s_behind_arcs) (by decide +kernel)) (fun _ _ _ _ _ => (pg_name (i := 12) sc_behind_arcs.nd rfl (Or.inl rfl))) (fun _ _ _ _ _ => pts_nil) (fun _ _ _ _ _ => (pe_tup (pa_cons (pe_op op_add (pe_op op_mul (pv 4) (pv 2)) (pv 12)) (pa_cons (pv 5) (pa_cons (pe_ci rfl T.c_NOTHING) (pa_cons (pe_op op_add (pe_op op_mul (pv 7) (pv 2)) (pv 12)) pa_nil))))))) pa_nil)))) pss_nil)
  (pss_one (ps_for PassesOwn.never rfl (pi_list (pe_fld (pv 1) rfl)) (pg_tup rfl (pgs_cons (pg_name (i := 8) sc_behind_arcs.nd rfl (Or.inr rfl)) (pgs_cons (pg_name (i := 9) sc_behind_arcs.nd rfl (Or.inl rfl)) (pgs_cons (pg_name (i := 10) sc_behind_arcs.nd rfl (Or.inr rfl)) (pgs_cons (pg_name (i := 11) sc_behind_arcs.nd rfl (Or.inr rfl)) pgs_nil)))))
  (pss_one (ps_if (PW.pt (pw_and (pt_cmpR op_ne (pv 6) (pe_ci rfl T.c_NOTHING) (nomark _)) (pw_and1 (pt_cmpR op_eq (pv 9) (pv 6) (nomark _))))) (pss_one (ps_expr (pe_bm PySem.F.plainAttrs_list PySem.F.slot_list_append PySem.F.type_list_append mt_append (pv 3) (pa_cons (pe_tup (pa_cons (pe_op op_add (pe_op op_mul (pv 4) (pv 2)) (pv 8)) (pa_cons (pv 5) (pa_cons (pv 10) (pa_cons (pe_op op_add (pe_op op_mul (pv 7) (pv 2)) (pv 11)) pa_nil))))) pa_nil)))) pss_nil))))))
  (pss_cons (ps_for PassesOwn.never rfl (pi_list (pe_fld (pv 1) rfl)) (pg_tup rfl (pgs_cons (pg_name (i := 8) sc_behind_arcs.nd rfl (Or.inr rfl)) (pgs_cons (pg_name (i := 9) sc_behind_arcs.nd rfl (Or.inl rfl)) (pgs_cons (pg_name (i := 10) sc_behind_arcs.nd rfl (Or.inr rfl)) (pgs_cons (pg_name (i := 11) sc_behind_arcs.nd rfl (Or.inr rfl)) pgs_nil)))))
  (pss_one (ps_if (pt_cmpR op_eq (pv 9) (pe_ci rfl T.c_NOTHING) (nomark _)) (pss_one (ps_expr (pe_bm PySem.F.plainAttrs_list PySem.F.slot_list_extend PySem.F.type_list_extend mt_extend (pv 3) (pa_cons (pe_lc (own := [("k", 12)]) (g := (gName 12)) (tt := tYes) rfl sc_behind_arcs.nd (pi_range1 rfl T.b_range (pa_cons (pe_fld (pv 0) rfl) pa_nil)) (blkOk_by (own := [("k", 12)]) (N := n_behind_arcs) (sc := defScope s_behind_arcs) (by decide +kernel)) (fun _ _ _ _ _ => (pg_name (i := 12) sc_behind_arcs.nd rfl (Or.inl rfl))) (fun _ _ _ _ _ => pts_nil) (fun _ _ _ _ _ => (pe_tup (pa_cons (pe_op op_add (pe_op op_mul (pv 12) (pv 2)) (pv 8)) (pa_cons (pe_ci rfl T.c_NOTHING) (pa_cons (pv 10) (pa_cons (pe_op op_add (pe_op op_mul (pv 12) (pv 2)) (pv 11)) pa_nil))))))) pa_nil)))) pss_nil)))
  (pss_one (ps_ret (pv 3)))))))
theorem sc_Turning_note : FnScope n_Turning_note p_Turning_note (defScope s_Turning_note) := ⟨rfl, rfl, rfl, by decide +kernel, rfl, by decide +kernel, by decide +kernel⟩
theorem tie_Turning_note {f : Addr} {cdv : Value} {A : Around} {outer : List Env} {s : Shared} {H : Hp} {E : XK} (T : Txt G mg) 
    (hr : Room 0 (A.deeper (envOfC "Turning.note" (defScope s_Turning_note) s.heap.objs.size f cdv))) :
    PSs (cxOf CX0 P w G.K mg base n_Turning_note "Turning.note" (defScope s_Turning_note) f cdv A outer s H E).nox (defBody s_Turning_note) (t_Turning_note G) := by
  have hu := hu_of hr
  have hw := hr.units
  have hv := hr.units0
  exact (pss_one (ps_if (pt_cmpR op_eq (pv 2) (pe_ci rfl T.c_NOTHING) (nomark _)) (pss_one (ps_expr (pe_bm PySem.F.plainAttrs_list PySem.F.slot_list_append PySem.F.type_list_append mt_append (pe_dsetT hu (pe_fld (pv 0) rfl) (pv 1) (pe_lst pa_nil) ⟨rfl, rfl, rfl, rfl⟩) (pa_cons (pv 3) pa_nil)))) (pss_one (ps_expr (pe_bm PySem.F.plainAttrs_list PySem.F.slot_list_append PySem.F.type_list_append mt_append (pe_dsetT hu (pe_fld (pv 0) rfl) (pv 1) (pe_lst pa_nil) ⟨rfl, rfl, rfl, rfl⟩) (pa_cons (pe_tup (pa_cons (pv 2) (pa_cons (pv 3) pa_nil))) pa_nil))))))
theorem sc_Turning_spots : FnScope n_Turning_spots p_Turning_spots (defScope s_Turning_spots) := ⟨rfl, rfl, rfl, by decide +kernel, rfl, by decide +kernel, by decide +kernel⟩
theorem tie_Turning_spots {f : Addr} {cdv : Value} {A : Around} {outer : List Env} {s : Shared} {H : Hp} {E : XK} (T : Txt G mg) 
    (hr : Room 0 (A.deeper (envOfC "Turning.spots" (defScope s_Turning_spots) s.heap.objs.size f cdv))) :
    PSs (cxOf CX0 P w G.K mg base n_Turning_spots "Turning.spots" (defScope s_Turning_spots) f cdv A outer s H E).nox (defBody s_Turning_spots) (t_Turning_spots G) := by
  have hu := hu_of hr
  have hw := hr.units
  have hv := hr.units0
  exact (pss_cons (ps_set (i := 1) sc_Turning_spots.nd rfl (Or.inl rfl) (pe_lst pa_nil))
  (pss_cons (ps_for PassesOwn.never rfl (pi_range1 rfl T.b_range (pa_cons (pe_op op_add (pe_callB call_len_seq rfl T.b_len PySem.boot_len (pa_cons (pe_fld (pv 0) rfl) pa_nil)) pe_int) pa_nil)) (pg_name (i := 2) sc_Turning_spots.nd rfl (Or.inr rfl))
  (pss_one (ps_expr (pe_bm PySem.F.plainAttrs_list PySem.F.slot_list_extend PySem.F.type_list_extend mt_extend (pv 1) (pa_cons (pe_lc (own := [("state", 3)]) (g := (gName 3)) (tt := tYes) rfl sc_Turning_spots.nd (pi_range1 rfl T.b_range (pa_cons (pe_fld (pe_fld (pv 0) rfl) rfl) pa_nil)) (blkOk_by (own := [("state", 3)]) (N := n_Turning_spots) (sc := defScope s_Turning_spots) (by decide +kernel)) (fun _ _ _ _ _ => (pg_name (i := 3) sc_Turning_spots.nd rfl (Or.inl rfl))) (fun _ _ _ _ _ => pts_nil) (fun _ _ _ _ _ => (pe_tup (pa_cons (pv 2) (pa_cons (pv 3) pa_nil))))) pa_nil)))))
  (pss_one (ps_ret (pv 1)))))
theorem sc_Turning_is_end : FnScope n_Turning_is_end p_Turning_is_end (defScope s_Turning_is_end) := ⟨rfl, rfl, rfl, by decide +kernel, rfl, by decide +kernel, by decide +kernel⟩
theorem tie_Turning_is_end {f : Addr} {cdv : Value} {A : Around} {outer : List Env} {s : Shared} {H : Hp} {E : XK} (T : Txt G mg) 
    (hr : Room 0 (A.deeper (envOfC "Turning.is_end" (defScope s_Turning_is_end) s.heap.objs.size f cdv))) :
    PSs (cxOf CX0 P w G.K mg base n_Turning_is_end "Turning.is_end" (defScope s_Turning_is_end) f cdv A outer s H E).nox (defBody s_Turning_is_end) (t_Turning_is_end G) := by
  have hu := hu_of hr
  have hw := hr.units
  have hv := hr.units0
  exact (pss_one (ps_ret (pe_and (pe_cmpR op_eq (pe_ix ix_tup (pv 1) pe_int (fun _ _ => rfl)) (pe_callB call_len_seq rfl T.b_len PySem.boot_len (pa_cons (pe_fld (pv 0) rfl) pa_nil)) (nomark _)) (pe_one (pe_cmpR op_in_seq (pe_ix ix_tup (pv 1) pe_int (fun _ _ => rfl)) (pe_fld (pe_fld (pv 0) rfl) rfl) rfl)))))
theorem sc_Turning_closed : FnScope n_Turning_closed p_Turning_closed (defScope s_Turning_closed) := ⟨rfl, rfl, rfl, by decide +kernel, rfl, by decide +kernel, by decide +kernel⟩
theorem tie_Turning_closed {f : Addr} {cdv : Value} {A : Around} {outer : List Env} {s : Shared} {H : Hp} {E : XK} (T : Txt G mg) 
    (hr : Room 0 (A.deeper (envOfC "Turning.closed" (defScope s_Turning_closed) s.heap.objs.size f cdv))) :
    PSs (cxOf CX0 P w G.K mg base n_Turning_closed "Turning.closed" (defScope s_Turning_closed) f cdv A outer s H E).nox (defBody s_Turning_closed) (t_Turning_closed G) := by
  have hu := hu_of hr
  have hw := hr.units
  have hv := hr.units0
  exact (pss_cons (ps_set (i := 2) sc_Turning_closed.nd rfl (Or.inl rfl) pe_dnewT)
  (pss_cons (ps_set (i := 3) sc_Turning_closed.nd rfl (Or.inl rfl) (pe_callTy call_list_of rfl T.b_list (by decide +kernel) (pa_cons (pv 1) pa_nil)))
  (pss_cons (ps_while PassesOwn.never (pt_cmpR (op_neN hv) (pv 3) (pe_lst pa_nil) (nomark _))
  (pss_cons (ps_set (i := 4) sc_Turning_closed.nd rfl (Or.inl rfl) (pe_bm0 PySem.F.plainAttrs_list PySem.F.slot_list_pop PySem.F.type_list_pop mt_pop (pv 3)))
  (pss_one (ps_if (pt_cmp (pc_dnotin hu (pv 4) (pv 2)) rfl) (pss_cons (ps_dput hu (pv 2) (pv 4) pe_bl rfl)
  (pss_one (ps_expr (pe_bm PySem.F.plainAttrs_list PySem.F.slot_list_extend PySem.F.type_list_extend mt_extend (pv 3) (pa_cons (pe_dget2 hu (pe_fld (pv 0) rfl) (pv 4) (pe_lst pa_nil) ⟨rfl, rfl, rfl, rfl⟩) pa_nil))))) pss_nil))))
  (pss_one (ps_ret (pe_callTy (call_list_dT rfl) rfl T.b_list (by decide +kernel) (pa_cons (pv 2) pa_nil)))))))
theorem sc_Turning_leads : FnScope n_Turning_leads p_Turning_leads (defScope s_Turning_leads) := ⟨rfl, rfl, rfl, by decide +kernel, rfl, by decide +kernel, by decide +kernel⟩
theorem tie_Turning_leads {f : Addr} {cdv : Value} {A : Around} {outer : List Env} {s : Shared} {H : Hp} {E : XK} (T : Txt G mg) 
    (hr : Room 0 (A.deeper (envOfC "Turning.leads" (defScope s_Turning_leads) s.heap.objs.size f cdv))) :
    PSs (cxOf CX0 P w G.K mg base n_Turning_leads "Turning.leads" (defScope s_Turning_leads) f cdv A outer s H E).nox (defBody s_Turning_leads) (t_Turning_leads G) := by
  have hu := hu_of hr
  have hw := hr.units
  have hv := hr.units0
  exact (pss_cons (ps_for PassesOwn.never rfl (pi_list (pv 1)) (pg_name (i := 3) sc_Turning_leads.nd rfl (Or.inl rfl))
  (pss_one (ps_if (pt_cmpR (op_neN hv) (pe_lc (own := [("writes", 4), ("other", 5)]) (g := (gTup G.K 2 (gCons (gName 4) (gCons (gName 5) gNil)))) (tt := (tB (tDIn (tVar 5) (tVar 2)))) rfl sc_Turning_leads.nd (pi_list (pe_dget2 hu (pe_fld (pv 0) rfl) (pv 3) (pe_lst pa_nil) ⟨rfl, rfl, rfl, rfl⟩)) (blkOk_by (own := [("writes", 4), ("other", 5)]) (N := n_Turning_leads) (sc := defScope s_Turning_leads) (by decide +kernel)) (fun _ _ _ _ _ => (pg_tup rfl (pgs_cons (pg_name (i := 4) sc_Turning_leads.nd rfl (Or.inl rfl)) (pgs_cons (pg_name (i := 5) sc_Turning_leads.nd rfl (Or.inl rfl)) pgs_nil)))) (fun _ _ _ _ _ => (pts_one (pt_cmp (pc_din hu (pv 5) (pv 2)) rfl))) (fun _ _ _ _ _ => (pv 5))) (pe_lst pa_nil) (nomark _)) (pss_one (ps_ret pe_bl)) pss_nil)))
  (pss_one (ps_ret pe_bl)))
theorem sc_Turning_least_byte : FnScope n_Turning_least_byte p_Turning_least_byte (defScope s_Turning_least_byte) := ⟨rfl, rfl, rfl, by decide +kernel, rfl, by decide +kernel, by decide +kernel⟩
theorem tie_Turning_least_byte {f : Addr} {cdv : Value} {A : Around} {outer : List Env} {s : Shared} {H : Hp} {E : XK} (T : Txt G mg) 
    (hr : Room 0 (A.deeper (envOfC "Turning.least_byte" (defScope s_Turning_least_byte) s.heap.objs.size f cdv))) :
    PSs (cxOf CX0 P w G.K mg base n_Turning_least_byte "Turning.least_byte" (defScope s_Turning_least_byte) f cdv A outer s H E).nox (defBody s_Turning_least_byte) (t_Turning_least_byte G) := by
  have hu := hu_of hr
  have hw := hr.units
  have hv := hr.units0
  exact (pss_cons (ps_set (i := 4) sc_Turning_least_byte.nd rfl (Or.inl rfl) (pe_lst pa_nil))
  (pss_cons (ps_for PassesOwn.never rfl (pi_list (pv 1)) (pg_name (i := 5) sc_Turning_least_byte.nd rfl (Or.inl rfl))
  (pss_one (ps_for PassesOwn.never rfl (pi_list (pe_dget2 hu (pe_fld (pv 0) rfl) (pv 5) (pe_lst pa_nil) ⟨rfl, rfl, rfl, rfl⟩)) (pg_tup rfl (pgs_cons (pg_name (i := 6) sc_Turning_least_byte.nd rfl (Or.inl rfl)) (pgs_cons (pg_name (i := 7) sc_Turning_least_byte.nd rfl (Or.inl rfl)) pgs_nil)))
  (pss_one (ps_if (PW.pt (pw_and (pt_cmpR op_ge (pv 6) (pv 3) (nomark _)) (pw_and1 (pt_cmp (pc_din hu (pv 7) (pv 2)) rfl)))) (pss_one (ps_expr (pe_bm PySem.F.plainAttrs_list PySem.F.slot_list_append PySem.F.type_list_append mt_append (pv 4) (pa_cons (pv 6) pa_nil)))) pss_nil)))))
  (pss_cons (ps_if (pt_cmpR (op_eqN hv) (pv 4) (pe_lst pa_nil) (nomark _)) (pss_one (ps_ret (pe_ci rfl T.c_NOTHING))) pss_nil)
  (pss_one (ps_ret (pe_callB (cr_min rfl) rfl T.b_min (by decide +kernel) (pa_cons (pv 4) pa_nil)))))))
theorem sc_come_to : FnScope n_come_to p_come_to (defScope s_come_to) := ⟨rfl, rfl, rfl, by decide +kernel, rfl, by decide +kernel, by decide +kernel⟩
theorem tie_come_to {f : Addr} {cdv : Value} {A : Around} {outer : List Env} {s : Shared} {H : Hp} {E : XK} (T : Txt G mg) 
    (hr : Room 0 (A.deeper (envOfC "come_to" (defScope s_come_to) s.heap.objs.size f cdv))) :
    PSs (cxOf CX0 P w G.K mg base n_come_to "come_to" (defScope s_come_to) f cdv A outer s H E).nox (defBody s_come_to) (t_come_to G) := by
  have hu := hu_of hr
  have hw := hr.units
  have hv := hr.units0
  exact (pss_cons (ps_set (i := 2) sc_come_to.nd rfl (Or.inl rfl) pe_dnewK)
  (pss_cons (ps_for PassesOwn.never rfl (pi_range1 rfl T.b_range (pa_cons (pv 1) pa_nil)) (pg_name (i := 3) sc_come_to.nd rfl (Or.inl rfl))
  (pss_cons (ps_set (i := 4) sc_come_to.nd rfl (Or.inl rfl) pe_dnewK)
  (pss_cons (ps_set (i := 5) sc_come_to.nd rfl (Or.inl rfl) (pe_lst (pa_cons (pv 3) pa_nil)))
  (pss_cons (ps_while PassesOwn.never (pt_cmpR (op_neN hv) (pv 5) (pe_lst pa_nil) (nomark _))
  (pss_cons (ps_set (i := 6) sc_come_to.nd rfl (Or.inr rfl) (pe_bm0 PySem.F.plainAttrs_list PySem.F.slot_list_pop PySem.F.type_list_pop mt_pop (pv 5)))
  (pss_one (ps_if (pt_cmp (pc_dnotin hu (pv 6) (pv 4)) rfl) (pss_cons (ps_dput hu (pv 4) (pv 6) pe_bl rfl)
  (pss_one (ps_expr (pe_bm PySem.F.plainAttrs_list PySem.F.slot_list_extend PySem.F.type_list_extend mt_extend (pv 5) (pa_cons (pe_lc (own := [("begin", 7), ("end", 8)]) (g := (gTup G.K 2 (gCons (gName 7) (gCons (gName 8) gNil)))) (tt := (tTest (tOp rEq (tVar 7) (tVar 6)))) rfl sc_come_to.nd (pi_list (pv 0)) (blkOk_by (own := [("begin", 7), ("end", 8)]) (N := n_come_to) (sc := defScope s_come_to) (by decide +kernel)) (fun _ _ _ _ _ => (pg_tup rfl (pgs_cons (pg_name (i := 7) sc_come_to.nd rfl (Or.inl rfl)) (pgs_cons (pg_name (i := 8) sc_come_to.nd rfl (Or.inl rfl)) pgs_nil)))) (fun _ _ _ _ _ => (pts_one (pt_cmpR op_eq (pv 7) (pv 6) (nomark _)))) (fun _ _ _ _ _ => (pv 8))) pa_nil))))) pss_nil))))
  (pss_one (ps_dput hu (pv 2) (pv 3) (pv 4) rfl))))))
  (pss_one (ps_ret (pv 2)))))
theorem sc_reached_spots : FnScope n_reached_spots p_reached_spots (defScope s_reached_spots) := ⟨rfl, rfl, rfl, by decide +kernel, rfl, by decide +kernel, by decide +kernel⟩
theorem tie_reached_spots {f : Addr} {cdv : Value} {A : Around} {outer : List Env} {s : Shared} {H : Hp} {E : XK} (T : Txt G mg) 
    (hr : Room 0 (A.deeper (envOfC "reached_spots" (defScope s_reached_spots) s.heap.objs.size f cdv))) :
    PSs (cxOf CX0 P w G.K mg base n_reached_spots "reached_spots" (defScope s_reached_spots) f cdv A outer s H E).nox (defBody s_reached_spots) (t_reached_spots G) := by
  have hu := hu_of hr
  have hw := hr.units
  have hv := hr.units0
  exact (pss_cons (ps_set (i := 1) sc_reached_spots.nd rfl (Or.inl rfl) pe_dnewT)
  (pss_cons (ps_set (i := 2) sc_reached_spots.nd rfl (Or.inl rfl) (pe_lst (pa_cons (pe_tup (pa_cons pe_int (pa_cons pe_int pa_nil))) pa_nil)))
  (pss_cons (ps_while PassesOwn.never (pt_cmpR (op_neN hv) (pv 2) (pe_lst pa_nil) (nomark _))
  (pss_cons (ps_set (i := 3) sc_reached_spots.nd rfl (Or.inl rfl) (pe_bm0 PySem.F.plainAttrs_list PySem.F.slot_list_pop PySem.F.type_list_pop mt_pop (pv 2)))
  (pss_one (ps_if (pt_cmp (pc_dnotin hu (pv 3) (pv 1)) rfl) (pss_cons (ps_dput hu (pv 1) (pv 3) pe_bl rfl)
  (pss_cons (ps_expr (pe_bm PySem.F.plainAttrs_list PySem.F.slot_list_extend PySem.F.type_list_extend mt_extend (pv 2) (pa_cons (pe_dget2 hu (pe_fld (pv 0) rfl) (pv 3) (pe_lst pa_nil) ⟨rfl, rfl, rfl, rfl⟩) pa_nil)))
  (pss_one (ps_expr (pe_bm PySem.F.plainAttrs_list PySem.F.slot_list_extend PySem.F.type_list_extend mt_extend (pv 2) (pa_cons (pe_lc (own := [("writes", 4), ("other", 5)]) (g := (gTup G.K 2 (gCons (gName 4) (gCons (gName 5) gNil)))) (tt := tYes) rfl sc_reached_spots.nd (pi_list (pe_dget2 hu (pe_fld (pv 0) rfl) (pv 3) (pe_lst pa_nil) ⟨rfl, rfl, rfl, rfl⟩)) (blkOk_by (own := [("writes", 4), ("other", 5)]) (N := n_reached_spots) (sc := defScope s_reached_spots) (by decide +kernel)) (fun _ _ _ _ _ => (pg_tup rfl (pgs_cons (pg_name (i := 4) sc_reached_spots.nd rfl (Or.inl rfl)) (pgs_cons (pg_name (i := 5) sc_reached_spots.nd rfl (Or.inl rfl)) pgs_nil)))) (fun _ _ _ _ _ => pts_nil) (fun _ _ _ _ _ => (pv 5))) pa_nil)))))) pss_nil))))
  (pss_one (ps_ret (pv 1))))))
theorem sc_told : FnScope n_told p_told (defScope s_told) := ⟨rfl, rfl, rfl, by decide +kernel, rfl, by decide +kernel, by decide +kernel⟩
theorem tie_told {f : Addr} {cdv : Value} {A : Around} {outer : List Env} {s : Shared} {H : Hp} {E : XK} (T : Txt G mg) 
    (hr : Room 0 (A.deeper (envOfC "told" (defScope s_told) s.heap.objs.size f cdv))) :
    PSs (cxOf CX0 P w G.K mg base n_told "told" (defScope s_told) f cdv A outer s H E).nox (defBody s_told) (t_told G) := by
  have hu := hu_of hr
  have hw := hr.units
  have hv := hr.units0
  exact (pss_cons (ps_if (PW.pt (pw_and (pt_cmpR (op_eqN hv) (pv 1) (pe_lst pa_nil) (nomark _)) (pw_and1 (pt_cmpR (op_eqN hv) (pv 2) (pe_lst pa_nil) (nomark _))))) (pss_one (ps_ret (pe_lst (pa_cons (pv 0) pa_nil)))) pss_nil)
  (pss_one (ps_ret (pe_op op_cat (pe_op op_cat (pe_op op_cat (pe_lst (pa_cons (pv 0) (pa_cons (pe_callB call_len_seq rfl T.b_len PySem.boot_len (pa_cons (pv 1) pa_nil)) pa_nil))) (pv 1)) (pe_lst (pa_cons (pe_callB call_len_seq rfl T.b_len PySem.boot_len (pa_cons (pv 2) pa_nil)) pa_nil))) (pv 2)))))
theorem sc_is_written : FnScope n_is_written p_is_written (defScope s_is_written) := ⟨rfl, rfl, rfl, by decide +kernel, rfl, by decide +kernel, by decide +kernel⟩
theorem tie_is_written {f : Addr} {cdv : Value} {A : Around} {outer : List Env} {s : Shared} {H : Hp} {E : XK} (T : Txt G mg) 
    (hr : Room 0 (A.deeper (envOfC "is_written" (defScope s_is_written) s.heap.objs.size f cdv))) :
    PSs (cxOf CX0 P w G.K mg base n_is_written "is_written" (defScope s_is_written) f cdv A outer s H E).nox (defBody s_is_written) (t_is_written G) := by
  have hu := hu_of hr
  have hw := hr.units
  have hv := hr.units0
  exact (pss_one (ps_ret (pe_chain op_le op_le (pe_ci rfl T.c_NOTHING) (pv 0) pe_int)))
theorem sc_Desk_init : FnScope n_Desk_init p_Desk_init (defScope s_Desk_init) := ⟨rfl, rfl, rfl, by decide +kernel, rfl, by decide +kernel, by decide +kernel⟩
theorem tie_Desk_init {f : Addr} {cdv : Value} {A : Around} {outer : List Env} {s : Shared} {H : Hp} {E : XK} (T : Txt G mg) 
    (hr : Room 0 (A.deeper (envOfC "Desk.__init__" (defScope s_Desk_init) s.heap.objs.size f cdv))) :
    PSs (cxOf CX0 P w G.K mg base n_Desk_init "Desk.__init__" (defScope s_Desk_init) f cdv A outer s H E).nox (defBody s_Desk_init) (t_Desk_init G) := by
  have hu := hu_of hr
  have hw := hr.units
  have hv := hr.units0
  exact (pss_one (ps_fld (pv 0) (pe_op op_rep (pe_lst (pa_cons pe_non pa_nil)) (pe_ci rfl T.c_PLACES)) rfl))
theorem sc_Desk_refusal : FnScope n_Desk_refusal p_Desk_refusal (defScope s_Desk_refusal) := ⟨rfl, rfl, rfl, by decide +kernel, rfl, by decide +kernel, by decide +kernel⟩
theorem tie_Desk_refusal {f : Addr} {cdv : Value} {A : Around} {outer : List Env} {s : Shared} {H : Hp} {E : XK} (T : Txt G mg) 
    (hr : Room 0 (A.deeper (envOfC "Desk.refusal" (defScope s_Desk_refusal) s.heap.objs.size f cdv))) :
    PSs (cxOf CX0 P w G.K mg base n_Desk_refusal "Desk.refusal" (defScope s_Desk_refusal) f cdv A outer s H E).nox (defBody s_Desk_refusal) (t_Desk_refusal G) := by
  have hu := hu_of hr
  have hw := hr.units
  have hv := hr.units0
  exact (pss_cons (ps_if (pt_cmpR (op_neN hv) (pe_lc (own := [("place", 2)]) (g := (gName 2)) (tt := (tTest (tOp (rI0 fun i j => .bl (decide (j ≤ i))) (tVar 2) (tC (.int (6)))))) rfl sc_Desk_refusal.nd (pi_list (pv 1)) (blkOk_by (own := [("place", 2)]) (N := n_Desk_refusal) (sc := defScope s_Desk_refusal) (by decide +kernel)) (fun _ _ _ _ _ => (pg_name (i := 2) sc_Desk_refusal.nd rfl (Or.inl rfl))) (fun _ _ _ _ _ => (pts_one (pt_cmpR op_ge (pv 2) (pe_ci rfl T.c_PLACES) (nomark _)))) (fun _ _ _ _ _ => (pv 2))) (pe_lst pa_nil) (nomark _)) (pss_one (ps_ret (pe_un un_neg pe_int))) pss_nil)
  (pss_cons (ps_if (pt_cmpR (op_neN hv) (pe_lc (own := [("place", 2)]) (g := (gName 2)) (tt := (tTest (tOp rIsN (tOp (rIxL G.K) (tFld G.K (tVar 0) "places") (tVar 2)) (tC .non)))) rfl sc_Desk_refusal.nd (pi_list (pv 1)) (blkOk_by (own := [("place", 2)]) (N := n_Desk_refusal) (sc := defScope s_Desk_refusal) (by decide +kernel)) (fun _ _ _ _ _ => (pg_name (i := 2) sc_Desk_refusal.nd rfl (Or.inl rfl))) (fun _ _ _ _ _ => (pts_one (pt_cmpR op_isN (pe_ix ix_list (pe_fld (pv 0) rfl) (pv 2) (fun _ _ => rfl)) pe_non (nomark _)))) (fun _ _ _ _ _ => (pv 2))) (pe_lst pa_nil) (nomark _)) (pss_one (ps_ret (pe_un un_neg pe_int))) pss_nil)
  (pss_one (ps_ret pe_int))))
theorem sc_Turning_init : FnScope n_Turning_init p_Turning_init (defScope s_Turning_init) := ⟨rfl, rfl, rfl, by decide +kernel, rfl, by decide +kernel, by decide +kernel⟩
theorem tie_Turning_init {f : Addr} {cdv : Value} {A : Around} {outer : List Env} {s : Shared} {H : Hp} {E : XK} (T : Txt G mg) (h_Turning_note : CalM P w G.K mg base G.cT "note" 1 p_Turning_note (sp_Turning_note G))
    (hr : Room 1 (A.deeper (envOfC "Turning.__init__" (defScope s_Turning_init) s.heap.objs.size f cdv))) :
    PSs (cxOf CX0 P w G.K mg base n_Turning_init "Turning.__init__" (defScope s_Turning_init) f cdv A outer s H E).nox (defBody s_Turning_init) (t_Turning_init G) := by
  have hu := hu_of hr
  have hw := hr.units
  have hv := hr.units0
  exact (pss_cons (ps_fld (pv 0) (pv 1) rfl)
  (pss_cons (ps_fld (pv 0) (pv 2) rfl)
  (pss_cons (ps_fld (pv 0) pe_dnewT rfl)
  (pss_cons (ps_fld (pv 0) pe_dnewT rfl)
  (pss_one (ps_for PassesOwn.never rfl (pi_range1 rfl T.b_range (pa_cons (pe_op op_add (pe_callB call_len_seq rfl T.b_len PySem.boot_len (pa_cons (pv 2) pa_nil)) pe_int) pa_nil)) (pg_name (i := 3) sc_Turning_init.nd rfl (Or.inl rfl))
  (pss_one (ps_for PassesOwn.never rfl (pi_list (pe_fld (pv 1) rfl)) (pg_tup rfl (pgs_cons (pg_name (i := 4) sc_Turning_init.nd rfl (Or.inl rfl)) (pgs_cons (pg_name (i := 5) sc_Turning_init.nd rfl (Or.inl rfl)) (pgs_cons (pg_name (i := 6) sc_Turning_init.nd rfl (Or.inl rfl)) (pgs_cons (pg_name (i := 7) sc_Turning_init.nd rfl (Or.inl rfl)) pgs_nil)))))
  (pss_one (ps_if (pt_cmpR op_eq (pv 5) (pe_ci rfl T.c_NOTHING) (nomark _)) (pss_one (ps_expr (pe_cm (pv 0) h_Turning_note hr (pa_cons (pe_tup (pa_cons (pv 3) (pa_cons (pv 4) pa_nil))) (pa_cons (pv 6) (pa_cons (pe_tup (pa_cons (pv 3) (pa_cons (pv 7) pa_nil))) pa_nil)))))) (pss_one (ps_if (pt_cmpR (op_eqD hw) (pe_slice sl_list (pv 2) (po_some (pv 3)) (po_some (pe_op op_add (pv 3) pe_int))) (pe_lst (pa_cons (pv 5) pa_nil)) (nomark _)) (pss_one (ps_expr (pe_cm (pv 0) h_Turning_note hr (pa_cons (pe_tup (pa_cons (pv 3) (pa_cons (pv 4) pa_nil))) (pa_cons (pv 6) (pa_cons (pe_tup (pa_cons (pe_op op_add (pv 3) pe_int) (pa_cons (pv 7) pa_nil))) pa_nil)))))) pss_nil))))))))))))
theorem sc_Turning_begin : FnScope n_Turning_begin p_Turning_begin (defScope s_Turning_begin) := ⟨rfl, rfl, rfl, by decide +kernel, rfl, by decide +kernel, by decide +kernel⟩
theorem tie_Turning_begin {f : Addr} {cdv : Value} {A : Around} {outer : List Env} {s : Shared} {H : Hp} {E : XK} (T : Txt G mg) (h_Turning_closed : CalM P w G.K mg base G.cT "closed" 1 p_Turning_closed (sp_Turning_closed G))
    (hr : Room 1 (A.deeper (envOfC "Turning.begin" (defScope s_Turning_begin) s.heap.objs.size f cdv))) :
    PSs (cxOf CX0 P w G.K mg base n_Turning_begin "Turning.begin" (defScope s_Turning_begin) f cdv A outer s H E).nox (defBody s_Turning_begin) (t_Turning_begin G) := by
  have hu := hu_of hr
  have hw := hr.units
  have hv := hr.units0
  exact (pss_one (ps_ret (pe_cm (pv 0) h_Turning_closed hr (pa_cons (pe_lst (pa_cons (pe_tup (pa_cons pe_int (pa_cons pe_int pa_nil))) pa_nil)) pa_nil))))
theorem sc_Turning_step : FnScope n_Turning_step p_Turning_step (defScope s_Turning_step) := ⟨rfl, rfl, rfl, by decide +kernel, rfl, by decide +kernel, by decide +kernel⟩
theorem tie_Turning_step {f : Addr} {cdv : Value} {A : Around} {outer : List Env} {s : Shared} {H : Hp} {E : XK} (T : Txt G mg) (h_Turning_closed : CalM P w G.K mg base G.cT "closed" 1 p_Turning_closed (sp_Turning_closed G))
    (hr : Room 1 (A.deeper (envOfC "Turning.step" (defScope s_Turning_step) s.heap.objs.size f cdv))) :
    PSs (cxOf CX0 P w G.K mg base n_Turning_step "Turning.step" (defScope s_Turning_step) f cdv A outer s H E).nox (defBody s_Turning_step) (t_Turning_step G) := by
  have hu := hu_of hr
  have hw := hr.units
  have hv := hr.units0
  exact (pss_cons (ps_set (i := 3) sc_Turning_step.nd rfl (Or.inl rfl) (pe_lst pa_nil))
  (pss_cons (ps_for PassesOwn.never rfl (pi_list (pv 1)) (pg_name (i := 4) sc_Turning_step.nd rfl (Or.inl rfl))
  (pss_one (ps_expr (pe_bm PySem.F.plainAttrs_list PySem.F.slot_list_extend PySem.F.type_list_extend mt_extend (pv 3) (pa_cons (pe_lc (own := [("writes", 5), ("other", 6)]) (g := (gTup G.K 2 (gCons (gName 5) (gCons (gName 6) gNil)))) (tt := (tTest (tOp rEq (tVar 5) (tVar 2)))) rfl sc_Turning_step.nd (pi_list (pe_dget2 hu (pe_fld (pv 0) rfl) (pv 4) (pe_lst pa_nil) ⟨rfl, rfl, rfl, rfl⟩)) (blkOk_by (own := [("writes", 5), ("other", 6)]) (N := n_Turning_step) (sc := defScope s_Turning_step) (by decide +kernel)) (fun _ _ _ _ _ => (pg_tup rfl (pgs_cons (pg_name (i := 5) sc_Turning_step.nd rfl (Or.inl rfl)) (pgs_cons (pg_name (i := 6) sc_Turning_step.nd rfl (Or.inl rfl)) pgs_nil)))) (fun _ _ _ _ _ => (pts_one (pt_cmpR op_eq (pv 5) (pv 2) (nomark _)))) (fun _ _ _ _ _ => (pv 6))) pa_nil)))))
  (pss_one (ps_ret (pe_cm (pv 0) h_Turning_closed hr (pa_cons (pv 3) pa_nil))))))
theorem sc_Turning_has_end : FnScope n_Turning_has_end p_Turning_has_end (defScope s_Turning_has_end) := ⟨rfl, rfl, rfl, by decide +kernel, rfl, by decide +kernel, by decide +kernel⟩
theorem tie_Turning_has_end {f : Addr} {cdv : Value} {A : Around} {outer : List Env} {s : Shared} {H : Hp} {E : XK} (T : Txt G mg) (h_Turning_is_end : CalM P w G.K mg base G.cT "is_end" 1 p_Turning_is_end (sp_Turning_is_end G))
    (hr : Room 1 (A.deeper (envOfC "Turning.has_end" (defScope s_Turning_has_end) s.heap.objs.size f cdv))) :
    PSs (cxOf CX0 P w G.K mg base n_Turning_has_end "Turning.has_end" (defScope s_Turning_has_end) f cdv A outer s H E).nox (defBody s_Turning_has_end) (t_Turning_has_end G) := by
  have hu := hu_of hr
  have hw := hr.units
  have hv := hr.units0
  exact (pss_one (ps_ret (pe_cmpR (op_neN hv) (pe_lc (own := [("spot", 2)]) (g := (gName 2)) (tt := (tB (tMeth G.cT "is_end" (sp_Turning_is_end G) [] E0 (tVar 0) (tCons (tVar 2) tNil)))) rfl sc_Turning_has_end.nd (pi_list (pv 1)) (blkOk_by (own := [("spot", 2)]) (N := n_Turning_has_end) (sc := defScope s_Turning_has_end) (by decide +kernel)) (fun _ _ _ _ _ => (pg_name (i := 2) sc_Turning_has_end.nd rfl (Or.inl rfl))) (fun _ _ _ _ _ => (pts_one (pt_val (pe_cm (pv 0) h_Turning_is_end hr (pa_cons (pv 2) pa_nil))))) (fun _ _ _ _ _ => (pv 2))) (pe_lst pa_nil) (nomark _))))
theorem sc_circling_states : FnScope n_circling_states p_circling_states (defScope s_circling_states) := ⟨rfl, rfl, rfl, by decide +kernel, rfl, by decide +kernel, by decide +kernel⟩
theorem tie_circling_states {f : Addr} {cdv : Value} {A : Around} {outer : List Env} {s : Shared} {H : Hp} {E : XK} (T : Txt G mg) (h_come_to : CalF P w G.K mg base "come_to" 1 p_come_to (sp_come_to G))
    (hr : Room 1 (A.deeper (envOfC "circling_states" (defScope s_circling_states) s.heap.objs.size f cdv))) :
    PSs (cxOf CX0 P w G.K mg base n_circling_states "circling_states" (defScope s_circling_states) f cdv A outer s H E).nox (defBody s_circling_states) (t_circling_states G) := by
  have hu := hu_of hr
  have hw := hr.units
  have hv := hr.units0
  exact (pss_cons (ps_setLc (i := 5) (own := [("start", 1), ("reads", 2), ("writes", 3), ("to", 4)]) (g := (gTup G.K 4 (gCons (gName 1) (gCons (gName 2) (gCons (gName 3) (gCons (gName 4) gNil)))))) (tt := (tTest (tOp rEq (tVar 2) (tC (.int (-1)))))) rfl sc_circling_states.nd rfl rfl (sw_true rfl rfl rfl (by decide +kernel)) (pi_list (pe_fld (pv 0) rfl)) (blkOk_by (own := [("start", 1), ("reads", 2), ("writes", 3), ("to", 4)]) (N := n_circling_states) (sc := defScope s_circling_states) (by decide +kernel)) (fun _ _ _ _ _ => (pg_tup rfl (pgs_cons (pg_name (i := 1) sc_circling_states.nd rfl (Or.inl rfl)) (pgs_cons (pg_name (i := 2) sc_circling_states.nd rfl (Or.inl rfl)) (pgs_cons (pg_name (i := 3) sc_circling_states.nd rfl (Or.inl rfl)) (pgs_cons (pg_name (i := 4) sc_circling_states.nd rfl (Or.inl rfl)) pgs_nil)))))) (fun _ _ _ _ _ => (pts_one (pt_cmpR op_eq (pv 2) (pe_ci rfl T.c_NOTHING) (nomark _)))) (fun _ _ _ _ _ => (pe_tup (pa_cons (pv 1) (pa_cons (pv 4) pa_nil)))))
  (pss_cons (ps_set (i := 6) sc_circling_states.nd rfl (Or.inl rfl) (pe_cf h_come_to hr rfl (pa_cons (pv 5) (pa_cons (pe_fld (pv 0) rfl) pa_nil))))
  (pss_cons (ps_set (i := 7) sc_circling_states.nd rfl (Or.inl rfl) pe_dnewK)
  (pss_cons (ps_for PassesOwn.never rfl (pi_list (pe_fld (pv 0) rfl)) (pg_tup rfl (pgs_cons (pg_name (i := 1) sc_circling_states.nd rfl (Or.inl rfl)) (pgs_cons (pg_name (i := 2) sc_circling_states.nd rfl (Or.inl rfl)) (pgs_cons (pg_name (i := 3) sc_circling_states.nd rfl (Or.inl rfl)) (pgs_cons (pg_name (i := 4) sc_circling_states.nd rfl (Or.inl rfl)) pgs_nil)))))
  (pss_one (ps_if (PW.pt (pw_and (pt_cmpR op_eq (pv 2) (pe_ci rfl T.c_NOTHING) (nomark _)) (pw_and (pt_cmpR op_ne (pv 3) (pe_ci rfl T.c_NOTHING) (nomark _)) (pw_and1 (pt_cmp (pc_din hu (pv 1) (pe_dget hu (pv 6) (pv 4) (fun _ _ => rfl))) rfl))))) (pss_one (ps_dput hu (pv 7) (pv 1) pe_bl rfl)) pss_nil)))
  (pss_one (ps_ret (pv 7)))))))
theorem sc_leads_to_end : FnScope n_leads_to_end p_leads_to_end (defScope s_leads_to_end) := ⟨rfl, rfl, rfl, by decide +kernel, rfl, by decide +kernel, by decide +kernel⟩
theorem tie_leads_to_end {f : Addr} {cdv : Value} {A : Around} {outer : List Env} {s : Shared} {H : Hp} {E : XK} (T : Txt G mg) (h_Turning_is_end : CalM P w G.K mg base G.cT "is_end" 1 p_Turning_is_end (sp_Turning_is_end G))
    (hr : Room 1 (A.deeper (envOfC "leads_to_end" (defScope s_leads_to_end) s.heap.objs.size f cdv))) :
    PSs (cxOf CX0 P w G.K mg base n_leads_to_end "leads_to_end" (defScope s_leads_to_end) f cdv A outer s H E).nox (defBody s_leads_to_end) (t_leads_to_end G) := by
  have hu := hu_of hr
  have hw := hr.units
  have hv := hr.units0
  exact (pss_cons (ps_set (i := 2) sc_leads_to_end.nd rfl (Or.inl rfl) pe_dnewT)
  (pss_cons (ps_set (i := 3) sc_leads_to_end.nd rfl (Or.inl rfl) (pe_lst (pa_cons (pv 1) pa_nil)))
  (pss_cons (ps_while PassesOwn.never (pt_cmpR (op_neN hv) (pv 3) (pe_lst pa_nil) (nomark _))
  (pss_cons (ps_set (i := 4) sc_leads_to_end.nd rfl (Or.inl rfl) (pe_bm0 PySem.F.plainAttrs_list PySem.F.slot_list_pop PySem.F.type_list_pop mt_pop (pv 3)))
  (pss_cons (ps_if (pt_val (pe_cm (pv 0) h_Turning_is_end hr (pa_cons (pv 4) pa_nil))) (pss_one (ps_ret pe_bl)) pss_nil)
  (pss_one (ps_if (pt_cmp (pc_dnotin hu (pv 4) (pv 2)) rfl) (pss_cons (ps_dput hu (pv 2) (pv 4) pe_bl rfl)
  (pss_cons (ps_expr (pe_bm PySem.F.plainAttrs_list PySem.F.slot_list_extend PySem.F.type_list_extend mt_extend (pv 3) (pa_cons (pe_dget2 hu (pe_fld (pv 0) rfl) (pv 4) (pe_lst pa_nil) ⟨rfl, rfl, rfl, rfl⟩) pa_nil)))
  (pss_one (ps_expr (pe_bm PySem.F.plainAttrs_list PySem.F.slot_list_extend PySem.F.type_list_extend mt_extend (pv 3) (pa_cons (pe_lc (own := [("writes", 5), ("other", 6)]) (g := (gTup G.K 2 (gCons (gName 5) (gCons (gName 6) gNil)))) (tt := tYes) rfl sc_leads_to_end.nd (pi_list (pe_dget2 hu (pe_fld (pv 0) rfl) (pv 4) (pe_lst pa_nil) ⟨rfl, rfl, rfl, rfl⟩)) (blkOk_by (own := [("writes", 5), ("other", 6)]) (N := n_leads_to_end) (sc := defScope s_leads_to_end) (by decide +kernel)) (fun _ _ _ _ _ => (pg_tup rfl (pgs_cons (pg_name (i := 5) sc_leads_to_end.nd rfl (Or.inl rfl)) (pgs_cons (pg_name (i := 6) sc_leads_to_end.nd rfl (Or.inl rfl)) pgs_nil)))) (fun _ _ _ _ _ => pts_nil) (fun _ _ _ _ _ => (pv 6))) pa_nil)))))) pss_nil)))))
  (pss_one (ps_ret pe_bl)))))
theorem sc_told_word : FnScope n_told_word p_told_word (defScope s_told_word) := ⟨rfl, rfl, rfl, by decide +kernel, rfl, by decide +kernel, by decide +kernel⟩
theorem tie_told_word {f : Addr} {cdv : Value} {A : Around} {outer : List Env} {s : Shared} {H : Hp} {E : XK} (T : Txt G mg) (h_told : CalF P w G.K mg base "told" 1 p_told (sp_told G))
    (hr : Room 1 (A.deeper (envOfC "told_word" (defScope s_told_word) s.heap.objs.size f cdv))) :
    PSs (cxOf CX0 P w G.K mg base n_told_word "told_word" (defScope s_told_word) f cdv A outer s H E).nox (defBody s_told_word) (t_told_word G) := by
  have hu := hu_of hr
  have hw := hr.units
  have hv := hr.units0
  exact (pss_cons (ps_if (pt_cmpR (op_eqN hv) (pv 0) (pe_lst pa_nil) (nomark _)) (pss_one (ps_ret (pe_lst (pa_cons (pe_un un_neg pe_int) pa_nil)))) pss_nil)
  (pss_one (ps_ret (pe_cf h_told hr rfl (pa_cons (pe_callB call_len_seq rfl T.b_len PySem.boot_len (pa_cons (pe_ix ix_list (pv 0) pe_int (fun _ _ => rfl)) pa_nil)) (pa_cons (pe_lst pa_nil) (pa_cons (pe_ix ix_list (pv 0) pe_int (fun _ _ => rfl)) pa_nil)))))))
theorem sc_numbers_of_two : FnScope n_numbers_of_two p_numbers_of_two (defScope s_numbers_of_two) := ⟨rfl, rfl, rfl, by decide +kernel, rfl, by decide +kernel, by decide +kernel⟩
theorem tie_numbers_of_two {f : Addr} {cdv : Value} {A : Around} {outer : List Env} {s : Shared} {H : Hp} {E : XK} (T : Txt G mg) (h_join_numbers : CalF P w G.K mg base "join_numbers" 1 p_join_numbers (sp_join_numbers G)) (h_follow_numbers : CalF P w G.K mg base "follow_numbers" 1 p_follow_numbers (sp_follow_numbers G)) (h_behind_numbers : CalF P w G.K mg base "behind_numbers" 1 p_behind_numbers (sp_behind_numbers G))
    (hr : Room 1 (A.deeper (envOfC "numbers_of_two" (defScope s_numbers_of_two) s.heap.objs.size f cdv))) :
    PSs (cxOf CX0 P w G.K mg base n_numbers_of_two "numbers_of_two" (defScope s_numbers_of_two) f cdv A outer s H E).nox (defBody s_numbers_of_two) (t_numbers_of_two G) := by
  have hu := hu_of hr
  have hw := hr.units
  have hv := hr.units0
  exact (pss_cons (ps_if (pt_cmpR op_eq (pv 0) (pe_ci rfl T.c_JOIN) (nomark _)) (pss_one (ps_ret (pe_cf h_join_numbers hr rfl (pa_cons (pv 1) (pa_cons (pv 2) pa_nil))))) pss_nil)
  (pss_cons (ps_if (pt_cmpR op_eq (pv 0) (pe_ci rfl T.c_FOLLOW) (nomark _)) (pss_one (ps_ret (pe_cf h_follow_numbers hr rfl (pa_cons (pv 1) (pa_cons (pv 2) pa_nil))))) pss_nil)
  (pss_one (ps_ret (pe_cf h_behind_numbers hr rfl (pa_cons (pv 1) (pa_cons (pv 2) pa_nil)))))))
theorem sc_Desk_state : FnScope n_Desk_state p_Desk_state (defScope s_Desk_state) := ⟨rfl, rfl, rfl, by decide +kernel, rfl, by decide +kernel, by decide +kernel⟩
theorem tie_Desk_state {f : Addr} {cdv : Value} {A : Around} {outer : List Env} {s : Shared} {H : Hp} {E : XK} (T : Txt G mg) (h_Machine_add_state : CalM P w G.K mg base G.cM "add_state" 1 p_Machine_add_state (sp_Machine_add_state G))
    (hr : Room 1 (A.deeper (envOfC "Desk.state" (defScope s_Desk_state) s.heap.objs.size f cdv))) :
    PSs (cxOf CX0 P w G.K mg base n_Desk_state "Desk.state" (defScope s_Desk_state) f cdv A outer s H E).nox (defBody s_Desk_state) (t_Desk_state G) := by
  have hu := hu_of hr
  have hw := hr.units
  have hv := hr.units0
  exact (pss_cons (ps_set (i := 2) sc_Desk_state.nd rfl (Or.inl rfl) (pe_ix ix_list (pe_fld (pv 0) rfl) (pv 1) (fun _ _ => rfl)))
  (pss_cons (ps_if (pt_val (pe_fld (pv 2) rfl)) (pss_one (ps_ret (pe_lst (pa_cons (pe_un un_neg pe_int) pa_nil)))) pss_nil)
  (pss_cons (ps_if (pt_cmpR op_ge (pe_fld (pv 2) rfl) (pe_ci rfl T.c_MOST_STATES) (nomark _)) (pss_one (ps_ret (pe_lst (pa_cons (pe_un un_neg pe_int) pa_nil)))) pss_nil)
  (pss_one (ps_ret (pe_lst (pa_cons (pe_cm0 (pv 2) h_Machine_add_state hr) pa_nil)))))))
theorem sc_Desk_final : FnScope n_Desk_final p_Desk_final (defScope s_Desk_final) := ⟨rfl, rfl, rfl, by decide +kernel, rfl, by decide +kernel, by decide +kernel⟩
theorem tie_Desk_final {f : Addr} {cdv : Value} {A : Around} {outer : List Env} {s : Shared} {H : Hp} {E : XK} (T : Txt G mg) (h_Machine_has_state : CalM P w G.K mg base G.cM "has_state" 1 p_Machine_has_state (sp_Machine_has_state G)) (h_Machine_set_final : CalM P w G.K mg base G.cM "set_final" 1 p_Machine_set_final (sp_Machine_set_final G))
    (hr : Room 1 (A.deeper (envOfC "Desk.final" (defScope s_Desk_final) s.heap.objs.size f cdv))) :
    PSs (cxOf CX0 P w G.K mg base n_Desk_final "Desk.final" (defScope s_Desk_final) f cdv A outer s H E).nox (defBody s_Desk_final) (t_Desk_final G) := by
  have hu := hu_of hr
  have hw := hr.units
  have hv := hr.units0
  exact (pss_cons (ps_set (i := 4) sc_Desk_final.nd rfl (Or.inl rfl) (pe_ix ix_list (pe_fld (pv 0) rfl) (pv 1) (fun _ _ => rfl)))
  (pss_cons (ps_if (pt_val (pe_fld (pv 4) rfl)) (pss_one (ps_ret (pe_lst (pa_cons (pe_un un_neg pe_int) pa_nil)))) pss_nil)
  (pss_cons (ps_if (pt_not (pt_val (pe_cm (pv 4) h_Machine_has_state hr (pa_cons (pv 2) pa_nil)))) (pss_one (ps_ret (pe_lst (pa_cons (pe_un un_neg pe_int) pa_nil)))) pss_nil)
  (pss_cons (ps_expr (pe_cm (pv 4) h_Machine_set_final hr (pa_cons (pv 2) (pa_cons (pe_cmpR op_ne (pv 3) pe_int (nomark _)) pa_nil))))
  (pss_one (ps_ret (pe_lst (pa_cons pe_int pa_nil))))))))
theorem sc_Desk_arc : FnScope n_Desk_arc p_Desk_arc (defScope s_Desk_arc) := ⟨rfl, rfl, rfl, by decide +kernel, rfl, by decide +kernel, by decide +kernel⟩
theorem tie_Desk_arc {f : Addr} {cdv : Value} {A : Around} {outer : List Env} {s : Shared} {H : Hp} {E : XK} (T : Txt G mg) (h_Machine_has_state : CalM P w G.K mg base G.cM "has_state" 1 p_Machine_has_state (sp_Machine_has_state G)) (h_is_written : CalF P w G.K mg base "is_written" 1 p_is_written (sp_is_written G)) (h_Machine_add_arc : CalM P w G.K mg base G.cM "add_arc" 1 p_Machine_add_arc (sp_Machine_add_arc G))
    (hr : Room 1 (A.deeper (envOfC "Desk.arc" (defScope s_Desk_arc) s.heap.objs.size f cdv))) :
    PSs (cxOf CX0 P w G.K mg base n_Desk_arc "Desk.arc" (defScope s_Desk_arc) f cdv A outer s H E).nox (defBody s_Desk_arc) (t_Desk_arc G) := by
  have hu := hu_of hr
  have hw := hr.units
  have hv := hr.units0
  exact (pss_cons (ps_set (i := 3) sc_Desk_arc.nd rfl (Or.inl rfl) (pe_ix ix_list (pe_fld (pv 0) rfl) (pv 1) (fun _ _ => rfl)))
  (pss_cons (ps_asg (pv 2) (pg_tup rfl (pgs_cons (pg_name (i := 4) sc_Desk_arc.nd rfl (Or.inl rfl)) (pgs_cons (pg_name (i := 5) sc_Desk_arc.nd rfl (Or.inl rfl)) (pgs_cons (pg_name (i := 6) sc_Desk_arc.nd rfl (Or.inl rfl)) (pgs_cons (pg_name (i := 7) sc_Desk_arc.nd rfl (Or.inl rfl)) pgs_nil))))))
  (pss_cons (ps_if (pt_val (pe_fld (pv 3) rfl)) (pss_one (ps_ret (pe_lst (pa_cons (pe_un un_neg pe_int) pa_nil)))) pss_nil)
  (pss_cons (ps_if (PW.pt (pw_or (pt_not (pt_val (pe_cm (pv 3) h_Machine_has_state hr (pa_cons (pv 4) pa_nil)))) (pw_or1 (pt_not (pt_val (pe_cm (pv 3) h_Machine_has_state hr (pa_cons (pv 7) pa_nil))))))) (pss_one (ps_ret (pe_lst (pa_cons (pe_un un_neg pe_int) pa_nil)))) pss_nil)
  (pss_cons (ps_if (PW.pt (pw_or (pt_not (pt_val (pe_cf h_is_written hr rfl (pa_cons (pv 5) pa_nil)))) (pw_or1 (pt_not (pt_val (pe_cf h_is_written hr rfl (pa_cons (pv 6) pa_nil))))))) (pss_one (ps_ret (pe_lst (pa_cons (pe_un un_neg pe_int) pa_nil)))) pss_nil)
  (pss_cons (ps_if (pt_cmpR op_ge (pe_callB call_len_seq rfl T.b_len PySem.boot_len (pa_cons (pe_fld (pv 3) rfl) pa_nil)) (pe_ci rfl T.c_MOST_ARCS) (nomark _)) (pss_one (ps_ret (pe_lst (pa_cons (pe_un un_neg pe_int) pa_nil)))) pss_nil)
  (pss_cons (ps_expr (pe_cm (pv 3) h_Machine_add_arc hr (pa_cons (pv 2) pa_nil)))
  (pss_one (ps_ret (pe_lst (pa_cons pe_int pa_nil)))))))))))
theorem sc_Desk_turn : FnScope n_Desk_turn p_Desk_turn (defScope s_Desk_turn) := ⟨rfl, rfl, rfl, by decide +kernel, rfl, by decide +kernel, by decide +kernel⟩
theorem tie_Desk_turn {f : Addr} {cdv : Value} {A : Around} {outer : List Env} {s : Shared} {H : Hp} {E : XK} (T : Txt G mg) (h_Machine_turn : CalM P w G.K mg base G.cM "turn" 1 p_Machine_turn (sp_Machine_turn G))
    (hr : Room 1 (A.deeper (envOfC "Desk.turn" (defScope s_Desk_turn) s.heap.objs.size f cdv))) :
    PSs (cxOf CX0 P w G.K mg base n_Desk_turn "Desk.turn" (defScope s_Desk_turn) f cdv A outer s H E).nox (defBody s_Desk_turn) (t_Desk_turn G) := by
  have hu := hu_of hr
  have hw := hr.units
  have hv := hr.units0
  exact (pss_cons (ps_expr (pe_cm0 (pe_ix ix_list (pe_fld (pv 0) rfl) (pv 1) (fun _ _ => rfl)) h_Machine_turn hr))
  (pss_one (ps_ret (pe_lst (pa_cons pe_int pa_nil)))))
theorem sc_Desk_size : FnScope n_Desk_size p_Desk_size (defScope s_Desk_size) := ⟨rfl, rfl, rfl, by decide +kernel, rfl, by decide +kernel, by decide +kernel⟩
theorem tie_Desk_size {f : Addr} {cdv : Value} {A : Around} {outer : List Env} {s : Shared} {H : Hp} {E : XK} (T : Txt G mg) (h_told : CalF P w G.K mg base "told" 1 p_told (sp_told G))
    (hr : Room 1 (A.deeper (envOfC "Desk.size" (defScope s_Desk_size) s.heap.objs.size f cdv))) :
    PSs (cxOf CX0 P w G.K mg base n_Desk_size "Desk.size" (defScope s_Desk_size) f cdv A outer s H E).nox (defBody s_Desk_size) (t_Desk_size G) := by
  have hu := hu_of hr
  have hw := hr.units
  have hv := hr.units0
  exact (pss_cons (ps_set (i := 2) sc_Desk_size.nd rfl (Or.inl rfl) (pe_ix ix_list (pe_fld (pv 0) rfl) (pv 1) (fun _ _ => rfl)))
  (pss_one (ps_ret (pe_cf h_told hr rfl (pa_cons pe_int (pa_cons (pe_lst (pa_cons (pe_fld (pv 2) rfl) (pa_cons (pe_fld (pv 2) rfl) pa_nil))) (pa_cons (pe_lst pa_nil) pa_nil)))))))
theorem sc_new_net : FnScope n_new_net p_new_net (defScope s_new_net) := ⟨rfl, rfl, rfl, by decide +kernel, rfl, by decide +kernel, by decide +kernel⟩
theorem tie_new_net {f : Addr} {cdv : Value} {A : Around} {outer : List Env} {s : Shared} {H : Hp} {E : XK} (T : Txt G mg) (h_Machine : CalC P w G.K mg base "Machine" G.cM 1 p_Machine_init (sp_Machine_init G))
    (hr : Room 2 (A.deeper (envOfC "new_net" (defScope s_new_net) s.heap.objs.size f cdv))) :
    PSs (cxOf CX0 P w G.K mg base n_new_net "new_net" (defScope s_new_net) f cdv A outer s H E).nox (defBody s_new_net) (t_new_net G) := by
  have hu := hu_of hr
  have hw := hr.units
  have hv := hr.units0
  exact (pss_one (ps_ret (pe_mk h_Machine hr rfl (pa_cons pe_int (pa_cons (pe_lst pa_nil) (pa_cons (pe_lst pa_nil) pa_nil))))))
theorem sc_join : FnScope n_join p_join (defScope s_join) := ⟨rfl, rfl, rfl, by decide +kernel, rfl, by decide +kernel, by decide +kernel⟩
theorem tie_join {f : Addr} {cdv : Value} {A : Around} {outer : List Env} {s : Shared} {H : Hp} {E : XK} (T : Txt G mg) (h_moved : CalF P w G.K mg base "moved" 1 p_moved (sp_moved G)) (h_finished : CalF P w G.K mg base "finished" 1 p_finished (sp_finished G)) (h_Machine : CalC P w G.K mg base "Machine" G.cM 1 p_Machine_init (sp_Machine_init G)) (h_join_numbers : CalF P w G.K mg base "join_numbers" 1 p_join_numbers (sp_join_numbers G))
    (hr : Room 2 (A.deeper (envOfC "join" (defScope s_join) s.heap.objs.size f cdv))) :
    PSs (cxOf CX0 P w G.K mg base n_join "join" (defScope s_join) f cdv A outer s H E).nox (defBody s_join) (t_join G) := by
  have hu := hu_of hr
  have hw := hr.units
  have hv := hr.units0
  exact (pss_cons (ps_set (i := 2) sc_join.nd rfl (Or.inr rfl) pe_int)
  (pss_cons (ps_set (i := 3) sc_join.nd rfl (Or.inr rfl) (pe_op op_add pe_int (pe_fld (pv 0) rfl)))
  (pss_cons (ps_set (i := 4) sc_join.nd rfl (Or.inl rfl) (pe_lst (pa_cons (pe_tup (pa_cons pe_int (pa_cons (pe_ci rfl T.c_NOTHING) (pa_cons (pe_ci rfl T.c_NOTHING) (pa_cons (pv 2) pa_nil))))) (pa_cons (pe_tup (pa_cons pe_int (pa_cons (pe_ci rfl T.c_NOTHING) (pa_cons (pe_ci rfl T.c_NOTHING) (pa_cons (pv 3) pa_nil))))) pa_nil))))
  (pss_cons (ps_set (i := 4) sc_join.nd rfl (Or.inl rfl) (pe_op op_cat (pe_op op_cat (pv 4) (pe_cf h_moved (hr.mono (by decide)) rfl (pa_cons (pe_fld (pv 0) rfl) (pa_cons (pv 2) pa_nil)))) (pe_cf h_moved (hr.mono (by decide)) rfl (pa_cons (pe_fld (pv 1) rfl) (pa_cons (pv 3) pa_nil)))))
  (pss_cons (ps_set (i := 5) sc_join.nd rfl (Or.inl rfl) (pe_op op_cat (pe_lc (own := [("state", 6)]) (g := (gName 6)) (tt := tYes) rfl sc_join.nd (pi_list (pe_fld (pv 0) rfl)) (blkOk_by (own := [("state", 6)]) (N := n_join) (sc := defScope s_join) (by decide +kernel)) (fun _ _ _ _ _ => (pg_name (i := 6) sc_join.nd rfl (Or.inl rfl))) (fun _ _ _ _ _ => pts_nil) (fun _ _ _ _ _ => (pe_op op_add (pv 6) (pv 2)))) (pe_lc (own := [("state", 6)]) (g := (gName 6)) (tt := tYes) rfl sc_join.nd (pi_list (pe_fld (pv 1) rfl)) (blkOk_by (own := [("state", 6)]) (N := n_join) (sc := defScope s_join) (by decide +kernel)) (fun _ _ _ _ _ => (pg_name (i := 6) sc_join.nd rfl (Or.inl rfl))) (fun _ _ _ _ _ => pts_nil) (fun _ _ _ _ _ => (pe_op op_add (pv 6) (pv 3))))))
  (pss_one (ps_ret (pe_cf h_finished (hr.mono (by decide)) rfl (pa_cons (pe_mk h_Machine hr rfl (pa_cons (pe_op op_add (pe_op op_add pe_int (pe_fld (pv 0) rfl)) (pe_fld (pv 1) rfl)) (pa_cons (pv 5) (pa_cons (pv 4) pa_nil)))) (pa_cons (pe_cf h_join_numbers (hr.mono (by decide)) rfl (pa_cons (pv 0) (pa_cons (pv 1) pa_nil))) pa_nil))))))))))
theorem sc_follow : FnScope n_follow p_follow (defScope s_follow) := ⟨rfl, rfl, rfl, by decide +kernel, rfl, by decide +kernel, by decide +kernel⟩
theorem tie_follow {f : Addr} {cdv : Value} {A : Around} {outer : List Env} {s : Shared} {H : Hp} {E : XK} (T : Txt G mg) (h_moved : CalF P w G.K mg base "moved" 1 p_moved (sp_moved G)) (h_finished : CalF P w G.K mg base "finished" 1 p_finished (sp_finished G)) (h_Machine : CalC P w G.K mg base "Machine" G.cM 1 p_Machine_init (sp_Machine_init G)) (h_follow_numbers : CalF P w G.K mg base "follow_numbers" 1 p_follow_numbers (sp_follow_numbers G))
    (hr : Room 2 (A.deeper (envOfC "follow" (defScope s_follow) s.heap.objs.size f cdv))) :
    PSs (cxOf CX0 P w G.K mg base n_follow "follow" (defScope s_follow) f cdv A outer s H E).nox (defBody s_follow) (t_follow G) := by
  have hu := hu_of hr
  have hw := hr.units
  have hv := hr.units0
  exact (pss_cons (ps_set (i := 2) sc_follow.nd rfl (Or.inr rfl) (pe_fld (pv 0) rfl))
  (pss_cons (ps_set (i := 3) sc_follow.nd rfl (Or.inl rfl) (pe_op op_cat (pe_op op_cat (pe_fld (pv 0) rfl) (pe_cf h_moved (hr.mono (by decide)) rfl (pa_cons (pe_fld (pv 1) rfl) (pa_cons (pv 2) pa_nil)))) (pe_lc (own := [("state", 5)]) (g := (gName 5)) (tt := tYes) rfl sc_follow.nd (pi_list (pe_fld (pv 0) rfl)) (blkOk_by (own := [("state", 5)]) (N := n_follow) (sc := defScope s_follow) (by decide +kernel)) (fun _ _ _ _ _ => (pg_name (i := 5) sc_follow.nd rfl (Or.inl rfl))) (fun _ _ _ _ _ => pts_nil) (fun _ _ _ _ _ => (pe_tup (pa_cons (pv 5) (pa_cons (pe_ci rfl T.c_NOTHING) (pa_cons (pe_ci rfl T.c_NOTHING) (pa_cons (pv 2) pa_nil)))))))))
  (pss_cons (ps_setLc (i := 4) (own := [("state", 5)]) (g := (gName 5)) (tt := tYes) rfl sc_follow.nd rfl rfl (sw_true rfl rfl rfl (by decide +kernel)) (pi_list (pe_fld (pv 1) rfl)) (blkOk_by (own := [("state", 5)]) (N := n_follow) (sc := defScope s_follow) (by decide +kernel)) (fun _ _ _ _ _ => (pg_name (i := 5) sc_follow.nd rfl (Or.inl rfl))) (fun _ _ _ _ _ => pts_nil) (fun _ _ _ _ _ => (pe_op op_add (pv 5) (pv 2))))
  (pss_one (ps_ret (pe_cf h_finished (hr.mono (by decide)) rfl (pa_cons (pe_mk h_Machine hr rfl (pa_cons (pe_op op_add (pe_fld (pv 0) rfl) (pe_fld (pv 1) rfl)) (pa_cons (pv 4) (pa_cons (pv 3) pa_nil)))) (pa_cons (pe_cf h_follow_numbers (hr.mono (by decide)) rfl (pa_cons (pv 0) (pa_cons (pv 1) pa_nil))) pa_nil))))))))
theorem sc_again : FnScope n_again p_again (defScope s_again) := ⟨rfl, rfl, rfl, by decide +kernel, rfl, by decide +kernel, by decide +kernel⟩
theorem tie_again {f : Addr} {cdv : Value} {A : Around} {outer : List Env} {s : Shared} {H : Hp} {E : XK} (T : Txt G mg) (h_moved : CalF P w G.K mg base "moved" 1 p_moved (sp_moved G)) (h_finished : CalF P w G.K mg base "finished" 1 p_finished (sp_finished G)) (h_Machine : CalC P w G.K mg base "Machine" G.cM 1 p_Machine_init (sp_Machine_init G)) (h_again_numbers : CalF P w G.K mg base "again_numbers" 1 p_again_numbers (sp_again_numbers G))
    (hr : Room 2 (A.deeper (envOfC "again" (defScope s_again) s.heap.objs.size f cdv))) :
    PSs (cxOf CX0 P w G.K mg base n_again "again" (defScope s_again) f cdv A outer s H E).nox (defBody s_again) (t_again G) := by
  have hu := hu_of hr
  have hw := hr.units
  have hv := hr.units0
  exact (pss_cons (ps_set (i := 1) sc_again.nd rfl (Or.inl rfl) (pe_op op_cat (pe_lst (pa_cons (pe_tup (pa_cons pe_int (pa_cons (pe_ci rfl T.c_NOTHING) (pa_cons (pe_ci rfl T.c_NOTHING) (pa_cons pe_int pa_nil))))) pa_nil)) (pe_cf h_moved (hr.mono (by decide)) rfl (pa_cons (pe_fld (pv 0) rfl) (pa_cons pe_int pa_nil)))))
  (pss_cons (ps_set (i := 1) sc_again.nd rfl (Or.inl rfl) (pe_op op_cat (pv 1) (pe_lc (own := [("state", 2)]) (g := (gName 2)) (tt := tYes) rfl sc_again.nd (pi_list (pe_fld (pv 0) rfl)) (blkOk_by (own := [("state", 2)]) (N := n_again) (sc := defScope s_again) (by decide +kernel)) (fun _ _ _ _ _ => (pg_name (i := 2) sc_again.nd rfl (Or.inl rfl))) (fun _ _ _ _ _ => pts_nil) (fun _ _ _ _ _ => (pe_tup (pa_cons (pe_op op_add (pv 2) pe_int) (pa_cons (pe_ci rfl T.c_NOTHING) (pa_cons (pe_ci rfl T.c_NOTHING) (pa_cons pe_int pa_nil)))))))))
  (pss_one (ps_ret (pe_cf h_finished (hr.mono (by decide)) rfl (pa_cons (pe_mk h_Machine hr rfl (pa_cons (pe_op op_add (pe_fld (pv 0) rfl) pe_int) (pa_cons (pe_lst (pa_cons pe_int pa_nil)) (pa_cons (pv 1) pa_nil)))) (pa_cons (pe_cf h_again_numbers (hr.mono (by decide)) rfl (pa_cons (pv 0) pa_nil)) pa_nil)))))))
theorem sc_behind : FnScope n_behind p_behind (defScope s_behind) := ⟨rfl, rfl, rfl, by decide +kernel, rfl, by decide +kernel, by decide +kernel⟩
theorem tie_behind {f : Addr} {cdv : Value} {A : Around} {outer : List Env} {s : Shared} {H : Hp} {E : XK} (T : Txt G mg) (h_finished : CalF P w G.K mg base "finished" 1 p_finished (sp_finished G)) (h_Machine : CalC P w G.K mg base "Machine" G.cM 1 p_Machine_init (sp_Machine_init G)) (h_behind_arcs : CalF P w G.K mg base "behind_arcs" 1 p_behind_arcs (sp_behind_arcs G)) (h_behind_numbers : CalF P w G.K mg base "behind_numbers" 1 p_behind_numbers (sp_behind_numbers G))
    (hr : Room 2 (A.deeper (envOfC "behind" (defScope s_behind) s.heap.objs.size f cdv))) :
    PSs (cxOf CX0 P w G.K mg base n_behind "behind" (defScope s_behind) f cdv A outer s H E).nox (defBody s_behind) (t_behind G) := by
  have hu := hu_of hr
  have hw := hr.units
  have hv := hr.units0
  exact (pss_cons (ps_set (i := 2) sc_behind.nd rfl (Or.inl rfl) (pe_lst pa_nil))
  (pss_cons (ps_for PassesOwn.never rfl (pi_list (pe_fld (pv 0) rfl)) (pg_name (i := 3) sc_behind.nd rfl (Or.inr rfl))
  (pss_one (ps_expr (pe_bm PySem.F.plainAttrs_list PySem.F.slot_list_extend PySem.F.type_list_extend mt_extend (pv 2) (pa_cons (pe_lc (own := [("other", 4)]) (g := (gName 4)) (tt := tYes) rfl sc_behind.nd (pi_list (pe_fld (pv 1) rfl)) (blkOk_by (own := [("other", 4)]) (N := n_behind) (sc := defScope s_behind) (by decide +kernel)) (fun _ _ _ _ _ => (pg_name (i := 4) sc_behind.nd rfl (Or.inl rfl))) (fun _ _ _ _ _ => pts_nil) (fun _ _ _ _ _ => (pe_op op_add (pe_op op_mul (pv 3) (pe_fld (pv 1) rfl)) (pv 4)))) pa_nil)))))
  (pss_one (ps_ret (pe_cf h_finished (hr.mono (by decide)) rfl (pa_cons (pe_mk h_Machine hr rfl (pa_cons (pe_op op_mul (pe_fld (pv 0) rfl) (pe_fld (pv 1) rfl)) (pa_cons (pv 2) (pa_cons (pe_cf h_behind_arcs (hr.mono (by decide)) rfl (pa_cons (pv 0) (pa_cons (pv 1) pa_nil))) pa_nil)))) (pa_cons (pe_cf h_behind_numbers (hr.mono (by decide)) rfl (pa_cons (pv 0) (pa_cons (pv 1) pa_nil))) pa_nil)))))))
theorem sc_keep : FnScope n_keep p_keep (defScope s_keep) := ⟨rfl, rfl, rfl, by decide +kernel, rfl, by decide +kernel, by decide +kernel⟩
theorem tie_keep {f : Addr} {cdv : Value} {A : Around} {outer : List Env} {s : Shared} {H : Hp} {E : XK} (T : Txt G mg) (h_finished : CalF P w G.K mg base "finished" 1 p_finished (sp_finished G)) (h_Machine : CalC P w G.K mg base "Machine" G.cM 1 p_Machine_init (sp_Machine_init G))
    (hr : Room 2 (A.deeper (envOfC "keep" (defScope s_keep) s.heap.objs.size f cdv))) :
    PSs (cxOf CX0 P w G.K mg base n_keep "keep" (defScope s_keep) f cdv A outer s H E).nox (defBody s_keep) (t_keep G) := by
  have hu := hu_of hr
  have hw := hr.units
  have hv := hr.units0
  exact (pss_cons (ps_setLc (i := 1) (own := [("start", 2), ("reads", 3), ("writes", 4), ("to", 5)]) (g := (gTup G.K 4 (gCons (gName 2) (gCons (gName 3) (gCons (gName 4) (gCons (gName 5) gNil)))))) (tt := tYes) rfl sc_keep.nd rfl rfl (sw_true rfl rfl rfl (by decide +kernel)) (pi_list (pe_fld (pv 0) rfl)) (blkOk_by (own := [("start", 2), ("reads", 3), ("writes", 4), ("to", 5)]) (N := n_keep) (sc := defScope s_keep) (by decide +kernel)) (fun _ _ _ _ _ => (pg_tup rfl (pgs_cons (pg_name (i := 2) sc_keep.nd rfl (Or.inl rfl)) (pgs_cons (pg_name (i := 3) sc_keep.nd rfl (Or.inl rfl)) (pgs_cons (pg_name (i := 4) sc_keep.nd rfl (Or.inl rfl)) (pgs_cons (pg_name (i := 5) sc_keep.nd rfl (Or.inl rfl)) pgs_nil)))))) (fun _ _ _ _ _ => pts_nil) (fun _ _ _ _ _ => (pe_tup (pa_cons (pv 2) (pa_cons (pv 3) (pa_cons (pv 3) (pa_cons (pv 5) pa_nil)))))))
  (pss_one (ps_ret (pe_cf h_finished (hr.mono (by decide)) rfl (pa_cons (pe_mk h_Machine hr rfl (pa_cons (pe_fld (pv 0) rfl) (pa_cons (pe_callTy call_list_of rfl T.b_list (by decide +kernel) (pa_cons (pe_fld (pv 0) rfl) pa_nil)) (pa_cons (pv 1) pa_nil)))) (pa_cons (pe_lst (pa_cons (pe_fld (pv 0) rfl) (pa_cons (pe_fld (pv 0) rfl) pa_nil))) pa_nil))))))
theorem sc_Turning_lengths : FnScope n_Turning_lengths p_Turning_lengths (defScope s_Turning_lengths) := ⟨rfl, rfl, rfl, by decide +kernel, rfl, by decide +kernel, by decide +kernel⟩
theorem tie_Turning_lengths {f : Addr} {cdv : Value} {A : Around} {outer : List Env} {s : Shared} {H : Hp} {E : XK} (T : Txt G mg) (h_Turning_spots : CalM P w G.K mg base G.cT "spots" 1 p_Turning_spots (sp_Turning_spots G)) (h_Turning_closed : CalM P w G.K mg base G.cT "closed" 1 p_Turning_closed (sp_Turning_closed G)) (h_Turning_has_end : CalM P w G.K mg base G.cT "has_end" 2 p_Turning_has_end (sp_Turning_has_end G)) (h_Turning_leads : CalM P w G.K mg base G.cT "leads" 1 p_Turning_leads (sp_Turning_leads G))
    (hr : Room 2 (A.deeper (envOfC "Turning.lengths" (defScope s_Turning_lengths) s.heap.objs.size f cdv))) :
    PSs (cxOf CX0 P w G.K mg base n_Turning_lengths "Turning.lengths" (defScope s_Turning_lengths) f cdv A outer s H E).nox (defBody s_Turning_lengths) (t_Turning_lengths G) := by
  have hu := hu_of hr
  have hw := hr.units
  have hv := hr.units0
  exact (pss_cons (ps_set (i := 1) sc_Turning_lengths.nd rfl (Or.inl rfl) pe_dnewT)
  (pss_cons (ps_for PassesOwn.never rfl (pi_list (pe_cm0 (pv 0) h_Turning_spots (hr.mono (by decide)))) (pg_name (i := 2) sc_Turning_lengths.nd rfl (Or.inl rfl))
  (pss_one (ps_dput hu (pv 1) (pv 2) (pe_cm (pv 0) h_Turning_closed (hr.mono (by decide)) (pa_cons (pe_lst (pa_cons (pv 2) pa_nil)) pa_nil)) rfl)))
  (pss_cons (ps_set (i := 3) sc_Turning_lengths.nd rfl (Or.inl rfl) (pe_lst (pa_cons pe_dnewT pa_nil)))
  (pss_cons (ps_for PassesOwn.never rfl (pi_keys (pe_frz (pv 1))) (pg_name (i := 2) sc_Turning_lengths.nd rfl (Or.inl rfl))
  (pss_one (ps_if (pt_val (pe_cm (pv 0) h_Turning_has_end hr (pa_cons (pe_dget hu (pv 1) (pv 2) (fun _ _ => rfl)) pa_nil))) (pss_one (ps_dput hu (pe_ix ix_list (pv 3) pe_int (fun _ _ => rfl)) (pv 2) pe_bl rfl)) pss_nil)))
  (pss_cons (ps_for PassesOwn.never rfl (pi_range1 rfl T.b_range (pa_cons (pe_ci rfl T.c_LONGEST) pa_nil)) (pg_name (i := 4) sc_Turning_lengths.nd rfl (Or.inl rfl))
  (pss_cons (ps_set (i := 5) sc_Turning_lengths.nd rfl (Or.inl rfl) pe_dnewT)
  (pss_cons (ps_for PassesOwn.never rfl (pi_keys (pv 1)) (pg_name (i := 2) sc_Turning_lengths.nd rfl (Or.inl rfl))
  (pss_one (ps_if (pt_val (pe_cm (pv 0) h_Turning_leads (hr.mono (by decide)) (pa_cons (pe_dget hu (pv 1) (pv 2) (fun _ _ => rfl)) (pa_cons (pe_ix ix_list (pv 3) (pe_un un_neg pe_int) (fun _ _ => rfl)) pa_nil)))) (pss_one (ps_dput hu (pv 5) (pv 2) pe_bl rfl)) pss_nil)))
  (pss_one (ps_expr (pe_bm PySem.F.plainAttrs_list PySem.F.slot_list_append PySem.F.type_list_append mt_append (pv 3) (pa_cons (pv 5) pa_nil)))))))
  (pss_one (ps_ret (pv 3))))))))
theorem sc_Answers_least_rest : FnScope n_Answers_least_rest p_Answers_least_rest (defScope s_Answers_least_rest) := ⟨rfl, rfl, rfl, by decide +kernel, rfl, by decide +kernel, by decide +kernel⟩
theorem tie_Answers_least_rest {f : Addr} {cdv : Value} {A : Around} {outer : List Env} {s : Shared} {H : Hp} {E : XK} (T : Txt G mg) (h_Turning_least_byte : CalM P w G.K mg base G.cT "least_byte" 1 p_Turning_least_byte (sp_Turning_least_byte G)) (h_Turning_step : CalM P w G.K mg base G.cT "step" 2 p_Turning_step (sp_Turning_step G))
    (hr : Room 2 (A.deeper (envOfC "Answers.least_rest" (defScope s_Answers_least_rest) s.heap.objs.size f cdv))) :
    PSs (cxOf CX0 P w G.K mg base n_Answers_least_rest "Answers.least_rest" (defScope s_Answers_least_rest) f cdv A outer s H E).nox (defBody s_Answers_least_rest) (t_Answers_least_rest G) := by
  have hu := hu_of hr
  have hw := hr.units
  have hv := hr.units0
  exact (pss_cons (ps_set (i := 3) sc_Answers_least_rest.nd rfl (Or.inl rfl) (pe_lst pa_nil))
  (pss_cons (ps_for PassesOwn.never rfl (pi_revR rfl T.b_reversed (prg_1 rfl T.b_range (pv 2))) (pg_name (i := 4) sc_Answers_least_rest.nd rfl (Or.inl rfl))
  (pss_cons (ps_set (i := 5) sc_Answers_least_rest.nd rfl (Or.inl rfl) (pe_cm (pe_fld (pv 0) rfl) h_Turning_least_byte (hr.mono (by decide)) (pa_cons (pv 1) (pa_cons (pe_ix ix_list (pe_fld (pv 0) rfl) (pv 4) (fun _ _ => rfl)) (pa_cons pe_int pa_nil)))))
  (pss_cons (ps_expr (pe_bm PySem.F.plainAttrs_list PySem.F.slot_list_append PySem.F.type_list_append mt_append (pv 3) (pa_cons (pv 5) pa_nil)))
  (pss_one (ps_set (i := 1) sc_Answers_least_rest.nd rfl (Or.inl rfl) (pe_cm (pe_fld (pv 0) rfl) h_Turning_step hr (pa_cons (pv 1) (pa_cons (pv 5) pa_nil))))))))
  (pss_one (ps_ret (pv 3)))))
theorem sc_Answers_spots_along : FnScope n_Answers_spots_along p_Answers_spots_along (defScope s_Answers_spots_along) := ⟨rfl, rfl, rfl, by decide +kernel, rfl, by decide +kernel, by decide +kernel⟩
theorem tie_Answers_spots_along {f : Addr} {cdv : Value} {A : Around} {outer : List Env} {s : Shared} {H : Hp} {E : XK} (T : Txt G mg) (h_Turning_begin : CalM P w G.K mg base G.cT "begin" 2 p_Turning_begin (sp_Turning_begin G)) (h_Turning_step : CalM P w G.K mg base G.cT "step" 2 p_Turning_step (sp_Turning_step G))
    (hr : Room 2 (A.deeper (envOfC "Answers.spots_along" (defScope s_Answers_spots_along) s.heap.objs.size f cdv))) :
    PSs (cxOf CX0 P w G.K mg base n_Answers_spots_along "Answers.spots_along" (defScope s_Answers_spots_along) f cdv A outer s H E).nox (defBody s_Answers_spots_along) (t_Answers_spots_along G) := by
  have hu := hu_of hr
  have hw := hr.units
  have hv := hr.units0
  exact (pss_cons (ps_set (i := 2) sc_Answers_spots_along.nd rfl (Or.inl rfl) (pe_lst (pa_cons (pe_cm0 (pe_fld (pv 0) rfl) h_Turning_begin hr) pa_nil)))
  (pss_cons (ps_for PassesOwn.never rfl (pi_list (pv 1)) (pg_name (i := 3) sc_Answers_spots_along.nd rfl (Or.inl rfl))
  (pss_one (ps_expr (pe_bm PySem.F.plainAttrs_list PySem.F.slot_list_append PySem.F.type_list_append mt_append (pv 2) (pa_cons (pe_cm (pe_fld (pv 0) rfl) h_Turning_step hr (pa_cons (pe_ix ix_list (pv 2) (pe_un un_neg pe_int) (fun _ _ => rfl)) (pa_cons (pv 3) pa_nil))) pa_nil)))))
  (pss_one (ps_ret (pv 2)))))
theorem sc_Answers_init : FnScope n_Answers_init p_Answers_init (defScope s_Answers_init) := ⟨rfl, rfl, rfl, by decide +kernel, rfl, by decide +kernel, by decide +kernel⟩
theorem tie_Answers_init {f : Addr} {cdv : Value} {A : Around} {outer : List Env} {s : Shared} {H : Hp} {E : XK} (T : Txt G mg) (h_Turning : CalC P w G.K mg base "Turning" G.cT 2 p_Turning_init (sp_Turning_init G)) (h_Turning_lengths : CalM P w G.K mg base G.cT "lengths" 3 p_Turning_lengths (sp_Turning_lengths G))
    (hr : Room 3 (A.deeper (envOfC "Answers.__init__" (defScope s_Answers_init) s.heap.objs.size f cdv))) :
    PSs (cxOf CX0 P w G.K mg base n_Answers_init "Answers.__init__" (defScope s_Answers_init) f cdv A outer s H E).nox (defBody s_Answers_init) (t_Answers_init G) := by
  have hu := hu_of hr
  have hw := hr.units
  have hv := hr.units0
  exact (pss_cons (ps_fld (pv 0) (pe_mk h_Turning hr rfl (pa_cons (pv 1) (pa_cons (pv 2) pa_nil))) rfl)
  (pss_one (ps_fld (pv 0) (pe_cm0 (pe_fld (pv 0) rfl) h_Turning_lengths hr) rfl)))
theorem sc_Answers_first_from : FnScope n_Answers_first_from p_Answers_first_from (defScope s_Answers_first_from) := ⟨rfl, rfl, rfl, by decide +kernel, rfl, by decide +kernel, by decide +kernel⟩
theorem tie_Answers_first_from {f : Addr} {cdv : Value} {A : Around} {outer : List Env} {s : Shared} {H : Hp} {E : XK} (T : Txt G mg) (h_Answers_least_rest : CalM P w G.K mg base G.cA "least_rest" 3 p_Answers_least_rest (sp_Answers_least_rest G)) (h_Turning_begin : CalM P w G.K mg base G.cT "begin" 2 p_Turning_begin (sp_Turning_begin G))
    (hr : Room 3 (A.deeper (envOfC "Answers.first_from" (defScope s_Answers_first_from) s.heap.objs.size f cdv))) :
    PSs (cxOf CX0 P w G.K mg base n_Answers_first_from "Answers.first_from" (defScope s_Answers_first_from) f cdv A outer s H E).nox (defBody s_Answers_first_from) (t_Answers_first_from G) := by
  have hu := hu_of hr
  have hw := hr.units
  have hv := hr.units0
  exact (pss_cons (ps_for PassesOwn.never rfl (pi_range2 rfl T.b_range (pa_cons (pv 1) (pa_cons (pe_op op_add (pe_ci rfl T.c_LONGEST) pe_int) pa_nil))) (pg_name (i := 2) sc_Answers_first_from.nd rfl (Or.inl rfl))
  (pss_one (ps_if (pt_cmp (pc_din hu (pe_tup (pa_cons pe_int (pa_cons pe_int pa_nil))) (pe_ix ix_list (pe_fld (pv 0) rfl) (pv 2) (fun _ _ => rfl))) rfl) (pss_one (ps_ret (pe_lst (pa_cons (pe_cm (pv 0) h_Answers_least_rest hr (pa_cons (pe_cm0 (pe_fld (pv 0) rfl) h_Turning_begin (hr.mono (by decide))) (pa_cons (pv 2) pa_nil))) pa_nil)))) pss_nil)))
  (pss_one (ps_ret (pe_lst pa_nil))))
theorem sc_Answers_holds : FnScope n_Answers_holds p_Answers_holds (defScope s_Answers_holds) := ⟨rfl, rfl, rfl, by decide +kernel, rfl, by decide +kernel, by decide +kernel⟩
theorem tie_Answers_holds {f : Addr} {cdv : Value} {A : Around} {outer : List Env} {s : Shared} {H : Hp} {E : XK} (T : Txt G mg) (h_Turning_has_end : CalM P w G.K mg base G.cT "has_end" 2 p_Turning_has_end (sp_Turning_has_end G)) (h_Answers_spots_along : CalM P w G.K mg base G.cA "spots_along" 3 p_Answers_spots_along (sp_Answers_spots_along G))
    (hr : Room 3 (A.deeper (envOfC "Answers.holds" (defScope s_Answers_holds) s.heap.objs.size f cdv))) :
    PSs (cxOf CX0 P w G.K mg base n_Answers_holds "Answers.holds" (defScope s_Answers_holds) f cdv A outer s H E).nox (defBody s_Answers_holds) (t_Answers_holds G) := by
  have hu := hu_of hr
  have hw := hr.units
  have hv := hr.units0
  exact (pss_one (ps_ret (pe_cm (pe_fld (pv 0) rfl) h_Turning_has_end (hr.mono (by decide)) (pa_cons (pe_ix ix_list (pe_cm (pv 0) h_Answers_spots_along hr (pa_cons (pv 1) pa_nil)) (pe_un un_neg pe_int) (fun _ _ => rfl)) pa_nil))))
theorem sc_is_endless : FnScope n_is_endless p_is_endless (defScope s_is_endless) := ⟨rfl, rfl, rfl, by decide +kernel, rfl, by decide +kernel, by decide +kernel⟩
theorem tie_is_endless {f : Addr} {cdv : Value} {A : Around} {outer : List Env} {s : Shared} {H : Hp} {E : XK} (T : Txt G mg) (h_Turning : CalC P w G.K mg base "Turning" G.cT 2 p_Turning_init (sp_Turning_init G)) (h_circling_states : CalF P w G.K mg base "circling_states" 2 p_circling_states (sp_circling_states G)) (h_reached_spots : CalF P w G.K mg base "reached_spots" 1 p_reached_spots (sp_reached_spots G)) (h_leads_to_end : CalF P w G.K mg base "leads_to_end" 2 p_leads_to_end (sp_leads_to_end G))
    (hr : Room 3 (A.deeper (envOfC "is_endless" (defScope s_is_endless) s.heap.objs.size f cdv))) :
    PSs (cxOf CX0 P w G.K mg base n_is_endless "is_endless" (defScope s_is_endless) f cdv A outer s H E).nox (defBody s_is_endless) (t_is_endless G) := by
  have hu := hu_of hr
  have hw := hr.units
  have hv := hr.units0
  exact (pss_cons (ps_set (i := 2) sc_is_endless.nd rfl (Or.inl rfl) (pe_mk h_Turning hr rfl (pa_cons (pv 0) (pa_cons (pv 1) pa_nil))))
  (pss_cons (ps_set (i := 3) sc_is_endless.nd rfl (Or.inl rfl) (pe_cf h_circling_states (hr.mono (by decide)) rfl (pa_cons (pv 0) pa_nil)))
  (pss_cons (ps_for PassesOwn.never rfl (pi_keys (pe_frz (pe_cf h_reached_spots (hr.mono (by decide)) rfl (pa_cons (pv 2) pa_nil)))) (pg_name (i := 4) sc_is_endless.nd rfl (Or.inl rfl))
  (pss_one (ps_if (PW.pt (pw_and (pt_cmp (pc_din hu (pe_ix ix_tup (pv 4) pe_int (fun _ _ => rfl)) (pv 3)) rfl) (pw_and1 (pt_val (pe_cf h_leads_to_end (hr.mono (by decide)) rfl (pa_cons (pv 2) (pa_cons (pv 4) pa_nil))))))) (pss_one (ps_ret pe_bl)) pss_nil)))
  (pss_one (ps_ret pe_bl)))))
theorem sc_made_of_two : FnScope n_made_of_two p_made_of_two (defScope s_made_of_two) := ⟨rfl, rfl, rfl, by decide +kernel, rfl, by decide +kernel, by decide +kernel⟩
theorem tie_made_of_two {f : Addr} {cdv : Value} {A : Around} {outer : List Env} {s : Shared} {H : Hp} {E : XK} (T : Txt G mg) (h_join : CalF P w G.K mg base "join" 3 p_join (sp_join G)) (h_follow : CalF P w G.K mg base "follow" 3 p_follow (sp_follow G)) (h_behind : CalF P w G.K mg base "behind" 3 p_behind (sp_behind G))
    (hr : Room 3 (A.deeper (envOfC "made_of_two" (defScope s_made_of_two) s.heap.objs.size f cdv))) :
    PSs (cxOf CX0 P w G.K mg base n_made_of_two "made_of_two" (defScope s_made_of_two) f cdv A outer s H E).nox (defBody s_made_of_two) (t_made_of_two G) := by
  have hu := hu_of hr
  have hw := hr.units
  have hv := hr.units0
  exact (pss_cons (ps_if (pt_cmpR op_eq (pv 0) (pe_ci rfl T.c_JOIN) (nomark _)) (pss_one (ps_ret (pe_cf h_join hr rfl (pa_cons (pv 1) (pa_cons (pv 2) pa_nil))))) pss_nil)
  (pss_cons (ps_if (pt_cmpR op_eq (pv 0) (pe_ci rfl T.c_FOLLOW) (nomark _)) (pss_one (ps_ret (pe_cf h_follow hr rfl (pa_cons (pv 1) (pa_cons (pv 2) pa_nil))))) pss_nil)
  (pss_one (ps_ret (pe_cf h_behind hr rfl (pa_cons (pv 1) (pa_cons (pv 2) pa_nil)))))))
theorem sc_Desk_new : FnScope n_Desk_new p_Desk_new (defScope s_Desk_new) := ⟨rfl, rfl, rfl, by decide +kernel, rfl, by decide +kernel, by decide +kernel⟩
theorem tie_Desk_new {f : Addr} {cdv : Value} {A : Around} {outer : List Env} {s : Shared} {H : Hp} {E : XK} (T : Txt G mg) (h_new_net : CalF P w G.K mg base "new_net" 3 p_new_net (sp_new_net G))
    (hr : Room 3 (A.deeper (envOfC "Desk.new" (defScope s_Desk_new) s.heap.objs.size f cdv))) :
    PSs (cxOf CX0 P w G.K mg base n_Desk_new "Desk.new" (defScope s_Desk_new) f cdv A outer s H E).nox (defBody s_Desk_new) (t_Desk_new G) := by
  have hu := hu_of hr
  have hw := hr.units
  have hv := hr.units0
  exact (pss_cons (ps_if (pt_cmpR op_ge (pv 1) (pe_ci rfl T.c_PLACES) (nomark _)) (pss_one (ps_ret (pe_lst (pa_cons (pe_un un_neg pe_int) pa_nil)))) pss_nil)
  (pss_cons (ps_asg (pe_cf0 h_new_net hr rfl) (pg_sub (pe_fld (pv 0) rfl) (pv 1) set_list))
  (pss_one (ps_ret (pe_lst (pa_cons pe_int pa_nil))))))
theorem sc_Desk_of_one : FnScope n_Desk_of_one p_Desk_of_one (defScope s_Desk_of_one) := ⟨rfl, rfl, rfl, by decide +kernel, rfl, by decide +kernel, by decide +kernel⟩
theorem tie_Desk_of_one {f : Addr} {cdv : Value} {A : Around} {outer : List Env} {s : Shared} {H : Hp} {E : XK} (T : Txt G mg) (h_Desk_refusal : CalM P w G.K mg base G.cD "refusal" 1 p_Desk_refusal (sp_Desk_refusal G)) (h_keep : CalF P w G.K mg base "keep" 3 p_keep (sp_keep G)) (h_is_too_great : CalF P w G.K mg base "is_too_great" 1 p_is_too_great (sp_is_too_great G)) (h_again_numbers : CalF P w G.K mg base "again_numbers" 1 p_again_numbers (sp_again_numbers G)) (h_again : CalF P w G.K mg base "again" 3 p_again (sp_again G))
    (hr : Room 3 (A.deeper (envOfC "Desk.of_one" (defScope s_Desk_of_one) s.heap.objs.size f cdv))) :
    PSs (cxOf CX0 P w G.K mg base n_Desk_of_one "Desk.of_one" (defScope s_Desk_of_one) f cdv A outer s H E).nox (defBody s_Desk_of_one) (t_Desk_of_one G) := by
  have hu := hu_of hr
  have hw := hr.units
  have hv := hr.units0
  exact (pss_cons (ps_set (i := 4) sc_Desk_of_one.nd rfl (Or.inl rfl) (pe_cm (pv 0) h_Desk_refusal (hr.mono (by decide)) (pa_cons (pe_lst (pa_cons (pv 3) pa_nil)) pa_nil)))
  (pss_cons (ps_if (pt_cmpR op_lt (pv 4) pe_int (nomark _)) (pss_one (ps_ret (pe_lst (pa_cons (pv 4) pa_nil)))) pss_nil)
  (pss_cons (ps_if (pt_cmpR op_ge (pv 2) (pe_ci rfl T.c_PLACES) (nomark _)) (pss_one (ps_ret (pe_lst (pa_cons (pe_un un_neg pe_int) pa_nil)))) pss_nil)
  (pss_cons (ps_if (pt_not (pt_val (pv 1))) (pss_cons (ps_asg (pe_cf h_keep hr rfl (pa_cons (pe_ix ix_list (pe_fld (pv 0) rfl) (pv 3) (fun _ _ => rfl)) pa_nil)) (pg_sub (pe_fld (pv 0) rfl) (pv 2) set_list))
  (pss_one (ps_ret (pe_lst (pa_cons pe_int pa_nil))))) pss_nil)
  (pss_cons (ps_if (pt_val (pe_cf h_is_too_great (hr.mono (by decide)) rfl (pa_cons (pe_cf h_again_numbers (hr.mono (by decide)) rfl (pa_cons (pe_ix ix_list (pe_fld (pv 0) rfl) (pv 3) (fun _ _ => rfl)) pa_nil)) pa_nil))) (pss_one (ps_ret (pe_lst (pa_cons (pe_un un_neg pe_int) pa_nil)))) pss_nil)
  (pss_cons (ps_asg (pe_cf h_again hr rfl (pa_cons (pe_ix ix_list (pe_fld (pv 0) rfl) (pv 3) (fun _ _ => rfl)) pa_nil)) (pg_sub (pe_fld (pv 0) rfl) (pv 2) set_list))
  (pss_one (ps_ret (pe_lst (pa_cons pe_int pa_nil))))))))))
theorem sc_Answers_next_after : FnScope n_Answers_next_after p_Answers_next_after (defScope s_Answers_next_after) := ⟨rfl, rfl, rfl, by decide +kernel, rfl, by decide +kernel, by decide +kernel⟩
theorem tie_Answers_next_after {f : Addr} {cdv : Value} {A : Around} {outer : List Env} {s : Shared} {H : Hp} {E : XK} (T : Txt G mg) (h_Answers_spots_along : CalM P w G.K mg base G.cA "spots_along" 3 p_Answers_spots_along (sp_Answers_spots_along G)) (h_Turning_least_byte : CalM P w G.K mg base G.cT "least_byte" 1 p_Turning_least_byte (sp_Turning_least_byte G)) (h_Answers_least_rest : CalM P w G.K mg base G.cA "least_rest" 3 p_Answers_least_rest (sp_Answers_least_rest G)) (h_Turning_step : CalM P w G.K mg base G.cT "step" 2 p_Turning_step (sp_Turning_step G)) (h_Answers_first_from : CalM P w G.K mg base G.cA "first_from" 4 p_Answers_first_from (sp_Answers_first_from G))
    (hr : Room 4 (A.deeper (envOfC "Answers.next_after" (defScope s_Answers_next_after) s.heap.objs.size f cdv))) :
    PSs (cxOf CX0 P w G.K mg base n_Answers_next_after "Answers.next_after" (defScope s_Answers_next_after) f cdv A outer s H E).nox (defBody s_Answers_next_after) (t_Answers_next_after G) := by
  have hu := hu_of hr
  have hw := hr.units
  have hv := hr.units0
  exact (pss_cons (ps_set (i := 2) sc_Answers_next_after.nd rfl (Or.inl rfl) (pe_cm (pv 0) h_Answers_spots_along (hr.mono (by decide)) (pa_cons (pv 1) pa_nil)))
  (pss_cons (ps_for PassesOwn.never rfl (pi_revR rfl T.b_reversed (prg_1 rfl T.b_range (pe_callB call_len_seq rfl T.b_len PySem.boot_len (pa_cons (pv 1) pa_nil)))) (pg_name (i := 3) sc_Answers_next_after.nd rfl (Or.inl rfl))
  (pss_cons (ps_set (i := 4) sc_Answers_next_after.nd rfl (Or.inl rfl) (pe_op op_sub (pe_op op_sub (pe_callB call_len_seq rfl T.b_len PySem.boot_len (pa_cons (pv 1) pa_nil)) (pv 3)) pe_int))
  (pss_cons (ps_set (i := 5) sc_Answers_next_after.nd rfl (Or.inl rfl) (pe_cm (pe_fld (pv 0) rfl) h_Turning_least_byte (hr.mono (by decide)) (pa_cons (pe_ix ix_list (pv 2) (pv 3) (fun _ _ => rfl)) (pa_cons (pe_ix ix_list (pe_fld (pv 0) rfl) (pv 4) (fun _ _ => rfl)) (pa_cons (pe_op op_add (pe_ix ix_list (pv 1) (pv 3) (fun _ _ => rfl)) pe_int) pa_nil)))))
  (pss_one (ps_if (pt_cmpR op_ge (pv 5) pe_int (nomark _)) (pss_cons (ps_set (i := 6) sc_Answers_next_after.nd rfl (Or.inl rfl) (pe_cm (pv 0) h_Answers_least_rest (hr.mono (by decide)) (pa_cons (pe_cm (pe_fld (pv 0) rfl) h_Turning_step (hr.mono (by decide)) (pa_cons (pe_ix ix_list (pv 2) (pv 3) (fun _ _ => rfl)) (pa_cons (pv 5) pa_nil))) (pa_cons (pv 4) pa_nil))))
  (pss_one (ps_ret (pe_lst (pa_cons (pe_op op_cat (pe_op op_cat (pe_slice sl_list (pv 1) po_none (po_some (pv 3))) (pe_lst (pa_cons (pv 5) pa_nil))) (pv 6)) pa_nil))))) pss_nil)))))
  (pss_one (ps_ret (pe_cm (pv 0) h_Answers_first_from hr (pa_cons (pe_op op_add (pe_callB call_len_seq rfl T.b_len PySem.boot_len (pa_cons (pv 1) pa_nil)) pe_int) pa_nil))))))
theorem sc_Desk_of_two : FnScope n_Desk_of_two p_Desk_of_two (defScope s_Desk_of_two) := ⟨rfl, rfl, rfl, by decide +kernel, rfl, by decide +kernel, by decide +kernel⟩
theorem tie_Desk_of_two {f : Addr} {cdv : Value} {A : Around} {outer : List Env} {s : Shared} {H : Hp} {E : XK} (T : Txt G mg) (h_Desk_refusal : CalM P w G.K mg base G.cD "refusal" 1 p_Desk_refusal (sp_Desk_refusal G)) (h_is_too_great : CalF P w G.K mg base "is_too_great" 1 p_is_too_great (sp_is_too_great G)) (h_numbers_of_two : CalF P w G.K mg base "numbers_of_two" 2 p_numbers_of_two (sp_numbers_of_two G)) (h_made_of_two : CalF P w G.K mg base "made_of_two" 4 p_made_of_two (sp_made_of_two G))
    (hr : Room 4 (A.deeper (envOfC "Desk.of_two" (defScope s_Desk_of_two) s.heap.objs.size f cdv))) :
    PSs (cxOf CX0 P w G.K mg base n_Desk_of_two "Desk.of_two" (defScope s_Desk_of_two) f cdv A outer s H E).nox (defBody s_Desk_of_two) (t_Desk_of_two G) := by
  have hu := hu_of hr
  have hw := hr.units
  have hv := hr.units0
  exact (pss_cons (ps_set (i := 5) sc_Desk_of_two.nd rfl (Or.inl rfl) (pe_cm (pv 0) h_Desk_refusal (hr.mono (by decide)) (pa_cons (pe_lst (pa_cons (pv 3) (pa_cons (pv 4) pa_nil))) pa_nil)))
  (pss_cons (ps_if (pt_cmpR op_lt (pv 5) pe_int (nomark _)) (pss_one (ps_ret (pe_lst (pa_cons (pv 5) pa_nil)))) pss_nil)
  (pss_cons (ps_if (pt_cmpR op_ge (pv 2) (pe_ci rfl T.c_PLACES) (nomark _)) (pss_one (ps_ret (pe_lst (pa_cons (pe_un un_neg pe_int) pa_nil)))) pss_nil)
  (pss_cons (ps_par (i := 6) (j := 7) rfl sc_Desk_of_two.nd rfl rfl (by decide) rfl rfl (pa_cons (pe_ix ix_list (pe_fld (pv 0) rfl) (pv 3) (fun _ _ => rfl)) (pa_cons (pe_ix ix_list (pe_fld (pv 0) rfl) (pv 4) (fun _ _ => rfl)) pa_nil)) rfl)
  (pss_cons (ps_if (pt_val (pe_cf h_is_too_great (hr.mono (by decide)) rfl (pa_cons (pe_cf h_numbers_of_two (hr.mono (by decide)) rfl (pa_cons (pv 1) (pa_cons (pv 6) (pa_cons (pv 7) pa_nil)))) pa_nil))) (pss_one (ps_ret (pe_lst (pa_cons (pe_un un_neg pe_int) pa_nil)))) pss_nil)
  (pss_cons (ps_asg (pe_cf h_made_of_two hr rfl (pa_cons (pv 1) (pa_cons (pv 6) (pa_cons (pv 7) pa_nil)))) (pg_sub (pe_fld (pv 0) rfl) (pv 2) set_list))
  (pss_one (ps_ret (pe_lst (pa_cons pe_int pa_nil))))))))))
theorem sc_Desk_endless : FnScope n_Desk_endless p_Desk_endless (defScope s_Desk_endless) := ⟨rfl, rfl, rfl, by decide +kernel, rfl, by decide +kernel, by decide +kernel⟩
theorem tie_Desk_endless {f : Addr} {cdv : Value} {A : Around} {outer : List Env} {s : Shared} {H : Hp} {E : XK} (T : Txt G mg) (h_is_endless : CalF P w G.K mg base "is_endless" 4 p_is_endless (sp_is_endless G))
    (hr : Room 4 (A.deeper (envOfC "Desk.endless" (defScope s_Desk_endless) s.heap.objs.size f cdv))) :
    PSs (cxOf CX0 P w G.K mg base n_Desk_endless "Desk.endless" (defScope s_Desk_endless) f cdv A outer s H E).nox (defBody s_Desk_endless) (t_Desk_endless G) := by
  have hu := hu_of hr
  have hw := hr.units
  have hv := hr.units0
  exact (pss_cons (ps_if (pt_cmpR op_gt (pe_callB call_len_seq rfl T.b_len PySem.boot_len (pa_cons (pv 2) pa_nil)) (pe_ci rfl T.c_LONGEST) (nomark _)) (pss_one (ps_ret (pe_lst (pa_cons (pe_un un_neg pe_int) pa_nil)))) pss_nil)
  (pss_one (ps_ret (pe_lst (pa_cons (pe_callTy call_int1 rfl T.b_int (by decide +kernel) (pa_cons (pe_cf h_is_endless hr rfl (pa_cons (pe_ix ix_list (pe_fld (pv 0) rfl) (pv 1) (fun _ _ => rfl)) (pa_cons (pv 2) pa_nil))) pa_nil)) pa_nil)))))
theorem sc_Desk_next_word : FnScope n_Desk_next_word p_Desk_next_word (defScope s_Desk_next_word) := ⟨rfl, rfl, rfl, by decide +kernel, rfl, by decide +kernel, by decide +kernel⟩
theorem tie_Desk_next_word {f : Addr} {cdv : Value} {A : Around} {outer : List Env} {s : Shared} {H : Hp} {E : XK} (T : Txt G mg) (h_told_word : CalF P w G.K mg base "told_word" 2 p_told_word (sp_told_word G)) (h_Answers : CalC P w G.K mg base "Answers" G.cA 4 p_Answers_init (sp_Answers_init G)) (h_Answers_first_from : CalM P w G.K mg base G.cA "first_from" 4 p_Answers_first_from (sp_Answers_first_from G))
    (hr : Room 5 (A.deeper (envOfC "Desk.next_word" (defScope s_Desk_next_word) s.heap.objs.size f cdv))) :
    PSs (cxOf CX0 P w G.K mg base n_Desk_next_word "Desk.next_word" (defScope s_Desk_next_word) f cdv A outer s H E).nox (defBody s_Desk_next_word) (t_Desk_next_word G) := by
  have hu := hu_of hr
  have hw := hr.units
  have hv := hr.units0
  exact (pss_cons (ps_if (pt_cmpR op_gt (pe_callB call_len_seq rfl T.b_len PySem.boot_len (pa_cons (pv 2) pa_nil)) (pe_ci rfl T.c_LONGEST) (nomark _)) (pss_one (ps_ret (pe_lst (pa_cons (pe_un un_neg pe_int) pa_nil)))) pss_nil)
  (pss_one (ps_ret (pe_cf h_told_word (hr.mono (by decide)) rfl (pa_cons (pe_cm (pe_mk h_Answers hr rfl (pa_cons (pe_ix ix_list (pe_fld (pv 0) rfl) (pv 1) (fun _ _ => rfl)) (pa_cons (pv 2) pa_nil))) h_Answers_first_from (hr.mono (by decide)) (pa_cons pe_int pa_nil)) pa_nil)))))
theorem sc_Desk_later : FnScope n_Desk_later p_Desk_later (defScope s_Desk_later) := ⟨rfl, rfl, rfl, by decide +kernel, rfl, by decide +kernel, by decide +kernel⟩
theorem tie_Desk_later {f : Addr} {cdv : Value} {A : Around} {outer : List Env} {s : Shared} {H : Hp} {E : XK} (T : Txt G mg) (h_told_word : CalF P w G.K mg base "told_word" 2 p_told_word (sp_told_word G)) (h_Answers : CalC P w G.K mg base "Answers" G.cA 4 p_Answers_init (sp_Answers_init G)) (h_Answers_next_after : CalM P w G.K mg base G.cA "next_after" 5 p_Answers_next_after (sp_Answers_next_after G))
    (hr : Room 5 (A.deeper (envOfC "Desk.later" (defScope s_Desk_later) s.heap.objs.size f cdv))) :
    PSs (cxOf CX0 P w G.K mg base n_Desk_later "Desk.later" (defScope s_Desk_later) f cdv A outer s H E).nox (defBody s_Desk_later) (t_Desk_later G) := by
  have hu := hu_of hr
  have hw := hr.units
  have hv := hr.units0
  exact (pss_cons (ps_if (PW.pt (pw_or (pt_cmpR op_gt (pe_callB call_len_seq rfl T.b_len PySem.boot_len (pa_cons (pv 2) pa_nil)) (pe_ci rfl T.c_LONGEST) (nomark _)) (pw_or1 (pt_cmpR op_gt (pe_callB call_len_seq rfl T.b_len PySem.boot_len (pa_cons (pv 3) pa_nil)) (pe_ci rfl T.c_LONGEST) (nomark _))))) (pss_one (ps_ret (pe_lst (pa_cons (pe_un un_neg pe_int) pa_nil)))) pss_nil)
  (pss_one (ps_ret (pe_cf h_told_word (hr.mono (by decide)) rfl (pa_cons (pe_cm (pe_mk h_Answers hr rfl (pa_cons (pe_ix ix_list (pe_fld (pv 0) rfl) (pv 1) (fun _ _ => rfl)) (pa_cons (pv 2) pa_nil))) h_Answers_next_after hr (pa_cons (pv 3) pa_nil)) pa_nil)))))
theorem sc_Desk_holds : FnScope n_Desk_holds p_Desk_holds (defScope s_Desk_holds) := ⟨rfl, rfl, rfl, by decide +kernel, rfl, by decide +kernel, by decide +kernel⟩
theorem tie_Desk_holds {f : Addr} {cdv : Value} {A : Around} {outer : List Env} {s : Shared} {H : Hp} {E : XK} (T : Txt G mg) (h_Answers : CalC P w G.K mg base "Answers" G.cA 4 p_Answers_init (sp_Answers_init G)) (h_Answers_holds : CalM P w G.K mg base G.cA "holds" 4 p_Answers_holds (sp_Answers_holds G))
    (hr : Room 5 (A.deeper (envOfC "Desk.holds" (defScope s_Desk_holds) s.heap.objs.size f cdv))) :
    PSs (cxOf CX0 P w G.K mg base n_Desk_holds "Desk.holds" (defScope s_Desk_holds) f cdv A outer s H E).nox (defBody s_Desk_holds) (t_Desk_holds G) := by
  have hu := hu_of hr
  have hw := hr.units
  have hv := hr.units0
  exact (pss_cons (ps_if (PW.pt (pw_or (pt_cmpR op_gt (pe_callB call_len_seq rfl T.b_len PySem.boot_len (pa_cons (pv 2) pa_nil)) (pe_ci rfl T.c_LONGEST) (nomark _)) (pw_or1 (pt_cmpR op_gt (pe_callB call_len_seq rfl T.b_len PySem.boot_len (pa_cons (pv 3) pa_nil)) (pe_ci rfl T.c_LONGEST) (nomark _))))) (pss_one (ps_ret (pe_lst (pa_cons (pe_un un_neg pe_int) pa_nil)))) pss_nil)
  (pss_one (ps_ret (pe_lst (pa_cons (pe_callTy call_int1 rfl T.b_int (by decide +kernel) (pa_cons (pe_cm (pe_mk h_Answers hr rfl (pa_cons (pe_ix ix_list (pe_fld (pv 0) rfl) (pv 1) (fun _ _ => rfl)) (pa_cons (pv 2) pa_nil))) h_Answers_holds (hr.mono (by decide)) (pa_cons (pv 3) pa_nil)) pa_nil)) pa_nil)))))
theorem sc_making : FnScope n_making p_making (defScope s_making) := ⟨rfl, rfl, rfl, by decide +kernel, rfl, by decide +kernel, by decide +kernel⟩
theorem tie_making {f : Addr} {cdv : Value} {A : Around} {outer : List Env} {s : Shared} {H : Hp} {E : XK} (T : Txt G mg) (h_Desk_new : CalM P w G.K mg base G.cD "new" 4 p_Desk_new (sp_Desk_new G)) (h_Desk_of_two : CalM P w G.K mg base G.cD "of_two" 5 p_Desk_of_two (sp_Desk_of_two G)) (h_Desk_of_one : CalM P w G.K mg base G.cD "of_one" 4 p_Desk_of_one (sp_Desk_of_one G))
    (hr : Room 5 (A.deeper (envOfC "making" (defScope s_making) s.heap.objs.size f cdv))) :
    PSs (cxOf CX0 P w G.K mg base n_making "making" (defScope s_making) f cdv A outer s H E).nox (defBody s_making) (t_making G) := by
  have hu := hu_of hr
  have hw := hr.units
  have hv := hr.units0
  exact (pss_cons (ps_if (pt_cmpR op_eq (pv 1) (pe_ci rfl T.c_NEW) (nomark _)) (pss_one (ps_ret (pe_cm (pv 0) h_Desk_new (hr.mono (by decide)) (pa_cons (pe_ix ix_list (pv 2) pe_int (fun _ _ => rfl)) pa_nil)))) pss_nil)
  (pss_cons (ps_if (pt_cmpR op_eq (pe_callB call_len_seq rfl T.b_len PySem.boot_len (pa_cons (pv 2) pa_nil)) pe_int (nomark _)) (pss_one (ps_ret (pe_cm (pv 0) h_Desk_of_two hr (pa_cons (pv 1) (pa_cons (pe_ix ix_list (pv 2) pe_int (fun _ _ => rfl)) (pa_cons (pe_ix ix_list (pv 2) pe_int (fun _ _ => rfl)) (pa_cons (pe_ix ix_list (pv 2) pe_int (fun _ _ => rfl)) pa_nil))))))) pss_nil)
  (pss_one (ps_ret (pe_cm (pv 0) h_Desk_of_one (hr.mono (by decide)) (pa_cons (pe_cmpR op_eq (pv 1) (pe_ci rfl T.c_AGAIN) (nomark _)) (pa_cons (pe_ix ix_list (pv 2) pe_int (fun _ _ => rfl)) (pa_cons (pe_ix ix_list (pv 2) pe_int (fun _ _ => rfl)) pa_nil))))))))
theorem sc_of_words : FnScope n_of_words p_of_words (defScope s_of_words) := ⟨rfl, rfl, rfl, by decide +kernel, rfl, by decide +kernel, by decide +kernel⟩
theorem tie_of_words {f : Addr} {cdv : Value} {A : Around} {outer : List Env} {s : Shared} {H : Hp} {E : XK} (T : Txt G mg) (h_Desk_next_word : CalM P w G.K mg base G.cD "next_word" 6 p_Desk_next_word (sp_Desk_next_word G)) (h_Desk_later : CalM P w G.K mg base G.cD "later" 6 p_Desk_later (sp_Desk_later G)) (h_Desk_holds : CalM P w G.K mg base G.cD "holds" 6 p_Desk_holds (sp_Desk_holds G)) (h_Desk_endless : CalM P w G.K mg base G.cD "endless" 5 p_Desk_endless (sp_Desk_endless G))
    (hr : Room 6 (A.deeper (envOfC "of_words" (defScope s_of_words) s.heap.objs.size f cdv))) :
    PSs (cxOf CX0 P w G.K mg base n_of_words "of_words" (defScope s_of_words) f cdv A outer s H E).nox (defBody s_of_words) (t_of_words G) := by
  have hu := hu_of hr
  have hw := hr.units
  have hv := hr.units0
  exact (pss_cons (ps_if (pt_cmpR op_eq (pv 1) pe_int (nomark _)) (pss_one (ps_ret (pe_cm (pv 0) h_Desk_next_word hr (pa_cons (pv 2) (pa_cons (pe_ix ix_list (pv 3) pe_int (fun _ _ => rfl)) pa_nil))))) pss_nil)
  (pss_cons (ps_if (pt_cmpR op_eq (pv 1) pe_int (nomark _)) (pss_one (ps_ret (pe_cm (pv 0) h_Desk_later hr (pa_cons (pv 2) (pa_cons (pe_ix ix_list (pv 3) pe_int (fun _ _ => rfl)) (pa_cons (pe_ix ix_list (pv 3) pe_int (fun _ _ => rfl)) pa_nil)))))) pss_nil)
  (pss_cons (ps_if (pt_cmpR op_eq (pv 1) pe_int (nomark _)) (pss_one (ps_ret (pe_cm (pv 0) h_Desk_holds hr (pa_cons (pv 2) (pa_cons (pe_ix ix_list (pv 3) pe_int (fun _ _ => rfl)) (pa_cons (pe_ix ix_list (pv 3) pe_int (fun _ _ => rfl)) pa_nil)))))) pss_nil)
  (pss_one (ps_ret (pe_cm (pv 0) h_Desk_endless (hr.mono (by decide)) (pa_cons (pv 2) (pa_cons (pe_ix ix_list (pv 3) pe_int (fun _ _ => rfl)) pa_nil))))))))
theorem sc_of_place : FnScope n_of_place p_of_place (defScope s_of_place) := ⟨rfl, rfl, rfl, by decide +kernel, rfl, by decide +kernel, by decide +kernel⟩
theorem tie_of_place {f : Addr} {cdv : Value} {A : Around} {outer : List Env} {s : Shared} {H : Hp} {E : XK} (T : Txt G mg) (h_Desk_refusal : CalM P w G.K mg base G.cD "refusal" 1 p_Desk_refusal (sp_Desk_refusal G)) (h_Desk_state : CalM P w G.K mg base G.cD "state" 2 p_Desk_state (sp_Desk_state G)) (h_Desk_final : CalM P w G.K mg base G.cD "final" 2 p_Desk_final (sp_Desk_final G)) (h_Desk_arc : CalM P w G.K mg base G.cD "arc" 2 p_Desk_arc (sp_Desk_arc G)) (h_Desk_turn : CalM P w G.K mg base G.cD "turn" 2 p_Desk_turn (sp_Desk_turn G)) (h_Desk_size : CalM P w G.K mg base G.cD "size" 2 p_Desk_size (sp_Desk_size G)) (h_of_words : CalF P w G.K mg base "of_words" 7 p_of_words (sp_of_words G))
    (hr : Room 7 (A.deeper (envOfC "of_place" (defScope s_of_place) s.heap.objs.size f cdv))) :
    PSs (cxOf CX0 P w G.K mg base n_of_place "of_place" (defScope s_of_place) f cdv A outer s H E).nox (defBody s_of_place) (t_of_place G) := by
  have hu := hu_of hr
  have hw := hr.units
  have hv := hr.units0
  exact (pss_cons (ps_set (i := 4) sc_of_place.nd rfl (Or.inl rfl) (pe_cm (pv 0) h_Desk_refusal (hr.mono (by decide)) (pa_cons (pe_slice sl_list (pv 2) po_none (po_some pe_int)) pa_nil)))
  (pss_cons (ps_if (pt_cmpR op_lt (pv 4) pe_int (nomark _)) (pss_one (ps_ret (pe_lst (pa_cons (pv 4) pa_nil)))) pss_nil)
  (pss_cons (ps_if (pt_cmpR op_eq (pv 1) pe_int (nomark _)) (pss_one (ps_ret (pe_cm (pv 0) h_Desk_state (hr.mono (by decide)) (pa_cons (pe_ix ix_list (pv 2) pe_int (fun _ _ => rfl)) pa_nil)))) pss_nil)
  (pss_cons (ps_if (pt_cmpR op_eq (pv 1) pe_int (nomark _)) (pss_one (ps_ret (pe_cm (pv 0) h_Desk_final (hr.mono (by decide)) (pa_cons (pe_ix ix_list (pv 2) pe_int (fun _ _ => rfl)) (pa_cons (pe_ix ix_list (pv 2) pe_int (fun _ _ => rfl)) (pa_cons (pe_ix ix_list (pv 2) pe_int (fun _ _ => rfl)) pa_nil)))))) pss_nil)
  (pss_cons (ps_if (pt_cmpR op_eq (pv 1) pe_int (nomark _)) (pss_one (ps_ret (pe_cm (pv 0) h_Desk_arc (hr.mono (by decide)) (pa_cons (pe_ix ix_list (pv 2) pe_int (fun _ _ => rfl)) (pa_cons (pe_callTy call_tuple_of rfl T.b_tuple (by decide +kernel) (pa_cons (pe_slice sl_list (pv 2) (po_some pe_int) po_none) pa_nil)) pa_nil))))) pss_nil)
  (pss_cons (ps_if (pt_cmpR op_eq (pv 1) pe_int (nomark _)) (pss_one (ps_ret (pe_cm (pv 0) h_Desk_turn (hr.mono (by decide)) (pa_cons (pe_ix ix_list (pv 2) pe_int (fun _ _ => rfl)) pa_nil)))) pss_nil)
  (pss_cons (ps_if (pt_cmpR op_eq (pv 1) pe_int (nomark _)) (pss_one (ps_ret (pe_cm (pv 0) h_Desk_size (hr.mono (by decide)) (pa_cons (pe_ix ix_list (pv 2) pe_int (fun _ _ => rfl)) pa_nil)))) pss_nil)
  (pss_one (ps_ret (pe_cf h_of_words hr rfl (pa_cons (pv 0) (pa_cons (pv 1) (pa_cons (pe_ix ix_list (pv 2) pe_int (fun _ _ => rfl)) (pa_cons (pv 3) pa_nil))))))))))))))
theorem sc_answers : FnScope n_answers p_answers (defScope s_answers) := ⟨rfl, rfl, rfl, by decide +kernel, rfl, by decide +kernel, by decide +kernel⟩
theorem tie_answers {f : Addr} {cdv : Value} {A : Around} {outer : List Env} {s : Shared} {H : Hp} {E : XK} (T : Txt G mg) (h_Desk : CalC P w G.K mg base "Desk" G.cD 1 p_Desk_init (sp_Desk_init G)) (h_making : CalF P w G.K mg base "making" 6 p_making (sp_making G)) (h_of_place : CalF P w G.K mg base "of_place" 8 p_of_place (sp_of_place G))
    (hr : Room 8 (A.deeper (envOfC "answers" (defScope s_answers) s.heap.objs.size f cdv))) :
    PSs (cxOf CX0 P w G.K mg base n_answers "answers" (defScope s_answers) f cdv A outer s H E).nox (defBody s_answers) (t_answers G) := by
  have hu := hu_of hr
  have hw := hr.units
  have hv := hr.units0
  exact (pss_cons (ps_set (i := 1) sc_answers.nd rfl (Or.inl rfl) (pe_mk0 h_Desk (hr.mono (by decide)) rfl))
  (pss_cons (ps_set (i := 2) sc_answers.nd rfl (Or.inl rfl) (pe_lst pa_nil))
  (pss_cons (ps_set (i := 3) sc_answers.nd rfl (Or.inl rfl) pe_int)
  (pss_cons (ps_while PassesOwn.never (pt_cmpR op_lt (pv 3) (pe_callB call_len_seq rfl T.b_len PySem.boot_len (pa_cons (pv 0) pa_nil)) (nomark _))
  (pss_cons (ps_set (i := 4) sc_answers.nd rfl (Or.inl rfl) (pe_ix ix_list (pv 0) (pv 3) (fun _ _ => rfl)))
  (pss_cons (ps_set (i := 5) sc_answers.nd rfl (Or.inl rfl) (pe_op op_add (pe_op op_add (pv 3) pe_int) (pe_ix ix_tup (pe_cr rfl T.c_NUMBERS) (pv 4) (fun _ _ => rfl))))
  (pss_cons (ps_set (i := 6) sc_answers.nd rfl (Or.inl rfl) (pe_slice sl_list (pv 0) (po_some (pe_op op_add (pv 3) pe_int)) (po_some (pv 5))))
  (pss_cons (ps_set (i := 7) sc_answers.nd rfl (Or.inl rfl) (pe_lst pa_nil))
  (pss_cons (ps_for PassesOwn.never rfl (pi_range1 rfl T.b_range (pa_cons (pe_ix ix_tup (pe_cr rfl T.c_LISTS) (pv 4) (fun _ _ => rfl)) pa_nil)) (pg_name (i := 8) sc_answers.nd rfl (Or.inl rfl))
  (pss_cons (ps_set (i := 9) sc_answers.nd rfl (Or.inl rfl) (pe_op op_add (pv 5) pe_int))
  (pss_cons (ps_set (i := 5) sc_answers.nd rfl (Or.inl rfl) (pe_op op_add (pv 9) (pe_ix ix_list (pv 0) (pe_op op_sub (pv 9) pe_int) (fun _ _ => rfl))))
  (pss_one (ps_expr (pe_bm PySem.F.plainAttrs_list PySem.F.slot_list_append PySem.F.type_list_append mt_append (pv 7) (pa_cons (pe_slice sl_list (pv 0) (po_some (pv 9)) (po_some (pv 5))) pa_nil)))))))
  (pss_cut (ps_if (pt_cmpR op_in_seq (pv 4) (pe_tup (pa_cons pe_int (pa_cons pe_int (pa_cons pe_int (pa_cons pe_int (pa_cons pe_int (pa_cons pe_int pa_nil))))))) rfl) (pss_one (ps_set (i := 10) sc_answers.nd rfl (Or.inl rfl) (pe_cf h_making (hr.mono (by decide)) rfl (pa_cons (pv 1) (pa_cons (pv 4) (pa_cons (pv 6) pa_nil)))))) (pss_one (ps_set (i := 10) sc_answers.nd rfl (Or.inl rfl) (pe_cf h_of_place hr rfl (pa_cons (pv 1) (pa_cons (pv 4) (pa_cons (pv 6) (pa_cons (pv 7) pa_nil))))))))
  (pss_cons (ps_expr (pe_bm PySem.F.plainAttrs_list PySem.F.slot_list_append PySem.F.type_list_append mt_append (pv 2) (pa_cons (pe_callB call_len_seq rfl T.b_len PySem.boot_len (pa_cons (pv 10) pa_nil)) pa_nil)))
  (pss_cons (ps_expr (pe_bm PySem.F.plainAttrs_list PySem.F.slot_list_extend PySem.F.type_list_extend mt_extend (pv 2) (pa_cons (pv 10) pa_nil)))
  (pss_one (ps_set (i := 3) sc_answers.nd rfl (Or.inl rfl) (pv 5))))))))))))
  (pss_one (ps_ret (pv 2)))))))
end
end Tw


/-! # Each def holds its promise -/
namespace Tw
open PySem PySem.Spec PyProof.Rows L2 Evl
section
variable {P : Program} {w : World} {mg : Str → Option Value} {base : Heap} {G : Gs} {vs : List V} {H : Hp} {Q : VK} {E : XK}
theorem len_Machine_init (h : sp_Machine_init G vs H Q E) : vs.length = p_Machine_init.length := by
  repeat (first | (obtain ⟨rfl, _⟩ := h; rfl) | (obtain ⟨_, h⟩ := h))
theorem len_Machine_has_state (h : sp_Machine_has_state G vs H Q E) : vs.length = p_Machine_has_state.length := by
  repeat (first | (obtain ⟨rfl, _⟩ := h; rfl) | (obtain ⟨_, h⟩ := h))
theorem len_Machine_add_state (h : sp_Machine_add_state G vs H Q E) : vs.length = p_Machine_add_state.length := by
  repeat (first | (obtain ⟨rfl, _⟩ := h; rfl) | (obtain ⟨_, h⟩ := h))
theorem len_Machine_add_arc (h : sp_Machine_add_arc G vs H Q E) : vs.length = p_Machine_add_arc.length := by
  repeat (first | (obtain ⟨rfl, _⟩ := h; rfl) | (obtain ⟨_, h⟩ := h))
theorem len_Machine_set_final (h : sp_Machine_set_final G vs H Q E) : vs.length = p_Machine_set_final.length := by
  repeat (first | (obtain ⟨rfl, _⟩ := h; rfl) | (obtain ⟨_, h⟩ := h))
theorem len_Machine_turn (h : sp_Machine_turn G vs H Q E) : vs.length = p_Machine_turn.length := by
  repeat (first | (obtain ⟨rfl, _⟩ := h; rfl) | (obtain ⟨_, h⟩ := h))
theorem len_moved (h : sp_moved G vs H Q E) : vs.length = p_moved.length := by
  repeat (first | (obtain ⟨rfl, _⟩ := h; rfl) | (obtain ⟨_, h⟩ := h))
theorem len_is_too_great (h : sp_is_too_great G vs H Q E) : vs.length = p_is_too_great.length := by
  repeat (first | (obtain ⟨rfl, _⟩ := h; rfl) | (obtain ⟨_, h⟩ := h))
theorem len_finished (h : sp_finished G vs H Q E) : vs.length = p_finished.length := by
  repeat (first | (obtain ⟨rfl, _⟩ := h; rfl) | (obtain ⟨_, h⟩ := h))
theorem len_join_numbers (h : sp_join_numbers G vs H Q E) : vs.length = p_join_numbers.length := by
  repeat (first | (obtain ⟨rfl, _⟩ := h; rfl) | (obtain ⟨_, h⟩ := h))
theorem len_follow_numbers (h : sp_follow_numbers G vs H Q E) : vs.length = p_follow_numbers.length := by
  repeat (first | (obtain ⟨rfl, _⟩ := h; rfl) | (obtain ⟨_, h⟩ := h))
theorem len_again_numbers (h : sp_again_numbers G vs H Q E) : vs.length = p_again_numbers.length := by
  repeat (first | (obtain ⟨rfl, _⟩ := h; rfl) | (obtain ⟨_, h⟩ := h))
theorem len_behind_numbers (h : sp_behind_numbers G vs H Q E) : vs.length = p_behind_numbers.length := by
  repeat (first | (obtain ⟨rfl, _⟩ := h; rfl) | (obtain ⟨_, h⟩ := h))
theorem len_behind_arcs (h : sp_behind_arcs G vs H Q E) : vs.length = p_behind_arcs.length := by
  repeat (first | (obtain ⟨rfl, _⟩ := h; rfl) | (obtain ⟨_, h⟩ := h))
theorem len_Turning_note (h : sp_Turning_note G vs H Q E) : vs.length = p_Turning_note.length := by
  repeat (first | (obtain ⟨rfl, _⟩ := h; rfl) | (obtain ⟨_, h⟩ := h))
theorem len_Turning_spots (h : sp_Turning_spots G vs H Q E) : vs.length = p_Turning_spots.length := by
  repeat (first | (obtain ⟨rfl, _⟩ := h; rfl) | (obtain ⟨_, h⟩ := h))
theorem len_Turning_is_end (h : sp_Turning_is_end G vs H Q E) : vs.length = p_Turning_is_end.length := by
  repeat (first | (obtain ⟨rfl, _⟩ := h; rfl) | (obtain ⟨_, h⟩ := h))
theorem len_Turning_closed (h : sp_Turning_closed G vs H Q E) : vs.length = p_Turning_closed.length := by
  repeat (first | (obtain ⟨rfl, _⟩ := h; rfl) | (obtain ⟨_, h⟩ := h))
theorem len_Turning_leads (h : sp_Turning_leads G vs H Q E) : vs.length = p_Turning_leads.length := by
  repeat (first | (obtain ⟨rfl, _⟩ := h; rfl) | (obtain ⟨_, h⟩ := h))
theorem len_Turning_least_byte (h : sp_Turning_least_byte G vs H Q E) : vs.length = p_Turning_least_byte.length := by
  repeat (first | (obtain ⟨rfl, _⟩ := h; rfl) | (obtain ⟨_, h⟩ := h))
theorem len_come_to (h : sp_come_to G vs H Q E) : vs.length = p_come_to.length := by
  repeat (first | (obtain ⟨rfl, _⟩ := h; rfl) | (obtain ⟨_, h⟩ := h))
theorem len_reached_spots (h : sp_reached_spots G vs H Q E) : vs.length = p_reached_spots.length := by
  repeat (first | (obtain ⟨rfl, _⟩ := h; rfl) | (obtain ⟨_, h⟩ := h))
theorem len_told (h : sp_told G vs H Q E) : vs.length = p_told.length := by
  repeat (first | (obtain ⟨rfl, _⟩ := h; rfl) | (obtain ⟨_, h⟩ := h))
theorem len_is_written (h : sp_is_written G vs H Q E) : vs.length = p_is_written.length := by
  repeat (first | (obtain ⟨rfl, _⟩ := h; rfl) | (obtain ⟨_, h⟩ := h))
theorem len_Desk_init (h : sp_Desk_init G vs H Q E) : vs.length = p_Desk_init.length := by
  repeat (first | (obtain ⟨rfl, _⟩ := h; rfl) | (obtain ⟨_, h⟩ := h))
theorem len_Desk_refusal (h : sp_Desk_refusal G vs H Q E) : vs.length = p_Desk_refusal.length := by
  repeat (first | (obtain ⟨rfl, _⟩ := h; rfl) | (obtain ⟨_, h⟩ := h))
theorem len_Turning_init (h : sp_Turning_init G vs H Q E) : vs.length = p_Turning_init.length := by
  repeat (first | (obtain ⟨rfl, _⟩ := h; rfl) | (obtain ⟨_, h⟩ := h))
theorem len_Turning_begin (h : sp_Turning_begin G vs H Q E) : vs.length = p_Turning_begin.length := by
  repeat (first | (obtain ⟨rfl, _⟩ := h; rfl) | (obtain ⟨_, h⟩ := h))
theorem len_Turning_step (h : sp_Turning_step G vs H Q E) : vs.length = p_Turning_step.length := by
  repeat (first | (obtain ⟨rfl, _⟩ := h; rfl) | (obtain ⟨_, h⟩ := h))
theorem len_Turning_has_end (h : sp_Turning_has_end G vs H Q E) : vs.length = p_Turning_has_end.length := by
  repeat (first | (obtain ⟨rfl, _⟩ := h; rfl) | (obtain ⟨_, h⟩ := h))
theorem len_circling_states (h : sp_circling_states G vs H Q E) : vs.length = p_circling_states.length := by
  repeat (first | (obtain ⟨rfl, _⟩ := h; rfl) | (obtain ⟨_, h⟩ := h))
theorem len_leads_to_end (h : sp_leads_to_end G vs H Q E) : vs.length = p_leads_to_end.length := by
  repeat (first | (obtain ⟨rfl, _⟩ := h; rfl) | (obtain ⟨_, h⟩ := h))
theorem len_told_word (h : sp_told_word G vs H Q E) : vs.length = p_told_word.length := by
  repeat (first | (obtain ⟨rfl, _⟩ := h; rfl) | (obtain ⟨_, h⟩ := h))
theorem len_numbers_of_two (h : sp_numbers_of_two G vs H Q E) : vs.length = p_numbers_of_two.length := by
  repeat (first | (obtain ⟨rfl, _⟩ := h; rfl) | (obtain ⟨_, h⟩ := h))
theorem len_Desk_state (h : sp_Desk_state G vs H Q E) : vs.length = p_Desk_state.length := by
  repeat (first | (obtain ⟨rfl, _⟩ := h; rfl) | (obtain ⟨_, h⟩ := h))
theorem len_Desk_final (h : sp_Desk_final G vs H Q E) : vs.length = p_Desk_final.length := by
  repeat (first | (obtain ⟨rfl, _⟩ := h; rfl) | (obtain ⟨_, h⟩ := h))
theorem len_Desk_arc (h : sp_Desk_arc G vs H Q E) : vs.length = p_Desk_arc.length := by
  repeat (first | (obtain ⟨rfl, _⟩ := h; rfl) | (obtain ⟨_, h⟩ := h))
theorem len_Desk_turn (h : sp_Desk_turn G vs H Q E) : vs.length = p_Desk_turn.length := by
  repeat (first | (obtain ⟨rfl, _⟩ := h; rfl) | (obtain ⟨_, h⟩ := h))
theorem len_Desk_size (h : sp_Desk_size G vs H Q E) : vs.length = p_Desk_size.length := by
  repeat (first | (obtain ⟨rfl, _⟩ := h; rfl) | (obtain ⟨_, h⟩ := h))
theorem len_new_net (h : sp_new_net G vs H Q E) : vs.length = p_new_net.length := by
  repeat (first | (obtain ⟨rfl, _⟩ := h; rfl) | (obtain ⟨_, h⟩ := h))
theorem len_join (h : sp_join G vs H Q E) : vs.length = p_join.length := by
  repeat (first | (obtain ⟨rfl, _⟩ := h; rfl) | (obtain ⟨_, h⟩ := h))
theorem len_follow (h : sp_follow G vs H Q E) : vs.length = p_follow.length := by
  repeat (first | (obtain ⟨rfl, _⟩ := h; rfl) | (obtain ⟨_, h⟩ := h))
theorem len_again (h : sp_again G vs H Q E) : vs.length = p_again.length := by
  repeat (first | (obtain ⟨rfl, _⟩ := h; rfl) | (obtain ⟨_, h⟩ := h))
theorem len_behind (h : sp_behind G vs H Q E) : vs.length = p_behind.length := by
  repeat (first | (obtain ⟨rfl, _⟩ := h; rfl) | (obtain ⟨_, h⟩ := h))
theorem len_keep (h : sp_keep G vs H Q E) : vs.length = p_keep.length := by
  repeat (first | (obtain ⟨rfl, _⟩ := h; rfl) | (obtain ⟨_, h⟩ := h))
theorem len_Turning_lengths (h : sp_Turning_lengths G vs H Q E) : vs.length = p_Turning_lengths.length := by
  repeat (first | (obtain ⟨rfl, _⟩ := h; rfl) | (obtain ⟨_, h⟩ := h))
theorem len_Answers_least_rest (h : sp_Answers_least_rest G vs H Q E) : vs.length = p_Answers_least_rest.length := by
  repeat (first | (obtain ⟨rfl, _⟩ := h; rfl) | (obtain ⟨_, h⟩ := h))
theorem len_Answers_spots_along (h : sp_Answers_spots_along G vs H Q E) : vs.length = p_Answers_spots_along.length := by
  repeat (first | (obtain ⟨rfl, _⟩ := h; rfl) | (obtain ⟨_, h⟩ := h))
theorem len_Answers_init (h : sp_Answers_init G vs H Q E) : vs.length = p_Answers_init.length := by
  repeat (first | (obtain ⟨rfl, _⟩ := h; rfl) | (obtain ⟨_, h⟩ := h))
theorem len_Answers_first_from (h : sp_Answers_first_from G vs H Q E) : vs.length = p_Answers_first_from.length := by
  repeat (first | (obtain ⟨rfl, _⟩ := h; rfl) | (obtain ⟨_, h⟩ := h))
theorem len_Answers_holds (h : sp_Answers_holds G vs H Q E) : vs.length = p_Answers_holds.length := by
  repeat (first | (obtain ⟨rfl, _⟩ := h; rfl) | (obtain ⟨_, h⟩ := h))
theorem len_is_endless (h : sp_is_endless G vs H Q E) : vs.length = p_is_endless.length := by
  repeat (first | (obtain ⟨rfl, _⟩ := h; rfl) | (obtain ⟨_, h⟩ := h))
theorem len_made_of_two (h : sp_made_of_two G vs H Q E) : vs.length = p_made_of_two.length := by
  repeat (first | (obtain ⟨rfl, _⟩ := h; rfl) | (obtain ⟨_, h⟩ := h))
theorem len_Desk_new (h : sp_Desk_new G vs H Q E) : vs.length = p_Desk_new.length := by
  repeat (first | (obtain ⟨rfl, _⟩ := h; rfl) | (obtain ⟨_, h⟩ := h))
theorem len_Desk_of_one (h : sp_Desk_of_one G vs H Q E) : vs.length = p_Desk_of_one.length := by
  repeat (first | (obtain ⟨rfl, _⟩ := h; rfl) | (obtain ⟨_, h⟩ := h))
theorem len_Answers_next_after (h : sp_Answers_next_after G vs H Q E) : vs.length = p_Answers_next_after.length := by
  repeat (first | (obtain ⟨rfl, _⟩ := h; rfl) | (obtain ⟨_, h⟩ := h))
theorem len_Desk_of_two (h : sp_Desk_of_two G vs H Q E) : vs.length = p_Desk_of_two.length := by
  repeat (first | (obtain ⟨rfl, _⟩ := h; rfl) | (obtain ⟨_, h⟩ := h))
theorem len_Desk_endless (h : sp_Desk_endless G vs H Q E) : vs.length = p_Desk_endless.length := by
  repeat (first | (obtain ⟨rfl, _⟩ := h; rfl) | (obtain ⟨_, h⟩ := h))
theorem len_Desk_next_word (h : sp_Desk_next_word G vs H Q E) : vs.length = p_Desk_next_word.length := by
  repeat (first | (obtain ⟨rfl, _⟩ := h; rfl) | (obtain ⟨_, h⟩ := h))
theorem len_Desk_later (h : sp_Desk_later G vs H Q E) : vs.length = p_Desk_later.length := by
  repeat (first | (obtain ⟨rfl, _⟩ := h; rfl) | (obtain ⟨_, h⟩ := h))
theorem len_Desk_holds (h : sp_Desk_holds G vs H Q E) : vs.length = p_Desk_holds.length := by
  repeat (first | (obtain ⟨rfl, _⟩ := h; rfl) | (obtain ⟨_, h⟩ := h))
theorem len_making (h : sp_making G vs H Q E) : vs.length = p_making.length := by
  repeat (first | (obtain ⟨rfl, _⟩ := h; rfl) | (obtain ⟨_, h⟩ := h))
theorem len_of_words (h : sp_of_words G vs H Q E) : vs.length = p_of_words.length := by
  repeat (first | (obtain ⟨rfl, _⟩ := h; rfl) | (obtain ⟨_, h⟩ := h))
theorem len_of_place (h : sp_of_place G vs H Q E) : vs.length = p_of_place.length := by
  repeat (first | (obtain ⟨rfl, _⟩ := h; rfl) | (obtain ⟨_, h⟩ := h))
theorem len_answers (h : sp_answers G vs H Q E) : vs.length = p_answers.length := by
  repeat (first | (obtain ⟨rfl, _⟩ := h; rfl) | (obtain ⟨_, h⟩ := h))
theorem ok_Machine_init {f : Addr} {fd : FuncData} (F : Fun G.K "__init__" "Machine.__init__" s_Machine_init f fd) (T : Txt G mg)  : FnOk P w G.K mg base CX0 1 f fd p_Machine_init (sp_Machine_init G) :=
  F.ok sc_Machine_init (fun vs H Q E h => len_Machine_init h) (fun cdv A outer s H vs Q E hr h => ⟨t_Machine_init G, tie_Machine_init T  hr, pure_Machine_init T h⟩)
theorem ok_Machine_has_state {f : Addr} {fd : FuncData} (F : Fun G.K "has_state" "Machine.has_state" s_Machine_has_state f fd) (T : Txt G mg)  : FnOk P w G.K mg base CX0 1 f fd p_Machine_has_state (sp_Machine_has_state G) :=
  F.ok sc_Machine_has_state (fun vs H Q E h => len_Machine_has_state h) (fun cdv A outer s H vs Q E hr h => ⟨t_Machine_has_state G, tie_Machine_has_state T  hr, pure_Machine_has_state T h⟩)
theorem ok_Machine_add_state {f : Addr} {fd : FuncData} (F : Fun G.K "add_state" "Machine.add_state" s_Machine_add_state f fd) (T : Txt G mg)  : FnOk P w G.K mg base CX0 1 f fd p_Machine_add_state (sp_Machine_add_state G) :=
  F.ok sc_Machine_add_state (fun vs H Q E h => len_Machine_add_state h) (fun cdv A outer s H vs Q E hr h => ⟨t_Machine_add_state G, tie_Machine_add_state T  hr, pure_Machine_add_state T h⟩)
theorem ok_Machine_add_arc {f : Addr} {fd : FuncData} (F : Fun G.K "add_arc" "Machine.add_arc" s_Machine_add_arc f fd) (T : Txt G mg)  : FnOk P w G.K mg base CX0 1 f fd p_Machine_add_arc (sp_Machine_add_arc G) :=
  F.ok sc_Machine_add_arc (fun vs H Q E h => len_Machine_add_arc h) (fun cdv A outer s H vs Q E hr h => ⟨t_Machine_add_arc G, tie_Machine_add_arc T  hr, pure_Machine_add_arc T h⟩)
theorem ok_Machine_set_final {f : Addr} {fd : FuncData} (F : Fun G.K "set_final" "Machine.set_final" s_Machine_set_final f fd) (T : Txt G mg)  : FnOk P w G.K mg base CX0 1 f fd p_Machine_set_final (sp_Machine_set_final G) :=
  F.ok sc_Machine_set_final (fun vs H Q E h => len_Machine_set_final h) (fun cdv A outer s H vs Q E hr h => ⟨t_Machine_set_final G, tie_Machine_set_final T  hr, pure_Machine_set_final T h⟩)
theorem ok_Machine_turn {f : Addr} {fd : FuncData} (F : Fun G.K "turn" "Machine.turn" s_Machine_turn f fd) (T : Txt G mg)  : FnOk P w G.K mg base CX0 1 f fd p_Machine_turn (sp_Machine_turn G) :=
  F.ok sc_Machine_turn (fun vs H Q E h => len_Machine_turn h) (fun cdv A outer s H vs Q E hr h => ⟨t_Machine_turn G, tie_Machine_turn T  hr, pure_Machine_turn T h⟩)
theorem ok_moved {f : Addr} {fd : FuncData} (F : Fun G.K "moved" "moved" s_moved f fd) (T : Txt G mg)  : FnOk P w G.K mg base CX0 1 f fd p_moved (sp_moved G) :=
  F.ok sc_moved (fun vs H Q E h => len_moved h) (fun cdv A outer s H vs Q E hr h => ⟨t_moved G, tie_moved T  hr, pure_moved T h⟩)
theorem ok_is_too_great {f : Addr} {fd : FuncData} (F : Fun G.K "is_too_great" "is_too_great" s_is_too_great f fd) (T : Txt G mg)  : FnOk P w G.K mg base CX0 1 f fd p_is_too_great (sp_is_too_great G) :=
  F.ok sc_is_too_great (fun vs H Q E h => len_is_too_great h) (fun cdv A outer s H vs Q E hr h => ⟨t_is_too_great G, tie_is_too_great T  hr, pure_is_too_great T h⟩)
theorem ok_finished {f : Addr} {fd : FuncData} (F : Fun G.K "finished" "finished" s_finished f fd) (T : Txt G mg)  : FnOk P w G.K mg base CX0 1 f fd p_finished (sp_finished G) :=
  F.ok sc_finished (fun vs H Q E h => len_finished h) (fun cdv A outer s H vs Q E hr h => ⟨t_finished G, tie_finished T  hr, pure_finished T h⟩)
theorem ok_join_numbers {f : Addr} {fd : FuncData} (F : Fun G.K "join_numbers" "join_numbers" s_join_numbers f fd) (T : Txt G mg)  : FnOk P w G.K mg base CX0 1 f fd p_join_numbers (sp_join_numbers G) :=
  F.ok sc_join_numbers (fun vs H Q E h => len_join_numbers h) (fun cdv A outer s H vs Q E hr h => ⟨t_join_numbers G, tie_join_numbers T  hr, pure_join_numbers T h⟩)
theorem ok_follow_numbers {f : Addr} {fd : FuncData} (F : Fun G.K "follow_numbers" "follow_numbers" s_follow_numbers f fd) (T : Txt G mg)  : FnOk P w G.K mg base CX0 1 f fd p_follow_numbers (sp_follow_numbers G) :=
  F.ok sc_follow_numbers (fun vs H Q E h => len_follow_numbers h) (fun cdv A outer s H vs Q E hr h => ⟨t_follow_numbers G, tie_follow_numbers T  hr, pure_follow_numbers T h⟩)
theorem ok_again_numbers {f : Addr} {fd : FuncData} (F : Fun G.K "again_numbers" "again_numbers" s_again_numbers f fd) (T : Txt G mg)  : FnOk P w G.K mg base CX0 1 f fd p_again_numbers (sp_again_numbers G) :=
  F.ok sc_again_numbers (fun vs H Q E h => len_again_numbers h) (fun cdv A outer s H vs Q E hr h => ⟨t_again_numbers G, tie_again_numbers T  hr, pure_again_numbers T h⟩)
theorem ok_behind_numbers {f : Addr} {fd : FuncData} (F : Fun G.K "behind_numbers" "behind_numbers" s_behind_numbers f fd) (T : Txt G mg)  : FnOk P w G.K mg base CX0 1 f fd p_behind_numbers (sp_behind_numbers G) :=
  F.ok sc_behind_numbers (fun vs H Q E h => len_behind_numbers h) (fun cdv A outer s H vs Q E hr h => ⟨t_behind_numbers G, tie_behind_numbers T  hr, pure_behind_numbers T h⟩)
theorem ok_behind_arcs {f : Addr} {fd : FuncData} (F : Fun G.K "behind_arcs" "behind_arcs" s_behind_arcs f fd) (T : Txt G mg)  : FnOk P w G.K mg base CX0 1 f fd p_behind_arcs (sp_behind_arcs G) :=
  F.ok sc_behind_arcs (fun vs H Q E h => len_behind_arcs h) (fun cdv A outer s H vs Q E hr h => ⟨t_behind_arcs G, tie_behind_arcs T  hr, pure_behind_arcs T h⟩)
theorem ok_Turning_note {f : Addr} {fd : FuncData} (F : Fun G.K "note" "Turning.note" s_Turning_note f fd) (T : Txt G mg)  : FnOk P w G.K mg base CX0 1 f fd p_Turning_note (sp_Turning_note G) :=
  F.ok sc_Turning_note (fun vs H Q E h => len_Turning_note h) (fun cdv A outer s H vs Q E hr h => ⟨t_Turning_note G, tie_Turning_note T  hr, pure_Turning_note T h⟩)
theorem ok_Turning_spots {f : Addr} {fd : FuncData} (F : Fun G.K "spots" "Turning.spots" s_Turning_spots f fd) (T : Txt G mg)  : FnOk P w G.K mg base CX0 1 f fd p_Turning_spots (sp_Turning_spots G) :=
  F.ok sc_Turning_spots (fun vs H Q E h => len_Turning_spots h) (fun cdv A outer s H vs Q E hr h => ⟨t_Turning_spots G, tie_Turning_spots T  hr, pure_Turning_spots T h⟩)
theorem ok_Turning_is_end {f : Addr} {fd : FuncData} (F : Fun G.K "is_end" "Turning.is_end" s_Turning_is_end f fd) (T : Txt G mg)  : FnOk P w G.K mg base CX0 1 f fd p_Turning_is_end (sp_Turning_is_end G) :=
  F.ok sc_Turning_is_end (fun vs H Q E h => len_Turning_is_end h) (fun cdv A outer s H vs Q E hr h => ⟨t_Turning_is_end G, tie_Turning_is_end T  hr, pure_Turning_is_end T h⟩)
theorem ok_Turning_closed {f : Addr} {fd : FuncData} (F : Fun G.K "closed" "Turning.closed" s_Turning_closed f fd) (T : Txt G mg)  : FnOk P w G.K mg base CX0 1 f fd p_Turning_closed (sp_Turning_closed G) :=
  F.ok sc_Turning_closed (fun vs H Q E h => len_Turning_closed h) (fun cdv A outer s H vs Q E hr h => ⟨t_Turning_closed G, tie_Turning_closed T  hr, pure_Turning_closed T h⟩)
theorem ok_Turning_leads {f : Addr} {fd : FuncData} (F : Fun G.K "leads" "Turning.leads" s_Turning_leads f fd) (T : Txt G mg)  : FnOk P w G.K mg base CX0 1 f fd p_Turning_leads (sp_Turning_leads G) :=
  F.ok sc_Turning_leads (fun vs H Q E h => len_Turning_leads h) (fun cdv A outer s H vs Q E hr h => ⟨t_Turning_leads G, tie_Turning_leads T  hr, pure_Turning_leads T h⟩)
theorem ok_Turning_least_byte {f : Addr} {fd : FuncData} (F : Fun G.K "least_byte" "Turning.least_byte" s_Turning_least_byte f fd) (T : Txt G mg)  : FnOk P w G.K mg base CX0 1 f fd p_Turning_least_byte (sp_Turning_least_byte G) :=
  F.ok sc_Turning_least_byte (fun vs H Q E h => len_Turning_least_byte h) (fun cdv A outer s H vs Q E hr h => ⟨t_Turning_least_byte G, tie_Turning_least_byte T  hr, pure_Turning_least_byte T h⟩)
theorem ok_come_to {f : Addr} {fd : FuncData} (F : Fun G.K "come_to" "come_to" s_come_to f fd) (T : Txt G mg)  : FnOk P w G.K mg base CX0 1 f fd p_come_to (sp_come_to G) :=
  F.ok sc_come_to (fun vs H Q E h => len_come_to h) (fun cdv A outer s H vs Q E hr h => ⟨t_come_to G, tie_come_to T  hr, pure_come_to T h⟩)
theorem ok_reached_spots {f : Addr} {fd : FuncData} (F : Fun G.K "reached_spots" "reached_spots" s_reached_spots f fd) (T : Txt G mg)  : FnOk P w G.K mg base CX0 1 f fd p_reached_spots (sp_reached_spots G) :=
  F.ok sc_reached_spots (fun vs H Q E h => len_reached_spots h) (fun cdv A outer s H vs Q E hr h => ⟨t_reached_spots G, tie_reached_spots T  hr, pure_reached_spots T h⟩)
theorem ok_told {f : Addr} {fd : FuncData} (F : Fun G.K "told" "told" s_told f fd) (T : Txt G mg)  : FnOk P w G.K mg base CX0 1 f fd p_told (sp_told G) :=
  F.ok sc_told (fun vs H Q E h => len_told h) (fun cdv A outer s H vs Q E hr h => ⟨t_told G, tie_told T  hr, pure_told T h⟩)
theorem ok_is_written {f : Addr} {fd : FuncData} (F : Fun G.K "is_written" "is_written" s_is_written f fd) (T : Txt G mg)  : FnOk P w G.K mg base CX0 1 f fd p_is_written (sp_is_written G) :=
  F.ok sc_is_written (fun vs H Q E h => len_is_written h) (fun cdv A outer s H vs Q E hr h => ⟨t_is_written G, tie_is_written T  hr, pure_is_written T h⟩)
theorem ok_Desk_init {f : Addr} {fd : FuncData} (F : Fun G.K "__init__" "Desk.__init__" s_Desk_init f fd) (T : Txt G mg)  : FnOk P w G.K mg base CX0 1 f fd p_Desk_init (sp_Desk_init G) :=
  F.ok sc_Desk_init (fun vs H Q E h => len_Desk_init h) (fun cdv A outer s H vs Q E hr h => ⟨t_Desk_init G, tie_Desk_init T  hr, pure_Desk_init T h⟩)
theorem ok_Desk_refusal {f : Addr} {fd : FuncData} (F : Fun G.K "refusal" "Desk.refusal" s_Desk_refusal f fd) (T : Txt G mg)  : FnOk P w G.K mg base CX0 1 f fd p_Desk_refusal (sp_Desk_refusal G) :=
  F.ok sc_Desk_refusal (fun vs H Q E h => len_Desk_refusal h) (fun cdv A outer s H vs Q E hr h => ⟨t_Desk_refusal G, tie_Desk_refusal T  hr, pure_Desk_refusal T h⟩)
theorem ok_Turning_init {f : Addr} {fd : FuncData} (F : Fun G.K "__init__" "Turning.__init__" s_Turning_init f fd) (T : Txt G mg) (h_Turning_note : CalM P w G.K mg base G.cT "note" 1 p_Turning_note (sp_Turning_note G)) : FnOk P w G.K mg base CX0 2 f fd p_Turning_init (sp_Turning_init G) :=
  F.ok sc_Turning_init (fun vs H Q E h => len_Turning_init h) (fun cdv A outer s H vs Q E hr h => ⟨t_Turning_init G, tie_Turning_init T h_Turning_note hr, pure_Turning_init T h⟩)
theorem ok_Turning_begin {f : Addr} {fd : FuncData} (F : Fun G.K "begin" "Turning.begin" s_Turning_begin f fd) (T : Txt G mg) (h_Turning_closed : CalM P w G.K mg base G.cT "closed" 1 p_Turning_closed (sp_Turning_closed G)) : FnOk P w G.K mg base CX0 2 f fd p_Turning_begin (sp_Turning_begin G) :=
  F.ok sc_Turning_begin (fun vs H Q E h => len_Turning_begin h) (fun cdv A outer s H vs Q E hr h => ⟨t_Turning_begin G, tie_Turning_begin T h_Turning_closed hr, pure_Turning_begin T h⟩)
theorem ok_Turning_step {f : Addr} {fd : FuncData} (F : Fun G.K "step" "Turning.step" s_Turning_step f fd) (T : Txt G mg) (h_Turning_closed : CalM P w G.K mg base G.cT "closed" 1 p_Turning_closed (sp_Turning_closed G)) : FnOk P w G.K mg base CX0 2 f fd p_Turning_step (sp_Turning_step G) :=
  F.ok sc_Turning_step (fun vs H Q E h => len_Turning_step h) (fun cdv A outer s H vs Q E hr h => ⟨t_Turning_step G, tie_Turning_step T h_Turning_closed hr, pure_Turning_step T h⟩)
theorem ok_Turning_has_end {f : Addr} {fd : FuncData} (F : Fun G.K "has_end" "Turning.has_end" s_Turning_has_end f fd) (T : Txt G mg) (h_Turning_is_end : CalM P w G.K mg base G.cT "is_end" 1 p_Turning_is_end (sp_Turning_is_end G)) : FnOk P w G.K mg base CX0 2 f fd p_Turning_has_end (sp_Turning_has_end G) :=
  F.ok sc_Turning_has_end (fun vs H Q E h => len_Turning_has_end h) (fun cdv A outer s H vs Q E hr h => ⟨t_Turning_has_end G, tie_Turning_has_end T h_Turning_is_end hr, pure_Turning_has_end T h⟩)
theorem ok_circling_states {f : Addr} {fd : FuncData} (F : Fun G.K "circling_states" "circling_states" s_circling_states f fd) (T : Txt G mg) (h_come_to : CalF P w G.K mg base "come_to" 1 p_come_to (sp_come_to G)) : FnOk P w G.K mg base CX0 2 f fd p_circling_states (sp_circling_states G) :=
  F.ok sc_circling_states (fun vs H Q E h => len_circling_states h) (fun cdv A outer s H vs Q E hr h => ⟨t_circling_states G, tie_circling_states T h_come_to hr, pure_circling_states T h⟩)
theorem ok_leads_to_end {f : Addr} {fd : FuncData} (F : Fun G.K "leads_to_end" "leads_to_end" s_leads_to_end f fd) (T : Txt G mg) (h_Turning_is_end : CalM P w G.K mg base G.cT "is_end" 1 p_Turning_is_end (sp_Turning_is_end G)) : FnOk P w G.K mg base CX0 2 f fd p_leads_to_end (sp_leads_to_end G) :=
  F.ok sc_leads_to_end (fun vs H Q E h => len_leads_to_end h) (fun cdv A outer s H vs Q E hr h => ⟨t_leads_to_end G, tie_leads_to_end T h_Turning_is_end hr, pure_leads_to_end T h⟩)
theorem ok_told_word {f : Addr} {fd : FuncData} (F : Fun G.K "told_word" "told_word" s_told_word f fd) (T : Txt G mg) (h_told : CalF P w G.K mg base "told" 1 p_told (sp_told G)) : FnOk P w G.K mg base CX0 2 f fd p_told_word (sp_told_word G) :=
  F.ok sc_told_word (fun vs H Q E h => len_told_word h) (fun cdv A outer s H vs Q E hr h => ⟨t_told_word G, tie_told_word T h_told hr, pure_told_word T h⟩)
theorem ok_numbers_of_two {f : Addr} {fd : FuncData} (F : Fun G.K "numbers_of_two" "numbers_of_two" s_numbers_of_two f fd) (T : Txt G mg) (h_join_numbers : CalF P w G.K mg base "join_numbers" 1 p_join_numbers (sp_join_numbers G)) (h_follow_numbers : CalF P w G.K mg base "follow_numbers" 1 p_follow_numbers (sp_follow_numbers G)) (h_behind_numbers : CalF P w G.K mg base "behind_numbers" 1 p_behind_numbers (sp_behind_numbers G)) : FnOk P w G.K mg base CX0 2 f fd p_numbers_of_two (sp_numbers_of_two G) :=
  F.ok sc_numbers_of_two (fun vs H Q E h => len_numbers_of_two h) (fun cdv A outer s H vs Q E hr h => ⟨t_numbers_of_two G, tie_numbers_of_two T h_join_numbers h_follow_numbers h_behind_numbers hr, pure_numbers_of_two T h⟩)
theorem ok_Desk_state {f : Addr} {fd : FuncData} (F : Fun G.K "state" "Desk.state" s_Desk_state f fd) (T : Txt G mg) (h_Machine_add_state : CalM P w G.K mg base G.cM "add_state" 1 p_Machine_add_state (sp_Machine_add_state G)) : FnOk P w G.K mg base CX0 2 f fd p_Desk_state (sp_Desk_state G) :=
  F.ok sc_Desk_state (fun vs H Q E h => len_Desk_state h) (fun cdv A outer s H vs Q E hr h => ⟨t_Desk_state G, tie_Desk_state T h_Machine_add_state hr, pure_Desk_state T h⟩)
theorem ok_Desk_final {f : Addr} {fd : FuncData} (F : Fun G.K "final" "Desk.final" s_Desk_final f fd) (T : Txt G mg) (h_Machine_has_state : CalM P w G.K mg base G.cM "has_state" 1 p_Machine_has_state (sp_Machine_has_state G)) (h_Machine_set_final : CalM P w G.K mg base G.cM "set_final" 1 p_Machine_set_final (sp_Machine_set_final G)) : FnOk P w G.K mg base CX0 2 f fd p_Desk_final (sp_Desk_final G) :=
  F.ok sc_Desk_final (fun vs H Q E h => len_Desk_final h) (fun cdv A outer s H vs Q E hr h => ⟨t_Desk_final G, tie_Desk_final T h_Machine_has_state h_Machine_set_final hr, pure_Desk_final T h⟩)
theorem ok_Desk_arc {f : Addr} {fd : FuncData} (F : Fun G.K "arc" "Desk.arc" s_Desk_arc f fd) (T : Txt G mg) (h_Machine_has_state : CalM P w G.K mg base G.cM "has_state" 1 p_Machine_has_state (sp_Machine_has_state G)) (h_is_written : CalF P w G.K mg base "is_written" 1 p_is_written (sp_is_written G)) (h_Machine_add_arc : CalM P w G.K mg base G.cM "add_arc" 1 p_Machine_add_arc (sp_Machine_add_arc G)) : FnOk P w G.K mg base CX0 2 f fd p_Desk_arc (sp_Desk_arc G) :=
  F.ok sc_Desk_arc (fun vs H Q E h => len_Desk_arc h) (fun cdv A outer s H vs Q E hr h => ⟨t_Desk_arc G, tie_Desk_arc T h_Machine_has_state h_is_written h_Machine_add_arc hr, pure_Desk_arc T h⟩)
theorem ok_Desk_turn {f : Addr} {fd : FuncData} (F : Fun G.K "turn" "Desk.turn" s_Desk_turn f fd) (T : Txt G mg) (h_Machine_turn : CalM P w G.K mg base G.cM "turn" 1 p_Machine_turn (sp_Machine_turn G)) : FnOk P w G.K mg base CX0 2 f fd p_Desk_turn (sp_Desk_turn G) :=
  F.ok sc_Desk_turn (fun vs H Q E h => len_Desk_turn h) (fun cdv A outer s H vs Q E hr h => ⟨t_Desk_turn G, tie_Desk_turn T h_Machine_turn hr, pure_Desk_turn T h⟩)
theorem ok_Desk_size {f : Addr} {fd : FuncData} (F : Fun G.K "size" "Desk.size" s_Desk_size f fd) (T : Txt G mg) (h_told : CalF P w G.K mg base "told" 1 p_told (sp_told G)) : FnOk P w G.K mg base CX0 2 f fd p_Desk_size (sp_Desk_size G) :=
  F.ok sc_Desk_size (fun vs H Q E h => len_Desk_size h) (fun cdv A outer s H vs Q E hr h => ⟨t_Desk_size G, tie_Desk_size T h_told hr, pure_Desk_size T h⟩)
theorem ok_new_net {f : Addr} {fd : FuncData} (F : Fun G.K "new_net" "new_net" s_new_net f fd) (T : Txt G mg) (h_Machine : CalC P w G.K mg base "Machine" G.cM 1 p_Machine_init (sp_Machine_init G)) : FnOk P w G.K mg base CX0 3 f fd p_new_net (sp_new_net G) :=
  F.ok sc_new_net (fun vs H Q E h => len_new_net h) (fun cdv A outer s H vs Q E hr h => ⟨t_new_net G, tie_new_net T h_Machine hr, pure_new_net T h⟩)
theorem ok_join {f : Addr} {fd : FuncData} (F : Fun G.K "join" "join" s_join f fd) (T : Txt G mg) (h_moved : CalF P w G.K mg base "moved" 1 p_moved (sp_moved G)) (h_finished : CalF P w G.K mg base "finished" 1 p_finished (sp_finished G)) (h_Machine : CalC P w G.K mg base "Machine" G.cM 1 p_Machine_init (sp_Machine_init G)) (h_join_numbers : CalF P w G.K mg base "join_numbers" 1 p_join_numbers (sp_join_numbers G)) : FnOk P w G.K mg base CX0 3 f fd p_join (sp_join G) :=
  F.ok sc_join (fun vs H Q E h => len_join h) (fun cdv A outer s H vs Q E hr h => ⟨t_join G, tie_join T h_moved h_finished h_Machine h_join_numbers hr, pure_join T h⟩)
theorem ok_follow {f : Addr} {fd : FuncData} (F : Fun G.K "follow" "follow" s_follow f fd) (T : Txt G mg) (h_moved : CalF P w G.K mg base "moved" 1 p_moved (sp_moved G)) (h_finished : CalF P w G.K mg base "finished" 1 p_finished (sp_finished G)) (h_Machine : CalC P w G.K mg base "Machine" G.cM 1 p_Machine_init (sp_Machine_init G)) (h_follow_numbers : CalF P w G.K mg base "follow_numbers" 1 p_follow_numbers (sp_follow_numbers G)) : FnOk P w G.K mg base CX0 3 f fd p_follow (sp_follow G) :=
  F.ok sc_follow (fun vs H Q E h => len_follow h) (fun cdv A outer s H vs Q E hr h => ⟨t_follow G, tie_follow T h_moved h_finished h_Machine h_follow_numbers hr, pure_follow T h⟩)
theorem ok_again {f : Addr} {fd : FuncData} (F : Fun G.K "again" "again" s_again f fd) (T : Txt G mg) (h_moved : CalF P w G.K mg base "moved" 1 p_moved (sp_moved G)) (h_finished : CalF P w G.K mg base "finished" 1 p_finished (sp_finished G)) (h_Machine : CalC P w G.K mg base "Machine" G.cM 1 p_Machine_init (sp_Machine_init G)) (h_again_numbers : CalF P w G.K mg base "again_numbers" 1 p_again_numbers (sp_again_numbers G)) : FnOk P w G.K mg base CX0 3 f fd p_again (sp_again G) :=
  F.ok sc_again (fun vs H Q E h => len_again h) (fun cdv A outer s H vs Q E hr h => ⟨t_again G, tie_again T h_moved h_finished h_Machine h_again_numbers hr, pure_again T h⟩)
theorem ok_behind {f : Addr} {fd : FuncData} (F : Fun G.K "behind" "behind" s_behind f fd) (T : Txt G mg) (h_finished : CalF P w G.K mg base "finished" 1 p_finished (sp_finished G)) (h_Machine : CalC P w G.K mg base "Machine" G.cM 1 p_Machine_init (sp_Machine_init G)) (h_behind_arcs : CalF P w G.K mg base "behind_arcs" 1 p_behind_arcs (sp_behind_arcs G)) (h_behind_numbers : CalF P w G.K mg base "behind_numbers" 1 p_behind_numbers (sp_behind_numbers G)) : FnOk P w G.K mg base CX0 3 f fd p_behind (sp_behind G) :=
  F.ok sc_behind (fun vs H Q E h => len_behind h) (fun cdv A outer s H vs Q E hr h => ⟨t_behind G, tie_behind T h_finished h_Machine h_behind_arcs h_behind_numbers hr, pure_behind T h⟩)
theorem ok_keep {f : Addr} {fd : FuncData} (F : Fun G.K "keep" "keep" s_keep f fd) (T : Txt G mg) (h_finished : CalF P w G.K mg base "finished" 1 p_finished (sp_finished G)) (h_Machine : CalC P w G.K mg base "Machine" G.cM 1 p_Machine_init (sp_Machine_init G)) : FnOk P w G.K mg base CX0 3 f fd p_keep (sp_keep G) :=
  F.ok sc_keep (fun vs H Q E h => len_keep h) (fun cdv A outer s H vs Q E hr h => ⟨t_keep G, tie_keep T h_finished h_Machine hr, pure_keep T h⟩)
theorem ok_Turning_lengths {f : Addr} {fd : FuncData} (F : Fun G.K "lengths" "Turning.lengths" s_Turning_lengths f fd) (T : Txt G mg) (h_Turning_spots : CalM P w G.K mg base G.cT "spots" 1 p_Turning_spots (sp_Turning_spots G)) (h_Turning_closed : CalM P w G.K mg base G.cT "closed" 1 p_Turning_closed (sp_Turning_closed G)) (h_Turning_has_end : CalM P w G.K mg base G.cT "has_end" 2 p_Turning_has_end (sp_Turning_has_end G)) (h_Turning_leads : CalM P w G.K mg base G.cT "leads" 1 p_Turning_leads (sp_Turning_leads G)) : FnOk P w G.K mg base CX0 3 f fd p_Turning_lengths (sp_Turning_lengths G) :=
  F.ok sc_Turning_lengths (fun vs H Q E h => len_Turning_lengths h) (fun cdv A outer s H vs Q E hr h => ⟨t_Turning_lengths G, tie_Turning_lengths T h_Turning_spots h_Turning_closed h_Turning_has_end h_Turning_leads hr, pure_Turning_lengths T h⟩)
theorem ok_Answers_least_rest {f : Addr} {fd : FuncData} (F : Fun G.K "least_rest" "Answers.least_rest" s_Answers_least_rest f fd) (T : Txt G mg) (h_Turning_least_byte : CalM P w G.K mg base G.cT "least_byte" 1 p_Turning_least_byte (sp_Turning_least_byte G)) (h_Turning_step : CalM P w G.K mg base G.cT "step" 2 p_Turning_step (sp_Turning_step G)) : FnOk P w G.K mg base CX0 3 f fd p_Answers_least_rest (sp_Answers_least_rest G) :=
  F.ok sc_Answers_least_rest (fun vs H Q E h => len_Answers_least_rest h) (fun cdv A outer s H vs Q E hr h => ⟨t_Answers_least_rest G, tie_Answers_least_rest T h_Turning_least_byte h_Turning_step hr, pure_Answers_least_rest T h⟩)
theorem ok_Answers_spots_along {f : Addr} {fd : FuncData} (F : Fun G.K "spots_along" "Answers.spots_along" s_Answers_spots_along f fd) (T : Txt G mg) (h_Turning_begin : CalM P w G.K mg base G.cT "begin" 2 p_Turning_begin (sp_Turning_begin G)) (h_Turning_step : CalM P w G.K mg base G.cT "step" 2 p_Turning_step (sp_Turning_step G)) : FnOk P w G.K mg base CX0 3 f fd p_Answers_spots_along (sp_Answers_spots_along G) :=
  F.ok sc_Answers_spots_along (fun vs H Q E h => len_Answers_spots_along h) (fun cdv A outer s H vs Q E hr h => ⟨t_Answers_spots_along G, tie_Answers_spots_along T h_Turning_begin h_Turning_step hr, pure_Answers_spots_along T h⟩)
theorem ok_Answers_init {f : Addr} {fd : FuncData} (F : Fun G.K "__init__" "Answers.__init__" s_Answers_init f fd) (T : Txt G mg) (h_Turning : CalC P w G.K mg base "Turning" G.cT 2 p_Turning_init (sp_Turning_init G)) (h_Turning_lengths : CalM P w G.K mg base G.cT "lengths" 3 p_Turning_lengths (sp_Turning_lengths G)) : FnOk P w G.K mg base CX0 4 f fd p_Answers_init (sp_Answers_init G) :=
  F.ok sc_Answers_init (fun vs H Q E h => len_Answers_init h) (fun cdv A outer s H vs Q E hr h => ⟨t_Answers_init G, tie_Answers_init T h_Turning h_Turning_lengths hr, pure_Answers_init T h⟩)
theorem ok_Answers_first_from {f : Addr} {fd : FuncData} (F : Fun G.K "first_from" "Answers.first_from" s_Answers_first_from f fd) (T : Txt G mg) (h_Answers_least_rest : CalM P w G.K mg base G.cA "least_rest" 3 p_Answers_least_rest (sp_Answers_least_rest G)) (h_Turning_begin : CalM P w G.K mg base G.cT "begin" 2 p_Turning_begin (sp_Turning_begin G)) : FnOk P w G.K mg base CX0 4 f fd p_Answers_first_from (sp_Answers_first_from G) :=
  F.ok sc_Answers_first_from (fun vs H Q E h => len_Answers_first_from h) (fun cdv A outer s H vs Q E hr h => ⟨t_Answers_first_from G, tie_Answers_first_from T h_Answers_least_rest h_Turning_begin hr, pure_Answers_first_from T h⟩)
theorem ok_Answers_holds {f : Addr} {fd : FuncData} (F : Fun G.K "holds" "Answers.holds" s_Answers_holds f fd) (T : Txt G mg) (h_Turning_has_end : CalM P w G.K mg base G.cT "has_end" 2 p_Turning_has_end (sp_Turning_has_end G)) (h_Answers_spots_along : CalM P w G.K mg base G.cA "spots_along" 3 p_Answers_spots_along (sp_Answers_spots_along G)) : FnOk P w G.K mg base CX0 4 f fd p_Answers_holds (sp_Answers_holds G) :=
  F.ok sc_Answers_holds (fun vs H Q E h => len_Answers_holds h) (fun cdv A outer s H vs Q E hr h => ⟨t_Answers_holds G, tie_Answers_holds T h_Turning_has_end h_Answers_spots_along hr, pure_Answers_holds T h⟩)
theorem ok_is_endless {f : Addr} {fd : FuncData} (F : Fun G.K "is_endless" "is_endless" s_is_endless f fd) (T : Txt G mg) (h_Turning : CalC P w G.K mg base "Turning" G.cT 2 p_Turning_init (sp_Turning_init G)) (h_circling_states : CalF P w G.K mg base "circling_states" 2 p_circling_states (sp_circling_states G)) (h_reached_spots : CalF P w G.K mg base "reached_spots" 1 p_reached_spots (sp_reached_spots G)) (h_leads_to_end : CalF P w G.K mg base "leads_to_end" 2 p_leads_to_end (sp_leads_to_end G)) : FnOk P w G.K mg base CX0 4 f fd p_is_endless (sp_is_endless G) :=
  F.ok sc_is_endless (fun vs H Q E h => len_is_endless h) (fun cdv A outer s H vs Q E hr h => ⟨t_is_endless G, tie_is_endless T h_Turning h_circling_states h_reached_spots h_leads_to_end hr, pure_is_endless T h⟩)
theorem ok_made_of_two {f : Addr} {fd : FuncData} (F : Fun G.K "made_of_two" "made_of_two" s_made_of_two f fd) (T : Txt G mg) (h_join : CalF P w G.K mg base "join" 3 p_join (sp_join G)) (h_follow : CalF P w G.K mg base "follow" 3 p_follow (sp_follow G)) (h_behind : CalF P w G.K mg base "behind" 3 p_behind (sp_behind G)) : FnOk P w G.K mg base CX0 4 f fd p_made_of_two (sp_made_of_two G) :=
  F.ok sc_made_of_two (fun vs H Q E h => len_made_of_two h) (fun cdv A outer s H vs Q E hr h => ⟨t_made_of_two G, tie_made_of_two T h_join h_follow h_behind hr, pure_made_of_two T h⟩)
theorem ok_Desk_new {f : Addr} {fd : FuncData} (F : Fun G.K "new" "Desk.new" s_Desk_new f fd) (T : Txt G mg) (h_new_net : CalF P w G.K mg base "new_net" 3 p_new_net (sp_new_net G)) : FnOk P w G.K mg base CX0 4 f fd p_Desk_new (sp_Desk_new G) :=
  F.ok sc_Desk_new (fun vs H Q E h => len_Desk_new h) (fun cdv A outer s H vs Q E hr h => ⟨t_Desk_new G, tie_Desk_new T h_new_net hr, pure_Desk_new T h⟩)
theorem ok_Desk_of_one {f : Addr} {fd : FuncData} (F : Fun G.K "of_one" "Desk.of_one" s_Desk_of_one f fd) (T : Txt G mg) (h_Desk_refusal : CalM P w G.K mg base G.cD "refusal" 1 p_Desk_refusal (sp_Desk_refusal G)) (h_keep : CalF P w G.K mg base "keep" 3 p_keep (sp_keep G)) (h_is_too_great : CalF P w G.K mg base "is_too_great" 1 p_is_too_great (sp_is_too_great G)) (h_again_numbers : CalF P w G.K mg base "again_numbers" 1 p_again_numbers (sp_again_numbers G)) (h_again : CalF P w G.K mg base "again" 3 p_again (sp_again G)) : FnOk P w G.K mg base CX0 4 f fd p_Desk_of_one (sp_Desk_of_one G) :=
  F.ok sc_Desk_of_one (fun vs H Q E h => len_Desk_of_one h) (fun cdv A outer s H vs Q E hr h => ⟨t_Desk_of_one G, tie_Desk_of_one T h_Desk_refusal h_keep h_is_too_great h_again_numbers h_again hr, pure_Desk_of_one T h⟩)
theorem ok_Answers_next_after {f : Addr} {fd : FuncData} (F : Fun G.K "next_after" "Answers.next_after" s_Answers_next_after f fd) (T : Txt G mg) (h_Answers_spots_along : CalM P w G.K mg base G.cA "spots_along" 3 p_Answers_spots_along (sp_Answers_spots_along G)) (h_Turning_least_byte : CalM P w G.K mg base G.cT "least_byte" 1 p_Turning_least_byte (sp_Turning_least_byte G)) (h_Answers_least_rest : CalM P w G.K mg base G.cA "least_rest" 3 p_Answers_least_rest (sp_Answers_least_rest G)) (h_Turning_step : CalM P w G.K mg base G.cT "step" 2 p_Turning_step (sp_Turning_step G)) (h_Answers_first_from : CalM P w G.K mg base G.cA "first_from" 4 p_Answers_first_from (sp_Answers_first_from G)) : FnOk P w G.K mg base CX0 5 f fd p_Answers_next_after (sp_Answers_next_after G) :=
  F.ok sc_Answers_next_after (fun vs H Q E h => len_Answers_next_after h) (fun cdv A outer s H vs Q E hr h => ⟨t_Answers_next_after G, tie_Answers_next_after T h_Answers_spots_along h_Turning_least_byte h_Answers_least_rest h_Turning_step h_Answers_first_from hr, pure_Answers_next_after T h⟩)
theorem ok_Desk_of_two {f : Addr} {fd : FuncData} (F : Fun G.K "of_two" "Desk.of_two" s_Desk_of_two f fd) (T : Txt G mg) (h_Desk_refusal : CalM P w G.K mg base G.cD "refusal" 1 p_Desk_refusal (sp_Desk_refusal G)) (h_is_too_great : CalF P w G.K mg base "is_too_great" 1 p_is_too_great (sp_is_too_great G)) (h_numbers_of_two : CalF P w G.K mg base "numbers_of_two" 2 p_numbers_of_two (sp_numbers_of_two G)) (h_made_of_two : CalF P w G.K mg base "made_of_two" 4 p_made_of_two (sp_made_of_two G)) : FnOk P w G.K mg base CX0 5 f fd p_Desk_of_two (sp_Desk_of_two G) :=
  F.ok sc_Desk_of_two (fun vs H Q E h => len_Desk_of_two h) (fun cdv A outer s H vs Q E hr h => ⟨t_Desk_of_two G, tie_Desk_of_two T h_Desk_refusal h_is_too_great h_numbers_of_two h_made_of_two hr, pure_Desk_of_two T h⟩)
theorem ok_Desk_endless {f : Addr} {fd : FuncData} (F : Fun G.K "endless" "Desk.endless" s_Desk_endless f fd) (T : Txt G mg) (h_is_endless : CalF P w G.K mg base "is_endless" 4 p_is_endless (sp_is_endless G)) : FnOk P w G.K mg base CX0 5 f fd p_Desk_endless (sp_Desk_endless G) :=
  F.ok sc_Desk_endless (fun vs H Q E h => len_Desk_endless h) (fun cdv A outer s H vs Q E hr h => ⟨t_Desk_endless G, tie_Desk_endless T h_is_endless hr, pure_Desk_endless T h⟩)
theorem ok_Desk_next_word {f : Addr} {fd : FuncData} (F : Fun G.K "next_word" "Desk.next_word" s_Desk_next_word f fd) (T : Txt G mg) (h_told_word : CalF P w G.K mg base "told_word" 2 p_told_word (sp_told_word G)) (h_Answers : CalC P w G.K mg base "Answers" G.cA 4 p_Answers_init (sp_Answers_init G)) (h_Answers_first_from : CalM P w G.K mg base G.cA "first_from" 4 p_Answers_first_from (sp_Answers_first_from G)) : FnOk P w G.K mg base CX0 6 f fd p_Desk_next_word (sp_Desk_next_word G) :=
  F.ok sc_Desk_next_word (fun vs H Q E h => len_Desk_next_word h) (fun cdv A outer s H vs Q E hr h => ⟨t_Desk_next_word G, tie_Desk_next_word T h_told_word h_Answers h_Answers_first_from hr, pure_Desk_next_word T h⟩)
theorem ok_Desk_later {f : Addr} {fd : FuncData} (F : Fun G.K "later" "Desk.later" s_Desk_later f fd) (T : Txt G mg) (h_told_word : CalF P w G.K mg base "told_word" 2 p_told_word (sp_told_word G)) (h_Answers : CalC P w G.K mg base "Answers" G.cA 4 p_Answers_init (sp_Answers_init G)) (h_Answers_next_after : CalM P w G.K mg base G.cA "next_after" 5 p_Answers_next_after (sp_Answers_next_after G)) : FnOk P w G.K mg base CX0 6 f fd p_Desk_later (sp_Desk_later G) :=
  F.ok sc_Desk_later (fun vs H Q E h => len_Desk_later h) (fun cdv A outer s H vs Q E hr h => ⟨t_Desk_later G, tie_Desk_later T h_told_word h_Answers h_Answers_next_after hr, pure_Desk_later T h⟩)
theorem ok_Desk_holds {f : Addr} {fd : FuncData} (F : Fun G.K "holds" "Desk.holds" s_Desk_holds f fd) (T : Txt G mg) (h_Answers : CalC P w G.K mg base "Answers" G.cA 4 p_Answers_init (sp_Answers_init G)) (h_Answers_holds : CalM P w G.K mg base G.cA "holds" 4 p_Answers_holds (sp_Answers_holds G)) : FnOk P w G.K mg base CX0 6 f fd p_Desk_holds (sp_Desk_holds G) :=
  F.ok sc_Desk_holds (fun vs H Q E h => len_Desk_holds h) (fun cdv A outer s H vs Q E hr h => ⟨t_Desk_holds G, tie_Desk_holds T h_Answers h_Answers_holds hr, pure_Desk_holds T h⟩)
theorem ok_making {f : Addr} {fd : FuncData} (F : Fun G.K "making" "making" s_making f fd) (T : Txt G mg) (h_Desk_new : CalM P w G.K mg base G.cD "new" 4 p_Desk_new (sp_Desk_new G)) (h_Desk_of_two : CalM P w G.K mg base G.cD "of_two" 5 p_Desk_of_two (sp_Desk_of_two G)) (h_Desk_of_one : CalM P w G.K mg base G.cD "of_one" 4 p_Desk_of_one (sp_Desk_of_one G)) : FnOk P w G.K mg base CX0 6 f fd p_making (sp_making G) :=
  F.ok sc_making (fun vs H Q E h => len_making h) (fun cdv A outer s H vs Q E hr h => ⟨t_making G, tie_making T h_Desk_new h_Desk_of_two h_Desk_of_one hr, pure_making T h⟩)
theorem ok_of_words {f : Addr} {fd : FuncData} (F : Fun G.K "of_words" "of_words" s_of_words f fd) (T : Txt G mg) (h_Desk_next_word : CalM P w G.K mg base G.cD "next_word" 6 p_Desk_next_word (sp_Desk_next_word G)) (h_Desk_later : CalM P w G.K mg base G.cD "later" 6 p_Desk_later (sp_Desk_later G)) (h_Desk_holds : CalM P w G.K mg base G.cD "holds" 6 p_Desk_holds (sp_Desk_holds G)) (h_Desk_endless : CalM P w G.K mg base G.cD "endless" 5 p_Desk_endless (sp_Desk_endless G)) : FnOk P w G.K mg base CX0 7 f fd p_of_words (sp_of_words G) :=
  F.ok sc_of_words (fun vs H Q E h => len_of_words h) (fun cdv A outer s H vs Q E hr h => ⟨t_of_words G, tie_of_words T h_Desk_next_word h_Desk_later h_Desk_holds h_Desk_endless hr, pure_of_words T h⟩)
theorem ok_of_place {f : Addr} {fd : FuncData} (F : Fun G.K "of_place" "of_place" s_of_place f fd) (T : Txt G mg) (h_Desk_refusal : CalM P w G.K mg base G.cD "refusal" 1 p_Desk_refusal (sp_Desk_refusal G)) (h_Desk_state : CalM P w G.K mg base G.cD "state" 2 p_Desk_state (sp_Desk_state G)) (h_Desk_final : CalM P w G.K mg base G.cD "final" 2 p_Desk_final (sp_Desk_final G)) (h_Desk_arc : CalM P w G.K mg base G.cD "arc" 2 p_Desk_arc (sp_Desk_arc G)) (h_Desk_turn : CalM P w G.K mg base G.cD "turn" 2 p_Desk_turn (sp_Desk_turn G)) (h_Desk_size : CalM P w G.K mg base G.cD "size" 2 p_Desk_size (sp_Desk_size G)) (h_of_words : CalF P w G.K mg base "of_words" 7 p_of_words (sp_of_words G)) : FnOk P w G.K mg base CX0 8 f fd p_of_place (sp_of_place G) :=
  F.ok sc_of_place (fun vs H Q E h => len_of_place h) (fun cdv A outer s H vs Q E hr h => ⟨t_of_place G, tie_of_place T h_Desk_refusal h_Desk_state h_Desk_final h_Desk_arc h_Desk_turn h_Desk_size h_of_words hr, pure_of_place T h⟩)
theorem ok_answers {f : Addr} {fd : FuncData} (F : Fun G.K "answers" "answers" s_answers f fd) (T : Txt G mg) (h_Desk : CalC P w G.K mg base "Desk" G.cD 1 p_Desk_init (sp_Desk_init G)) (h_making : CalF P w G.K mg base "making" 6 p_making (sp_making G)) (h_of_place : CalF P w G.K mg base "of_place" 8 p_of_place (sp_of_place G)) : FnOk P w G.K mg base CX0 9 f fd p_answers (sp_answers G) :=
  F.ok sc_answers (fun vs H Q E h => len_answers h) (fun cdv A outer s H vs Q E hr h => ⟨t_answers G, tie_answers T h_Desk h_making h_of_place hr, pure_answers T h⟩)
end
end Tw


/-! # What the head shows -/
namespace Tw
open PySem PySem.Spec PyProof.Rows L2 Evl
def tupOk (vs : List V) (o : Obj) : Bool := match o with
  | ⟨.type c, _, .seq its _, _⟩ => decide (c = "tuple") && (decide (its.size ≤ sizeLine) && He.relAll vs its.toList)
  | _ => false
theorem tupOk_ok {K : PySem.W.Frag} {a : Addr} {o : Obj} {vs : List V} (q : K.lookup a = some o) (h : tupOk vs o = true) (H : Hp) : SqT K H a vs := by
  obtain ⟨oc, od, dt, osl⟩ := o
  cases oc with
  | type c =>
    cases dt with
    | seq its n =>
      have h : (decide (c = "tuple") && (decide (its.size ≤ sizeLine) && He.relAll vs its.toList)) = true := h
      rw [Bool.and_eq_true, Bool.and_eq_true] at h
      obtain ⟨h1, h2, h3⟩ := h
      exact .inr ⟨_, its, n, q, congrArg Value.type (of_decide_eq_true h1), rfl, of_decide_eq_true h2, He.relAll_ok h3⟩
    | _ => cases h
  | _ => cases dt <;> cases h
def spTop (K : PySem.W.Frag) : Sp := sp_answers ⟨K, 0, 0, 0, 0, 0, 0⟩
theorem all_mk {P : Program} {w : World} {K : PySem.W.Frag} {h : Heap} {mg : Str → Option Value} {fa cM cT cA cD aN aL : Addr} {oN oL : Obj} {t_NOTHING : Tok} {t_MOST_STATES : Tok} {t_MOST_ARCS : Tok} {t_LONGEST : Tok} {t_PLACES : Tok} {t_JOIN : Tok} {t_FOLLOW : Tok} {t_NEW : Tok} {t_AGAIN : Tok} {f_Machine_init : Addr} {od_Machine_init an_Machine_init : Option Addr} {sl_Machine_init : Array (Option Value)} {oc_Machine_init kv_Machine_init dc_Machine_init pm_Machine_init cd_Machine_init ct_Machine_init : Value} {f_Machine_has_state : Addr} {od_Machine_has_state an_Machine_has_state : Option Addr} {sl_Machine_has_state : Array (Option Value)} {oc_Machine_has_state kv_Machine_has_state dc_Machine_has_state pm_Machine_has_state cd_Machine_has_state ct_Machine_has_state : Value} {f_Machine_add_state : Addr} {od_Machine_add_state an_Machine_add_state : Option Addr} {sl_Machine_add_state : Array (Option Value)} {oc_Machine_add_state kv_Machine_add_state dc_Machine_add_state pm_Machine_add_state cd_Machine_add_state ct_Machine_add_state : Value} {f_Machine_add_arc : Addr} {od_Machine_add_arc an_Machine_add_arc : Option Addr} {sl_Machine_add_arc : Array (Option Value)} {oc_Machine_add_arc kv_Machine_add_arc dc_Machine_add_arc pm_Machine_add_arc cd_Machine_add_arc ct_Machine_add_arc : Value} {f_Machine_set_final : Addr} {od_Machine_set_final an_Machine_set_final : Option Addr} {sl_Machine_set_final : Array (Option Value)} {oc_Machine_set_final kv_Machine_set_final dc_Machine_set_final pm_Machine_set_final cd_Machine_set_final ct_Machine_set_final : Value} {f_Machine_turn : Addr} {od_Machine_turn an_Machine_turn : Option Addr} {sl_Machine_turn : Array (Option Value)} {oc_Machine_turn kv_Machine_turn dc_Machine_turn pm_Machine_turn cd_Machine_turn ct_Machine_turn : Value} {f_moved : Addr} {od_moved an_moved : Option Addr} {sl_moved : Array (Option Value)} {oc_moved kv_moved dc_moved pm_moved cd_moved ct_moved : Value} {f_is_too_great : Addr} {od_is_too_great an_is_too_great : Option Addr} {sl_is_too_great : Array (Option Value)} {oc_is_too_great kv_is_too_great dc_is_too_great pm_is_too_great cd_is_too_great ct_is_too_great : Value} {f_finished : Addr} {od_finished an_finished : Option Addr} {sl_finished : Array (Option Value)} {oc_finished kv_finished dc_finished pm_finished cd_finished ct_finished : Value} {f_join_numbers : Addr} {od_join_numbers an_join_numbers : Option Addr} {sl_join_numbers : Array (Option Value)} {oc_join_numbers kv_join_numbers dc_join_numbers pm_join_numbers cd_join_numbers ct_join_numbers : Value} {f_follow_numbers : Addr} {od_follow_numbers an_follow_numbers : Option Addr} {sl_follow_numbers : Array (Option Value)} {oc_follow_numbers kv_follow_numbers dc_follow_numbers pm_follow_numbers cd_follow_numbers ct_follow_numbers : Value} {f_again_numbers : Addr} {od_again_numbers an_again_numbers : Option Addr} {sl_again_numbers : Array (Option Value)} {oc_again_numbers kv_again_numbers dc_again_numbers pm_again_numbers cd_again_numbers ct_again_numbers : Value} {f_behind_numbers : Addr} {od_behind_numbers an_behind_numbers : Option Addr} {sl_behind_numbers : Array (Option Value)} {oc_behind_numbers kv_behind_numbers dc_behind_numbers pm_behind_numbers cd_behind_numbers ct_behind_numbers : Value} {f_behind_arcs : Addr} {od_behind_arcs an_behind_arcs : Option Addr} {sl_behind_arcs : Array (Option Value)} {oc_behind_arcs kv_behind_arcs dc_behind_arcs pm_behind_arcs cd_behind_arcs ct_behind_arcs : Value} {f_Turning_note : Addr} {od_Turning_note an_Turning_note : Option Addr} {sl_Turning_note : Array (Option Value)} {oc_Turning_note kv_Turning_note dc_Turning_note pm_Turning_note cd_Turning_note ct_Turning_note : Value} {f_Turning_spots : Addr} {od_Turning_spots an_Turning_spots : Option Addr} {sl_Turning_spots : Array (Option Value)} {oc_Turning_spots kv_Turning_spots dc_Turning_spots pm_Turning_spots cd_Turning_spots ct_Turning_spots : Value} {f_Turning_is_end : Addr} {od_Turning_is_end an_Turning_is_end : Option Addr} {sl_Turning_is_end : Array (Option Value)} {oc_Turning_is_end kv_Turning_is_end dc_Turning_is_end pm_Turning_is_end cd_Turning_is_end ct_Turning_is_end : Value} {f_Turning_closed : Addr} {od_Turning_closed an_Turning_closed : Option Addr} {sl_Turning_closed : Array (Option Value)} {oc_Turning_closed kv_Turning_closed dc_Turning_closed pm_Turning_closed cd_Turning_closed ct_Turning_closed : Value} {f_Turning_leads : Addr} {od_Turning_leads an_Turning_leads : Option Addr} {sl_Turning_leads : Array (Option Value)} {oc_Turning_leads kv_Turning_leads dc_Turning_leads pm_Turning_leads cd_Turning_leads ct_Turning_leads : Value} {f_Turning_least_byte : Addr} {od_Turning_least_byte an_Turning_least_byte : Option Addr} {sl_Turning_least_byte : Array (Option Value)} {oc_Turning_least_byte kv_Turning_least_byte dc_Turning_least_byte pm_Turning_least_byte cd_Turning_least_byte ct_Turning_least_byte : Value} {f_come_to : Addr} {od_come_to an_come_to : Option Addr} {sl_come_to : Array (Option Value)} {oc_come_to kv_come_to dc_come_to pm_come_to cd_come_to ct_come_to : Value} {f_reached_spots : Addr} {od_reached_spots an_reached_spots : Option Addr} {sl_reached_spots : Array (Option Value)} {oc_reached_spots kv_reached_spots dc_reached_spots pm_reached_spots cd_reached_spots ct_reached_spots : Value} {f_told : Addr} {od_told an_told : Option Addr} {sl_told : Array (Option Value)} {oc_told kv_told dc_told pm_told cd_told ct_told : Value} {f_is_written : Addr} {od_is_written an_is_written : Option Addr} {sl_is_written : Array (Option Value)} {oc_is_written kv_is_written dc_is_written pm_is_written cd_is_written ct_is_written : Value} {f_Desk_init : Addr} {od_Desk_init an_Desk_init : Option Addr} {sl_Desk_init : Array (Option Value)} {oc_Desk_init kv_Desk_init dc_Desk_init pm_Desk_init cd_Desk_init ct_Desk_init : Value} {f_Desk_refusal : Addr} {od_Desk_refusal an_Desk_refusal : Option Addr} {sl_Desk_refusal : Array (Option Value)} {oc_Desk_refusal kv_Desk_refusal dc_Desk_refusal pm_Desk_refusal cd_Desk_refusal ct_Desk_refusal : Value} {f_Turning_init : Addr} {od_Turning_init an_Turning_init : Option Addr} {sl_Turning_init : Array (Option Value)} {oc_Turning_init kv_Turning_init dc_Turning_init pm_Turning_init cd_Turning_init ct_Turning_init : Value} {f_Turning_begin : Addr} {od_Turning_begin an_Turning_begin : Option Addr} {sl_Turning_begin : Array (Option Value)} {oc_Turning_begin kv_Turning_begin dc_Turning_begin pm_Turning_begin cd_Turning_begin ct_Turning_begin : Value} {f_Turning_step : Addr} {od_Turning_step an_Turning_step : Option Addr} {sl_Turning_step : Array (Option Value)} {oc_Turning_step kv_Turning_step dc_Turning_step pm_Turning_step cd_Turning_step ct_Turning_step : Value} {f_Turning_has_end : Addr} {od_Turning_has_end an_Turning_has_end : Option Addr} {sl_Turning_has_end : Array (Option Value)} {oc_Turning_has_end kv_Turning_has_end dc_Turning_has_end pm_Turning_has_end cd_Turning_has_end ct_Turning_has_end : Value} {f_circling_states : Addr} {od_circling_states an_circling_states : Option Addr} {sl_circling_states : Array (Option Value)} {oc_circling_states kv_circling_states dc_circling_states pm_circling_states cd_circling_states ct_circling_states : Value} {f_leads_to_end : Addr} {od_leads_to_end an_leads_to_end : Option Addr} {sl_leads_to_end : Array (Option Value)} {oc_leads_to_end kv_leads_to_end dc_leads_to_end pm_leads_to_end cd_leads_to_end ct_leads_to_end : Value} {f_told_word : Addr} {od_told_word an_told_word : Option Addr} {sl_told_word : Array (Option Value)} {oc_told_word kv_told_word dc_told_word pm_told_word cd_told_word ct_told_word : Value} {f_numbers_of_two : Addr} {od_numbers_of_two an_numbers_of_two : Option Addr} {sl_numbers_of_two : Array (Option Value)} {oc_numbers_of_two kv_numbers_of_two dc_numbers_of_two pm_numbers_of_two cd_numbers_of_two ct_numbers_of_two : Value} {f_Desk_state : Addr} {od_Desk_state an_Desk_state : Option Addr} {sl_Desk_state : Array (Option Value)} {oc_Desk_state kv_Desk_state dc_Desk_state pm_Desk_state cd_Desk_state ct_Desk_state : Value} {f_Desk_final : Addr} {od_Desk_final an_Desk_final : Option Addr} {sl_Desk_final : Array (Option Value)} {oc_Desk_final kv_Desk_final dc_Desk_final pm_Desk_final cd_Desk_final ct_Desk_final : Value} {f_Desk_arc : Addr} {od_Desk_arc an_Desk_arc : Option Addr} {sl_Desk_arc : Array (Option Value)} {oc_Desk_arc kv_Desk_arc dc_Desk_arc pm_Desk_arc cd_Desk_arc ct_Desk_arc : Value} {f_Desk_turn : Addr} {od_Desk_turn an_Desk_turn : Option Addr} {sl_Desk_turn : Array (Option Value)} {oc_Desk_turn kv_Desk_turn dc_Desk_turn pm_Desk_turn cd_Desk_turn ct_Desk_turn : Value} {f_Desk_size : Addr} {od_Desk_size an_Desk_size : Option Addr} {sl_Desk_size : Array (Option Value)} {oc_Desk_size kv_Desk_size dc_Desk_size pm_Desk_size cd_Desk_size ct_Desk_size : Value} {f_new_net : Addr} {od_new_net an_new_net : Option Addr} {sl_new_net : Array (Option Value)} {oc_new_net kv_new_net dc_new_net pm_new_net cd_new_net ct_new_net : Value} {f_join : Addr} {od_join an_join : Option Addr} {sl_join : Array (Option Value)} {oc_join kv_join dc_join pm_join cd_join ct_join : Value} {f_follow : Addr} {od_follow an_follow : Option Addr} {sl_follow : Array (Option Value)} {oc_follow kv_follow dc_follow pm_follow cd_follow ct_follow : Value} {f_again : Addr} {od_again an_again : Option Addr} {sl_again : Array (Option Value)} {oc_again kv_again dc_again pm_again cd_again ct_again : Value} {f_behind : Addr} {od_behind an_behind : Option Addr} {sl_behind : Array (Option Value)} {oc_behind kv_behind dc_behind pm_behind cd_behind ct_behind : Value} {f_keep : Addr} {od_keep an_keep : Option Addr} {sl_keep : Array (Option Value)} {oc_keep kv_keep dc_keep pm_keep cd_keep ct_keep : Value} {f_Turning_lengths : Addr} {od_Turning_lengths an_Turning_lengths : Option Addr} {sl_Turning_lengths : Array (Option Value)} {oc_Turning_lengths kv_Turning_lengths dc_Turning_lengths pm_Turning_lengths cd_Turning_lengths ct_Turning_lengths : Value} {f_Answers_least_rest : Addr} {od_Answers_least_rest an_Answers_least_rest : Option Addr} {sl_Answers_least_rest : Array (Option Value)} {oc_Answers_least_rest kv_Answers_least_rest dc_Answers_least_rest pm_Answers_least_rest cd_Answers_least_rest ct_Answers_least_rest : Value} {f_Answers_spots_along : Addr} {od_Answers_spots_along an_Answers_spots_along : Option Addr} {sl_Answers_spots_along : Array (Option Value)} {oc_Answers_spots_along kv_Answers_spots_along dc_Answers_spots_along pm_Answers_spots_along cd_Answers_spots_along ct_Answers_spots_along : Value} {f_Answers_init : Addr} {od_Answers_init an_Answers_init : Option Addr} {sl_Answers_init : Array (Option Value)} {oc_Answers_init kv_Answers_init dc_Answers_init pm_Answers_init cd_Answers_init ct_Answers_init : Value} {f_Answers_first_from : Addr} {od_Answers_first_from an_Answers_first_from : Option Addr} {sl_Answers_first_from : Array (Option Value)} {oc_Answers_first_from kv_Answers_first_from dc_Answers_first_from pm_Answers_first_from cd_Answers_first_from ct_Answers_first_from : Value} {f_Answers_holds : Addr} {od_Answers_holds an_Answers_holds : Option Addr} {sl_Answers_holds : Array (Option Value)} {oc_Answers_holds kv_Answers_holds dc_Answers_holds pm_Answers_holds cd_Answers_holds ct_Answers_holds : Value} {f_is_endless : Addr} {od_is_endless an_is_endless : Option Addr} {sl_is_endless : Array (Option Value)} {oc_is_endless kv_is_endless dc_is_endless pm_is_endless cd_is_endless ct_is_endless : Value} {f_made_of_two : Addr} {od_made_of_two an_made_of_two : Option Addr} {sl_made_of_two : Array (Option Value)} {oc_made_of_two kv_made_of_two dc_made_of_two pm_made_of_two cd_made_of_two ct_made_of_two : Value} {f_Desk_new : Addr} {od_Desk_new an_Desk_new : Option Addr} {sl_Desk_new : Array (Option Value)} {oc_Desk_new kv_Desk_new dc_Desk_new pm_Desk_new cd_Desk_new ct_Desk_new : Value} {f_Desk_of_one : Addr} {od_Desk_of_one an_Desk_of_one : Option Addr} {sl_Desk_of_one : Array (Option Value)} {oc_Desk_of_one kv_Desk_of_one dc_Desk_of_one pm_Desk_of_one cd_Desk_of_one ct_Desk_of_one : Value} {f_Answers_next_after : Addr} {od_Answers_next_after an_Answers_next_after : Option Addr} {sl_Answers_next_after : Array (Option Value)} {oc_Answers_next_after kv_Answers_next_after dc_Answers_next_after pm_Answers_next_after cd_Answers_next_after ct_Answers_next_after : Value} {f_Desk_of_two : Addr} {od_Desk_of_two an_Desk_of_two : Option Addr} {sl_Desk_of_two : Array (Option Value)} {oc_Desk_of_two kv_Desk_of_two dc_Desk_of_two pm_Desk_of_two cd_Desk_of_two ct_Desk_of_two : Value} {f_Desk_endless : Addr} {od_Desk_endless an_Desk_endless : Option Addr} {sl_Desk_endless : Array (Option Value)} {oc_Desk_endless kv_Desk_endless dc_Desk_endless pm_Desk_endless cd_Desk_endless ct_Desk_endless : Value} {f_Desk_next_word : Addr} {od_Desk_next_word an_Desk_next_word : Option Addr} {sl_Desk_next_word : Array (Option Value)} {oc_Desk_next_word kv_Desk_next_word dc_Desk_next_word pm_Desk_next_word cd_Desk_next_word ct_Desk_next_word : Value} {f_Desk_later : Addr} {od_Desk_later an_Desk_later : Option Addr} {sl_Desk_later : Array (Option Value)} {oc_Desk_later kv_Desk_later dc_Desk_later pm_Desk_later cd_Desk_later ct_Desk_later : Value} {f_Desk_holds : Addr} {od_Desk_holds an_Desk_holds : Option Addr} {sl_Desk_holds : Array (Option Value)} {oc_Desk_holds kv_Desk_holds dc_Desk_holds pm_Desk_holds cd_Desk_holds ct_Desk_holds : Value} {f_making : Addr} {od_making an_making : Option Addr} {sl_making : Array (Option Value)} {oc_making kv_making dc_making pm_making cd_making ct_making : Value} {f_of_words : Addr} {od_of_words an_of_words : Option Addr} {sl_of_words : Array (Option Value)} {oc_of_words kv_of_words dc_of_words pm_of_words cd_of_words ct_of_words : Value} {f_of_place : Addr} {od_of_place an_of_place : Option Addr} {sl_of_place : Array (Option Value)} {oc_of_place kv_of_place dc_of_place pm_of_place cd_of_place ct_of_place : Value} {f_answers : Addr} {od_answers an_answers : Option Addr} {sl_answers : Array (Option Value)} {oc_answers kv_answers dc_answers pm_answers cd_answers ct_answers : Value}
    (X : K.In h) (N : h.Ns mainGlobals mg) (hfa : mg "answers" = some (.ref fa))
    (v_NOTHING : PySem.W.nsIn K mainGlobals "NOTHING" = some (some (.int (-1) t_NOTHING)))
    (v_MOST_STATES : PySem.W.nsIn K mainGlobals "MOST_STATES" = some (some (.int (24) t_MOST_STATES)))
    (v_MOST_ARCS : PySem.W.nsIn K mainGlobals "MOST_ARCS" = some (some (.int (300) t_MOST_ARCS)))
    (v_LONGEST : PySem.W.nsIn K mainGlobals "LONGEST" = some (some (.int (16) t_LONGEST)))
    (v_PLACES : PySem.W.nsIn K mainGlobals "PLACES" = some (some (.int (6) t_PLACES)))
    (v_JOIN : PySem.W.nsIn K mainGlobals "JOIN" = some (some (.int (6) t_JOIN)))
    (v_FOLLOW : PySem.W.nsIn K mainGlobals "FOLLOW" = some (some (.int (7) t_FOLLOW)))
    (v_NEW : PySem.W.nsIn K mainGlobals "NEW" = some (some (.int (1) t_NEW)))
    (v_AGAIN : PySem.W.nsIn K mainGlobals "AGAIN" = some (some (.int (8) t_AGAIN)))
    (v_NUMBERS : PySem.W.nsIn K mainGlobals "NUMBERS" = some (some (.ref aN)))
    (q_NUMBERS : K.lookup aN = some oN)
    (z_NUMBERS : tupOk vNUMBERS oN = true)
    (v_LISTS : PySem.W.nsIn K mainGlobals "LISTS" = some (some (.ref aL)))
    (q_LISTS : K.lookup aL = some oL)
    (z_LISTS : tupOk vLISTS oL = true)
    (b_len : PySem.W.nsIn K mainGlobals "len" = some none)
    (b_int : PySem.W.nsIn K mainGlobals "int" = some none)
    (b_min : PySem.W.nsIn K mainGlobals "min" = some none)
    (b_list : PySem.W.nsIn K mainGlobals "list" = some none)
    (b_tuple : PySem.W.nsIn K mainGlobals "tuple" = some none)
    (b_range : PySem.W.nsIn K mainGlobals "range" = some none)
    (b_reversed : PySem.W.nsIn K mainGlobals "reversed" = some none)
    (a_Machine : PySem.W.nsIn K mainGlobals "Machine" = some (some (.ref cM)))
    (pg_Machine : PySem.W.plainGet K cM Str.empty = true)
    (hd_Machine : PySem.W.hasDictIn K cM = true)
    (po_Machine : PySem.W.plainOver K cM = true)
    (sa_Machine : PySem.W.findIn K (.ref cM) "__setattr__" = some (some (.builtin "object.__setattr__")))
    (mk_Machine : PySem.W.makesIn K cM = true)
    (kc_Machine : PySem.W.keepIn K (.ref cM) = true)
    (n_Machine_states : PySem.W.findIn K (.ref cM) "states" = some none)
    (n_Machine_finals : PySem.W.findIn K (.ref cM) "finals" = some none)
    (n_Machine_arcs : PySem.W.findIn K (.ref cM) "arcs" = some none)
    (n_Machine_told_states : PySem.W.findIn K (.ref cM) "told_states" = some none)
    (n_Machine_told_arcs : PySem.W.findIn K (.ref cM) "told_arcs" = some none)
    (n_Machine_is_built : PySem.W.findIn K (.ref cM) "is_built" = some none)
    (a_Turning : PySem.W.nsIn K mainGlobals "Turning" = some (some (.ref cT)))
    (pg_Turning : PySem.W.plainGet K cT Str.empty = true)
    (hd_Turning : PySem.W.hasDictIn K cT = true)
    (po_Turning : PySem.W.plainOver K cT = true)
    (sa_Turning : PySem.W.findIn K (.ref cT) "__setattr__" = some (some (.builtin "object.__setattr__")))
    (mk_Turning : PySem.W.makesIn K cT = true)
    (kc_Turning : PySem.W.keepIn K (.ref cT) = true)
    (n_Turning_machine : PySem.W.findIn K (.ref cT) "machine" = some none)
    (n_Turning_word : PySem.W.findIn K (.ref cT) "word" = some none)
    (n_Turning_silent : PySem.W.findIn K (.ref cT) "silent" = some none)
    (n_Turning_writing : PySem.W.findIn K (.ref cT) "writing" = some none)
    (a_Answers : PySem.W.nsIn K mainGlobals "Answers" = some (some (.ref cA)))
    (pg_Answers : PySem.W.plainGet K cA Str.empty = true)
    (hd_Answers : PySem.W.hasDictIn K cA = true)
    (po_Answers : PySem.W.plainOver K cA = true)
    (sa_Answers : PySem.W.findIn K (.ref cA) "__setattr__" = some (some (.builtin "object.__setattr__")))
    (mk_Answers : PySem.W.makesIn K cA = true)
    (kc_Answers : PySem.W.keepIn K (.ref cA) = true)
    (n_Answers_turning : PySem.W.findIn K (.ref cA) "turning" = some none)
    (n_Answers_rows : PySem.W.findIn K (.ref cA) "rows" = some none)
    (a_Desk : PySem.W.nsIn K mainGlobals "Desk" = some (some (.ref cD)))
    (pg_Desk : PySem.W.plainGet K cD Str.empty = true)
    (hd_Desk : PySem.W.hasDictIn K cD = true)
    (po_Desk : PySem.W.plainOver K cD = true)
    (sa_Desk : PySem.W.findIn K (.ref cD) "__setattr__" = some (some (.builtin "object.__setattr__")))
    (mk_Desk : PySem.W.makesIn K cD = true)
    (kc_Desk : PySem.W.keepIn K (.ref cD) = true)
    (n_Desk_places : PySem.W.findIn K (.ref cD) "places" = some none)
    (a_Machine_init : PySem.W.findIn K (.ref cM) "__init__" = some (some (.ref f_Machine_init)))
    (i_Machine_init : PySem.W.isFn K (.ref f_Machine_init) = true)
    (l_Machine_init : K.lookup f_Machine_init = some ⟨oc_Machine_init, od_Machine_init, .func (PySem.W.fnOf "__init__" "Machine.__init__" (defArgs s_Machine_init) (defBody s_Machine_init) (defScope s_Machine_init) .none kv_Machine_init dc_Machine_init pm_Machine_init an_Machine_init cd_Machine_init ct_Machine_init), sl_Machine_init⟩)
    (c_Machine_init : PySem.W.codeIn K cd_Machine_init "Machine.__init__" = true)
    (k_Machine_init : PySem.W.keepIn K (.ref f_Machine_init) = true)
    (a_Machine_has_state : PySem.W.findIn K (.ref cM) "has_state" = some (some (.ref f_Machine_has_state)))
    (i_Machine_has_state : PySem.W.isFn K (.ref f_Machine_has_state) = true)
    (l_Machine_has_state : K.lookup f_Machine_has_state = some ⟨oc_Machine_has_state, od_Machine_has_state, .func (PySem.W.fnOf "has_state" "Machine.has_state" (defArgs s_Machine_has_state) (defBody s_Machine_has_state) (defScope s_Machine_has_state) .none kv_Machine_has_state dc_Machine_has_state pm_Machine_has_state an_Machine_has_state cd_Machine_has_state ct_Machine_has_state), sl_Machine_has_state⟩)
    (c_Machine_has_state : PySem.W.codeIn K cd_Machine_has_state "Machine.has_state" = true)
    (k_Machine_has_state : PySem.W.keepIn K (.ref f_Machine_has_state) = true)
    (a_Machine_add_state : PySem.W.findIn K (.ref cM) "add_state" = some (some (.ref f_Machine_add_state)))
    (i_Machine_add_state : PySem.W.isFn K (.ref f_Machine_add_state) = true)
    (l_Machine_add_state : K.lookup f_Machine_add_state = some ⟨oc_Machine_add_state, od_Machine_add_state, .func (PySem.W.fnOf "add_state" "Machine.add_state" (defArgs s_Machine_add_state) (defBody s_Machine_add_state) (defScope s_Machine_add_state) .none kv_Machine_add_state dc_Machine_add_state pm_Machine_add_state an_Machine_add_state cd_Machine_add_state ct_Machine_add_state), sl_Machine_add_state⟩)
    (c_Machine_add_state : PySem.W.codeIn K cd_Machine_add_state "Machine.add_state" = true)
    (k_Machine_add_state : PySem.W.keepIn K (.ref f_Machine_add_state) = true)
    (a_Machine_add_arc : PySem.W.findIn K (.ref cM) "add_arc" = some (some (.ref f_Machine_add_arc)))
    (i_Machine_add_arc : PySem.W.isFn K (.ref f_Machine_add_arc) = true)
    (l_Machine_add_arc : K.lookup f_Machine_add_arc = some ⟨oc_Machine_add_arc, od_Machine_add_arc, .func (PySem.W.fnOf "add_arc" "Machine.add_arc" (defArgs s_Machine_add_arc) (defBody s_Machine_add_arc) (defScope s_Machine_add_arc) .none kv_Machine_add_arc dc_Machine_add_arc pm_Machine_add_arc an_Machine_add_arc cd_Machine_add_arc ct_Machine_add_arc), sl_Machine_add_arc⟩)
    (c_Machine_add_arc : PySem.W.codeIn K cd_Machine_add_arc "Machine.add_arc" = true)
    (k_Machine_add_arc : PySem.W.keepIn K (.ref f_Machine_add_arc) = true)
    (a_Machine_set_final : PySem.W.findIn K (.ref cM) "set_final" = some (some (.ref f_Machine_set_final)))
    (i_Machine_set_final : PySem.W.isFn K (.ref f_Machine_set_final) = true)
    (l_Machine_set_final : K.lookup f_Machine_set_final = some ⟨oc_Machine_set_final, od_Machine_set_final, .func (PySem.W.fnOf "set_final" "Machine.set_final" (defArgs s_Machine_set_final) (defBody s_Machine_set_final) (defScope s_Machine_set_final) .none kv_Machine_set_final dc_Machine_set_final pm_Machine_set_final an_Machine_set_final cd_Machine_set_final ct_Machine_set_final), sl_Machine_set_final⟩)
    (c_Machine_set_final : PySem.W.codeIn K cd_Machine_set_final "Machine.set_final" = true)
    (k_Machine_set_final : PySem.W.keepIn K (.ref f_Machine_set_final) = true)
    (a_Machine_turn : PySem.W.findIn K (.ref cM) "turn" = some (some (.ref f_Machine_turn)))
    (i_Machine_turn : PySem.W.isFn K (.ref f_Machine_turn) = true)
    (l_Machine_turn : K.lookup f_Machine_turn = some ⟨oc_Machine_turn, od_Machine_turn, .func (PySem.W.fnOf "turn" "Machine.turn" (defArgs s_Machine_turn) (defBody s_Machine_turn) (defScope s_Machine_turn) .none kv_Machine_turn dc_Machine_turn pm_Machine_turn an_Machine_turn cd_Machine_turn ct_Machine_turn), sl_Machine_turn⟩)
    (c_Machine_turn : PySem.W.codeIn K cd_Machine_turn "Machine.turn" = true)
    (k_Machine_turn : PySem.W.keepIn K (.ref f_Machine_turn) = true)
    (a_moved : PySem.W.nsIn K mainGlobals "moved" = some (some (.ref f_moved)))
    (l_moved : K.lookup f_moved = some ⟨oc_moved, od_moved, .func (PySem.W.fnOf "moved" "moved" (defArgs s_moved) (defBody s_moved) (defScope s_moved) .none kv_moved dc_moved pm_moved an_moved cd_moved ct_moved), sl_moved⟩)
    (c_moved : PySem.W.codeIn K cd_moved "moved" = true)
    (k_moved : PySem.W.keepIn K (.ref f_moved) = true)
    (a_is_too_great : PySem.W.nsIn K mainGlobals "is_too_great" = some (some (.ref f_is_too_great)))
    (l_is_too_great : K.lookup f_is_too_great = some ⟨oc_is_too_great, od_is_too_great, .func (PySem.W.fnOf "is_too_great" "is_too_great" (defArgs s_is_too_great) (defBody s_is_too_great) (defScope s_is_too_great) .none kv_is_too_great dc_is_too_great pm_is_too_great an_is_too_great cd_is_too_great ct_is_too_great), sl_is_too_great⟩)
    (c_is_too_great : PySem.W.codeIn K cd_is_too_great "is_too_great" = true)
    (k_is_too_great : PySem.W.keepIn K (.ref f_is_too_great) = true)
    (a_finished : PySem.W.nsIn K mainGlobals "finished" = some (some (.ref f_finished)))
    (l_finished : K.lookup f_finished = some ⟨oc_finished, od_finished, .func (PySem.W.fnOf "finished" "finished" (defArgs s_finished) (defBody s_finished) (defScope s_finished) .none kv_finished dc_finished pm_finished an_finished cd_finished ct_finished), sl_finished⟩)
    (c_finished : PySem.W.codeIn K cd_finished "finished" = true)
    (k_finished : PySem.W.keepIn K (.ref f_finished) = true)
    (a_join_numbers : PySem.W.nsIn K mainGlobals "join_numbers" = some (some (.ref f_join_numbers)))
    (l_join_numbers : K.lookup f_join_numbers = some ⟨oc_join_numbers, od_join_numbers, .func (PySem.W.fnOf "join_numbers" "join_numbers" (defArgs s_join_numbers) (defBody s_join_numbers) (defScope s_join_numbers) .none kv_join_numbers dc_join_numbers pm_join_numbers an_join_numbers cd_join_numbers ct_join_numbers), sl_join_numbers⟩)
    (c_join_numbers : PySem.W.codeIn K cd_join_numbers "join_numbers" = true)
    (k_join_numbers : PySem.W.keepIn K (.ref f_join_numbers) = true)
    (a_follow_numbers : PySem.W.nsIn K mainGlobals "follow_numbers" = some (some (.ref f_follow_numbers)))
    (l_follow_numbers : K.lookup f_follow_numbers = some ⟨oc_follow_numbers, od_follow_numbers, .func (PySem.W.fnOf "follow_numbers" "follow_numbers" (defArgs s_follow_numbers) (defBody s_follow_numbers) (defScope s_follow_numbers) .none kv_follow_numbers dc_follow_numbers pm_follow_numbers an_follow_numbers cd_follow_numbers ct_follow_numbers), sl_follow_numbers⟩)
    (c_follow_numbers : PySem.W.codeIn K cd_follow_numbers "follow_numbers" = true)
    (k_follow_numbers : PySem.W.keepIn K (.ref f_follow_numbers) = true)
    (a_again_numbers : PySem.W.nsIn K mainGlobals "again_numbers" = some (some (.ref f_again_numbers)))
    (l_again_numbers : K.lookup f_again_numbers = some ⟨oc_again_numbers, od_again_numbers, .func (PySem.W.fnOf "again_numbers" "again_numbers" (defArgs s_again_numbers) (defBody s_again_numbers) (defScope s_again_numbers) .none kv_again_numbers dc_again_numbers pm_again_numbers an_again_numbers cd_again_numbers ct_again_numbers), sl_again_numbers⟩)
    (c_again_numbers : PySem.W.codeIn K cd_again_numbers "again_numbers" = true)
    (k_again_numbers : PySem.W.keepIn K (.ref f_again_numbers) = true)
    (a_behind_numbers : PySem.W.nsIn K mainGlobals "behind_numbers" = some (some (.ref f_behind_numbers)))
    (l_behind_numbers : K.lookup f_behind_numbers = some ⟨oc_behind_numbers, od_behind_numbers, .func (PySem.W.fnOf "behind_numbers" "behind_numbers" (defArgs s_behind_numbers) (defBody s_behind_numbers) (defScope s_behind_numbers) .none kv_behind_numbers dc_behind_numbers pm_behind_numbers an_behind_numbers cd_behind_numbers ct_behind_numbers), sl_behind_numbers⟩)
    (c_behind_numbers : PySem.W.codeIn K cd_behind_numbers "behind_numbers" = true)
    (k_behind_numbers : PySem.W.keepIn K (.ref f_behind_numbers) = true)
    (a_behind_arcs : PySem.W.nsIn K mainGlobals "behind_arcs" = some (some (.ref f_behind_arcs)))
    (l_behind_arcs : K.lookup f_behind_arcs = some ⟨oc_behind_arcs, od_behind_arcs, .func (PySem.W.fnOf "behind_arcs" "behind_arcs" (defArgs s_behind_arcs) (defBody s_behind_arcs) (defScope s_behind_arcs) .none kv_behind_arcs dc_behind_arcs pm_behind_arcs an_behind_arcs cd_behind_arcs ct_behind_arcs), sl_behind_arcs⟩)
    (c_behind_arcs : PySem.W.codeIn K cd_behind_arcs "behind_arcs" = true)
    (k_behind_arcs : PySem.W.keepIn K (.ref f_behind_arcs) = true)
    (a_Turning_note : PySem.W.findIn K (.ref cT) "note" = some (some (.ref f_Turning_note)))
    (i_Turning_note : PySem.W.isFn K (.ref f_Turning_note) = true)
    (l_Turning_note : K.lookup f_Turning_note = some ⟨oc_Turning_note, od_Turning_note, .func (PySem.W.fnOf "note" "Turning.note" (defArgs s_Turning_note) (defBody s_Turning_note) (defScope s_Turning_note) .none kv_Turning_note dc_Turning_note pm_Turning_note an_Turning_note cd_Turning_note ct_Turning_note), sl_Turning_note⟩)
    (c_Turning_note : PySem.W.codeIn K cd_Turning_note "Turning.note" = true)
    (k_Turning_note : PySem.W.keepIn K (.ref f_Turning_note) = true)
    (a_Turning_spots : PySem.W.findIn K (.ref cT) "spots" = some (some (.ref f_Turning_spots)))
    (i_Turning_spots : PySem.W.isFn K (.ref f_Turning_spots) = true)
    (l_Turning_spots : K.lookup f_Turning_spots = some ⟨oc_Turning_spots, od_Turning_spots, .func (PySem.W.fnOf "spots" "Turning.spots" (defArgs s_Turning_spots) (defBody s_Turning_spots) (defScope s_Turning_spots) .none kv_Turning_spots dc_Turning_spots pm_Turning_spots an_Turning_spots cd_Turning_spots ct_Turning_spots), sl_Turning_spots⟩)
    (c_Turning_spots : PySem.W.codeIn K cd_Turning_spots "Turning.spots" = true)
    (k_Turning_spots : PySem.W.keepIn K (.ref f_Turning_spots) = true)
    (a_Turning_is_end : PySem.W.findIn K (.ref cT) "is_end" = some (some (.ref f_Turning_is_end)))
    (i_Turning_is_end : PySem.W.isFn K (.ref f_Turning_is_end) = true)
    (l_Turning_is_end : K.lookup f_Turning_is_end = some ⟨oc_Turning_is_end, od_Turning_is_end, .func (PySem.W.fnOf "is_end" "Turning.is_end" (defArgs s_Turning_is_end) (defBody s_Turning_is_end) (defScope s_Turning_is_end) .none kv_Turning_is_end dc_Turning_is_end pm_Turning_is_end an_Turning_is_end cd_Turning_is_end ct_Turning_is_end), sl_Turning_is_end⟩)
    (c_Turning_is_end : PySem.W.codeIn K cd_Turning_is_end "Turning.is_end" = true)
    (k_Turning_is_end : PySem.W.keepIn K (.ref f_Turning_is_end) = true)
    (a_Turning_closed : PySem.W.findIn K (.ref cT) "closed" = some (some (.ref f_Turning_closed)))
    (i_Turning_closed : PySem.W.isFn K (.ref f_Turning_closed) = true)
    (l_Turning_closed : K.lookup f_Turning_closed = some ⟨oc_Turning_closed, od_Turning_closed, .func (PySem.W.fnOf "closed" "Turning.closed" (defArgs s_Turning_closed) (defBody s_Turning_closed) (defScope s_Turning_closed) .none kv_Turning_closed dc_Turning_closed pm_Turning_closed an_Turning_closed cd_Turning_closed ct_Turning_closed), sl_Turning_closed⟩)
    (c_Turning_closed : PySem.W.codeIn K cd_Turning_closed "Turning.closed" = true)
    (k_Turning_closed : PySem.W.keepIn K (.ref f_Turning_closed) = true)
    (a_Turning_leads : PySem.W.findIn K (.ref cT) "leads" = some (some (.ref f_Turning_leads)))
    (i_Turning_leads : PySem.W.isFn K (.ref f_Turning_leads) = true)
    (l_Turning_leads : K.lookup f_Turning_leads = some ⟨oc_Turning_leads, od_Turning_leads, .func (PySem.W.fnOf "leads" "Turning.leads" (defArgs s_Turning_leads) (defBody s_Turning_leads) (defScope s_Turning_leads) .none kv_Turning_leads dc_Turning_leads pm_Turning_leads an_Turning_leads cd_Turning_leads ct_Turning_leads), sl_Turning_leads⟩)
    (c_Turning_leads : PySem.W.codeIn K cd_Turning_leads "Turning.leads" = true)
    (k_Turning_leads : PySem.W.keepIn K (.ref f_Turning_leads) = true)
    (a_Turning_least_byte : PySem.W.findIn K (.ref cT) "least_byte" = some (some (.ref f_Turning_least_byte)))
    (i_Turning_least_byte : PySem.W.isFn K (.ref f_Turning_least_byte) = true)
    (l_Turning_least_byte : K.lookup f_Turning_least_byte = some ⟨oc_Turning_least_byte, od_Turning_least_byte, .func (PySem.W.fnOf "least_byte" "Turning.least_byte" (defArgs s_Turning_least_byte) (defBody s_Turning_least_byte) (defScope s_Turning_least_byte) .none kv_Turning_least_byte dc_Turning_least_byte pm_Turning_least_byte an_Turning_least_byte cd_Turning_least_byte ct_Turning_least_byte), sl_Turning_least_byte⟩)
    (c_Turning_least_byte : PySem.W.codeIn K cd_Turning_least_byte "Turning.least_byte" = true)
    (k_Turning_least_byte : PySem.W.keepIn K (.ref f_Turning_least_byte) = true)
    (a_come_to : PySem.W.nsIn K mainGlobals "come_to" = some (some (.ref f_come_to)))
    (l_come_to : K.lookup f_come_to = some ⟨oc_come_to, od_come_to, .func (PySem.W.fnOf "come_to" "come_to" (defArgs s_come_to) (defBody s_come_to) (defScope s_come_to) .none kv_come_to dc_come_to pm_come_to an_come_to cd_come_to ct_come_to), sl_come_to⟩)
    (c_come_to : PySem.W.codeIn K cd_come_to "come_to" = true)
    (k_come_to : PySem.W.keepIn K (.ref f_come_to) = true)
    (a_reached_spots : PySem.W.nsIn K mainGlobals "reached_spots" = some (some (.ref f_reached_spots)))
    (l_reached_spots : K.lookup f_reached_spots = some ⟨oc_reached_spots, od_reached_spots, .func (PySem.W.fnOf "reached_spots" "reached_spots" (defArgs s_reached_spots) (defBody s_reached_spots) (defScope s_reached_spots) .none kv_reached_spots dc_reached_spots pm_reached_spots an_reached_spots cd_reached_spots ct_reached_spots), sl_reached_spots⟩)
    (c_reached_spots : PySem.W.codeIn K cd_reached_spots "reached_spots" = true)
    (k_reached_spots : PySem.W.keepIn K (.ref f_reached_spots) = true)
    (a_told : PySem.W.nsIn K mainGlobals "told" = some (some (.ref f_told)))
    (l_told : K.lookup f_told = some ⟨oc_told, od_told, .func (PySem.W.fnOf "told" "told" (defArgs s_told) (defBody s_told) (defScope s_told) .none kv_told dc_told pm_told an_told cd_told ct_told), sl_told⟩)
    (c_told : PySem.W.codeIn K cd_told "told" = true)
    (k_told : PySem.W.keepIn K (.ref f_told) = true)
    (a_is_written : PySem.W.nsIn K mainGlobals "is_written" = some (some (.ref f_is_written)))
    (l_is_written : K.lookup f_is_written = some ⟨oc_is_written, od_is_written, .func (PySem.W.fnOf "is_written" "is_written" (defArgs s_is_written) (defBody s_is_written) (defScope s_is_written) .none kv_is_written dc_is_written pm_is_written an_is_written cd_is_written ct_is_written), sl_is_written⟩)
    (c_is_written : PySem.W.codeIn K cd_is_written "is_written" = true)
    (k_is_written : PySem.W.keepIn K (.ref f_is_written) = true)
    (a_Desk_init : PySem.W.findIn K (.ref cD) "__init__" = some (some (.ref f_Desk_init)))
    (i_Desk_init : PySem.W.isFn K (.ref f_Desk_init) = true)
    (l_Desk_init : K.lookup f_Desk_init = some ⟨oc_Desk_init, od_Desk_init, .func (PySem.W.fnOf "__init__" "Desk.__init__" (defArgs s_Desk_init) (defBody s_Desk_init) (defScope s_Desk_init) .none kv_Desk_init dc_Desk_init pm_Desk_init an_Desk_init cd_Desk_init ct_Desk_init), sl_Desk_init⟩)
    (c_Desk_init : PySem.W.codeIn K cd_Desk_init "Desk.__init__" = true)
    (k_Desk_init : PySem.W.keepIn K (.ref f_Desk_init) = true)
    (a_Desk_refusal : PySem.W.findIn K (.ref cD) "refusal" = some (some (.ref f_Desk_refusal)))
    (i_Desk_refusal : PySem.W.isFn K (.ref f_Desk_refusal) = true)
    (l_Desk_refusal : K.lookup f_Desk_refusal = some ⟨oc_Desk_refusal, od_Desk_refusal, .func (PySem.W.fnOf "refusal" "Desk.refusal" (defArgs s_Desk_refusal) (defBody s_Desk_refusal) (defScope s_Desk_refusal) .none kv_Desk_refusal dc_Desk_refusal pm_Desk_refusal an_Desk_refusal cd_Desk_refusal ct_Desk_refusal), sl_Desk_refusal⟩)
    (c_Desk_refusal : PySem.W.codeIn K cd_Desk_refusal "Desk.refusal" = true)
    (k_Desk_refusal : PySem.W.keepIn K (.ref f_Desk_refusal) = true)
    (a_Turning_init : PySem.W.findIn K (.ref cT) "__init__" = some (some (.ref f_Turning_init)))
    (i_Turning_init : PySem.W.isFn K (.ref f_Turning_init) = true)
    (l_Turning_init : K.lookup f_Turning_init = some ⟨oc_Turning_init, od_Turning_init, .func (PySem.W.fnOf "__init__" "Turning.__init__" (defArgs s_Turning_init) (defBody s_Turning_init) (defScope s_Turning_init) .none kv_Turning_init dc_Turning_init pm_Turning_init an_Turning_init cd_Turning_init ct_Turning_init), sl_Turning_init⟩)
    (c_Turning_init : PySem.W.codeIn K cd_Turning_init "Turning.__init__" = true)
    (k_Turning_init : PySem.W.keepIn K (.ref f_Turning_init) = true)
    (a_Turning_begin : PySem.W.findIn K (.ref cT) "begin" = some (some (.ref f_Turning_begin)))
    (i_Turning_begin : PySem.W.isFn K (.ref f_Turning_begin) = true)
    (l_Turning_begin : K.lookup f_Turning_begin = some ⟨oc_Turning_begin, od_Turning_begin, .func (PySem.W.fnOf "begin" "Turning.begin" (defArgs s_Turning_begin) (defBody s_Turning_begin) (defScope s_Turning_begin) .none kv_Turning_begin dc_Turning_begin pm_Turning_begin an_Turning_begin cd_Turning_begin ct_Turning_begin), sl_Turning_begin⟩)
    (c_Turning_begin : PySem.W.codeIn K cd_Turning_begin "Turning.begin" = true)
    (k_Turning_begin : PySem.W.keepIn K (.ref f_Turning_begin) = true)
    (a_Turning_step : PySem.W.findIn K (.ref cT) "step" = some (some (.ref f_Turning_step)))
    (i_Turning_step : PySem.W.isFn K (.ref f_Turning_step) = true)
    (l_Turning_step : K.lookup f_Turning_step = some ⟨oc_Turning_step, od_Turning_step, .func (PySem.W.fnOf "step" "Turning.step" (defArgs s_Turning_step) (defBody s_Turning_step) (defScope s_Turning_step) .none kv_Turning_step dc_Turning_step pm_Turning_step an_Turning_step cd_Turning_step ct_Turning_step), sl_Turning_step⟩)
    (c_Turning_step : PySem.W.codeIn K cd_Turning_step "Turning.step" = true)
    (k_Turning_step : PySem.W.keepIn K (.ref f_Turning_step) = true)
    (a_Turning_has_end : PySem.W.findIn K (.ref cT) "has_end" = some (some (.ref f_Turning_has_end)))
    (i_Turning_has_end : PySem.W.isFn K (.ref f_Turning_has_end) = true)
    (l_Turning_has_end : K.lookup f_Turning_has_end = some ⟨oc_Turning_has_end, od_Turning_has_end, .func (PySem.W.fnOf "has_end" "Turning.has_end" (defArgs s_Turning_has_end) (defBody s_Turning_has_end) (defScope s_Turning_has_end) .none kv_Turning_has_end dc_Turning_has_end pm_Turning_has_end an_Turning_has_end cd_Turning_has_end ct_Turning_has_end), sl_Turning_has_end⟩)
    (c_Turning_has_end : PySem.W.codeIn K cd_Turning_has_end "Turning.has_end" = true)
    (k_Turning_has_end : PySem.W.keepIn K (.ref f_Turning_has_end) = true)
    (a_circling_states : PySem.W.nsIn K mainGlobals "circling_states" = some (some (.ref f_circling_states)))
    (l_circling_states : K.lookup f_circling_states = some ⟨oc_circling_states, od_circling_states, .func (PySem.W.fnOf "circling_states" "circling_states" (defArgs s_circling_states) (defBody s_circling_states) (defScope s_circling_states) .none kv_circling_states dc_circling_states pm_circling_states an_circling_states cd_circling_states ct_circling_states), sl_circling_states⟩)
    (c_circling_states : PySem.W.codeIn K cd_circling_states "circling_states" = true)
    (k_circling_states : PySem.W.keepIn K (.ref f_circling_states) = true)
    (a_leads_to_end : PySem.W.nsIn K mainGlobals "leads_to_end" = some (some (.ref f_leads_to_end)))
    (l_leads_to_end : K.lookup f_leads_to_end = some ⟨oc_leads_to_end, od_leads_to_end, .func (PySem.W.fnOf "leads_to_end" "leads_to_end" (defArgs s_leads_to_end) (defBody s_leads_to_end) (defScope s_leads_to_end) .none kv_leads_to_end dc_leads_to_end pm_leads_to_end an_leads_to_end cd_leads_to_end ct_leads_to_end), sl_leads_to_end⟩)
    (c_leads_to_end : PySem.W.codeIn K cd_leads_to_end "leads_to_end" = true)
    (k_leads_to_end : PySem.W.keepIn K (.ref f_leads_to_end) = true)
    (a_told_word : PySem.W.nsIn K mainGlobals "told_word" = some (some (.ref f_told_word)))
    (l_told_word : K.lookup f_told_word = some ⟨oc_told_word, od_told_word, .func (PySem.W.fnOf "told_word" "told_word" (defArgs s_told_word) (defBody s_told_word) (defScope s_told_word) .none kv_told_word dc_told_word pm_told_word an_told_word cd_told_word ct_told_word), sl_told_word⟩)
    (c_told_word : PySem.W.codeIn K cd_told_word "told_word" = true)
    (k_told_word : PySem.W.keepIn K (.ref f_told_word) = true)
    (a_numbers_of_two : PySem.W.nsIn K mainGlobals "numbers_of_two" = some (some (.ref f_numbers_of_two)))
    (l_numbers_of_two : K.lookup f_numbers_of_two = some ⟨oc_numbers_of_two, od_numbers_of_two, .func (PySem.W.fnOf "numbers_of_two" "numbers_of_two" (defArgs s_numbers_of_two) (defBody s_numbers_of_two) (defScope s_numbers_of_two) .none kv_numbers_of_two dc_numbers_of_two pm_numbers_of_two an_numbers_of_two cd_numbers_of_two ct_numbers_of_two), sl_numbers_of_two⟩)
    (c_numbers_of_two : PySem.W.codeIn K cd_numbers_of_two "numbers_of_two" = true)
    (k_numbers_of_two : PySem.W.keepIn K (.ref f_numbers_of_two) = true)
    (a_Desk_state : PySem.W.findIn K (.ref cD) "state" = some (some (.ref f_Desk_state)))
    (i_Desk_state : PySem.W.isFn K (.ref f_Desk_state) = true)
    (l_Desk_state : K.lookup f_Desk_state = some ⟨oc_Desk_state, od_Desk_state, .func (PySem.W.fnOf "state" "Desk.state" (defArgs s_Desk_state) (defBody s_Desk_state) (defScope s_Desk_state) .none kv_Desk_state dc_Desk_state pm_Desk_state an_Desk_state cd_Desk_state ct_Desk_state), sl_Desk_state⟩)
    (c_Desk_state : PySem.W.codeIn K cd_Desk_state "Desk.state" = true)
    (k_Desk_state : PySem.W.keepIn K (.ref f_Desk_state) = true)
    (a_Desk_final : PySem.W.findIn K (.ref cD) "final" = some (some (.ref f_Desk_final)))
    (i_Desk_final : PySem.W.isFn K (.ref f_Desk_final) = true)
    (l_Desk_final : K.lookup f_Desk_final = some ⟨oc_Desk_final, od_Desk_final, .func (PySem.W.fnOf "final" "Desk.final" (defArgs s_Desk_final) (defBody s_Desk_final) (defScope s_Desk_final) .none kv_Desk_final dc_Desk_final pm_Desk_final an_Desk_final cd_Desk_final ct_Desk_final), sl_Desk_final⟩)
    (c_Desk_final : PySem.W.codeIn K cd_Desk_final "Desk.final" = true)
    (k_Desk_final : PySem.W.keepIn K (.ref f_Desk_final) = true)
    (a_Desk_arc : PySem.W.findIn K (.ref cD) "arc" = some (some (.ref f_Desk_arc)))
    (i_Desk_arc : PySem.W.isFn K (.ref f_Desk_arc) = true)
    (l_Desk_arc : K.lookup f_Desk_arc = some ⟨oc_Desk_arc, od_Desk_arc, .func (PySem.W.fnOf "arc" "Desk.arc" (defArgs s_Desk_arc) (defBody s_Desk_arc) (defScope s_Desk_arc) .none kv_Desk_arc dc_Desk_arc pm_Desk_arc an_Desk_arc cd_Desk_arc ct_Desk_arc), sl_Desk_arc⟩)
    (c_Desk_arc : PySem.W.codeIn K cd_Desk_arc "Desk.arc" = true)
    (k_Desk_arc : PySem.W.keepIn K (.ref f_Desk_arc) = true)
    (a_Desk_turn : PySem.W.findIn K (.ref cD) "turn" = some (some (.ref f_Desk_turn)))
    (i_Desk_turn : PySem.W.isFn K (.ref f_Desk_turn) = true)
    (l_Desk_turn : K.lookup f_Desk_turn = some ⟨oc_Desk_turn, od_Desk_turn, .func (PySem.W.fnOf "turn" "Desk.turn" (defArgs s_Desk_turn) (defBody s_Desk_turn) (defScope s_Desk_turn) .none kv_Desk_turn dc_Desk_turn pm_Desk_turn an_Desk_turn cd_Desk_turn ct_Desk_turn), sl_Desk_turn⟩)
    (c_Desk_turn : PySem.W.codeIn K cd_Desk_turn "Desk.turn" = true)
    (k_Desk_turn : PySem.W.keepIn K (.ref f_Desk_turn) = true)
    (a_Desk_size : PySem.W.findIn K (.ref cD) "size" = some (some (.ref f_Desk_size)))
    (i_Desk_size : PySem.W.isFn K (.ref f_Desk_size) = true)
    (l_Desk_size : K.lookup f_Desk_size = some ⟨oc_Desk_size, od_Desk_size, .func (PySem.W.fnOf "size" "Desk.size" (defArgs s_Desk_size) (defBody s_Desk_size) (defScope s_Desk_size) .none kv_Desk_size dc_Desk_size pm_Desk_size an_Desk_size cd_Desk_size ct_Desk_size), sl_Desk_size⟩)
    (c_Desk_size : PySem.W.codeIn K cd_Desk_size "Desk.size" = true)
    (k_Desk_size : PySem.W.keepIn K (.ref f_Desk_size) = true)
    (a_new_net : PySem.W.nsIn K mainGlobals "new_net" = some (some (.ref f_new_net)))
    (l_new_net : K.lookup f_new_net = some ⟨oc_new_net, od_new_net, .func (PySem.W.fnOf "new_net" "new_net" (defArgs s_new_net) (defBody s_new_net) (defScope s_new_net) .none kv_new_net dc_new_net pm_new_net an_new_net cd_new_net ct_new_net), sl_new_net⟩)
    (c_new_net : PySem.W.codeIn K cd_new_net "new_net" = true)
    (k_new_net : PySem.W.keepIn K (.ref f_new_net) = true)
    (a_join : PySem.W.nsIn K mainGlobals "join" = some (some (.ref f_join)))
    (l_join : K.lookup f_join = some ⟨oc_join, od_join, .func (PySem.W.fnOf "join" "join" (defArgs s_join) (defBody s_join) (defScope s_join) .none kv_join dc_join pm_join an_join cd_join ct_join), sl_join⟩)
    (c_join : PySem.W.codeIn K cd_join "join" = true)
    (k_join : PySem.W.keepIn K (.ref f_join) = true)
    (a_follow : PySem.W.nsIn K mainGlobals "follow" = some (some (.ref f_follow)))
    (l_follow : K.lookup f_follow = some ⟨oc_follow, od_follow, .func (PySem.W.fnOf "follow" "follow" (defArgs s_follow) (defBody s_follow) (defScope s_follow) .none kv_follow dc_follow pm_follow an_follow cd_follow ct_follow), sl_follow⟩)
    (c_follow : PySem.W.codeIn K cd_follow "follow" = true)
    (k_follow : PySem.W.keepIn K (.ref f_follow) = true)
    (a_again : PySem.W.nsIn K mainGlobals "again" = some (some (.ref f_again)))
    (l_again : K.lookup f_again = some ⟨oc_again, od_again, .func (PySem.W.fnOf "again" "again" (defArgs s_again) (defBody s_again) (defScope s_again) .none kv_again dc_again pm_again an_again cd_again ct_again), sl_again⟩)
    (c_again : PySem.W.codeIn K cd_again "again" = true)
    (k_again : PySem.W.keepIn K (.ref f_again) = true)
    (a_behind : PySem.W.nsIn K mainGlobals "behind" = some (some (.ref f_behind)))
    (l_behind : K.lookup f_behind = some ⟨oc_behind, od_behind, .func (PySem.W.fnOf "behind" "behind" (defArgs s_behind) (defBody s_behind) (defScope s_behind) .none kv_behind dc_behind pm_behind an_behind cd_behind ct_behind), sl_behind⟩)
    (c_behind : PySem.W.codeIn K cd_behind "behind" = true)
    (k_behind : PySem.W.keepIn K (.ref f_behind) = true)
    (a_keep : PySem.W.nsIn K mainGlobals "keep" = some (some (.ref f_keep)))
    (l_keep : K.lookup f_keep = some ⟨oc_keep, od_keep, .func (PySem.W.fnOf "keep" "keep" (defArgs s_keep) (defBody s_keep) (defScope s_keep) .none kv_keep dc_keep pm_keep an_keep cd_keep ct_keep), sl_keep⟩)
    (c_keep : PySem.W.codeIn K cd_keep "keep" = true)
    (k_keep : PySem.W.keepIn K (.ref f_keep) = true)
    (a_Turning_lengths : PySem.W.findIn K (.ref cT) "lengths" = some (some (.ref f_Turning_lengths)))
    (i_Turning_lengths : PySem.W.isFn K (.ref f_Turning_lengths) = true)
    (l_Turning_lengths : K.lookup f_Turning_lengths = some ⟨oc_Turning_lengths, od_Turning_lengths, .func (PySem.W.fnOf "lengths" "Turning.lengths" (defArgs s_Turning_lengths) (defBody s_Turning_lengths) (defScope s_Turning_lengths) .none kv_Turning_lengths dc_Turning_lengths pm_Turning_lengths an_Turning_lengths cd_Turning_lengths ct_Turning_lengths), sl_Turning_lengths⟩)
    (c_Turning_lengths : PySem.W.codeIn K cd_Turning_lengths "Turning.lengths" = true)
    (k_Turning_lengths : PySem.W.keepIn K (.ref f_Turning_lengths) = true)
    (a_Answers_least_rest : PySem.W.findIn K (.ref cA) "least_rest" = some (some (.ref f_Answers_least_rest)))
    (i_Answers_least_rest : PySem.W.isFn K (.ref f_Answers_least_rest) = true)
    (l_Answers_least_rest : K.lookup f_Answers_least_rest = some ⟨oc_Answers_least_rest, od_Answers_least_rest, .func (PySem.W.fnOf "least_rest" "Answers.least_rest" (defArgs s_Answers_least_rest) (defBody s_Answers_least_rest) (defScope s_Answers_least_rest) .none kv_Answers_least_rest dc_Answers_least_rest pm_Answers_least_rest an_Answers_least_rest cd_Answers_least_rest ct_Answers_least_rest), sl_Answers_least_rest⟩)
    (c_Answers_least_rest : PySem.W.codeIn K cd_Answers_least_rest "Answers.least_rest" = true)
    (k_Answers_least_rest : PySem.W.keepIn K (.ref f_Answers_least_rest) = true)
    (a_Answers_spots_along : PySem.W.findIn K (.ref cA) "spots_along" = some (some (.ref f_Answers_spots_along)))
    (i_Answers_spots_along : PySem.W.isFn K (.ref f_Answers_spots_along) = true)
    (l_Answers_spots_along : K.lookup f_Answers_spots_along = some ⟨oc_Answers_spots_along, od_Answers_spots_along, .func (PySem.W.fnOf "spots_along" "Answers.spots_along" (defArgs s_Answers_spots_along) (defBody s_Answers_spots_along) (defScope s_Answers_spots_along) .none kv_Answers_spots_along dc_Answers_spots_along pm_Answers_spots_along an_Answers_spots_along cd_Answers_spots_along ct_Answers_spots_along), sl_Answers_spots_along⟩)
    (c_Answers_spots_along : PySem.W.codeIn K cd_Answers_spots_along "Answers.spots_along" = true)
    (k_Answers_spots_along : PySem.W.keepIn K (.ref f_Answers_spots_along) = true)
    (a_Answers_init : PySem.W.findIn K (.ref cA) "__init__" = some (some (.ref f_Answers_init)))
    (i_Answers_init : PySem.W.isFn K (.ref f_Answers_init) = true)
    (l_Answers_init : K.lookup f_Answers_init = some ⟨oc_Answers_init, od_Answers_init, .func (PySem.W.fnOf "__init__" "Answers.__init__" (defArgs s_Answers_init) (defBody s_Answers_init) (defScope s_Answers_init) .none kv_Answers_init dc_Answers_init pm_Answers_init an_Answers_init cd_Answers_init ct_Answers_init), sl_Answers_init⟩)
    (c_Answers_init : PySem.W.codeIn K cd_Answers_init "Answers.__init__" = true)
    (k_Answers_init : PySem.W.keepIn K (.ref f_Answers_init) = true)
    (a_Answers_first_from : PySem.W.findIn K (.ref cA) "first_from" = some (some (.ref f_Answers_first_from)))
    (i_Answers_first_from : PySem.W.isFn K (.ref f_Answers_first_from) = true)
    (l_Answers_first_from : K.lookup f_Answers_first_from = some ⟨oc_Answers_first_from, od_Answers_first_from, .func (PySem.W.fnOf "first_from" "Answers.first_from" (defArgs s_Answers_first_from) (defBody s_Answers_first_from) (defScope s_Answers_first_from) .none kv_Answers_first_from dc_Answers_first_from pm_Answers_first_from an_Answers_first_from cd_Answers_first_from ct_Answers_first_from), sl_Answers_first_from⟩)
    (c_Answers_first_from : PySem.W.codeIn K cd_Answers_first_from "Answers.first_from" = true)
    (k_Answers_first_from : PySem.W.keepIn K (.ref f_Answers_first_from) = true)
    (a_Answers_holds : PySem.W.findIn K (.ref cA) "holds" = some (some (.ref f_Answers_holds)))
    (i_Answers_holds : PySem.W.isFn K (.ref f_Answers_holds) = true)
    (l_Answers_holds : K.lookup f_Answers_holds = some ⟨oc_Answers_holds, od_Answers_holds, .func (PySem.W.fnOf "holds" "Answers.holds" (defArgs s_Answers_holds) (defBody s_Answers_holds) (defScope s_Answers_holds) .none kv_Answers_holds dc_Answers_holds pm_Answers_holds an_Answers_holds cd_Answers_holds ct_Answers_holds), sl_Answers_holds⟩)
    (c_Answers_holds : PySem.W.codeIn K cd_Answers_holds "Answers.holds" = true)
    (k_Answers_holds : PySem.W.keepIn K (.ref f_Answers_holds) = true)
    (a_is_endless : PySem.W.nsIn K mainGlobals "is_endless" = some (some (.ref f_is_endless)))
    (l_is_endless : K.lookup f_is_endless = some ⟨oc_is_endless, od_is_endless, .func (PySem.W.fnOf "is_endless" "is_endless" (defArgs s_is_endless) (defBody s_is_endless) (defScope s_is_endless) .none kv_is_endless dc_is_endless pm_is_endless an_is_endless cd_is_endless ct_is_endless), sl_is_endless⟩)
    (c_is_endless : PySem.W.codeIn K cd_is_endless "is_endless" = true)
    (k_is_endless : PySem.W.keepIn K (.ref f_is_endless) = true)
    (a_made_of_two : PySem.W.nsIn K mainGlobals "made_of_two" = some (some (.ref f_made_of_two)))
    (l_made_of_two : K.lookup f_made_of_two = some ⟨oc_made_of_two, od_made_of_two, .func (PySem.W.fnOf "made_of_two" "made_of_two" (defArgs s_made_of_two) (defBody s_made_of_two) (defScope s_made_of_two) .none kv_made_of_two dc_made_of_two pm_made_of_two an_made_of_two cd_made_of_two ct_made_of_two), sl_made_of_two⟩)
    (c_made_of_two : PySem.W.codeIn K cd_made_of_two "made_of_two" = true)
    (k_made_of_two : PySem.W.keepIn K (.ref f_made_of_two) = true)
    (a_Desk_new : PySem.W.findIn K (.ref cD) "new" = some (some (.ref f_Desk_new)))
    (i_Desk_new : PySem.W.isFn K (.ref f_Desk_new) = true)
    (l_Desk_new : K.lookup f_Desk_new = some ⟨oc_Desk_new, od_Desk_new, .func (PySem.W.fnOf "new" "Desk.new" (defArgs s_Desk_new) (defBody s_Desk_new) (defScope s_Desk_new) .none kv_Desk_new dc_Desk_new pm_Desk_new an_Desk_new cd_Desk_new ct_Desk_new), sl_Desk_new⟩)
    (c_Desk_new : PySem.W.codeIn K cd_Desk_new "Desk.new" = true)
    (k_Desk_new : PySem.W.keepIn K (.ref f_Desk_new) = true)
    (a_Desk_of_one : PySem.W.findIn K (.ref cD) "of_one" = some (some (.ref f_Desk_of_one)))
    (i_Desk_of_one : PySem.W.isFn K (.ref f_Desk_of_one) = true)
    (l_Desk_of_one : K.lookup f_Desk_of_one = some ⟨oc_Desk_of_one, od_Desk_of_one, .func (PySem.W.fnOf "of_one" "Desk.of_one" (defArgs s_Desk_of_one) (defBody s_Desk_of_one) (defScope s_Desk_of_one) .none kv_Desk_of_one dc_Desk_of_one pm_Desk_of_one an_Desk_of_one cd_Desk_of_one ct_Desk_of_one), sl_Desk_of_one⟩)
    (c_Desk_of_one : PySem.W.codeIn K cd_Desk_of_one "Desk.of_one" = true)
    (k_Desk_of_one : PySem.W.keepIn K (.ref f_Desk_of_one) = true)
    (a_Answers_next_after : PySem.W.findIn K (.ref cA) "next_after" = some (some (.ref f_Answers_next_after)))
    (i_Answers_next_after : PySem.W.isFn K (.ref f_Answers_next_after) = true)
    (l_Answers_next_after : K.lookup f_Answers_next_after = some ⟨oc_Answers_next_after, od_Answers_next_after, .func (PySem.W.fnOf "next_after" "Answers.next_after" (defArgs s_Answers_next_after) (defBody s_Answers_next_after) (defScope s_Answers_next_after) .none kv_Answers_next_after dc_Answers_next_after pm_Answers_next_after an_Answers_next_after cd_Answers_next_after ct_Answers_next_after), sl_Answers_next_after⟩)
    (c_Answers_next_after : PySem.W.codeIn K cd_Answers_next_after "Answers.next_after" = true)
    (k_Answers_next_after : PySem.W.keepIn K (.ref f_Answers_next_after) = true)
    (a_Desk_of_two : PySem.W.findIn K (.ref cD) "of_two" = some (some (.ref f_Desk_of_two)))
    (i_Desk_of_two : PySem.W.isFn K (.ref f_Desk_of_two) = true)
    (l_Desk_of_two : K.lookup f_Desk_of_two = some ⟨oc_Desk_of_two, od_Desk_of_two, .func (PySem.W.fnOf "of_two" "Desk.of_two" (defArgs s_Desk_of_two) (defBody s_Desk_of_two) (defScope s_Desk_of_two) .none kv_Desk_of_two dc_Desk_of_two pm_Desk_of_two an_Desk_of_two cd_Desk_of_two ct_Desk_of_two), sl_Desk_of_two⟩)
    (c_Desk_of_two : PySem.W.codeIn K cd_Desk_of_two "Desk.of_two" = true)
    (k_Desk_of_two : PySem.W.keepIn K (.ref f_Desk_of_two) = true)
    (a_Desk_endless : PySem.W.findIn K (.ref cD) "endless" = some (some (.ref f_Desk_endless)))
    (i_Desk_endless : PySem.W.isFn K (.ref f_Desk_endless) = true)
    (l_Desk_endless : K.lookup f_Desk_endless = some ⟨oc_Desk_endless, od_Desk_endless, .func (PySem.W.fnOf "endless" "Desk.endless" (defArgs s_Desk_endless) (defBody s_Desk_endless) (defScope s_Desk_endless) .none kv_Desk_endless dc_Desk_endless pm_Desk_endless an_Desk_endless cd_Desk_endless ct_Desk_endless), sl_Desk_endless⟩)
    (c_Desk_endless : PySem.W.codeIn K cd_Desk_endless "Desk.endless" = true)
    (k_Desk_endless : PySem.W.keepIn K (.ref f_Desk_endless) = true)
    (a_Desk_next_word : PySem.W.findIn K (.ref cD) "next_word" = some (some (.ref f_Desk_next_word)))
    (i_Desk_next_word : PySem.W.isFn K (.ref f_Desk_next_word) = true)
    (l_Desk_next_word : K.lookup f_Desk_next_word = some ⟨oc_Desk_next_word, od_Desk_next_word, .func (PySem.W.fnOf "next_word" "Desk.next_word" (defArgs s_Desk_next_word) (defBody s_Desk_next_word) (defScope s_Desk_next_word) .none kv_Desk_next_word dc_Desk_next_word pm_Desk_next_word an_Desk_next_word cd_Desk_next_word ct_Desk_next_word), sl_Desk_next_word⟩)
    (c_Desk_next_word : PySem.W.codeIn K cd_Desk_next_word "Desk.next_word" = true)
    (k_Desk_next_word : PySem.W.keepIn K (.ref f_Desk_next_word) = true)
    (a_Desk_later : PySem.W.findIn K (.ref cD) "later" = some (some (.ref f_Desk_later)))
    (i_Desk_later : PySem.W.isFn K (.ref f_Desk_later) = true)
    (l_Desk_later : K.lookup f_Desk_later = some ⟨oc_Desk_later, od_Desk_later, .func (PySem.W.fnOf "later" "Desk.later" (defArgs s_Desk_later) (defBody s_Desk_later) (defScope s_Desk_later) .none kv_Desk_later dc_Desk_later pm_Desk_later an_Desk_later cd_Desk_later ct_Desk_later), sl_Desk_later⟩)
    (c_Desk_later : PySem.W.codeIn K cd_Desk_later "Desk.later" = true)
    (k_Desk_later : PySem.W.keepIn K (.ref f_Desk_later) = true)
    (a_Desk_holds : PySem.W.findIn K (.ref cD) "holds" = some (some (.ref f_Desk_holds)))
    (i_Desk_holds : PySem.W.isFn K (.ref f_Desk_holds) = true)
    (l_Desk_holds : K.lookup f_Desk_holds = some ⟨oc_Desk_holds, od_Desk_holds, .func (PySem.W.fnOf "holds" "Desk.holds" (defArgs s_Desk_holds) (defBody s_Desk_holds) (defScope s_Desk_holds) .none kv_Desk_holds dc_Desk_holds pm_Desk_holds an_Desk_holds cd_Desk_holds ct_Desk_holds), sl_Desk_holds⟩)
    (c_Desk_holds : PySem.W.codeIn K cd_Desk_holds "Desk.holds" = true)
    (k_Desk_holds : PySem.W.keepIn K (.ref f_Desk_holds) = true)
    (a_making : PySem.W.nsIn K mainGlobals "making" = some (some (.ref f_making)))
    (l_making : K.lookup f_making = some ⟨oc_making, od_making, .func (PySem.W.fnOf "making" "making" (defArgs s_making) (defBody s_making) (defScope s_making) .none kv_making dc_making pm_making an_making cd_making ct_making), sl_making⟩)
    (c_making : PySem.W.codeIn K cd_making "making" = true)
    (k_making : PySem.W.keepIn K (.ref f_making) = true)
    (a_of_words : PySem.W.nsIn K mainGlobals "of_words" = some (some (.ref f_of_words)))
    (l_of_words : K.lookup f_of_words = some ⟨oc_of_words, od_of_words, .func (PySem.W.fnOf "of_words" "of_words" (defArgs s_of_words) (defBody s_of_words) (defScope s_of_words) .none kv_of_words dc_of_words pm_of_words an_of_words cd_of_words ct_of_words), sl_of_words⟩)
    (c_of_words : PySem.W.codeIn K cd_of_words "of_words" = true)
    (k_of_words : PySem.W.keepIn K (.ref f_of_words) = true)
    (a_of_place : PySem.W.nsIn K mainGlobals "of_place" = some (some (.ref f_of_place)))
    (l_of_place : K.lookup f_of_place = some ⟨oc_of_place, od_of_place, .func (PySem.W.fnOf "of_place" "of_place" (defArgs s_of_place) (defBody s_of_place) (defScope s_of_place) .none kv_of_place dc_of_place pm_of_place an_of_place cd_of_place ct_of_place), sl_of_place⟩)
    (c_of_place : PySem.W.codeIn K cd_of_place "of_place" = true)
    (k_of_place : PySem.W.keepIn K (.ref f_of_place) = true)
    (a_answers : PySem.W.nsIn K mainGlobals "answers" = some (some (.ref f_answers)))
    (l_answers : K.lookup f_answers = some ⟨oc_answers, od_answers, .func (PySem.W.fnOf "answers" "answers" (defArgs s_answers) (defBody s_answers) (defScope s_answers) .none kv_answers dc_answers pm_answers an_answers cd_answers ct_answers), sl_answers⟩)
    (c_answers : PySem.W.codeIn K cd_answers "answers" = true)
    (k_answers : PySem.W.keepIn K (.ref f_answers) = true)
    : ∃ fd : FuncData, (∀ (s : Shared) (us : List Value), us.length = (["calls"] : List Str).length → BindsTo s fd ⟨us, []⟩ ((["calls"] : List Str).zip us)) ∧ ∀ base : Heap, K.In base → base.Ns mainGlobals mg → FnOk P w K mg base CX0 9 fa fd ["calls"] (spTop K) := by
  have e := hfa.symm.trans (PySem.W.mg_of X N a_answers)
  cases e
  have T : Txt ⟨K, cM, cT, cA, cD, aN, aL⟩ mg := ⟨⟨_, PySem.W.mg_of X N v_NOTHING⟩, ⟨_, PySem.W.mg_of X N v_MOST_STATES⟩, ⟨_, PySem.W.mg_of X N v_MOST_ARCS⟩, ⟨_, PySem.W.mg_of X N v_LONGEST⟩, ⟨_, PySem.W.mg_of X N v_PLACES⟩, ⟨_, PySem.W.mg_of X N v_JOIN⟩, ⟨_, PySem.W.mg_of X N v_FOLLOW⟩, ⟨_, PySem.W.mg_of X N v_NEW⟩, ⟨_, PySem.W.mg_of X N v_AGAIN⟩, PySem.W.mg_of X N v_NUMBERS, PySem.W.mg_of X N v_LISTS, tupOk_ok q_NUMBERS z_NUMBERS, tupOk_ok q_LISTS z_LISTS, PySem.W.mg_none_of X N b_len, PySem.W.mg_none_of X N b_int, PySem.W.mg_none_of X N b_min, PySem.W.mg_none_of X N b_list, PySem.W.mg_none_of X N b_tuple, PySem.W.mg_none_of X N b_range, PySem.W.mg_none_of X N b_reversed, ⟨pg_Machine, hd_Machine, po_Machine, sa_Machine⟩, ⟨pg_Turning, hd_Turning, po_Turning, sa_Turning⟩, ⟨pg_Answers, hd_Answers, po_Answers, sa_Answers⟩, ⟨pg_Desk, hd_Desk, po_Desk, sa_Desk⟩, n_Machine_states, n_Machine_finals, n_Machine_arcs, n_Machine_told_states, n_Machine_told_arcs, n_Machine_is_built, n_Turning_machine, n_Turning_word, n_Turning_silent, n_Turning_writing, n_Answers_turning, n_Answers_rows, n_Desk_places⟩
  have F_Machine_init := fun_mk (st := s_Machine_init) l_Machine_init c_Machine_init k_Machine_init
  have B_Machine_init := F_Machine_init.binds (ps := p_Machine_init) fun _ _ _ _ _ _ us hl => match us, hl with | [_, _, _, _], _ => rfl
  have F_Machine_has_state := fun_mk (st := s_Machine_has_state) l_Machine_has_state c_Machine_has_state k_Machine_has_state
  have B_Machine_has_state := F_Machine_has_state.binds (ps := p_Machine_has_state) fun _ _ _ _ _ _ us hl => match us, hl with | [_, _], _ => rfl
  have F_Machine_add_state := fun_mk (st := s_Machine_add_state) l_Machine_add_state c_Machine_add_state k_Machine_add_state
  have B_Machine_add_state := F_Machine_add_state.binds (ps := p_Machine_add_state) fun _ _ _ _ _ _ us hl => match us, hl with | [_], _ => rfl
  have F_Machine_add_arc := fun_mk (st := s_Machine_add_arc) l_Machine_add_arc c_Machine_add_arc k_Machine_add_arc
  have B_Machine_add_arc := F_Machine_add_arc.binds (ps := p_Machine_add_arc) fun _ _ _ _ _ _ us hl => match us, hl with | [_, _], _ => rfl
  have F_Machine_set_final := fun_mk (st := s_Machine_set_final) l_Machine_set_final c_Machine_set_final k_Machine_set_final
  have B_Machine_set_final := F_Machine_set_final.binds (ps := p_Machine_set_final) fun _ _ _ _ _ _ us hl => match us, hl with | [_, _, _], _ => rfl
  have F_Machine_turn := fun_mk (st := s_Machine_turn) l_Machine_turn c_Machine_turn k_Machine_turn
  have B_Machine_turn := F_Machine_turn.binds (ps := p_Machine_turn) fun _ _ _ _ _ _ us hl => match us, hl with | [_], _ => rfl
  have F_moved := fun_mk (st := s_moved) l_moved c_moved k_moved
  have B_moved := F_moved.binds (ps := p_moved) fun _ _ _ _ _ _ us hl => match us, hl with | [_, _], _ => rfl
  have F_is_too_great := fun_mk (st := s_is_too_great) l_is_too_great c_is_too_great k_is_too_great
  have B_is_too_great := F_is_too_great.binds (ps := p_is_too_great) fun _ _ _ _ _ _ us hl => match us, hl with | [_], _ => rfl
  have F_finished := fun_mk (st := s_finished) l_finished c_finished k_finished
  have B_finished := F_finished.binds (ps := p_finished) fun _ _ _ _ _ _ us hl => match us, hl with | [_, _], _ => rfl
  have F_join_numbers := fun_mk (st := s_join_numbers) l_join_numbers c_join_numbers k_join_numbers
  have B_join_numbers := F_join_numbers.binds (ps := p_join_numbers) fun _ _ _ _ _ _ us hl => match us, hl with | [_, _], _ => rfl
  have F_follow_numbers := fun_mk (st := s_follow_numbers) l_follow_numbers c_follow_numbers k_follow_numbers
  have B_follow_numbers := F_follow_numbers.binds (ps := p_follow_numbers) fun _ _ _ _ _ _ us hl => match us, hl with | [_, _], _ => rfl
  have F_again_numbers := fun_mk (st := s_again_numbers) l_again_numbers c_again_numbers k_again_numbers
  have B_again_numbers := F_again_numbers.binds (ps := p_again_numbers) fun _ _ _ _ _ _ us hl => match us, hl with | [_], _ => rfl
  have F_behind_numbers := fun_mk (st := s_behind_numbers) l_behind_numbers c_behind_numbers k_behind_numbers
  have B_behind_numbers := F_behind_numbers.binds (ps := p_behind_numbers) fun _ _ _ _ _ _ us hl => match us, hl with | [_, _], _ => rfl
  have F_behind_arcs := fun_mk (st := s_behind_arcs) l_behind_arcs c_behind_arcs k_behind_arcs
  have B_behind_arcs := F_behind_arcs.binds (ps := p_behind_arcs) fun _ _ _ _ _ _ us hl => match us, hl with | [_, _], _ => rfl
  have F_Turning_note := fun_mk (st := s_Turning_note) l_Turning_note c_Turning_note k_Turning_note
  have B_Turning_note := F_Turning_note.binds (ps := p_Turning_note) fun _ _ _ _ _ _ us hl => match us, hl with | [_, _, _, _], _ => rfl
  have F_Turning_spots := fun_mk (st := s_Turning_spots) l_Turning_spots c_Turning_spots k_Turning_spots
  have B_Turning_spots := F_Turning_spots.binds (ps := p_Turning_spots) fun _ _ _ _ _ _ us hl => match us, hl with | [_], _ => rfl
  have F_Turning_is_end := fun_mk (st := s_Turning_is_end) l_Turning_is_end c_Turning_is_end k_Turning_is_end
  have B_Turning_is_end := F_Turning_is_end.binds (ps := p_Turning_is_end) fun _ _ _ _ _ _ us hl => match us, hl with | [_, _], _ => rfl
  have F_Turning_closed := fun_mk (st := s_Turning_closed) l_Turning_closed c_Turning_closed k_Turning_closed
  have B_Turning_closed := F_Turning_closed.binds (ps := p_Turning_closed) fun _ _ _ _ _ _ us hl => match us, hl with | [_, _], _ => rfl
  have F_Turning_leads := fun_mk (st := s_Turning_leads) l_Turning_leads c_Turning_leads k_Turning_leads
  have B_Turning_leads := F_Turning_leads.binds (ps := p_Turning_leads) fun _ _ _ _ _ _ us hl => match us, hl with | [_, _, _], _ => rfl
  have F_Turning_least_byte := fun_mk (st := s_Turning_least_byte) l_Turning_least_byte c_Turning_least_byte k_Turning_least_byte
  have B_Turning_least_byte := F_Turning_least_byte.binds (ps := p_Turning_least_byte) fun _ _ _ _ _ _ us hl => match us, hl with | [_, _, _, _], _ => rfl
  have F_come_to := fun_mk (st := s_come_to) l_come_to c_come_to k_come_to
  have B_come_to := F_come_to.binds (ps := p_come_to) fun _ _ _ _ _ _ us hl => match us, hl with | [_, _], _ => rfl
  have F_reached_spots := fun_mk (st := s_reached_spots) l_reached_spots c_reached_spots k_reached_spots
  have B_reached_spots := F_reached_spots.binds (ps := p_reached_spots) fun _ _ _ _ _ _ us hl => match us, hl with | [_], _ => rfl
  have F_told := fun_mk (st := s_told) l_told c_told k_told
  have B_told := F_told.binds (ps := p_told) fun _ _ _ _ _ _ us hl => match us, hl with | [_, _, _], _ => rfl
  have F_is_written := fun_mk (st := s_is_written) l_is_written c_is_written k_is_written
  have B_is_written := F_is_written.binds (ps := p_is_written) fun _ _ _ _ _ _ us hl => match us, hl with | [_], _ => rfl
  have F_Desk_init := fun_mk (st := s_Desk_init) l_Desk_init c_Desk_init k_Desk_init
  have B_Desk_init := F_Desk_init.binds (ps := p_Desk_init) fun _ _ _ _ _ _ us hl => match us, hl with | [_], _ => rfl
  have F_Desk_refusal := fun_mk (st := s_Desk_refusal) l_Desk_refusal c_Desk_refusal k_Desk_refusal
  have B_Desk_refusal := F_Desk_refusal.binds (ps := p_Desk_refusal) fun _ _ _ _ _ _ us hl => match us, hl with | [_, _], _ => rfl
  have F_Turning_init := fun_mk (st := s_Turning_init) l_Turning_init c_Turning_init k_Turning_init
  have B_Turning_init := F_Turning_init.binds (ps := p_Turning_init) fun _ _ _ _ _ _ us hl => match us, hl with | [_, _, _], _ => rfl
  have F_Turning_begin := fun_mk (st := s_Turning_begin) l_Turning_begin c_Turning_begin k_Turning_begin
  have B_Turning_begin := F_Turning_begin.binds (ps := p_Turning_begin) fun _ _ _ _ _ _ us hl => match us, hl with | [_], _ => rfl
  have F_Turning_step := fun_mk (st := s_Turning_step) l_Turning_step c_Turning_step k_Turning_step
  have B_Turning_step := F_Turning_step.binds (ps := p_Turning_step) fun _ _ _ _ _ _ us hl => match us, hl with | [_, _, _], _ => rfl
  have F_Turning_has_end := fun_mk (st := s_Turning_has_end) l_Turning_has_end c_Turning_has_end k_Turning_has_end
  have B_Turning_has_end := F_Turning_has_end.binds (ps := p_Turning_has_end) fun _ _ _ _ _ _ us hl => match us, hl with | [_, _], _ => rfl
  have F_circling_states := fun_mk (st := s_circling_states) l_circling_states c_circling_states k_circling_states
  have B_circling_states := F_circling_states.binds (ps := p_circling_states) fun _ _ _ _ _ _ us hl => match us, hl with | [_], _ => rfl
  have F_leads_to_end := fun_mk (st := s_leads_to_end) l_leads_to_end c_leads_to_end k_leads_to_end
  have B_leads_to_end := F_leads_to_end.binds (ps := p_leads_to_end) fun _ _ _ _ _ _ us hl => match us, hl with | [_, _], _ => rfl
  have F_told_word := fun_mk (st := s_told_word) l_told_word c_told_word k_told_word
  have B_told_word := F_told_word.binds (ps := p_told_word) fun _ _ _ _ _ _ us hl => match us, hl with | [_], _ => rfl
  have F_numbers_of_two := fun_mk (st := s_numbers_of_two) l_numbers_of_two c_numbers_of_two k_numbers_of_two
  have B_numbers_of_two := F_numbers_of_two.binds (ps := p_numbers_of_two) fun _ _ _ _ _ _ us hl => match us, hl with | [_, _, _], _ => rfl
  have F_Desk_state := fun_mk (st := s_Desk_state) l_Desk_state c_Desk_state k_Desk_state
  have B_Desk_state := F_Desk_state.binds (ps := p_Desk_state) fun _ _ _ _ _ _ us hl => match us, hl with | [_, _], _ => rfl
  have F_Desk_final := fun_mk (st := s_Desk_final) l_Desk_final c_Desk_final k_Desk_final
  have B_Desk_final := F_Desk_final.binds (ps := p_Desk_final) fun _ _ _ _ _ _ us hl => match us, hl with | [_, _, _, _], _ => rfl
  have F_Desk_arc := fun_mk (st := s_Desk_arc) l_Desk_arc c_Desk_arc k_Desk_arc
  have B_Desk_arc := F_Desk_arc.binds (ps := p_Desk_arc) fun _ _ _ _ _ _ us hl => match us, hl with | [_, _, _], _ => rfl
  have F_Desk_turn := fun_mk (st := s_Desk_turn) l_Desk_turn c_Desk_turn k_Desk_turn
  have B_Desk_turn := F_Desk_turn.binds (ps := p_Desk_turn) fun _ _ _ _ _ _ us hl => match us, hl with | [_, _], _ => rfl
  have F_Desk_size := fun_mk (st := s_Desk_size) l_Desk_size c_Desk_size k_Desk_size
  have B_Desk_size := F_Desk_size.binds (ps := p_Desk_size) fun _ _ _ _ _ _ us hl => match us, hl with | [_, _], _ => rfl
  have F_new_net := fun_mk (st := s_new_net) l_new_net c_new_net k_new_net
  have B_new_net := F_new_net.binds (ps := p_new_net) fun _ _ _ _ _ _ us hl => match us, hl with | [], _ => rfl
  have F_join := fun_mk (st := s_join) l_join c_join k_join
  have B_join := F_join.binds (ps := p_join) fun _ _ _ _ _ _ us hl => match us, hl with | [_, _], _ => rfl
  have F_follow := fun_mk (st := s_follow) l_follow c_follow k_follow
  have B_follow := F_follow.binds (ps := p_follow) fun _ _ _ _ _ _ us hl => match us, hl with | [_, _], _ => rfl
  have F_again := fun_mk (st := s_again) l_again c_again k_again
  have B_again := F_again.binds (ps := p_again) fun _ _ _ _ _ _ us hl => match us, hl with | [_], _ => rfl
  have F_behind := fun_mk (st := s_behind) l_behind c_behind k_behind
  have B_behind := F_behind.binds (ps := p_behind) fun _ _ _ _ _ _ us hl => match us, hl with | [_, _], _ => rfl
  have F_keep := fun_mk (st := s_keep) l_keep c_keep k_keep
  have B_keep := F_keep.binds (ps := p_keep) fun _ _ _ _ _ _ us hl => match us, hl with | [_], _ => rfl
  have F_Turning_lengths := fun_mk (st := s_Turning_lengths) l_Turning_lengths c_Turning_lengths k_Turning_lengths
  have B_Turning_lengths := F_Turning_lengths.binds (ps := p_Turning_lengths) fun _ _ _ _ _ _ us hl => match us, hl with | [_], _ => rfl
  have F_Answers_least_rest := fun_mk (st := s_Answers_least_rest) l_Answers_least_rest c_Answers_least_rest k_Answers_least_rest
  have B_Answers_least_rest := F_Answers_least_rest.binds (ps := p_Answers_least_rest) fun _ _ _ _ _ _ us hl => match us, hl with | [_, _, _], _ => rfl
  have F_Answers_spots_along := fun_mk (st := s_Answers_spots_along) l_Answers_spots_along c_Answers_spots_along k_Answers_spots_along
  have B_Answers_spots_along := F_Answers_spots_along.binds (ps := p_Answers_spots_along) fun _ _ _ _ _ _ us hl => match us, hl with | [_, _], _ => rfl
  have F_Answers_init := fun_mk (st := s_Answers_init) l_Answers_init c_Answers_init k_Answers_init
  have B_Answers_init := F_Answers_init.binds (ps := p_Answers_init) fun _ _ _ _ _ _ us hl => match us, hl with | [_, _, _], _ => rfl
  have F_Answers_first_from := fun_mk (st := s_Answers_first_from) l_Answers_first_from c_Answers_first_from k_Answers_first_from
  have B_Answers_first_from := F_Answers_first_from.binds (ps := p_Answers_first_from) fun _ _ _ _ _ _ us hl => match us, hl with | [_, _], _ => rfl
  have F_Answers_holds := fun_mk (st := s_Answers_holds) l_Answers_holds c_Answers_holds k_Answers_holds
  have B_Answers_holds := F_Answers_holds.binds (ps := p_Answers_holds) fun _ _ _ _ _ _ us hl => match us, hl with | [_, _], _ => rfl
  have F_is_endless := fun_mk (st := s_is_endless) l_is_endless c_is_endless k_is_endless
  have B_is_endless := F_is_endless.binds (ps := p_is_endless) fun _ _ _ _ _ _ us hl => match us, hl with | [_, _], _ => rfl
  have F_made_of_two := fun_mk (st := s_made_of_two) l_made_of_two c_made_of_two k_made_of_two
  have B_made_of_two := F_made_of_two.binds (ps := p_made_of_two) fun _ _ _ _ _ _ us hl => match us, hl with | [_, _, _], _ => rfl
  have F_Desk_new := fun_mk (st := s_Desk_new) l_Desk_new c_Desk_new k_Desk_new
  have B_Desk_new := F_Desk_new.binds (ps := p_Desk_new) fun _ _ _ _ _ _ us hl => match us, hl with | [_, _], _ => rfl
  have F_Desk_of_one := fun_mk (st := s_Desk_of_one) l_Desk_of_one c_Desk_of_one k_Desk_of_one
  have B_Desk_of_one := F_Desk_of_one.binds (ps := p_Desk_of_one) fun _ _ _ _ _ _ us hl => match us, hl with | [_, _, _, _], _ => rfl
  have F_Answers_next_after := fun_mk (st := s_Answers_next_after) l_Answers_next_after c_Answers_next_after k_Answers_next_after
  have B_Answers_next_after := F_Answers_next_after.binds (ps := p_Answers_next_after) fun _ _ _ _ _ _ us hl => match us, hl with | [_, _], _ => rfl
  have F_Desk_of_two := fun_mk (st := s_Desk_of_two) l_Desk_of_two c_Desk_of_two k_Desk_of_two
  have B_Desk_of_two := F_Desk_of_two.binds (ps := p_Desk_of_two) fun _ _ _ _ _ _ us hl => match us, hl with | [_, _, _, _, _], _ => rfl
  have F_Desk_endless := fun_mk (st := s_Desk_endless) l_Desk_endless c_Desk_endless k_Desk_endless
  have B_Desk_endless := F_Desk_endless.binds (ps := p_Desk_endless) fun _ _ _ _ _ _ us hl => match us, hl with | [_, _, _], _ => rfl
  have F_Desk_next_word := fun_mk (st := s_Desk_next_word) l_Desk_next_word c_Desk_next_word k_Desk_next_word
  have B_Desk_next_word := F_Desk_next_word.binds (ps := p_Desk_next_word) fun _ _ _ _ _ _ us hl => match us, hl with | [_, _, _], _ => rfl
  have F_Desk_later := fun_mk (st := s_Desk_later) l_Desk_later c_Desk_later k_Desk_later
  have B_Desk_later := F_Desk_later.binds (ps := p_Desk_later) fun _ _ _ _ _ _ us hl => match us, hl with | [_, _, _, _], _ => rfl
  have F_Desk_holds := fun_mk (st := s_Desk_holds) l_Desk_holds c_Desk_holds k_Desk_holds
  have B_Desk_holds := F_Desk_holds.binds (ps := p_Desk_holds) fun _ _ _ _ _ _ us hl => match us, hl with | [_, _, _, _], _ => rfl
  have F_making := fun_mk (st := s_making) l_making c_making k_making
  have B_making := F_making.binds (ps := p_making) fun _ _ _ _ _ _ us hl => match us, hl with | [_, _, _], _ => rfl
  have F_of_words := fun_mk (st := s_of_words) l_of_words c_of_words k_of_words
  have B_of_words := F_of_words.binds (ps := p_of_words) fun _ _ _ _ _ _ us hl => match us, hl with | [_, _, _, _], _ => rfl
  have F_of_place := fun_mk (st := s_of_place) l_of_place c_of_place k_of_place
  have B_of_place := F_of_place.binds (ps := p_of_place) fun _ _ _ _ _ _ us hl => match us, hl with | [_, _, _, _], _ => rfl
  have F_answers := fun_mk (st := s_answers) l_answers c_answers k_answers
  have B_answers := F_answers.binds (ps := p_answers) fun _ _ _ _ _ _ us hl => match us, hl with | [_], _ => rfl
  exact ⟨PySem.W.fnOf "answers" "answers" (defArgs s_answers) (defBody s_answers) (defScope s_answers) .none kv_answers dc_answers pm_answers an_answers cd_answers ct_answers, fun s us hu => match us, hu with | [_], _ => .of_eq rfl, fun base _ _ => by
    have K_Machine_init : FnOk P w K mg base CX0 1 f_Machine_init _ p_Machine_init (sp_Machine_init (⟨K, cM, cT, cA, cD, aN, aL⟩ : Gs)) := ok_Machine_init F_Machine_init T 
    have h_Machine : CalC P w K mg base "Machine" cM 1 p_Machine_init (sp_Machine_init (⟨K, cM, cT, cA, cD, aN, aL⟩ : Gs)) := ⟨_, _, PySem.W.mg_of X N a_Machine, ⟨mk_Machine, a_Machine_init, i_Machine_init, kc_Machine⟩, B_Machine_init, K_Machine_init⟩
    have K_Machine_has_state : FnOk P w K mg base CX0 1 f_Machine_has_state _ p_Machine_has_state (sp_Machine_has_state (⟨K, cM, cT, cA, cD, aN, aL⟩ : Gs)) := ok_Machine_has_state F_Machine_has_state T 
    have h_Machine_has_state : CalM P w K mg base cM "has_state" 1 p_Machine_has_state (sp_Machine_has_state (⟨K, cM, cT, cA, cD, aN, aL⟩ : Gs)) := ⟨_, _, T.k_M, ⟨a_Machine_has_state, i_Machine_has_state, k_Machine_has_state⟩, B_Machine_has_state, K_Machine_has_state⟩
    have K_Machine_add_state : FnOk P w K mg base CX0 1 f_Machine_add_state _ p_Machine_add_state (sp_Machine_add_state (⟨K, cM, cT, cA, cD, aN, aL⟩ : Gs)) := ok_Machine_add_state F_Machine_add_state T 
    have h_Machine_add_state : CalM P w K mg base cM "add_state" 1 p_Machine_add_state (sp_Machine_add_state (⟨K, cM, cT, cA, cD, aN, aL⟩ : Gs)) := ⟨_, _, T.k_M, ⟨a_Machine_add_state, i_Machine_add_state, k_Machine_add_state⟩, B_Machine_add_state, K_Machine_add_state⟩
    have K_Machine_add_arc : FnOk P w K mg base CX0 1 f_Machine_add_arc _ p_Machine_add_arc (sp_Machine_add_arc (⟨K, cM, cT, cA, cD, aN, aL⟩ : Gs)) := ok_Machine_add_arc F_Machine_add_arc T 
    have h_Machine_add_arc : CalM P w K mg base cM "add_arc" 1 p_Machine_add_arc (sp_Machine_add_arc (⟨K, cM, cT, cA, cD, aN, aL⟩ : Gs)) := ⟨_, _, T.k_M, ⟨a_Machine_add_arc, i_Machine_add_arc, k_Machine_add_arc⟩, B_Machine_add_arc, K_Machine_add_arc⟩
    have K_Machine_set_final : FnOk P w K mg base CX0 1 f_Machine_set_final _ p_Machine_set_final (sp_Machine_set_final (⟨K, cM, cT, cA, cD, aN, aL⟩ : Gs)) := ok_Machine_set_final F_Machine_set_final T 
    have h_Machine_set_final : CalM P w K mg base cM "set_final" 1 p_Machine_set_final (sp_Machine_set_final (⟨K, cM, cT, cA, cD, aN, aL⟩ : Gs)) := ⟨_, _, T.k_M, ⟨a_Machine_set_final, i_Machine_set_final, k_Machine_set_final⟩, B_Machine_set_final, K_Machine_set_final⟩
    have K_Machine_turn : FnOk P w K mg base CX0 1 f_Machine_turn _ p_Machine_turn (sp_Machine_turn (⟨K, cM, cT, cA, cD, aN, aL⟩ : Gs)) := ok_Machine_turn F_Machine_turn T 
    have h_Machine_turn : CalM P w K mg base cM "turn" 1 p_Machine_turn (sp_Machine_turn (⟨K, cM, cT, cA, cD, aN, aL⟩ : Gs)) := ⟨_, _, T.k_M, ⟨a_Machine_turn, i_Machine_turn, k_Machine_turn⟩, B_Machine_turn, K_Machine_turn⟩
    have K_moved : FnOk P w K mg base CX0 1 f_moved _ p_moved (sp_moved (⟨K, cM, cT, cA, cD, aN, aL⟩ : Gs)) := ok_moved F_moved T 
    have h_moved : CalF P w K mg base "moved" 1 p_moved (sp_moved (⟨K, cM, cT, cA, cD, aN, aL⟩ : Gs)) := ⟨_, _, PySem.W.mg_of X N a_moved, k_moved, B_moved, K_moved⟩
    have K_is_too_great : FnOk P w K mg base CX0 1 f_is_too_great _ p_is_too_great (sp_is_too_great (⟨K, cM, cT, cA, cD, aN, aL⟩ : Gs)) := ok_is_too_great F_is_too_great T 
    have h_is_too_great : CalF P w K mg base "is_too_great" 1 p_is_too_great (sp_is_too_great (⟨K, cM, cT, cA, cD, aN, aL⟩ : Gs)) := ⟨_, _, PySem.W.mg_of X N a_is_too_great, k_is_too_great, B_is_too_great, K_is_too_great⟩
    have K_finished : FnOk P w K mg base CX0 1 f_finished _ p_finished (sp_finished (⟨K, cM, cT, cA, cD, aN, aL⟩ : Gs)) := ok_finished F_finished T 
    have h_finished : CalF P w K mg base "finished" 1 p_finished (sp_finished (⟨K, cM, cT, cA, cD, aN, aL⟩ : Gs)) := ⟨_, _, PySem.W.mg_of X N a_finished, k_finished, B_finished, K_finished⟩
    have K_join_numbers : FnOk P w K mg base CX0 1 f_join_numbers _ p_join_numbers (sp_join_numbers (⟨K, cM, cT, cA, cD, aN, aL⟩ : Gs)) := ok_join_numbers F_join_numbers T 
    have h_join_numbers : CalF P w K mg base "join_numbers" 1 p_join_numbers (sp_join_numbers (⟨K, cM, cT, cA, cD, aN, aL⟩ : Gs)) := ⟨_, _, PySem.W.mg_of X N a_join_numbers, k_join_numbers, B_join_numbers, K_join_numbers⟩
    have K_follow_numbers : FnOk P w K mg base CX0 1 f_follow_numbers _ p_follow_numbers (sp_follow_numbers (⟨K, cM, cT, cA, cD, aN, aL⟩ : Gs)) := ok_follow_numbers F_follow_numbers T 
    have h_follow_numbers : CalF P w K mg base "follow_numbers" 1 p_follow_numbers (sp_follow_numbers (⟨K, cM, cT, cA, cD, aN, aL⟩ : Gs)) := ⟨_, _, PySem.W.mg_of X N a_follow_numbers, k_follow_numbers, B_follow_numbers, K_follow_numbers⟩
    have K_again_numbers : FnOk P w K mg base CX0 1 f_again_numbers _ p_again_numbers (sp_again_numbers (⟨K, cM, cT, cA, cD, aN, aL⟩ : Gs)) := ok_again_numbers F_again_numbers T 
    have h_again_numbers : CalF P w K mg base "again_numbers" 1 p_again_numbers (sp_again_numbers (⟨K, cM, cT, cA, cD, aN, aL⟩ : Gs)) := ⟨_, _, PySem.W.mg_of X N a_again_numbers, k_again_numbers, B_again_numbers, K_again_numbers⟩
    have K_behind_numbers : FnOk P w K mg base CX0 1 f_behind_numbers _ p_behind_numbers (sp_behind_numbers (⟨K, cM, cT, cA, cD, aN, aL⟩ : Gs)) := ok_behind_numbers F_behind_numbers T 
    have h_behind_numbers : CalF P w K mg base "behind_numbers" 1 p_behind_numbers (sp_behind_numbers (⟨K, cM, cT, cA, cD, aN, aL⟩ : Gs)) := ⟨_, _, PySem.W.mg_of X N a_behind_numbers, k_behind_numbers, B_behind_numbers, K_behind_numbers⟩
    have K_behind_arcs : FnOk P w K mg base CX0 1 f_behind_arcs _ p_behind_arcs (sp_behind_arcs (⟨K, cM, cT, cA, cD, aN, aL⟩ : Gs)) := ok_behind_arcs F_behind_arcs T 
    have h_behind_arcs : CalF P w K mg base "behind_arcs" 1 p_behind_arcs (sp_behind_arcs (⟨K, cM, cT, cA, cD, aN, aL⟩ : Gs)) := ⟨_, _, PySem.W.mg_of X N a_behind_arcs, k_behind_arcs, B_behind_arcs, K_behind_arcs⟩
    have K_Turning_note : FnOk P w K mg base CX0 1 f_Turning_note _ p_Turning_note (sp_Turning_note (⟨K, cM, cT, cA, cD, aN, aL⟩ : Gs)) := ok_Turning_note F_Turning_note T 
    have h_Turning_note : CalM P w K mg base cT "note" 1 p_Turning_note (sp_Turning_note (⟨K, cM, cT, cA, cD, aN, aL⟩ : Gs)) := ⟨_, _, T.k_T, ⟨a_Turning_note, i_Turning_note, k_Turning_note⟩, B_Turning_note, K_Turning_note⟩
    have K_Turning_spots : FnOk P w K mg base CX0 1 f_Turning_spots _ p_Turning_spots (sp_Turning_spots (⟨K, cM, cT, cA, cD, aN, aL⟩ : Gs)) := ok_Turning_spots F_Turning_spots T 
    have h_Turning_spots : CalM P w K mg base cT "spots" 1 p_Turning_spots (sp_Turning_spots (⟨K, cM, cT, cA, cD, aN, aL⟩ : Gs)) := ⟨_, _, T.k_T, ⟨a_Turning_spots, i_Turning_spots, k_Turning_spots⟩, B_Turning_spots, K_Turning_spots⟩
    have K_Turning_is_end : FnOk P w K mg base CX0 1 f_Turning_is_end _ p_Turning_is_end (sp_Turning_is_end (⟨K, cM, cT, cA, cD, aN, aL⟩ : Gs)) := ok_Turning_is_end F_Turning_is_end T 
    have h_Turning_is_end : CalM P w K mg base cT "is_end" 1 p_Turning_is_end (sp_Turning_is_end (⟨K, cM, cT, cA, cD, aN, aL⟩ : Gs)) := ⟨_, _, T.k_T, ⟨a_Turning_is_end, i_Turning_is_end, k_Turning_is_end⟩, B_Turning_is_end, K_Turning_is_end⟩
    have K_Turning_closed : FnOk P w K mg base CX0 1 f_Turning_closed _ p_Turning_closed (sp_Turning_closed (⟨K, cM, cT, cA, cD, aN, aL⟩ : Gs)) := ok_Turning_closed F_Turning_closed T 
    have h_Turning_closed : CalM P w K mg base cT "closed" 1 p_Turning_closed (sp_Turning_closed (⟨K, cM, cT, cA, cD, aN, aL⟩ : Gs)) := ⟨_, _, T.k_T, ⟨a_Turning_closed, i_Turning_closed, k_Turning_closed⟩, B_Turning_closed, K_Turning_closed⟩
    have K_Turning_leads : FnOk P w K mg base CX0 1 f_Turning_leads _ p_Turning_leads (sp_Turning_leads (⟨K, cM, cT, cA, cD, aN, aL⟩ : Gs)) := ok_Turning_leads F_Turning_leads T 
    have h_Turning_leads : CalM P w K mg base cT "leads" 1 p_Turning_leads (sp_Turning_leads (⟨K, cM, cT, cA, cD, aN, aL⟩ : Gs)) := ⟨_, _, T.k_T, ⟨a_Turning_leads, i_Turning_leads, k_Turning_leads⟩, B_Turning_leads, K_Turning_leads⟩
    have K_Turning_least_byte : FnOk P w K mg base CX0 1 f_Turning_least_byte _ p_Turning_least_byte (sp_Turning_least_byte (⟨K, cM, cT, cA, cD, aN, aL⟩ : Gs)) := ok_Turning_least_byte F_Turning_least_byte T 
    have h_Turning_least_byte : CalM P w K mg base cT "least_byte" 1 p_Turning_least_byte (sp_Turning_least_byte (⟨K, cM, cT, cA, cD, aN, aL⟩ : Gs)) := ⟨_, _, T.k_T, ⟨a_Turning_least_byte, i_Turning_least_byte, k_Turning_least_byte⟩, B_Turning_least_byte, K_Turning_least_byte⟩
    have K_come_to : FnOk P w K mg base CX0 1 f_come_to _ p_come_to (sp_come_to (⟨K, cM, cT, cA, cD, aN, aL⟩ : Gs)) := ok_come_to F_come_to T 
    have h_come_to : CalF P w K mg base "come_to" 1 p_come_to (sp_come_to (⟨K, cM, cT, cA, cD, aN, aL⟩ : Gs)) := ⟨_, _, PySem.W.mg_of X N a_come_to, k_come_to, B_come_to, K_come_to⟩
    have K_reached_spots : FnOk P w K mg base CX0 1 f_reached_spots _ p_reached_spots (sp_reached_spots (⟨K, cM, cT, cA, cD, aN, aL⟩ : Gs)) := ok_reached_spots F_reached_spots T 
    have h_reached_spots : CalF P w K mg base "reached_spots" 1 p_reached_spots (sp_reached_spots (⟨K, cM, cT, cA, cD, aN, aL⟩ : Gs)) := ⟨_, _, PySem.W.mg_of X N a_reached_spots, k_reached_spots, B_reached_spots, K_reached_spots⟩
    have K_told : FnOk P w K mg base CX0 1 f_told _ p_told (sp_told (⟨K, cM, cT, cA, cD, aN, aL⟩ : Gs)) := ok_told F_told T 
    have h_told : CalF P w K mg base "told" 1 p_told (sp_told (⟨K, cM, cT, cA, cD, aN, aL⟩ : Gs)) := ⟨_, _, PySem.W.mg_of X N a_told, k_told, B_told, K_told⟩
    have K_is_written : FnOk P w K mg base CX0 1 f_is_written _ p_is_written (sp_is_written (⟨K, cM, cT, cA, cD, aN, aL⟩ : Gs)) := ok_is_written F_is_written T 
    have h_is_written : CalF P w K mg base "is_written" 1 p_is_written (sp_is_written (⟨K, cM, cT, cA, cD, aN, aL⟩ : Gs)) := ⟨_, _, PySem.W.mg_of X N a_is_written, k_is_written, B_is_written, K_is_written⟩
    have K_Desk_init : FnOk P w K mg base CX0 1 f_Desk_init _ p_Desk_init (sp_Desk_init (⟨K, cM, cT, cA, cD, aN, aL⟩ : Gs)) := ok_Desk_init F_Desk_init T 
    have h_Desk : CalC P w K mg base "Desk" cD 1 p_Desk_init (sp_Desk_init (⟨K, cM, cT, cA, cD, aN, aL⟩ : Gs)) := ⟨_, _, PySem.W.mg_of X N a_Desk, ⟨mk_Desk, a_Desk_init, i_Desk_init, kc_Desk⟩, B_Desk_init, K_Desk_init⟩
    have K_Desk_refusal : FnOk P w K mg base CX0 1 f_Desk_refusal _ p_Desk_refusal (sp_Desk_refusal (⟨K, cM, cT, cA, cD, aN, aL⟩ : Gs)) := ok_Desk_refusal F_Desk_refusal T 
    have h_Desk_refusal : CalM P w K mg base cD "refusal" 1 p_Desk_refusal (sp_Desk_refusal (⟨K, cM, cT, cA, cD, aN, aL⟩ : Gs)) := ⟨_, _, T.k_D, ⟨a_Desk_refusal, i_Desk_refusal, k_Desk_refusal⟩, B_Desk_refusal, K_Desk_refusal⟩
    have K_Turning_init : FnOk P w K mg base CX0 2 f_Turning_init _ p_Turning_init (sp_Turning_init (⟨K, cM, cT, cA, cD, aN, aL⟩ : Gs)) := ok_Turning_init F_Turning_init T h_Turning_note
    have h_Turning : CalC P w K mg base "Turning" cT 2 p_Turning_init (sp_Turning_init (⟨K, cM, cT, cA, cD, aN, aL⟩ : Gs)) := ⟨_, _, PySem.W.mg_of X N a_Turning, ⟨mk_Turning, a_Turning_init, i_Turning_init, kc_Turning⟩, B_Turning_init, K_Turning_init⟩
    have K_Turning_begin : FnOk P w K mg base CX0 2 f_Turning_begin _ p_Turning_begin (sp_Turning_begin (⟨K, cM, cT, cA, cD, aN, aL⟩ : Gs)) := ok_Turning_begin F_Turning_begin T h_Turning_closed
    have h_Turning_begin : CalM P w K mg base cT "begin" 2 p_Turning_begin (sp_Turning_begin (⟨K, cM, cT, cA, cD, aN, aL⟩ : Gs)) := ⟨_, _, T.k_T, ⟨a_Turning_begin, i_Turning_begin, k_Turning_begin⟩, B_Turning_begin, K_Turning_begin⟩
    have K_Turning_step : FnOk P w K mg base CX0 2 f_Turning_step _ p_Turning_step (sp_Turning_step (⟨K, cM, cT, cA, cD, aN, aL⟩ : Gs)) := ok_Turning_step F_Turning_step T h_Turning_closed
    have h_Turning_step : CalM P w K mg base cT "step" 2 p_Turning_step (sp_Turning_step (⟨K, cM, cT, cA, cD, aN, aL⟩ : Gs)) := ⟨_, _, T.k_T, ⟨a_Turning_step, i_Turning_step, k_Turning_step⟩, B_Turning_step, K_Turning_step⟩
    have K_Turning_has_end : FnOk P w K mg base CX0 2 f_Turning_has_end _ p_Turning_has_end (sp_Turning_has_end (⟨K, cM, cT, cA, cD, aN, aL⟩ : Gs)) := ok_Turning_has_end F_Turning_has_end T h_Turning_is_end
    have h_Turning_has_end : CalM P w K mg base cT "has_end" 2 p_Turning_has_end (sp_Turning_has_end (⟨K, cM, cT, cA, cD, aN, aL⟩ : Gs)) := ⟨_, _, T.k_T, ⟨a_Turning_has_end, i_Turning_has_end, k_Turning_has_end⟩, B_Turning_has_end, K_Turning_has_end⟩
    have K_circling_states : FnOk P w K mg base CX0 2 f_circling_states _ p_circling_states (sp_circling_states (⟨K, cM, cT, cA, cD, aN, aL⟩ : Gs)) := ok_circling_states F_circling_states T h_come_to
    have h_circling_states : CalF P w K mg base "circling_states" 2 p_circling_states (sp_circling_states (⟨K, cM, cT, cA, cD, aN, aL⟩ : Gs)) := ⟨_, _, PySem.W.mg_of X N a_circling_states, k_circling_states, B_circling_states, K_circling_states⟩
    have K_leads_to_end : FnOk P w K mg base CX0 2 f_leads_to_end _ p_leads_to_end (sp_leads_to_end (⟨K, cM, cT, cA, cD, aN, aL⟩ : Gs)) := ok_leads_to_end F_leads_to_end T h_Turning_is_end
    have h_leads_to_end : CalF P w K mg base "leads_to_end" 2 p_leads_to_end (sp_leads_to_end (⟨K, cM, cT, cA, cD, aN, aL⟩ : Gs)) := ⟨_, _, PySem.W.mg_of X N a_leads_to_end, k_leads_to_end, B_leads_to_end, K_leads_to_end⟩
    have K_told_word : FnOk P w K mg base CX0 2 f_told_word _ p_told_word (sp_told_word (⟨K, cM, cT, cA, cD, aN, aL⟩ : Gs)) := ok_told_word F_told_word T h_told
    have h_told_word : CalF P w K mg base "told_word" 2 p_told_word (sp_told_word (⟨K, cM, cT, cA, cD, aN, aL⟩ : Gs)) := ⟨_, _, PySem.W.mg_of X N a_told_word, k_told_word, B_told_word, K_told_word⟩
    have K_numbers_of_two : FnOk P w K mg base CX0 2 f_numbers_of_two _ p_numbers_of_two (sp_numbers_of_two (⟨K, cM, cT, cA, cD, aN, aL⟩ : Gs)) := ok_numbers_of_two F_numbers_of_two T h_join_numbers h_follow_numbers h_behind_numbers
    have h_numbers_of_two : CalF P w K mg base "numbers_of_two" 2 p_numbers_of_two (sp_numbers_of_two (⟨K, cM, cT, cA, cD, aN, aL⟩ : Gs)) := ⟨_, _, PySem.W.mg_of X N a_numbers_of_two, k_numbers_of_two, B_numbers_of_two, K_numbers_of_two⟩
    have K_Desk_state : FnOk P w K mg base CX0 2 f_Desk_state _ p_Desk_state (sp_Desk_state (⟨K, cM, cT, cA, cD, aN, aL⟩ : Gs)) := ok_Desk_state F_Desk_state T h_Machine_add_state
    have h_Desk_state : CalM P w K mg base cD "state" 2 p_Desk_state (sp_Desk_state (⟨K, cM, cT, cA, cD, aN, aL⟩ : Gs)) := ⟨_, _, T.k_D, ⟨a_Desk_state, i_Desk_state, k_Desk_state⟩, B_Desk_state, K_Desk_state⟩
    have K_Desk_final : FnOk P w K mg base CX0 2 f_Desk_final _ p_Desk_final (sp_Desk_final (⟨K, cM, cT, cA, cD, aN, aL⟩ : Gs)) := ok_Desk_final F_Desk_final T h_Machine_has_state h_Machine_set_final
    have h_Desk_final : CalM P w K mg base cD "final" 2 p_Desk_final (sp_Desk_final (⟨K, cM, cT, cA, cD, aN, aL⟩ : Gs)) := ⟨_, _, T.k_D, ⟨a_Desk_final, i_Desk_final, k_Desk_final⟩, B_Desk_final, K_Desk_final⟩
    have K_Desk_arc : FnOk P w K mg base CX0 2 f_Desk_arc _ p_Desk_arc (sp_Desk_arc (⟨K, cM, cT, cA, cD, aN, aL⟩ : Gs)) := ok_Desk_arc F_Desk_arc T h_Machine_has_state h_is_written h_Machine_add_arc
    have h_Desk_arc : CalM P w K mg base cD "arc" 2 p_Desk_arc (sp_Desk_arc (⟨K, cM, cT, cA, cD, aN, aL⟩ : Gs)) := ⟨_, _, T.k_D, ⟨a_Desk_arc, i_Desk_arc, k_Desk_arc⟩, B_Desk_arc, K_Desk_arc⟩
    have K_Desk_turn : FnOk P w K mg base CX0 2 f_Desk_turn _ p_Desk_turn (sp_Desk_turn (⟨K, cM, cT, cA, cD, aN, aL⟩ : Gs)) := ok_Desk_turn F_Desk_turn T h_Machine_turn
    have h_Desk_turn : CalM P w K mg base cD "turn" 2 p_Desk_turn (sp_Desk_turn (⟨K, cM, cT, cA, cD, aN, aL⟩ : Gs)) := ⟨_, _, T.k_D, ⟨a_Desk_turn, i_Desk_turn, k_Desk_turn⟩, B_Desk_turn, K_Desk_turn⟩
    have K_Desk_size : FnOk P w K mg base CX0 2 f_Desk_size _ p_Desk_size (sp_Desk_size (⟨K, cM, cT, cA, cD, aN, aL⟩ : Gs)) := ok_Desk_size F_Desk_size T h_told
    have h_Desk_size : CalM P w K mg base cD "size" 2 p_Desk_size (sp_Desk_size (⟨K, cM, cT, cA, cD, aN, aL⟩ : Gs)) := ⟨_, _, T.k_D, ⟨a_Desk_size, i_Desk_size, k_Desk_size⟩, B_Desk_size, K_Desk_size⟩
    have K_new_net : FnOk P w K mg base CX0 3 f_new_net _ p_new_net (sp_new_net (⟨K, cM, cT, cA, cD, aN, aL⟩ : Gs)) := ok_new_net F_new_net T h_Machine
    have h_new_net : CalF P w K mg base "new_net" 3 p_new_net (sp_new_net (⟨K, cM, cT, cA, cD, aN, aL⟩ : Gs)) := ⟨_, _, PySem.W.mg_of X N a_new_net, k_new_net, B_new_net, K_new_net⟩
    have K_join : FnOk P w K mg base CX0 3 f_join _ p_join (sp_join (⟨K, cM, cT, cA, cD, aN, aL⟩ : Gs)) := ok_join F_join T h_moved h_finished h_Machine h_join_numbers
    have h_join : CalF P w K mg base "join" 3 p_join (sp_join (⟨K, cM, cT, cA, cD, aN, aL⟩ : Gs)) := ⟨_, _, PySem.W.mg_of X N a_join, k_join, B_join, K_join⟩
    have K_follow : FnOk P w K mg base CX0 3 f_follow _ p_follow (sp_follow (⟨K, cM, cT, cA, cD, aN, aL⟩ : Gs)) := ok_follow F_follow T h_moved h_finished h_Machine h_follow_numbers
    have h_follow : CalF P w K mg base "follow" 3 p_follow (sp_follow (⟨K, cM, cT, cA, cD, aN, aL⟩ : Gs)) := ⟨_, _, PySem.W.mg_of X N a_follow, k_follow, B_follow, K_follow⟩
    have K_again : FnOk P w K mg base CX0 3 f_again _ p_again (sp_again (⟨K, cM, cT, cA, cD, aN, aL⟩ : Gs)) := ok_again F_again T h_moved h_finished h_Machine h_again_numbers
    have h_again : CalF P w K mg base "again" 3 p_again (sp_again (⟨K, cM, cT, cA, cD, aN, aL⟩ : Gs)) := ⟨_, _, PySem.W.mg_of X N a_again, k_again, B_again, K_again⟩
    have K_behind : FnOk P w K mg base CX0 3 f_behind _ p_behind (sp_behind (⟨K, cM, cT, cA, cD, aN, aL⟩ : Gs)) := ok_behind F_behind T h_finished h_Machine h_behind_arcs h_behind_numbers
    have h_behind : CalF P w K mg base "behind" 3 p_behind (sp_behind (⟨K, cM, cT, cA, cD, aN, aL⟩ : Gs)) := ⟨_, _, PySem.W.mg_of X N a_behind, k_behind, B_behind, K_behind⟩
    have K_keep : FnOk P w K mg base CX0 3 f_keep _ p_keep (sp_keep (⟨K, cM, cT, cA, cD, aN, aL⟩ : Gs)) := ok_keep F_keep T h_finished h_Machine
    have h_keep : CalF P w K mg base "keep" 3 p_keep (sp_keep (⟨K, cM, cT, cA, cD, aN, aL⟩ : Gs)) := ⟨_, _, PySem.W.mg_of X N a_keep, k_keep, B_keep, K_keep⟩
    have K_Turning_lengths : FnOk P w K mg base CX0 3 f_Turning_lengths _ p_Turning_lengths (sp_Turning_lengths (⟨K, cM, cT, cA, cD, aN, aL⟩ : Gs)) := ok_Turning_lengths F_Turning_lengths T h_Turning_spots h_Turning_closed h_Turning_has_end h_Turning_leads
    have h_Turning_lengths : CalM P w K mg base cT "lengths" 3 p_Turning_lengths (sp_Turning_lengths (⟨K, cM, cT, cA, cD, aN, aL⟩ : Gs)) := ⟨_, _, T.k_T, ⟨a_Turning_lengths, i_Turning_lengths, k_Turning_lengths⟩, B_Turning_lengths, K_Turning_lengths⟩
    have K_Answers_least_rest : FnOk P w K mg base CX0 3 f_Answers_least_rest _ p_Answers_least_rest (sp_Answers_least_rest (⟨K, cM, cT, cA, cD, aN, aL⟩ : Gs)) := ok_Answers_least_rest F_Answers_least_rest T h_Turning_least_byte h_Turning_step
    have h_Answers_least_rest : CalM P w K mg base cA "least_rest" 3 p_Answers_least_rest (sp_Answers_least_rest (⟨K, cM, cT, cA, cD, aN, aL⟩ : Gs)) := ⟨_, _, T.k_A, ⟨a_Answers_least_rest, i_Answers_least_rest, k_Answers_least_rest⟩, B_Answers_least_rest, K_Answers_least_rest⟩
    have K_Answers_spots_along : FnOk P w K mg base CX0 3 f_Answers_spots_along _ p_Answers_spots_along (sp_Answers_spots_along (⟨K, cM, cT, cA, cD, aN, aL⟩ : Gs)) := ok_Answers_spots_along F_Answers_spots_along T h_Turning_begin h_Turning_step
    have h_Answers_spots_along : CalM P w K mg base cA "spots_along" 3 p_Answers_spots_along (sp_Answers_spots_along (⟨K, cM, cT, cA, cD, aN, aL⟩ : Gs)) := ⟨_, _, T.k_A, ⟨a_Answers_spots_along, i_Answers_spots_along, k_Answers_spots_along⟩, B_Answers_spots_along, K_Answers_spots_along⟩
    have K_Answers_init : FnOk P w K mg base CX0 4 f_Answers_init _ p_Answers_init (sp_Answers_init (⟨K, cM, cT, cA, cD, aN, aL⟩ : Gs)) := ok_Answers_init F_Answers_init T h_Turning h_Turning_lengths
    have h_Answers : CalC P w K mg base "Answers" cA 4 p_Answers_init (sp_Answers_init (⟨K, cM, cT, cA, cD, aN, aL⟩ : Gs)) := ⟨_, _, PySem.W.mg_of X N a_Answers, ⟨mk_Answers, a_Answers_init, i_Answers_init, kc_Answers⟩, B_Answers_init, K_Answers_init⟩
    have K_Answers_first_from : FnOk P w K mg base CX0 4 f_Answers_first_from _ p_Answers_first_from (sp_Answers_first_from (⟨K, cM, cT, cA, cD, aN, aL⟩ : Gs)) := ok_Answers_first_from F_Answers_first_from T h_Answers_least_rest h_Turning_begin
    have h_Answers_first_from : CalM P w K mg base cA "first_from" 4 p_Answers_first_from (sp_Answers_first_from (⟨K, cM, cT, cA, cD, aN, aL⟩ : Gs)) := ⟨_, _, T.k_A, ⟨a_Answers_first_from, i_Answers_first_from, k_Answers_first_from⟩, B_Answers_first_from, K_Answers_first_from⟩
    have K_Answers_holds : FnOk P w K mg base CX0 4 f_Answers_holds _ p_Answers_holds (sp_Answers_holds (⟨K, cM, cT, cA, cD, aN, aL⟩ : Gs)) := ok_Answers_holds F_Answers_holds T h_Turning_has_end h_Answers_spots_along
    have h_Answers_holds : CalM P w K mg base cA "holds" 4 p_Answers_holds (sp_Answers_holds (⟨K, cM, cT, cA, cD, aN, aL⟩ : Gs)) := ⟨_, _, T.k_A, ⟨a_Answers_holds, i_Answers_holds, k_Answers_holds⟩, B_Answers_holds, K_Answers_holds⟩
    have K_is_endless : FnOk P w K mg base CX0 4 f_is_endless _ p_is_endless (sp_is_endless (⟨K, cM, cT, cA, cD, aN, aL⟩ : Gs)) := ok_is_endless F_is_endless T h_Turning h_circling_states h_reached_spots h_leads_to_end
    have h_is_endless : CalF P w K mg base "is_endless" 4 p_is_endless (sp_is_endless (⟨K, cM, cT, cA, cD, aN, aL⟩ : Gs)) := ⟨_, _, PySem.W.mg_of X N a_is_endless, k_is_endless, B_is_endless, K_is_endless⟩
    have K_made_of_two : FnOk P w K mg base CX0 4 f_made_of_two _ p_made_of_two (sp_made_of_two (⟨K, cM, cT, cA, cD, aN, aL⟩ : Gs)) := ok_made_of_two F_made_of_two T h_join h_follow h_behind
    have h_made_of_two : CalF P w K mg base "made_of_two" 4 p_made_of_two (sp_made_of_two (⟨K, cM, cT, cA, cD, aN, aL⟩ : Gs)) := ⟨_, _, PySem.W.mg_of X N a_made_of_two, k_made_of_two, B_made_of_two, K_made_of_two⟩
    have K_Desk_new : FnOk P w K mg base CX0 4 f_Desk_new _ p_Desk_new (sp_Desk_new (⟨K, cM, cT, cA, cD, aN, aL⟩ : Gs)) := ok_Desk_new F_Desk_new T h_new_net
    have h_Desk_new : CalM P w K mg base cD "new" 4 p_Desk_new (sp_Desk_new (⟨K, cM, cT, cA, cD, aN, aL⟩ : Gs)) := ⟨_, _, T.k_D, ⟨a_Desk_new, i_Desk_new, k_Desk_new⟩, B_Desk_new, K_Desk_new⟩
    have K_Desk_of_one : FnOk P w K mg base CX0 4 f_Desk_of_one _ p_Desk_of_one (sp_Desk_of_one (⟨K, cM, cT, cA, cD, aN, aL⟩ : Gs)) := ok_Desk_of_one F_Desk_of_one T h_Desk_refusal h_keep h_is_too_great h_again_numbers h_again
    have h_Desk_of_one : CalM P w K mg base cD "of_one" 4 p_Desk_of_one (sp_Desk_of_one (⟨K, cM, cT, cA, cD, aN, aL⟩ : Gs)) := ⟨_, _, T.k_D, ⟨a_Desk_of_one, i_Desk_of_one, k_Desk_of_one⟩, B_Desk_of_one, K_Desk_of_one⟩
    have K_Answers_next_after : FnOk P w K mg base CX0 5 f_Answers_next_after _ p_Answers_next_after (sp_Answers_next_after (⟨K, cM, cT, cA, cD, aN, aL⟩ : Gs)) := ok_Answers_next_after F_Answers_next_after T h_Answers_spots_along h_Turning_least_byte h_Answers_least_rest h_Turning_step h_Answers_first_from
    have h_Answers_next_after : CalM P w K mg base cA "next_after" 5 p_Answers_next_after (sp_Answers_next_after (⟨K, cM, cT, cA, cD, aN, aL⟩ : Gs)) := ⟨_, _, T.k_A, ⟨a_Answers_next_after, i_Answers_next_after, k_Answers_next_after⟩, B_Answers_next_after, K_Answers_next_after⟩
    have K_Desk_of_two : FnOk P w K mg base CX0 5 f_Desk_of_two _ p_Desk_of_two (sp_Desk_of_two (⟨K, cM, cT, cA, cD, aN, aL⟩ : Gs)) := ok_Desk_of_two F_Desk_of_two T h_Desk_refusal h_is_too_great h_numbers_of_two h_made_of_two
    have h_Desk_of_two : CalM P w K mg base cD "of_two" 5 p_Desk_of_two (sp_Desk_of_two (⟨K, cM, cT, cA, cD, aN, aL⟩ : Gs)) := ⟨_, _, T.k_D, ⟨a_Desk_of_two, i_Desk_of_two, k_Desk_of_two⟩, B_Desk_of_two, K_Desk_of_two⟩
    have K_Desk_endless : FnOk P w K mg base CX0 5 f_Desk_endless _ p_Desk_endless (sp_Desk_endless (⟨K, cM, cT, cA, cD, aN, aL⟩ : Gs)) := ok_Desk_endless F_Desk_endless T h_is_endless
    have h_Desk_endless : CalM P w K mg base cD "endless" 5 p_Desk_endless (sp_Desk_endless (⟨K, cM, cT, cA, cD, aN, aL⟩ : Gs)) := ⟨_, _, T.k_D, ⟨a_Desk_endless, i_Desk_endless, k_Desk_endless⟩, B_Desk_endless, K_Desk_endless⟩
    have K_Desk_next_word : FnOk P w K mg base CX0 6 f_Desk_next_word _ p_Desk_next_word (sp_Desk_next_word (⟨K, cM, cT, cA, cD, aN, aL⟩ : Gs)) := ok_Desk_next_word F_Desk_next_word T h_told_word h_Answers h_Answers_first_from
    have h_Desk_next_word : CalM P w K mg base cD "next_word" 6 p_Desk_next_word (sp_Desk_next_word (⟨K, cM, cT, cA, cD, aN, aL⟩ : Gs)) := ⟨_, _, T.k_D, ⟨a_Desk_next_word, i_Desk_next_word, k_Desk_next_word⟩, B_Desk_next_word, K_Desk_next_word⟩
    have K_Desk_later : FnOk P w K mg base CX0 6 f_Desk_later _ p_Desk_later (sp_Desk_later (⟨K, cM, cT, cA, cD, aN, aL⟩ : Gs)) := ok_Desk_later F_Desk_later T h_told_word h_Answers h_Answers_next_after
    have h_Desk_later : CalM P w K mg base cD "later" 6 p_Desk_later (sp_Desk_later (⟨K, cM, cT, cA, cD, aN, aL⟩ : Gs)) := ⟨_, _, T.k_D, ⟨a_Desk_later, i_Desk_later, k_Desk_later⟩, B_Desk_later, K_Desk_later⟩
    have K_Desk_holds : FnOk P w K mg base CX0 6 f_Desk_holds _ p_Desk_holds (sp_Desk_holds (⟨K, cM, cT, cA, cD, aN, aL⟩ : Gs)) := ok_Desk_holds F_Desk_holds T h_Answers h_Answers_holds
    have h_Desk_holds : CalM P w K mg base cD "holds" 6 p_Desk_holds (sp_Desk_holds (⟨K, cM, cT, cA, cD, aN, aL⟩ : Gs)) := ⟨_, _, T.k_D, ⟨a_Desk_holds, i_Desk_holds, k_Desk_holds⟩, B_Desk_holds, K_Desk_holds⟩
    have K_making : FnOk P w K mg base CX0 6 f_making _ p_making (sp_making (⟨K, cM, cT, cA, cD, aN, aL⟩ : Gs)) := ok_making F_making T h_Desk_new h_Desk_of_two h_Desk_of_one
    have h_making : CalF P w K mg base "making" 6 p_making (sp_making (⟨K, cM, cT, cA, cD, aN, aL⟩ : Gs)) := ⟨_, _, PySem.W.mg_of X N a_making, k_making, B_making, K_making⟩
    have K_of_words : FnOk P w K mg base CX0 7 f_of_words _ p_of_words (sp_of_words (⟨K, cM, cT, cA, cD, aN, aL⟩ : Gs)) := ok_of_words F_of_words T h_Desk_next_word h_Desk_later h_Desk_holds h_Desk_endless
    have h_of_words : CalF P w K mg base "of_words" 7 p_of_words (sp_of_words (⟨K, cM, cT, cA, cD, aN, aL⟩ : Gs)) := ⟨_, _, PySem.W.mg_of X N a_of_words, k_of_words, B_of_words, K_of_words⟩
    have K_of_place : FnOk P w K mg base CX0 8 f_of_place _ p_of_place (sp_of_place (⟨K, cM, cT, cA, cD, aN, aL⟩ : Gs)) := ok_of_place F_of_place T h_Desk_refusal h_Desk_state h_Desk_final h_Desk_arc h_Desk_turn h_Desk_size h_of_words
    have h_of_place : CalF P w K mg base "of_place" 8 p_of_place (sp_of_place (⟨K, cM, cT, cA, cD, aN, aL⟩ : Gs)) := ⟨_, _, PySem.W.mg_of X N a_of_place, k_of_place, B_of_place, K_of_place⟩
    have K_answers : FnOk P w K mg base CX0 9 fa _ p_answers (sp_answers (⟨K, cM, cT, cA, cD, aN, aL⟩ : Gs)) := ok_answers F_answers T h_Desk h_making h_of_place
    exact K_answers⟩
end Tw

open PySem PySem.W PyProof.Rows
set_option maxRecDepth 100000 in
set_option maxHeartbeats 0 in
theorem PySem.Challenge.cw_turnwords_s01_answers_holds : PySem.Challenge.rw_turnwords_s01_answers.Holds := by
  w_on; k_headS; (case hw => exact ⟨[.list [.int 1, .int 0]], by decide +kernel, by decide +kernel⟩)
  k_fillS
  refine L2.walk_specK (r := PySem.Challenge.rw_turnwords_s01_answers) (k := 9) (CX := L2.CX0) (ps := ["calls"]) (sp := Tw.spTop) (by decide +kernel) rfl rfl ⟨rfl, by decide, by decide⟩ (fun w h Y => PySem.W.kIn_of Y) ?F ?S (fun _ _ _ _ z => z)
  case F =>
    intro w mg fa h Y KX G hmg
    refine' Tw.all_mk KX G hmg ?v_NOTHING ?v_MOST_STATES ?v_MOST_ARCS ?v_LONGEST ?v_PLACES ?v_JOIN ?v_FOLLOW ?v_NEW ?v_AGAIN ?v_NUMBERS ?q_NUMBERS ?z_NUMBERS ?v_LISTS ?q_LISTS ?z_LISTS ?b_len ?b_int ?b_min ?b_list ?b_tuple ?b_range ?b_reversed ?a_Machine ?pg_Machine ?hd_Machine ?po_Machine ?sa_Machine ?mk_Machine ?kc_Machine ?n_Machine_states ?n_Machine_finals ?n_Machine_arcs ?n_Machine_told_states ?n_Machine_told_arcs ?n_Machine_is_built ?a_Turning ?pg_Turning ?hd_Turning ?po_Turning ?sa_Turning ?mk_Turning ?kc_Turning ?n_Turning_machine ?n_Turning_word ?n_Turning_silent ?n_Turning_writing ?a_Answers ?pg_Answers ?hd_Answers ?po_Answers ?sa_Answers ?mk_Answers ?kc_Answers ?n_Answers_turning ?n_Answers_rows ?a_Desk ?pg_Desk ?hd_Desk ?po_Desk ?sa_Desk ?mk_Desk ?kc_Desk ?n_Desk_places ?a_Machine_init ?i_Machine_init ?l_Machine_init ?c_Machine_init ?k_Machine_init ?a_Machine_has_state ?i_Machine_has_state ?l_Machine_has_state ?c_Machine_has_state ?k_Machine_has_state ?a_Machine_add_state ?i_Machine_add_state ?l_Machine_add_state ?c_Machine_add_state ?k_Machine_add_state ?a_Machine_add_arc ?i_Machine_add_arc ?l_Machine_add_arc ?c_Machine_add_arc ?k_Machine_add_arc ?a_Machine_set_final ?i_Machine_set_final ?l_Machine_set_final ?c_Machine_set_final ?k_Machine_set_final ?a_Machine_turn ?i_Machine_turn ?l_Machine_turn ?c_Machine_turn ?k_Machine_turn ?a_moved ?l_moved ?c_moved ?k_moved ?a_is_too_great ?l_is_too_great ?c_is_too_great ?k_is_too_great ?a_finished ?l_finished ?c_finished ?k_finished ?a_join_numbers ?l_join_numbers ?c_join_numbers ?k_join_numbers ?a_follow_numbers ?l_follow_numbers ?c_follow_numbers ?k_follow_numbers ?a_again_numbers ?l_again_numbers ?c_again_numbers ?k_again_numbers ?a_behind_numbers ?l_behind_numbers ?c_behind_numbers ?k_behind_numbers ?a_behind_arcs ?l_behind_arcs ?c_behind_arcs ?k_behind_arcs ?a_Turning_note ?i_Turning_note ?l_Turning_note ?c_Turning_note ?k_Turning_note ?a_Turning_spots ?i_Turning_spots ?l_Turning_spots ?c_Turning_spots ?k_Turning_spots ?a_Turning_is_end ?i_Turning_is_end ?l_Turning_is_end ?c_Turning_is_end ?k_Turning_is_end ?a_Turning_closed ?i_Turning_closed ?l_Turning_closed ?c_Turning_closed ?k_Turning_closed ?a_Turning_leads ?i_Turning_leads ?l_Turning_leads ?c_Turning_leads ?k_Turning_leads ?a_Turning_least_byte ?i_Turning_least_byte ?l_Turning_least_byte ?c_Turning_least_byte ?k_Turning_least_byte ?a_come_to ?l_come_to ?c_come_to ?k_come_to ?a_reached_spots ?l_reached_spots ?c_reached_spots ?k_reached_spots ?a_told ?l_told ?c_told ?k_told ?a_is_written ?l_is_written ?c_is_written ?k_is_written ?a_Desk_init ?i_Desk_init ?l_Desk_init ?c_Desk_init ?k_Desk_init ?a_Desk_refusal ?i_Desk_refusal ?l_Desk_refusal ?c_Desk_refusal ?k_Desk_refusal ?a_Turning_init ?i_Turning_init ?l_Turning_init ?c_Turning_init ?k_Turning_init ?a_Turning_begin ?i_Turning_begin ?l_Turning_begin ?c_Turning_begin ?k_Turning_begin ?a_Turning_step ?i_Turning_step ?l_Turning_step ?c_Turning_step ?k_Turning_step ?a_Turning_has_end ?i_Turning_has_end ?l_Turning_has_end ?c_Turning_has_end ?k_Turning_has_end ?a_circling_states ?l_circling_states ?c_circling_states ?k_circling_states ?a_leads_to_end ?l_leads_to_end ?c_leads_to_end ?k_leads_to_end ?a_told_word ?l_told_word ?c_told_word ?k_told_word ?a_numbers_of_two ?l_numbers_of_two ?c_numbers_of_two ?k_numbers_of_two ?a_Desk_state ?i_Desk_state ?l_Desk_state ?c_Desk_state ?k_Desk_state ?a_Desk_final ?i_Desk_final ?l_Desk_final ?c_Desk_final ?k_Desk_final ?a_Desk_arc ?i_Desk_arc ?l_Desk_arc ?c_Desk_arc ?k_Desk_arc ?a_Desk_turn ?i_Desk_turn ?l_Desk_turn ?c_Desk_turn ?k_Desk_turn ?a_Desk_size ?i_Desk_size ?l_Desk_size ?c_Desk_size ?k_Desk_size ?a_new_net ?l_new_net ?c_new_net ?k_new_net ?a_join ?l_join ?c_join ?k_join ?a_follow ?l_follow ?c_follow ?k_follow ?a_again ?l_again ?c_again ?k_again ?a_behind ?l_behind ?c_behind ?k_behind ?a_keep ?l_keep ?c_keep ?k_keep ?a_Turning_lengths ?i_Turning_lengths ?l_Turning_lengths ?c_Turning_lengths ?k_Turning_lengths ?a_Answers_least_rest ?i_Answers_least_rest ?l_Answers_least_rest ?c_Answers_least_rest ?k_Answers_least_rest ?a_Answers_spots_along ?i_Answers_spots_along ?l_Answers_spots_along ?c_Answers_spots_along ?k_Answers_spots_along ?a_Answers_init ?i_Answers_init ?l_Answers_init ?c_Answers_init ?k_Answers_init ?a_Answers_first_from ?i_Answers_first_from ?l_Answers_first_from ?c_Answers_first_from ?k_Answers_first_from ?a_Answers_holds ?i_Answers_holds ?l_Answers_holds ?c_Answers_holds ?k_Answers_holds ?a_is_endless ?l_is_endless ?c_is_endless ?k_is_endless ?a_made_of_two ?l_made_of_two ?c_made_of_two ?k_made_of_two ?a_Desk_new ?i_Desk_new ?l_Desk_new ?c_Desk_new ?k_Desk_new ?a_Desk_of_one ?i_Desk_of_one ?l_Desk_of_one ?c_Desk_of_one ?k_Desk_of_one ?a_Answers_next_after ?i_Answers_next_after ?l_Answers_next_after ?c_Answers_next_after ?k_Answers_next_after ?a_Desk_of_two ?i_Desk_of_two ?l_Desk_of_two ?c_Desk_of_two ?k_Desk_of_two ?a_Desk_endless ?i_Desk_endless ?l_Desk_endless ?c_Desk_endless ?k_Desk_endless ?a_Desk_next_word ?i_Desk_next_word ?l_Desk_next_word ?c_Desk_next_word ?k_Desk_next_word ?a_Desk_later ?i_Desk_later ?l_Desk_later ?c_Desk_later ?k_Desk_later ?a_Desk_holds ?i_Desk_holds ?l_Desk_holds ?c_Desk_holds ?k_Desk_holds ?a_making ?l_making ?c_making ?k_making ?a_of_words ?l_of_words ?c_of_words ?k_of_words ?a_of_place ?l_of_place ?c_of_place ?k_of_place ?a_answers ?l_answers ?c_answers ?k_answers
    (case v_NOTHING => k_is)
    (case v_MOST_STATES => k_is)
    (case v_MOST_ARCS => k_is)
    (case v_LONGEST => k_is)
    (case v_PLACES => k_is)
    (case v_JOIN => k_is)
    (case v_FOLLOW => k_is)
    (case v_NEW => k_is)
    (case v_AGAIN => k_is)
    (case v_NUMBERS => k_is)
    (case q_NUMBERS => k_is)
    (case z_NUMBERS => decide +kernel)
    (case v_LISTS => k_is)
    (case q_LISTS => k_is)
    (case z_LISTS => decide +kernel)
    (case b_len => k_is)
    (case b_int => k_is)
    (case b_min => k_is)
    (case b_list => k_is)
    (case b_tuple => k_is)
    (case b_range => k_is)
    (case b_reversed => k_is)
    (case a_Machine => k_is)
    (case pg_Machine => k_is)
    (case hd_Machine => k_is)
    (case po_Machine => k_is)
    (case sa_Machine => k_is)
    (case mk_Machine => k_is)
    (case kc_Machine => k_is)
    (case n_Machine_states => k_is)
    (case n_Machine_finals => k_is)
    (case n_Machine_arcs => k_is)
    (case n_Machine_told_states => k_is)
    (case n_Machine_told_arcs => k_is)
    (case n_Machine_is_built => k_is)
    (case a_Turning => k_is)
    (case pg_Turning => k_is)
    (case hd_Turning => k_is)
    (case po_Turning => k_is)
    (case sa_Turning => k_is)
    (case mk_Turning => k_is)
    (case kc_Turning => k_is)
    (case n_Turning_machine => k_is)
    (case n_Turning_word => k_is)
    (case n_Turning_silent => k_is)
    (case n_Turning_writing => k_is)
    (case a_Answers => k_is)
    (case pg_Answers => k_is)
    (case hd_Answers => k_is)
    (case po_Answers => k_is)
    (case sa_Answers => k_is)
    (case mk_Answers => k_is)
    (case kc_Answers => k_is)
    (case n_Answers_turning => k_is)
    (case n_Answers_rows => k_is)
    (case a_Desk => k_is)
    (case pg_Desk => k_is)
    (case hd_Desk => k_is)
    (case po_Desk => k_is)
    (case sa_Desk => k_is)
    (case mk_Desk => k_is)
    (case kc_Desk => k_is)
    (case n_Desk_places => k_is)
    (case a_Machine_init => k_is)
    (case i_Machine_init => k_is)
    (case l_Machine_init => k_is)
    (case c_Machine_init => k_is)
    (case k_Machine_init => k_is)
    (case a_Machine_has_state => k_is)
    (case i_Machine_has_state => k_is)
    (case l_Machine_has_state => k_is)
    (case c_Machine_has_state => k_is)
    (case k_Machine_has_state => k_is)
    (case a_Machine_add_state => k_is)
    (case i_Machine_add_state => k_is)
    (case l_Machine_add_state => k_is)
    (case c_Machine_add_state => k_is)
    (case k_Machine_add_state => k_is)
    (case a_Machine_add_arc => k_is)
    (case i_Machine_add_arc => k_is)
    (case l_Machine_add_arc => k_is)
    (case c_Machine_add_arc => k_is)
    (case k_Machine_add_arc => k_is)
    (case a_Machine_set_final => k_is)
    (case i_Machine_set_final => k_is)
    (case l_Machine_set_final => k_is)
    (case c_Machine_set_final => k_is)
    (case k_Machine_set_final => k_is)
    (case a_Machine_turn => k_is)
    (case i_Machine_turn => k_is)
    (case l_Machine_turn => k_is)
    (case c_Machine_turn => k_is)
    (case k_Machine_turn => k_is)
    (case a_moved => k_is)
    (case l_moved => k_is)
    (case c_moved => k_is)
    (case k_moved => k_is)
    (case a_is_too_great => k_is)
    (case l_is_too_great => k_is)
    (case c_is_too_great => k_is)
    (case k_is_too_great => k_is)
    (case a_finished => k_is)
    (case l_finished => k_is)
    (case c_finished => k_is)
    (case k_finished => k_is)
    (case a_join_numbers => k_is)
    (case l_join_numbers => k_is)
    (case c_join_numbers => k_is)
    (case k_join_numbers => k_is)
    (case a_follow_numbers => k_is)
    (case l_follow_numbers => k_is)
    (case c_follow_numbers => k_is)
    (case k_follow_numbers => k_is)
    (case a_again_numbers => k_is)
    (case l_again_numbers => k_is)
    (case c_again_numbers => k_is)
    (case k_again_numbers => k_is)
    (case a_behind_numbers => k_is)
    (case l_behind_numbers => k_is)
    (case c_behind_numbers => k_is)
    (case k_behind_numbers => k_is)
    (case a_behind_arcs => k_is)
    (case l_behind_arcs => k_is)
    (case c_behind_arcs => k_is)
    (case k_behind_arcs => k_is)
    (case a_Turning_note => k_is)
    (case i_Turning_note => k_is)
    (case l_Turning_note => k_is)
    (case c_Turning_note => k_is)
    (case k_Turning_note => k_is)
    (case a_Turning_spots => k_is)
    (case i_Turning_spots => k_is)
    (case l_Turning_spots => k_is)
    (case c_Turning_spots => k_is)
    (case k_Turning_spots => k_is)
    (case a_Turning_is_end => k_is)
    (case i_Turning_is_end => k_is)
    (case l_Turning_is_end => k_is)
    (case c_Turning_is_end => k_is)
    (case k_Turning_is_end => k_is)
    (case a_Turning_closed => k_is)
    (case i_Turning_closed => k_is)
    (case l_Turning_closed => k_is)
    (case c_Turning_closed => k_is)
    (case k_Turning_closed => k_is)
    (case a_Turning_leads => k_is)
    (case i_Turning_leads => k_is)
    (case l_Turning_leads => k_is)
    (case c_Turning_leads => k_is)
    (case k_Turning_leads => k_is)
    (case a_Turning_least_byte => k_is)
    (case i_Turning_least_byte => k_is)
    (case l_Turning_least_byte => k_is)
    (case c_Turning_least_byte => k_is)
    (case k_Turning_least_byte => k_is)
    (case a_come_to => k_is)
    (case l_come_to => k_is)
    (case c_come_to => k_is)
    (case k_come_to => k_is)
    (case a_reached_spots => k_is)
    (case l_reached_spots => k_is)
    (case c_reached_spots => k_is)
    (case k_reached_spots => k_is)
    (case a_told => k_is)
    (case l_told => k_is)
    (case c_told => k_is)
    (case k_told => k_is)
    (case a_is_written => k_is)
    (case l_is_written => k_is)
    (case c_is_written => k_is)
    (case k_is_written => k_is)
    (case a_Desk_init => k_is)
    (case i_Desk_init => k_is)
    (case l_Desk_init => k_is)
    (case c_Desk_init => k_is)
    (case k_Desk_init => k_is)
    (case a_Desk_refusal => k_is)
    (case i_Desk_refusal => k_is)
    (case l_Desk_refusal => k_is)
    (case c_Desk_refusal => k_is)
    (case k_Desk_refusal => k_is)
    (case a_Turning_init => k_is)
    (case i_Turning_init => k_is)
    (case l_Turning_init => k_is)
    (case c_Turning_init => k_is)
    (case k_Turning_init => k_is)
    (case a_Turning_begin => k_is)
    (case i_Turning_begin => k_is)
    (case l_Turning_begin => k_is)
    (case c_Turning_begin => k_is)
    (case k_Turning_begin => k_is)
    (case a_Turning_step => k_is)
    (case i_Turning_step => k_is)
    (case l_Turning_step => k_is)
    (case c_Turning_step => k_is)
    (case k_Turning_step => k_is)
    (case a_Turning_has_end => k_is)
    (case i_Turning_has_end => k_is)
    (case l_Turning_has_end => k_is)
    (case c_Turning_has_end => k_is)
    (case k_Turning_has_end => k_is)
    (case a_circling_states => k_is)
    (case l_circling_states => k_is)
    (case c_circling_states => k_is)
    (case k_circling_states => k_is)
    (case a_leads_to_end => k_is)
    (case l_leads_to_end => k_is)
    (case c_leads_to_end => k_is)
    (case k_leads_to_end => k_is)
    (case a_told_word => k_is)
    (case l_told_word => k_is)
    (case c_told_word => k_is)
    (case k_told_word => k_is)
    (case a_numbers_of_two => k_is)
    (case l_numbers_of_two => k_is)
    (case c_numbers_of_two => k_is)
    (case k_numbers_of_two => k_is)
    (case a_Desk_state => k_is)
    (case i_Desk_state => k_is)
    (case l_Desk_state => k_is)
    (case c_Desk_state => k_is)
    (case k_Desk_state => k_is)
    (case a_Desk_final => k_is)
    (case i_Desk_final => k_is)
    (case l_Desk_final => k_is)
    (case c_Desk_final => k_is)
    (case k_Desk_final => k_is)
    (case a_Desk_arc => k_is)
    (case i_Desk_arc => k_is)
    (case l_Desk_arc => k_is)
    (case c_Desk_arc => k_is)
    (case k_Desk_arc => k_is)
    (case a_Desk_turn => k_is)
    (case i_Desk_turn => k_is)
    (case l_Desk_turn => k_is)
    (case c_Desk_turn => k_is)
    (case k_Desk_turn => k_is)
    (case a_Desk_size => k_is)
    (case i_Desk_size => k_is)
    (case l_Desk_size => k_is)
    (case c_Desk_size => k_is)
    (case k_Desk_size => k_is)
    (case a_new_net => k_is)
    (case l_new_net => k_is)
    (case c_new_net => k_is)
    (case k_new_net => k_is)
    (case a_join => k_is)
    (case l_join => k_is)
    (case c_join => k_is)
    (case k_join => k_is)
    (case a_follow => k_is)
    (case l_follow => k_is)
    (case c_follow => k_is)
    (case k_follow => k_is)
    (case a_again => k_is)
    (case l_again => k_is)
    (case c_again => k_is)
    (case k_again => k_is)
    (case a_behind => k_is)
    (case l_behind => k_is)
    (case c_behind => k_is)
    (case k_behind => k_is)
    (case a_keep => k_is)
    (case l_keep => k_is)
    (case c_keep => k_is)
    (case k_keep => k_is)
    (case a_Turning_lengths => k_is)
    (case i_Turning_lengths => k_is)
    (case l_Turning_lengths => k_is)
    (case c_Turning_lengths => k_is)
    (case k_Turning_lengths => k_is)
    (case a_Answers_least_rest => k_is)
    (case i_Answers_least_rest => k_is)
    (case l_Answers_least_rest => k_is)
    (case c_Answers_least_rest => k_is)
    (case k_Answers_least_rest => k_is)
    (case a_Answers_spots_along => k_is)
    (case i_Answers_spots_along => k_is)
    (case l_Answers_spots_along => k_is)
    (case c_Answers_spots_along => k_is)
    (case k_Answers_spots_along => k_is)
    (case a_Answers_init => k_is)
    (case i_Answers_init => k_is)
    (case l_Answers_init => k_is)
    (case c_Answers_init => k_is)
    (case k_Answers_init => k_is)
    (case a_Answers_first_from => k_is)
    (case i_Answers_first_from => k_is)
    (case l_Answers_first_from => k_is)
    (case c_Answers_first_from => k_is)
    (case k_Answers_first_from => k_is)
    (case a_Answers_holds => k_is)
    (case i_Answers_holds => k_is)
    (case l_Answers_holds => k_is)
    (case c_Answers_holds => k_is)
    (case k_Answers_holds => k_is)
    (case a_is_endless => k_is)
    (case l_is_endless => k_is)
    (case c_is_endless => k_is)
    (case k_is_endless => k_is)
    (case a_made_of_two => k_is)
    (case l_made_of_two => k_is)
    (case c_made_of_two => k_is)
    (case k_made_of_two => k_is)
    (case a_Desk_new => k_is)
    (case i_Desk_new => k_is)
    (case l_Desk_new => k_is)
    (case c_Desk_new => k_is)
    (case k_Desk_new => k_is)
    (case a_Desk_of_one => k_is)
    (case i_Desk_of_one => k_is)
    (case l_Desk_of_one => k_is)
    (case c_Desk_of_one => k_is)
    (case k_Desk_of_one => k_is)
    (case a_Answers_next_after => k_is)
    (case i_Answers_next_after => k_is)
    (case l_Answers_next_after => k_is)
    (case c_Answers_next_after => k_is)
    (case k_Answers_next_after => k_is)
    (case a_Desk_of_two => k_is)
    (case i_Desk_of_two => k_is)
    (case l_Desk_of_two => k_is)
    (case c_Desk_of_two => k_is)
    (case k_Desk_of_two => k_is)
    (case a_Desk_endless => k_is)
    (case i_Desk_endless => k_is)
    (case l_Desk_endless => k_is)
    (case c_Desk_endless => k_is)
    (case k_Desk_endless => k_is)
    (case a_Desk_next_word => k_is)
    (case i_Desk_next_word => k_is)
    (case l_Desk_next_word => k_is)
    (case c_Desk_next_word => k_is)
    (case k_Desk_next_word => k_is)
    (case a_Desk_later => k_is)
    (case i_Desk_later => k_is)
    (case l_Desk_later => k_is)
    (case c_Desk_later => k_is)
    (case k_Desk_later => k_is)
    (case a_Desk_holds => k_is)
    (case i_Desk_holds => k_is)
    (case l_Desk_holds => k_is)
    (case c_Desk_holds => k_is)
    (case k_Desk_holds => k_is)
    (case a_making => k_is)
    (case l_making => k_is)
    (case c_making => k_is)
    (case k_making => k_is)
    (case a_of_words => k_is)
    (case l_of_words => k_is)
    (case c_of_words => k_is)
    (case k_of_words => k_is)
    (case a_of_place => k_is)
    (case l_of_place => k_is)
    (case c_of_place => k_is)
    (case k_of_place => k_is)
    (case a_answers => k_is)
    (case l_answers => k_is)
    (case c_answers => k_is)
    (case k_answers => k_is)
  case S =>
    intro K H xs a hO hwi hask hx
    cases hx with
    | cons h1 h2 =>
      cases h2
      cases h1 with
      | lst hs ha =>
        have e := L2.ints_dw a.1 _ ha
        subst e
        have q : ((Codec.inLen 0 30000 a.1 && a.1.all (Codec.inInt (-2147483648) 4294967295)) && true) = true := hwi
        rw [Bool.and_eq_true, Bool.and_eq_true] at q
        exact ⟨_, a.1, rfl, hs, (Codec.inNat_iff.mp q.1.1).2, hask, fun H' p hp => .lst (L2.SqL.of hp) (L2.dw_ints _)⟩
