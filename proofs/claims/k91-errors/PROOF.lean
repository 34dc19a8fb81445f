import PyProof.Rows.All
import Wide.All
import OpenK.AllK
import Wide.FinOn
import HandS.ForMost
import HandS.Exc
import HandS.ExcInit
import HandS.Defaults
import HandS.IsInst
import HandS.Wide
import HandS.EndBits
import KE.KExcIs
import HandS.ExcField
import HandS.MakeKwOnly
import HandS.HeadHook4
import HandS.Head2
import PyProof.ReprRoads
import HandS.Head0
import HandS.Head1
import HandS.HeadEnd
import HandS.Iter
import HandS.Codes
import PyProof.P3Eq
import PySem.Challenge.RW_pulledonce_k91_errors_by_hand
set_option Elab.async false
set_option linter.all false
set_option maxRecDepth 100000
set_option maxHeartbeats 8000000
namespace Lw
open PySem PySem.Spec PyProof.Rows L2

/-! ### numbers -/
def CPowW (i j : Int) : Prop := 0 ≤ j ∧ (Builtin.Int.intBits i : Int) * j ≤ 2 ^ 27
theorem op_powW {X : Cx} : OpR X (binaryOp .Pow) (rI CPowW fun i j => .int (i ^ j.toNat)) :=
  opI fun _ _ _ _ _ _ _ hc q => pow_int hc.1 hc.2 q

/-! ### a def by its name -/
structure DefOk (P : Program) (w : World) (K : PySem.W.Frag) (mg : Str → Option Value) (base : Heap) (CX : CXT) (k : Nat) (x : Str) (ps : List Str) (dvs : List V) (sp : Sp) : Prop where
  ex : ∃ (f : Addr) (fd : FuncData) (ds : List Value), FnOk P w K mg base CX k f fd ps sp ∧ mg x = some (.ref f) ∧ PySem.W.keepIn K (.ref f) = true ∧ Binds K fd ps ds ∧ Vals dvs ds
section
variable {X : Cx} {CX : CXT} {k : Nat} {ps : List Str} {dvs : List V} {sp : Sp} {E : XK} {x : Str} {p pos : Pos} {e : Expr} {es : List Expr} {t : TA}
theorem pe_d (D : DefOk X.prog X.w X.K X.mg X.base CX k x ps dvs sp) (hr : Room k X.A) (hx : Passes CX X E) (ha : PA X (e :: es) t) (hg : Gl X x := by rfl)
    (hdb : (x == ("__debug__" : Str)) = false := by decide) (he : starEach (e :: es) X.env = (false, eval e X.env) :: starEach es X.env := by rfl) (hpl : (backTo pos (starEach es X.env)).any (·.1) = false := by rfl) :
    PE X (.Call (.Name x p) (e :: es) [] pos) (tCall sp dvs E t) := by
  obtain ⟨f, fd, ds, F, hm, hk, hb, hd⟩ := D.ex
  exact pe_call F hr hg hm hk hb hd hx ha hdb he hpl
theorem pe_d0 (D : DefOk X.prog X.w X.K X.mg X.base CX k x ps dvs sp) (hr : Room k X.A) (hx : Passes CX X E) (hg : Gl X x := by rfl) (hdb : (x == ("__debug__" : Str)) = false := by decide) :
    PE X (.Call (.Name x p) [] [] pos) (tCall sp dvs E tNil) := by
  obtain ⟨f, fd, ds, F, hm, hk, hb, hd⟩ := D.ex
  exact pe_call0 F hr hg hm hk hb hd hx hdb
end
/-! ### heaps -/
theorem same_upd {H : Hp} {p : Addr} {o : HO} (hp : H p = none) : Same H (upd H p o) := fun b u e => by
  rw [upd_ne (ne_of_none e hp)]; exact e
theorem sq_upd {K : PySem.W.Frag} {H : Hp} {a t : Addr} {o : HO} {xs : List V} (ne : t ≠ a) (h : SqL K H t xs) : SqL K (upd H a o) t xs := by
  rcases h with (h | ⟨u, h⟩) | h
  · exact .inl (.inl (by rw [upd_ne ne]; exact h))
  · exact .inl (.inr ⟨u, by rw [upd_ne ne]; exact h⟩)
  · exact .inr h
theorem sqT_same {K : PySem.W.Frag} {H H' : Hp} {a : Addr} {xs : List V} (e : Same H H') (h : SqT K H a xs) : SqT K H' a xs := by
  rcases h with (h | ⟨o, h⟩) | h
  · exact .inl (.inl (e _ _ h))
  · exact .inl (.inr ⟨o, e _ _ h⟩)
  · exact .inr h
theorem szl {n : Nat} (h : Nat.ble n 1000 = true) : n ≤ sizeLine := Nat.le_trans (Nat.le_of_ble_eq_true h) (by decide)
theorem szlt {n : Nat} (h : n ≤ 1000) : n < sizeLine := Nat.lt_of_le_of_lt h (by decide)
theorem szle {n : Nat} (h : n ≤ 1000) : n ≤ sizeLine := Nat.le_trans h (by decide)
theorem same_trans {H1 H2 H3 : Hp} (a : Same H1 H2) (b : Same H2 H3) : Same H1 H3 := fun c o h => b c o (a c o h)
end Lw
namespace Lw
open PySem PySem.Spec PyProof.Rows L2

/-! ### own exception classes with an __init__, their objects as values -/
structure XC (K : PySem.W.Frag) (C : Addr) (fld : Str) : Prop where
  oex : OexC K C
  xf : XfC K C
  nof : PySem.W.findIn K (.ref C) fld = some none
  ha : PySem.W.findIn K (.ref C) "__class__" = some (some (.builtin "object.__class__"))
  hm : PySem.W.mroIn K C (.type "object") = some true
  hn : PySem.W.specialIn K (.builtin "object.__class__") "__get__" = some (some (.builtin "getset_descriptor.__get__"))
  ht : PySem.W.takesIn K (.builtin "object.__class__") = some true
def oexB (K : PySem.W.Frag) (C : Addr) : Bool := match K.lookup C with
  | some ⟨.type "type", _, .cls cd, sl⟩ => (match cd.mro, sl.toList with
    | .ref C' :: bm, [_, _, _, _, some (.builtin n), _] => decide (C' = C) && (decide (n = "ValueError.__new__") && (!cd.hasDel && (cd.hasDict && PySem.HandSPX.refsVE bm)))
    | _, _ => false)
  | _ => false
theorem oexB_ok {K : PySem.W.Frag} {C : Addr} (q : oexB K C = true) : ∃ nm q N bs bm sn sub ab col dd k0 k1 k2 k3 k5, K.lookup C = some (excClassObj nm q C N bs bm true sn sub ab col dd k0 k1 k2 k3 k5 "ValueError.__new__") ∧ PySem.HandSPX.refsVE bm = true := by
  unfold oexB at q
  split at q
  · rename_i dd cd sl ho
    split at q
    · rename_i C' bm k0 k1 k2 k3 n k5 hm hs
      obtain ⟨q1, q⟩ := Bool.and_eq_true_iff.mp q
      obtain ⟨q2, q⟩ := Bool.and_eq_true_iff.mp q
      obtain ⟨q3, q⟩ := Bool.and_eq_true_iff.mp q
      obtain ⟨q4, q5⟩ := Bool.and_eq_true_iff.mp q
      have e1 := of_decide_eq_true q1
      have e2 := of_decide_eq_true q2
      obtain ⟨nm, bs, mro, ns, qn, hd, sn, sub, ab, col, del⟩ := cd
      dsimp only at hm q3 q4
      subst e1 e2 hm q4
      obtain ⟨l⟩ := sl
      dsimp only at hs
      subst hs
      have e3 : del = false := by cases del <;> first | rfl | cases q3
      subst e3
      exact ⟨_, _, _, _, _, _, _, _, _, _, _, _, _, _, _, ho, q5⟩
    · cases q
  · cases q
def xcB (K : PySem.W.Frag) (C : Addr) (fld : Str) : Bool :=
  oexB K C && (decide (PySem.W.findIn K (.ref C) "__setattr__" = some (some (.builtin "object.__setattr__"))) && (decide (PySem.W.typeIn K (.ref C) = some (.type "type")) && (PySem.W.keepIn K (.ref C) && (xfB K C &&
  (decide (PySem.W.findIn K (.ref C) fld = some none) && (decide (PySem.W.findIn K (.ref C) "__class__" = some (some (.builtin "object.__class__"))) && (decide (PySem.W.mroIn K C (.type "object") = some true) &&
  (decide (PySem.W.specialIn K (.builtin "object.__class__") "__get__" = some (some (.builtin "getset_descriptor.__get__"))) && decide (PySem.W.takesIn K (.builtin "object.__class__") = some true)))))))))
theorem xcB_ok {K : PySem.W.Frag} {C : Addr} {fld : Str} (q : xcB K C fld = true) : XC K C fld := by
  obtain ⟨q1, q⟩ := Bool.and_eq_true_iff.mp q
  obtain ⟨q2, q⟩ := Bool.and_eq_true_iff.mp q
  obtain ⟨q3, q⟩ := Bool.and_eq_true_iff.mp q
  obtain ⟨q4, q⟩ := Bool.and_eq_true_iff.mp q
  obtain ⟨q5, q⟩ := Bool.and_eq_true_iff.mp q
  obtain ⟨q6, q⟩ := Bool.and_eq_true_iff.mp q
  obtain ⟨q7, q⟩ := Bool.and_eq_true_iff.mp q
  obtain ⟨q8, q⟩ := Bool.and_eq_true_iff.mp q
  obtain ⟨q9, q10⟩ := Bool.and_eq_true_iff.mp q
  have xf := xfB_ok q5
  exact ⟨⟨oexB_ok q1, of_decide_eq_true q2, xf.exC, of_decide_eq_true q3, q4⟩, xf, of_decide_eq_true q6, of_decide_eq_true q7, of_decide_eq_true q8, of_decide_eq_true q9, of_decide_eq_true q10⟩
theorem clsIn_of {K : PySem.W.Frag} {C : Addr} (T : OexC K C) : (PySem.W.clsIn K C).isSome = true := by
  obtain ⟨nm, q, N, bs, bm, sn, sub, ab, col, dd, k0, k1, k2, k3, k5, hC, _⟩ := T.cls
  unfold PySem.W.clsIn
  rw [hC]
  rfl
/-- an error that stands: its class, its own dict, the one attribute -/
def ErrAt (H : Hp) (e C : Addr) (f : Str) (v : V) : Prop := ∃ d, H e = some (exo e C (some d)) ∧ H d = some (exd d [(f, v)])
theorem ErrAt.same {H H' : Hp} {e C : Addr} {f : Str} {v : V} (s : Same H H') (h : ErrAt H e C f v) : ErrAt H' e C f v := by
  obtain ⟨d, h1, h2⟩ := h
  exact ⟨d, s _ _ h1, s _ _ h2⟩
section
variable {X : Cx} {pins : List (Addr × Obj)} {σ : L2.St} {H : Hp} {s : Shared}
theorem err_inst {e C d : Addr} {fs : List (Str × V)} (I : Inv X pins σ H s) (h1 : H e = some (exo e C (some d))) (h2 : H d = some (exd d fs)) :
    ∃ t1 od, PySem.W.InstAt s.heap e ({ cls := .ref C, dict := some d, data := .fields #[.ref t1, .none, .none, .none, .bool false, .none] } : Obj) C (some od) ∧ s.heap.get? d = some od := by
  obtain ⟨t1, ho⟩ := exo_at I.hok h1
  obtain ⟨mA, hns, rel⟩ := exd_at I.hok h2
  obtain ⟨od, es, ep, hd, _⟩ := hns
  exact ⟨t1, od, ⟨ho, rfl, rfl, hd⟩, hd⟩
/-- isinstance(error, c) -/
def rIsX (K : PySem.W.Frag) : List V → Hp → VK → Prop := fun xs H Q => ∃ (a D : Addr) (fld : Str) (v c : V) (u : Value) (b : Bool), xs = [.ref a, c] ∧ ErrAt H a D fld v ∧ XC K D fld ∧ ClsV c u ∧ PySem.W.kitOne K (.ref D) u = some b ∧ Q (.bl b) H
theorem call_isX {X : Cx} : CallR X (.builtin "isinstance") (rIsX X.K) := by
  intro pins s σ H xs us Q I r h
  obtain ⟨a, D, fld, v, c, u, b, rfl, ⟨d, h1, h2⟩, C, k, e, q⟩ := h
  obtain ⟨u1, u2, rfl, r1, r2⟩ := vals2 r
  cases (show u1 = Value.ref a from r1)
  have e2 := k.eq r2
  subst e2
  obtain ⟨t1, od, J, _⟩ := err_inst I h1 h2
  refine PySem.W.kia_one (PySem.W.kitx_exc (clsIn_of C.oex) C.xf.ga C.xf.gg C.xf.exC C.ha C.hn C.ht C.hm) I.kIn J e (fun z => nomatch z) fun tk => ?_
  exact ⟨.bl b, H, I.tok tk, rfl, q⟩
/-- error.f -/
def tXv (K : PySem.W.Frag) (f : Str) (te : TE) : TE := fun σ H Q => te σ H fun x H1 => ∃ (a D : Addr) (v : V), x = .ref a ∧ ErrAt H1 a D f v ∧ XC K D f ∧ Q v H1
theorem pe_xv {X : Cx} {e : Expr} {te : TE} {pos : Pos} {n : Str} (he : PE X e te) (hb : attributeBase e n X.env (eval e X.env) = eval e X.env := by rfl) : PE X (.Attribute e n pos) (tXv X.K n te) := by
  refine ⟨fun pins s σ H Q I h => ?_⟩
  refine attr_of hb (thn (he.run pins s σ H _ I h) fun u s1 hh => ?_)
  obtain ⟨x, H1, I1, rx, a, D, v, ex, ⟨d, h1, h2⟩, T, q⟩ := hh
  subst ex
  obtain rfl : u = Value.ref a := rx
  obtain ⟨t1, od0, J, hd⟩ := err_inst I1 h1 h2
  obtain ⟨mA, hns, hr⟩ := exd_at I1.hok h2
  obtain ⟨od, ho, hl⟩ := lookIn_ns hns
  rw [hd] at ho
  cases ho
  have l : List.lookup n [(n, v)] = some v := by simp [List.lookup]
  obtain ⟨u, hu, ru⟩ := RelO.some_of (v := v) (o := mA n) (by rw [← l]; exact hr n)
  exact HandSPX.exc_get I1.kIn J T.xf.ga T.xf.gg T.xf.exC (PySem.W.findObj_own T.xf.hdC T.nof rfl (by rw [hl, hu])) (handed_of ru) ⟨v, H1, I1.tok _, ru, q⟩
end
/-! ### C(e): a new error as a value -/
section
variable {X : Cx} {CX : CXT} {k : Nat} {ps : List Str} {x : Str} {p pos : Pos} {e : Expr} {es : List Expr} {ta : TA} {C fI : Addr} {fd : FuncData} {sp : Sp}
theorem run_mkv {pins : List (Addr × Obj)} {σ : L2.St} {H1 : Hp} {s1 : Shared} {us : List Value} {vs : List V} {Q : VK} (T : OexC X.K C) (iC : PySem.W.findIn X.K (.ref C) "__init__" = some (some (.ref fI))) (tI : PySem.W.typeIn X.K (.ref fI) = some (.type "function"))
    (F1 : FnOk X.prog X.w X.K X.mg X.base CX k fI fd ps sp) (hr : Room (k + 1) X.A) (hb : Binds X.K fd ps []) (hx : Passes CX X (fun _ _ _ => False)) (I1 : Inv X pins σ H1 s1) (r1 : Vals vs us)
    (hz : vs.length ≤ 1000) (q1 : ∀ a, H1 a = none → sp (.ref a :: vs) (upd H1 a (exo a C none)) (fun v H2 => v = .non ∧ Q (.ref a) H2) (fun _ _ _ => False)) :
    wpAny (model X.prog X.w) X.A (call (.ref C) us) (EP X pins σ Q) X.xe s1 := by
  have T' := T
  obtain ⟨nm, q, N, bs, bm, sn, sub, ab, col, dd, k0, k1, k2, k3, k5, hC, hbm⟩ := T'.cls
  obtain ⟨hp, g, dr, tk, os⟩ := s1
  have n0 : H1 (hp.objs.size + 1) = none := I1.hok.fresh (Nat.le_succ hp.objs.size)
  have hq := q1 (hp.objs.size + 1) n0
  have kp : ∀ b o, hp.get? b = some o → ((hp.push (PySem.W.kdv_tup us)).push (PySem.HandSPX.excO C hp.objs.size)).get? b = some o :=
    fun b o z => Heap.get?_push_of_some _ (Heap.get?_push_of_some _ z)
  have gt : ((hp.push (PySem.W.kdv_tup us)).push (PySem.HandSPX.excO C hp.objs.size)).get? (hp.objs.size + 1) = some (PySem.HandSPX.excO C hp.objs.size) := by heap_get
  have I2 : Inv X pins σ (upd H1 (hp.objs.size + 1) (exo (hp.objs.size + 1) C none)) ⟨(hp.push (PySem.W.kdv_tup us)).push (PySem.HandSPX.excO C hp.objs.size), g, dr, tk, os⟩ :=
    I1.laid (t' := tk) kp (Nat.le_succ hp.objs.size) (exo_ok gt)
  have r2 : Vals (V.ref (hp.objs.size + 1) :: vs) (Value.ref (hp.objs.size + 1) :: us) := .cons rfl r1
  have hl : (Value.ref (hp.objs.size + 1) :: us ++ []).length = ps.length := by
    rw [List.append_nil, ← r2.length, F1.len _ _ _ _ hq]
  have hus : us.length ≤ sizeLine := by
    rw [← Paired.length r1, sizeLine_eq]; omega
  have hB := hb _ (Value.ref (hp.objs.size + 1) :: us) I2.kIn hl
  rw [List.append_nil] at hB
  refine wpAny_call (PySem.HandSPX.call_own F.excBase_ValueError (fun Y => PySem.HandSPX.refsVE_contains Y bm hbm) (I1.kIn _ _ hC) (PySem.W.looks_findIn I1.kIn iC) (fun self => PySem.W.bind_fn I1.kIn self tI) hus ?_)
  refine codeAny_mono (F1.run _ X.stack _ _ ⟨Value.ref (hp.objs.size + 1) :: us, []⟩ (Value.ref (hp.objs.size + 1) :: us) _ _ (fun _ _ _ => False) (hr.make C us []) (I2.env0.make C us []) hB r2 hq) fun r s' hq' => ?_
  cases r with
  | error er => exact hx pins σ _ _ er s' I2 hq'
  | ok fl =>
    cases fl with
    | ret u =>
      obtain ⟨v, H2, I3, rv, ev, q2⟩ := I2.after hq'
      subst ev
      exact ⟨rv, .ref (hp.objs.size + 1), H2, I3, rfl, q2⟩
    | next => exact False.elim hq'
    | brk => exact False.elim hq'
    | cont => exact False.elim hq'
end
end Lw
namespace PySem.LwK
open PySem.HandSPX PySem.Calls
section
variable {prog : Program} {w : World} {M : Model} {A : Around} {E : Value → Shared → Prop} {R : Result → Shared → Prop} {h : Heap} {g : Array GenState} {d : Drawn} {t : Nat} {os : OsState}
variable {nm q : Str} {C N : Addr} {bs bm bmB : List Value} {hdct : Bool} {sn : List Str} {sub : List Value} {ab : Bool} {col : Option Bool} {dd : Option Addr} {k0 k1 k2 k3 k5 : Option Value} {B newId initId : String} {kw : List (Str × Value)}
theorem chk_new_kw (F : ExcBaseFacts B newId initId bmB) (hT : ∀ Y : String, bm.contains (.type Y) = bmB.contains (.type Y)) {rest : List Value} {Q : Unit → Shared → Prop}
    (hC : h.get? C = some (excClassObj nm q C N bs bm hdct sn sub ab col dd k0 k1 k2 k3 k5 newId)) (hq : Q () ⟨h, g, d, t, os⟩) :
    wpAny M A (checkBuiltinCall newId ⟨.ref C :: rest, kw⟩) Q E ⟨h, g, d, t, os⟩ := by
  have c1 : (Value.ref C :: bm).contains (.type B) = true := by
    rw [List.contains_cons, hT, F.hasB, Bool.or_true]
  have c2 := F.noStar
  simp only [checkBuiltinCall, F.newKind, F.newSplit, F.newRow]
  repeat (first
    | refine wpAny_loadPart_at hC ?_
    | (refine wpAny_isSubtype_exc hC ?_; rw [c1])
    | refine wpAny_staticBase_exc hC ?_
    | refine wpAny_madeBy_exc hC ?_
    | simp only [bne_self_eq_false, Bool.false_eq_true, if_false]
    | wp_step)
  all_goals exact hq
theorem new_kw (F : ExcBaseFacts B newId initId bmB) (hT : ∀ Y : String, bm.contains (.type Y) = bmB.contains (.type Y)) {rest : List Value}
    (hC : h.get? C = some (excClassObj nm q C N bs bm hdct sn sub ab col dd k0 k1 k2 k3 k5 newId))
    (hq : R (.ok (.ret (.ref (h.objs.size + 1)))) ⟨(h.push { cls := .type "tuple", data := .seq rest.toArray }).push
      { cls := .ref C, data := .fields #[.ref h.objs.size, .none, .none, .none, .bool false, .none] }, g, d, t, os⟩) (hrest : rest.length ≤ sizeLine) :
    codeAny (model prog w) A (.builtin newId ⟨.ref C :: rest, kw⟩) R ⟨h, g, d, t, os⟩ := by
  have hE := F.ends
  have c1 : (Value.ref C :: bm).contains (.type B) = true := by
    rw [List.contains_cons, hT, F.hasB, Bool.or_true]
  have c2 : (Value.ref C :: bm).contains (.type "AttributeError") = false := by
    rw [List.contains_cons, hT, F.noAttr]; rfl
  have c3 : (Value.ref C :: bm).contains (.type "NameError") = false := by
    rw [List.contains_cons, hT, F.noName]; rfl
  refine codeAny_builtinAt F.entry ?_
  unfold Builtin.«BaseException.__new__»
  refine wpAt_bind ?_
  show wpAt _ _ _ (stack >>= _) _ _ _
  refine wpAt_bind (wpAt_stack fun p below => wpAt_of_wpAny ?_)
  wp_walk
  refine wpAt_of_wpAny ?_
  rw [F.owner]
  repeat (first
    | with_reducible refine wpAny_madeHere_exc F.canon hC ?_
    | with_reducible refine wpAny_loadPart_at hC ?_
    | (with_reducible refine wpAny_isSubtype_exc hC ?_; first | rw [c1] | rw [c2] | rw [c3])
    | wp_step)
  show R _ _
  rw [Heap.size_push]
  exact hq
theorem tcall_kw (F : ExcBaseFacts B newId initId bmB) (hT : ∀ Y : String, bm.contains (.type Y) = bmB.contains (.type Y)) {rest : List Value} {fI : Addr} {Q : Fin → Shared → Prop}
    (hC : h.get? C = some (excClassObj nm q C N bs bm hdct sn sub ab col dd k0 k1 k2 k3 k5 newId))
    (hi : W.Looks (model prog w) h (typeLookup (.ref C) "__init__") (some (.ref fI))) (hb : ∀ self, W.Looks (model prog w) h (bindSpecial (.ref fI) self) (.ref fI, [self])) (hrest : rest.length ≤ sizeLine)
    (hq : codeAny (model prog w) A (.call (.ref fI) ⟨.ref (h.objs.size + 1) :: rest, kw⟩)
      (fun r s' => match r with | .ok (.ret v) => v = .none ∧ Q (.done (.ret (.ref (h.objs.size + 1)))) s' | .ok _ => False | .error e => E e s')
      ⟨(h.push (W.kdv_tup rest)).push (excO C h.objs.size), g, d, t, os⟩) :
    wpAny (model prog w) A (Builtin.«type.__call__» ⟨.ref C :: rest, kw⟩) Q E ⟨h, g, d, t, os⟩ := by
  repeat (first
    | with_reducible refine wpAny_loadPart_at hC ?_
    | with_reducible refine wpAny_madeBy_exc hC ?_
    | wp_step)
  refine codeAny_call_builtin_code (Code.quiet_builtin _ F.quiet) (chk_new_kw F hT hC ?_)
  refine new_kw F hT hC ?_ hrest
  show wpAny _ _ _ _ _ _
  have kp : ∀ b o, h.get? b = some o → ((h.push (W.kdv_tup rest)).push (excO C h.objs.size)).get? b = some o :=
    fun b o z => Heap.get?_push_of_some _ (Heap.get?_push_of_some _ z)
  have hC1 := kp _ _ hC
  have gt : ((h.push (W.kdv_tup rest)).push (excO C h.objs.size)).get? (h.objs.size + 1) = some (excO C h.objs.size) := by heap_get
  have cC : (Value.ref C :: bm).contains (.ref C) = true := by simp
  have i1 := hi.keeps kp
  have b1 := (hb (.ref (h.objs.size + 1))).keeps kp
  unfold isInstance
  repeat (first
    | with_reducible refine wpAny_loadPart_at gt ?_
    | (with_reducible refine wpAny_isSubtype_exc hC1 ?_; rw [cC])
    | wp_step)
  show wpAny _ _ (typeLookup (.ref C) _) _ _ _
  refine i1.at ?_
  refine wpAny_holding (wpAny_bind (b1.at ?_))
  refine wpAny_bind (wpAny_call (codeAny_mono hq fun r s' z => ?_))
  rcases r with e | (v | _ | _ | _) <;> (first
    | exact z
    | exact z.elim
    | (obtain ⟨rfl, z⟩ := z
       first
         | exact wpAny_pure (wpAny_pure z)
         | (wp_walk; exact z)))
theorem chk_tcall_kw {M : Model} {rest : List Value} {Q : Unit → Shared → Prop} (hC : h.get? C = some (excClassObj nm q C N bs bm hdct sn sub ab col dd k0 k1 k2 k3 k5 newId))
    (hq : Q () ⟨h, g, d, t, os⟩) : wpAny M A (checkBuiltinCall "type.__call__" ⟨.ref C :: rest, kw⟩) Q E ⟨h, g, d, t, os⟩ := by
  have f3 := tc_sub
  have hT : (⟨h, g, d, t, os⟩ : Shared).TypeIs (.ref C) "type" := ⟨_, hC, rfl⟩
  simp only [checkBuiltinCall, tc_kind, tc_split]
  repeat (any_goals (first
    | assumption
    | with_reducible refine wpAny_loadPart_at hC ?_
    | with_reducible refine wpAny_onRaise ?_
    | with_reducible refine wpAny_map ?_
    | wp_step))
theorem call_kw (F : ExcBaseFacts B newId initId bmB) (hT : ∀ Y : String, bm.contains (.type Y) = bmB.contains (.type Y)) {rest : List Value} {fI : Addr}
    (hC : h.get? C = some (excClassObj nm q C N bs bm hdct sn sub ab col dd k0 k1 k2 k3 k5 newId))
    (hi : W.Looks (model prog w) h (typeLookup (.ref C) "__init__") (some (.ref fI))) (hb : ∀ self, W.Looks (model prog w) h (bindSpecial (.ref fI) self) (.ref fI, [self])) (hrest : rest.length ≤ sizeLine)
    (hq : codeAny (model prog w) (A.under (.builtin "type.__call__" ⟨.ref C :: rest, kw⟩)) (.call (.ref fI) ⟨.ref (h.objs.size + 1) :: rest, kw⟩) (W.InitBack (h.objs.size + 1) R)
      ⟨(h.push (W.kdv_tup rest)).push (excO C h.objs.size), g, d, t, os⟩) :
    codeAny (model prog w) A (.call (.ref C) ⟨rest, kw⟩) R ⟨h, g, d, t, os⟩ := by
  have f1 := tc_lookup
  have f2 := tc_bind (.ref C)
  have hTy : (⟨h, g, d, t, os⟩ : Shared).TypeIs (.ref C) "type" := ⟨_, hC, rfl⟩
  refine codeAny_of_tree ?_
  show wpAny _ _ (callAny (.ref C) _) _ _ _
  repeat (any_goals (first
    | assumption
    | with_reducible refine wpAny_loadPart_at hC ?_
    | wp_step))
  refine ⟨rfl, ?_⟩
  refine codeAny_call_builtin_at (Code.quiet_builtin _ (by decide +kernel)) entry_typeCall (chk_tcall_kw hC (tcall_kw F hT hC hi hb hrest ?_))
  refine codeAny_mono hq fun r s' z => ?_
  rcases r with e | (v | _ | _ | _) <;> exact z
end
end PySem.LwK
namespace Lw
open PySem PySem.Spec PyProof.Rows L2
section
variable {X : Cx} {CX : CXT} {k : Nat} {ps ks : List Str} {x : Str} {p pos : Pos} {kws : List Keyword} {tk : TA} {C fI : Addr} {fd : FuncData} {sp : Sp} {g : List Value → List Value → List Value} {gV : List V → List V → List V}
/-- C(f = e, ..), behind its arguments -/
theorem run_mkvK {pins : List (Addr × Obj)} {σ : L2.St} {H1 : Hp} {s1 : Shared} {ws : List Value} {zs : List V} {Q : VK} (T : OexC X.K C) (iC : PySem.W.findIn X.K (.ref C) "__init__" = some (some (.ref fI))) (tI : PySem.W.typeIn X.K (.ref fI) = some (.type "function"))
    (F1 : FnOk X.prog X.w X.K X.mg X.base CX k fI fd ps sp) (hr : Room (k + 1) X.A) (hb : KBn X.K fd ps 1 ks g gV) (hx : Passes CX X (fun _ _ _ => False)) (I1 : Inv X pins σ H1 s1) (rz : Vals zs ws) (l2 : zs.length = ks.length)
    (q1 : ∀ a, H1 a = none → sp (gV [.ref a] zs) (upd H1 a (exo a C none)) (fun v H2 => v = .non ∧ Q (.ref a) H2) (fun _ _ _ => False)) :
    wpAny (model X.prog X.w) X.A (call (.ref C) [] (ks.zip ws)) (EP X pins σ Q) X.xe s1 := by
  have T' := T
  obtain ⟨nm, q, N, bs, bm, sn, sub, ab, col, dd, k0, k1, k2, k3, k5, hC, hbm⟩ := T'.cls
  obtain ⟨hp, gg, dr, tk, os⟩ := s1
  have n0 : H1 (hp.objs.size + 1) = none := I1.hok.fresh (Nat.le_succ hp.objs.size)
  have hq := q1 (hp.objs.size + 1) n0
  have kp : ∀ b o, hp.get? b = some o → ((hp.push (PySem.W.kdv_tup [])).push (PySem.HandSPX.excO C hp.objs.size)).get? b = some o :=
    fun b o z => Heap.get?_push_of_some _ (Heap.get?_push_of_some _ z)
  have gt : ((hp.push (PySem.W.kdv_tup [])).push (PySem.HandSPX.excO C hp.objs.size)).get? (hp.objs.size + 1) = some (PySem.HandSPX.excO C hp.objs.size) := by heap_get
  have I2 : Inv X pins σ (upd H1 (hp.objs.size + 1) (exo (hp.objs.size + 1) C none)) ⟨(hp.push (PySem.W.kdv_tup [])).push (PySem.HandSPX.excO C hp.objs.size), gg, dr, tk, os⟩ :=
    I1.laid (t' := tk) kp (Nat.le_succ hp.objs.size) (exo_ok gt)
  have r0 : Vals [V.ref (hp.objs.size + 1)] [Value.ref (hp.objs.size + 1)] := .cons rfl .nil
  have r2 := hb.rel r0 rz
  have hB := hb.to _ [Value.ref (hp.objs.size + 1)] ws I2.kIn rfl (rz.length.symm.trans l2)
  refine wpAny_call (PySem.LwK.call_kw F.excBase_ValueError (fun Y => PySem.HandSPX.refsVE_contains Y bm hbm) (I1.kIn _ _ hC) (PySem.W.looks_findIn I1.kIn iC) (fun self => PySem.W.bind_fn I1.kIn self tI) (Nat.zero_le _) ?_)
  refine codeAny_mono (F1.run _ X.stack _ _ ⟨[Value.ref (hp.objs.size + 1)], ks.zip ws⟩ (g [Value.ref (hp.objs.size + 1)] ws) _ _ (fun _ _ _ => False) (hr.make C [] (ks.zip ws)) (I2.env0.make C [] (ks.zip ws)) hB r2 hq) fun r s' hq' => ?_
  cases r with
  | error er => exact hx pins σ _ _ er s' I2 hq'
  | ok fl =>
    cases fl with
    | ret u =>
      obtain ⟨v, H2, I3, rv, ev, q2⟩ := I2.after hq'
      subst ev
      exact ⟨rv, .ref (hp.objs.size + 1), H2, I3, rfl, q2⟩
    | next => exact False.elim hq'
    | brk => exact False.elim hq'
    | cont => exact False.elim hq'
end
end Lw
namespace Lw
open PySem PySem.Spec PyProof.Rows L2

/-! ### what a value reads as, over the abstract heap -/
mutual
inductive RdV (H : Hp) : V → PyData → List Addr → Prop
  | non : RdV H .non .none []
  | bl (b : Bool) : RdV H (.bl b) (.bool b) []
  | int (i : Int) : RdV H (.int i) (.int i) []
  | str (x : Str) : RdV H (.str x) (.str x) []
  | lst {a : Addr} {xs : List V} {ds : List PyData} {as : List Addr} : H a = some (.lst xs) → RdVs H xs ds as → RdV H (.ref a) (.list ds) (a :: as)
  | tup {a : Addr} {xs : List V} {ds : List PyData} {as : List Addr} : H a = some (.tup xs) → RdVs H xs ds as → RdV H (.ref a) (.tuple ds) as
  | dic {a : Addr} {kvs : List (Key × V)} {ps : List (PyData × PyData)} {as bs : List Addr} : H a = some (.dK kvs) → RdVs H (kvs.map fun kv => kV kv.1) (ps.map (·.1)) as → RdVs H (kvs.map (·.2)) (ps.map (·.2)) bs →
      RdV H (.ref a) (.dict ps) (a :: as ++ bs)
inductive RdVs (H : Hp) : List V → List PyData → List Addr → Prop
  | nil : RdVs H [] [] []
  | cons {v : V} {vs : List V} {d : PyData} {ds : List PyData} {as bs : List Addr} : RdV H v d as → RdVs H vs ds bs → RdVs H (v :: vs) (d :: ds) (as ++ bs)
end
section
variable {P : Program} {w : World} {H H' : Hp} {h : Heap}
theorem keys_vals {κ : Type} {knd : KeyKind P w Key} : ∀ {es : List DictEntry} {kvs : List (Key × Value)} {ws : List (Key × V)}, knd = mixKind P w → KV ws kvs → Pairs knd es kvs →
    Vals (ws.map fun kv => kV kv.1) (es.map (·.key)) ∧ Vals (ws.map (·.2)) (es.map (·.val))
  | _, _, _, _, .nil, .nil => ⟨.nil, .nil⟩
  | e :: es, kv :: kvs, x :: ws, hk, .cons r rs, .cons a b c => by
    obtain ⟨h1, h2⟩ := keys_vals (κ := κ) hk rs c
    refine ⟨.cons ?_ h1, .cons ?_ h2⟩
    · subst hk
      rcases keyIs_shape a with ⟨i, t, e1, e2⟩ | ⟨y, t, e1, e2⟩
      · show RelV (kV x.1) e.key
        rw [r.1, e1, e2]
        exact ⟨t, rfl⟩
      · show RelV (kV x.1) e.key
        rw [r.1, e1, e2]
        exact ⟨t, rfl⟩
    · show RelV x.2 e.val
      rw [b]
      exact r.2
mutual
theorem reads_of (ok : HOk P w H h) : ∀ {v : V} {d : PyData} {as : List Addr} {u : Value}, RdV H v d as → RelV v u → Reads h u d as
  | _, _, _, u, .non, r => by cases (show u = Value.none from r); exact .none
  | _, _, _, u, .bl b, r => by cases (show u = Value.bool b from r); exact .bool b
  | _, _, _, u, .int i, r => by obtain ⟨t, e⟩ := (show ∃ t, u = Value.int i t from r); cases e; exact .int i t
  | _, _, _, u, .str x, r => by obtain ⟨t, e⟩ := (show ∃ t, u = Value.str x t from r); cases e; exact .str x t
  | _, _, _, u, .lst (a := a) (xs := xs) e q, r => by
    cases (show u = Value.ref a from r)
    obtain ⟨_, its, n, rv, ho⟩ := (show ObjOk P w H h a (.lst xs) from ok a _ e)
    exact .list ho rfl rfl (reads_all ok q rv)
  | _, _, _, u, .tup (a := a) (xs := xs) e q, r => by
    cases (show u = Value.ref a from r)
    obtain ⟨_, its, rv, o, h1, h2, n, h3⟩ := (show ObjOk P w H h a (.tup xs) from ok a _ e)
    exact .tuple h1 h2 h3 (reads_all ok q rv)
  | _, _, _, u, .dic (a := a) (kvs := kvs) e q1 q2, r => by
    cases (show u = Value.ref a from r)
    obtain ⟨_, _, vs, rk, o, es, ep, h1, h2, h3, h4, h5, h6⟩ := (show ObjOk P w H h a (.dK kvs) from ok a _ e)
    obtain ⟨k1, k2⟩ := keys_vals (κ := Unit) rfl rk h5
    exact .dict h1 h2.1 h3 (reads_all ok q1 k1) (reads_all ok q2 k2)
theorem reads_all (ok : HOk P w H h) : ∀ {vs : List V} {ds : List PyData} {as : List Addr} {us : List Value}, RdVs H vs ds as → Vals vs us → ReadsAll h us ds as
  | _, _, _, _, .nil, .nil => .nil
  | _, _, _, _, .cons a b, .cons r rs => .cons (reads_of ok a r) (reads_all ok b rs)
end
/-- what changes elsewhere leaves it -/
def Holds (H H' : Hp) (as : List Addr) : Prop := ∀ b o, H b = some o → b ∉ as → H' b = some o
mutual
theorem RdV.same (e : Same H H') : ∀ {v : V} {d : PyData} {as : List Addr}, RdV H v d as → RdV H' v d as
  | _, _, _, .non => .non
  | _, _, _, .bl b => .bl b
  | _, _, _, .int i => .int i
  | _, _, _, .str x => .str x
  | _, _, _, .lst a b => .lst (e _ _ a) (RdVs.same e b)
  | _, _, _, .tup a b => .tup (e _ _ a) (RdVs.same e b)
  | _, _, _, .dic a b c => .dic (e _ _ a) (RdVs.same e b) (RdVs.same e c)
theorem RdVs.same (e : Same H H') : ∀ {vs : List V} {ds : List PyData} {as : List Addr}, RdVs H vs ds as → RdVs H' vs ds as
  | _, _, _, .nil => .nil
  | _, _, _, .cons a b => .cons (RdV.same e a) (RdVs.same e b)
end
mutual
theorem RdV.off {x : Addr} {o o0 : HO} (h0 : H x = some o0) (nt : ∀ xs, o0 ≠ .tup xs) : ∀ {v : V} {d : PyData} {as : List Addr}, RdV H v d as → x ∉ as → RdV (upd H x o) v d as
  | _, _, _, .non, _ => .non
  | _, _, _, .bl b, _ => .bl b
  | _, _, _, .int i, _ => .int i
  | _, _, _, .str y, _ => .str y
  | _, _, _, .lst (a := a) e b, n => .lst (by rw [upd_ne fun z => n (by rw [z]; exact List.mem_cons_self)]; exact e) (RdVs.off h0 nt b fun z => n (List.mem_cons_of_mem _ z))
  | _, _, _, .tup (a := a) e b, n => .tup (by rw [upd_ne fun z => by rw [z, h0] at e; exact nt _ (Option.some.inj e)]; exact e) (RdVs.off h0 nt b n)
  | _, _, _, .dic (a := a) e b c, n => .dic (by rw [upd_ne fun z => n (by rw [z]; exact List.mem_append_left _ List.mem_cons_self)]; exact e)
      (RdVs.off h0 nt b fun z => n (List.mem_append_left _ (List.mem_cons_of_mem _ z))) (RdVs.off h0 nt c fun z => n (List.mem_append_right _ z))
theorem RdVs.off {x : Addr} {o o0 : HO} (h0 : H x = some o0) (nt : ∀ xs, o0 ≠ .tup xs) : ∀ {vs : List V} {ds : List PyData} {as : List Addr}, RdVs H vs ds as → x ∉ as → RdVs (upd H x o) vs ds as
  | _, _, _, .nil, _ => .nil
  | _, _, _, .cons a b, n => .cons (RdV.off h0 nt a fun z => n (List.mem_append_left _ z)) (RdVs.off h0 nt b fun z => n (List.mem_append_right _ z))
end
theorem RdVs.append : ∀ {xs ys : List V} {ds es : List PyData} {as bs : List Addr}, RdVs H xs ds as → RdVs H ys es bs → RdVs H (xs ++ ys) (ds ++ es) (as ++ bs)
  | _, _, _, _, _, _, .nil, q => q
  | _, _, _, _, _, _, .cons (as := a1) a b, q => by
    rw [List.append_assoc]
    exact .cons a (RdVs.append b q)
mutual
theorem notModules (ok : HOk P w H h) (hm : ∀ o, h.get? sysModules = some o → o.cls = .type "dict") : ∀ {v : V} {d : PyData} {as : List Addr}, RdV H v d as → sysModules ∉ as
  | _, _, _, .non => by simp
  | _, _, _, .bl b => by simp
  | _, _, _, .int i => by simp
  | _, _, _, .str y => by simp
  | _, _, _, .lst (a := a) (xs := xs) e b => fun z => by
    rcases List.mem_cons.mp z with q | q
    · obtain ⟨_, its, n, rv, ho⟩ := (show ObjOk P w H h a (.lst xs) from ok a _ e)
      rw [← q] at ho
      have c : Value.type "list" = Value.type "dict" := hm _ ho
      exact absurd (Value.type.inj c) (by decide)
    · exact notModulesAll ok hm b q
  | _, _, _, .tup e b => notModulesAll ok hm b
  | _, _, _, .dic (a := a) (kvs := kvs) e b c => fun z => by
    rcases List.mem_append.mp z with z | z
    · rcases List.mem_cons.mp z with q | q
      · obtain ⟨_, h2, _⟩ := (show ObjOk P w H h a (.dK kvs) from ok a _ e)
        rw [← q] at h2
        have c : (sysModules == sysModules) = true := beq_self_eq_true _
        rw [c] at h2
        cases h2
      · exact notModulesAll ok hm b q
    · exact notModulesAll ok hm c z
theorem notModulesAll (ok : HOk P w H h) (hm : ∀ o, h.get? sysModules = some o → o.cls = .type "dict") : ∀ {vs : List V} {ds : List PyData} {as : List Addr}, RdVs H vs ds as → sysModules ∉ as
  | _, _, _, .nil => by simp
  | _, _, _, .cons a b => fun z => (List.mem_append.mp z).elim (notModules ok hm a) (notModulesAll ok hm b)
end
end
/-- small data: a text of few signs -/
structure Small (d : PyData) (n m : Nat) : Prop where
  show_ : d.showable = true
  dep : d.depth ≤ m
  len : d.shown.length ≤ n
/-- repr(x), x a list, a tuple or a dict -/
def rRepr : List V → Hp → VK → Prop := fun xs H Q => ∃ (a : Addr) (d : PyData) (as : List Addr), xs = [.ref a] ∧ RdV H (.ref a) d as ∧ Small d 16777216 60 ∧ Q (.str d.shown) H
theorem call_repr {X : Cx} (hg : X.A.guards = some []) (hu : X.A.units + 64 < cLine) (hD : He.dictB X.K sysModules = true) : CallR X (.builtin "repr") rRepr := by
  intro pins s σ H xs us Q I r h
  obtain ⟨a, d, as, rfl, rd, sm, q⟩ := h
  obtain ⟨u, rfl, ru⟩ := vals1 r
  have R := reads_of I.hok rd ru
  cases (show u = Value.ref a from ru)
  have hm : ∀ o, s.heap.get? sysModules = some o → o.cls = .type "dict" := fun o e => by
    obtain ⟨es, n, sl, hk⟩ := He.dictB_ok hD
    have e2 := I.kIn _ _ hk
    rw [e] at e2
    cases e2
    rfl
  have nm := notModules I.hok hm rd
  have e1 := sm.dep
  refine repr_of_reads' R sm.show_ (fun _ => nm) hg (by omega) (fun _ _ z => z) (fun h' u tk hk => ?_) (by rw [sizeLine_eq]; exact sm.len)
  exact ⟨.str d.shown, H, I.kept (t' := tk) hk, ⟨u, rfl⟩, q⟩
end Lw
namespace Lw
open PySem PySem.Spec PyProof.Rows L2

/-! ### defs that are called where no text of a list is being made (repr asks that) -/
structure FnG (P : Program) (w : World) (K : PySem.W.Frag) (mg : Str → Option Value) (base : Heap) (CX : CXT) (k : Nat) (f : Addr) (fd : FuncData) (ps : List Str) (sp : Sp) : Prop where
  len : ∀ vs H Q E, sp vs H Q E → vs.length = ps.length
  run : ∀ (A : Around) (outer : List Env) (s : Shared) (H : Hp) (args : Args) (us : List Value) (vs : List V) (Q : VK) (E : XK), A.guards = some [] → Room k A → Env0 P w K mg base A outer s H → BindsTo s fd args (ps.zip us) → Vals vs us → sp vs H Q E →
    codeAny (model P w) A (.call (.ref f) args) (CR CX outer P w H s Q E) s
theorem FnG.of {P : Program} {w : World} {K : PySem.W.Frag} {mg : Str → Option Value} {base : Heap} {CX : CXT} {k : Nat} {f : Addr} {fd : FuncData} {ps : List Str} {sp : Sp} (F : FnOk P w K mg base CX k f fd ps sp) : FnG P w K mg base CX k f fd ps sp :=
  ⟨F.len, fun A outer s H args us vs Q E _ hr e0 hb r hsp => F.run A outer s H args us vs Q E hr e0 hb r hsp⟩
section
variable {P : Program} {w : World} {K : PySem.W.Frag} {mg : Str → Option Value} {base : Heap} {x qual : Str} {params : Arguments} {body : List Stmt} {scope : Scope} {dvs : List V} {kws : List (Str × V)} {f : Addr} {fd : FuncData}
/-- the rule for such a def: by its body -/
theorem okG {CX : CXT} {N ps : List Str} {k : Nat} {sp : Sp} (F : FunD K x qual params body scope dvs kws f fd) (S : FnScope N ps scope) (len : ∀ vs H Q E, sp vs H Q E → vs.length = ps.length)
    (hbody : ∀ (cdv : Value) (A : Around) (outer : List Env) (s : Shared) (H : Hp) (vs : List V) (Q : VK) (E : XK), A.guards = some [] → Room k (A.deeper (envOfC qual scope s.heap.objs.size f cdv)) → sp vs H Q E →
      ∃ t, PSs (cxOf CX P w K mg base N qual scope f cdv A outer s H E) body t ∧ t { nx := fun _ H' => Q .non H', rt := Q } (start N vs) H) : FnG P w K mg base CX (k + 1) f fd ps sp := by
  obtain ⟨oc, od, dV, kV, doc, pm, an, cdv, ct, osl, rfl, lk, hcd, _, _⟩ := F.ex
  refine ⟨len, fun A outer s H args us vs Q E hg hr e0 hb r hsp => ?_⟩
  have one : FnOk P w K mg base CX (k + 1) f (PySem.W.fnOf x qual params body scope dV kV doc pm an cdv ct) ps (fun ws G R Er => ws = vs ∧ G = H ∧ R = Q ∧ Er = E ∧ A.guards = some [] ∧ sp vs H Q E) → codeAny (model P w) A (.call (.ref f) args) (CR CX outer P w H s Q E) s :=
    fun G => G.run A outer s H args us vs Q E hr e0 hb r ⟨rfl, rfl, rfl, rfl, hg, hsp⟩
  have hl := len _ _ _ _ hsp
  have KX : K.In s.heap := e0.mod.kin.keeps fun b o e => (e0.bs b o e).1
  have lim : s.heap.NoLimit := e0.mod.nolimit.keeps fun b o e => (e0.bs b o e).1
  have hkind : ∀ y ∈ ps.zip us, scope.names.lookup y.1 = some .local ∨ (scope.names.lookup y.1 = some .cell ∧ ((cellsFrom (s.heap.objs.size + 1) scope.names []).lookup y.1).isSome = true) := by
    rintro ⟨n, v⟩ hy
    rcases S.par n (List.of_mem_zip hy).1 with q | q
    · exact .inl q
    · exact .inr ⟨q, PySem.W.cellsFrom_some _ _ _ (.inl q)⟩
  refine codeAny_call_function hr.depth (KX _ _ lk) rfl S.co S.gen rfl (PySem.W.codeRec_of KX hcd) (hb _ _ _ _ ?_)
  refine wpAny_newFunctionEnv_cells S.kind hkind fun env he s1 xx => ?_
  subst he
  refine ⟨lim.keeps xx.toInCall.keep, codeAny_func ?_⟩
  obtain ⟨t, ht, hq⟩ := hbody cdv A outer s H vs Q E hg (hr.deeper _) hsp
  have I : Inv (cxOf CX P w K mg base N qual scope f cdv A outer s H E) [] (start N vs) H s1 := inv_start S hr.hd e0 hl r xx
  refine wpAny_mono (ht.run [] s1 (start N vs) H _ I hq) (fun fl s' hs => ?_) fun e s' hs => hs
  have fin : ∀ {σ' : L2.St} {H' : Hp} {v : V} {u : Value}, Inv (cxOf CX P w K mg base N qual scope f cdv A outer s H E) [] σ' H' s' → RelV v u → Q v H' → CE outer P w H s Q u s' := by
    intro σ' H' v u J rv q
    exact ⟨v, H', J.os, J.bare, J.base, J.hok, rv, q⟩
  cases fl with
  | ret u =>
    obtain ⟨v, σ', H', J, rv, q⟩ := hs
    exact fin J rv q
  | next =>
    obtain ⟨σ', H', J, q⟩ := hs
    exact fin (v := V.non) (u := Value.none) J rfl q
  | brk => exact False.elim (by obtain ⟨_, _, _, q⟩ := hs; exact q)
  | cont => exact False.elim (by obtain ⟨_, _, _, q⟩ := hs; exact q)
end
structure DefG (P : Program) (w : World) (K : PySem.W.Frag) (mg : Str → Option Value) (base : Heap) (CX : CXT) (k : Nat) (x : Str) (ps : List Str) (dvs : List V) (sp : Sp) : Prop where
  ex : ∃ (f : Addr) (fd : FuncData) (ds : List Value), FnG P w K mg base CX k f fd ps sp ∧ mg x = some (.ref f) ∧ PySem.W.keepIn K (.ref f) = true ∧ Binds K fd ps ds ∧ Vals dvs ds
section
variable {X : Cx} {CX : CXT} {k : Nat} {ps : List Str} {dvs : List V} {sp : Sp} {E : XK} {x : Str} {p pos : Pos} {e : Expr} {es : List Expr} {t : TA}
theorem pe_g (D : DefG X.prog X.w X.K X.mg X.base CX k x ps dvs sp) (gd : X.A.guards = some []) (hr : Room k X.A) (hx : Passes CX X E) (ha : PA X (e :: es) t) (hg : Gl X x := by rfl)
    (hdb : (x == ("__debug__" : Str)) = false := by decide) (he : starEach (e :: es) X.env = (false, eval e X.env) :: starEach es X.env := by rfl) (hpl : (backTo pos (starEach es X.env)).any (·.1) = false := by rfl) :
    PE X (.Call (.Name x p) (e :: es) [] pos) (tCall sp dvs E t) := by
  obtain ⟨f, fd, ds, F, hm, hk, hb, hd⟩ := D.ex
  refine ⟨fun pins s σ H Q I h => ?_⟩
  refine wpAny_Call_Name_kw (ld_glob I hg hm ?_ hdb)
  refine PySem.W.callWith_K (h₀ := X.base) I.ok.mod.kin hk (thn (ha.run pos pins s σ H _ I h) fun us s1 ⟨vs, H1, I1, r, q⟩ => ⟨I1.kIn, ?_⟩) he hpl
  have r2 : Vals (vs ++ dvs) (us ++ ds) := r.append hd
  have hl : (us ++ ds).length = ps.length := by
    rw [← r2.length]
    exact F.len _ _ _ _ q
  refine wpAny_call (codeAny_mono (F.run X.A X.stack s1 H1 ⟨us, []⟩ (us ++ ds) (vs ++ dvs) Q E gd hr I1.env0 (hb s1 us I1.kIn hl) r2 q) fun r s' hq => ?_)
  cases r with
  | error er => exact hx pins σ H1 s1 er s' I1 hq
  | ok fl =>
    cases fl with
    | ret u => exact I1.after hq
    | next => exact False.elim hq
    | brk => exact False.elim hq
    | cont => exact False.elim hq
end
/-! ### the law's end, the script's bits told -/
theorem lawG {P : Program} {w : World} {K : PySem.W.Frag} {mg mb : Str → Option Value} {CX : CXT} {k : Nat} {fa a : Addr} {fd : FuncData} {x : Str} {sp : Sp} {s1 : Shared} {vs : List Value} {ns : List Int}
    (KX : K.In s1.heap) (hns : s1.heap.Ns mainGlobals mg) (hb : s1.heap.Ns builtinsNs mb) (hbb : ∀ x : Str, x ≠ "__name__" → mb x = bootBuiltins x) (hlim : s1.heap.NoLimit) (hg : s1.gens = #[])
    (ha : s1.heap.get? a = some { cls := .type "list", data := .seq vs.toArray }) (hi : IntsAre vs ns) (hl : ns.length ≤ sizeLine) (hr : Room k callerA)
    (F : ∀ base : Heap, K.In base → base.Ns mainGlobals mg → FnG P w K mg base CX k fa fd [x] sp) (hbind : ∀ (s : Shared) (u : Value), BindsTo s fd ⟨[u], []⟩ [(x, u)])
    (hsp : ∀ H : Hp, Only H → SqL K H a (ns.map V.int) → sp [.ref a] H (fun v _ => v = .bl true) fun _ _ _ => False)
    (hCX : ∀ H e s', CX [] H s1 (fun _ _ _ => False) e s' → False) :
    codeAny (model P w) callerA (.call (.ref fa) ⟨[.ref a], []⟩) (fun r s' => r = .ok (.ret (.bool true)) ∧ OldK s1.heap s'.heap ∧ s'.os = s1.os ∧ AllBare s'.gens) s1 := by
  -- the elder end's road, at callerA alone: its promise is asked nowhere else
  have rv := vals_ints hi
  have lenV := hi.length
  have core : ∀ H : Hp, Only H → SqL K H a (ns.map V.int) → HOk P w H s1.heap → (∀ b, H b ≠ none → b = a) → (H a ≠ none → K.lookup a = none) →
      codeAny (model P w) callerA (.call (.ref fa) ⟨[.ref a], []⟩) (fun r s' => r = .ok (.ret (.bool true)) ∧ OldK s1.heap s'.heap ∧ s'.os = s1.os ∧ AllBare s'.gens) s1 := by
    intro H hO hS hok hA hK
    have isA : ∀ {b : Addr} {u : HO}, H b = some u → b = a := fun {b u} q => hA b (by rw [q]; exact Option.some_ne_none u)
    have bOf : ∀ {b : Addr} {o : Obj}, s1.heap.get? b = some o → H b = none → (hidT s1.heap H).get? b = some o := fun z n => hidT_get z n
    have notDict : ∀ {b : Addr} {o : Obj} {es : Array DictEntry} {ep : Nat}, s1.heap.get? b = some o → o.data = .dict es ep → H b = none := by
      intro b o es ep z dd
      rcases q : H b with _ | u
      · rfl
      · have eb := isA q
        rw [eb, ha] at z
        cases z
        cases dd
    have nsT : ∀ {b : Addr} {m : Str → Option Value}, s1.heap.Ns b m → (hidT s1.heap H).Ns b m := by
      rintro b m ⟨o, es, ep, z, dd, r⟩
      exact ⟨o, es, ep, bOf z (notDict z dd), dd, r⟩
    have kT : K.In (hidT s1.heap H) := by
      intro b o z
      refine bOf (KX b o z) ?_
      rcases q : H b with _ | u
      · rfl
      · have eb := isA q
        have e2 := hK (by rw [← eb, q]; exact Option.some_ne_none u)
        rw [eb, e2] at z
        cases z
    have hM : Mod K mg (hidT s1.heap H) := ⟨kT, nsT hns, ⟨mb, nsT hb, hbb⟩, let ⟨mc, h1, h2⟩ := hlim; ⟨mc, nsT h1, h2⟩⟩
    have e0 : Env0 P w K mg (hidT s1.heap H) callerA [] s1 H := ⟨rfl, hM, fun b o z => of_hidT z, Nat.le_of_eq (hidT_size _ _), trivial, fun b z => absurd (show b ∈ ([] : List Addr) from z) (by simp), hok, .of_eq hg⟩
    refine codeAny_mono ((F _ kT (nsT hns)).run callerA [] s1 H ⟨[.ref a], []⟩ [.ref a] [.ref a] _ _ rfl hr e0 (hbind s1 (.ref a)) (.cons rfl .nil) (hsp H hO hS)) ?_
    intro r s' z
    rcases r with er | fl
    · exact (hCX H er s' z).elim
    · cases fl with
      | ret u =>
        obtain ⟨v, H', os, bare, un, hok', r', q⟩ := z
        obtain rfl : v = V.bl true := q
        obtain rfl : u = Value.bool true := r'
        refine ⟨rfl, OldK.of_keep (fun b o z => ?_), os, bare⟩
        rcases q : H b with _ | u
        · exact un.keep b o z q (fun y => absurd (show b ∈ ([] : List Addr) from y) (by simp)) (by simp)
        · rcases hO b with y | ⟨ob, xs, y⟩
          · rw [q] at y
            cases y
          · obtain ⟨e1, _⟩ := hok b _ y
            obtain ⟨e2, _⟩ := hok' b _ (un.frzs b ob _ y)
            rw [z] at e1
            cases e1
            exact e2
      | next => exact False.elim z
      | brk => exact False.elim z
      | cont => exact False.elim z
  rcases hk : K.lookup a with _ | o
  · refine core (fun b => if b = a then some (.frz { cls := .type "list", data := .seq vs.toArray } (.lst (ns.map V.int))) else none) ?_ (.inl (.inr ⟨{ cls := .type "list", data := .seq vs.toArray }, if_pos rfl⟩)) ?_ ?_ fun _ => hk
    · intro b
      by_cases eb : b = a
      · exact .inr ⟨_, _, if_pos eb⟩
      · exact .inl (if_neg eb)
    · intro b u z
      by_cases eb : b = a
      · have y := (if_pos eb).symm.trans z
        cases y
        subst eb
        exact ⟨ha, by rw [List.length_map]; exact hl, vs, _, rv, ha⟩
      · have y := (if_neg eb).symm.trans z
        cases y
    · intro b z
      by_cases eb : b = a
      · exact eb
      · exact absurd (if_neg eb) z
  · have e := KX a o hk
    rw [ha] at e
    cases e
    exact core (fun _ => none) (fun _ => .inl rfl) (.inr ⟨_, vs.toArray, _, hk, rfl, rfl, rfl, by rw [List.size_toArray, lenV]; exact hl, by simpa using rv⟩) (fun b u z => (by have y : (none : Option HO) = some u := z; cases y)) (fun b z => absurd rfl z) fun z => absurd rfl z
theorem walkG {l : PySem.W.OpenLaw} {n k : Nat} {q : Program} {loose : List Str} {XP : (Str → Option Value) → Heap → Prop} {YP : World → Heap → Prop} {d : DefRec} {CX : CXT} {x : Str} (hn : l.most = some n) (hn2 : n ≤ sizeLine) (hdf : d.params.defaults = []) (hr : Room k callerA)
    (F : ∀ (w : World) (mg : Str → Option Value) (fa : Addr) (h : Heap), YP w h → h.Ns mainGlobals mg → mg d.name = some (.ref fa) →
      ∃ (K : PySem.W.Frag) (fd : FuncData) (sp : Sp), K.In h ∧ (∀ (s : Shared) (u : Value), BindsTo s fd ⟨[u], []⟩ [(x, u)]) ∧
        (∀ (H : Hp) (a : Addr) (ns : List Int), ns.length ≤ n → (∀ z ∈ ns, Builtin.Int.intBits z ≤ 1048576) → Only H → SqL K H a (ns.map V.int) → sp [.ref a] H (fun v _ => v = .bl true) fun _ _ _ => False) ∧
        ∀ base : Heap, K.In base → base.Ns mainGlobals mg → FnG l.prog w K mg base CX k fa fd [x] sp)
    (hCX : ∀ (H : Hp) (s : Shared) (e : Value) (s' : Shared), CX [] H s (fun _ _ _ => False) e s' → False) : PySem.W.WalkO q loose XP YP l.row.toRowW d [] (fun f vs => PySem.call f vs) := by
  refine Att.attach_callB hn hdf fun w s0 s1 mg mb fa o pm cd doc a vs ns G Y ho hd hcd hmg hobj hints hlen hbits hg => ?_
  obtain ⟨K, fd, sp, KX, hb, hsp, hF⟩ := F w mg fa _ Y G.T.g hmg
  exact lawG KX G.T.g G.T.b G.T.builtins G.T.nolimit hg hobj hints (Nat.le_trans hlen hn2) hr hF hb (fun H hO hS => hsp H a ns hlen hbits hO hS) fun H e s' => hCX H s1 e s'
/-! ### the head's look: the facts, and sys.modules' own object -/
def kz (n : Nat) (g : Addr → Option Obj) : PySem.W.Frag := He.frT g (He.asD g n ++ [sysModules])
abbrev AlZ : Type := He.AlD × Bool
def obZ (n : Nat) (fa : List He.Fa) (fn : List He.DefD) (ex : PySem.W.Frag → Bool) (g : Addr → Option Obj) : AlZ := (He.obsD fa fn (kz n g), ex (kz n g) && He.dictB (kz n g) sysModules)
structure SaysZ (fa : List He.Fa) (fn : List He.DefD) (ex : PySem.W.Frag → Bool) (K : PySem.W.Frag) : Prop where
  d : He.SaysD fa fn K
  more : ex K = true
  sm : He.dictB K sysModules = true
def hookZ (n : Nat) (fa : List He.Fa) (fn : List He.DefD) (ex : PySem.W.Frag → Bool) : PySem.W.Hook where
  α := AlZ
  obs := fun s => obZ n fa fn ex s.heap.get?
  val := fun _ => (He.valD fn, true)
  says := fun _ h => ∃ K : PySem.W.Frag, K.In h ∧ SaysZ fa fn ex K
  of := fun _ s e => ⟨kz n s.heap.get?, He.frT_in, congrArg Prod.fst e, (Bool.and_eq_true_iff.mp (congrArg Prod.snd e)).1, (Bool.and_eq_true_iff.mp (congrArg Prod.snd e)).2⟩
  keeps := fun _ _ _ ⟨K, hK, c⟩ k => ⟨K, PySem.W.Frag.In.keeps hK k, c⟩
theorem obZ_eq {n : Nat} {fa : List He.Fa} {fn : List He.DefD} {ex : PySem.W.Frag → Bool} {g : Addr → Option Obj} {s : Shared} (h : ∀ a, g a = s.heap.get? a) : obZ n fa fn ex g = (hookZ n fa fn ex).obs s := by
  have e : g = s.heap.get? := funext h
  subst e
  rfl
end Lw
namespace Lw
open PySem PySem.Spec PyProof.Rows L2
/-- for i, x in enumerate(list), the list stays -/
theorem for_enum {K : PySem.W.Frag} {a : Addr} {xs : List V} {g : TG} {tb : TS} {D : Ends} {σ : L2.St} {H : Hp} (Pv : Nat → L2.St → Hp → Prop) (h0 : Pv 0 σ H) (hq : ∀ i σ H, i ≤ xs.length → Pv i σ H → SqL K H a xs)
    (hs : ∀ (i : Nat) (x : V) (T : Addr) (σ : L2.St) (H : Hp), xs[i]? = some x → Pv i σ H → H T = none → g (.ref T) σ (upd H T (.tup [.int (i : Nat), x])) fun σ2 H2 => tb { D with nx := Pv (i + 1), ct := Pv (i + 1), bk := D.nx } σ2 H2)
    (hd : ∀ σ H, Pv xs.length σ H → D.nx σ H) :
    ∃ W : Nat → Nat → L2.St → Hp → Prop, (∃ m, W 0 m σ H) ∧ ∀ i m σ H, W i m σ H →
      ((Ite K a).stop i H ∧ D.nx σ H) ∨ ((Ite K a).go i H ∧ ∃ N : L2.St → Hp → Prop, (∀ σ' H', N σ' H' → ∃ m', m' < m ∧ W (i + 1) m' σ' H') ∧ ∀ v H', (Ite K a).yld i H v H' → g v σ H' fun σ2 H2 => tb { D with nx := N, ct := N, bk := D.nx } σ2 H2) := by
  refine ⟨fun i m σ H => m = xs.length - i ∧ i ≤ xs.length ∧ Pv i σ H, ⟨xs.length, rfl, Nat.zero_le _, h0⟩, ?_⟩
  rintro i m σ H ⟨rfl, hi, p⟩
  have q := hq i σ H hi p
  by_cases hlt : i < xs.length
  · refine .inr ⟨⟨xs, xs[i], q, List.getElem?_eq_getElem hlt⟩, Pv (i + 1), fun σ' H' p' => ⟨xs.length - (i + 1), by omega, rfl, hlt, p'⟩, ?_⟩
    rintro v H' ⟨T, x, rfl, hT, rfl, f⟩
    exact hs i x T σ H (f xs q) p hT
  · have e : i = xs.length := by omega
    subst e
    exact .inl ⟨⟨xs, q, Nat.le_refl _⟩, hd σ H p⟩
/-! ### errors made, by their own __init__ -/
/-- self.f = v -/
def spErr (C : Addr) (f : Str) : Sp := fun vs H Q _ => ∃ (a : Addr) (v : V), vs = [.ref a, v] ∧ H a = some (exo a C none) ∧ ∀ d, H d = none → d ≠ a → Q .non (upd (upd H d (exd d [(f, v)])) a (exo a C (some d)))
theorem rd_err {C : Addr} {f : Str} {v : V} {H1 : Hp} {Q : VK} {E : XK} (k : ∀ a H', Same H1 H' → H1 a = none → ErrAt H' a C f v → Q (.ref a) H') :
    [v].length ≤ 1000 ∧ ∀ a, H1 a = none → spErr C f (.ref a :: [v]) (upd H1 a (exo a C none)) (fun w H2 => w = .non ∧ Q (.ref a) H2) E := by
  refine ⟨(by decide : 1 ≤ 1000), fun a ha => ⟨a, v, rfl, upd_same, fun d hd nd => ⟨rfl, k a _ (fun b o e => ?_) ha ⟨d, upd_same, ?_⟩⟩⟩⟩
  · rw [upd_ne nd] at hd
    rw [upd_ne (ne_of_none e ha), upd_ne (ne_of_none e hd), upd_ne (ne_of_none e ha)]
    exact e
  · rw [upd_ne nd, upd_same]
theorem rd_errK {C : Addr} {f : Str} {v : V} {H1 : Hp} {Q : VK} {E : XK} (k : ∀ a H', Same H1 H' → H1 a = none → ErrAt H' a C f v → Q (.ref a) H') :
    [v].length = 1 ∧ ∀ a, H1 a = none → spErr C f ([.ref a] ++ [v]) (upd H1 a (exo a C none)) (fun w H2 => w = .non ∧ Q (.ref a) H2) E :=
  ⟨rfl, (rd_err (E := E) k).2⟩
theorem kb1 {K : PySem.W.Frag} {x qual fl : Str} {params : Arguments} {body : List Stmt} {scope : Scope} {f : Addr} {fd : FuncData} (F : FunD K x qual params body scope [] [] f fd)
    (h : ∀ (kV doc pm : Value) (an : Option Addr) (cdv ct u w : Value), bindArgs (PySem.W.fnOf x qual params body scope .none kV doc pm an cdv ct) ⟨[u], [(fl, w)]⟩ = pure ((["self", fl] : List Str).zip [u, w])) :
    KBn K fd ["self", fl] 1 [fl] (fun us ws => us ++ ws) (fun vs zs => vs ++ zs) := by
  obtain ⟨oc, od, dV, kV, doc, pm, an, cdv, ct, osl, rfl, lk, hcd, hD, hK⟩ := F.ex
  rcases hD with ⟨_, rfl⟩ | ⟨e, _⟩
  · refine ⟨fun s us ws X l1 l2 => ?_, fun r1 r2 => r1.append r2⟩
    match us, ws, l1, l2 with
    | [u], [w], _, _ => exact BindsTo.of_eq (h _ _ _ _ _ _ _ _)
  · exact absurd rfl e
structure ErrOk (P : Program) (w : World) (K : PySem.W.Frag) (mg : Str → Option Value) (base : Heap) (n f : Str) : Prop where
  ex : ∃ (fI : Addr) (fd : FuncData), mg n = some (.ref (He.ga K n)) ∧ XC K (He.ga K n) f ∧ PySem.W.findIn K (.ref (He.ga K n)) "__init__" = some (some (.ref fI)) ∧ PySem.W.typeIn K (.ref fI) = some (.type "function") ∧
    FnOk P w K mg base CX0 1 fI fd ["self", f] (spErr (He.ga K n) f) ∧ Binds K fd ["self", f] [] ∧ KBn K fd ["self", f] 1 [f] (fun us ws => us ++ ws) (fun vs zs => vs ++ zs)
theorem ErrOk.xc {P : Program} {w : World} {K : PySem.W.Frag} {mg : Str → Option Value} {base : Heap} {n f : Str} (E : ErrOk P w K mg base n f) : XC K (He.ga K n) f := by
  obtain ⟨_, _, _, h, _⟩ := E.ex
  exact h
theorem ErrOk.g {P : Program} {w : World} {K : PySem.W.Frag} {mg : Str → Option Value} {base : Heap} {n f : Str} (E : ErrOk P w K mg base n f) : mg n = some (.ref (He.ga K n)) := by
  obtain ⟨_, _, h, _⟩ := E.ex
  exact h
section
variable {X : Cx} {f : Str} {x : Str} {p pos : Pos} {e : Expr} {es : List Expr} {ta tk : TA} {kws : List Keyword}
/-- C(e), C(f = e): a new error -/
def tErr (C : Addr) (f : Str) (ta : TA) : TE := fun σ H Q => ta σ H fun vs H1 => ∃ v, vs = [v] ∧ ∀ a H', Same H1 H' → H1 a = none → ErrAt H' a C f v → Q (.ref a) H'
theorem pe_er (E : ErrOk X.prog X.w X.K X.mg X.base x f) (hr : Room 2 X.A) (ha : PA X (e :: es) ta) (hg : Gl X x := by rfl)
    (hdb : (x == ("__debug__" : Str)) = false := by decide) (he : starEach (e :: es) X.env = (false, eval e X.env) :: starEach es X.env := by rfl) (hpl : (backTo pos (starEach es X.env)).any (·.1) = false := by rfl) :
    PE X (.Call (.Name x p) (e :: es) [] pos) (tErr (He.ga X.K x) f ta) := by
  obtain ⟨fI, fd, h1, h2, h3, h4, h5, h6, h7⟩ := E.ex
  refine ⟨fun pins s σ H Q I h => ?_⟩
  refine wpAny_Call_Name_kw (ld_glob I hg h1 ?_ hdb)
  refine PySem.W.callWith_K (h₀ := X.base) I.ok.mod.kin h2.oex.kC (thn (ha.run pos pins s σ H _ I h) fun us s1 ⟨vs, H1, I1, r1, v, ev, q1⟩ => ⟨I1.kIn, ?_⟩) he hpl
  subst ev
  have z := rd_err (C := He.ga X.K x) (E := fun _ _ _ => False) q1
  exact run_mkv h2.oex h3 h4 h5 hr h6 (fun _ _ _ _ _ _ _ z => z.elim) I1 r1 z.1 z.2
theorem pe_er_k (E : ErrOk X.prog X.w X.K X.mg X.base x f) (hr : Room 2 X.A) (hkw : PK X kws tk) (hg : Gl X x := by rfl)
    (hall : (backToKw pos (keywordEach kws X.env)).all (·.1.isSome) = true := by rfl) (hks : (backToKw pos (keywordEach kws X.env)).filterMap (·.1) = [f] := by rfl) (hdb : (x == ("__debug__" : Str)) = false := by decide)
    (hpl : ((backTo pos (starEach [] X.env)).any (·.1) || (backToKw pos (keywordEach kws X.env)).any (·.1.isNone)) = false := by rfl) :
    PE X (.Call (.Name x p) [] kws pos) (tErr (He.ga X.K x) f tk) := by
  obtain ⟨fI, fd, h1, h2, h3, h4, h5, h6, h7⟩ := E.ex
  refine ⟨fun pins s σ H Q I h => ?_⟩
  refine wpAny_Call_Name_kw (ld_glob I hg h1 ?_ hdb)
  refine PySem.W.callWith_KW0 (h₀ := X.base) I.ok.mod.kin h2.oex.kC hall ?_ hpl
  refine thn (hkw.run pos pins s σ H _ I h) fun ws s1 ⟨zs, H1, I1, rz, v, ev, q1⟩ => ⟨I1.kIn, ?_⟩
  rw [hks]
  subst ev
  have z := rd_errK (C := He.ga X.K x) (E := fun _ _ _ => False) q1
  exact run_mkvK h2.oex h3 h4 h5 hr h7 (fun _ _ _ _ _ _ _ z => z.elim) I1 rz z.1 z.2
end
end Lw
namespace K91
open PySem PySem.Spec PyProof.Rows L2 Lw
local macro_rules | `(tactic| walk_at "rd") => `(tactic| repeat (first | refine ⟨_, rfl, ?_⟩ | refine ⟨_, _, rfl, rfl, ?_⟩))
def top (i : Nat) : Stmt := PySem.Challenge.pw_pulledonce_k91_errors_by_hand.main.body.getD i (.Pass ⟨0, 0, 0, 0⟩)
abbrev sBadSource_init : Stmt := inClass (top 2) 0
abbrev sBadStages_init : Stmt := inClass (top 3) 0
abbrev sBadStage_init : Stmt := inClass (top 4) 0
abbrev sBadPositions_init : Stmt := inClass (top 5) 0
abbrev sBadReply_init : Stmt := inClass (top 6) 0
abbrev sBadReplies_init : Stmt := inClass (top 7) 0
abbrev sHasZip_init : Stmt := inClass (top 8) 0
abbrev sBadLoop_init : Stmt := inClass (top 9) 0
abbrev sBadText_init : Stmt := inClass (top 10) 0
abbrev sL_source : Stmt := top 12
abbrev sL_draw : Stmt := top 13
abbrev sL_pick : Stmt := top 14
abbrev sL_kinds : Stmt := top 15
abbrev sL_by_place : Stmt := top 16
abbrev sL_by_name : Stmt := top 17
abbrev sL_stored : Stmt := top 18
abbrev slaw : Stmt := top 19
abbrev FnP (K : PySem.W.Frag) (x q : Str) (st : Stmt) (f : Addr) (fd : FuncData) : Prop := FunD K x q (defArgs st) (defBody st) (defScope st) [] [] f fd
/-- the nine errors, in the law's sequence, each with its attribute -/
def errs : List (Str × Str) := [("BadSource", "value"), ("BadStages", "value"), ("BadPositions", "value"), ("BadReply", "value"), ("BadLoop", "value"), ("BadStage", "position"), ("BadReplies", "position"), ("HasZip", "position"), ("BadText", "line")]
structure Tx (K : PySem.W.Frag) (mg : Str → Option Value) : Prop where
  z_len : mg "len" = none
  z_int : mg "int" = none
  z_isinstance : mg "isinstance" = none
  z_enumerate : mg "enumerate" = none
  z_range : mg "range" = none
  z_list : mg "list" = none
  z_dict : mg "dict" = none
  z_repr : mg "repr" = none
  z_max : mg "max" = none
  z_min : mg "min" = none
  z_ValueError : mg "ValueError" = none
structure Ty (P : Program) (w : World) (K : PySem.W.Frag) (mg : Str → Option Value) (base : Heap) : Prop extends Tx K mg where
  e_BadSource : ErrOk P w K mg base "BadSource" "value"
  e_BadStages : ErrOk P w K mg base "BadStages" "value"
  e_BadPositions : ErrOk P w K mg base "BadPositions" "value"
  e_BadReply : ErrOk P w K mg base "BadReply" "value"
  e_BadLoop : ErrOk P w K mg base "BadLoop" "value"
  e_BadStage : ErrOk P w K mg base "BadStage" "position"
  e_BadReplies : ErrOk P w K mg base "BadReplies" "position"
  e_HasZip : ErrOk P w K mg base "HasZip" "position"
  e_BadText : ErrOk P w K mg base "BadText" "line"
  g_BadSource : mg "BadSource" = some (.ref (He.ga K "BadSource"))
  g_BadStages : mg "BadStages" = some (.ref (He.ga K "BadStages"))
  g_BadPositions : mg "BadPositions" = some (.ref (He.ga K "BadPositions"))
  g_BadReply : mg "BadReply" = some (.ref (He.ga K "BadReply"))
  g_BadLoop : mg "BadLoop" = some (.ref (He.ga K "BadLoop"))
  g_BadStage : mg "BadStage" = some (.ref (He.ga K "BadStage"))
  g_BadReplies : mg "BadReplies" = some (.ref (He.ga K "BadReplies"))
  g_HasZip : mg "HasZip" = some (.ref (He.ga K "HasZip"))
  g_BadText : mg "BadText" = some (.ref (He.ga K "BadText"))
  g_StreamError : mg "StreamError" = some (.ref (He.ga K "StreamError"))
  sm : He.dictB K sysModules = true
  kit : ∀ (i j : Nat) (x y : Str × Str), errs[i]? = some x → errs[j]? = some y → PySem.W.kitOne K (.ref (He.ga K x.1)) (.ref (He.ga K y.1)) = some (decide (j = i))
  kitS : ∀ (i : Nat) (x : Str × Str), errs[i]? = some x → PySem.W.kitOne K (.ref (He.ga K x.1)) (.ref (He.ga K "StreamError")) = some true
  kitV : ∀ (i : Nat) (x : Str × Str), errs[i]? = some x → PySem.W.kitOne K (.ref (He.ga K x.1)) (.type "ValueError") = some true
  xc : ∀ (i : Nat) (x : Str × Str), errs[i]? = some x → XC K (He.ga K x.1) x.2
/-! ### the law's draws -/
def spSrc (K : PySem.W.Frag) : Sp := fun vs H Q _ => ∃ (a : Addr) (ns : List Int) (st : Int), vs = [.ref a, .int st] ∧ SqL K H a (ns.map V.int) ∧ ns.length ≤ 63 ∧ (∀ z ∈ ns, Builtin.Int.intBits z ≤ 1048576) ∧ 0 ≤ st ∧ st < 4 ∧
  ∀ (p : Addr) (r m : Int), H p = none → Q (.ref p) (upd H p (.lst [.int r, .int m]))
def spDraw : Sp := fun vs H Q _ => ∃ (s : Addr) (n r m : Int), vs = [.ref s, .int n] ∧ 0 < n ∧ n < 1073741824 ∧ H s = some (.lst [.int r, .int m]) ∧
  ∀ (r' m' d : Int), 0 ≤ d → d < n → Q (.int d) (upd H s (.lst [.int r', .int m']))
/-- a list is picked from; it is not the stream -/
def spPick (K : PySem.W.Frag) : Sp := fun vs H Q _ => ∃ (s t : Addr) (xs : List V) (r m : Int), vs = [.ref s, .ref t] ∧ SqL K H t xs ∧ t ≠ s ∧ 0 < xs.length ∧ xs.length < 1073741824 ∧ H s = some (.lst [.int r, .int m]) ∧
  ∀ (r' m' : Int) (i : Nat) (x : V), xs[i]? = some x → Q x (upd H s (.lst [.int r', .int m']))
theorem bits_lt {z : Int} : z.natAbs < 2 ^ Builtin.Int.intBits z := by
  unfold Builtin.Int.intBits
  split
  · rename_i h0
    have h1 : z = 0 := by simpa using h0
    subst h1
    decide
  · exact Nat.lt_log2_self
theorem bits_le {z : Int} {n : Nat} (h : z.natAbs < 2 ^ n) : Builtin.Int.intBits z ≤ n := by
  unfold Builtin.Int.intBits
  split
  · exact Nat.zero_le _
  · rename_i h0
    have h1 : z ≠ 0 := by simpa using h0
    have h2 : z.natAbs ≠ 0 := by omega
    have h3 := (Nat.log2_lt (n := z.natAbs) (k := n) h2).mpr h
    omega
theorem pow_dbl (n : Nat) : 2 ^ (n + 1) = 2 ^ n + 2 ^ n := by
  rw [Nat.pow_succ]
  omega
/-- one step's base: mixed * 40009 + cell -/
theorem bits_step {m c : Int} (h1 : 0 ≤ m) (h2 : m < 2 ^ 32) (hc : Builtin.Int.intBits c ≤ 1048576) : CPowW (m * 40009 + c) 3 := by
  refine ⟨by omega, ?_⟩
  have a : (m * 40009).natAbs < 2 ^ 1048577 := by
    have : (m * 40009).natAbs < 2 ^ 48 := by omega
    exact Nat.lt_of_lt_of_le this (Nat.pow_le_pow_right (by omega) (by omega))
  have b : c.natAbs < 2 ^ 1048577 := Nat.lt_of_lt_of_le bits_lt (Nat.pow_le_pow_right (by omega) (by omega))
  have ab : (m * 40009 + c).natAbs < 2 ^ 1048578 := by
    have e : 2 ^ (1048577 + 1) = 2 ^ 1048577 + 2 ^ 1048577 := pow_dbl 1048577
    have e2 : 2 ^ 1048578 = 2 ^ 1048577 + 2 ^ 1048577 := e
    omega
  have q := bits_le ab
  omega
section
variable {P : Program} {w : World} {K : PySem.W.Frag} {mg : Str → Option Value} {base : Heap} {f : Addr} {fd : FuncData}
theorem scL_source : FnScope ["script", "start", "mixed", "cell", "rest"] ["script", "start"] (defScope sL_source) := ⟨rfl, rfl, rfl, by decide +kernel, rfl, by decide +kernel, by decide +kernel⟩
theorem d_source (F : FnP K "_law_source" "_law_source" sL_source f fd) (gm : mg "_law_source" = some (.ref f)) (T : Tx K mg) : DefOk P w K mg base CX0 1 "_law_source" ["script", "start"] [] (spSrc K) := by
  refine ⟨f, fd, [], F.ok scL_source (fun vs H Q E h => ?_) (fun cdv A outer s H vs Q E hr h => ?_), gm, F.kp, F.bindsN fun _ _ _ _ _ _ us hl => match us, hl with | [_, _], _ => rfl, .nil⟩
  · obtain ⟨_, _, _, rfl, _⟩ := h
    rfl
  · obtain ⟨a, ns, st, rfl, hS, hl, hb, h0, h4, k⟩ := h
    refine ⟨_, PSs.nox (pss_cons (ps_set (i := 2) scL_source.nd rfl (.inl rfl) (pe_op op_add pe_int (pv 1)))
  (pss_cons (ps_for PassesOwn.never rfl (pi_list (pv 0)) (pg_name (i := 3) scL_source.nd rfl (.inl rfl))
  (pss_one (ps_set (i := 2) scL_source.nd rfl (.inl rfl) (pe_op op_add (pe_op op_mod (pe_callTy call_int1 (by rfl) T.z_int (by decide +kernel) (pa_cons (pe_op op_powW (pe_callTy call_int1 (by rfl) T.z_int (by decide +kernel) (pa_cons (pe_op op_add (pe_op op_mul (pv 2) pe_int) (pe_callTy call_int1 (by rfl) T.z_int (by decide +kernel) (pa_cons (pv 3) pa_nil))) pa_nil)) pe_int) pa_nil)) pe_int) pe_int))))
  (pss_cons (ps_set (i := 4) scL_source.nd rfl (.inl rfl) pe_int)
  (pss_cons (ps_if (PW.pt (pw_and (pt_cmpR op_lt (pv 1) (pe_callB call_len (by rfl) T.z_len PySem.boot_len (pa_cons (pv 0) pa_nil)) (nomark _)) (pw_and1 (pt_cmpR op_ge (pe_ix ix_list (pv 0) (pv 1) (fun _ _ => rfl)) (pe_op op_pow pe_int pe_int) (nomark _))))) (pss_one (ps_set (i := 4) scL_source.nd rfl (.inl rfl) (pe_op op_sub (pe_ix ix_list (pv 0) (pv 1) (fun _ _ => rfl)) (pe_op op_pow pe_int pe_int))))
  pss_nil)
  (pss_one (ps_ret (pe_lst (pa_cons (pv 4) (pa_cons (pv 2) pa_nil))))))))), ?_⟩
    walk_at "rd"
    refine ⟨⟨_, hS⟩, for_list (K := K) (a := a) (xs := ns.map V.int) (fun i σ H' => ∃ (m : Int) (c : Option V), σ = [some (.ref a), some (.int st), some (.int m), c, none] ∧ H' = H ∧ 0 ≤ m ∧ m < 2 ^ 32)
      ⟨59 + st, none, rfl, rfl, by omega, by omega⟩ (fun i σ H' _ ⟨_, _, _, e, _⟩ => e ▸ hS) ?_ ?_⟩
    · rintro i y σ H' hi ⟨m, c, rfl, rfl, m0, m1⟩
      rw [List.getElem?_map] at hi
      obtain ⟨z, hz, rfl⟩ := Option.map_eq_some_iff.mp hi
      have hzb := hb z (List.mem_of_getElem? hz)
      refine ⟨_, rfl, _, _, rfl, rfl, .inr ⟨by decide, by decide⟩, _, rfl, .inl ⟨_, rfl, _, _, rfl, rfl, .inl ⟨_, rfl, _, _, rfl, rfl, bits_step m0 m1 hzb, .inl ⟨_, rfl, _, _, rfl, rfl, (by show (0 : Int) < 2147483563; decide), _, _, rfl, rfl, ?_⟩⟩⟩⟩
      exact ⟨_, _, rfl, rfl, by omega, by omega⟩
    · rintro σ H' ⟨m, c, rfl, rfl, m0, m1⟩
      obtain ⟨j, rfl⟩ : ∃ j : Nat, st = (j : Int) := ⟨st.toNat, by omega⟩
      refine ⟨_, rfl, _, rfl, _, _, rfl, .inl ⟨_, hS, rfl⟩, _, _, rfl, rfl, _, rfl, ite2 (fun c1 => ?_) (fun _ => ?_)⟩
      · have hj : j < ns.length := by
          have := of_decide_eq_true c1
          rw [List.length_map] at this
          omega
        have hx : (ns.map V.int)[j]? = some (V.int ns[j]) := by
          rw [List.getElem?_map, List.getElem?_eq_getElem hj]
          rfl
        refine ⟨_, rfl, _, rfl, _, _, _, _, rfl, rfl, hS, atI_nat hx, _, _, rfl, rfl, ⟨by decide, by decide, by decide⟩, _, _, rfl, rfl, _, rfl, ite2 (fun c2 => ?_) (fun _ => ?_)⟩
        · refine ⟨_, rfl, _, rfl, _, _, _, _, rfl, rfl, hS, atI_nat hx, _, _, rfl, rfl, ⟨by decide, by decide, by decide⟩, _, _, rfl, rfl, ?_⟩
          exact ⟨_, rfl, _, rfl, (szl rfl), fun p hp => k p _ _ hp⟩
        · exact ⟨_, rfl, _, rfl, (szl rfl), fun p hp => k p _ _ hp⟩
      · exact ite2 (fun c => nomatch c) fun _ => ⟨_, rfl, _, rfl, (szl rfl), fun p hp => k p _ _ hp⟩
theorem scL_draw : FnScope ["stream", "span", "found"] ["stream", "span"] (defScope sL_draw) := ⟨rfl, rfl, rfl, by decide +kernel, rfl, by decide +kernel, by decide +kernel⟩
theorem d_draw (F : FnP K "_law_draw" "_law_draw" sL_draw f fd) (gm : mg "_law_draw" = some (.ref f)) (T : Tx K mg) : DefOk P w K mg base CX0 1 "_law_draw" ["stream", "span"] [] spDraw := by
  refine ⟨f, fd, [], F.ok scL_draw (fun vs H Q E h => ?_) (fun cdv A outer s H vs Q E hr h => ?_), gm, F.kp, F.bindsN fun _ _ _ _ _ _ us hl => match us, hl with | [_, _], _ => rfl, .nil⟩
  · obtain ⟨_, _, _, _, rfl, _⟩ := h
    rfl
  · obtain ⟨s, n, r, m, rfl, n0, n1, hs, k⟩ := h
    refine ⟨_, PSs.nox (pss_cons (ps_if (pt_cmpR op_ge (pe_ix ix_list (pv 0) pe_int (fun _ _ => rfl)) (pv 1) (nomark _)) (pss_cons (ps_set (i := 2) scL_draw.nd rfl (.inl rfl) (pe_op op_mod (pe_callTy call_int1 (by rfl) T.z_int (by decide +kernel) (pa_cons (pe_ix ix_list (pv 0) pe_int (fun _ _ => rfl)) pa_nil)) (pv 1)))
  (pss_cons (ps_asg (pe_op op_fdiv (pe_ix ix_list (pv 0) pe_int (fun _ _ => rfl)) (pv 1)) (pg_sub (pv 0) pe_int set_list))
  (pss_one (ps_ret (pv 2)))))
  pss_nil)
  (pss_cons (ps_asg (pe_op op_mod (pe_callTy call_int1 (by rfl) T.z_int (by decide +kernel) (pa_cons (pe_op op_add (pe_op op_mul (pe_ix ix_list (pv 0) pe_int (fun _ _ => rfl)) pe_int) pe_int) pa_nil)) pe_int) (pg_sub (pv 0) pe_int set_list))
  (pss_one (ps_ret (pe_op op_mod (pe_callTy call_int1 (by rfl) T.z_int (by decide +kernel) (pa_cons (pe_op op_fdiv (pe_op op_mod (pe_callTy call_int1 (by rfl) T.z_int (by decide +kernel) (pa_cons (pe_op op_pow (pe_callTy call_int1 (by rfl) T.z_int (by decide +kernel) (pa_cons (pe_ix ix_list (pv 0) pe_int (fun _ _ => rfl)) pa_nil)) pe_int) pa_nil)) pe_int) pe_int) pa_nil)) (pv 1)))))), ?_⟩
    refine ⟨_, rfl, s, _, _, _, rfl, rfl, SqL.of hs, atI_nat (j := 0) rfl, _, rfl, _, _, rfl, rfl, _, rfl, ite2 (fun c1 => ?_) (fun c1 => ?_)⟩
    · refine ⟨_, rfl, s, _, _, _, rfl, rfl, SqL.of hs, atI_nat (j := 0) rfl, .inl ⟨_, rfl, _, rfl, _, _, rfl, rfl, n0, ?_⟩⟩
      refine ⟨_, rfl, s, _, _, _, rfl, rfl, SqL.of hs, atI_nat (j := 0) rfl, _, rfl, _, _, rfl, rfl, ⟨n0, n1⟩, _, rfl, s, _, _, 0, rfl, rfl, hs, rfl, ?_⟩
      refine ⟨_, rfl, k _ _ _ (Int.emod_nonneg _ (by omega)) (Int.emod_lt_of_pos _ n0)⟩
    · refine ⟨_, rfl, s, _, _, _, rfl, rfl, SqL.of hs, atI_nat (j := 1) rfl, _, _, rfl, rfl, .inr ⟨by decide, by decide⟩, _, _, rfl, rfl, .inl ⟨_, rfl, _, _, rfl, rfl, (by show (0 : Int) < 2147483647; decide), _, rfl, s, _, _, 1, rfl, rfl, hs, rfl, ?_⟩⟩
      have b0 : 0 ≤ (m * 69621 + 3571) % 2147483647 := Int.emod_nonneg _ (by decide)
      have b1 : (m * 69621 + 3571) % 2147483647 < 2147483647 := Int.emod_lt_of_pos _ (by decide)
      refine ⟨_, rfl, s, _, _, _, rfl, rfl, SqL.of upd_same, atI_nat (j := 1) rfl, .inl ⟨_, rfl, _, _, rfl, rfl, ⟨by decide, by decide, by omega⟩, .inl ⟨_, rfl, _, _, rfl, rfl, (by show (0 : Int) < 1000000007; decide), _, _, rfl, rfl, ⟨by decide, by decide⟩, .inl ⟨_, rfl, _, rfl, _, _, rfl, rfl, n0, ?_⟩⟩⟩⟩
      exact k _ _ _ (Int.emod_nonneg _ (by omega)) (Int.emod_lt_of_pos _ n0)
theorem scL_pick : FnScope ["stream", "things"] ["stream", "things"] (defScope sL_pick) := ⟨rfl, rfl, rfl, by decide +kernel, rfl, by decide +kernel, by decide +kernel⟩
theorem d_pick (F : FnP K "_law_pick" "_law_pick" sL_pick f fd) (gm : mg "_law_pick" = some (.ref f)) (T : Tx K mg) (D_L_draw : DefOk P w K mg base CX0 1 "_law_draw" ["stream", "span"] [] spDraw) :
    DefOk P w K mg base CX0 2 "_law_pick" ["stream", "things"] [] (spPick K) := by
  refine ⟨f, fd, [], F.ok scL_pick (fun vs H Q E h => ?_) (fun cdv A outer s H vs Q E hr h => ?_), gm, F.kp, F.bindsN fun _ _ _ _ _ _ us hl => match us, hl with | [_, _], _ => rfl, .nil⟩
  · obtain ⟨_, _, _, _, _, rfl, _⟩ := h
    rfl
  · obtain ⟨s, t, xs, r, m, rfl, ht, ne, l0, l1, hs, k⟩ := h
    refine ⟨_, PSs.nox (pss_one (ps_ret (pe_ix ix_list (pv 1) (pe_d D_L_draw (hr.mono (by decide)) pass0 (pa_cons (pv 0) (pa_cons (pe_callB call_len (by rfl) T.z_len PySem.boot_len (pa_cons (pv 1) pa_nil)) pa_nil))) (fun _ _ => rfl)))), ?_⟩
    refine ⟨_, rfl, _, rfl, _, rfl, _, _, rfl, .inl ⟨_, ht, rfl⟩, s, _, r, m, rfl, by omega, by omega, hs, fun r' m' d d0 d1 => ?_⟩
    obtain ⟨j, rfl⟩ : ∃ j : Nat, d = (j : Int) := ⟨d.toNat, by omega⟩
    have hj : j < xs.length := by omega
    exact ⟨t, xs, _, _, rfl, rfl, sq_upd ne ht, atI_nat (List.getElem?_eq_getElem hj), k r' m' j _ (List.getElem?_eq_getElem hj)⟩
end

section
variable {P : Program} {w : World} {K : PySem.W.Frag} {mg : Str → Option Value} {base : Heap} {f : Addr} {fd : FuncData}
theorem scBadSource_init : FnScope ["self", "value"] ["self", "value"] (defScope sBadSource_init) := ⟨rfl, rfl, rfl, by decide +kernel, rfl, by decide +kernel, by decide +kernel⟩
theorem i_BadSource (F : FunD K "__init__" "BadSource.__init__" (defArgs sBadSource_init) (defBody sBadSource_init) (defScope sBadSource_init) [] [] f fd) (X : XC K (He.ga K "BadSource") "value") : FnOk P w K mg base CX0 1 f fd ["self", "value"] (spErr (He.ga K "BadSource") "value") ∧ Binds K fd ["self", "value"] [] ∧
    KBn K fd ["self", "value"] 1 ["value"] (fun us ws => us ++ ws) (fun vs zs => vs ++ zs) := by
  refine ⟨F.ok scBadSource_init (fun vs H Q E h => ?_) (fun cdv A outer s H vs Q E hr h => ?_), F.bindsN fun _ _ _ _ _ _ us hl => match us, hl with | [_, _], _ => rfl, kb1 F fun _ _ _ _ _ _ _ _ => rfl⟩
  · obtain ⟨_, _, rfl, _⟩ := h
    rfl
  · obtain ⟨a, v, rfl, ha, k⟩ := h
    refine ⟨_, PSs.nox (pss_one (ps_ost (pv 0) (pv 1))), ?_⟩
    exact ⟨_, rfl, _, rfl, a, _, rfl, X.oex, X.nof, .inl ⟨ha, k⟩⟩
theorem scBadStages_init : FnScope ["self", "value"] ["self", "value"] (defScope sBadStages_init) := ⟨rfl, rfl, rfl, by decide +kernel, rfl, by decide +kernel, by decide +kernel⟩
theorem i_BadStages (F : FunD K "__init__" "BadStages.__init__" (defArgs sBadStages_init) (defBody sBadStages_init) (defScope sBadStages_init) [] [] f fd) (X : XC K (He.ga K "BadStages") "value") : FnOk P w K mg base CX0 1 f fd ["self", "value"] (spErr (He.ga K "BadStages") "value") ∧ Binds K fd ["self", "value"] [] ∧
    KBn K fd ["self", "value"] 1 ["value"] (fun us ws => us ++ ws) (fun vs zs => vs ++ zs) := by
  refine ⟨F.ok scBadStages_init (fun vs H Q E h => ?_) (fun cdv A outer s H vs Q E hr h => ?_), F.bindsN fun _ _ _ _ _ _ us hl => match us, hl with | [_, _], _ => rfl, kb1 F fun _ _ _ _ _ _ _ _ => rfl⟩
  · obtain ⟨_, _, rfl, _⟩ := h
    rfl
  · obtain ⟨a, v, rfl, ha, k⟩ := h
    refine ⟨_, PSs.nox (pss_one (ps_ost (pv 0) (pv 1))), ?_⟩
    exact ⟨_, rfl, _, rfl, a, _, rfl, X.oex, X.nof, .inl ⟨ha, k⟩⟩
theorem scBadPositions_init : FnScope ["self", "value"] ["self", "value"] (defScope sBadPositions_init) := ⟨rfl, rfl, rfl, by decide +kernel, rfl, by decide +kernel, by decide +kernel⟩
theorem i_BadPositions (F : FunD K "__init__" "BadPositions.__init__" (defArgs sBadPositions_init) (defBody sBadPositions_init) (defScope sBadPositions_init) [] [] f fd) (X : XC K (He.ga K "BadPositions") "value") : FnOk P w K mg base CX0 1 f fd ["self", "value"] (spErr (He.ga K "BadPositions") "value") ∧ Binds K fd ["self", "value"] [] ∧
    KBn K fd ["self", "value"] 1 ["value"] (fun us ws => us ++ ws) (fun vs zs => vs ++ zs) := by
  refine ⟨F.ok scBadPositions_init (fun vs H Q E h => ?_) (fun cdv A outer s H vs Q E hr h => ?_), F.bindsN fun _ _ _ _ _ _ us hl => match us, hl with | [_, _], _ => rfl, kb1 F fun _ _ _ _ _ _ _ _ => rfl⟩
  · obtain ⟨_, _, rfl, _⟩ := h
    rfl
  · obtain ⟨a, v, rfl, ha, k⟩ := h
    refine ⟨_, PSs.nox (pss_one (ps_ost (pv 0) (pv 1))), ?_⟩
    exact ⟨_, rfl, _, rfl, a, _, rfl, X.oex, X.nof, .inl ⟨ha, k⟩⟩
theorem scBadReply_init : FnScope ["self", "value"] ["self", "value"] (defScope sBadReply_init) := ⟨rfl, rfl, rfl, by decide +kernel, rfl, by decide +kernel, by decide +kernel⟩
theorem i_BadReply (F : FunD K "__init__" "BadReply.__init__" (defArgs sBadReply_init) (defBody sBadReply_init) (defScope sBadReply_init) [] [] f fd) (X : XC K (He.ga K "BadReply") "value") : FnOk P w K mg base CX0 1 f fd ["self", "value"] (spErr (He.ga K "BadReply") "value") ∧ Binds K fd ["self", "value"] [] ∧
    KBn K fd ["self", "value"] 1 ["value"] (fun us ws => us ++ ws) (fun vs zs => vs ++ zs) := by
  refine ⟨F.ok scBadReply_init (fun vs H Q E h => ?_) (fun cdv A outer s H vs Q E hr h => ?_), F.bindsN fun _ _ _ _ _ _ us hl => match us, hl with | [_, _], _ => rfl, kb1 F fun _ _ _ _ _ _ _ _ => rfl⟩
  · obtain ⟨_, _, rfl, _⟩ := h
    rfl
  · obtain ⟨a, v, rfl, ha, k⟩ := h
    refine ⟨_, PSs.nox (pss_one (ps_ost (pv 0) (pv 1))), ?_⟩
    exact ⟨_, rfl, _, rfl, a, _, rfl, X.oex, X.nof, .inl ⟨ha, k⟩⟩
theorem scBadLoop_init : FnScope ["self", "value"] ["self", "value"] (defScope sBadLoop_init) := ⟨rfl, rfl, rfl, by decide +kernel, rfl, by decide +kernel, by decide +kernel⟩
theorem i_BadLoop (F : FunD K "__init__" "BadLoop.__init__" (defArgs sBadLoop_init) (defBody sBadLoop_init) (defScope sBadLoop_init) [] [] f fd) (X : XC K (He.ga K "BadLoop") "value") : FnOk P w K mg base CX0 1 f fd ["self", "value"] (spErr (He.ga K "BadLoop") "value") ∧ Binds K fd ["self", "value"] [] ∧
    KBn K fd ["self", "value"] 1 ["value"] (fun us ws => us ++ ws) (fun vs zs => vs ++ zs) := by
  refine ⟨F.ok scBadLoop_init (fun vs H Q E h => ?_) (fun cdv A outer s H vs Q E hr h => ?_), F.bindsN fun _ _ _ _ _ _ us hl => match us, hl with | [_, _], _ => rfl, kb1 F fun _ _ _ _ _ _ _ _ => rfl⟩
  · obtain ⟨_, _, rfl, _⟩ := h
    rfl
  · obtain ⟨a, v, rfl, ha, k⟩ := h
    refine ⟨_, PSs.nox (pss_one (ps_ost (pv 0) (pv 1))), ?_⟩
    exact ⟨_, rfl, _, rfl, a, _, rfl, X.oex, X.nof, .inl ⟨ha, k⟩⟩
theorem scBadStage_init : FnScope ["self", "position"] ["self", "position"] (defScope sBadStage_init) := ⟨rfl, rfl, rfl, by decide +kernel, rfl, by decide +kernel, by decide +kernel⟩
theorem i_BadStage (F : FunD K "__init__" "BadStage.__init__" (defArgs sBadStage_init) (defBody sBadStage_init) (defScope sBadStage_init) [] [] f fd) (X : XC K (He.ga K "BadStage") "position") : FnOk P w K mg base CX0 1 f fd ["self", "position"] (spErr (He.ga K "BadStage") "position") ∧ Binds K fd ["self", "position"] [] ∧
    KBn K fd ["self", "position"] 1 ["position"] (fun us ws => us ++ ws) (fun vs zs => vs ++ zs) := by
  refine ⟨F.ok scBadStage_init (fun vs H Q E h => ?_) (fun cdv A outer s H vs Q E hr h => ?_), F.bindsN fun _ _ _ _ _ _ us hl => match us, hl with | [_, _], _ => rfl, kb1 F fun _ _ _ _ _ _ _ _ => rfl⟩
  · obtain ⟨_, _, rfl, _⟩ := h
    rfl
  · obtain ⟨a, v, rfl, ha, k⟩ := h
    refine ⟨_, PSs.nox (pss_one (ps_ost (pv 0) (pv 1))), ?_⟩
    exact ⟨_, rfl, _, rfl, a, _, rfl, X.oex, X.nof, .inl ⟨ha, k⟩⟩
theorem scBadReplies_init : FnScope ["self", "position"] ["self", "position"] (defScope sBadReplies_init) := ⟨rfl, rfl, rfl, by decide +kernel, rfl, by decide +kernel, by decide +kernel⟩
theorem i_BadReplies (F : FunD K "__init__" "BadReplies.__init__" (defArgs sBadReplies_init) (defBody sBadReplies_init) (defScope sBadReplies_init) [] [] f fd) (X : XC K (He.ga K "BadReplies") "position") : FnOk P w K mg base CX0 1 f fd ["self", "position"] (spErr (He.ga K "BadReplies") "position") ∧ Binds K fd ["self", "position"] [] ∧
    KBn K fd ["self", "position"] 1 ["position"] (fun us ws => us ++ ws) (fun vs zs => vs ++ zs) := by
  refine ⟨F.ok scBadReplies_init (fun vs H Q E h => ?_) (fun cdv A outer s H vs Q E hr h => ?_), F.bindsN fun _ _ _ _ _ _ us hl => match us, hl with | [_, _], _ => rfl, kb1 F fun _ _ _ _ _ _ _ _ => rfl⟩
  · obtain ⟨_, _, rfl, _⟩ := h
    rfl
  · obtain ⟨a, v, rfl, ha, k⟩ := h
    refine ⟨_, PSs.nox (pss_one (ps_ost (pv 0) (pv 1))), ?_⟩
    exact ⟨_, rfl, _, rfl, a, _, rfl, X.oex, X.nof, .inl ⟨ha, k⟩⟩
theorem scHasZip_init : FnScope ["self", "position"] ["self", "position"] (defScope sHasZip_init) := ⟨rfl, rfl, rfl, by decide +kernel, rfl, by decide +kernel, by decide +kernel⟩
theorem i_HasZip (F : FunD K "__init__" "HasZip.__init__" (defArgs sHasZip_init) (defBody sHasZip_init) (defScope sHasZip_init) [] [] f fd) (X : XC K (He.ga K "HasZip") "position") : FnOk P w K mg base CX0 1 f fd ["self", "position"] (spErr (He.ga K "HasZip") "position") ∧ Binds K fd ["self", "position"] [] ∧
    KBn K fd ["self", "position"] 1 ["position"] (fun us ws => us ++ ws) (fun vs zs => vs ++ zs) := by
  refine ⟨F.ok scHasZip_init (fun vs H Q E h => ?_) (fun cdv A outer s H vs Q E hr h => ?_), F.bindsN fun _ _ _ _ _ _ us hl => match us, hl with | [_, _], _ => rfl, kb1 F fun _ _ _ _ _ _ _ _ => rfl⟩
  · obtain ⟨_, _, rfl, _⟩ := h
    rfl
  · obtain ⟨a, v, rfl, ha, k⟩ := h
    refine ⟨_, PSs.nox (pss_one (ps_ost (pv 0) (pv 1))), ?_⟩
    exact ⟨_, rfl, _, rfl, a, _, rfl, X.oex, X.nof, .inl ⟨ha, k⟩⟩
theorem scBadText_init : FnScope ["self", "line"] ["self", "line"] (defScope sBadText_init) := ⟨rfl, rfl, rfl, by decide +kernel, rfl, by decide +kernel, by decide +kernel⟩
theorem i_BadText (F : FunD K "__init__" "BadText.__init__" (defArgs sBadText_init) (defBody sBadText_init) (defScope sBadText_init) [] [] f fd) (X : XC K (He.ga K "BadText") "line") : FnOk P w K mg base CX0 1 f fd ["self", "line"] (spErr (He.ga K "BadText") "line") ∧ Binds K fd ["self", "line"] [] ∧
    KBn K fd ["self", "line"] 1 ["line"] (fun us ws => us ++ ws) (fun vs zs => vs ++ zs) := by
  refine ⟨F.ok scBadText_init (fun vs H Q E h => ?_) (fun cdv A outer s H vs Q E hr h => ?_), F.bindsN fun _ _ _ _ _ _ us hl => match us, hl with | [_, _], _ => rfl, kb1 F fun _ _ _ _ _ _ _ _ => rfl⟩
  · obtain ⟨_, _, rfl, _⟩ := h
    rfl
  · obtain ⟨a, v, rfl, ha, k⟩ := h
    refine ⟨_, PSs.nox (pss_one (ps_ost (pv 0) (pv 1))), ?_⟩
    exact ⟨_, rfl, _, rfl, a, _, rfl, X.oex, X.nof, .inl ⟨ha, k⟩⟩
end
/-! ### the errors in a row -/
def ErrL (K : PySem.W.Frag) (H : Hp) (x y : V) : List (Str × Str) → List Addr → Nat → Prop
  | [], [], _ => True
  | p :: r, e :: es, n => ErrAt H e (He.ga K p.1) p.2 (if n < 5 then x else y) ∧ ErrL K H x y r es (n + 1)
  | _, _, _ => False
theorem ErrL.same {K : PySem.W.Frag} {H H' : Hp} {x y : V} (s : Same H H') : ∀ {r : List (Str × Str)} {es : List Addr} {n : Nat}, ErrL K H x y r es n → ErrL K H' x y r es n
  | [], [], _, _ => trivial
  | p :: r, e :: es, n, h => ⟨h.1.same s, ErrL.same s h.2⟩
  | [], _ :: _, _, h => h.elim
  | _ :: _, [], _, h => h.elim
theorem ErrL.get {K : PySem.W.Frag} {H : Hp} {x y : V} : ∀ {r : List (Str × Str)} {es : List Addr} {n i : Nat} {e : Addr}, ErrL K H x y r es n → es[i]? = some e → ∃ p, r[i]? = some p ∧ ErrAt H e (He.ga K p.1) p.2 (if n + i < 5 then x else y)
  | [], [], _, i, e, _, q => by simp at q
  | p :: r, a :: es, n, 0, e, h, q => by
    have q' : a = e := by simpa using q
    subst q'
    exact ⟨p, rfl, h.1⟩
  | p :: r, a :: es, n, i + 1, e, h, q => by
    obtain ⟨p', h1, h2⟩ := ErrL.get (i := i) (e := e) h.2 (by simpa using q)
    refine ⟨p', by simpa using h1, ?_⟩
    rw [show n + (i + 1) = n + 1 + i by omega]
    exact h2
  | [], _ :: _, _, _, _, h, _ => h.elim
  | _ :: _, [], _, _, _, h, _ => h.elim
theorem ErrL.len {K : PySem.W.Frag} {H : Hp} {x y : V} : ∀ {r : List (Str × Str)} {es : List Addr} {n : Nat}, ErrL K H x y r es n → es.length = r.length
  | [], [], _, _ => rfl
  | p :: r, e :: es, n, h => congrArg Nat.succ (ErrL.len h.2)
  | [], _ :: _, _, h => h.elim
  | _ :: _, [], _, h => h.elim
theorem lc_attr {K : PySem.W.Frag} {q D : Addr} {es : List Addr} {fld : Str} {x : V} {σ : L2.St} {vs : List Nat} {H1 : Hp} {Qd : Hp → Prop} (hq : H1 q = some (.lst (es.map V.ref))) (hD : H1 D = none) (hx : ∀ (i : Nat) (e : Addr), es[i]? = some e → ∃ C, ErrAt H1 e C fld x ∧ XC K C fld)
    (hl : es.length ≤ 1000) (w1 : ∀ v, ((wipe σ vs).set 1 (some v))[1]? = some (some v)) (w2 : ∀ v, wipe ((wipe σ vs).set 1 (some v)) vs = wipe σ vs) (hd : Qd (upd H1 D (.lst (List.replicate es.length x)))) :
    ∃ W : Nat → Nat → Hp → Prop, (∃ m, W 0 m (upd H1 D (.lst []))) ∧ ∀ i m H, W i m H →
      ((Itl K q).stop i H ∧ Qd H) ∨ ((Itl K q).go i H ∧ ∃ Nx : Hp → Prop, (∀ H', Nx H' → ∃ m', m' < m ∧ W (i + 1) m' H') ∧ ∀ x H', (Itl K q).yld i H x H' → gName 1 x (wipe σ vs) H' fun σ2 H2 => wipe σ2 vs = wipe σ vs ∧ tYes σ2 H2 fun b H3 =>
        if b = true then tXv K fld (tVar 1) σ2 H3 fun y H4 => ∃ acc, H4 D = some (.lst acc) ∧ acc.length < sizeLine ∧ Nx (upd H4 D (.lst (acc ++ [y]))) else Nx H3) := by
  refine lc_list (K := K) (a := q) (xs := es.map V.ref) (fun i H' => i ≤ es.length ∧ H' = upd H1 D (.lst (List.replicate i x))) ⟨Nat.zero_le _, rfl⟩ ?_ ?_ ?_
  · rintro i H' _ ⟨_, rfl⟩
    exact SqL.of ((same_upd hD) _ _ hq)
  · rintro i z H' hz ⟨_, rfl⟩
    rw [List.getElem?_map] at hz
    obtain ⟨e, he, rfl⟩ := Option.map_eq_some_iff.mp hz
    obtain ⟨C, h1, h2⟩ := hx i e he
    have hi := (List.getElem?_eq_some_iff.mp he).1
    refine ⟨w2 _, _, w1 _, e, C, x, rfl, h1.same (same_upd hD), h2, _, upd_same, szlt (by rw [List.length_replicate]; omega), hi, ?_⟩
    rw [upd_upd, List.replicate_succ']
  · rintro H' ⟨_, rfl⟩
    rw [List.length_map]
    exact hd
def spRow (K : PySem.W.Frag) : Sp := fun vs H Q _ => ∃ x y, vs = [x, y] ∧ ∀ (p : Addr) (es : List Addr) (H' : Hp), Same H H' → H p = none → ErrL K H' x y errs es 0 → H' p = some (.lst (es.map V.ref)) → Q (.ref p) H'
def spKinds (K : PySem.W.Frag) : Sp := fun vs H Q _ => ∃ (e : Addr) (i : Nat) (x : Str × Str) (v : V), vs = [.ref e] ∧ errs[i]? = some x ∧ ErrAt H e (He.ga K x.1) x.2 v ∧
  ∀ (p : Addr) (H' : Hp), Same H H' → H p = none → H' p = some (.lst ((List.range 9).map fun j => V.bl (decide (j = i)))) → Q (.ref p) H'
def spStored (K : PySem.W.Frag) : Sp := fun vs H Q _ => ∃ (p : Addr) (es : List Addr) (x y : V), vs = [.ref p] ∧ H p = some (.lst (es.map V.ref)) ∧ ErrL K H x y errs es 0 ∧
  ∀ (q : Addr) (H' : Hp), Same H H' → H q = none → H' q = some (.lst [x, x, x, x, x, y, y, y, y]) → Q (.ref q) H'
section
variable {P : Program} {w : World} {K : PySem.W.Frag} {mg : Str → Option Value} {base : Heap} {f : Addr} {fd : FuncData}
theorem scL_by_place : FnScope ["thing", "many", "found"] ["thing", "many"] (defScope sL_by_place) := ⟨rfl, rfl, rfl, by decide +kernel, rfl, by decide +kernel, by decide +kernel⟩
theorem d_place (F : FnP K "_law_by_place" "_law_by_place" sL_by_place f fd) (gm : mg "_law_by_place" = some (.ref f)) (T : Ty P w K mg base) : DefOk P w K mg base CX0 3 "_law_by_place" ["thing", "many"] [] (spRow K) := by
  refine ⟨f, fd, [], F.ok scL_by_place (fun vs H Q E h => ?_) (fun cdv A outer s H vs Q E hr h => ?_), gm, F.kp, F.bindsN fun _ _ _ _ _ _ us hl => match us, hl with | [_, _], _ => rfl, .nil⟩
  · obtain ⟨_, _, rfl, _⟩ := h
    rfl
  · obtain ⟨x, y, rfl, k⟩ := h
    refine ⟨_, PSs.nox (pss_cons (ps_set (i := 2) scL_by_place.nd rfl (.inl rfl) (pe_lst (pa_cons (pe_er T.e_BadSource (hr.mono (by decide)) (pa_cons (pv 0) pa_nil)) (pa_cons (pe_er T.e_BadStages (hr.mono (by decide)) (pa_cons (pv 0) pa_nil)) (pa_cons (pe_er T.e_BadPositions (hr.mono (by decide)) (pa_cons (pv 0) pa_nil)) (pa_cons (pe_er T.e_BadReply (hr.mono (by decide)) (pa_cons (pv 0) pa_nil)) (pa_cons (pe_er T.e_BadLoop (hr.mono (by decide)) (pa_cons (pv 0) pa_nil)) pa_nil)))))))
  (pss_one (ps_ret (pe_op op_cat (pv 2) (pe_lst (pa_cons (pe_er T.e_BadStage (hr.mono (by decide)) (pa_cons (pv 1) pa_nil)) (pa_cons (pe_er T.e_BadReplies (hr.mono (by decide)) (pa_cons (pv 1) pa_nil)) (pa_cons (pe_er T.e_HasZip (hr.mono (by decide)) (pa_cons (pv 1) pa_nil)) (pa_cons (pe_er T.e_BadText (hr.mono (by decide)) (pa_cons (pv 1) pa_nil)) pa_nil))))))))), ?_⟩
    refine ⟨_, rfl, _, rfl, fun a1 H1 s1 n1 e1 => ⟨_, rfl, _, rfl, fun a2 H2 s2 n2 e2 => ⟨_, rfl, _, rfl, fun a3 H3 s3 n3 e3 => ⟨_, rfl, _, rfl, fun a4 H4 s4 n4 e4 => ⟨_, rfl, _, rfl, fun a5 H5 s5 n5 e5 => ⟨szl rfl, fun p hp => ?_⟩⟩⟩⟩⟩⟩
    refine ⟨_, rfl, _, rfl, _, rfl, fun a6 H6 s6 n6 e6 => ⟨_, rfl, _, rfl, fun a7 H7 s7 n7 e7 => ⟨_, rfl, _, rfl, fun a8 H8 s8 n8 e8 => ⟨_, rfl, _, rfl, fun a9 H9 s9 n9 e9 => ⟨szl rfl, fun q hq => ?_⟩⟩⟩⟩⟩
    have t5 := same_upd (o := .lst [V.ref a1, V.ref a2, V.ref a3, V.ref a4, V.ref a5]) hp
    have u9 := same_upd (o := .lst [V.ref a6, V.ref a7, V.ref a8, V.ref a9]) hq
    have t9 := same_trans s6 (same_trans s7 (same_trans s8 s9))
    refine ⟨_, _, _, _, rfl, rfl, (same_trans t9 u9) _ _ upd_same, upd_same, szl rfl, fun r hr' => ?_⟩
    have v9 := same_upd (o := .lst ([V.ref a1, V.ref a2, V.ref a3, V.ref a4, V.ref a5] ++ [V.ref a6, V.ref a7, V.ref a8, V.ref a9])) hr'
    have z8 := same_trans s9 u9
    have z7 := same_trans s8 z8
    have z6 := same_trans s7 z7
    have z5 := same_trans t5 (same_trans s6 z6)
    have z4 := same_trans s5 z5
    have z3 := same_trans s4 z4
    have z2 := same_trans s3 z3
    have z1 := same_trans s2 z2
    have z0 := same_trans s1 z1
    exact k r [a1, a2, a3, a4, a5, a6, a7, a8, a9] _ (same_trans z0 v9) (z0.free hr') ⟨e1.same (same_trans z1 v9), e2.same (same_trans z2 v9), e3.same (same_trans z3 v9), e4.same (same_trans z4 v9), e5.same (same_trans z5 v9), e6.same (same_trans z6 v9), e7.same (same_trans z7 v9), e8.same (same_trans z8 v9), e9.same (same_trans u9 v9), trivial⟩ upd_same
theorem scL_by_name : FnScope ["thing", "many", "found"] ["thing", "many"] (defScope sL_by_name) := ⟨rfl, rfl, rfl, by decide +kernel, rfl, by decide +kernel, by decide +kernel⟩
theorem d_name (F : FnP K "_law_by_name" "_law_by_name" sL_by_name f fd) (gm : mg "_law_by_name" = some (.ref f)) (T : Ty P w K mg base) : DefOk P w K mg base CX0 3 "_law_by_name" ["thing", "many"] [] (spRow K) := by
  refine ⟨f, fd, [], F.ok scL_by_name (fun vs H Q E h => ?_) (fun cdv A outer s H vs Q E hr h => ?_), gm, F.kp, F.bindsN fun _ _ _ _ _ _ us hl => match us, hl with | [_, _], _ => rfl, .nil⟩
  · obtain ⟨_, _, rfl, _⟩ := h
    rfl
  · obtain ⟨x, y, rfl, k⟩ := h
    refine ⟨_, PSs.nox (pss_cons (ps_set (i := 2) scL_by_name.nd rfl (.inl rfl) (pe_lst (pa_cons (pe_er_k T.e_BadSource (hr.mono (by decide)) (pk_cons (pv 0) pk_nil)) (pa_cons (pe_er_k T.e_BadStages (hr.mono (by decide)) (pk_cons (pv 0) pk_nil)) (pa_cons (pe_er_k T.e_BadPositions (hr.mono (by decide)) (pk_cons (pv 0) pk_nil)) (pa_cons (pe_er_k T.e_BadReply (hr.mono (by decide)) (pk_cons (pv 0) pk_nil)) pa_nil))))))
  (pss_cons (ps_set (i := 2) scL_by_name.nd rfl (.inl rfl) (pe_op op_cat (pv 2) (pe_lst (pa_cons (pe_er_k T.e_BadLoop (hr.mono (by decide)) (pk_cons (pv 0) pk_nil)) (pa_cons (pe_er_k T.e_BadStage (hr.mono (by decide)) (pk_cons (pv 1) pk_nil)) (pa_cons (pe_er_k T.e_BadReplies (hr.mono (by decide)) (pk_cons (pv 1) pk_nil)) pa_nil))))))
  (pss_one (ps_ret (pe_op op_cat (pv 2) (pe_lst (pa_cons (pe_er_k T.e_HasZip (hr.mono (by decide)) (pk_cons (pv 1) pk_nil)) (pa_cons (pe_er_k T.e_BadText (hr.mono (by decide)) (pk_cons (pv 1) pk_nil)) pa_nil)))))))), ?_⟩
    refine ⟨_, rfl, _, rfl, fun a1 H1 s1 n1 e1 => ⟨_, rfl, _, rfl, fun a2 H2 s2 n2 e2 => ⟨_, rfl, _, rfl, fun a3 H3 s3 n3 e3 => ⟨_, rfl, _, rfl, fun a4 H4 s4 n4 e4 => ⟨szl rfl, fun p hp => ?_⟩⟩⟩⟩⟩
    refine ⟨_, rfl, _, rfl, _, rfl, fun a5 H5 s5 n5 e5 => ⟨_, rfl, _, rfl, fun a6 H6 s6 n6 e6 => ⟨_, rfl, _, rfl, fun a7 H7 s7 n7 e7 => ⟨szl rfl, fun q hq => ?_⟩⟩⟩⟩
    have t4 := same_upd (o := .lst [V.ref a1, V.ref a2, V.ref a3, V.ref a4]) hp
    have u7 := same_upd (o := .lst [V.ref a5, V.ref a6, V.ref a7]) hq
    have x7 := same_trans s5 (same_trans s6 s7)
    refine ⟨_, _, _, _, rfl, rfl, (same_trans x7 u7) _ _ upd_same, upd_same, szl rfl, fun r hr' => ?_⟩
    have v7 := same_upd (o := .lst ([V.ref a1, V.ref a2, V.ref a3, V.ref a4] ++ [V.ref a5, V.ref a6, V.ref a7])) hr'
    refine ⟨_, rfl, _, rfl, _, rfl, fun a8 H8 s8 n8 e8 => ⟨_, rfl, _, rfl, fun a9 H9 s9 n9 e9 => ⟨szl rfl, fun q' hq' => ?_⟩⟩⟩
    have u9 := same_upd (o := .lst [V.ref a8, V.ref a9]) hq'
    refine ⟨_, _, _, _, rfl, rfl, (same_trans s8 (same_trans s9 u9)) _ _ upd_same, upd_same, szl rfl, fun r2 hr2 => ?_⟩
    have v9 := same_upd (o := .lst ([V.ref a1, V.ref a2, V.ref a3, V.ref a4] ++ [V.ref a5, V.ref a6, V.ref a7] ++ [V.ref a8, V.ref a9])) hr2
    have z8 := same_trans s9 u9
    have z7 := same_trans u7 (same_trans v7 (same_trans s8 z8))
    have z6 := same_trans s7 z7
    have z5 := same_trans s6 z6
    have z4 := same_trans t4 (same_trans s5 z5)
    have z3 := same_trans s4 z4
    have z2 := same_trans s3 z3
    have z1 := same_trans s2 z2
    have z0 := same_trans s1 z1
    exact k r2 [a1, a2, a3, a4, a5, a6, a7, a8, a9] _ (same_trans z0 v9) (z0.free hr2) ⟨e1.same (same_trans z1 v9), e2.same (same_trans z2 v9), e3.same (same_trans z3 v9), e4.same (same_trans z4 v9), e5.same (same_trans z5 v9), e6.same (same_trans z6 v9), e7.same (same_trans z7 v9), e8.same (same_trans z8 v9), e9.same (same_trans u9 v9), trivial⟩ upd_same
theorem scL_kinds : FnScope ["error", "found"] ["error"] (defScope sL_kinds) := ⟨rfl, rfl, rfl, by decide +kernel, rfl, by decide +kernel, by decide +kernel⟩
theorem d_kinds (F : FnP K "_law_kinds" "_law_kinds" sL_kinds f fd) (gm : mg "_law_kinds" = some (.ref f)) (T : Ty P w K mg base) : DefOk P w K mg base CX0 1 "_law_kinds" ["error"] [] (spKinds K) := by
  refine ⟨f, fd, [], F.ok scL_kinds (fun vs H Q E h => ?_) (fun cdv A outer s H vs Q E hr h => ?_), gm, F.kp, F.bindsN fun _ _ _ _ _ _ us hl => match us, hl with | [_], _ => rfl, .nil⟩
  · obtain ⟨_, _, _, _, rfl, _⟩ := h
    rfl
  · obtain ⟨e, i, x, v, rfl, hx, he, k⟩ := h
    have X := T.xc i x hx
    refine ⟨_, PSs.nox (pss_cons (ps_set (i := 1) scL_kinds.nd rfl (.inl rfl) (pe_lst (pa_cons (pe_callB call_isX (by rfl) T.z_isinstance (by decide +kernel) (pa_cons (pv 0) (pa_cons (pe_glob (v := .ref _) (by rfl) T.g_BadSource rfl) pa_nil))) (pa_cons (pe_callB call_isX (by rfl) T.z_isinstance (by decide +kernel) (pa_cons (pv 0) (pa_cons (pe_glob (v := .ref _) (by rfl) T.g_BadStages rfl) pa_nil))) (pa_cons (pe_callB call_isX (by rfl) T.z_isinstance (by decide +kernel) (pa_cons (pv 0) (pa_cons (pe_glob (v := .ref _) (by rfl) T.g_BadPositions rfl) pa_nil))) pa_nil)))))
  (pss_cons (ps_set (i := 1) scL_kinds.nd rfl (.inl rfl) (pe_op op_cat (pv 1) (pe_lst (pa_cons (pe_callB call_isX (by rfl) T.z_isinstance (by decide +kernel) (pa_cons (pv 0) (pa_cons (pe_glob (v := .ref _) (by rfl) T.g_BadReply rfl) pa_nil))) (pa_cons (pe_callB call_isX (by rfl) T.z_isinstance (by decide +kernel) (pa_cons (pv 0) (pa_cons (pe_glob (v := .ref _) (by rfl) T.g_BadLoop rfl) pa_nil))) (pa_cons (pe_callB call_isX (by rfl) T.z_isinstance (by decide +kernel) (pa_cons (pv 0) (pa_cons (pe_glob (v := .ref _) (by rfl) T.g_BadStage rfl) pa_nil))) pa_nil))))))
  (pss_one (ps_ret (pe_op op_cat (pv 1) (pe_lst (pa_cons (pe_callB call_isX (by rfl) T.z_isinstance (by decide +kernel) (pa_cons (pv 0) (pa_cons (pe_glob (v := .ref _) (by rfl) T.g_BadReplies rfl) pa_nil))) (pa_cons (pe_callB call_isX (by rfl) T.z_isinstance (by decide +kernel) (pa_cons (pv 0) (pa_cons (pe_glob (v := .ref _) (by rfl) T.g_HasZip rfl) pa_nil))) (pa_cons (pe_callB call_isX (by rfl) T.z_isinstance (by decide +kernel) (pa_cons (pv 0) (pa_cons (pe_glob (v := .ref _) (by rfl) T.g_BadText rfl) pa_nil))) pa_nil))))))))), ?_⟩
    refine ⟨_, rfl, e, _, _, v, _, _, _, rfl, he, X, .own _, T.kit i 0 x _ hx rfl, _, rfl, e, _, _, v, _, _, _, rfl, he, X, .own _, T.kit i 1 x _ hx rfl, _, rfl, e, _, _, v, _, _, _, rfl, he, X, .own _, T.kit i 2 x _ hx rfl, szl rfl, fun p hp => ?_⟩
    have s1 := same_upd (o := .lst [V.bl (decide (0 = i)), V.bl (decide (1 = i)), V.bl (decide (2 = i))]) hp
    have he1 := he.same s1
    refine ⟨_, rfl, _, rfl, e, _, _, v, _, _, _, rfl, he1, X, .own _, T.kit i 3 x _ hx rfl, _, rfl, e, _, _, v, _, _, _, rfl, he1, X, .own _, T.kit i 4 x _ hx rfl, _, rfl, e, _, _, v, _, _, _, rfl, he1, X, .own _, T.kit i 5 x _ hx rfl, szl rfl, fun q hq => ?_⟩
    have s2 := same_upd (o := .lst [V.bl (decide (3 = i)), V.bl (decide (4 = i)), V.bl (decide (5 = i))]) hq
    refine ⟨_, _, _, _, rfl, rfl, s2 _ _ upd_same, upd_same, szl rfl, fun r hr' => ?_⟩
    have s3 := same_upd (o := .lst ([V.bl (decide (0 = i)), V.bl (decide (1 = i)), V.bl (decide (2 = i))] ++ [V.bl (decide (3 = i)), V.bl (decide (4 = i)), V.bl (decide (5 = i))])) hr'
    have he3 := (he1.same s2).same s3
    refine ⟨_, rfl, _, rfl, e, _, _, v, _, _, _, rfl, he3, X, .own _, T.kit i 6 x _ hx rfl, _, rfl, e, _, _, v, _, _, _, rfl, he3, X, .own _, T.kit i 7 x _ hx rfl, _, rfl, e, _, _, v, _, _, _, rfl, he3, X, .own _, T.kit i 8 x _ hx rfl, szl rfl, fun q' hq' => ?_⟩
    have s4 := same_upd (o := .lst [V.bl (decide (6 = i)), V.bl (decide (7 = i)), V.bl (decide (8 = i))]) hq'
    refine ⟨_, _, _, _, rfl, rfl, s4 _ _ upd_same, upd_same, szl rfl, fun r2 hr2 => ?_⟩
    have z := same_trans s1 (same_trans s2 (same_trans s3 s4))
    exact k r2 _ (same_trans z (same_upd hr2)) (z.free hr2) upd_same
theorem scL_stored : FnScope ["errors", "error"] ["errors"] (defScope sL_stored) := ⟨rfl, rfl, rfl, by decide +kernel, rfl, by decide +kernel, by decide +kernel⟩
theorem d_stored (F : FnP K "_law_stored" "_law_stored" sL_stored f fd) (gm : mg "_law_stored" = some (.ref f)) (T : Ty P w K mg base) : DefOk P w K mg base CX0 1 "_law_stored" ["errors"] [] (spStored K) := by
  refine ⟨f, fd, [], F.ok scL_stored (fun vs H Q E h => ?_) (fun cdv A outer s H vs Q E hr h => ?_), gm, F.kp, F.bindsN fun _ _ _ _ _ _ us hl => match us, hl with | [_], _ => rfl, .nil⟩
  · obtain ⟨_, _, _, _, rfl, _⟩ := h
    rfl
  · obtain ⟨p, es, x, y, rfl, hp, hE, k⟩ := h
    obtain ⟨a1, a2, a3, a4, a5, a6, a7, a8, a9, rfl⟩ : ∃ a1 a2 a3 a4 a5 a6 a7 a8 a9, es = [a1, a2, a3, a4, a5, a6, a7, a8, a9] := by
      have hl : es.length = 9 := hE.len
      match es, hl with
      | [a1, a2, a3, a4, a5, a6, a7, a8, a9], _ => exact ⟨_, _, _, _, _, _, _, _, _, rfl⟩
    refine ⟨_, PSs.nox (pss_one (ps_ret (pe_op op_cat (pe_op op_cat (pe_lc (own := [("error", 1)]) (g := gName 1) (tt := tYes) (te := tXv K "value" (tVar 1)) (by rfl) scL_stored.nd (pi_list (pe_slice sl_list (pv 0) po_none (po_some pe_int))) (blkOk_by (own := [("error", 1)]) (N := ["errors", "error"]) (sc := defScope sL_stored) (by decide +kernel)) (fun _ _ _ _ _ => pg_name (i := 1) scL_stored.nd rfl (Or.inl rfl)) (fun _ _ _ _ _ => pts_nil) (fun _ _ _ _ _ => (pe_xv (pv 1)))) (pe_lc (own := [("error", 1)]) (g := gName 1) (tt := tYes) (te := tXv K "position" (tVar 1)) (by rfl) scL_stored.nd (pi_list (pe_slice sl_list (pv 0) (po_some pe_int) (po_some pe_int))) (blkOk_by (own := [("error", 1)]) (N := ["errors", "error"]) (sc := defScope sL_stored) (by decide +kernel)) (fun _ _ _ _ _ => pg_name (i := 1) scL_stored.nd rfl (Or.inl rfl)) (fun _ _ _ _ _ => pts_nil) (fun _ _ _ _ _ => (pe_xv (pv 1))))) (pe_lst (pa_cons (pe_xv (pe_ix ix_list (pv 0) pe_int (fun _ _ => rfl))) pa_nil))))), ?_⟩
    -- errors[:5], their values
    refine ⟨_, rfl, _, rfl, p, _, rfl, SqL.of hp, fun q1 h1 => ⟨q1, rfl, ⟨_, SqL.of upd_same⟩, fun D1 hD1 => ?_⟩⟩
    have t1 := same_upd (o := .lst (cutV ([a1, a2, a3, a4, a5, a6, a7, a8, a9].map V.ref) none (some 5))) h1
    refine lc_attr (K := K) (es := [a1, a2, a3, a4, a5]) (fld := "value") (x := x) upd_same hD1 (fun i e he => ?_) (by show 5 ≤ 1000; decide) (fun _ => rfl) (fun _ => rfl) ?_
    · obtain ⟨pr, hpr, hEr⟩ := ErrL.get (hE.same t1) (show [a1, a2, a3, a4, a5, a6, a7, a8, a9][i]? = some e from (List.getElem?_append_left (l₂ := [a6, a7, a8, a9]) (List.getElem?_eq_some_iff.mp he).1).trans he)
      have hi : i < 5 := (List.getElem?_eq_some_iff.mp he).1
      have e2 : pr.2 = "value" := by
        match i, hi with
        | 0, _ => exact (congrArg Prod.snd (Option.some.inj hpr)).symm
        | 1, _ => exact (congrArg Prod.snd (Option.some.inj hpr)).symm
        | 2, _ => exact (congrArg Prod.snd (Option.some.inj hpr)).symm
        | 3, _ => exact (congrArg Prod.snd (Option.some.inj hpr)).symm
        | 4, _ => exact (congrArg Prod.snd (Option.some.inj hpr)).symm
      have X := T.xc i pr hpr
      rw [e2] at hEr X
      rw [if_pos (by omega)] at hEr
      exact ⟨_, hEr, X⟩
    have t2 := same_upd (o := .lst (List.replicate 5 x)) hD1
    have t12 := same_trans t1 t2
    have hp2 := t12 _ _ hp
    -- errors[5:8], their positions
    refine ⟨_, rfl, _, rfl, _, rfl, p, _, rfl, SqL.of hp2, fun q2 h2 => ⟨q2, rfl, ⟨_, SqL.of upd_same⟩, fun D2 hD2 => ?_⟩⟩
    have t3 := same_upd (o := .lst (cutV ([a1, a2, a3, a4, a5, a6, a7, a8, a9].map V.ref) (some 5) (some 8))) h2
    have t13 := same_trans t12 t3
    refine lc_attr (K := K) (es := [a6, a7, a8]) (fld := "position") (x := y) upd_same hD2 (fun i e he => ?_) (by show 3 ≤ 1000; decide) (fun _ => rfl) (fun _ => rfl) ?_
    · have hi : i < 3 := (List.getElem?_eq_some_iff.mp he).1
      have he9 : [a1, a2, a3, a4, a5, a6, a7, a8, a9][i + 5]? = some e := by
        match i, hi with
        | 0, _ => exact he
        | 1, _ => exact he
        | 2, _ => exact he
      obtain ⟨pr, hpr, hEr⟩ := ErrL.get (hE.same t13) he9
      have e2 : pr.2 = "position" := by
        match i, hi with
        | 0, _ => exact (congrArg Prod.snd (Option.some.inj hpr)).symm
        | 1, _ => exact (congrArg Prod.snd (Option.some.inj hpr)).symm
        | 2, _ => exact (congrArg Prod.snd (Option.some.inj hpr)).symm
      have X := T.xc (i + 5) pr hpr
      rw [e2] at hEr X
      rw [if_neg (by omega)] at hEr
      exact ⟨_, hEr, X⟩
    have t4 := same_upd (o := .lst (List.replicate 3 y)) hD2
    have t14 := same_trans t13 t4
    refine ⟨_, _, _, _, rfl, rfl, (same_trans t3 t4) _ _ upd_same, upd_same, szl rfl, fun r1 hr1 => ?_⟩
    have t5 := same_upd (o := .lst (List.replicate 5 x ++ List.replicate 3 y)) hr1
    have t15 := same_trans t14 t5
    -- errors[8].line
    obtain ⟨pr, hpr, hEr⟩ := ErrL.get (i := 8) (hE.same t15) rfl
    obtain rfl : ((("BadText" : Str), ("line" : Str)) : Str × Str) = pr := Option.some.inj hpr
    refine ⟨_, rfl, p, _, _, _, rfl, rfl, SqL.of (t15 _ _ hp), atI_nat (j := 8) rfl, a9, _, y, rfl, hEr, T.xc 8 _ rfl, szl rfl, fun r2 hr2 => ?_⟩
    have t6 := same_upd (o := .lst [y]) hr2
    refine ⟨_, _, _, _, rfl, rfl, t6 _ _ upd_same, upd_same, szl rfl, fun r3 hr3 => ?_⟩
    have t16 := same_trans t15 t6
    exact k r3 _ (same_trans t16 (same_upd hr3)) (t16.free hr3) upd_same
end
end K91
namespace K91
open PySem PySem.Spec PyProof.Rows L2 Lw
/-! ### the texts stay small -/
theorem textFrom_le : ∀ (ts : List Str) (k : Nat) (acc : Str), (textFrom k acc ts).length ≤ acc.length + (ts.map fun t => t.length + 2).sum
  | [], k, acc => Nat.le_add_right _ _
  | t :: r, k, acc => by
    have ih := textFrom_le r (k + 1) (acc ++ (if k > 0 then ", " else "" : String) ++ t)
    have e : (acc ++ (if k > 0 then ", " else "" : String) ++ t).length ≤ acc.length + t.length + 2 := by
      rw [strLen_append, strLen_append]
      split
      · show acc.length + 2 + t.length ≤ _
        omega
      · show acc.length + 0 + t.length ≤ _
        omega
    show (textFrom (k + 1) _ r).length ≤ _
    rw [List.map_cons, List.sum_cons]
    omega
theorem listText_le (ts : List Str) : (listText ts).length ≤ 2 + (ts.map fun t => t.length + 2).sum := by
  unfold listText
  rw [strLen_append]
  have h := textFrom_le ts 0 "["
  have e1 : ("[" : Str).length = 1 := by decide
  have e2 : ("]" : Str).length = 1 := by decide
  omega
theorem shown_list (ds : List PyData) : (PyData.list ds).shown = listText (PyData.shownAll ds) := by simp [PyData.shown]
theorem small9 {d e : PyData} (h1 : Small d 40 5) (h2 : Small e 40 5) : Small (.list [d, d, d, d, d, e, e, e, e]) 16777216 60 := by
  obtain ⟨a1, a2, a3⟩ := h1
  obtain ⟨b1, b2, b3⟩ := h2
  refine ⟨by simp [PyData.showable, PyData.showableAll, a1, b1], ?_, ?_⟩
  · simp only [PyData.depth, PyData.depthAll]
    omega
  · rw [shown_list]
    refine Nat.le_trans (listText_le _) ?_
    simp only [PyData.shownAll, List.map_cons, List.map_nil, List.sum_cons, List.sum_nil]
    omega
theorem small_int {z : Int} (h0 : 0 ≤ z) (h1 : z < 60) : Small (.int z) 40 5 := by
  obtain ⟨n, rfl⟩ : ∃ n : Nat, z = (n : Int) := ⟨z.toNat, by omega⟩
  have hn : n < 60 := by omega
  have key : ∀ m : Fin 60, (PyData.int ((m.val : Nat) : Int)).showable = true ∧ (PyData.int ((m.val : Nat) : Int)).depth ≤ 5 ∧ (PyData.int ((m.val : Nat) : Int)).shown.length ≤ 40 := by decide +kernel
  obtain ⟨k1, k2, k3⟩ := key ⟨n, hn⟩
  exact ⟨k1, k2, k3⟩
def smallB (d : PyData) : Bool := d.showable && (decide (d.depth ≤ 5) && decide (d.shown.length ≤ 40))
theorem smallB_ok {d : PyData} (h : smallB d = true) : Small d 40 5 := by
  obtain ⟨h1, h⟩ := Bool.and_eq_true_iff.mp h
  obtain ⟨h2, h3⟩ := Bool.and_eq_true_iff.mp h
  exact ⟨h1, of_decide_eq_true h2, of_decide_eq_true h3⟩
/-! ### what is drawn -/
/-- the list may yet grow so often -/
def Grow (k : Nat) (ds : List PyData) : Prop := ∀ j, j + k ≤ 2 → Small (.list (ds ++ List.replicate j (.int 0))) 40 5
theorem Grow.next {k : Nat} {ds : List PyData} (h : Grow k ds) : Grow (k + 1) (ds ++ [.int 0]) := fun j hj => by
  have q := h (j + 1) (by omega)
  rw [List.append_assoc]
  rw [List.replicate_succ] at q
  exact q
theorem grow0 {ds : List PyData} (h0 : smallB (.list ds) = true) (h1 : smallB (.list (ds ++ [.int 0])) = true) (h2 : smallB (.list (ds ++ [.int 0, .int 0])) = true) : Grow 0 ds := fun j hj => by
  match j, hj with
  | 0, _ => exact smallB_ok (by rw [List.replicate_zero, List.append_nil]; exact h0)
  | 1, _ => exact smallB_ok h1
  | 2, _ => exact smallB_ok h2
def dk : Bool → List (Key × V)
  | false => [(Sum.inr "a", .int 1)]
  | true => [(Sum.inr "a", .int 1), (Sum.inr "more", .int 0)]
inductive Th (H : Hp) : V → Nat → Prop
  | lst {q : Addr} {vs : List V} {ds : List PyData} {as : List Addr} {k : Nat} (h : H q = some (.lst vs)) (r : RdVs H vs ds as) (n : q ∉ as) (l : vs.length ≤ 10 + k) (g : Grow k ds) : Th H (.ref q) k
  | dic {q : Addr} {k : Nat} (b : Bool) (h : H q = some (.dK (dk b))) : Th H (.ref q) k
  | tup {q : Addr} {k : Nat} (h : H q = some (.tup [.int 1])) : Th H (.ref q) k
  | non {k : Nat} : Th H .non k
  | str {k : Nat} : Th H (.str "x") k
  | bl {k : Nat} : Th H (.bl true) k
  | int {k : Nat} : Th H (.int (-3)) k
theorem Th.same {H H' : Hp} (s : Same H H') {x : V} {k : Nat} (t : Th H x k) : Th H' x k := by
  cases t with
  | lst h r n l g => exact .lst (s _ _ h) (r.same s) n l g
  | dic b h => exact .dic b (s _ _ h)
  | tup h => exact .tup (s _ _ h)
  | non => exact .non
  | str => exact .str
  | bl => exact .bl
  | int => exact .int
theorem Th.ne {H : Hp} {x : V} {k : Nat} (t : Th H x k) {p : Addr} (hp : H p = none) : x ≠ .ref p := fun e => by
  cases t with
  | lst h => rw [V.ref.inj e, hp] at h; cases h
  | dic b h => rw [V.ref.inj e, hp] at h; cases h
  | tup h => rw [V.ref.inj e, hp] at h; cases h
  | non => cases e
  | str => cases e
  | bl => cases e
  | int => cases e
theorem Th.reads {H : Hp} {x : V} {k : Nat} (t : Th H x k) (hk : k ≤ 2) : ∃ d as, RdV H x d as ∧ Small d 40 5 := by
  cases t with
  | lst h r n l g =>
    have q := g 0 (by omega)
    rw [List.replicate_zero, List.append_nil] at q
    exact ⟨_, _, .lst h r, q⟩
  | dic b h =>
    cases b with
    | false => exact ⟨.dict [(.str "a", .int 1)], _, .dic (as := []) (bs := []) h (.cons (.str _) .nil) (.cons (.int _) .nil), smallB_ok (by decide +kernel)⟩
    | true => exact ⟨.dict [(.str "a", .int 1), (.str "more", .int 0)], _, .dic (as := []) (bs := []) h (.cons (.str _) (.cons (.str _) .nil)) (.cons (.int _) (.cons (.int _) .nil)), smallB_ok (by decide +kernel)⟩
  | tup h => exact ⟨.tuple [.int 1], _, .tup h (.cons (.int _) .nil), smallB_ok (by decide +kernel)⟩
  | non => exact ⟨.none, _, .non, smallB_ok (by decide +kernel)⟩
  | str => exact ⟨.str "x", _, .str _, smallB_ok (by decide +kernel)⟩
  | bl => exact ⟨.bool true, _, .bl _, smallB_ok (by decide +kernel)⟩
  | int => exact ⟨.int (-3), _, .int _, smallB_ok (by decide +kernel)⟩
/-- many: a number below 60, or the thing itself -/
def Ma (x y : V) : Prop := y = x ∨ ∃ z : Int, y = .int z ∧ 0 ≤ z ∧ z < 60
theorem Ma.reads {H : Hp} {x y : V} {k : Nat} (m : Ma x y) (t : Th H x k) (hk : k ≤ 2) : ∃ d as, RdV H y d as ∧ Small d 40 5 := by
  rcases m with rfl | ⟨z, rfl, h0, h1⟩
  · exact t.reads hk
  · exact ⟨_, _, .int z, small_int h0 h1⟩
end K91
namespace K91
open PySem PySem.Spec PyProof.Rows L2 Lw
/-! ### what stands while the errors are looked at -/
def Scr (K : PySem.W.Frag) (H : Hp) (a : Addr) (xs : List V) : Prop := (∃ o, H a = some (.frz o (.lst xs))) ∨
  ∃ (o : Obj) (its : Array Value) (n : Nat), K.lookup a = some o ∧ o.cls = .type "list" ∧ o.dict = none ∧ o.data = .seq its n ∧ its.size ≤ sizeLine ∧ Vals xs its.toList
theorem Scr.sq {K : PySem.W.Frag} {H : Hp} {a : Addr} {xs : List V} (h : Scr K H a xs) : SqL K H a xs := by
  rcases h with ⟨o, h⟩ | h
  · exact .inl (.inr ⟨o, h⟩)
  · exact .inr h
theorem Scr.same {K : PySem.W.Frag} {H H' : Hp} {a : Addr} {xs : List V} (s : Same H H') (h : Scr K H a xs) : Scr K H' a xs := by
  rcases h with ⟨o, h⟩ | h
  · exact .inl ⟨o, s _ _ h⟩
  · exact .inr h
theorem Scr.upd {K : PySem.W.Frag} {H : Hp} {a q : Addr} {xs : List V} {o0 o : HO} (hq : H q = some o0) (n : ∀ ob u, o0 ≠ .frz ob u) (h : Scr K H a xs) : Scr K (upd H q o) a xs := by
  rcases h with ⟨ob, h⟩ | h
  · refine .inl ⟨ob, ?_⟩
    rw [upd_ne]
    · exact h
    · intro e
      rw [e, hq] at h
      exact n _ _ (Option.some.inj h)
  · exact .inr h
theorem ErrAt.upd {H : Hp} {e C q : Addr} {f : Str} {v : V} {o0 o : HO} (hq : H q = some o0) (n : ∀ φ, o0 ≠ .ext φ) (h : ErrAt H e C f v) : ErrAt (upd H q o) e C f v := by
  obtain ⟨d, h1, h2⟩ := h
  refine ⟨d, ?_, ?_⟩
  · rw [upd_ne]
    · exact h1
    · intro z
      rw [z, hq] at h1
      exact n _ (Option.some.inj h1)
  · rw [upd_ne]
    · exact h2
    · intro z
      rw [z, hq] at h2
      exact n _ (Option.some.inj h2)
theorem ErrL.upd {K : PySem.W.Frag} {H : Hp} {x y : V} {q : Addr} {o0 o : HO} (hq : H q = some o0) (n : ∀ φ, o0 ≠ .ext φ) : ∀ {r : List (Str × Str)} {es : List Addr} {m : Nat}, ErrL K H x y r es m → ErrL K (upd H q o) x y r es m
  | [], [], _, _ => trivial
  | p :: r, e :: es, m, h => ⟨ErrAt.upd hq n h.1, ErrL.upd hq n h.2⟩
  | [], _ :: _, _, h => h.elim
  | _ :: _, [], _, h => h.elim
structure LS (K : PySem.W.Frag) (H : Hp) (a : Addr) (ns : List Int) (x y : V) (k : Nat) (r0 pA pB : Addr) (eA eB : List Addr) : Prop where
  scr : Scr K H a (ns.map V.int)
  th : Th H x k
  ma : Ma x y
  h0 : H r0 = some (.lst [.ref pA, .ref pB])
  hA : H pA = some (.lst (eA.map V.ref))
  hB : H pB = some (.lst (eB.map V.ref))
  lA : ErrL K H x y errs eA 0
  lB : ErrL K H x y errs eB 0
  n0 : x ≠ .ref r0
  nA : x ≠ .ref pA
  nB : x ≠ .ref pB
theorem LS.same {K : PySem.W.Frag} {H H' : Hp} {a : Addr} {ns : List Int} {x y : V} {k : Nat} {r0 pA pB : Addr} {eA eB : List Addr} (s : Same H H') (L : LS K H a ns x y k r0 pA pB eA eB) : LS K H' a ns x y k r0 pA pB eA eB :=
  ⟨L.scr.same s, L.th.same s, L.ma, s _ _ L.h0, s _ _ L.hA, s _ _ L.hB, L.lA.same s, L.lB.same s, L.n0, L.nA, L.nB⟩
theorem LS.put {K : PySem.W.Frag} {H : Hp} {a q : Addr} {ns : List Int} {y : V} {k : Nat} {r0 pA pB : Addr} {eA eB : List Addr} {o0 o : HO} (L : LS K H a ns (.ref q) y k r0 pA pB eA eB) (hq : H q = some o0) (n1 : ∀ ob u, o0 ≠ .frz ob u) (n2 : ∀ φ, o0 ≠ .ext φ)
    (t : Th (L2.upd H q o) (.ref q) (k + 1)) : LS K (L2.upd H q o) a ns (.ref q) y (k + 1) r0 pA pB eA eB :=
  ⟨L.scr.upd hq n1, t, L.ma, by rw [upd_ne fun z => L.n0 (by rw [z])]; exact L.h0, by rw [upd_ne fun z => L.nA (by rw [z])]; exact L.hA, by rw [upd_ne fun z => L.nB (by rw [z])]; exact L.hB, L.lA.upd hq n2, L.lB.upd hq n2, L.n0, L.nA, L.nB⟩
theorem LS.on {K : PySem.W.Frag} {H : Hp} {a : Addr} {ns : List Int} {x y : V} {k : Nat} {r0 pA pB : Addr} {eA eB : List Addr} (L : LS K H a ns x y k r0 pA pB eA eB) (t : Th H x (k + 1)) : LS K H a ns x y (k + 1) r0 pA pB eA eB :=
  ⟨L.scr, t, L.ma, L.h0, L.hA, L.hB, L.lA, L.lB, L.n0, L.nA, L.nB⟩
theorem dpa_bl {K : PySem.W.Frag} {H : Hp} (g : Nat → Bool) : ∀ l : List Nat, DpAll K H (l.map fun j => V.bl (g j)) (l.map fun j => PyData.bool (g j))
  | [] => .nil
  | _ :: r => .cons (.bl _) (dpa_bl g r)
theorem lay_bl (g : Nat → Bool) : ∀ l : List Nat, PyData.canLayAll0 (l.map fun j => PyData.bool (g j)) = true ∧ PyData.depthAll (l.map fun j => PyData.bool (g j)) = 0
  | [] => ⟨rfl, rfl⟩
  | j :: r => by
    obtain ⟨h1, h2⟩ := lay_bl g r
    exact ⟨by simp [PyData.canLayAll0, PyData.canLay0, h1], by simp [PyData.depthAll, PyData.depth, h2]⟩
theorem shaped_bl (g : Nat → Bool) (l : List Nat) : SeqAt.shaped (.list (l.map fun j => PyData.bool (g j))) = true := by
  obtain ⟨h1, h2⟩ := lay_bl g l
  unfold SeqAt.shaped
  rw [Bool.and_eq_true]
  exact ⟨by simpa [PyData.canLay0] using h1, by simp [PyData.depth, h2]⟩
theorem dec_at (j i : Nat) : decide (V.int (0 + (j : Int)) = V.int (i : Int)) = decide (j = i) := by
  by_cases h : j = i
  · subst h
    rw [decide_eq_true rfl, decide_eq_true (by rw [Int.zero_add])]
  · rw [decide_eq_false h, decide_eq_false]
    intro e
    have := V.int.inj e
    omega
theorem del_upd {H : Hp} {p : Addr} {o : HO} : del (upd H p o) p = del H p := by
  funext b
  by_cases e : b = p
  · rw [e, del_same, del_same]
  · rw [del_ne e, del_ne e, upd_ne e]
theorem same_del {H : Hp} {p : Addr} : Same (del H p) H := fun b o e => by
  by_cases z : b = p
  · rw [z, del_same] at e
    cases e
  · rw [del_ne z] at e
    exact e
theorem del_mono {H H' : Hp} {p : Addr} (s : Same H H') : Same (del H p) (del H' p) := fun b o e => by
  by_cases z : b = p
  · rw [z, del_same] at e
    cases e
  · rw [del_ne z] at e ⊢
    exact s _ _ e
def spLaw (K : PySem.W.Frag) : Sp := fun vs H Q _ => ∃ (a : Addr) (ns : List Int), vs = [.ref a] ∧ Scr K H a (ns.map V.int) ∧ ns.length ≤ 63 ∧ (∀ z ∈ ns, Builtin.Int.intBits z ≤ 1048576) ∧ ∀ H', Q (.bl true) H'
section
variable {P : Program} {w : World} {K : PySem.W.Frag} {mg : Str → Option Value} {base : Heap} {f : Addr} {fd : FuncData}
theorem sclaw : FnScope ["script", "start", "source", "thing", "many", "errors", "at", "error", "spot"] ["script"] (defScope slaw) := ⟨rfl, rfl, rfl, by decide +kernel, rfl, by decide +kernel, by decide +kernel⟩
theorem g_law (F : FnP K "law" "law" slaw f fd) (T : Ty P w K mg base) (D_L_source : DefOk P w K mg base CX0 1 "_law_source" ["script", "start"] [] (spSrc K)) (D_L_draw : DefOk P w K mg base CX0 1 "_law_draw" ["stream", "span"] [] spDraw)
    (D_L_pick : DefOk P w K mg base CX0 2 "_law_pick" ["stream", "things"] [] (spPick K)) (D_L_by_place : DefOk P w K mg base CX0 3 "_law_by_place" ["thing", "many"] [] (spRow K)) (D_L_by_name : DefOk P w K mg base CX0 3 "_law_by_name" ["thing", "many"] [] (spRow K))
    (D_L_kinds : DefOk P w K mg base CX0 1 "_law_kinds" ["error"] [] (spKinds K)) (D_L_stored : DefOk P w K mg base CX0 1 "_law_stored" ["errors"] [] (spStored K)) : FnG P w K mg base CX0 4 f fd ["script"] (spLaw K) := by
  refine okG F sclaw (fun vs H Q E h => ?_) (fun cdv A outer s H vs Q E hg hr h => ?_)
  · obtain ⟨_, _, rfl, _⟩ := h
    rfl
  · obtain ⟨a, ns, rfl, hS, hl, hb, k⟩ := h
    have hu := hu_of hr
    refine ⟨_, PSs.nox (pss_cons (ps_for PassesOwn.never rfl (pi_range1 (by rfl) T.z_range (pa_cons (pe_callB (call_max2 rfl) (by rfl) T.z_max (by decide +kernel) (pa_cons pe_int (pa_cons (pe_callB (call_min2 rfl) (by rfl) T.z_min (by decide +kernel) (pa_cons pe_int (pa_cons (pe_callB call_len (by rfl) T.z_len PySem.boot_len (pa_cons (pv 0) pa_nil)) pa_nil))) pa_nil))) pa_nil)) (pg_name (i := 1) sclaw.nd rfl (.inl rfl))
  (pss_cons (ps_set (i := 2) sclaw.nd rfl (.inl rfl) (pe_d D_L_source (hr.mono (by decide)) pass0 (pa_cons (pv 0) (pa_cons (pv 1) pa_nil))))
  (pss_cons (ps_set (i := 3) sclaw.nd rfl (.inl rfl) (pe_d D_L_pick (hr.mono (by decide)) pass0 (pa_cons (pv 2) (pa_cons (pe_lst (pa_cons (pe_lst (pa_cons pe_int pa_nil)) (pa_cons (pe_lst (pa_cons pe_str (pa_cons pe_non pa_nil))) (pa_cons (pe_lst (pa_cons (pe_lst pa_nil) pa_nil)) (pa_cons (pe_disp (pps_cons pe_str pe_int pps_nil) (by rfl) (by rfl) (fun z => by cases z) (by decide)) (pa_cons pe_non (pa_cons pe_str (pa_cons (pe_tup (pa_cons pe_int pa_nil)) (pa_cons pe_bl (pa_cons (pe_op op_sub pe_int pe_int) pa_nil)))))))))) pa_nil))))
  (pss_cons (ps_set (i := 4) sclaw.nd rfl (.inl rfl) (pe_d D_L_pick (hr.mono (by decide)) pass0 (pa_cons (pv 2) (pa_cons (pe_lst (pa_cons (pe_d D_L_draw (hr.mono (by decide)) pass0 (pa_cons (pv 2) (pa_cons pe_int pa_nil))) (pa_cons (pv 3) (pa_cons (pv 3) pa_nil)))) pa_nil))))
  (pss_one (ps_for PassesOwn.never rfl (pi_list (pe_lst (pa_cons (pe_d D_L_by_place (hr.mono (by decide)) pass0 (pa_cons (pv 3) (pa_cons (pv 4) pa_nil))) (pa_cons (pe_d D_L_by_name (hr.mono (by decide)) pass0 (pa_cons (pv 3) (pa_cons (pv 4) pa_nil))) pa_nil)))) (pg_name (i := 5) sclaw.nd rfl (.inl rfl))
  (pss_cons (ps_for PassesOwn.never rfl (pi_enum (by rfl) T.z_enumerate (pa_cons (pv 5) pa_nil)) (pg_tup rfl (pgs_cons (pg_name (i := 6) sclaw.nd rfl (.inr rfl)) (pgs_cons (pg_name (i := 7) sclaw.nd rfl (.inl rfl)) pgs_nil)))
  (pss_cons (ps_if (PW.pt (pw_or (pt_not (pt_val (pe_callB call_isX (by rfl) T.z_isinstance (by decide +kernel) (pa_cons (pv 7) (pa_cons (pe_glob (v := .ref _) (by rfl) T.g_StreamError rfl) pa_nil))))) (pw_or1 (pt_not (pt_val (pe_callB call_isX (by rfl) T.z_isinstance (by decide +kernel) (pa_cons (pv 7) (pa_cons (pe_bltn (v := .ty "ValueError") (by rfl) T.z_ValueError (by decide +kernel) rfl) pa_nil)))))))) (pss_one (ps_ret pe_bl))
  pss_nil)
  (pss_one (ps_if (pt_cmpR (op_neD hr.units) (pe_d D_L_kinds (hr.mono (by decide)) pass0 (pa_cons (pv 7) pa_nil)) (pe_lc (own := [("spot", 8)]) (g := gName 8) (tt := tYes) (by rfl) sclaw.nd (pi_range1 (by rfl) T.z_range (pa_cons pe_int pa_nil)) (blkOk_by (own := [("spot", 8)]) (N := ["script", "start", "source", "thing", "many", "errors", "at", "error", "spot"]) (sc := defScope slaw) (by decide +kernel)) (fun _ _ _ _ _ => pg_name (i := 8) sclaw.nd rfl (Or.inl rfl)) (fun _ _ _ _ _ => pts_nil) (fun _ _ _ _ _ => (pe_cmpR op_eq (pv 8) (pv 6) (nomark _)))) (nomark _)) (pss_one (ps_ret pe_bl))
  pss_nil))))
  (C8.pss_cut (ps_if (pt_val (pe_callB call_isi (by rfl) T.z_isinstance (by decide +kernel) (pa_cons (pv 3) (pa_cons (pe_bltn (v := .ty "list") (by rfl) T.z_list (by decide +kernel) rfl) pa_nil)))) (pss_one (ps_expr (pe_bm PySem.F.plainAttrs_list PySem.F.slot_list_append PySem.F.type_list_append mt_append (pv 3) (pa_cons pe_int pa_nil))))
  pss_nil)
  (C8.pss_cut (ps_if (pt_val (pe_callB call_isi (by rfl) T.z_isinstance (by decide +kernel) (pa_cons (pv 3) (pa_cons (pe_bltn (v := .ty "dict") (by rfl) T.z_dict (by decide +kernel) rfl) pa_nil)))) (pss_one (ps_dput hu (pv 3) pe_str pe_int rfl))
  pss_nil)
  (pss_one (ps_if (pt_cmpR op_ne (pe_callB (call_repr hg hr.units T.sm) (by rfl) T.z_repr (by decide +kernel) (pa_cons (pe_d D_L_stored (hr.mono (by decide)) pass0 (pa_cons (pv 5) pa_nil)) pa_nil)) (pe_callB (call_repr hg hr.units T.sm) (by rfl) T.z_repr (by decide +kernel) (pa_cons (pe_op op_cat (pe_op op_rep (pe_lst (pa_cons (pv 3) pa_nil)) pe_int) (pe_op op_rep (pe_lst (pa_cons (pv 4) pa_nil)) pe_int)) pa_nil)) (nomark _)) (pss_one (ps_ret pe_bl))
  pss_nil)))))))))))
  (pss_one (ps_ret pe_bl))), ?_⟩
    refine ⟨_, rfl, _, _, rfl, .inl ⟨_, hS.sq, rfl⟩, _, _, rfl, _, _, rfl, _, rfl, ?_, ?_, ?_⟩
    · split <;> split <;> omega
    · split <;> split <;> omega
    refine for_range (lo := 0) (fun i σ H' => ∃ c1 c2 c3 c4 c5 c6 c7 c8 : Option V, σ = [some (.ref a), c1, c2, c3, c4, c5, c6, c7, c8] ∧ Scr K H' a (ns.map V.int)) ⟨_, _, _, _, _, _, _, _, rfl, hS⟩ ?_ (fun σ H' _ => k H')
    rintro i σ H1 hi ⟨c1, c2, c3, c4, c5, c6, c7, c8, rfl, S1⟩
    have hi4 : i < 4 := by
      revert hi
      split <;> split <;> omega
    -- the stream, the things to pick from
    refine ⟨_, rfl, _, rfl, a, ns, _, rfl, S1.sq, hl, hb, by omega, by omega, fun p r m hp => ?_⟩
    have S2 := S1.same (same_upd (o := .lst [.int r, .int m]) hp)
    have P2 : upd H1 p (.lst [.int r, .int m]) p = some (.lst [.int r, .int m]) := upd_same
    generalize upd H1 p (.lst [.int r, .int m]) = H2 at S2 P2 ⊢
    refine ⟨_, rfl, szl rfl, fun q1 h1 => ⟨szl rfl, fun q2 h2 => ⟨szl rfl, fun q3 h3 => ⟨szl rfl, fun q4 h4 => fun q5 h5 => ?_⟩⟩⟩⟩
    have t1 := same_upd (o := .lst [.int 5]) h1
    have t2 := same_upd (o := .lst [.str "a", .non]) h2
    have t3 := same_upd (o := .lst []) h3
    have t4 := same_upd (o := .lst [.ref q3]) h4
    refine ⟨upd_same, [(Sum.inr "a", .int 1)], rfl, by decide, szl rfl, fun q6 h6 => ⟨_, _, rfl, rfl, szl rfl, fun q7 h7 => ?_⟩⟩
    have t5 : Same (upd (upd (upd (upd H2 q1 (.lst [.int 5])) q2 (.lst [.str "a", .non])) q3 (.lst [])) q4 (.lst [.ref q3])) (upd (upd (upd (upd (upd (upd H2 q1 (.lst [.int 5])) q2 (.lst [.str "a", .non])) q3 (.lst [])) q4 (.lst [.ref q3])) q5 (.dK [])) q5 (.dK (mergeK [] [(Sum.inr "a", .int 1)]))) := by
      rw [upd_upd]
      exact same_upd h5
    have t6 := same_upd (o := .tup [.int 1]) h6
    have t7 := same_upd (o := .lst [.ref q1, .ref q2, .ref q4, .ref q5, .non, .str "x", .ref q6, .bl true, .int (0 - 3)]) h7
    have u6 := same_trans t6 t7
    have u5 := same_trans t5 u6
    have u4 := same_trans t4 u5
    have u3 := same_trans t3 u4
    have u2 := same_trans t2 u3
    have u1 := same_trans t1 u2
    have f1 := u2 _ _ (upd_same (H := H2) (a := q1) (o := .lst [.int 5]))
    have f2 := u3 _ _ (upd_same (a := q2) (o := .lst [.str "a", .non]))
    have f3 := u4 _ _ (upd_same (a := q3) (o := .lst []))
    have f4 := u5 _ _ (upd_same (a := q4) (o := .lst [.ref q3]))
    have f5 := u6 _ _ (upd_same (a := q5) (o := .dK (mergeK [] [(Sum.inr "a", .int 1)])))
    have f6 := t7 _ _ (upd_same (a := q6) (o := .tup [.int 1]))
    have f7 := upd_same (a := q7) (o := .lst [.ref q1, .ref q2, .ref q4, .ref q5, .non, .str "x", .ref q6, .bl true, .int (0 - 3)]) (H := upd (upd (upd (upd (upd (upd (upd H2 q1 (.lst [.int 5])) q2 (.lst [.str "a", .non])) q3 (.lst [])) q4 (.lst [.ref q3])) q5 (.dK [])) q5 (.dK (mergeK [] [(Sum.inr "a", .int 1)]))) q6 (.tup [.int 1]))
    have S3 := S2.same u1
    have P3 := u1 _ _ P2
    have d1 : q1 ≠ p := fun z => by rw [z, P2] at h1; cases h1
    have d2 : q2 ≠ p := fun z => by rw [z, t1 _ _ P2] at h2; cases h2
    have d3 : q3 ≠ p := fun z => by rw [z, t2 _ _ (t1 _ _ P2)] at h3; cases h3
    have d4 : q4 ≠ p := fun z => by rw [z, t3 _ _ (t2 _ _ (t1 _ _ P2))] at h4; cases h4
    have d5 : q5 ≠ p := fun z => by rw [z, t4 _ _ (t3 _ _ (t2 _ _ (t1 _ _ P2)))] at h5; cases h5
    have d6 : q6 ≠ p := fun z => by rw [z, t5 _ _ (t4 _ _ (t3 _ _ (t2 _ _ (t1 _ _ P2))))] at h6; cases h6
    have d7 : q7 ≠ p := fun z => by rw [z, t6 _ _ (t5 _ _ (t4 _ _ (t3 _ _ (t2 _ _ (t1 _ _ P2)))))] at h7; cases h7
    generalize upd (upd (upd (upd (upd (upd (upd (upd H2 q1 (.lst [.int 5])) q2 (.lst [.str "a", .non])) q3 (.lst [])) q4 (.lst [.ref q3])) q5 (.dK [])) q5 (.dK (mergeK [] [(Sum.inr "a", .int 1)]))) q6 (.tup [.int 1])) q7 (.lst [.ref q1, .ref q2, .ref q4, .ref q5, .non, .str "x", .ref q6, .bl true, .int (0 - 3)]) = H3 at f1 f2 f3 f4 f5 f6 f7 S3 P3 ⊢
    refine ⟨p, q7, _, _, _, rfl, SqL.of f7, d7, by show 0 < 9; decide, by show 9 < 1073741824; decide, P3, fun r' m' j x hx => ?_⟩
    have TH : Th (del (upd H3 p (.lst [.int r', .int m'])) p) x 0 := by
      rw [del_upd]
      match j, hx with
      | 0, e => cases e; exact .lst (by rw [del_ne d1]; exact f1) (.cons (.int _) .nil) (by simp) (by decide) (grow0 (by decide +kernel) (by decide +kernel) (by decide +kernel))
      | 1, e => cases e; exact .lst (by rw [del_ne d2]; exact f2) (.cons (.str _) (.cons .non .nil)) (by simp) (by decide) (grow0 (by decide +kernel) (by decide +kernel) (by decide +kernel))
      | 2, e =>
        cases e
        exact .lst (by rw [del_ne d4]; exact f4) (.cons (.lst (by rw [del_ne d3]; exact f3) .nil) .nil) (by
          have n : q4 ≠ q3 := fun z => by rw [z, f3] at f4; cases f4
          simpa using n) (by show 1 ≤ 10; decide) (grow0 (by decide +kernel) (by decide +kernel) (by decide +kernel))
      | 3, e => cases e; exact .dic false (by rw [del_ne d5]; exact f5)
      | 4, e => cases e; exact .non
      | 5, e => cases e; exact .str
      | 6, e => cases e; exact .tup (by rw [del_ne d6]; exact f6)
      | 7, e => cases e; exact .bl
      | 8, e => cases e; exact .int
      | n + 9, e => simp at e
    have S4 : Scr K (upd H3 p (.lst [.int r', .int m'])) a (ns.map V.int) := S3.upd P3 (fun _ _ z => by cases z)
    have P4 : upd H3 p (.lst [.int r', .int m']) p = some (.lst [.int r', .int m']) := upd_same
    generalize upd H3 p (.lst [.int r', .int m']) = H4 at TH S4 P4 ⊢
    clear f1 f2 f3 f4 f5 f6 f7 S3 P3 u1 u2 u3 u4 u5 u6 t1 t2 t3 t4 t5 t6 t7
    -- many
    refine ⟨_, rfl, _, rfl, p, _, _, _, rfl, by decide, by decide, P4, fun r2 m2 d d0 dl => ⟨_, rfl, _, rfl, szl rfl, fun q8 h8 => ?_⟩⟩
    have S5 : Scr K (upd H4 p (.lst [.int r2, .int m2])) a (ns.map V.int) := S4.upd P4 (fun _ _ z => by cases z)
    have TH5 : Th (del (upd H4 p (.lst [.int r2, .int m2])) p) x 0 := by rw [del_upd]; exact TH
    have P5 : upd H4 p (.lst [.int r2, .int m2]) p = some (.lst [.int r2, .int m2]) := upd_same
    generalize upd H4 p (.lst [.int r2, .int m2]) = H5 at h8 TH5 S5 P5 ⊢
    have v8 := same_upd (o := .lst [.int d, x, x]) h8
    refine ⟨p, q8, _, _, _, rfl, SqL.of upd_same, (fun z => by rw [z, P5] at h8; cases h8), by show 0 < 3; decide, by show 3 < 1073741824; decide, v8 _ _ P5, fun r3 m3 j y hy => ?_⟩
    have S6 : Scr K (upd (upd H5 q8 (.lst [.int d, x, x])) p (.lst [.int r3, .int m3])) a (ns.map V.int) := (S5.same v8).upd (v8 _ _ P5) (fun _ _ z => by cases z)
    have TH6 : Th (upd (upd H5 q8 (.lst [.int d, x, x])) p (.lst [.int r3, .int m3])) x 0 := by
      refine Th.same (H := del (upd (upd H5 q8 (.lst [.int d, x, x])) p (.lst [.int r3, .int m3])) p) same_del ?_
      rw [del_upd]
      exact TH5.same (del_mono v8)
    have MA : Ma x y := by
      match j, hy with
      | 0, e => cases e; exact .inr ⟨d, rfl, d0, dl⟩
      | 1, e => cases e; exact .inl rfl
      | 2, e => cases e; exact .inl rfl
      | n + 3, e => simp at e
    generalize upd (upd H5 q8 (.lst [.int d, x, x])) p (.lst [.int r3, .int m3]) = H6 at S6 TH6 ⊢
    clear S5 TH5 P5 v8 h8 TH S4 P4
    -- the errors
    refine ⟨_, rfl, _, rfl, x, y, rfl, fun pA eA HA sA nA lA hA => ⟨_, rfl, _, rfl, x, y, rfl, fun pB eB HB sB nB lB hB => ⟨szl rfl, fun r0 h0 => ?_⟩⟩⟩
    have v0 := same_upd (o := .lst [.ref pA, .ref pB]) h0
    have L0 : LS K (upd HB r0 (.lst [.ref pA, .ref pB])) a ns x y 0 r0 pA pB eA eB :=
      ⟨((S6.same sA).same sB).same v0, ((TH6.same sA).same sB).same v0, MA, upd_same, v0 _ _ (sB _ _ hA), v0 _ _ hB, (lA.same sB).same v0, lB.same v0, ((TH6.same sA).same sB).ne h0, TH6.ne nA, (TH6.same sA).ne nB⟩
    generalize upd HB r0 (.lst [.ref pA, .ref pB]) = H7 at L0 ⊢
    refine ⟨r0, rfl, ⟨_, SqL.of L0.h0⟩, for_list (K := K) (a := r0) (xs := [.ref pA, .ref pB]) (fun j σ H' => ∃ c5 c6 c7 c8 : Option V, σ = [some (.ref a), some (.int (0 + (i : Int))), some (.ref p), some x, some y, c5, c6, c7, c8] ∧ LS K H' a ns x y j r0 pA pB eA eB)
      ⟨_, _, _, _, rfl, L0⟩ (fun j σ H' _ ⟨_, _, _, _, _, L⟩ => SqL.of L.h0) ?_ (fun σ H' ⟨_, _, _, _, e, L⟩ => ⟨_, _, _, _, _, _, _, _, e, L.scr⟩)⟩
    rintro j z σ H8 hz ⟨c5, c6, c7, c8, rfl, L⟩
    have hj : j < 2 := (List.getElem?_eq_some_iff.mp hz).1
    obtain ⟨pz, ez, rfl, hpz, hlz⟩ : ∃ pz ez, z = V.ref pz ∧ (∀ H', LS K H' a ns x y j r0 pA pB eA eB → H' pz = some (.lst (ez.map V.ref)) ∧ ErrL K H' x y errs ez 0) ∧ (∀ H', LS K H' a ns x y (j + 1) r0 pA pB eA eB → H' pz = some (.lst (ez.map V.ref)) ∧ ErrL K H' x y errs ez 0) := by
      match j, hz with
      | 0, e => cases e; exact ⟨pA, eA, rfl, fun _ L => ⟨L.hA, L.lA⟩, fun _ L => ⟨L.hA, L.lA⟩⟩
      | 1, e => cases e; exact ⟨pB, eB, rfl, fun _ L => ⟨L.hB, L.lB⟩, fun _ L => ⟨L.hB, L.lB⟩⟩
    -- each error
    refine ⟨_, rfl, pz, _, rfl, SqL.of (hpz _ L).1, for_enum (K := K) (a := pz) (xs := ez.map V.ref) (fun n σ H' => ∃ c6 c7 c8 : Option V, σ = [some (.ref a), some (.int (0 + (i : Int))), some (.ref p), some x, some y, some (.ref pz), c6, c7, c8] ∧ Same H8 H')
      ⟨_, _, _, rfl, Same.refl _⟩ (fun n σ H' _ ⟨_, _, _, _, s8⟩ => SqL.of (s8 _ _ (hpz _ L).1)) ?_ ?_⟩
    · rintro n v T8 σ H9 hv ⟨c6', c7', c8', rfl, s9⟩ hT
      rw [List.getElem?_map] at hv
      obtain ⟨e, he, rfl⟩ := Option.map_eq_some_iff.mp hv
      have sT := same_upd (o := .tup [.int (n : Nat), .ref e]) hT
      obtain ⟨pr, hpr, hE⟩ := ErrL.get (((hpz _ L).2.same s9).same sT) he
      have XCe := T.xc n pr hpr
      refine ⟨T8, _, rfl, SqT.of upd_same, rfl, _, _, rfl, _, _, rfl, rfl, ?_⟩
      refine ⟨_, rfl, e, _, _, _, _, _, _, rfl, hE, XCe, .own _, T.kitS n pr hpr, _, rfl, _, rfl, e, _, _, _, _, _, _, rfl, hE, XCe, .ty _, T.kitV n pr hpr, _, rfl, ?_⟩
      refine ⟨_, rfl, e, n, pr, _, rfl, hpr, hE, fun g1 G1 gs gn gh => ⟨9, rfl, by decide, by decide, fun D hD => ?_⟩⟩
      refine lc_range (lo := 0) (n := 9) (fun m H' => H' = upd G1 D (.lst ((List.range m).map fun q => V.bl (decide (q = n))))) rfl ?_ ?_
      · rintro m H' hm rfl
        refine ⟨rfl, _, rfl, _, rfl, rfl, _, upd_same, szlt (by rw [List.length_map, List.length_range]; omega), ?_⟩
        rw [upd_upd, List.range_succ, List.map_append, List.map_singleton, dec_at]
      · rintro H' rfl
        have gD := same_upd (o := .lst ((List.range 9).map fun q => V.bl (decide (q = n)))) hD
        refine ⟨.list ((List.range 9).map fun q => PyData.bool (decide (q = n))), .list ((List.range 9).map fun q => PyData.bool (decide (q = n))), .lst (SqL.of (gD _ _ gh)) (dpa_bl _ _), .lst (SqL.of upd_same) (dpa_bl _ _), shaped_bl _ _, shaped_bl _ _, _, rfl, ?_⟩
        rw [SeqAt.eqv_refl _ (SeqAt.canLay_of_shaped (shaped_bl _ _))]
        exact ⟨_, _, _, rfl, same_trans s9 (same_trans sT (same_trans gs gD))⟩
    · rintro σ H9 ⟨c6', c7', c8', rfl, s9⟩
      have L9 := L.same s9
      clear L s9
      have hj2 : j + 1 ≤ 2 := by omega
      -- if isinstance(thing, list): thing.append(0)
      refine ⟨fun σ H' => σ = [some (.ref a), some (.int (0 + (i : Int))), some (.ref p), some x, some y, some (.ref pz), c6', c7', c8'] ∧ LS K H' a ns x y (j + 1) r0 pA pB eA eB, ?_, ?_⟩
      · have th := L9.th
        refine ⟨_, rfl, ?_⟩
        cases th with
        | lst h r nn l g =>
          rename_i q vs ds as
          refine ⟨_, _, _, _, true, rfl, .ty _, .base (.lst h), kit_ty (by decide +kernel), _, rfl, _, rfl, .inl ⟨rfl, _, SqL.of h⟩, q, vs, _, rfl, rfl, h, szlt (by omega), rfl, ?_⟩
          refine L9.put h (fun _ _ z => by cases z) (fun _ z => by cases z) ?_
          refine .lst upd_same (RdVs.append (RdVs.off h (fun _ z => by cases z) r nn) (.cons (.int 0) .nil)) (by simpa using nn) (by rw [List.length_append, List.length_singleton]; omega) g.next
        | dic b h => exact ⟨_, _, _, _, false, rfl, .ty _, .base (.dK h), kit_ty (by decide +kernel), _, rfl, rfl, L9.on (.dic b h)⟩
        | tup h => exact ⟨_, _, _, _, false, rfl, .ty _, .base (.tup h), kit_ty (by decide +kernel), _, rfl, rfl, L9.on (.tup h)⟩
        | non => exact ⟨_, _, _, _, false, rfl, .ty _, .base .non, kit_ty (by decide +kernel), _, rfl, rfl, L9.on .non⟩
        | str => exact ⟨_, _, _, _, false, rfl, .ty _, .base (.str _), kit_ty (by decide +kernel), _, rfl, rfl, L9.on .str⟩
        | bl => exact ⟨_, _, _, _, false, rfl, .ty _, .base (.bl _), kit_ty (by decide +kernel), _, rfl, rfl, L9.on .bl⟩
        | int => exact ⟨_, _, _, _, false, rfl, .ty _, .base (.int _), kit_ty (by decide +kernel), _, rfl, rfl, L9.on .int⟩
      rintro σ HX ⟨rfl, LX⟩
      -- if isinstance(thing, dict): thing['more'] = 0
      refine ⟨fun σ H' => σ = [some (.ref a), some (.int (0 + (i : Int))), some (.ref p), some x, some y, some (.ref pz), c6', c7', c8'] ∧ LS K H' a ns x y (j + 1) r0 pA pB eA eB, ?_, ?_⟩
      · have th := LX.th
        refine ⟨_, rfl, ?_⟩
        cases th with
        | lst h r nn l g => exact ⟨_, _, _, _, false, rfl, .ty _, .base (.lst h), kit_ty (by decide +kernel), _, rfl, rfl, LX⟩
        | dic b h =>
          rename_i q
          refine ⟨_, _, _, _, true, rfl, .ty _, .base (.dK h), kit_ty (by decide +kernel), _, rfl, _, rfl, q, _, rfl, DPut.k (k := Sum.inr "more") h (by cases b <;> decide), rfl, ?_⟩
          have ed : putK (dk b) (Sum.inr "more") (V.int 0) = dk true := by cases b <;> decide +kernel
          rw [ed]
          refine ⟨LX.scr.upd h (fun _ _ z => by cases z), .dic true upd_same, LX.ma, by rw [upd_ne fun z => LX.n0 (by rw [z])]; exact LX.h0, by rw [upd_ne fun z => LX.nA (by rw [z])]; exact LX.hA, by rw [upd_ne fun z => LX.nB (by rw [z])]; exact LX.hB, LX.lA.upd h (fun _ z => by cases z), LX.lB.upd h (fun _ z => by cases z), LX.n0, LX.nA, LX.nB⟩
        | tup h => exact ⟨_, _, _, _, false, rfl, .ty _, .base (.tup h), kit_ty (by decide +kernel), _, rfl, rfl, LX⟩
        | non => exact ⟨_, _, _, _, false, rfl, .ty _, .base .non, kit_ty (by decide +kernel), _, rfl, rfl, LX⟩
        | str => exact ⟨_, _, _, _, false, rfl, .ty _, .base (.str _), kit_ty (by decide +kernel), _, rfl, rfl, LX⟩
        | bl => exact ⟨_, _, _, _, false, rfl, .ty _, .base (.bl _), kit_ty (by decide +kernel), _, rfl, rfl, LX⟩
        | int => exact ⟨_, _, _, _, false, rfl, .ty _, .base (.int _), kit_ty (by decide +kernel), _, rfl, rfl, LX⟩
      rintro σ HY ⟨rfl, LY⟩
      clear LX L9
      -- the texts
      obtain ⟨hz1, hz2⟩ : HY pz = some (.lst (ez.map V.ref)) ∧ ErrL K HY x y errs ez 0 := hlz HY LY
      obtain ⟨dx, ax, rx, sx⟩ := LY.th.reads hj2
      obtain ⟨dy, ay, ry, sy⟩ := LY.ma.reads LY.th hj2
      refine ⟨_, rfl, pz, ez, x, y, rfl, hz1, hz2, fun g1 G1 gs gn gh => ?_⟩
      have rx1 := rx.same gs
      have ry1 := ry.same gs
      refine ⟨g1, _, _, rfl, .lst gh (.cons rx1 (.cons rx1 (.cons rx1 (.cons rx1 (.cons rx1 (.cons ry1 (.cons ry1 (.cons ry1 (.cons ry1 .nil))))))))), small9 sx sy, ?_⟩
      refine ⟨_, rfl, szl rfl, fun g2 n2 => ⟨_, _, _, rfl, rfl, upd_same, by decide, by decide, szl rfl, fun g3 n3 => ⟨_, rfl, szl rfl, fun g4 n4 => ⟨_, _, _, rfl, rfl, upd_same, by decide, by decide, szl rfl, fun g5 n5 => ?_⟩⟩⟩⟩
      have e2 := same_upd (o := .lst [x]) n2
      have e3 := same_upd (o := .lst (List.replicate (Int.toNat 5) [x]).flatten) n3
      have e4 := same_upd (o := .lst [y]) n4
      have e5 := same_upd (o := .lst (List.replicate (Int.toNat 4) [y]).flatten) n5
      have e25 := same_trans e2 (same_trans e3 (same_trans e4 e5))
      refine ⟨_, _, _, _, rfl, rfl, (same_trans e4 e5) _ _ upd_same, upd_same, szl rfl, fun g6 n6 => ?_⟩
      have e26 := same_trans e25 (same_upd (o := .lst ((List.replicate (Int.toNat 5) [x]).flatten ++ (List.replicate (Int.toNat 4) [y]).flatten)) n6)
      have rx2 := rx1.same e26
      have ry2 := ry1.same e26
      refine ⟨g6, _, _, rfl, .lst upd_same (.cons rx2 (.cons rx2 (.cons rx2 (.cons rx2 (.cons rx2 (.cons ry2 (.cons ry2 (.cons ry2 (.cons ry2 .nil))))))))), small9 sx sy, rfl, _, rfl, ?_⟩
      rw [decide_eq_true rfl]
      exact ⟨_, _, _, _, rfl, (LY.same gs).same e26⟩
end
end K91
namespace K91
open PySem PySem.Spec PyProof.Rows L2 Lw
/-! ### the head: the facts that the top leaves -/
def d_L_source : He.DefD := ⟨("_law_source", none), "_law_source", "_law_source", defArgs sL_source, defBody sL_source, defScope sL_source, [], []⟩
def d_L_draw : He.DefD := ⟨("_law_draw", none), "_law_draw", "_law_draw", defArgs sL_draw, defBody sL_draw, defScope sL_draw, [], []⟩
def d_L_pick : He.DefD := ⟨("_law_pick", none), "_law_pick", "_law_pick", defArgs sL_pick, defBody sL_pick, defScope sL_pick, [], []⟩
def d_L_kinds : He.DefD := ⟨("_law_kinds", none), "_law_kinds", "_law_kinds", defArgs sL_kinds, defBody sL_kinds, defScope sL_kinds, [], []⟩
def d_L_by_place : He.DefD := ⟨("_law_by_place", none), "_law_by_place", "_law_by_place", defArgs sL_by_place, defBody sL_by_place, defScope sL_by_place, [], []⟩
def d_L_by_name : He.DefD := ⟨("_law_by_name", none), "_law_by_name", "_law_by_name", defArgs sL_by_name, defBody sL_by_name, defScope sL_by_name, [], []⟩
def d_L_stored : He.DefD := ⟨("_law_stored", none), "_law_stored", "_law_stored", defArgs sL_stored, defBody sL_stored, defScope sL_stored, [], []⟩
def d_law : He.DefD := ⟨("law", none), "law", "law", defArgs slaw, defBody slaw, defScope slaw, [], []⟩
def d_BadSource_init : He.DefD := ⟨("BadSource", some "__init__"), "__init__", "BadSource.__init__", defArgs sBadSource_init, defBody sBadSource_init, defScope sBadSource_init, [], []⟩
def d_BadStages_init : He.DefD := ⟨("BadStages", some "__init__"), "__init__", "BadStages.__init__", defArgs sBadStages_init, defBody sBadStages_init, defScope sBadStages_init, [], []⟩
def d_BadPositions_init : He.DefD := ⟨("BadPositions", some "__init__"), "__init__", "BadPositions.__init__", defArgs sBadPositions_init, defBody sBadPositions_init, defScope sBadPositions_init, [], []⟩
def d_BadReply_init : He.DefD := ⟨("BadReply", some "__init__"), "__init__", "BadReply.__init__", defArgs sBadReply_init, defBody sBadReply_init, defScope sBadReply_init, [], []⟩
def d_BadLoop_init : He.DefD := ⟨("BadLoop", some "__init__"), "__init__", "BadLoop.__init__", defArgs sBadLoop_init, defBody sBadLoop_init, defScope sBadLoop_init, [], []⟩
def d_BadStage_init : He.DefD := ⟨("BadStage", some "__init__"), "__init__", "BadStage.__init__", defArgs sBadStage_init, defBody sBadStage_init, defScope sBadStage_init, [], []⟩
def d_BadReplies_init : He.DefD := ⟨("BadReplies", some "__init__"), "__init__", "BadReplies.__init__", defArgs sBadReplies_init, defBody sBadReplies_init, defScope sBadReplies_init, [], []⟩
def d_HasZip_init : He.DefD := ⟨("HasZip", some "__init__"), "__init__", "HasZip.__init__", defArgs sHasZip_init, defBody sHasZip_init, defScope sHasZip_init, [], []⟩
def d_BadText_init : He.DefD := ⟨("BadText", some "__init__"), "__init__", "BadText.__init__", defArgs sBadText_init, defBody sBadText_init, defScope sBadText_init, [], []⟩
def fn : List He.DefD := [d_L_source, d_L_draw, d_L_pick, d_L_kinds, d_L_by_place, d_L_by_name, d_L_stored, d_law, d_BadSource_init, d_BadStages_init, d_BadPositions_init, d_BadReply_init, d_BadLoop_init, d_BadStage_init, d_BadReplies_init, d_HasZip_init, d_BadText_init]
def fa : List He.Fa := [.free "len", .free "int", .free "isinstance", .free "enumerate", .free "range", .free "list", .free "dict", .free "repr", .free "max", .free "min", .free "ValueError", .glo "BadSource", .glo "BadStages", .glo "BadPositions", .glo "BadReply", .glo "BadLoop", .glo "BadStage", .glo "BadReplies", .glo "HasZip", .glo "BadText", .glo "StreamError", .glo "_law_source", .glo "_law_draw", .glo "_law_pick", .glo "_law_kinds", .glo "_law_by_place", .glo "_law_by_name", .glo "_law_stored", .glo "law"]
def excB (K : PySem.W.Frag) (x : Str × Str) : Bool := xcB K (He.ga K x.1) x.2 && (decide (PySem.W.findIn K (.ref (He.ga K x.1)) "__init__" = some (some (.ref (He.ma K (He.ga K x.1) "__init__")))) && decide (PySem.W.typeIn K (.ref (He.ma K (He.ga K x.1) "__init__")) = some (.type "function")))
def kitB9 (K : PySem.W.Frag) (i : Nat) (x : Str × Str) : Bool := errs.zipIdx.all (fun q => decide (PySem.W.kitOne K (.ref (He.ga K x.1)) (.ref (He.ga K q.1.1)) = some (decide (q.2 = i)))) &&
  (decide (PySem.W.kitOne K (.ref (He.ga K x.1)) (.ref (He.ga K "StreamError")) = some true) && decide (PySem.W.kitOne K (.ref (He.ga K x.1)) (.type "ValueError") = some true))
def ex (K : PySem.W.Frag) : Bool := errs.all (excB K) && errs.zipIdx.all fun p => kitB9 K p.2 p.1
abbrev R : PySem.W.OpenRow := PySem.W.OpenLaw.row PySem.Challenge.rw_pulledonce_k91_errors_by_hand
abbrev hk : PySem.W.Hook := hookZ 6 fa fn ex
def ob (s : PySem.W.SharedT) : AlZ := obZ 6 fa fn ex (HandSHeadRun.getT s)
theorem ob_eq (s : PySem.W.SharedT) : ob s = hk.obs s.abs := obZ_eq (HandSHeadRun.getT_eq s)
def loose : List Str := ["StreamError", "BadSource", "BadStages", "BadPositions", "BadReply", "BadLoop", "BadStage", "BadReplies", "HasZip", "BadText", "_law_source", "_law_draw", "_law_pick", "_law_kinds", "_law_by_place", "_law_by_name", "_law_stored"]
theorem run (w : World) : HandSHeadRun.RunEq R (PySem.W.view R.prog [19]) hk ob 3000 loose w := by
  intro os
  kernel_rfl
theorem facts {P : Program} {w : World} {K : PySem.W.Frag} {h : Heap} {mg : Str → Option Value} (X : K.In h) (G : h.Ns mainGlobals mg) (c : SaysZ fa fn ex K) :
    ∃ fd : FuncData, (∀ (s : Shared) (v : Value), BindsTo s fd ⟨[v], []⟩ [("script", v)]) ∧ ∀ base : Heap, FnG P w K mg base CX0 4 (He.ga K "law") fd ["script"] (spLaw K) := by
  obtain ⟨m1, m2⟩ := Bool.and_eq_true_iff.mp c.more
  have exc : ∀ (i : Nat) (x : Str × Str), errs[i]? = some x → xcB K (He.ga K x.1) x.2 = true ∧ PySem.W.findIn K (.ref (He.ga K x.1)) "__init__" = some (some (.ref (He.ma K (He.ga K x.1) "__init__"))) ∧ PySem.W.typeIn K (.ref (He.ma K (He.ga K x.1) "__init__")) = some (.type "function") := by
    intro i x hx
    have q := List.all_eq_true.mp m1 x (List.mem_of_getElem? hx)
    obtain ⟨q1, q⟩ := Bool.and_eq_true_iff.mp q
    obtain ⟨q2, q3⟩ := Bool.and_eq_true_iff.mp q
    exact ⟨q1, of_decide_eq_true q2, of_decide_eq_true q3⟩
  have mem : ∀ (i : Nat) (x : Str × Str), errs[i]? = some x → (x, i) ∈ errs.zipIdx := fun i x hx => List.mem_iff_getElem?.mpr ⟨i, by rw [List.getElem?_zipIdx, hx]; simp⟩
  have kitA : ∀ (i : Nat) (x : Str × Str), errs[i]? = some x → kitB9 K i x = true := fun i x hx => List.all_eq_true.mp m2 (x, i) (mem i x hx)
  have kit : ∀ (i j : Nat) (x y : Str × Str), errs[i]? = some x → errs[j]? = some y → PySem.W.kitOne K (.ref (He.ga K x.1)) (.ref (He.ga K y.1)) = some (decide (j = i)) := fun i j x y hx hy =>
    of_decide_eq_true (List.all_eq_true.mp (Bool.and_eq_true_iff.mp (kitA i x hx)).1 (y, j) (mem j y hy))
  have kitS : ∀ (i : Nat) (x : Str × Str), errs[i]? = some x → PySem.W.kitOne K (.ref (He.ga K x.1)) (.ref (He.ga K "StreamError")) = some true := fun i x hx =>
    of_decide_eq_true (Bool.and_eq_true_iff.mp (Bool.and_eq_true_iff.mp (kitA i x hx)).2).1
  have kitV : ∀ (i : Nat) (x : Str × Str), errs[i]? = some x → PySem.W.kitOne K (.ref (He.ga K x.1)) (.type "ValueError") = some true := fun i x hx =>
    of_decide_eq_true (Bool.and_eq_true_iff.mp (Bool.and_eq_true_iff.mp (kitA i x hx)).2).2
  obtain ⟨fd, Fl⟩ := c.d.def_ 7 (d := d_law) rfl
  refine ⟨fd, fun s v => FunD.bindsA (ps := ["script"]) Fl (fun _ _ _ _ _ _ us hl => match us, hl with | [_], _ => rfl) s [v] rfl, fun base => ?_⟩
  obtain ⟨fd_L_source, F_L_source⟩ := c.d.def_ 0 (d := d_L_source) rfl
  obtain ⟨fd_L_draw, F_L_draw⟩ := c.d.def_ 1 (d := d_L_draw) rfl
  obtain ⟨fd_L_pick, F_L_pick⟩ := c.d.def_ 2 (d := d_L_pick) rfl
  obtain ⟨fd_L_kinds, F_L_kinds⟩ := c.d.def_ 3 (d := d_L_kinds) rfl
  obtain ⟨fd_L_by_place, F_L_by_place⟩ := c.d.def_ 4 (d := d_L_by_place) rfl
  obtain ⟨fd_L_by_name, F_L_by_name⟩ := c.d.def_ 5 (d := d_L_by_name) rfl
  obtain ⟨fd_L_stored, F_L_stored⟩ := c.d.def_ 6 (d := d_L_stored) rfl
  obtain ⟨fd_law, F_law⟩ := c.d.def_ 7 (d := d_law) rfl
  obtain ⟨fd_BadSource_init, F_BadSource_init⟩ := c.d.def_ 8 (d := d_BadSource_init) rfl
  obtain ⟨fd_BadStages_init, F_BadStages_init⟩ := c.d.def_ 9 (d := d_BadStages_init) rfl
  obtain ⟨fd_BadPositions_init, F_BadPositions_init⟩ := c.d.def_ 10 (d := d_BadPositions_init) rfl
  obtain ⟨fd_BadReply_init, F_BadReply_init⟩ := c.d.def_ 11 (d := d_BadReply_init) rfl
  obtain ⟨fd_BadLoop_init, F_BadLoop_init⟩ := c.d.def_ 12 (d := d_BadLoop_init) rfl
  obtain ⟨fd_BadStage_init, F_BadStage_init⟩ := c.d.def_ 13 (d := d_BadStage_init) rfl
  obtain ⟨fd_BadReplies_init, F_BadReplies_init⟩ := c.d.def_ 14 (d := d_BadReplies_init) rfl
  obtain ⟨fd_HasZip_init, F_HasZip_init⟩ := c.d.def_ 15 (d := d_HasZip_init) rfl
  obtain ⟨fd_BadText_init, F_BadText_init⟩ := c.d.def_ 16 (d := d_BadText_init) rfl
  have tx : Tx K mg := ⟨He.free_ok X G (c.d.fact 0 (f := .free "len") rfl), He.free_ok X G (c.d.fact 1 (f := .free "int") rfl), He.free_ok X G (c.d.fact 2 (f := .free "isinstance") rfl), He.free_ok X G (c.d.fact 3 (f := .free "enumerate") rfl), He.free_ok X G (c.d.fact 4 (f := .free "range") rfl), He.free_ok X G (c.d.fact 5 (f := .free "list") rfl), He.free_ok X G (c.d.fact 6 (f := .free "dict") rfl), He.free_ok X G (c.d.fact 7 (f := .free "repr") rfl), He.free_ok X G (c.d.fact 8 (f := .free "max") rfl), He.free_ok X G (c.d.fact 9 (f := .free "min") rfl), He.free_ok X G (c.d.fact 10 (f := .free "ValueError") rfl)⟩
  have x_BadSource : XC K (He.ga K "BadSource") "value" := xcB_ok (exc 0 ("BadSource", "value") rfl).1
  have e_BadSource : ErrOk P w K mg base "BadSource" "value" := by
    obtain ⟨h1, h2, h3⟩ := i_BadSource (P := P) (w := w) (mg := mg) (base := base) F_BadSource_init x_BadSource
    exact ⟨_, fd_BadSource_init, He.glo_ok X G (c.d.fact 11 (f := .glo "BadSource") rfl), x_BadSource, (exc 0 ("BadSource", "value") rfl).2.1, (exc 0 ("BadSource", "value") rfl).2.2, h1, h2, h3⟩
  have x_BadStages : XC K (He.ga K "BadStages") "value" := xcB_ok (exc 1 ("BadStages", "value") rfl).1
  have e_BadStages : ErrOk P w K mg base "BadStages" "value" := by
    obtain ⟨h1, h2, h3⟩ := i_BadStages (P := P) (w := w) (mg := mg) (base := base) F_BadStages_init x_BadStages
    exact ⟨_, fd_BadStages_init, He.glo_ok X G (c.d.fact 12 (f := .glo "BadStages") rfl), x_BadStages, (exc 1 ("BadStages", "value") rfl).2.1, (exc 1 ("BadStages", "value") rfl).2.2, h1, h2, h3⟩
  have x_BadPositions : XC K (He.ga K "BadPositions") "value" := xcB_ok (exc 2 ("BadPositions", "value") rfl).1
  have e_BadPositions : ErrOk P w K mg base "BadPositions" "value" := by
    obtain ⟨h1, h2, h3⟩ := i_BadPositions (P := P) (w := w) (mg := mg) (base := base) F_BadPositions_init x_BadPositions
    exact ⟨_, fd_BadPositions_init, He.glo_ok X G (c.d.fact 13 (f := .glo "BadPositions") rfl), x_BadPositions, (exc 2 ("BadPositions", "value") rfl).2.1, (exc 2 ("BadPositions", "value") rfl).2.2, h1, h2, h3⟩
  have x_BadReply : XC K (He.ga K "BadReply") "value" := xcB_ok (exc 3 ("BadReply", "value") rfl).1
  have e_BadReply : ErrOk P w K mg base "BadReply" "value" := by
    obtain ⟨h1, h2, h3⟩ := i_BadReply (P := P) (w := w) (mg := mg) (base := base) F_BadReply_init x_BadReply
    exact ⟨_, fd_BadReply_init, He.glo_ok X G (c.d.fact 14 (f := .glo "BadReply") rfl), x_BadReply, (exc 3 ("BadReply", "value") rfl).2.1, (exc 3 ("BadReply", "value") rfl).2.2, h1, h2, h3⟩
  have x_BadLoop : XC K (He.ga K "BadLoop") "value" := xcB_ok (exc 4 ("BadLoop", "value") rfl).1
  have e_BadLoop : ErrOk P w K mg base "BadLoop" "value" := by
    obtain ⟨h1, h2, h3⟩ := i_BadLoop (P := P) (w := w) (mg := mg) (base := base) F_BadLoop_init x_BadLoop
    exact ⟨_, fd_BadLoop_init, He.glo_ok X G (c.d.fact 15 (f := .glo "BadLoop") rfl), x_BadLoop, (exc 4 ("BadLoop", "value") rfl).2.1, (exc 4 ("BadLoop", "value") rfl).2.2, h1, h2, h3⟩
  have x_BadStage : XC K (He.ga K "BadStage") "position" := xcB_ok (exc 5 ("BadStage", "position") rfl).1
  have e_BadStage : ErrOk P w K mg base "BadStage" "position" := by
    obtain ⟨h1, h2, h3⟩ := i_BadStage (P := P) (w := w) (mg := mg) (base := base) F_BadStage_init x_BadStage
    exact ⟨_, fd_BadStage_init, He.glo_ok X G (c.d.fact 16 (f := .glo "BadStage") rfl), x_BadStage, (exc 5 ("BadStage", "position") rfl).2.1, (exc 5 ("BadStage", "position") rfl).2.2, h1, h2, h3⟩
  have x_BadReplies : XC K (He.ga K "BadReplies") "position" := xcB_ok (exc 6 ("BadReplies", "position") rfl).1
  have e_BadReplies : ErrOk P w K mg base "BadReplies" "position" := by
    obtain ⟨h1, h2, h3⟩ := i_BadReplies (P := P) (w := w) (mg := mg) (base := base) F_BadReplies_init x_BadReplies
    exact ⟨_, fd_BadReplies_init, He.glo_ok X G (c.d.fact 17 (f := .glo "BadReplies") rfl), x_BadReplies, (exc 6 ("BadReplies", "position") rfl).2.1, (exc 6 ("BadReplies", "position") rfl).2.2, h1, h2, h3⟩
  have x_HasZip : XC K (He.ga K "HasZip") "position" := xcB_ok (exc 7 ("HasZip", "position") rfl).1
  have e_HasZip : ErrOk P w K mg base "HasZip" "position" := by
    obtain ⟨h1, h2, h3⟩ := i_HasZip (P := P) (w := w) (mg := mg) (base := base) F_HasZip_init x_HasZip
    exact ⟨_, fd_HasZip_init, He.glo_ok X G (c.d.fact 18 (f := .glo "HasZip") rfl), x_HasZip, (exc 7 ("HasZip", "position") rfl).2.1, (exc 7 ("HasZip", "position") rfl).2.2, h1, h2, h3⟩
  have x_BadText : XC K (He.ga K "BadText") "line" := xcB_ok (exc 8 ("BadText", "line") rfl).1
  have e_BadText : ErrOk P w K mg base "BadText" "line" := by
    obtain ⟨h1, h2, h3⟩ := i_BadText (P := P) (w := w) (mg := mg) (base := base) F_BadText_init x_BadText
    exact ⟨_, fd_BadText_init, He.glo_ok X G (c.d.fact 19 (f := .glo "BadText") rfl), x_BadText, (exc 8 ("BadText", "line") rfl).2.1, (exc 8 ("BadText", "line") rfl).2.2, h1, h2, h3⟩
  have T : Ty P w K mg base := { toTx := tx, e_BadSource := e_BadSource, e_BadStages := e_BadStages, e_BadPositions := e_BadPositions, e_BadReply := e_BadReply, e_BadLoop := e_BadLoop, e_BadStage := e_BadStage, e_BadReplies := e_BadReplies, e_HasZip := e_HasZip, e_BadText := e_BadText, g_BadSource := He.glo_ok X G (c.d.fact 11 (f := .glo "BadSource") rfl), g_BadStages := He.glo_ok X G (c.d.fact 12 (f := .glo "BadStages") rfl), g_BadPositions := He.glo_ok X G (c.d.fact 13 (f := .glo "BadPositions") rfl), g_BadReply := He.glo_ok X G (c.d.fact 14 (f := .glo "BadReply") rfl), g_BadLoop := He.glo_ok X G (c.d.fact 15 (f := .glo "BadLoop") rfl), g_BadStage := He.glo_ok X G (c.d.fact 16 (f := .glo "BadStage") rfl), g_BadReplies := He.glo_ok X G (c.d.fact 17 (f := .glo "BadReplies") rfl), g_HasZip := He.glo_ok X G (c.d.fact 18 (f := .glo "HasZip") rfl), g_BadText := He.glo_ok X G (c.d.fact 19 (f := .glo "BadText") rfl), g_StreamError := He.glo_ok X G (c.d.fact 20 (f := .glo "StreamError") rfl), sm := c.sm, kit := kit, kitS := kitS, kitV := kitV, xc := fun i x hx => xcB_ok (exc i x hx).1 }
  have DL_source := d_source (P := P) (w := w) (base := base) F_L_source (He.glo_ok X G (c.d.fact 21 (f := .glo "_law_source") rfl)) tx
  have DL_draw := d_draw (P := P) (w := w) (base := base) F_L_draw (He.glo_ok X G (c.d.fact 22 (f := .glo "_law_draw") rfl)) tx
  have DL_pick := d_pick (P := P) (w := w) (base := base) F_L_pick (He.glo_ok X G (c.d.fact 23 (f := .glo "_law_pick") rfl)) tx DL_draw
  have DL_by_place := d_place F_L_by_place (He.glo_ok X G (c.d.fact 25 (f := .glo "_law_by_place") rfl)) T
  have DL_by_name := d_name F_L_by_name (He.glo_ok X G (c.d.fact 26 (f := .glo "_law_by_name") rfl)) T
  have DL_kinds := d_kinds F_L_kinds (He.glo_ok X G (c.d.fact 24 (f := .glo "_law_kinds") rfl)) T
  have DL_stored := d_stored F_L_stored (He.glo_ok X G (c.d.fact 27 (f := .glo "_law_stored") rfl)) T
  exact g_law Fl T DL_source DL_draw DL_pick DL_by_place DL_by_name DL_kinds DL_stored
theorem lawglo {K : PySem.W.Frag} {h : Heap} {mg : Str → Option Value} (X : K.In h) (G : h.Ns mainGlobals mg) (c : SaysZ fa fn ex K) : mg "law" = some (.ref (He.ga K "law")) := He.glo_ok X G (c.d.fact 28 (f := .glo "law") rfl)
end K91

open PySem PySem.W PySem.Calls PyProof.Rows
theorem PySem.Challenge.cw_pulledonce_k91_errors_by_hand_holds : PySem.Challenge.rw_pulledonce_k91_errors_by_hand.Holds := by
  w_on; o_law
  refine HandSHeadRun.head_any (r := K91.R) (q := view K91.R.prog [19]) (H := K91.hk) (ob := K91.ob) (M := 3000) (loose := K91.loose) (d := HandSHeadRun.topDef K91.R.prog 19) (kwd := []) K91.ob_eq
    (by kernel_rfl) (fun s => by kernel_rfl) K91.run (by kernel_rfl) (by kernel_rfl) (by kernel_rfl) (by rfl) (by first | assumption | decide +kernel) (by decide +kernel) ⟨rfl, rfl, rfl, rfl, rfl, by decide +kernel⟩ ?hw ?hc
  case hw => w_witness2
  case hc =>
    refine Lw.walkG (l := PySem.Challenge.rw_pulledonce_k91_errors_by_hand) (n := 63) (k := 4) (x := "script") (CX := L2.CX0) rfl (by decide) (by kernel_rfl) ⟨rfl, by decide, by decide⟩ ?F (fun _ _ _ _ z => z)
    intro w mg fa h Y G hmg0
    obtain ⟨K, KX, c⟩ := Y
    have hmg : mg ("law" : PySem.Str) = some (.ref fa) := by
      have e : (HandSHeadRun.topDef K91.R.prog 19).name = ("law" : PySem.Str) := by kernel_rfl
      rw [← e]
      exact hmg0
    have efa : fa = He.ga K "law" := by
      have e := hmg.symm.trans (K91.lawglo KX G c)
      cases e
      rfl
    subst efa
    obtain ⟨fd, hb, hF⟩ := K91.facts (P := (PySem.Challenge.rw_pulledonce_k91_errors_by_hand).prog) (w := w) KX G c
    refine ⟨K, fd, K91.spLaw K, KX, hb, fun H a ns hl hbits hO hS => ⟨a, ns, rfl, ?_, hl, hbits, fun _ => rfl⟩, fun base _ _ => hF base⟩
    rcases hS with (h1 | ⟨o, h1⟩) | h1
    · rcases hO a with z | ⟨ob, xs, z⟩
      · rw [z] at h1
        cases h1
      · rw [z] at h1
        cases h1
    · exact .inl ⟨o, h1⟩
    · exact .inr h1
