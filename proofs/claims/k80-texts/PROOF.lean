import PyProof.Rows.All
import Wide.All
import OpenK.AllK
import Wide.FinOn
import HandS.ForMost
import HandS.Exc
import HandS.ExcInit
import HandS.Defaults
import HandS.IsInst
import HandS.Wide
import HandS.EndBits
import KE.KExcIs
import HandS.ExcField
import HandS.MakeKwOnly
import HandS.HeadHook4
import HandS.Head2
import PyProof.ReprRoads
import HandS.Head0
import HandS.Head1
import HandS.HeadEnd
import HandS.Iter
import HandS.Codes
import PyProof.P3Eq
import HandS.OwnEq
import HandS.TryMany
import HandS.Star
import HandS.Property
import HandS.FStr
import HandS.Walk
import PyProof.InstNe
import PyProof.NeKinds
import HandS.Style
import HandS.Text
import HandS.StrMore
import HandS.TupAny
import HandS.TupMul
import HandS.RaiseMore
import PyProof.StrOps2
import Wide.Txt
import PySem.Challenge.RW_pulledonce_k80_texts_of_programs
set_option Elab.async false
set_option linter.all false
set_option maxRecDepth 100000
set_option maxHeartbeats 8000000
namespace Lw
open PySem PySem.Spec PyProof.Rows L2

/-! ### numbers -/
def CPowW (i j : Int) : Prop := 0 ≤ j ∧ (Builtin.Int.intBits i : Int) * j ≤ 2 ^ 27
theorem op_powW {X : Cx} : OpR X (binaryOp .Pow) (rI CPowW fun i j => .int (i ^ j.toNat)) :=
  opI fun _ _ _ _ _ _ _ hc q => pow_int hc.1 hc.2 q

/-! ### a def by its name -/
structure DefOk (P : Program) (w : World) (K : PySem.W.Frag) (mg : Str → Option Value) (base : Heap) (CX : CXT) (k : Nat) (x : Str) (ps : List Str) (dvs : List V) (sp : Sp) : Prop where
  ex : ∃ (f : Addr) (fd : FuncData) (ds : List Value), FnOk P w K mg base CX k f fd ps sp ∧ mg x = some (.ref f) ∧ PySem.W.keepIn K (.ref f) = true ∧ Binds K fd ps ds ∧ Vals dvs ds
section
variable {X : Cx} {CX : CXT} {k : Nat} {ps : List Str} {dvs : List V} {sp : Sp} {E : XK} {x : Str} {p pos : Pos} {e : Expr} {es : List Expr} {t : TA}
theorem pe_d (D : DefOk X.prog X.w X.K X.mg X.base CX k x ps dvs sp) (hr : Room k X.A) (hx : Passes CX X E) (ha : PA X (e :: es) t) (hg : Gl X x := by rfl)
    (hdb : (x == ("__debug__" : Str)) = false := by decide) (he : starEach (e :: es) X.env = (false, eval e X.env) :: starEach es X.env := by rfl) (hpl : (backTo pos (starEach es X.env)).any (·.1) = false := by rfl) :
    PE X (.Call (.Name x p) (e :: es) [] pos) (tCall sp dvs E t) := by
  obtain ⟨f, fd, ds, F, hm, hk, hb, hd⟩ := D.ex
  exact pe_call F hr hg hm hk hb hd hx ha hdb he hpl
theorem pe_d0 (D : DefOk X.prog X.w X.K X.mg X.base CX k x ps dvs sp) (hr : Room k X.A) (hx : Passes CX X E) (hg : Gl X x := by rfl) (hdb : (x == ("__debug__" : Str)) = false := by decide) :
    PE X (.Call (.Name x p) [] [] pos) (tCall sp dvs E tNil) := by
  obtain ⟨f, fd, ds, F, hm, hk, hb, hd⟩ := D.ex
  exact pe_call0 F hr hg hm hk hb hd hx hdb
end
/-! ### heaps -/
theorem same_upd {H : Hp} {p : Addr} {o : HO} (hp : H p = none) : Same H (upd H p o) := fun b u e => by
  rw [upd_ne (ne_of_none e hp)]; exact e
theorem sq_upd {K : PySem.W.Frag} {H : Hp} {a t : Addr} {o : HO} {xs : List V} (ne : t ≠ a) (h : SqL K H t xs) : SqL K (upd H a o) t xs := by
  rcases h with (h | ⟨u, h⟩) | h
  · exact .inl (.inl (by rw [upd_ne ne]; exact h))
  · exact .inl (.inr ⟨u, by rw [upd_ne ne]; exact h⟩)
  · exact .inr h
theorem sqT_same {K : PySem.W.Frag} {H H' : Hp} {a : Addr} {xs : List V} (e : Same H H') (h : SqT K H a xs) : SqT K H' a xs := by
  rcases h with (h | ⟨o, h⟩) | h
  · exact .inl (.inl (e _ _ h))
  · exact .inl (.inr ⟨o, e _ _ h⟩)
  · exact .inr h
theorem szl {n : Nat} (h : Nat.ble n 1000 = true) : n ≤ sizeLine := Nat.le_trans (Nat.le_of_ble_eq_true h) (by decide)
theorem szlt {n : Nat} (h : n ≤ 1000) : n < sizeLine := Nat.lt_of_le_of_lt h (by decide)
theorem szle {n : Nat} (h : n ≤ 1000) : n ≤ sizeLine := Nat.le_trans h (by decide)
theorem same_trans {H1 H2 H3 : Hp} (a : Same H1 H2) (b : Same H2 H3) : Same H1 H3 := fun c o h => b c o (a c o h)
end Lw
namespace Lw
open PySem PySem.Spec PyProof.Rows L2

/-! ### own exception classes with an __init__, their objects as values -/
structure XC (K : PySem.W.Frag) (C : Addr) (fld : Str) : Prop where
  oex : OexC K C
  xf : XfC K C
  nof : PySem.W.findIn K (.ref C) fld = some none
  ha : PySem.W.findIn K (.ref C) "__class__" = some (some (.builtin "object.__class__"))
  hm : PySem.W.mroIn K C (.type "object") = some true
  hn : PySem.W.specialIn K (.builtin "object.__class__") "__get__" = some (some (.builtin "getset_descriptor.__get__"))
  ht : PySem.W.takesIn K (.builtin "object.__class__") = some true
def oexB (K : PySem.W.Frag) (C : Addr) : Bool := match K.lookup C with
  | some ⟨.type "type", _, .cls cd, sl⟩ => (match cd.mro, sl.toList with
    | .ref C' :: bm, [_, _, _, _, some (.builtin n), _] => decide (C' = C) && (decide (n = "ValueError.__new__") && (!cd.hasDel && (cd.hasDict && PySem.HandSPX.refsVE bm)))
    | _, _ => false)
  | _ => false
theorem oexB_ok {K : PySem.W.Frag} {C : Addr} (q : oexB K C = true) : ∃ nm q N bs bm sn sub ab col dd k0 k1 k2 k3 k5, K.lookup C = some (excClassObj nm q C N bs bm true sn sub ab col dd k0 k1 k2 k3 k5 "ValueError.__new__") ∧ PySem.HandSPX.refsVE bm = true := by
  unfold oexB at q
  split at q
  · rename_i dd cd sl ho
    split at q
    · rename_i C' bm k0 k1 k2 k3 n k5 hm hs
      obtain ⟨q1, q⟩ := Bool.and_eq_true_iff.mp q
      obtain ⟨q2, q⟩ := Bool.and_eq_true_iff.mp q
      obtain ⟨q3, q⟩ := Bool.and_eq_true_iff.mp q
      obtain ⟨q4, q5⟩ := Bool.and_eq_true_iff.mp q
      have e1 := of_decide_eq_true q1
      have e2 := of_decide_eq_true q2
      obtain ⟨nm, bs, mro, ns, qn, hd, sn, sub, ab, col, del⟩ := cd
      dsimp only at hm q3 q4
      subst e1 e2 hm q4
      obtain ⟨l⟩ := sl
      dsimp only at hs
      subst hs
      have e3 : del = false := by cases del <;> first | rfl | cases q3
      subst e3
      exact ⟨_, _, _, _, _, _, _, _, _, _, _, _, _, _, _, ho, q5⟩
    · cases q
  · cases q
def xcB (K : PySem.W.Frag) (C : Addr) (fld : Str) : Bool :=
  oexB K C && (decide (PySem.W.findIn K (.ref C) "__setattr__" = some (some (.builtin "object.__setattr__"))) && (decide (PySem.W.typeIn K (.ref C) = some (.type "type")) && (PySem.W.keepIn K (.ref C) && (xfB K C &&
  (decide (PySem.W.findIn K (.ref C) fld = some none) && (decide (PySem.W.findIn K (.ref C) "__class__" = some (some (.builtin "object.__class__"))) && (decide (PySem.W.mroIn K C (.type "object") = some true) &&
  (decide (PySem.W.specialIn K (.builtin "object.__class__") "__get__" = some (some (.builtin "getset_descriptor.__get__"))) && decide (PySem.W.takesIn K (.builtin "object.__class__") = some true)))))))))
theorem xcB_ok {K : PySem.W.Frag} {C : Addr} {fld : Str} (q : xcB K C fld = true) : XC K C fld := by
  obtain ⟨q1, q⟩ := Bool.and_eq_true_iff.mp q
  obtain ⟨q2, q⟩ := Bool.and_eq_true_iff.mp q
  obtain ⟨q3, q⟩ := Bool.and_eq_true_iff.mp q
  obtain ⟨q4, q⟩ := Bool.and_eq_true_iff.mp q
  obtain ⟨q5, q⟩ := Bool.and_eq_true_iff.mp q
  obtain ⟨q6, q⟩ := Bool.and_eq_true_iff.mp q
  obtain ⟨q7, q⟩ := Bool.and_eq_true_iff.mp q
  obtain ⟨q8, q⟩ := Bool.and_eq_true_iff.mp q
  obtain ⟨q9, q10⟩ := Bool.and_eq_true_iff.mp q
  have xf := xfB_ok q5
  exact ⟨⟨oexB_ok q1, of_decide_eq_true q2, xf.exC, of_decide_eq_true q3, q4⟩, xf, of_decide_eq_true q6, of_decide_eq_true q7, of_decide_eq_true q8, of_decide_eq_true q9, of_decide_eq_true q10⟩
theorem clsIn_of {K : PySem.W.Frag} {C : Addr} (T : OexC K C) : (PySem.W.clsIn K C).isSome = true := by
  obtain ⟨nm, q, N, bs, bm, sn, sub, ab, col, dd, k0, k1, k2, k3, k5, hC, _⟩ := T.cls
  unfold PySem.W.clsIn
  rw [hC]
  rfl
/-- an error that stands: its class, its own dict, the one attribute -/
def ErrAt (H : Hp) (e C : Addr) (f : Str) (v : V) : Prop := ∃ d, H e = some (exo e C (some d)) ∧ H d = some (exd d [(f, v)])
theorem ErrAt.same {H H' : Hp} {e C : Addr} {f : Str} {v : V} (s : Same H H') (h : ErrAt H e C f v) : ErrAt H' e C f v := by
  obtain ⟨d, h1, h2⟩ := h
  exact ⟨d, s _ _ h1, s _ _ h2⟩
section
variable {X : Cx} {pins : List (Addr × Obj)} {σ : L2.St} {H : Hp} {s : Shared}
theorem err_inst {e C d : Addr} {fs : List (Str × V)} (I : Inv X pins σ H s) (h1 : H e = some (exo e C (some d))) (h2 : H d = some (exd d fs)) :
    ∃ t1 od, PySem.W.InstAt s.heap e ({ cls := .ref C, dict := some d, data := .fields #[.ref t1, .none, .none, .none, .bool false, .none] } : Obj) C (some od) ∧ s.heap.get? d = some od := by
  obtain ⟨t1, ho⟩ := exo_at I.hok h1
  obtain ⟨mA, hns, rel⟩ := exd_at I.hok h2
  obtain ⟨od, es, ep, hd, _⟩ := hns
  exact ⟨t1, od, ⟨ho, rfl, rfl, hd⟩, hd⟩
/-- isinstance(error, c) -/
def rIsX (K : PySem.W.Frag) : List V → Hp → VK → Prop := fun xs H Q => ∃ (a D : Addr) (fld : Str) (v c : V) (u : Value) (b : Bool), xs = [.ref a, c] ∧ ErrAt H a D fld v ∧ XC K D fld ∧ ClsV c u ∧ PySem.W.kitOne K (.ref D) u = some b ∧ Q (.bl b) H
theorem call_isX {X : Cx} : CallR X (.builtin "isinstance") (rIsX X.K) := by
  intro pins s σ H xs us Q I r h
  obtain ⟨a, D, fld, v, c, u, b, rfl, ⟨d, h1, h2⟩, C, k, e, q⟩ := h
  obtain ⟨u1, u2, rfl, r1, r2⟩ := vals2 r
  cases (show u1 = Value.ref a from r1)
  have e2 := k.eq r2
  subst e2
  obtain ⟨t1, od, J, _⟩ := err_inst I h1 h2
  refine PySem.W.kia_one (PySem.W.kitx_exc (clsIn_of C.oex) C.xf.ga C.xf.gg C.xf.exC C.ha C.hn C.ht C.hm) I.kIn J e (fun z => nomatch z) fun tk => ?_
  exact ⟨.bl b, H, I.tok tk, rfl, q⟩
/-- error.f -/
def tXv (K : PySem.W.Frag) (f : Str) (te : TE) : TE := fun σ H Q => te σ H fun x H1 => ∃ (a D : Addr) (v : V), x = .ref a ∧ ErrAt H1 a D f v ∧ XC K D f ∧ Q v H1
theorem pe_xv {X : Cx} {e : Expr} {te : TE} {pos : Pos} {n : Str} (he : PE X e te) (hb : attributeBase e n X.env (eval e X.env) = eval e X.env := by rfl) : PE X (.Attribute e n pos) (tXv X.K n te) := by
  refine ⟨fun pins s σ H Q I h => ?_⟩
  refine attr_of hb (thn (he.run pins s σ H _ I h) fun u s1 hh => ?_)
  obtain ⟨x, H1, I1, rx, a, D, v, ex, ⟨d, h1, h2⟩, T, q⟩ := hh
  subst ex
  obtain rfl : u = Value.ref a := rx
  obtain ⟨t1, od0, J, hd⟩ := err_inst I1 h1 h2
  obtain ⟨mA, hns, hr⟩ := exd_at I1.hok h2
  obtain ⟨od, ho, hl⟩ := lookIn_ns hns
  rw [hd] at ho
  cases ho
  have l : List.lookup n [(n, v)] = some v := by simp [List.lookup]
  obtain ⟨u, hu, ru⟩ := RelO.some_of (v := v) (o := mA n) (by rw [← l]; exact hr n)
  exact HandSPX.exc_get I1.kIn J T.xf.ga T.xf.gg T.xf.exC (PySem.W.findObj_own T.xf.hdC T.nof rfl (by rw [hl, hu])) (handed_of ru) ⟨v, H1, I1.tok _, ru, q⟩
end
/-! ### C(e): a new error as a value -/
section
variable {X : Cx} {CX : CXT} {k : Nat} {ps : List Str} {x : Str} {p pos : Pos} {e : Expr} {es : List Expr} {ta : TA} {C fI : Addr} {fd : FuncData} {sp : Sp}
theorem run_mkv {pins : List (Addr × Obj)} {σ : L2.St} {H1 : Hp} {s1 : Shared} {us : List Value} {vs : List V} {Q : VK} (T : OexC X.K C) (iC : PySem.W.findIn X.K (.ref C) "__init__" = some (some (.ref fI))) (tI : PySem.W.typeIn X.K (.ref fI) = some (.type "function"))
    (F1 : FnOk X.prog X.w X.K X.mg X.base CX k fI fd ps sp) (hr : Room (k + 1) X.A) (hb : Binds X.K fd ps []) (hx : Passes CX X (fun _ _ _ => False)) (I1 : Inv X pins σ H1 s1) (r1 : Vals vs us)
    (hz : vs.length ≤ 1000) (q1 : ∀ a, H1 a = none → sp (.ref a :: vs) (upd H1 a (exo a C none)) (fun v H2 => v = .non ∧ Q (.ref a) H2) (fun _ _ _ => False)) :
    wpAny (model X.prog X.w) X.A (call (.ref C) us) (EP X pins σ Q) X.xe s1 := by
  have T' := T
  obtain ⟨nm, q, N, bs, bm, sn, sub, ab, col, dd, k0, k1, k2, k3, k5, hC, hbm⟩ := T'.cls
  obtain ⟨hp, g, dr, tk, os⟩ := s1
  have n0 : H1 (hp.objs.size + 1) = none := I1.hok.fresh (Nat.le_succ hp.objs.size)
  have hq := q1 (hp.objs.size + 1) n0
  have kp : ∀ b o, hp.get? b = some o → ((hp.push (PySem.W.kdv_tup us)).push (PySem.HandSPX.excO C hp.objs.size)).get? b = some o :=
    fun b o z => Heap.get?_push_of_some _ (Heap.get?_push_of_some _ z)
  have gt : ((hp.push (PySem.W.kdv_tup us)).push (PySem.HandSPX.excO C hp.objs.size)).get? (hp.objs.size + 1) = some (PySem.HandSPX.excO C hp.objs.size) := by heap_get
  have I2 : Inv X pins σ (upd H1 (hp.objs.size + 1) (exo (hp.objs.size + 1) C none)) ⟨(hp.push (PySem.W.kdv_tup us)).push (PySem.HandSPX.excO C hp.objs.size), g, dr, tk, os⟩ :=
    I1.laid (t' := tk) kp (Nat.le_succ hp.objs.size) (exo_ok gt)
  have r2 : Vals (V.ref (hp.objs.size + 1) :: vs) (Value.ref (hp.objs.size + 1) :: us) := .cons rfl r1
  have hl : (Value.ref (hp.objs.size + 1) :: us ++ []).length = ps.length := by
    rw [List.append_nil, ← r2.length, F1.len _ _ _ _ hq]
  have hus : us.length ≤ sizeLine := by
    rw [← Paired.length r1, sizeLine_eq]; omega
  have hB := hb _ (Value.ref (hp.objs.size + 1) :: us) I2.kIn hl
  rw [List.append_nil] at hB
  refine wpAny_call (PySem.HandSPX.call_own F.excBase_ValueError (fun Y => PySem.HandSPX.refsVE_contains Y bm hbm) (I1.kIn _ _ hC) (PySem.W.looks_findIn I1.kIn iC) (fun self => PySem.W.bind_fn I1.kIn self tI) hus ?_)
  refine codeAny_mono (F1.run _ X.stack _ _ ⟨Value.ref (hp.objs.size + 1) :: us, []⟩ (Value.ref (hp.objs.size + 1) :: us) _ _ (fun _ _ _ => False) (hr.make C us []) (I2.env0.make C us []) hB r2 hq) fun r s' hq' => ?_
  cases r with
  | error er => exact hx pins σ _ _ er s' I2 hq'
  | ok fl =>
    cases fl with
    | ret u =>
      obtain ⟨v, H2, I3, rv, ev, q2⟩ := I2.after hq'
      subst ev
      exact ⟨rv, .ref (hp.objs.size + 1), H2, I3, rfl, q2⟩
    | next => exact False.elim hq'
    | brk => exact False.elim hq'
    | cont => exact False.elim hq'
end
end Lw
namespace PySem.LwK
open PySem.HandSPX PySem.Calls
section
variable {prog : Program} {w : World} {M : Model} {A : Around} {E : Value → Shared → Prop} {R : Result → Shared → Prop} {h : Heap} {g : Array GenState} {d : Drawn} {t : Nat} {os : OsState}
variable {nm q : Str} {C N : Addr} {bs bm bmB : List Value} {hdct : Bool} {sn : List Str} {sub : List Value} {ab : Bool} {col : Option Bool} {dd : Option Addr} {k0 k1 k2 k3 k5 : Option Value} {B newId initId : String} {kw : List (Str × Value)}
theorem chk_new_kw (F : ExcBaseFacts B newId initId bmB) (hT : ∀ Y : String, bm.contains (.type Y) = bmB.contains (.type Y)) {rest : List Value} {Q : Unit → Shared → Prop}
    (hC : h.get? C = some (excClassObj nm q C N bs bm hdct sn sub ab col dd k0 k1 k2 k3 k5 newId)) (hq : Q () ⟨h, g, d, t, os⟩) :
    wpAny M A (checkBuiltinCall newId ⟨.ref C :: rest, kw⟩) Q E ⟨h, g, d, t, os⟩ := by
  have c1 : (Value.ref C :: bm).contains (.type B) = true := by
    rw [List.contains_cons, hT, F.hasB, Bool.or_true]
  have c2 := F.noStar
  simp only [checkBuiltinCall, F.newKind, F.newSplit, F.newRow]
  repeat (first
    | refine wpAny_loadPart_at hC ?_
    | (refine wpAny_isSubtype_exc hC ?_; rw [c1])
    | refine wpAny_staticBase_exc hC ?_
    | refine wpAny_madeBy_exc hC ?_
    | simp only [bne_self_eq_false, Bool.false_eq_true, if_false]
    | wp_step)
  all_goals exact hq
theorem new_kw (F : ExcBaseFacts B newId initId bmB) (hT : ∀ Y : String, bm.contains (.type Y) = bmB.contains (.type Y)) {rest : List Value}
    (hC : h.get? C = some (excClassObj nm q C N bs bm hdct sn sub ab col dd k0 k1 k2 k3 k5 newId))
    (hq : R (.ok (.ret (.ref (h.objs.size + 1)))) ⟨(h.push { cls := .type "tuple", data := .seq rest.toArray }).push
      { cls := .ref C, data := .fields #[.ref h.objs.size, .none, .none, .none, .bool false, .none] }, g, d, t, os⟩) (hrest : rest.length ≤ sizeLine) :
    codeAny (model prog w) A (.builtin newId ⟨.ref C :: rest, kw⟩) R ⟨h, g, d, t, os⟩ := by
  have hE := F.ends
  have c1 : (Value.ref C :: bm).contains (.type B) = true := by
    rw [List.contains_cons, hT, F.hasB, Bool.or_true]
  have c2 : (Value.ref C :: bm).contains (.type "AttributeError") = false := by
    rw [List.contains_cons, hT, F.noAttr]; rfl
  have c3 : (Value.ref C :: bm).contains (.type "NameError") = false := by
    rw [List.contains_cons, hT, F.noName]; rfl
  refine codeAny_builtinAt F.entry ?_
  unfold Builtin.«BaseException.__new__»
  refine wpAt_bind ?_
  show wpAt _ _ _ (stack >>= _) _ _ _
  refine wpAt_bind (wpAt_stack fun p below => wpAt_of_wpAny ?_)
  wp_walk
  refine wpAt_of_wpAny ?_
  rw [F.owner]
  repeat (first
    | with_reducible refine wpAny_madeHere_exc F.canon hC ?_
    | with_reducible refine wpAny_loadPart_at hC ?_
    | (with_reducible refine wpAny_isSubtype_exc hC ?_; first | rw [c1] | rw [c2] | rw [c3])
    | wp_step)
  show R _ _
  rw [Heap.size_push]
  exact hq
theorem tcall_kw (F : ExcBaseFacts B newId initId bmB) (hT : ∀ Y : String, bm.contains (.type Y) = bmB.contains (.type Y)) {rest : List Value} {fI : Addr} {Q : Fin → Shared → Prop}
    (hC : h.get? C = some (excClassObj nm q C N bs bm hdct sn sub ab col dd k0 k1 k2 k3 k5 newId))
    (hi : W.Looks (model prog w) h (typeLookup (.ref C) "__init__") (some (.ref fI))) (hb : ∀ self, W.Looks (model prog w) h (bindSpecial (.ref fI) self) (.ref fI, [self])) (hrest : rest.length ≤ sizeLine)
    (hq : codeAny (model prog w) A (.call (.ref fI) ⟨.ref (h.objs.size + 1) :: rest, kw⟩)
      (fun r s' => match r with | .ok (.ret v) => v = .none ∧ Q (.done (.ret (.ref (h.objs.size + 1)))) s' | .ok _ => False | .error e => E e s')
      ⟨(h.push (W.kdv_tup rest)).push (excO C h.objs.size), g, d, t, os⟩) :
    wpAny (model prog w) A (Builtin.«type.__call__» ⟨.ref C :: rest, kw⟩) Q E ⟨h, g, d, t, os⟩ := by
  repeat (first
    | with_reducible refine wpAny_loadPart_at hC ?_
    | with_reducible refine wpAny_madeBy_exc hC ?_
    | wp_step)
  refine codeAny_call_builtin_code (Code.quiet_builtin _ F.quiet) (chk_new_kw F hT hC ?_)
  refine new_kw F hT hC ?_ hrest
  show wpAny _ _ _ _ _ _
  have kp : ∀ b o, h.get? b = some o → ((h.push (W.kdv_tup rest)).push (excO C h.objs.size)).get? b = some o :=
    fun b o z => Heap.get?_push_of_some _ (Heap.get?_push_of_some _ z)
  have hC1 := kp _ _ hC
  have gt : ((h.push (W.kdv_tup rest)).push (excO C h.objs.size)).get? (h.objs.size + 1) = some (excO C h.objs.size) := by heap_get
  have cC : (Value.ref C :: bm).contains (.ref C) = true := by simp
  have i1 := hi.keeps kp
  have b1 := (hb (.ref (h.objs.size + 1))).keeps kp
  unfold isInstance
  repeat (first
    | with_reducible refine wpAny_loadPart_at gt ?_
    | (with_reducible refine wpAny_isSubtype_exc hC1 ?_; rw [cC])
    | wp_step)
  show wpAny _ _ (typeLookup (.ref C) _) _ _ _
  refine i1.at ?_
  refine wpAny_holding (wpAny_bind (b1.at ?_))
  refine wpAny_bind (wpAny_call (codeAny_mono hq fun r s' z => ?_))
  rcases r with e | (v | _ | _ | _) <;> (first
    | exact z
    | exact z.elim
    | (obtain ⟨rfl, z⟩ := z
       first
         | exact wpAny_pure (wpAny_pure z)
         | (wp_walk; exact z)))
theorem chk_tcall_kw {M : Model} {rest : List Value} {Q : Unit → Shared → Prop} (hC : h.get? C = some (excClassObj nm q C N bs bm hdct sn sub ab col dd k0 k1 k2 k3 k5 newId))
    (hq : Q () ⟨h, g, d, t, os⟩) : wpAny M A (checkBuiltinCall "type.__call__" ⟨.ref C :: rest, kw⟩) Q E ⟨h, g, d, t, os⟩ := by
  have f3 := tc_sub
  have hT : (⟨h, g, d, t, os⟩ : Shared).TypeIs (.ref C) "type" := ⟨_, hC, rfl⟩
  simp only [checkBuiltinCall, tc_kind, tc_split]
  repeat (any_goals (first
    | assumption
    | with_reducible refine wpAny_loadPart_at hC ?_
    | with_reducible refine wpAny_onRaise ?_
    | with_reducible refine wpAny_map ?_
    | wp_step))
theorem call_kw (F : ExcBaseFacts B newId initId bmB) (hT : ∀ Y : String, bm.contains (.type Y) = bmB.contains (.type Y)) {rest : List Value} {fI : Addr}
    (hC : h.get? C = some (excClassObj nm q C N bs bm hdct sn sub ab col dd k0 k1 k2 k3 k5 newId))
    (hi : W.Looks (model prog w) h (typeLookup (.ref C) "__init__") (some (.ref fI))) (hb : ∀ self, W.Looks (model prog w) h (bindSpecial (.ref fI) self) (.ref fI, [self])) (hrest : rest.length ≤ sizeLine)
    (hq : codeAny (model prog w) (A.under (.builtin "type.__call__" ⟨.ref C :: rest, kw⟩)) (.call (.ref fI) ⟨.ref (h.objs.size + 1) :: rest, kw⟩) (W.InitBack (h.objs.size + 1) R)
      ⟨(h.push (W.kdv_tup rest)).push (excO C h.objs.size), g, d, t, os⟩) :
    codeAny (model prog w) A (.call (.ref C) ⟨rest, kw⟩) R ⟨h, g, d, t, os⟩ := by
  have f1 := tc_lookup
  have f2 := tc_bind (.ref C)
  have hTy : (⟨h, g, d, t, os⟩ : Shared).TypeIs (.ref C) "type" := ⟨_, hC, rfl⟩
  refine codeAny_of_tree ?_
  show wpAny _ _ (callAny (.ref C) _) _ _ _
  repeat (any_goals (first
    | assumption
    | with_reducible refine wpAny_loadPart_at hC ?_
    | wp_step))
  refine ⟨rfl, ?_⟩
  refine codeAny_call_builtin_at (Code.quiet_builtin _ (by decide +kernel)) entry_typeCall (chk_tcall_kw hC (tcall_kw F hT hC hi hb hrest ?_))
  refine codeAny_mono hq fun r s' z => ?_
  rcases r with e | (v | _ | _ | _) <;> exact z
end
end PySem.LwK
namespace Lw
open PySem PySem.Spec PyProof.Rows L2
section
variable {X : Cx} {CX : CXT} {k : Nat} {ps ks : List Str} {x : Str} {p pos : Pos} {kws : List Keyword} {tk : TA} {C fI : Addr} {fd : FuncData} {sp : Sp} {g : List Value → List Value → List Value} {gV : List V → List V → List V}
/-- C(f = e, ..), behind its arguments -/
theorem run_mkvK {pins : List (Addr × Obj)} {σ : L2.St} {H1 : Hp} {s1 : Shared} {ws : List Value} {zs : List V} {Q : VK} (T : OexC X.K C) (iC : PySem.W.findIn X.K (.ref C) "__init__" = some (some (.ref fI))) (tI : PySem.W.typeIn X.K (.ref fI) = some (.type "function"))
    (F1 : FnOk X.prog X.w X.K X.mg X.base CX k fI fd ps sp) (hr : Room (k + 1) X.A) (hb : KBn X.K fd ps 1 ks g gV) (hx : Passes CX X (fun _ _ _ => False)) (I1 : Inv X pins σ H1 s1) (rz : Vals zs ws) (l2 : zs.length = ks.length)
    (q1 : ∀ a, H1 a = none → sp (gV [.ref a] zs) (upd H1 a (exo a C none)) (fun v H2 => v = .non ∧ Q (.ref a) H2) (fun _ _ _ => False)) :
    wpAny (model X.prog X.w) X.A (call (.ref C) [] (ks.zip ws)) (EP X pins σ Q) X.xe s1 := by
  have T' := T
  obtain ⟨nm, q, N, bs, bm, sn, sub, ab, col, dd, k0, k1, k2, k3, k5, hC, hbm⟩ := T'.cls
  obtain ⟨hp, gg, dr, tk, os⟩ := s1
  have n0 : H1 (hp.objs.size + 1) = none := I1.hok.fresh (Nat.le_succ hp.objs.size)
  have hq := q1 (hp.objs.size + 1) n0
  have kp : ∀ b o, hp.get? b = some o → ((hp.push (PySem.W.kdv_tup [])).push (PySem.HandSPX.excO C hp.objs.size)).get? b = some o :=
    fun b o z => Heap.get?_push_of_some _ (Heap.get?_push_of_some _ z)
  have gt : ((hp.push (PySem.W.kdv_tup [])).push (PySem.HandSPX.excO C hp.objs.size)).get? (hp.objs.size + 1) = some (PySem.HandSPX.excO C hp.objs.size) := by heap_get
  have I2 : Inv X pins σ (upd H1 (hp.objs.size + 1) (exo (hp.objs.size + 1) C none)) ⟨(hp.push (PySem.W.kdv_tup [])).push (PySem.HandSPX.excO C hp.objs.size), gg, dr, tk, os⟩ :=
    I1.laid (t' := tk) kp (Nat.le_succ hp.objs.size) (exo_ok gt)
  have r0 : Vals [V.ref (hp.objs.size + 1)] [Value.ref (hp.objs.size + 1)] := .cons rfl .nil
  have r2 := hb.rel r0 rz
  have hB := hb.to _ [Value.ref (hp.objs.size + 1)] ws I2.kIn rfl (rz.length.symm.trans l2)
  refine wpAny_call (PySem.LwK.call_kw F.excBase_ValueError (fun Y => PySem.HandSPX.refsVE_contains Y bm hbm) (I1.kIn _ _ hC) (PySem.W.looks_findIn I1.kIn iC) (fun self => PySem.W.bind_fn I1.kIn self tI) (Nat.zero_le _) ?_)
  refine codeAny_mono (F1.run _ X.stack _ _ ⟨[Value.ref (hp.objs.size + 1)], ks.zip ws⟩ (g [Value.ref (hp.objs.size + 1)] ws) _ _ (fun _ _ _ => False) (hr.make C [] (ks.zip ws)) (I2.env0.make C [] (ks.zip ws)) hB r2 hq) fun r s' hq' => ?_
  cases r with
  | error er => exact hx pins σ _ _ er s' I2 hq'
  | ok fl =>
    cases fl with
    | ret u =>
      obtain ⟨v, H2, I3, rv, ev, q2⟩ := I2.after hq'
      subst ev
      exact ⟨rv, .ref (hp.objs.size + 1), H2, I3, rfl, q2⟩
    | next => exact False.elim hq'
    | brk => exact False.elim hq'
    | cont => exact False.elim hq'
end
end Lw
namespace Lw
open PySem PySem.Spec PyProof.Rows L2

/-! ### what a value reads as, over the abstract heap -/
mutual
inductive RdV (H : Hp) : V → PyData → List Addr → Prop
  | non : RdV H .non .none []
  | bl (b : Bool) : RdV H (.bl b) (.bool b) []
  | int (i : Int) : RdV H (.int i) (.int i) []
  | str (x : Str) : RdV H (.str x) (.str x) []
  | lst {a : Addr} {xs : List V} {ds : List PyData} {as : List Addr} : H a = some (.lst xs) → RdVs H xs ds as → RdV H (.ref a) (.list ds) (a :: as)
  | tup {a : Addr} {xs : List V} {ds : List PyData} {as : List Addr} : H a = some (.tup xs) → RdVs H xs ds as → RdV H (.ref a) (.tuple ds) as
  | dic {a : Addr} {kvs : List (Key × V)} {ps : List (PyData × PyData)} {as bs : List Addr} : H a = some (.dK kvs) → RdVs H (kvs.map fun kv => kV kv.1) (ps.map (·.1)) as → RdVs H (kvs.map (·.2)) (ps.map (·.2)) bs →
      RdV H (.ref a) (.dict ps) (a :: as ++ bs)
inductive RdVs (H : Hp) : List V → List PyData → List Addr → Prop
  | nil : RdVs H [] [] []
  | cons {v : V} {vs : List V} {d : PyData} {ds : List PyData} {as bs : List Addr} : RdV H v d as → RdVs H vs ds bs → RdVs H (v :: vs) (d :: ds) (as ++ bs)
end
section
variable {P : Program} {w : World} {H H' : Hp} {h : Heap}
theorem keys_vals {κ : Type} {knd : KeyKind P w Key} : ∀ {es : List DictEntry} {kvs : List (Key × Value)} {ws : List (Key × V)}, knd = mixKind P w → KV ws kvs → Pairs knd es kvs →
    Vals (ws.map fun kv => kV kv.1) (es.map (·.key)) ∧ Vals (ws.map (·.2)) (es.map (·.val))
  | _, _, _, _, .nil, .nil => ⟨.nil, .nil⟩
  | e :: es, kv :: kvs, x :: ws, hk, .cons r rs, .cons a b c => by
    obtain ⟨h1, h2⟩ := keys_vals (κ := κ) hk rs c
    refine ⟨.cons ?_ h1, .cons ?_ h2⟩
    · subst hk
      rcases keyIs_shape a with ⟨i, t, e1, e2⟩ | ⟨y, t, e1, e2⟩
      · show RelV (kV x.1) e.key
        rw [r.1, e1, e2]
        exact ⟨t, rfl⟩
      · show RelV (kV x.1) e.key
        rw [r.1, e1, e2]
        exact ⟨t, rfl⟩
    · show RelV x.2 e.val
      rw [b]
      exact r.2
mutual
theorem reads_of (ok : HOk P w H h) : ∀ {v : V} {d : PyData} {as : List Addr} {u : Value}, RdV H v d as → RelV v u → Reads h u d as
  | _, _, _, u, .non, r => by cases (show u = Value.none from r); exact .none
  | _, _, _, u, .bl b, r => by cases (show u = Value.bool b from r); exact .bool b
  | _, _, _, u, .int i, r => by obtain ⟨t, e⟩ := (show ∃ t, u = Value.int i t from r); cases e; exact .int i t
  | _, _, _, u, .str x, r => by obtain ⟨t, e⟩ := (show ∃ t, u = Value.str x t from r); cases e; exact .str x t
  | _, _, _, u, .lst (a := a) (xs := xs) e q, r => by
    cases (show u = Value.ref a from r)
    obtain ⟨_, its, n, rv, ho⟩ := (show ObjOk P w H h a (.lst xs) from ok a _ e)
    exact .list ho rfl rfl (reads_all ok q rv)
  | _, _, _, u, .tup (a := a) (xs := xs) e q, r => by
    cases (show u = Value.ref a from r)
    obtain ⟨_, its, rv, o, h1, h2, n, h3⟩ := (show ObjOk P w H h a (.tup xs) from ok a _ e)
    exact .tuple h1 h2 h3 (reads_all ok q rv)
  | _, _, _, u, .dic (a := a) (kvs := kvs) e q1 q2, r => by
    cases (show u = Value.ref a from r)
    obtain ⟨_, _, vs, rk, o, es, ep, h1, h2, h3, h4, h5, h6⟩ := (show ObjOk P w H h a (.dK kvs) from ok a _ e)
    obtain ⟨k1, k2⟩ := keys_vals (κ := Unit) rfl rk h5
    exact .dict h1 h2.1 h3 (reads_all ok q1 k1) (reads_all ok q2 k2)
theorem reads_all (ok : HOk P w H h) : ∀ {vs : List V} {ds : List PyData} {as : List Addr} {us : List Value}, RdVs H vs ds as → Vals vs us → ReadsAll h us ds as
  | _, _, _, _, .nil, .nil => .nil
  | _, _, _, _, .cons a b, .cons r rs => .cons (reads_of ok a r) (reads_all ok b rs)
end
/-- what changes elsewhere leaves it -/
def Holds (H H' : Hp) (as : List Addr) : Prop := ∀ b o, H b = some o → b ∉ as → H' b = some o
mutual
theorem RdV.same (e : Same H H') : ∀ {v : V} {d : PyData} {as : List Addr}, RdV H v d as → RdV H' v d as
  | _, _, _, .non => .non
  | _, _, _, .bl b => .bl b
  | _, _, _, .int i => .int i
  | _, _, _, .str x => .str x
  | _, _, _, .lst a b => .lst (e _ _ a) (RdVs.same e b)
  | _, _, _, .tup a b => .tup (e _ _ a) (RdVs.same e b)
  | _, _, _, .dic a b c => .dic (e _ _ a) (RdVs.same e b) (RdVs.same e c)
theorem RdVs.same (e : Same H H') : ∀ {vs : List V} {ds : List PyData} {as : List Addr}, RdVs H vs ds as → RdVs H' vs ds as
  | _, _, _, .nil => .nil
  | _, _, _, .cons a b => .cons (RdV.same e a) (RdVs.same e b)
end
mutual
theorem RdV.off {x : Addr} {o o0 : HO} (h0 : H x = some o0) (nt : ∀ xs, o0 ≠ .tup xs) : ∀ {v : V} {d : PyData} {as : List Addr}, RdV H v d as → x ∉ as → RdV (upd H x o) v d as
  | _, _, _, .non, _ => .non
  | _, _, _, .bl b, _ => .bl b
  | _, _, _, .int i, _ => .int i
  | _, _, _, .str y, _ => .str y
  | _, _, _, .lst (a := a) e b, n => .lst (by rw [upd_ne fun z => n (by rw [z]; exact List.mem_cons_self)]; exact e) (RdVs.off h0 nt b fun z => n (List.mem_cons_of_mem _ z))
  | _, _, _, .tup (a := a) e b, n => .tup (by rw [upd_ne fun z => by rw [z, h0] at e; exact nt _ (Option.some.inj e)]; exact e) (RdVs.off h0 nt b n)
  | _, _, _, .dic (a := a) e b c, n => .dic (by rw [upd_ne fun z => n (by rw [z]; exact List.mem_append_left _ List.mem_cons_self)]; exact e)
      (RdVs.off h0 nt b fun z => n (List.mem_append_left _ (List.mem_cons_of_mem _ z))) (RdVs.off h0 nt c fun z => n (List.mem_append_right _ z))
theorem RdVs.off {x : Addr} {o o0 : HO} (h0 : H x = some o0) (nt : ∀ xs, o0 ≠ .tup xs) : ∀ {vs : List V} {ds : List PyData} {as : List Addr}, RdVs H vs ds as → x ∉ as → RdVs (upd H x o) vs ds as
  | _, _, _, .nil, _ => .nil
  | _, _, _, .cons a b, n => .cons (RdV.off h0 nt a fun z => n (List.mem_append_left _ z)) (RdVs.off h0 nt b fun z => n (List.mem_append_right _ z))
end
theorem RdVs.append : ∀ {xs ys : List V} {ds es : List PyData} {as bs : List Addr}, RdVs H xs ds as → RdVs H ys es bs → RdVs H (xs ++ ys) (ds ++ es) (as ++ bs)
  | _, _, _, _, _, _, .nil, q => q
  | _, _, _, _, _, _, .cons (as := a1) a b, q => by
    rw [List.append_assoc]
    exact .cons a (RdVs.append b q)
mutual
theorem notModules (ok : HOk P w H h) (hm : ∀ o, h.get? sysModules = some o → o.cls = .type "dict") : ∀ {v : V} {d : PyData} {as : List Addr}, RdV H v d as → sysModules ∉ as
  | _, _, _, .non => by simp
  | _, _, _, .bl b => by simp
  | _, _, _, .int i => by simp
  | _, _, _, .str y => by simp
  | _, _, _, .lst (a := a) (xs := xs) e b => fun z => by
    rcases List.mem_cons.mp z with q | q
    · obtain ⟨_, its, n, rv, ho⟩ := (show ObjOk P w H h a (.lst xs) from ok a _ e)
      rw [← q] at ho
      have c : Value.type "list" = Value.type "dict" := hm _ ho
      exact absurd (Value.type.inj c) (by decide)
    · exact notModulesAll ok hm b q
  | _, _, _, .tup e b => notModulesAll ok hm b
  | _, _, _, .dic (a := a) (kvs := kvs) e b c => fun z => by
    rcases List.mem_append.mp z with z | z
    · rcases List.mem_cons.mp z with q | q
      · obtain ⟨_, h2, _⟩ := (show ObjOk P w H h a (.dK kvs) from ok a _ e)
        rw [← q] at h2
        have c : (sysModules == sysModules) = true := beq_self_eq_true _
        rw [c] at h2
        cases h2
      · exact notModulesAll ok hm b q
    · exact notModulesAll ok hm c z
theorem notModulesAll (ok : HOk P w H h) (hm : ∀ o, h.get? sysModules = some o → o.cls = .type "dict") : ∀ {vs : List V} {ds : List PyData} {as : List Addr}, RdVs H vs ds as → sysModules ∉ as
  | _, _, _, .nil => by simp
  | _, _, _, .cons a b => fun z => (List.mem_append.mp z).elim (notModules ok hm a) (notModulesAll ok hm b)
end
end
/-- small data: a text of few signs -/
structure Small (d : PyData) (n m : Nat) : Prop where
  show_ : d.showable = true
  dep : d.depth ≤ m
  len : d.shown.length ≤ n
/-- repr(x), x a list, a tuple or a dict -/
def rRepr : List V → Hp → VK → Prop := fun xs H Q => ∃ (a : Addr) (d : PyData) (as : List Addr), xs = [.ref a] ∧ RdV H (.ref a) d as ∧ Small d 16777216 60 ∧ Q (.str d.shown) H
theorem call_repr {X : Cx} (hg : X.A.guards = some []) (hu : X.A.units + 64 < cLine) (hD : He.dictB X.K sysModules = true) : CallR X (.builtin "repr") rRepr := by
  intro pins s σ H xs us Q I r h
  obtain ⟨a, d, as, rfl, rd, sm, q⟩ := h
  obtain ⟨u, rfl, ru⟩ := vals1 r
  have R := reads_of I.hok rd ru
  cases (show u = Value.ref a from ru)
  have hm : ∀ o, s.heap.get? sysModules = some o → o.cls = .type "dict" := fun o e => by
    obtain ⟨es, n, sl, hk⟩ := He.dictB_ok hD
    have e2 := I.kIn _ _ hk
    rw [e] at e2
    cases e2
    rfl
  have nm := notModules I.hok hm rd
  have e1 := sm.dep
  refine repr_of_reads' R sm.show_ (fun _ => nm) hg (by omega) (fun _ _ z => z) (fun h' u tk hk => ?_) (by rw [sizeLine_eq]; exact sm.len)
  exact ⟨.str d.shown, H, I.kept (t' := tk) hk, ⟨u, rfl⟩, q⟩
end Lw
namespace Lw
open PySem PySem.Spec PyProof.Rows L2

/-! ### defs that are called where no text of a list is being made (repr asks that) -/
structure FnG (P : Program) (w : World) (K : PySem.W.Frag) (mg : Str → Option Value) (base : Heap) (CX : CXT) (k : Nat) (f : Addr) (fd : FuncData) (ps : List Str) (sp : Sp) : Prop where
  len : ∀ vs H Q E, sp vs H Q E → vs.length = ps.length
  run : ∀ (A : Around) (outer : List Env) (s : Shared) (H : Hp) (args : Args) (us : List Value) (vs : List V) (Q : VK) (E : XK), A.guards = some [] → Room k A → Env0 P w K mg base A outer s H → BindsTo s fd args (ps.zip us) → Vals vs us → sp vs H Q E →
    codeAny (model P w) A (.call (.ref f) args) (CR CX outer P w H s Q E) s
theorem FnG.of {P : Program} {w : World} {K : PySem.W.Frag} {mg : Str → Option Value} {base : Heap} {CX : CXT} {k : Nat} {f : Addr} {fd : FuncData} {ps : List Str} {sp : Sp} (F : FnOk P w K mg base CX k f fd ps sp) : FnG P w K mg base CX k f fd ps sp :=
  ⟨F.len, fun A outer s H args us vs Q E _ hr e0 hb r hsp => F.run A outer s H args us vs Q E hr e0 hb r hsp⟩
section
variable {P : Program} {w : World} {K : PySem.W.Frag} {mg : Str → Option Value} {base : Heap} {x qual : Str} {params : Arguments} {body : List Stmt} {scope : Scope} {dvs : List V} {kws : List (Str × V)} {f : Addr} {fd : FuncData}
/-- the rule for such a def: by its body -/
theorem okG {CX : CXT} {N ps : List Str} {k : Nat} {sp : Sp} (F : FunD K x qual params body scope dvs kws f fd) (S : FnScope N ps scope) (len : ∀ vs H Q E, sp vs H Q E → vs.length = ps.length)
    (hbody : ∀ (cdv : Value) (A : Around) (outer : List Env) (s : Shared) (H : Hp) (vs : List V) (Q : VK) (E : XK), A.guards = some [] → Room k (A.deeper (envOfC qual scope s.heap.objs.size f cdv)) → sp vs H Q E →
      ∃ t, PSs (cxOf CX P w K mg base N qual scope f cdv A outer s H E) body t ∧ t { nx := fun _ H' => Q .non H', rt := Q } (start N vs) H) : FnG P w K mg base CX (k + 1) f fd ps sp := by
  obtain ⟨oc, od, dV, kV, doc, pm, an, cdv, ct, osl, rfl, lk, hcd, _, _⟩ := F.ex
  refine ⟨len, fun A outer s H args us vs Q E hg hr e0 hb r hsp => ?_⟩
  have one : FnOk P w K mg base CX (k + 1) f (PySem.W.fnOf x qual params body scope dV kV doc pm an cdv ct) ps (fun ws G R Er => ws = vs ∧ G = H ∧ R = Q ∧ Er = E ∧ A.guards = some [] ∧ sp vs H Q E) → codeAny (model P w) A (.call (.ref f) args) (CR CX outer P w H s Q E) s :=
    fun G => G.run A outer s H args us vs Q E hr e0 hb r ⟨rfl, rfl, rfl, rfl, hg, hsp⟩
  have hl := len _ _ _ _ hsp
  have KX : K.In s.heap := e0.mod.kin.keeps fun b o e => (e0.bs b o e).1
  have lim : s.heap.NoLimit := e0.mod.nolimit.keeps fun b o e => (e0.bs b o e).1
  have hkind : ∀ y ∈ ps.zip us, scope.names.lookup y.1 = some .local ∨ (scope.names.lookup y.1 = some .cell ∧ ((cellsFrom (s.heap.objs.size + 1) scope.names []).lookup y.1).isSome = true) := by
    rintro ⟨n, v⟩ hy
    rcases S.par n (List.of_mem_zip hy).1 with q | q
    · exact .inl q
    · exact .inr ⟨q, PySem.W.cellsFrom_some _ _ _ (.inl q)⟩
  refine codeAny_call_function hr.depth (KX _ _ lk) rfl S.co S.gen rfl (PySem.W.codeRec_of KX hcd) (hb _ _ _ _ ?_)
  refine wpAny_newFunctionEnv_cells S.kind hkind fun env he s1 xx => ?_
  subst he
  refine ⟨lim.keeps xx.toInCall.keep, codeAny_func ?_⟩
  obtain ⟨t, ht, hq⟩ := hbody cdv A outer s H vs Q E hg (hr.deeper _) hsp
  have I : Inv (cxOf CX P w K mg base N qual scope f cdv A outer s H E) [] (start N vs) H s1 := inv_start S hr.hd e0 hl r xx
  refine wpAny_mono (ht.run [] s1 (start N vs) H _ I hq) (fun fl s' hs => ?_) fun e s' hs => hs
  have fin : ∀ {σ' : L2.St} {H' : Hp} {v : V} {u : Value}, Inv (cxOf CX P w K mg base N qual scope f cdv A outer s H E) [] σ' H' s' → RelV v u → Q v H' → CE outer P w H s Q u s' := by
    intro σ' H' v u J rv q
    exact ⟨v, H', J.os, J.bare, J.base, J.hok, rv, q⟩
  cases fl with
  | ret u =>
    obtain ⟨v, σ', H', J, rv, q⟩ := hs
    exact fin J rv q
  | next =>
    obtain ⟨σ', H', J, q⟩ := hs
    exact fin (v := V.non) (u := Value.none) J rfl q
  | brk => exact False.elim (by obtain ⟨_, _, _, q⟩ := hs; exact q)
  | cont => exact False.elim (by obtain ⟨_, _, _, q⟩ := hs; exact q)
end
structure DefG (P : Program) (w : World) (K : PySem.W.Frag) (mg : Str → Option Value) (base : Heap) (CX : CXT) (k : Nat) (x : Str) (ps : List Str) (dvs : List V) (sp : Sp) : Prop where
  ex : ∃ (f : Addr) (fd : FuncData) (ds : List Value), FnG P w K mg base CX k f fd ps sp ∧ mg x = some (.ref f) ∧ PySem.W.keepIn K (.ref f) = true ∧ Binds K fd ps ds ∧ Vals dvs ds
section
variable {X : Cx} {CX : CXT} {k : Nat} {ps : List Str} {dvs : List V} {sp : Sp} {E : XK} {x : Str} {p pos : Pos} {e : Expr} {es : List Expr} {t : TA}
theorem pe_g (D : DefG X.prog X.w X.K X.mg X.base CX k x ps dvs sp) (gd : X.A.guards = some []) (hr : Room k X.A) (hx : Passes CX X E) (ha : PA X (e :: es) t) (hg : Gl X x := by rfl)
    (hdb : (x == ("__debug__" : Str)) = false := by decide) (he : starEach (e :: es) X.env = (false, eval e X.env) :: starEach es X.env := by rfl) (hpl : (backTo pos (starEach es X.env)).any (·.1) = false := by rfl) :
    PE X (.Call (.Name x p) (e :: es) [] pos) (tCall sp dvs E t) := by
  obtain ⟨f, fd, ds, F, hm, hk, hb, hd⟩ := D.ex
  refine ⟨fun pins s σ H Q I h => ?_⟩
  refine wpAny_Call_Name_kw (ld_glob I hg hm ?_ hdb)
  refine PySem.W.callWith_K (h₀ := X.base) I.ok.mod.kin hk (thn (ha.run pos pins s σ H _ I h) fun us s1 ⟨vs, H1, I1, r, q⟩ => ⟨I1.kIn, ?_⟩) he hpl
  have r2 : Vals (vs ++ dvs) (us ++ ds) := r.append hd
  have hl : (us ++ ds).length = ps.length := by
    rw [← r2.length]
    exact F.len _ _ _ _ q
  refine wpAny_call (codeAny_mono (F.run X.A X.stack s1 H1 ⟨us, []⟩ (us ++ ds) (vs ++ dvs) Q E gd hr I1.env0 (hb s1 us I1.kIn hl) r2 q) fun r s' hq => ?_)
  cases r with
  | error er => exact hx pins σ H1 s1 er s' I1 hq
  | ok fl =>
    cases fl with
    | ret u => exact I1.after hq
    | next => exact False.elim hq
    | brk => exact False.elim hq
    | cont => exact False.elim hq
end
/-! ### the law's end, the script's bits told -/
theorem lawG {P : Program} {w : World} {K : PySem.W.Frag} {mg mb : Str → Option Value} {CX : CXT} {k : Nat} {fa a : Addr} {fd : FuncData} {x : Str} {sp : Sp} {s1 : Shared} {vs : List Value} {ns : List Int}
    (KX : K.In s1.heap) (hns : s1.heap.Ns mainGlobals mg) (hb : s1.heap.Ns builtinsNs mb) (hbb : ∀ x : Str, x ≠ "__name__" → mb x = bootBuiltins x) (hlim : s1.heap.NoLimit) (hg : s1.gens = #[])
    (ha : s1.heap.get? a = some { cls := .type "list", data := .seq vs.toArray }) (hi : IntsAre vs ns) (hl : ns.length ≤ sizeLine) (hr : Room k callerA)
    (F : ∀ base : Heap, K.In base → base.Ns mainGlobals mg → FnG P w K mg base CX k fa fd [x] sp) (hbind : ∀ (s : Shared) (u : Value), BindsTo s fd ⟨[u], []⟩ [(x, u)])
    (hsp : ∀ H : Hp, Only H → SqL K H a (ns.map V.int) → sp [.ref a] H (fun v _ => v = .bl true) fun _ _ _ => False)
    (hCX : ∀ H e s', CX [] H s1 (fun _ _ _ => False) e s' → False) :
    codeAny (model P w) callerA (.call (.ref fa) ⟨[.ref a], []⟩) (fun r s' => r = .ok (.ret (.bool true)) ∧ OldK s1.heap s'.heap ∧ s'.os = s1.os ∧ AllBare s'.gens) s1 := by
  -- the elder end's road, at callerA alone: its promise is asked nowhere else
  have rv := vals_ints hi
  have lenV := hi.length
  have core : ∀ H : Hp, Only H → SqL K H a (ns.map V.int) → HOk P w H s1.heap → (∀ b, H b ≠ none → b = a) → (H a ≠ none → K.lookup a = none) →
      codeAny (model P w) callerA (.call (.ref fa) ⟨[.ref a], []⟩) (fun r s' => r = .ok (.ret (.bool true)) ∧ OldK s1.heap s'.heap ∧ s'.os = s1.os ∧ AllBare s'.gens) s1 := by
    intro H hO hS hok hA hK
    have isA : ∀ {b : Addr} {u : HO}, H b = some u → b = a := fun {b u} q => hA b (by rw [q]; exact Option.some_ne_none u)
    have bOf : ∀ {b : Addr} {o : Obj}, s1.heap.get? b = some o → H b = none → (hidT s1.heap H).get? b = some o := fun z n => hidT_get z n
    have notDict : ∀ {b : Addr} {o : Obj} {es : Array DictEntry} {ep : Nat}, s1.heap.get? b = some o → o.data = .dict es ep → H b = none := by
      intro b o es ep z dd
      rcases q : H b with _ | u
      · rfl
      · have eb := isA q
        rw [eb, ha] at z
        cases z
        cases dd
    have nsT : ∀ {b : Addr} {m : Str → Option Value}, s1.heap.Ns b m → (hidT s1.heap H).Ns b m := by
      rintro b m ⟨o, es, ep, z, dd, r⟩
      exact ⟨o, es, ep, bOf z (notDict z dd), dd, r⟩
    have kT : K.In (hidT s1.heap H) := by
      intro b o z
      refine bOf (KX b o z) ?_
      rcases q : H b with _ | u
      · rfl
      · have eb := isA q
        have e2 := hK (by rw [← eb, q]; exact Option.some_ne_none u)
        rw [eb, e2] at z
        cases z
    have hM : Mod K mg (hidT s1.heap H) := ⟨kT, nsT hns, ⟨mb, nsT hb, hbb⟩, let ⟨mc, h1, h2⟩ := hlim; ⟨mc, nsT h1, h2⟩⟩
    have e0 : Env0 P w K mg (hidT s1.heap H) callerA [] s1 H := ⟨rfl, hM, fun b o z => of_hidT z, Nat.le_of_eq (hidT_size _ _), trivial, fun b z => absurd (show b ∈ ([] : List Addr) from z) (by simp), hok, .of_eq hg⟩
    refine codeAny_mono ((F _ kT (nsT hns)).run callerA [] s1 H ⟨[.ref a], []⟩ [.ref a] [.ref a] _ _ rfl hr e0 (hbind s1 (.ref a)) (.cons rfl .nil) (hsp H hO hS)) ?_
    intro r s' z
    rcases r with er | fl
    · exact (hCX H er s' z).elim
    · cases fl with
      | ret u =>
        obtain ⟨v, H', os, bare, un, hok', r', q⟩ := z
        obtain rfl : v = V.bl true := q
        obtain rfl : u = Value.bool true := r'
        refine ⟨rfl, OldK.of_keep (fun b o z => ?_), os, bare⟩
        rcases q : H b with _ | u
        · exact un.keep b o z q (fun y => absurd (show b ∈ ([] : List Addr) from y) (by simp)) (by simp)
        · rcases hO b with y | ⟨ob, xs, y⟩
          · rw [q] at y
            cases y
          · obtain ⟨e1, _⟩ := hok b _ y
            obtain ⟨e2, _⟩ := hok' b _ (un.frzs b ob _ y)
            rw [z] at e1
            cases e1
            exact e2
      | next => exact False.elim z
      | brk => exact False.elim z
      | cont => exact False.elim z
  rcases hk : K.lookup a with _ | o
  · refine core (fun b => if b = a then some (.frz { cls := .type "list", data := .seq vs.toArray } (.lst (ns.map V.int))) else none) ?_ (.inl (.inr ⟨{ cls := .type "list", data := .seq vs.toArray }, if_pos rfl⟩)) ?_ ?_ fun _ => hk
    · intro b
      by_cases eb : b = a
      · exact .inr ⟨_, _, if_pos eb⟩
      · exact .inl (if_neg eb)
    · intro b u z
      by_cases eb : b = a
      · have y := (if_pos eb).symm.trans z
        cases y
        subst eb
        exact ⟨ha, by rw [List.length_map]; exact hl, vs, _, rv, ha⟩
      · have y := (if_neg eb).symm.trans z
        cases y
    · intro b z
      by_cases eb : b = a
      · exact eb
      · exact absurd (if_neg eb) z
  · have e := KX a o hk
    rw [ha] at e
    cases e
    exact core (fun _ => none) (fun _ => .inl rfl) (.inr ⟨_, vs.toArray, _, hk, rfl, rfl, rfl, by rw [List.size_toArray, lenV]; exact hl, by simpa using rv⟩) (fun b u z => (by have y : (none : Option HO) = some u := z; cases y)) (fun b z => absurd rfl z) fun z => absurd rfl z
theorem walkG {l : PySem.W.OpenLaw} {n k : Nat} {q : Program} {loose : List Str} {XP : (Str → Option Value) → Heap → Prop} {YP : World → Heap → Prop} {d : DefRec} {CX : CXT} {x : Str} (hn : l.most = some n) (hn2 : n ≤ sizeLine) (hdf : d.params.defaults = []) (hr : Room k callerA)
    (F : ∀ (w : World) (mg : Str → Option Value) (fa : Addr) (h : Heap), YP w h → h.Ns mainGlobals mg → mg d.name = some (.ref fa) →
      ∃ (K : PySem.W.Frag) (fd : FuncData) (sp : Sp), K.In h ∧ (∀ (s : Shared) (u : Value), BindsTo s fd ⟨[u], []⟩ [(x, u)]) ∧
        (∀ (H : Hp) (a : Addr) (ns : List Int), ns.length ≤ n → (∀ z ∈ ns, Builtin.Int.intBits z ≤ 1048576) → Only H → SqL K H a (ns.map V.int) → sp [.ref a] H (fun v _ => v = .bl true) fun _ _ _ => False) ∧
        ∀ base : Heap, K.In base → base.Ns mainGlobals mg → FnG l.prog w K mg base CX k fa fd [x] sp)
    (hCX : ∀ (H : Hp) (s : Shared) (e : Value) (s' : Shared), CX [] H s (fun _ _ _ => False) e s' → False) : PySem.W.WalkO q loose XP YP l.row.toRowW d [] (fun f vs => PySem.call f vs) := by
  refine Att.attach_callB hn hdf fun w s0 s1 mg mb fa o pm cd doc a vs ns G Y ho hd hcd hmg hobj hints hlen hbits hg => ?_
  obtain ⟨K, fd, sp, KX, hb, hsp, hF⟩ := F w mg fa _ Y G.T.g hmg
  exact lawG KX G.T.g G.T.b G.T.builtins G.T.nolimit hg hobj hints (Nat.le_trans hlen hn2) hr hF hb (fun H hO hS => hsp H a ns hlen hbits hO hS) fun H e s' => hCX H s1 e s'
/-! ### the head's look: the facts, and sys.modules' own object -/
def kz (n : Nat) (g : Addr → Option Obj) : PySem.W.Frag := He.frT g (He.asD g n ++ [sysModules])
abbrev AlZ : Type := He.AlD × Bool
def obZ (n : Nat) (fa : List He.Fa) (fn : List He.DefD) (ex : PySem.W.Frag → Bool) (g : Addr → Option Obj) : AlZ := (He.obsD fa fn (kz n g), ex (kz n g) && He.dictB (kz n g) sysModules)
structure SaysZ (fa : List He.Fa) (fn : List He.DefD) (ex : PySem.W.Frag → Bool) (K : PySem.W.Frag) : Prop where
  d : He.SaysD fa fn K
  more : ex K = true
  sm : He.dictB K sysModules = true
def hookZ (n : Nat) (fa : List He.Fa) (fn : List He.DefD) (ex : PySem.W.Frag → Bool) : PySem.W.Hook where
  α := AlZ
  obs := fun s => obZ n fa fn ex s.heap.get?
  val := fun _ => (He.valD fn, true)
  says := fun _ h => ∃ K : PySem.W.Frag, K.In h ∧ SaysZ fa fn ex K
  of := fun _ s e => ⟨kz n s.heap.get?, He.frT_in, congrArg Prod.fst e, (Bool.and_eq_true_iff.mp (congrArg Prod.snd e)).1, (Bool.and_eq_true_iff.mp (congrArg Prod.snd e)).2⟩
  keeps := fun _ _ _ ⟨K, hK, c⟩ k => ⟨K, PySem.W.Frag.In.keeps hK k, c⟩
theorem obZ_eq {n : Nat} {fa : List He.Fa} {fn : List He.DefD} {ex : PySem.W.Frag → Bool} {g : Addr → Option Obj} {s : Shared} (h : ∀ a, g a = s.heap.get? a) : obZ n fa fn ex g = (hookZ n fa fn ex).obs s := by
  have e : g = s.heap.get? := funext h
  subst e
  rfl
end Lw
namespace Lw
open PySem PySem.Spec PyProof.Rows L2
/-- for i, x in enumerate(list), the list stays -/
theorem for_enum {K : PySem.W.Frag} {a : Addr} {xs : List V} {g : TG} {tb : TS} {D : Ends} {σ : L2.St} {H : Hp} (Pv : Nat → L2.St → Hp → Prop) (h0 : Pv 0 σ H) (hq : ∀ i σ H, i ≤ xs.length → Pv i σ H → SqL K H a xs)
    (hs : ∀ (i : Nat) (x : V) (T : Addr) (σ : L2.St) (H : Hp), xs[i]? = some x → Pv i σ H → H T = none → g (.ref T) σ (upd H T (.tup [.int (i : Nat), x])) fun σ2 H2 => tb { D with nx := Pv (i + 1), ct := Pv (i + 1), bk := D.nx } σ2 H2)
    (hd : ∀ σ H, Pv xs.length σ H → D.nx σ H) :
    ∃ W : Nat → Nat → L2.St → Hp → Prop, (∃ m, W 0 m σ H) ∧ ∀ i m σ H, W i m σ H →
      ((Ite K a).stop i H ∧ D.nx σ H) ∨ ((Ite K a).go i H ∧ ∃ N : L2.St → Hp → Prop, (∀ σ' H', N σ' H' → ∃ m', m' < m ∧ W (i + 1) m' σ' H') ∧ ∀ v H', (Ite K a).yld i H v H' → g v σ H' fun σ2 H2 => tb { D with nx := N, ct := N, bk := D.nx } σ2 H2) := by
  refine ⟨fun i m σ H => m = xs.length - i ∧ i ≤ xs.length ∧ Pv i σ H, ⟨xs.length, rfl, Nat.zero_le _, h0⟩, ?_⟩
  rintro i m σ H ⟨rfl, hi, p⟩
  have q := hq i σ H hi p
  by_cases hlt : i < xs.length
  · refine .inr ⟨⟨xs, xs[i], q, List.getElem?_eq_getElem hlt⟩, Pv (i + 1), fun σ' H' p' => ⟨xs.length - (i + 1), by omega, rfl, hlt, p'⟩, ?_⟩
    rintro v H' ⟨T, x, rfl, hT, rfl, f⟩
    exact hs i x T σ H (f xs q) p hT
  · have e : i = xs.length := by omega
    subst e
    exact .inl ⟨⟨xs, q, Nat.le_refl _⟩, hd σ H p⟩
/-! ### errors made, by their own __init__ -/
/-- self.f = v -/
def spErr (C : Addr) (f : Str) : Sp := fun vs H Q _ => ∃ (a : Addr) (v : V), vs = [.ref a, v] ∧ H a = some (exo a C none) ∧ ∀ d, H d = none → d ≠ a → Q .non (upd (upd H d (exd d [(f, v)])) a (exo a C (some d)))
theorem rd_err {C : Addr} {f : Str} {v : V} {H1 : Hp} {Q : VK} {E : XK} (k : ∀ a H', Same H1 H' → H1 a = none → ErrAt H' a C f v → Q (.ref a) H') :
    [v].length ≤ 1000 ∧ ∀ a, H1 a = none → spErr C f (.ref a :: [v]) (upd H1 a (exo a C none)) (fun w H2 => w = .non ∧ Q (.ref a) H2) E := by
  refine ⟨(by decide : 1 ≤ 1000), fun a ha => ⟨a, v, rfl, upd_same, fun d hd nd => ⟨rfl, k a _ (fun b o e => ?_) ha ⟨d, upd_same, ?_⟩⟩⟩⟩
  · rw [upd_ne nd] at hd
    rw [upd_ne (ne_of_none e ha), upd_ne (ne_of_none e hd), upd_ne (ne_of_none e ha)]
    exact e
  · rw [upd_ne nd, upd_same]
theorem rd_errK {C : Addr} {f : Str} {v : V} {H1 : Hp} {Q : VK} {E : XK} (k : ∀ a H', Same H1 H' → H1 a = none → ErrAt H' a C f v → Q (.ref a) H') :
    [v].length = 1 ∧ ∀ a, H1 a = none → spErr C f ([.ref a] ++ [v]) (upd H1 a (exo a C none)) (fun w H2 => w = .non ∧ Q (.ref a) H2) E :=
  ⟨rfl, (rd_err (E := E) k).2⟩
theorem kb1 {K : PySem.W.Frag} {x qual fl : Str} {params : Arguments} {body : List Stmt} {scope : Scope} {f : Addr} {fd : FuncData} (F : FunD K x qual params body scope [] [] f fd)
    (h : ∀ (kV doc pm : Value) (an : Option Addr) (cdv ct u w : Value), bindArgs (PySem.W.fnOf x qual params body scope .none kV doc pm an cdv ct) ⟨[u], [(fl, w)]⟩ = pure ((["self", fl] : List Str).zip [u, w])) :
    KBn K fd ["self", fl] 1 [fl] (fun us ws => us ++ ws) (fun vs zs => vs ++ zs) := by
  obtain ⟨oc, od, dV, kV, doc, pm, an, cdv, ct, osl, rfl, lk, hcd, hD, hK⟩ := F.ex
  rcases hD with ⟨_, rfl⟩ | ⟨e, _⟩
  · refine ⟨fun s us ws X l1 l2 => ?_, fun r1 r2 => r1.append r2⟩
    match us, ws, l1, l2 with
    | [u], [w], _, _ => exact BindsTo.of_eq (h _ _ _ _ _ _ _ _)
  · exact absurd rfl e
structure ErrOk (P : Program) (w : World) (K : PySem.W.Frag) (mg : Str → Option Value) (base : Heap) (n f : Str) : Prop where
  ex : ∃ (fI : Addr) (fd : FuncData), mg n = some (.ref (He.ga K n)) ∧ XC K (He.ga K n) f ∧ PySem.W.findIn K (.ref (He.ga K n)) "__init__" = some (some (.ref fI)) ∧ PySem.W.typeIn K (.ref fI) = some (.type "function") ∧
    FnOk P w K mg base CX0 1 fI fd ["self", f] (spErr (He.ga K n) f) ∧ Binds K fd ["self", f] [] ∧ KBn K fd ["self", f] 1 [f] (fun us ws => us ++ ws) (fun vs zs => vs ++ zs)
theorem ErrOk.xc {P : Program} {w : World} {K : PySem.W.Frag} {mg : Str → Option Value} {base : Heap} {n f : Str} (E : ErrOk P w K mg base n f) : XC K (He.ga K n) f := by
  obtain ⟨_, _, _, h, _⟩ := E.ex
  exact h
theorem ErrOk.g {P : Program} {w : World} {K : PySem.W.Frag} {mg : Str → Option Value} {base : Heap} {n f : Str} (E : ErrOk P w K mg base n f) : mg n = some (.ref (He.ga K n)) := by
  obtain ⟨_, _, h, _⟩ := E.ex
  exact h
section
variable {X : Cx} {f : Str} {x : Str} {p pos : Pos} {e : Expr} {es : List Expr} {ta tk : TA} {kws : List Keyword}
/-- C(e), C(f = e): a new error -/
def tErr (C : Addr) (f : Str) (ta : TA) : TE := fun σ H Q => ta σ H fun vs H1 => ∃ v, vs = [v] ∧ ∀ a H', Same H1 H' → H1 a = none → ErrAt H' a C f v → Q (.ref a) H'
theorem pe_er (E : ErrOk X.prog X.w X.K X.mg X.base x f) (hr : Room 2 X.A) (ha : PA X (e :: es) ta) (hg : Gl X x := by rfl)
    (hdb : (x == ("__debug__" : Str)) = false := by decide) (he : starEach (e :: es) X.env = (false, eval e X.env) :: starEach es X.env := by rfl) (hpl : (backTo pos (starEach es X.env)).any (·.1) = false := by rfl) :
    PE X (.Call (.Name x p) (e :: es) [] pos) (tErr (He.ga X.K x) f ta) := by
  obtain ⟨fI, fd, h1, h2, h3, h4, h5, h6, h7⟩ := E.ex
  refine ⟨fun pins s σ H Q I h => ?_⟩
  refine wpAny_Call_Name_kw (ld_glob I hg h1 ?_ hdb)
  refine PySem.W.callWith_K (h₀ := X.base) I.ok.mod.kin h2.oex.kC (thn (ha.run pos pins s σ H _ I h) fun us s1 ⟨vs, H1, I1, r1, v, ev, q1⟩ => ⟨I1.kIn, ?_⟩) he hpl
  subst ev
  have z := rd_err (C := He.ga X.K x) (E := fun _ _ _ => False) q1
  exact run_mkv h2.oex h3 h4 h5 hr h6 (fun _ _ _ _ _ _ _ z => z.elim) I1 r1 z.1 z.2
theorem pe_er_k (E : ErrOk X.prog X.w X.K X.mg X.base x f) (hr : Room 2 X.A) (hkw : PK X kws tk) (hg : Gl X x := by rfl)
    (hall : (backToKw pos (keywordEach kws X.env)).all (·.1.isSome) = true := by rfl) (hks : (backToKw pos (keywordEach kws X.env)).filterMap (·.1) = [f] := by rfl) (hdb : (x == ("__debug__" : Str)) = false := by decide)
    (hpl : ((backTo pos (starEach [] X.env)).any (·.1) || (backToKw pos (keywordEach kws X.env)).any (·.1.isNone)) = false := by rfl) :
    PE X (.Call (.Name x p) [] kws pos) (tErr (He.ga X.K x) f tk) := by
  obtain ⟨fI, fd, h1, h2, h3, h4, h5, h6, h7⟩ := E.ex
  refine ⟨fun pins s σ H Q I h => ?_⟩
  refine wpAny_Call_Name_kw (ld_glob I hg h1 ?_ hdb)
  refine PySem.W.callWith_KW0 (h₀ := X.base) I.ok.mod.kin h2.oex.kC hall ?_ hpl
  refine thn (hkw.run pos pins s σ H _ I h) fun ws s1 ⟨zs, H1, I1, rz, v, ev, q1⟩ => ⟨I1.kIn, ?_⟩
  rw [hks]
  subst ev
  have z := rd_errK (C := He.ga X.K x) (E := fun _ _ _ => False) q1
  exact run_mkvK h2.oex h3 h4 h5 hr h7 (fun _ _ _ _ _ _ _ z => z.elim) I1 rz z.1 z.2
end
end Lw
namespace PySem.LwE
open PySem.SeqAt GQ
open AutoSeq1 (wpAny_loadPart')
open MeetsSeq MeetsSeq2 MeetsSeq3 SeqRoads2
section
variable {prog : Program} {w : World} {A : Around} {R : Result → Shared → Prop} {E : Value → Shared → Prop}
/-- a list beside an empty one: by the sizes alone -/
theorem list_eq0 {l b : Addr} {items : Array Value} {n n2 : Nat} {s : Shared} (hl : s.heap.get? l = some { cls := .type "list", data := .seq items n }) (hb : s.heap.get? b = some { cls := .type "list", data := .seq #[] n2 })
    (h : R (.ok (.ret (.bool (items.size == 0)))) s) : wpAny (model prog w) A.in1 (Builtin.«list.__eq__» ⟨[.ref l, .ref b], []⟩) (FinOf prog w A R) (fun e s' => R (.error e) s') s := by
  have f3 := AutoSeq1.sub_list_list
  by_cases hz : items.size = 0
  · have hN : ListI prog w A (fun e s' => R (.error e) s') l b 0 (fun _ s' => s' = s) := by
      rintro i s' rfl
      exact ⟨items, #[], n, n2, hl, hb, hz, rfl, fun h1 h2 => absurd h2 (by simp)⟩
    refine list_eqG l b 0 _ hN (fun s' e => ?_) rfl
    subst e
    rw [hz] at h
    exact h
  · obtain ⟨hp, g, d, tk, os⟩ := s
    have hne : (items.size != (#[] : Array Value).size) = true := by simpa using hz
    have he : (items.size == 0) = false := by simpa using hz
    rw [he] at h
    wp_walk using wpAny_loadPart' hl, wpAny_loadPart' hb
    exact h
theorem tuple_eq0 {l b : Addr} {items : Array Value} {n n2 : Nat} {dd dd2 : Option Addr} {sl sl2 : Array (Option Value)} {s : Shared} (hl : s.heap.get? l = some { cls := .type "tuple", dict := dd, data := .seq items n, slots := sl })
    (hb : s.heap.get? b = some { cls := .type "tuple", dict := dd2, data := .seq #[] n2, slots := sl2 })
    (h : R (.ok (.ret (.bool (items.size == 0)))) s) : wpAny (model prog w) A.in1 (Builtin.«tuple.__eq__» ⟨[.ref l, .ref b], []⟩) (FinOf prog w A R) (fun e s' => R (.error e) s') s := by
  have f2 := AutoSeq1.sub_tuple_tuple
  obtain ⟨hp, g, d, tk, os⟩ := s
  have hZ : items.toList.zip (#[] : Array Value).toList = [] := by simp
  wp_walk using wpAny_loadPart' hl, wpAny_loadPart' hb
  rw [hZ]
  wp_walk
  simpa [Builtin.Tuple.tupleCompareSizes] using h
theorem rc_list0 {l b : Addr} {items : Array Value} {n n2 : Nat} {s : Shared} {Q : Value → Shared → Prop} (hu : A.units < cLine) (hl : s.heap.get? l = some { cls := .type "list", data := .seq items n }) (hb : s.heap.get? b = some { cls := .type "list", data := .seq #[] n2 })
    (h : Q (.bool (items.size == 0)) s) : wpAny (model prog w) A (richCompare .Eq (.ref l) (.ref b)) Q E s := by
  refine wpAny_richCompare_same_room (op := .Eq) ⟨_, hl, rfl⟩ ⟨_, hb, rfl⟩ F.slot_list_eq (call_here F.slot_list_eq ⟨_, hl, rfl⟩ F.entry_list_eq (F.args_list_eq_2 _ _) ?_) hu
  exact list_eq0 (R := wants (fun v s' => v ≠ .notImplemented ∧ Q v s') E) hl hb ⟨(fun x => nomatch x), h⟩
theorem rc_tup0 {l b : Addr} {items : Array Value} {n n2 : Nat} {dd dd2 : Option Addr} {sl sl2 : Array (Option Value)} {s : Shared} {Q : Value → Shared → Prop} (hu : A.units < cLine) (hl : s.heap.get? l = some { cls := .type "tuple", dict := dd, data := .seq items n, slots := sl })
    (hb : s.heap.get? b = some { cls := .type "tuple", dict := dd2, data := .seq #[] n2, slots := sl2 }) (h : Q (.bool (items.size == 0)) s) : wpAny (model prog w) A (richCompare .Eq (.ref l) (.ref b)) Q E s := by
  refine wpAny_richCompare_same_room (op := .Eq) ⟨_, hl, rfl⟩ ⟨_, hb, rfl⟩ F.slot_tuple_eq (call_here F.slot_tuple_eq ⟨_, hl, rfl⟩ F.entry_tuple_eq (F.args_tuple_eq_2 _ _) ?_) hu
  exact tuple_eq0 (R := wants (fun v s' => v ≠ .notImplemented ∧ Q v s') E) hl hb ⟨(fun x => nomatch x), h⟩
end
end PySem.LwE
namespace Lw
open PySem PySem.Spec PyProof.Rows L2
theorem size0 {xs : List V} {its : List Value} (r : Vals xs its) : (its.toArray.size == 0) = xs.isEmpty := by
  cases r <;> rfl
/-- a tuple or a list beside an empty one -/
def rEq0 (K : PySem.W.Frag) : R2 := fun x y H Q => ∃ a b xs, x = .ref a ∧ y = .ref b ∧ ((SqT K H a xs ∧ SqT K H b []) ∨ (H a = some (.lst xs) ∧ H b = some (.lst []))) ∧ Q (.bl xs.isEmpty) H
theorem op_eq0 {X : Cx} (hu : X.A.units < cLine) : OpR X (compareOp .Eq) (rEq0 X.K) := by
  intro pins s σ H x y v u Q I rx ry h
  obtain ⟨a, b, xs, rfl, rfl, h, q⟩ := h
  cases (show v = Value.ref a from rx)
  cases (show u = Value.ref b from ry)
  rcases h with ⟨h1, h2⟩ | ⟨h1, h2⟩
  · obtain ⟨its, r1, ⟨o1, e1, c1, n1, d1⟩, _⟩ := I.tuple h1
    obtain ⟨it2, r2, ⟨o2, e2, c2, n2, d2⟩, _⟩ := I.tuple h2
    cases r2
    obtain ⟨oc1, od1, dt1, sl1⟩ := o1
    obtain ⟨oc2, od2, dt2, sl2⟩ := o2
    dsimp only at c1 d1 c2 d2
    subst c1 d1 c2 d2
    refine LwE.rc_tup0 hu e1 e2 ?_
    rw [size0 r1]
    exact ⟨.bl xs.isEmpty, H, I, rfl, q⟩
  · obtain ⟨_, its, n1, r1, e1⟩ := (show ObjOk X.prog X.w H s.heap a (.lst xs) from I.hok a _ h1)
    obtain ⟨_, it2, n2, r2, e2⟩ := (show ObjOk X.prog X.w H s.heap b (.lst []) from I.hok b _ h2)
    cases r2
    refine LwE.rc_list0 hu e1 e2 ?_
    rw [size0 r1]
    exact ⟨.bl xs.isEmpty, H, I, rfl, q⟩
end Lw
namespace Lw
open PySem PySem.Spec PyProof.Rows L2

/-! ### readings, closed upwards -/
def upA (t : TA) : TA := fun σ H F => ∃ F0, t σ H F0 ∧ ∀ vs H', F0 vs H' → F vs H'
theorem pa_up {X : Cx} {es : List Expr} {t : TA} (h : PA X es t) : PA X es (upA t) :=
  ⟨fun pos pins s σ H Q I ⟨F0, h0, hi⟩ => thn (h.run pos pins s σ H F0 I h0) fun us s' ⟨vs, H', I', r, q⟩ => ⟨vs, H', I', r, hi _ _ q⟩⟩
/-! ### a list is frozen: from here on it is only read -/
def tFrz (t : TS) : TS := fun D σ H => ∃ F : L2.St → Hp → Prop, t { D with nx := F } σ H ∧ ∀ σ' H', F σ' H' → ∃ d u, H' d = some u ∧ Mut (some u) ∧ ∀ od, D.nx σ' (upd H' d (.frz od u))
theorem ps_frz {X : Cx} {st : Stmt} {t : TS} (h : PS X st t) : PS X st (tFrz t) := by
  refine ⟨fun pins s σ H D I ⟨F, h0, hi⟩ => thn (h.run pins s σ H { D with nx := F } I h0) fun f s' q => ?_⟩
  cases f with
  | next =>
    obtain ⟨σ', H', I', q⟩ := q
    obtain ⟨d, u, hd, mu, k⟩ := hi σ' H' q
    obtain ⟨od, J⟩ := I'.lock hd mu
    exact ⟨σ', _, J, k od⟩
  | ret v => exact q
  | brk => exact q
  | cont => exact q
/-! ### what never changes -/
def Perm (C : Addr) : HO → Prop
  | .tup _ => True
  | .frz _ _ => True
  | .ins C' _ _ => C' = C
  | _ => False
def KP (C : Addr) (H H' : Hp) : Prop := ∀ b o, H b = some o → Perm C o → H' b = some o
theorem KP.refl {C : Addr} {H : Hp} : KP C H H := fun _ _ h _ => h
theorem KP.trans {C : Addr} {H1 H2 H3 : Hp} (a : KP C H1 H2) (b : KP C H2 H3) : KP C H1 H3 := fun c o h p => b c o (a c o h p) p
theorem KP.of {C : Addr} {H H' : Hp} (s : Same H H') : KP C H H' := fun b o h _ => s b o h
theorem KP.upd {C q : Addr} {H : Hp} {o0 o : HO} (hq : H q = some o0) (n : ¬ Perm C o0) : KP C H (L2.upd H q o) := fun b u h p => by
  rw [upd_ne]
  · exact h
  · intro z
    rw [z, hq] at h
    cases h
    exact n p
theorem KP.new {C q : Addr} {H : Hp} {o : HO} (hq : H q = none) : KP C H (L2.upd H q o) := .of (same_upd hq)
/-- all but some addresses are kept -/
def But (L : List Addr) (H H' : Hp) : Prop := ∀ b o, b ∉ L → H b = some o → H' b = some o
theorem But.refl {L : List Addr} {H : Hp} : But L H H := fun _ _ _ h => h
theorem But.trans {L : List Addr} {H1 H2 H3 : Hp} (a : But L H1 H2) (b : But L H2 H3) : But L H1 H3 := fun c o n h => b c o n (a c o n h)
theorem But.of {L : List Addr} {H H' : Hp} (s : Same H H') : But L H H' := fun b o _ h => s b o h
theorem But.upd {L : List Addr} {H : Hp} {q : Addr} {o : HO} (h : q ∈ L) : But L H (L2.upd H q o) := fun b u n e => by
  rw [upd_ne fun z => n (by rw [z]; exact h)]
  exact e
theorem But.mono {L L' : List Addr} {H H' : Hp} (h : But L H H') (s : ∀ b ∈ L, b ∈ L') : But L' H H' := fun b o n e => h b o (fun z => n (s b z)) e
theorem But.kp {L : List Addr} {C : Addr} {H H' : Hp} (h : But L H H') (n : ∀ b ∈ L, ∀ o, H b = some o → ¬ Perm C o) : KP C H H' := fun b o e p => h b o (fun z => n b z o e p) e
theorem But.nil {H H' : Hp} (h : But [] H H') : Same H H' := fun b o e => h b o (by simp) e
theorem sqT_kp {C : Addr} {K : PySem.W.Frag} {H H' : Hp} {a : Addr} {xs : List V} (s : KP C H H') (h : SqT K H a xs) : SqT K H' a xs := by
  rcases h with (h | ⟨o, h⟩) | h
  · exact .inl (.inl (s _ _ h trivial))
  · exact .inl (.inr ⟨o, s _ _ h trivial⟩)
  · exact .inr h
/-! ### errors raised -/
theorem pmk_er {X : Cx} {x f : Str} {p pos : Pos} {e : Expr} {es : List Expr} {ta : TA} (E : ErrOk X.prog X.w X.K X.mg X.base x f) (hr : Room 2 X.A) (ha : PA X (e :: es) ta) (hg : Gl X x := by rfl)
    (hdb : (x == ("__debug__" : Str)) = false := by decide) (he : starEach (e :: es) X.env = (false, eval e X.env) :: starEach es X.env := by rfl) (hpl : (backTo pos (starEach es X.env)).any (·.1) = false := by rfl) :
    PMk X (.Call (.Name x p) (e :: es) [] pos) (fun σ H Q => ta σ H fun vs H1 => ∃ v, vs = [v] ∧ ∀ d H', Same H1 H' → H1 d = none → H' d = some (.xd [(f, v)]) → Q (.ref (He.ga X.K x)) (some d) H') := by
  obtain ⟨fI, fd, h1, h2, h3, h4, h5, h6, h7⟩ := E.ex
  have M := pmk_oex (CX := CX0) (es := es) (e := e) (pos := pos) (p := p) (x := x) (ps := ["self", f]) (dvs := []) h2.oex h3 h4 h5 hr h6 .nil (fun _ _ _ _ _ _ _ z => z.elim) hg h1 (pa_up ha) hdb he hpl
  intro pins s σ H Q I h
  refine M pins s σ H Q I ⟨_, h, ?_⟩
  rintro vs H1 ⟨v, rfl, k⟩
  refine ⟨(by decide : 1 ≤ 1000), fun a ha => ⟨a, v, rfl, upd_same, fun d hd nd => ⟨rfl, d, [(f, v)], upd_same, ?_, ?_, k d _ ?_ ?_ upd_same⟩⟩⟩
  · rw [upd_ne nd, upd_same]
  · rw [upd_ne nd] at hd
    exact hd
  · rw [upd_ne nd] at hd
    intro b o e
    rw [upd_ne (ne_of_none e hd), del_ne (ne_of_none e ha), upd_ne (ne_of_none e ha), upd_ne (ne_of_none e hd), upd_ne (ne_of_none e ha)]
    exact e
  · rw [upd_ne nd] at hd
    exact hd
/-- raise X(e) out of a def -/
def tRz (K : PySem.W.Frag) (x f : Str) (E : XK) (ta : TA) : TS := fun _ σ H => ta σ H fun vs H1 => ∃ v, vs = [v] ∧ ∀ d H', Same H1 H' → H1 d = none → H' d = some (.xd [(f, v)]) → E (.ref (He.ga K x)) (some d) H'
/-- an own error's own class in the classes' table -/
theorem passX {X : Cx} {P : Program} {w : World} (hp : X.prog = P) (hw : X.w = w) : Passes (L2.CX P w) X (fun _ _ _ => False) := fun pins σ H s e s' _ h => by
  obtain ⟨_, _, _, _, _, _, _, _, _, _, _, _, z⟩ := h
  exact z.elim
/-! ### comprehensions whose element only reads -/
theorem lc_one {J : It} {n : Nat} {G : Hp → Prop} {Y : Nat → Hp → V → Hp → Prop} (w : Walk J n G Y) {te : TE} {vs : List Nat} {σ : L2.St} {H1 : Hp} {D : Addr} {Qd : Hp → Prop} (j : Nat) (f : Nat → V) (hn : n ≤ 16000000) (hG : ∀ l, G (upd H1 D (.lst l)))
    (hw : ∀ v, wipe ((wipe σ vs).set j (some v)) vs = wipe σ vs) (hY : ∀ i H x H', Y i H x H' → H' = H)
    (hs : ∀ i x l (R : VK), i < n → Y i (upd H1 D (.lst l)) x (upd H1 D (.lst l)) → R (f i) (upd H1 D (.lst l)) → te ((wipe σ vs).set j (some x)) (upd H1 D (.lst l)) R) (hd : Qd (upd H1 D (.lst ((List.range n).map f)))) :
    ∃ W : Nat → Nat → Hp → Prop, (∃ m, W 0 m (upd H1 D (.lst []))) ∧ ∀ i m H, W i m H →
      (J.stop i H ∧ Qd H) ∨ (J.go i H ∧ ∃ Nx : Hp → Prop, (∀ H', Nx H' → ∃ m', m' < m ∧ W (i + 1) m' H') ∧ ∀ x H', J.yld i H x H' → gName j x (wipe σ vs) H' fun σ2 H2 => wipe σ2 vs = wipe σ vs ∧ tYes σ2 H2 fun b H3 =>
        if b = true then te σ2 H3 fun y H4 => ∃ acc, H4 D = some (.lst acc) ∧ acc.length < sizeLine ∧ Nx (upd H4 D (.lst (acc ++ [y]))) else Nx H3) := by
  refine lc_it w (fun i H => i ≤ n ∧ H = upd H1 D (.lst ((List.range i).map f))) ⟨Nat.zero_le _, rfl⟩ (fun i H _ ⟨_, e⟩ => e ▸ hG _) ?_ ?_
  · rintro i x H H' hi ⟨_, rfl⟩ y
    have e := hY _ _ _ _ y
    subst e
    refine ⟨hw _, ?_⟩
    show te _ _ _
    refine hs i x _ _ hi y ⟨_, upd_same, ?_, hi, ?_⟩
    · rw [List.length_map, List.length_range, sizeLine_eq]
      omega
    · rw [upd_upd, List.range_succ, List.map_append, List.map_singleton]
  · rintro H ⟨_, rfl⟩
    exact hd
end Lw
namespace Lw
open PySem PySem.Spec PyProof.Rows L2

/-! ### names, sources, stages as data -/
def letters : Str := "abcdefghijklmnopqrstuvwxyz"
def nameB (x : Str) : Bool := decide (1 ≤ x.length) && (decide (x.length ≤ 8) && x.cps.toList.all fun c => decide (c ∈ letters.cps.toList))
def sources : List Str := ["a", "b", "c", "d"]
def named : List Str := ["map", "keep", "while", "after"]
def counted : List Str := ["take", "skip", "lots", "gather"]
/-- sources, each once -/
def LsOk (ls : List Str) : Prop := ls.Nodup ∧ ∀ x ∈ ls, x ∈ sources
theorem len_sub : ∀ {l m : List Str}, l.Nodup → (∀ x ∈ l, x ∈ m) → l.length ≤ m.length
  | [], _, _, _ => Nat.zero_le _
  | x :: r, m, h, s => by
    obtain ⟨h1, h2⟩ := List.nodup_cons.mp h
    have hx := s x (by simp)
    have e := List.length_erase_of_mem hx
    have q := len_sub (l := r) (m := m.erase x) h2 (fun y hy => (List.mem_erase_of_ne (by rintro rfl; exact h1 hy)).mpr (s y (by simp [hy])))
    have p := List.length_pos_of_mem hx
    rw [List.length_cons]
    omega
theorem LsOk.len {ls : List Str} (h : LsOk ls) : ls.length ≤ 4 := len_sub h.1 h.2
theorem LsOk.one {x : Str} (h : x ∈ sources) : LsOk [x] := ⟨by simp, by simpa using h⟩
theorem LsOk.app {l m : List Str} (h : LsOk l) (g : LsOk m) (n : (m.any fun x => decide (x ∈ l)) = false) : LsOk (l ++ m) := by
  refine ⟨List.nodup_append.mpr ⟨h.1, g.1, ?_⟩, ?_⟩
  · rintro x hx y hy rfl
    have q := List.any_eq_false.mp n x hy
    exact q (decide_eq_true hx)
  · intro x hx
    rcases List.mem_append.mp hx with q | q
    · exact h.2 x q
    · exact g.2 x q
/-- a program object: the depths, the sources, the row of stages -/
def PrI (C : Addr) (K : PySem.W.Frag) (H : Hp) (p : Addr) (hs : List Int) (ls : List Str) (row : List V) : Prop := ∃ dx h l r oh ol,
  H p = some (.ins C dx [("heights", .ref h), ("leaves", .ref l), ("row", .ref r)]) ∧ H h = some (.frz oh (.lst (hs.map V.int))) ∧ H l = some (.frz ol (.lst (ls.map V.str))) ∧ SqT K H r row ∧ hs ≠ [] ∧ LsOk ls ∧ ls ≠ [] ∧ hs.length ≤ 7 ∧ row.length ≤ 6
theorem PrI.kp {C : Addr} {K : PySem.W.Frag} {H H' : Hp} {p : Addr} {hs : List Int} {ls : List Str} {row : List V} (s : KP C H H') (h : PrI C K H p hs ls row) : PrI C K H' p hs ls row := by
  obtain ⟨dx, a, l, r, oh, ol, h1, h2, h3, h4, h5⟩ := h
  exact ⟨dx, a, l, r, oh, ol, s _ _ h1 rfl, s _ _ h2 trivial, s _ _ h3 trivial, sqT_kp s h4, h5⟩
inductive Sg where
  | nm (w x : Str)
  | nu (w : Str) (n : Int)
  | flat
  | zip (p : Addr) (hs : List Int) (ls : List Str) (row : List V)
inductive StG (C : Addr) (K : PySem.W.Frag) (H : Hp) : V → Sg → Prop
  | nm {t : Addr} {w x : Str} : SqT K H t [.str w, .str x] → w ∈ named → nameB x = true → StG C K H (.ref t) (.nm w x)
  | nu {t : Addr} {w : Str} {n : Int} : SqT K H t [.str w, .int n] → w ∈ counted → 1 ≤ n → n ≤ 4 → StG C K H (.ref t) (.nu w n)
  | flat {t : Addr} : SqT K H t [.str "flat"] → StG C K H (.ref t) .flat
  | zip {t p : Addr} {hs : List Int} {ls : List Str} {row : List V} : SqT K H t [.str "zip", .ref p] → PrI C K H p hs ls row → StG C K H (.ref t) (.zip p hs ls row)
theorem StG.kp {C : Addr} {K : PySem.W.Frag} {H H' : Hp} {v : V} {s : Sg} (k : KP C H H') (h : StG C K H v s) : StG C K H' v s := by
  cases h with
  | nm a b c => exact .nm (sqT_kp k a) b c
  | nu a b c d => exact .nu (sqT_kp k a) b c d
  | flat a => exact .flat (sqT_kp k a)
  | zip a b => exact .zip (sqT_kp k a) (b.kp k)
def lastI (hs : List Int) : Int := hs.getLast?.getD 0
def behind (d : Int) : Sg → Int
  | .nm w _ => if w = "map" then 0 else d
  | .nu w _ => if w = "lots" then d + 1 else d
  | .flat => d - 1
  | .zip _ hs _ _ => 1 + min d (lastI hs)
def stands (d : Int) (L : List Str) : Sg → Bool
  | .zip _ _ ls _ => !(ls.any fun x => decide (x ∈ L))
  | .flat => decide (0 < d)
  | _ => true
def leavesOf : Sg → List Str
  | .zip _ _ ls _ => ls
  | _ => []
/-- any value that is no stage, and why -/
inductive Bad (C : Addr) (K : PySem.W.Frag) (H : Hp) : V → Prop
  | ty {v : V} {t : Value} : TyX K H v t → PySem.W.kitOne K t (.type "tuple") = some false → Bad C K H v
  | nil {a : Addr} : SqT K H a [] → Bad C K H (.ref a)
  | fst {a : Addr} {x : V} {r : List V} {t : Value} : SqT K H a (x :: r) → TyX K H x t → PySem.W.kitOne K t (.type "str") = some false → Bad C K H (.ref a)
  | flat {a : Addr} {r : List V} : SqT K H a (.str "flat" :: r) → r ≠ [] → Bad C K H (.ref a)
  | len {a : Addr} {w : Str} {r : List V} : SqT K H a (.str w :: r) → w ≠ "flat" → r.length ≠ 1 → Bad C K H (.ref a)
  | zip {a : Addr} {y : V} {t : Value} : SqT K H a [.str "zip", y] → TyX K H y t → PySem.W.kitOne K t (.ref C) = some false → Bad C K H (.ref a)
  | word {a : Addr} {w : Str} {y : V} : SqT K H a [.str w, y] → w ≠ "flat" → w ≠ "zip" → w ∉ named → w ∉ counted → Bad C K H (.ref a)
  | nmT {a : Addr} {w : Str} {y : V} {t : Value} : SqT K H a [.str w, y] → w ∈ named → TyX K H y t → PySem.W.kitOne K t (.type "str") = some false → Bad C K H (.ref a)
  | nmS {a : Addr} {w x : Str} : SqT K H a [.str w, .str x] → w ∈ named → nameB x = false → x.length ≤ 1000 → Bad C K H (.ref a)
  | nuT {a : Addr} {w : Str} {y : V} {t : Value} : SqT K H a [.str w, y] → w ∈ counted → TyX K H y t → PySem.W.kitOne K t (.type "int") = some false → Bad C K H (.ref a)
  | nuB {a : Addr} {w : Str} {b : Bool} : SqT K H a [.str w, .bl b] → w ∈ counted → Bad C K H (.ref a)
  | nuI {a : Addr} {w : Str} {n : Int} : SqT K H a [.str w, .int n] → w ∈ counted → ¬ (1 ≤ n ∧ n ≤ 4) → Bad C K H (.ref a)
/-- the stages one behind the other, from position n on: the first that can't stand, or the depths and sources behind them all -/
inductive Run (C : Addr) (K : PySem.W.Frag) (H : Hp) : Nat → List Int → List Str → List V → Sum Nat (List Int × List Str) → Prop
  | nil {n : Nat} {hs : List Int} {ls : List Str} : Run C K H n hs ls [] (.inr (hs, ls))
  | bad {n : Nat} {hs : List Int} {ls : List Str} {v : V} {r : List V} : Bad C K H v → Run C K H n hs ls (v :: r) (.inl n)
  | off {n : Nat} {hs : List Int} {ls : List Str} {v : V} {r : List V} {s : Sg} : StG C K H v s → stands (lastI hs) ls s = false → Run C K H n hs ls (v :: r) (.inl n)
  | on {n : Nat} {hs : List Int} {ls : List Str} {v : V} {r : List V} {s : Sg} {o : Sum Nat (List Int × List Str)} : StG C K H v s → stands (lastI hs) ls s = true → Run C K H (n + 1) (hs ++ [behind (lastI hs) s]) (ls ++ leavesOf s) r o → Run C K H n hs ls (v :: r) o
theorem ty_tup {K : PySem.W.Frag} {H : Hp} {a : Addr} {xs : List V} (h : SqT K H a xs) : TyX K H (.ref a) (.type "tuple") := by
  rcases h with (h | ⟨o, h⟩) | ⟨o, its, n, h, c, _⟩
  · exact .base (.tup h)
  · exact .fTuple h
  · exact .kTuple h c
theorem ty_lst {K : PySem.W.Frag} {H : Hp} {a : Addr} {xs : List V} (h : SqL K H a xs) : TyX K H (.ref a) (.type "list") := by
  rcases h with (h | ⟨o, h⟩) | ⟨o, its, n, h, c, _⟩
  · exact .base (.lst h)
  · exact .base (.frz h)
  · exact .kList h c
theorem none_same {H H' : Hp} {d : Addr} (s : Same H H') (h : H' d = none) : H d = none := by
  rcases q : H d with _ | o
  · rfl
  · rw [s _ _ q] at h
    cases h
theorem none_but {L : List Addr} {H H' : Hp} {d : Addr} (s : But L H H') (n : ∀ b ∈ L, H' b ≠ none) (h : H' d = none) : H d = none := by
  rcases q : H d with _ | o
  · rfl
  · by_cases z : d ∈ L
    · exact absurd h (n d z)
    · rw [s _ _ z q] at h
      cases h
theorem inV_str (x : Str) : ∀ l : List Str, inV (.str x) (l.map V.str) = decide (x ∈ l)
  | [] => by simp [inV]
  | y :: r => by
    have ih := inV_str x r
    unfold inV at ih ⊢
    rw [List.map_cons, List.any_cons, ih]
    have e : eqV (V.str y) (V.str x) = decide (x = y) := by
      show _ = _
      by_cases h : x = y
      · subst h
        simp [eqV]
      · have h2 : ¬ y = x := fun z => h z.symm
        simp [eqV, h, h2]
    rw [e]
    by_cases h : x = y
    · subst h
      simp
    · simp [h]
theorem all_str : ∀ l : List Str, (l.map V.str).all flatV = true
  | [] => rfl
  | _ :: r => by
    rw [List.map_cons, List.all_cons, all_str r]
    rfl
/-! ### methods, properties, classes by their names -/
structure MethOk (P : Program) (w : World) (K : PySem.W.Frag) (mg : Str → Option Value) (base : Heap) (CX : CXT) (k : Nat) (C : Addr) (m : Str) (ps : List Str) (sp : Sp) : Prop where
  ex : ∃ (f : Addr) (fd : FuncData), FnOk P w K mg base CX k f fd ps sp ∧ Meth K C m f ∧ Binds K fd ps [] ∧ Cls K C
structure PropOk (P : Program) (w : World) (K : PySem.W.Frag) (mg : Str → Option Value) (base : Heap) (CX : CXT) (k : Nat) (C : Addr) (m : Str) (sp : Sp) : Prop where
  ex : ∃ (p g : Addr) (fd : FuncData), FnOk P w K mg base CX k g fd ["self"] sp ∧ PropOf K C m p g ∧ Binds K fd ["self"] [] ∧ Cls K C
structure MakeOk (P : Program) (w : World) (K : PySem.W.Frag) (mg : Str → Option Value) (base : Heap) (CX : CXT) (k : Nat) (C : Addr) (x : Str) (ps : List Str) (dvs : List V) (sp : Sp) : Prop where
  ex : ∃ (f : Addr) (fd : FuncData) (ds : List Value), FnOk P w K mg base CX k f fd ps sp ∧ Mk K C f ∧ Binds K fd ps ds ∧ Vals dvs ds ∧ mg x = some (.ref C)
section
variable {X : Cx} {CX : CXT} {k : Nat} {ps : List Str} {dvs : List V} {sp : Sp} {E : XK} {x m : Str} {C : Addr} {p pos apos : Pos} {e o : Expr} {es : List Expr} {ta : TE} {t : TA}
theorem pe_mt {pl : Sem Bool} (M : MethOk X.prog X.w X.K X.mg X.base CX k C m ps sp) (hr : Room k X.A) (hx : Passes CX X E) (he : PE X o ta) (ha : PA X (e :: es) t)
    (hst : starEach (e :: es) X.env = (false, eval e X.env) :: starEach es X.env := by rfl) (hpl : (backTo pos (starEach es X.env)).any (·.1) = false := by rfl)
    (ht : eval (.Call (.Attribute o m apos) (e :: es) [] pos) X.env = (do
      let ov ← eval o X.env
      standAt apos.atName
      let (f, first) ← holding [ov] (getMethod ov m pl)
      callWith pos f first (backTo pos (starEach (e :: es) X.env)) (backToKw pos (keywordEach [] X.env))) := by rfl) :
    PE X (.Call (.Attribute o m apos) (e :: es) [] pos) (tMeth C m sp [] E ta t) := by
  obtain ⟨f, fd, F, hm, hb, hc⟩ := M.ex
  exact pe_meth he hc hm F hr hb .nil hx ha hst hpl ht
theorem pe_mt0 {pl : Sem Bool} (M : MethOk X.prog X.w X.K X.mg X.base CX k C m ps sp) (hr : Room k X.A) (hx : Passes CX X E) (he : PE X o ta)
    (ht : eval (.Call (.Attribute o m apos) [] [] pos) X.env = (do
      let ov ← eval o X.env
      standAt apos.atName
      let (f, first) ← holding [ov] (getMethod ov m pl)
      callWith pos f first (backTo pos (starEach [] X.env)) (backToKw pos (keywordEach [] X.env))) := by rfl) :
    PE X (.Call (.Attribute o m apos) [] [] pos) (tMeth C m sp [] E ta tNil) := by
  obtain ⟨f, fd, F, hm, hb, hc⟩ := M.ex
  exact pe_meth0 he hc hm F hr hb .nil hx ht
theorem pe_pp (M : PropOk X.prog X.w X.K X.mg X.base CX k C m sp) (hr : Room (k + 1) X.A) (hx : Passes CX X.nox E) (he : PE X e ta) (hab : attributeBase e m X.env (eval e X.env) = eval e X.env := by rfl) :
    PE X (.Attribute e m pos) (tProp C sp [] E ta) := by
  obtain ⟨p, g, fd, F, hp, hb, hc⟩ := M.ex
  exact pe_prop he hc hp F hr hb .nil hx hab
theorem pe_mk (M : MakeOk X.prog X.w X.K X.mg X.base CX k C x ps dvs sp) (hr : Room (k + 1) X.A) (hx : Passes CX X E) (ha : PA X (e :: es) t) (hg : Gl X x := by rfl)
    (hdb : (x == ("__debug__" : Str)) = false := by decide) (he : starEach (e :: es) X.env = (false, eval e X.env) :: starEach es X.env := by rfl) (hpl : (backTo pos (starEach es X.env)).any (·.1) = false := by rfl) :
    PE X (.Call (.Name x p) (e :: es) [] pos) (tMake C sp dvs E t) := by
  obtain ⟨f, fd, ds, F, hM, hb, hd, hm⟩ := M.ex
  exact pe_make hM F hr hg hm hb hd hx ha hdb he hpl
theorem pe_mk0 (M : MakeOk X.prog X.w X.K X.mg X.base CX k C x ps dvs sp) (hr : Room (k + 1) X.A) (hx : Passes CX X E) (hg : Gl X x := by rfl) (hdb : (x == ("__debug__" : Str)) = false := by decide) :
    PE X (.Call (.Name x p) [] [] pos) (tMake C sp dvs E tNil) := by
  obtain ⟨f, fd, ds, F, hM, hb, hd, hm⟩ := M.ex
  exact pe_make0 hM F hr hg hm hb hd hx hdb
end
/-! ### what the program's class must be -/
structure PcF (K : PySem.W.Frag) (C : Addr) : Prop where
  cl : Cls K C
  nH : NoAttr K C "heights"
  nL : NoAttr K C "leaves"
  nR : NoAttr K C "row"
  ha : PySem.W.findIn K (.ref C) "__class__" = some (some (.builtin "object.__class__"))
  hn : PySem.W.specialIn K (.builtin "object.__class__") "__get__" = some (some (.builtin "getset_descriptor.__get__"))
  ht : PySem.W.takesIn K (.builtin "object.__class__") = some true
  hm : PySem.W.mroIn K C (.type "object") = some true
  kPP : PySem.W.kitOne K (.ref C) (.ref C) = some true
  kPt : ∀ n ∈ ["str", "tuple", "int", "list", "bool", "dict"], PySem.W.kitOne K (.ref C) (.type n) = some false
  ktP : ∀ n ∈ ["NoneType", "bool", "int", "str", "list", "tuple", "dict"], PySem.W.kitOne K (.type n) (.ref C) = some false
def pcB (K : PySem.W.Frag) (C : Addr) : Bool := (PySem.W.plainGet K C Str.empty && (PySem.W.hasDictIn K C && (PySem.W.plainOver K C && decide (PySem.W.findIn K (.ref C) "__setattr__" = some (some (.builtin "object.__setattr__")))))) &&
  ((decide (PySem.W.findIn K (.ref C) "heights" = some none) && (decide (PySem.W.findIn K (.ref C) "leaves" = some none) && decide (PySem.W.findIn K (.ref C) "row" = some none))) &&
  ((decide (PySem.W.findIn K (.ref C) "__class__" = some (some (.builtin "object.__class__"))) && (decide (PySem.W.specialIn K (.builtin "object.__class__") "__get__" = some (some (.builtin "getset_descriptor.__get__"))) &&
    (decide (PySem.W.takesIn K (.builtin "object.__class__") = some true) && decide (PySem.W.mroIn K C (.type "object") = some true)))) &&
  (decide (PySem.W.kitOne K (.ref C) (.ref C) = some true) && ((["str", "tuple", "int", "list", "bool", "dict"].all fun n => decide (PySem.W.kitOne K (.ref C) (.type n) = some false)) &&
    ["NoneType", "bool", "int", "str", "list", "tuple", "dict"].all fun n => decide (PySem.W.kitOne K (.type n) (.ref C) = some false)))))
theorem pcB_ok {K : PySem.W.Frag} {C : Addr} (h : pcB K C = true) : PcF K C := by
  unfold pcB at h
  simp only [Bool.and_eq_true, decide_eq_true_eq, List.all_eq_true] at h
  obtain ⟨⟨a1, a2, a3, a4⟩, ⟨b1, b2, b3⟩, ⟨c1, c2, c3, c4⟩, d1, d2, d3⟩ := h
  exact ⟨⟨a1, a2, a3, a4⟩, b1, b2, b3, c1, c2, c3, c4, d1, d2, d3⟩
theorem ty_prog {K : PySem.W.Frag} {H : Hp} {C p : Addr} {hs : List Int} {ls : List Str} {row : List V} (T : PcF K C) (h : PrI C K H p hs ls row) : TyX K H (.ref p) (.ref C) := by
  obtain ⟨dx, a, l, r, oh, ol, h1, _⟩ := h
  exact .base (.ins h1 T.cl T.ha T.hn T.ht T.hm)
/-! ### tuple(x) of a list or a tuple -/
theorem call_list_or {X : Cx} : CallR X (.type "tuple") (fun xs H Q => ∃ p ys, xs = [.ref p] ∧ ((SqL X.K H p ys ∧ ∀ l, H l = none → Q (.ref l) (upd H l (.tup ys))) ∨ (SqT X.K H p ys ∧ Q (.ref p) H))) := call_tuple_of
theorem lookup_1 {f : Str} {v : V} {r : List (Str × V)} : List.lookup f ((f, v) :: r) = some v := by simp [List.lookup]
theorem lookup_2 {f g : Str} {v : V} {r : List (Str × V)} (h : (f == g) = false := by decide +kernel) : List.lookup f ((g, v) :: r) = List.lookup f r := by simp [List.lookup, h]
theorem sqL_same {K : PySem.W.Frag} {H H' : Hp} (s : Same H H') {a : Addr} {xs : List V} (h : SqL K H a xs) : SqL K H' a xs := by
  rcases h with (h | ⟨o, h⟩) | h
  · exact .inl (.inl (s _ _ h))
  · exact .inl (.inr ⟨o, s _ _ h⟩)
  · exact .inr h
/-! ### list.extend by a list that is frozen -/
theorem mt_extendR {X : Cx} : MtM X "list.extend" (fun x vs H Q => ∃ l b xs zs, x = .ref l ∧ vs = [.ref b] ∧ H l = some (.lst xs) ∧ Rd H b (.lst zs) ∧ xs.length + zs.length ≤ sizeLine ∧ Q .non (upd H l (.lst (xs ++ zs)))) := by
  intro pins s σ H x vs v us Q I rx rv h
  obtain ⟨l, b, xs, zs, rfl, rfl, hH, hB, hz, q⟩ := h
  cases rx
  obtain ⟨u, rfl, ru⟩ := rv.one
  cases ru
  obtain ⟨z, its, n, r, hl, e⟩ := I.lstM hH
  obtain ⟨z2, its2, n2, r2, e2⟩ := hB.ok I.hok
  have hl2 := r2.length
  have hsz : its.toArray.size + its2.toArray.size ≤ sizeLine := by rw [List.size_toArray, List.size_toArray]; omega
  have hlong : ¬ (!its.toArray.isEmpty && Builtin.List.listTooLong (its.toArray.size + its2.toArray.size)) = true := by
    rw [notLongL hsz, Bool.and_false]
    exact Bool.false_ne_true
  refine call_meets F.slot_list_extend ⟨_, e, rfl⟩ F.entry_list_extend (F.args_list_extend_2 _ _)
    (AutoSeq1.list_extend_list_list_0 l its.toArray n b its2.toArray n2 hlong (by rw [List.size_toArray]; omega) (by omega)) ⟨e, e2, ?_⟩
  refine ⟨.non, _, I.lset (its' := its ++ its2) hH e (by simp) (r.append r2) ?_, rfl, q⟩
  rw [List.length_append]
  omega
/-! ### what stands behind a stage's word -/
inductive Tl (C : Addr) (K : PySem.W.Frag) (H : Hp) (w : Str) : List V → Bool → Prop
  | flat {r : List V} : w = "flat" → Tl C K H w r r.isEmpty
  | len {r : List V} : w ≠ "flat" → r.length ≠ 1 → Tl C K H w r false
  | zip {y : V} {t : Value} {b : Bool} : w = "zip" → TyX K H y t → PySem.W.kitOne K t (.ref C) = some b → Tl C K H w [y] b
  | word {y : V} : w ≠ "flat" → w ≠ "zip" → w ∉ named → w ∉ counted → Tl C K H w [y] false
  | nmS {x : Str} : w ∈ named → x.length ≤ 1000 → Tl C K H w [.str x] (nameB x)
  | nmT {y : V} {t : Value} : w ∈ named → TyX K H y t → PySem.W.kitOne K t (.type "str") = some false → Tl C K H w [y] false
  | nuI {n : Int} : w ∈ counted → Tl C K H w [.int n] (decide (1 ≤ n ∧ n ≤ 4))
  | nuB {b : Bool} : w ∈ counted → Tl C K H w [.bl b] false
  | nuT {y : V} {t : Value} : w ∈ counted → TyX K H y t → PySem.W.kitOne K t (.type "int") = some false → Tl C K H w [y] false
theorem named_ne {w : Str} (h : w ∈ named) : w ≠ "flat" ∧ w ≠ "zip" ∧ w ∉ counted := by
  have key : ∀ w ∈ named, w ≠ "flat" ∧ w ≠ "zip" ∧ w ∉ counted := by decide +kernel
  exact key w h
theorem numbered_ne {w : Str} (h : w ∈ counted) : w ≠ "flat" ∧ w ≠ "zip" ∧ w ∉ named := by
  have key : ∀ w ∈ counted, w ≠ "flat" ∧ w ≠ "zip" ∧ w ∉ named := by decide +kernel
  exact key w h
theorem nameB_len {x : Str} (h : nameB x = true) : x.length ≤ 8 := by
  unfold nameB at h
  obtain ⟨_, h⟩ := Bool.and_eq_true_iff.mp h
  exact of_decide_eq_true (Bool.and_eq_true_iff.mp h).1
theorem StG.tl {C : Addr} {K : PySem.W.Frag} {H : Hp} {v : V} {s : Sg} (T : PcF K C) (h : StG C K H v s) : ∃ a w r, v = .ref a ∧ SqT K H a (.str w :: r) ∧ Tl C K H w r true := by
  cases h with
  | @nm t w x a b c => exact ⟨_, _, _, rfl, a, by have := nameB_len c; have q := Tl.nmS (C := C) (K := K) (H := H) (x := x) b (by omega : x.length ≤ 1000); rw [c] at q; exact q⟩
  | @nu t w n a b c d => exact ⟨_, _, _, rfl, a, by have q := Tl.nuI (C := C) (K := K) (H := H) (n := n) b; rw [decide_eq_true ⟨c, d⟩] at q; exact q⟩
  | flat a => exact ⟨_, _, _, rfl, a, .flat rfl⟩
  | zip a b => exact ⟨_, _, _, rfl, a, .zip rfl (ty_prog T b) T.kPP⟩
theorem Bad.tl {C : Addr} {K : PySem.W.Frag} {H : Hp} {v : V} (h : Bad C K H v) : (∃ t, TyX K H v t ∧ PySem.W.kitOne K t (.type "tuple") = some false) ∨ (∃ a, v = .ref a ∧ SqT K H a []) ∨
    (∃ a x r t, v = .ref a ∧ SqT K H a (x :: r) ∧ TyX K H x t ∧ PySem.W.kitOne K t (.type "str") = some false) ∨ ∃ a w r, v = .ref a ∧ SqT K H a (.str w :: r) ∧ Tl C K H w r false := by
  cases h with
  | ty a b => exact .inl ⟨_, a, b⟩
  | nil a => exact .inr (.inl ⟨_, rfl, a⟩)
  | fst a b c => exact .inr (.inr (.inl ⟨_, _, _, _, rfl, a, b, c⟩))
  | @flat a r a b =>
    refine .inr (.inr (.inr ⟨_, _, _, rfl, a, ?_⟩))
    have q := Tl.flat (C := C) (K := K) (H := H) (w := "flat") (r := r) rfl
    cases r with
    | nil => exact absurd rfl b
    | cons _ _ => exact q
  | len a b c => exact .inr (.inr (.inr ⟨_, _, _, rfl, a, .len b c⟩))
  | zip a b c => exact .inr (.inr (.inr ⟨_, _, _, rfl, a, .zip rfl b c⟩))
  | word a b c d e => exact .inr (.inr (.inr ⟨_, _, _, rfl, a, .word b c d e⟩))
  | nmT a b c d => exact .inr (.inr (.inr ⟨_, _, _, rfl, a, .nmT b c d⟩))
  | @nmS _ w x a b c d => exact .inr (.inr (.inr ⟨_, _, _, rfl, a, by have q := Tl.nmS (C := C) (K := K) (H := H) (x := x) b d; rw [c] at q; exact q⟩))
  | nuT a b c d => exact .inr (.inr (.inr ⟨_, _, _, rfl, a, .nuT b c d⟩))
  | nuB a b => exact .inr (.inr (.inr ⟨_, _, _, rfl, a, .nuB b⟩))
  | @nuI _ w n a b c => exact .inr (.inr (.inr ⟨_, _, _, rfl, a, by have q := Tl.nuI (C := C) (K := K) (H := H) (n := n) b; rw [decide_eq_false c] at q; exact q⟩))
theorem tyx_same {K : PySem.W.Frag} {H H' : Hp} (s : Same H H') {v : V} {t : Value} (h : TyX K H v t) : TyX K H' v t := by
  cases h with
  | base b =>
    refine .base ?_
    cases b with
    | non => exact .non
    | bl x => exact .bl x
    | int i => exact .int i
    | str x => exact .str x
    | flt x => exact .flt x
    | lst e => exact .lst (s _ _ e)
    | frz e => exact .frz (s _ _ e)
    | tup e => exact .tup (s _ _ e)
    | dK e => exact .dK (s _ _ e)
    | dT e => exact .dT (s _ _ e)
    | ins e a b c d f => exact .ins (s _ _ e) a b c d f
  | byt b => exact .byt b
  | set e => exact .set (s _ _ e)
  | kList e c => exact .kList e c
  | kTuple e c => exact .kTuple e c
  | kDict e c => exact .kDict e c
  | fTuple e => exact .fTuple (s _ _ e)
  | fDict e => exact .fDict (s _ _ e)
theorem Tl.same {C : Addr} {K : PySem.W.Frag} {H H' : Hp} (s : Same H H') {w : Str} {r : List V} {b : Bool} (h : Tl C K H w r b) : Tl C K H' w r b := by
  cases h with
  | flat a => exact .flat a
  | len a b => exact .len a b
  | zip a b c => exact .zip a (tyx_same s b) c
  | word a b c d => exact .word a b c d
  | nmS a b => exact .nmS a b
  | nmT a b c => exact .nmT a (tyx_same s b) c
  | nuI a => exact .nuI a
  | nuB a => exact .nuB a
  | nuT a b c => exact .nuT a (tyx_same s b) c
theorem sc_str (a b : Str) : decide (V.str a = V.str b) = decide (a = b) := by
  by_cases h : a = b
  · subst h
    simp
  · simp [h]
/-! ### all stays, but new instances may get their attributes -/
def Kp (C : Addr) (H H' : Hp) : Prop := ∀ b o, H b = some o → H' b = some o ∨ ∃ dx fs, o = .ins C dx [] ∧ H' b = some (.ins C dx fs)
theorem Kp.of {C : Addr} {H H' : Hp} (s : Same H H') : Kp C H H' := fun b o e => .inl (s b o e)
theorem Kp.but {C a dx : Addr} {fs : List (Str × V)} {H H' : Hp} (s : But [a] H H') (h : H a = some (.ins C dx [])) (h' : H' a = some (.ins C dx fs)) : Kp C H H' := fun b o e => by
  by_cases z : b = a
  · subst z
    rw [h] at e
    cases e
    exact .inr ⟨_, _, rfl, h'⟩
  · exact .inl (s b o (by simpa using z) e)
theorem Kp.get {C : Addr} {H H' : Hp} (s : Kp C H H') {b : Addr} {o : HO} (e : H b = some o) (n : ∀ dx, o ≠ .ins C dx []) : H' b = some o := by
  rcases s b o e with h | ⟨dx, _, h, _⟩
  · exact h
  · exact absurd h (n dx)
theorem tyx_kp {C : Addr} {K : PySem.W.Frag} {H H' : Hp} (s : Kp C H H') {v : V} {t : Value} (h : TyX K H v t) : TyX K H' v t := by
  cases h with
  | base b =>
    refine .base ?_
    cases b with
    | non => exact .non
    | bl x => exact .bl x
    | int i => exact .int i
    | str x => exact .str x
    | flt x => exact .flt x
    | lst e => exact .lst (s.get e fun _ z => nomatch z)
    | frz e => exact .frz (s.get e fun _ z => nomatch z)
    | tup e => exact .tup (s.get e fun _ z => nomatch z)
    | dK e => exact .dK (s.get e fun _ z => nomatch z)
    | dT e => exact .dT (s.get e fun _ z => nomatch z)
    | ins e a b c d f =>
      rcases s _ _ e with h | ⟨dx, fs, h, h'⟩
      · exact .ins h a b c d f
      · cases h
        exact .ins h' a b c d f
  | byt b => exact .byt b
  | set e => exact .set (s.get e fun _ z => nomatch z)
  | kList e c => exact .kList e c
  | kTuple e c => exact .kTuple e c
  | kDict e c => exact .kDict e c
  | fTuple e => exact .fTuple (s.get e fun _ z => nomatch z)
  | fDict e => exact .fDict (s.get e fun _ z => nomatch z)
theorem sqT_Kp {C : Addr} {K : PySem.W.Frag} {H H' : Hp} {a : Addr} {xs : List V} (s : Kp C H H') (h : SqT K H a xs) : SqT K H' a xs := by
  rcases h with (h | ⟨o, h⟩) | h
  · exact .inl (.inl (s.get h fun _ z => nomatch z))
  · exact .inl (.inr ⟨o, s.get h fun _ z => nomatch z⟩)
  · exact .inr h
theorem sqL_Kp {C : Addr} {K : PySem.W.Frag} {H H' : Hp} {a : Addr} {xs : List V} (s : Kp C H H') (h : SqL K H a xs) : SqL K H' a xs := by
  rcases h with (h | ⟨o, h⟩) | h
  · exact .inl (.inl (s.get h fun _ z => nomatch z))
  · exact .inl (.inr ⟨o, s.get h fun _ z => nomatch z⟩)
  · exact .inr h
theorem PrI.Kp {C : Addr} {K : PySem.W.Frag} {H H' : Hp} {p : Addr} {hs : List Int} {ls : List Str} {row : List V} (s : Lw.Kp C H H') (h : PrI C K H p hs ls row) : PrI C K H' p hs ls row := by
  obtain ⟨dx, a, l, r, oh, ol, h1, h2, h3, h4, h5⟩ := h
  exact ⟨dx, a, l, r, oh, ol, s.get h1 (fun _ z => by cases z), s.get h2 (fun _ z => nomatch z), s.get h3 (fun _ z => nomatch z), sqT_Kp s h4, h5⟩
theorem StG.Kp {C : Addr} {K : PySem.W.Frag} {H H' : Hp} {v : V} {g : Sg} (s : Lw.Kp C H H') (h : StG C K H v g) : StG C K H' v g := by
  cases h with
  | nm a b c => exact .nm (sqT_Kp s a) b c
  | nu a b c d => exact .nu (sqT_Kp s a) b c d
  | flat a => exact .flat (sqT_Kp s a)
  | zip a b => exact .zip (sqT_Kp s a) (b.Kp s)
theorem Bad.Kp {C : Addr} {K : PySem.W.Frag} {H H' : Hp} {v : V} (s : Lw.Kp C H H') (h : Bad C K H v) : Bad C K H' v := by
  cases h with
  | ty a b => exact .ty (tyx_kp s a) b
  | nil a => exact .nil (sqT_Kp s a)
  | fst a b c => exact .fst (sqT_Kp s a) (tyx_kp s b) c
  | flat a b => exact .flat (sqT_Kp s a) b
  | len a b c => exact .len (sqT_Kp s a) b c
  | zip a b c => exact .zip (sqT_Kp s a) (tyx_kp s b) c
  | word a b c d e => exact .word (sqT_Kp s a) b c d e
  | nmT a b c d => exact .nmT (sqT_Kp s a) b (tyx_kp s c) d
  | nmS a b c d => exact .nmS (sqT_Kp s a) b c d
  | nuT a b c d => exact .nuT (sqT_Kp s a) b (tyx_kp s c) d
  | nuB a b => exact .nuB (sqT_Kp s a) b
  | nuI a b c => exact .nuI (sqT_Kp s a) b c
theorem Run.Kp {C : Addr} {K : PySem.W.Frag} {H H' : Hp} (s : Lw.Kp C H H') {n : Nat} {hs : List Int} {ls : List Str} {xs : List V} {o : Sum Nat (List Int × List Str)} (h : Run C K H n hs ls xs o) : Run C K H' n hs ls xs o := by
  induction h with
  | nil => exact .nil
  | bad a => exact .bad (a.Kp s)
  | off a b => exact .off (a.Kp s) b
  | on a b _ ih => exact .on (a.Kp s) b ih
theorem sqL_but {L : List Addr} {K : PySem.W.Frag} {H H' : Hp} (s : But L H H') {a : Addr} {xs : List V} (n : ∀ b ∈ L, ∀ o, H b = some o → ∀ xs o', o ≠ .lst xs ∧ o ≠ .frz o' (.lst xs)) (h : SqL K H a xs) : SqL K H' a xs := by
  rcases h with (h | ⟨o, h⟩) | h
  · exact .inl (.inl (s _ _ (fun z => (n a z _ h xs default).1 rfl) h))
  · exact .inl (.inr ⟨o, s _ _ (fun z => (n a z _ h xs o).2 rfl) h⟩)
  · exact .inr h
/-- a program that is being made -/
structure Ini (C a dx h l : Addr) (H H1 : Hp) (hs : List Int) (ls : List Str) : Prop where
  hA : H1 a = some (.ins C dx [("heights", .ref h), ("leaves", .ref l)])
  hH : H1 h = some (.lst (hs.map V.int))
  hL : H1 l = some (.lst (ls.map V.str))
  but : But [a] H H1
  nh : H h = none
  nl : H l = none
  ne : h ≠ l
  nha : h ≠ a
  nla : l ≠ a
theorem Ini.same {C a dx h l : Addr} {H H1 H2 : Hp} {hs : List Int} {ls : List Str} (I : Ini C a dx h l H H1 hs ls) (s : Same H1 H2) : Ini C a dx h l H H2 hs ls :=
  ⟨s _ _ I.hA, s _ _ I.hH, s _ _ I.hL, I.but.trans (.of s), I.nh, I.nl, I.ne, I.nha, I.nla⟩
theorem But.updN {L : List Addr} {H H1 : Hp} {q : Addr} {o : HO} (b : But L H H1) (n : H q = none) : But L H (L2.upd H1 q o) := fun c u nc e => by
  rw [upd_ne (ne_of_none e n)]
  exact b c u nc e
theorem Ini.hgt {C a dx h l : Addr} {H H1 : Hp} {hs hs' : List Int} {ls : List Str} (I : Ini C a dx h l H H1 hs ls) : Ini C a dx h l H (upd H1 h (.lst (hs'.map V.int))) hs' ls :=
  ⟨by rw [upd_ne I.nha.symm]; exact I.hA, upd_same, by rw [upd_ne I.ne.symm]; exact I.hL, I.but.updN I.nh, I.nh, I.nl, I.ne, I.nha, I.nla⟩
theorem Ini.lvs {C a dx h l : Addr} {H H1 : Hp} {hs : List Int} {ls ls' : List Str} (I : Ini C a dx h l H H1 hs ls) : Ini C a dx h l H (upd H1 l (.lst (ls'.map V.str))) hs ls' :=
  ⟨by rw [upd_ne I.nla.symm]; exact I.hA, by rw [upd_ne I.ne]; exact I.hH, upd_same, I.but.updN I.nl, I.nh, I.nl, I.ne, I.nha, I.nla⟩
theorem Ini.Kp {C a dx h l : Addr} {H H1 : Hp} {hs : List Int} {ls : List Str} (I : Ini C a dx h l H H1 hs ls) (e : H a = some (.ins C dx [])) : Lw.Kp C H H1 := .but I.but e I.hA
theorem Ini.none {C a dx h l : Addr} {H H1 H2 : Hp} {hs : List Int} {ls : List Str} {d : Addr} (I : Ini C a dx h l H H1 hs ls) (s : Same H1 H2) (n : H2 d = none) : H d = none :=
  none_but I.but (fun b hb => by rw [List.mem_singleton.mp hb, I.hA]; exact Option.some_ne_none _) (none_same s n)
/-- the last step: the row is set, the depths and sources are frozen -/
theorem Ini.fin {C a dx h l r : Addr} {K : PySem.W.Frag} {H H1 H2 : Hp} {hs : List Int} {ls : List Str} {row : List V} {oh ol : Obj} (I : Ini C a dx h l H H1 hs ls) (e : H a = some (.ins C dx [])) (s : Same H1 H2) (hr : SqT K H2 r row) (h0 : hs ≠ []) (hl : LsOk ls) (l0 : ls ≠ []) (h7 : hs.length ≤ 7) (r6 : row.length ≤ 6) :
    But [a] H (upd (upd (upd H2 a (.ins C dx [("heights", .ref h), ("leaves", .ref l), ("row", .ref r)])) h (.frz oh (.lst (hs.map V.int)))) l (.frz ol (.lst (ls.map V.str)))) ∧
    PrI C K (upd (upd (upd H2 a (.ins C dx [("heights", .ref h), ("leaves", .ref l), ("row", .ref r)])) h (.frz oh (.lst (hs.map V.int)))) l (.frz ol (.lst (ls.map V.str)))) a hs ls row := by
  have J := I.same s
  refine ⟨fun b o nb hb => ?_, dx, h, l, r, oh, ol, ?_, ?_, upd_same, ?_, h0, hl, l0, h7, r6⟩
  · rw [upd_ne (ne_of_none hb I.nl), upd_ne (ne_of_none hb I.nh), upd_ne (by simpa using nb)]
    exact J.but _ _ nb hb
  · rw [upd_ne I.nla.symm, upd_ne I.nha.symm, upd_same]
  · rw [upd_ne I.ne, upd_same]
  · have key : ∀ o, H2 r = some o → (∀ xs, o ≠ .lst xs) → (∀ d fs, o ≠ .ins C d fs) → (upd (upd (upd H2 a (.ins C dx [("heights", .ref h), ("leaves", .ref l), ("row", .ref r)])) h (.frz oh (.lst (hs.map V.int)))) l (.frz ol (.lst (ls.map V.str)))) r = some o := by
      intro o ho n1 n2
      have q1 : r ≠ l := by
        rintro rfl
        rw [J.hL] at ho
        cases ho
        exact n1 _ rfl
      have q2 : r ≠ h := by
        rintro rfl
        rw [J.hH] at ho
        cases ho
        exact n1 _ rfl
      have q3 : r ≠ a := by
        rintro rfl
        rw [J.hA] at ho
        cases ho
        exact n2 _ _ rfl
      rw [upd_ne q1, upd_ne q2, upd_ne q3]
      exact ho
    rcases hr with (hr | ⟨o, hr⟩) | hr
    · exact .inl (.inl (key _ hr (fun _ z => nomatch z) fun _ _ z => nomatch z))
    · exact .inl (.inr ⟨o, key _ hr (fun _ z => nomatch z) fun _ _ z => nomatch z⟩)
    · exact .inr hr
end Lw
namespace Lw
open PySem PySem.Spec PyProof.Rows L2
/-! ### x != y by an own __eq__ and object.__ne__ -/
theorem ne_bound {K : PySem.W.Frag} {M : Model} {A : Around} {E : Value → Shared → Prop} {s : Shared} {x : Addr} {ox : Obj} {C : Addr} {od : Option Obj} {args : List Value} {Q : Option Value → Shared → Prop} (X : K.In s.heap) (I : PySem.W.InstAt s.heap x ox C od)
    (hs : PySem.W.findIn K (.ref C) "__ne__" = some (some (.builtin "object.__ne__"))) (h : wpAny M A (call (.builtin "object.__ne__") (.ref x :: args)) (fun v => Q (some v)) E s) : wpAny M A (callSpecialIfBound? (.ref x) "__ne__" args) Q E s := by
  simp only [callSpecialIfBound?, bindSpecialIfBound?]
  refine wpAny_holding (wpAny_bind (wpAny_bind (wpAny_bind (I.type.here ((PySem.W.looks_findIn X hs).here ?_)))))
  simp only [F.cmp_object.ne.bind]
  refine wpAny_bind (wpAny_askSetting (wpAny_ite ?_))
  have fin : wpAny M A (call (.builtin "object.__ne__") ([.ref x] ++ args) >>= fun v => pure (some v)) Q E s := wpAny_bind (wpAny_mono h (fun v s' h' => wpAny_pure h') fun _ _ h' => h')
  split
  · exact wpAny_bind (wpAny_pure (wpAny_pure fin))
  · exact wpAny_tryCatch (wpAny_bind (wpAny_pure (wpAny_pure fin)))
theorem ne_check {K : PySem.W.Frag} {M : Model} {A : Around} {E : Value → Shared → Prop} {s : Shared} {x : Addr} {ox : Obj} {C : Addr} {od : Option Obj} {y : Value} {Q : Unit → Shared → Prop} (X : K.In s.heap) (I : PySem.W.InstAt s.heap x ox C od)
    (hm : PySem.W.subIn K (.ref C) (.type "object") = some true) (hq : Q () s) : wpAny M A (checkBuiltinCall "object.__ne__" ⟨[.ref x, y], []⟩) Q E s := by
  simp only [checkBuiltinCall, F.cmpKind_ne, F.cmpSplit_ne]
  refine wpAny_bind ?_
  unfold isInstance
  refine wpAny_bind (I.type.here ?_)
  refine (PySem.W.looks_subIn X hm).here ?_
  cases hsig : Manifest.signature? "object.__ne__" with
  | none => exact wpAny_pure hq
  | some sig =>
    have ha := F.cmpArgs_ne (.ref x) y
    simp only [argsOk, hsig] at ha
    have h2 : Bind.checkArgs "object.__ne__" sig ⟨[.ref x, y], []⟩ = pure () := ha
    show wpAny M A (Bind.checkArgs "object.__ne__" sig ⟨[.ref x, y], []⟩) Q E _
    rw [h2]
    exact wpAny_pure hq
theorem ne_body {P : Program} {w : World} {K : PySem.W.Frag} {A : Around} {E : Value → Shared → Prop} {s : Shared} {x f : Addr} {ox : Obj} {C : Addr} {od : Option Obj} {y : Value} {Q : Fin → Shared → Prop} (X : K.In s.heap) (I : PySem.W.InstAt s.heap x ox C od)
    (hu : A.units < cLine) (hs : PySem.W.findIn K (.ref C) "__eq__" = some (some (.ref f))) (hf : PySem.W.isFn K (.ref f) = true)
    (hcall : wpAny (model P w) A (call (.ref f) [.ref x, y]) (fun v s' => ∃ b, v = .bool b ∧ Q (.done (.ret (.bool (!b)))) s') E s) :
    wpAny (model P w) A (Builtin.«object.__ne__» ⟨[.ref x, y], []⟩) Q E s := by
  unfold Builtin.«object.__ne__»
  repeat (first
    | with_reducible refine wpAny_cRoomFor hu ?_
    | (refine wpAny_bind (m := callSpecialIfBound? (.ref x) (Str.ofString "__eq__") [y])
        (PySem.W.ifBound_K X I hs hf (wpAny_mono hcall (fun r s' hr => by
          obtain ⟨b, rfl, hq⟩ := hr
          repeat (first | exact hq | exact wpAny_pure hq | exact wpAny_truthy_bool hq | (refine wpAny_bind (m := truthy (.bool _)) (wpAny_truthy_bool ?_)) | wp_step)) fun _ _ e => e)))
    | wp_step)
theorem op_neI {X : Cx} {CX : CXT} {n : Nat} {C f : Addr} {fd : FuncData} {ps : List Str} {sp : Sp} {E : XK} (F : FnOk X.prog X.w X.K X.mg X.base CX n f fd ps sp) (hr : Room (n + 1) X.A)
    (hs : PySem.W.findIn X.K (.ref C) "__eq__" = some (some (.ref f))) (hf : PySem.W.isFn X.K (.ref f) = true) (hne : PySem.W.findIn X.K (.ref C) "__ne__" = some (some (.builtin "object.__ne__"))) (hm : PySem.W.subIn X.K (.ref C) (.type "object") = some true)
    (hb : Binds X.K fd ps []) (hx : Passes CX X E) :
    OpR X (compareOp .NotEq) (fun x y H Q => ∃ a b dx dy fs gs, x = .ref a ∧ y = .ref b ∧ H a = some (.ins C dx fs) ∧ H b = some (.ins C dy gs) ∧ sp [.ref a, .ref b] H (fun v H' => ∃ c, v = .bl c ∧ Q (.bl (!c)) H') E) := by
  intro pins s σ H x y v u Q I rx ry hq
  obtain ⟨a, b, dx, dy, fs, gs, rfl, rfl, ha, hb', hsp⟩ := hq
  cases rx
  cases ry
  obtain ⟨mA, J, _⟩ := ins_get I.hok ha
  obtain ⟨mB, J', _⟩ := ins_get I.hok hb'
  obtain ⟨od, J, _⟩ := J.look
  obtain ⟨od', J', _⟩ := J'.look
  show wpAny (model X.prog X.w) X.A (richCompare .NotEq (.ref a) (.ref b)) (EP X pins σ Q) X.xe s
  have one : wpAny (model X.prog X.w) X.A (tryCompare (.ref a) "__ne__" (.ref b)) (fun r s' => ∃ v, r = some v ∧ EP X pins σ Q v s') X.xe s := by
    unfold tryCompare
    refine wpAny_bind (ne_bound I.kIn J hne ?_)
    refine wpAny_call (codeAny_call_builtin PySem.F.cmp_object.ne.plain PySem.F.cmpEntry_ne (ne_check I.kIn J hm (ne_body I.kIn J ?_ hs hf ?_)))
    · exact hr.in1.units0
    · have hl := F.len _ _ _ _ hsp
      have r2 : Vals [V.ref a, V.ref b] [Value.ref a, Value.ref b] := .cons rfl (.cons rfl .nil)
      refine wpAny_call (codeAny_mono (F.run X.A.in1 X.stack s H ⟨[.ref a, .ref b], []⟩ [.ref a, .ref b] [.ref a, .ref b] _ E hr.in1 I.env0.in1 (by
        have := hb s [.ref a, .ref b] I.kIn (by simpa using hl)
        simpa using this) r2 hsp) fun r s' hq => ?_)
      cases r with
      | error e => exact hx pins σ H s e s' I hq
      | ok fl =>
        cases fl with
        | ret z =>
          obtain ⟨z, H', I', rz, c, ez, q⟩ := I.after hq
          subst ez
          cases rz
          exact ⟨c, rfl, wpAny_pure ⟨_, rfl, .bl (!c), H', I', rfl, q⟩⟩
        | next => exact False.elim hq
        | brk => exact False.elim hq
        | cont => exact False.elim hq
  unfold richCompare
  simp only [oneThing_ref]
  refine wpAny_holding ?_
  refine wpAny_bind (wpAny_cRoomFor hr.units0 ?_)
  rw [cmpInfo_NotEq]
  dsimp only
  refine wpAny_bind (J.type.here (wpAny_bind (J'.type.here ?_)))
  rw [show (Value.ref C != Value.ref C) = false from by simp]
  simp only [Bool.false_eq_true, if_false]
  refine wpAny_bind (wpAny_pure ?_)
  simp only [Bool.false_eq_true, if_false]
  refine wpAny_bind (wpAny_mono one (fun r s' hv => ?_) fun _ _ e => e)
  obtain ⟨v, rfl, q⟩ := hv
  exact wpAny_pure q
/-! ### a list beside an empty one -/
def rNe0 (K : PySem.W.Frag) : R2 := fun x y H Q => ∃ a b xs, x = .ref a ∧ y = .ref b ∧ SqL K H a xs ∧ SqL K H b [] ∧ Q (.bl (!xs.isEmpty)) H
theorem op_ne0 {X : Cx} (hu : X.A.units < cLine) : OpR X (compareOp .NotEq) (rNe0 X.K) := by
  intro pins s σ H x y v u Q I rx ry h
  obtain ⟨a, b, xs, rfl, rfl, h1, h2, q⟩ := h
  cases (show v = Value.ref a from rx)
  cases (show u = Value.ref b from ry)
  obtain ⟨its, r1, p1, _⟩ := I.list h1
  obtain ⟨it2, r2, p2, _⟩ := I.list h2
  cases r2
  show wpAny (model X.prog X.w) X.A (richCompare .NotEq (.ref a) (.ref b)) (EP X pins σ Q) X.xe s
  cases r1 with
  | nil =>
    refine PySem.SeqAt.RcNeAt.lists (e := fun _ => true) p1.isList p2.isList rfl hu (fun j h1 _ => absurd h1 (by simp)) X.prog X.w X.xe _ ?_
    exact ⟨.bl false, H, I, rfl, q⟩
  | cons r rr =>
    refine PySem.SeqAt.RcNeAt.lists_lengths p1.isList p2.isList (by simp) hu X.prog X.w X.xe _ ?_
    exact ⟨.bl true, H, I, rfl, q⟩
end Lw
namespace Lw
open PySem PySem.Spec PyProof.Rows L2
/-! ### plans: stages as data, zips nested -/
inductive Sx where
  | nm (w x : Str)
  | nu (w : Str) (n : Int)
  | flat
  | zip (src : Str) (row : List Sx)
mutual
/-- how deep zips stand in one another -/
def rkS : Sx → Nat
  | .zip _ r => rkR r + 1
  | _ => 0
def rkR : List Sx → Nat
  | [] => 0
  | s :: r => max (rkS s) (rkR r)
end
mutual
/-- the depth behind a stage, behind a row -/
def hgS : Int → Sx → Int
  | d, .nm w _ => if w = "map" then 0 else d
  | d, .nu w _ => if w = "lots" then d + 1 else d
  | d, .flat => d - 1
  | d, .zip _ r => 1 + min d (hgR 0 r)
def hgR : Int → List Sx → Int
  | d, [] => d
  | d, s :: r => hgR (hgS d s) r
end
mutual
/-- the sources of a stage, of a row -/
def lvS : Sx → List Str
  | .zip s r => s :: lvR r
  | _ => []
def lvR : List Sx → List Str
  | [] => []
  | s :: r => lvS s ++ lvR r
end
mutual
/-- may a stage stand behind a depth; may a row: the sources are looked at apart -/
def okS : Int → Sx → Prop
  | _, .nm w x => w ∈ named ∧ nameB x = true
  | _, .nu w n => w ∈ counted ∧ 1 ≤ n ∧ n ≤ 4
  | d, .flat => 0 < d
  | _, .zip _ r => r.length ≤ 6 ∧ okR 0 r
def okR : Int → List Sx → Prop
  | _, [] => True
  | d, s :: r => okS d s ∧ okR (hgS d s) r
end
mutual
/-- a plan's stage as a value: a zip has a tuple (source, stages) -/
def StV (K : PySem.W.Frag) (H : Hp) : Sx → V → Prop
  | .nm w x, v => ∃ t, v = .ref t ∧ SqT K H t [.str w, .str x]
  | .nu w n, v => ∃ t, v = .ref t ∧ SqT K H t [.str w, .int n]
  | .flat, v => ∃ t, v = .ref t ∧ SqT K H t [.str "flat"]
  | .zip s r, v => ∃ t p q vs, v = .ref t ∧ SqT K H t [.str "zip", .ref p] ∧ SqT K H p [.str s, .ref q] ∧ SqT K H q vs ∧ RwV K H r vs
def RwV (K : PySem.W.Frag) (H : Hp) : List Sx → List V → Prop
  | [], vs => vs = []
  | s :: r, vs => ∃ v us, vs = v :: us ∧ StV K H s v ∧ RwV K H r us
end
/-- the depths behind the source and each stage -/
def hgs (d : Int) : List Sx → List Int
  | [] => [d]
  | s :: r => d :: hgs (hgS d s) r
mutual
/-- a program's stage: a zip has a program -/
def StP (C : Addr) (K : PySem.W.Frag) (H : Hp) : Sx → V → Prop
  | .nm w x, v => ∃ t, v = .ref t ∧ SqT K H t [.str w, .str x]
  | .nu w n, v => ∃ t, v = .ref t ∧ SqT K H t [.str w, .int n]
  | .flat, v => ∃ t, v = .ref t ∧ SqT K H t [.str "flat"]
  | .zip s r, v => ∃ t p vs, v = .ref t ∧ SqT K H t [.str "zip", .ref p] ∧ PrI C K H p (hgs 0 r) (s :: lvR r) vs ∧ RwP C K H r vs
def RwP (C : Addr) (K : PySem.W.Frag) (H : Hp) : List Sx → List V → Prop
  | [], vs => vs = []
  | s :: r, vs => ∃ v us, vs = v :: us ∧ StP C K H s v ∧ RwP C K H r us
end
/-- a program with this source and these stages; a plan -/
def PgP (C : Addr) (K : PySem.W.Frag) (H : Hp) (s : Str) (r : List Sx) (p : Addr) : Prop := ∃ vs, PrI C K H p (hgs 0 r) (s :: lvR r) vs ∧ RwP C K H r vs
def PlV (K : PySem.W.Frag) (H : Hp) (s : Str) (r : List Sx) (p : Addr) : Prop := ∃ q vs, SqT K H p [.str s, .ref q] ∧ SqT K H q vs ∧ RwV K H r vs
mutual
theorem StV.kp {C : Addr} {K : PySem.W.Frag} {H H' : Hp} (s : KP C H H') : ∀ (x : Sx) {v : V}, StV K H x v → StV K H' x v
  | .nm _ _, _, ⟨t, e, h⟩ => ⟨t, e, sqT_kp s h⟩
  | .nu _ _, _, ⟨t, e, h⟩ => ⟨t, e, sqT_kp s h⟩
  | .flat, _, ⟨t, e, h⟩ => ⟨t, e, sqT_kp s h⟩
  | .zip _ r, _, ⟨t, p, q, vs, e, h1, h2, h3, h4⟩ => ⟨t, p, q, vs, e, sqT_kp s h1, sqT_kp s h2, sqT_kp s h3, RwV.kp s r h4⟩
theorem RwV.kp {C : Addr} {K : PySem.W.Frag} {H H' : Hp} (s : KP C H H') : ∀ (r : List Sx) {vs : List V}, RwV K H r vs → RwV K H' r vs
  | [], _, h => h
  | x :: r, _, ⟨v, us, e, h1, h2⟩ => ⟨v, us, e, StV.kp s x h1, RwV.kp s r h2⟩
end
mutual
theorem StP.kp {C : Addr} {K : PySem.W.Frag} {H H' : Hp} (s : KP C H H') : ∀ (x : Sx) {v : V}, StP C K H x v → StP C K H' x v
  | .nm _ _, _, ⟨t, e, h⟩ => ⟨t, e, sqT_kp s h⟩
  | .nu _ _, _, ⟨t, e, h⟩ => ⟨t, e, sqT_kp s h⟩
  | .flat, _, ⟨t, e, h⟩ => ⟨t, e, sqT_kp s h⟩
  | .zip _ r, _, ⟨t, p, vs, e, h1, h2, h3⟩ => ⟨t, p, vs, e, sqT_kp s h1, h2.kp s, RwP.kp s r h3⟩
theorem RwP.kp {C : Addr} {K : PySem.W.Frag} {H H' : Hp} (s : KP C H H') : ∀ (r : List Sx) {vs : List V}, RwP C K H r vs → RwP C K H' r vs
  | [], _, h => h
  | x :: r, _, ⟨v, us, e, h1, h2⟩ => ⟨v, us, e, StP.kp s x h1, RwP.kp s r h2⟩
end
theorem PgP.kp {C : Addr} {K : PySem.W.Frag} {H H' : Hp} (s : KP C H H') {x : Str} {r : List Sx} {p : Addr} (h : PgP C K H x r p) : PgP C K H' x r p := let ⟨vs, h1, h2⟩ := h; ⟨vs, h1.kp s, RwP.kp s r h2⟩
theorem PlV.kp {C : Addr} {K : PySem.W.Frag} {H H' : Hp} (s : KP C H H') {x : Str} {r : List Sx} {p : Addr} (h : PlV K H x r p) : PlV K H' x r p := let ⟨q, vs, h1, h2, h3⟩ := h; ⟨q, vs, sqT_kp s h1, sqT_kp s h2, RwV.kp s r h3⟩
theorem RwV.len {K : PySem.W.Frag} {H : Hp} : ∀ {r : List Sx} {vs : List V}, RwV K H r vs → vs.length = r.length
  | [], _, h => by rw [show _ = [] from h]; rfl
  | _ :: r, _, ⟨_, _, e, _, h⟩ => by rw [e, List.length_cons, List.length_cons, RwV.len h]
theorem RwP.len {C : Addr} {K : PySem.W.Frag} {H : Hp} : ∀ {r : List Sx} {vs : List V}, RwP C K H r vs → vs.length = r.length
  | [], _, h => by rw [show _ = [] from h]; rfl
  | _ :: r, _, ⟨_, _, e, _, h⟩ => by rw [e, List.length_cons, List.length_cons, RwP.len h]
theorem RwV.snoc {K : PySem.W.Frag} {H : Hp} : ∀ {r : List Sx} {vs : List V} {s : Sx} {v : V}, RwV K H r vs → StV K H s v → RwV K H (r ++ [s]) (vs ++ [v])
  | [], _, s, v, h, g => by rw [show _ = [] from h]; exact ⟨v, [], rfl, g, rfl⟩
  | _ :: r, _, s, v, ⟨u, us, e, h1, h2⟩, g => by rw [e]; exact ⟨u, us ++ [v], rfl, h1, RwV.snoc h2 g⟩
theorem RwP.snoc {C : Addr} {K : PySem.W.Frag} {H : Hp} : ∀ {r : List Sx} {vs : List V} {s : Sx} {v : V}, RwP C K H r vs → StP C K H s v → RwP C K H (r ++ [s]) (vs ++ [v])
  | [], _, s, v, h, g => by rw [show _ = [] from h]; exact ⟨v, [], rfl, g, rfl⟩
  | _ :: r, _, s, v, ⟨u, us, e, h1, h2⟩, g => by rw [e]; exact ⟨u, us ++ [v], rfl, h1, RwP.snoc h2 g⟩
theorem RwV.get {K : PySem.W.Frag} {H : Hp} : ∀ {r : List Sx} {vs : List V} {i : Nat} {v : V}, RwV K H r vs → vs[i]? = some v → ∃ s, r[i]? = some s ∧ StV K H s v
  | [], _, _, _, h, g => by rw [show _ = [] from h] at g; simp at g
  | s :: r, _, 0, v, ⟨u, us, e, h1, h2⟩, g => by
    rw [e] at g
    cases g
    exact ⟨s, rfl, h1⟩
  | s :: r, _, i + 1, v, ⟨u, us, e, h1, h2⟩, g => by
    rw [e] at g
    exact (RwV.get (r := r) (i := i) h2 g : _)
theorem RwP.get {C : Addr} {K : PySem.W.Frag} {H : Hp} : ∀ {r : List Sx} {vs : List V} {i : Nat} {v : V}, RwP C K H r vs → vs[i]? = some v → ∃ s, r[i]? = some s ∧ StP C K H s v
  | [], _, _, _, h, g => by rw [show _ = [] from h] at g; simp at g
  | s :: r, _, 0, v, ⟨u, us, e, h1, h2⟩, g => by
    rw [e] at g
    cases g
    exact ⟨s, rfl, h1⟩
  | s :: r, _, i + 1, v, ⟨u, us, e, h1, h2⟩, g => by
    rw [e] at g
    exact (RwP.get (r := r) (i := i) h2 g : _)
theorem hgR_snoc : ∀ (r : List Sx) (d : Int) (s : Sx), hgR d (r ++ [s]) = hgS (hgR d r) s
  | [], d, s => by simp [hgR]
  | x :: r, d, s => by
    rw [List.cons_append, hgR, hgR]
    exact hgR_snoc r _ s
theorem lvR_snoc : ∀ (r : List Sx) (s : Sx), lvR (r ++ [s]) = lvR r ++ lvS s
  | [], s => by simp [lvR]
  | x :: r, s => by rw [List.cons_append, lvR, lvR, lvR_snoc r s, List.append_assoc]
theorem okR_snoc : ∀ (r : List Sx) (d : Int) (s : Sx), okR d r → okS (hgR d r) s → okR d (r ++ [s])
  | [], d, s, _, h => by
    rw [List.nil_append, okR, okR]
    rw [hgR] at h
    exact ⟨h, trivial⟩
  | x :: r, d, s, h, g => by
    rw [List.cons_append, okR]
    rw [okR] at h
    rw [hgR] at g
    exact ⟨h.1, okR_snoc r _ s h.2 g⟩
theorem rkR_snoc : ∀ (r : List Sx) (s : Sx), rkR (r ++ [s]) = max (rkR r) (rkS s)
  | [], s => by simp [rkR]
  | x :: r, s => by rw [List.cons_append, rkR, rkR, rkR_snoc r s, Nat.max_assoc]
theorem hgs_last : ∀ (r : List Sx) (d : Int), lastI (hgs d r) = hgR d r ∧ hgs d r ≠ []
  | [], d => ⟨by simp [hgs, hgR, lastI], by simp [hgs]⟩
  | s :: r, d => by
    obtain ⟨h1, h2⟩ := hgs_last r (hgS d s)
    refine ⟨?_, by simp [hgs]⟩
    rw [hgs, hgR, ← h1]
    unfold lastI
    rw [List.getLast?_cons]
    cases hq : hgs (hgS d s) r with
    | nil => exact absurd hq h2
    | cons y l => simp [List.getLast?_cons]
theorem hgs_len : ∀ (r : List Sx) (d : Int), (hgs d r).length = r.length + 1
  | [], d => rfl
  | s :: r, d => by rw [hgs, List.length_cons, List.length_cons, hgs_len r]
theorem rk_mem : ∀ {r : List Sx} {i : Nat} {s : Sx}, r[i]? = some s → rkS s ≤ rkR r
  | [], _, _, h => by simp at h
  | x :: r, 0, s, h => by
    cases h
    rw [rkR]
    exact Nat.le_max_left _ _
  | x :: r, i + 1, s, h => by
    rw [rkR]
    exact Nat.le_trans (rk_mem (r := r) h) (Nat.le_max_right _ _)
theorem erase_perm {α : Type} : ∀ {l : List α} {i : Nat} (h : i < l.length), (l[i] :: l.eraseIdx i).Perm l
  | [], _, h => absurd h (by simp)
  | x :: r, 0, _ => .refl _
  | x :: r, i + 1, h => by
    have h' : i < r.length := by simpa using h
    exact (List.Perm.swap x (r[i]) (r.eraseIdx i)).trans ((erase_perm h').cons x)
theorem units1 {k : Nat} {A : Around} (r : Room k A) : A.units + 1 < cLine := by
  have := r.units
  omega
/-- {"lots": 1, "flat": 0 - 1}.get(w, 0) -/
def lowV (w : Str) : Int := if w = "lots" then 1 else if w = "flat" then 0 - 1 else 0
theorem dget_low (w : Str) : (valV (mergeK [] [(Sum.inr ("lots" : Str), V.int 1), (Sum.inr ("flat" : Str), V.int (0 - 1))]) (Sum.inr w : Key)).getD (V.int 0) = V.int (lowV w) := by
  have e : mergeK [] [(Sum.inr ("lots" : Str), V.int 1), (Sum.inr ("flat" : Str), V.int (0 - 1))] = [(Sum.inr ("lots" : Str), V.int 1), (Sum.inr ("flat" : Str), V.int (0 - 1))] := by rfl
  rw [e]
  unfold lowV
  by_cases h1 : w = "lots"
  · subst h1
    rfl
  · by_cases h2 : w = "flat"
    · subst h2
      rfl
    · have g1 : ¬ ("lots" : Str) = w := fun z => h1 z.symm
      have g2 : ¬ ("flat" : Str) = w := fun z => h2 z.symm
      simp [valV, List.find?_cons, g1, g2, h1, h2]
/-! ### words of letters -/
def WordB (n : Nat) (x : Str) : Prop := x.length ≤ n ∧ ∀ c ∈ x.cps.toList, c ∈ letters.cps.toList
theorem str_len_app (x y : Str) : (x ++ y).length = x.length + y.length := by
  show (x.cps ++ y.cps).size = _
  rw [Array.size_append]
  rfl
theorem WordB.app {n m : Nat} {x y : Str} (h : WordB n x) (g : WordB m y) : WordB (n + m) (x ++ y) := by
  refine ⟨?_, fun c hc => ?_⟩
  · rw [str_len_app]
    have := h.1
    have := g.1
    omega
  · have e : (x ++ y).cps.toList = x.cps.toList ++ y.cps.toList := by
      show (x.cps ++ y.cps).toList = _
      rw [Array.toList_append]
    rw [e] at hc
    rcases List.mem_append.mp hc with q | q
    · exact h.2 c q
    · exact g.2 c q
theorem WordB.one {i c : Nat} (h : letters.cps.toList[i]? = some c) : WordB 1 ⟨#[c]⟩ := ⟨Nat.le_refl _, fun d hd => by
  have e : d = c := by simpa using hd
  rw [e]
  exact List.mem_of_getElem? h⟩
theorem WordB.name {n : Nat} {x : Str} (h : WordB n x) (h1 : 1 ≤ x.length) (h8 : n ≤ 8) : nameB x = true := by
  unfold nameB
  rw [decide_eq_true h1, decide_eq_true (Nat.le_trans h.1 h8), Bool.true_and, Bool.true_and]
  exact List.all_eq_true.mpr fun c hc => decide_eq_true (h.2 c hc)
mutual
theorem rkS_le : ∀ s : Sx, rkS s ≤ (lvS s).length
  | .nm _ _ => Nat.zero_le _
  | .nu _ _ => Nat.zero_le _
  | .flat => Nat.zero_le _
  | .zip s r => by
    rw [rkS, lvS, List.length_cons]
    exact Nat.succ_le_succ (rkR_le r)
theorem rkR_le : ∀ r : List Sx, rkR r ≤ (lvR r).length
  | [] => Nat.zero_le _
  | s :: r => by
    have h1 := rkS_le s
    have h2 := rkR_le r
    rw [rkR, lvR, List.length_append]
    omega
end
/-! ### programs' rows run -/
theorem StP.stg {C : Addr} {K : PySem.W.Frag} {H : Hp} {s : Sx} {v : V} {d : Int} {L : List Str} (h : StP C K H s v) (o : okS d s) (n : ∀ x ∈ lvS s, x ∉ L) : ∃ g, StG C K H v g ∧ behind d g = hgS d s ∧ leavesOf g = lvS s ∧ stands d L g = true := by
  cases s with
  | nm w x =>
    obtain ⟨t, rfl, a⟩ := h
    rw [okS] at o
    exact ⟨_, .nm a o.1 o.2, by rw [hgS]; rfl, by simp [lvS, leavesOf], rfl⟩
  | nu w k =>
    obtain ⟨t, rfl, a⟩ := h
    rw [okS] at o
    exact ⟨_, .nu a o.1 o.2.1 o.2.2, by rw [hgS]; rfl, by simp [lvS, leavesOf], rfl⟩
  | flat =>
    obtain ⟨t, rfl, a⟩ := h
    rw [okS] at o
    exact ⟨_, .flat a, by rw [hgS]; rfl, by simp [lvS, leavesOf], decide_eq_true o⟩
  | zip sr r =>
    obtain ⟨t, p, vs, rfl, a, b, c⟩ := h
    refine ⟨_, .zip a b, ?_, by rw [lvS]; rfl, ?_⟩
    · show 1 + min d (lastI (hgs 0 r)) = _
      rw [hgS, (hgs_last r 0).1]
    · show (!((sr :: lvR r).any fun x => decide (x ∈ L))) = true
      rw [lvS] at n
      have e : ((sr :: lvR r).any fun x => decide (x ∈ L)) = false := List.any_eq_false.mpr fun x hx => by simpa using n x hx
      rw [e]
      rfl
theorem run_ok {C : Addr} {K : PySem.W.Frag} {H : Hp} : ∀ {r : List Sx} {n : Nat} {pre : List Int} {d : Int} {L : List Str} {vs : List V}, RwP C K H r vs → okR d r → (L ++ lvR r).Nodup → Run C K H n (pre ++ [d]) L vs (.inr (pre ++ hgs d r, L ++ lvR r))
  | [], n, pre, d, L, vs, h, _, _ => by
    rw [show vs = [] from h, hgs, lvR, List.append_nil]
    exact .nil
  | s :: r, n, pre, d, L, vs, ⟨v, us, e, h1, h2⟩, o, nd => by
    subst e
    rw [okR] at o
    have nd0 := nd
    rw [lvR, ← List.append_assoc] at nd
    have nd1 := (List.nodup_append.mp nd).1
    have dis := (List.nodup_append.mp nd1).2.2
    obtain ⟨g, hg, e1, e2, e3⟩ := h1.stg (L := L) o.1 fun x hx hL => dis x hL x hx rfl
    have eL : lastI (pre ++ [d]) = d := by
      unfold lastI
      rw [List.getLast?_concat]
      rfl
    have q := run_ok (n := n + 1) (pre := pre ++ [d]) (L := L ++ lvS s) h2 o.2 nd
    have e4 : pre ++ hgs d (s :: r) = pre ++ [d] ++ hgs (hgS d s) r := by
      rw [hgs, List.append_assoc]
      rfl
    have e5 : L ++ lvR (s :: r) = L ++ lvS s ++ lvR r := by rw [lvR, List.append_assoc]
    rw [e4, e5]
    refine .on hg (by rw [eL]; exact e3) ?_
    rw [eL, e1, e2]
    exact q
theorem LsOk.sub {l m : List Str} (h : LsOk l) (s : m.Sublist l) : LsOk m := ⟨h.1.sublist s, fun x hx => h.2 x (s.subset hx)⟩
theorem lv_sub : ∀ {r : List Sx} {s : Sx}, s ∈ r → (lvS s).Sublist (lvR r)
  | x :: r, s, h => by
    rw [lvR]
    rcases List.mem_cons.mp h with e | e
    · subst e
      exact List.sublist_append_left _ _
    · exact (lv_sub e).trans (List.sublist_append_right _ _)
theorem same_updN {H H' : Hp} {q : Addr} {o : HO} (s : Same H H') (n : H q = none) : Same H (L2.upd H' q o) := fun b u e => by
  rw [upd_ne (ne_of_none e n)]
  exact s b u e
def PlanOk (x : Str) (r : List Sx) : Prop := okR 0 r ∧ r.length ≤ 6 ∧ LsOk (x :: lvR r)
def strV : V → Str
  | .str x => x
  | _ => Str.empty
theorem perm_str {ys : List V} {l : List Str} (h : ys.Perm (l.map V.str)) : ∃ ps : List Str, ys = ps.map V.str ∧ ps.Perm l := by
  refine ⟨ys.map strV, ?_, ?_⟩
  · rw [List.map_map]
    have e : ys.map (V.str ∘ strV) = ys.map id := List.map_congr_left fun y hy => by
      obtain ⟨x, _, rfl⟩ := List.mem_map.mp (h.mem_iff.mp hy)
      rfl
    rw [e, List.map_id]
  · have q := h.map strV
    rw [List.map_map] at q
    have e : l.map (strV ∘ V.str) = l.map id := List.map_congr_left fun y _ => rfl
    rw [e, List.map_id] at q
    exact q
end Lw
namespace Lw
open PySem PySem.Spec PyProof.Rows L2
/-! ### the lines of a program -/
def strI (n : Int) : Str := Str.ofString (toString n)
mutual
def lnS : Sx → List Str
  | .nm w x => [w ++ (" " : Str) ++ x]
  | .nu w n => [w ++ (" " : Str) ++ strI n]
  | .flat => ["flat"]
  | .zip s r => "zip" :: ((("from " : Str) ++ s) :: lnR r).map fun l => ("  " : Str) ++ l
def lnR : List Sx → List Str
  | [] => []
  | s :: r => lnS s ++ lnR r
end
def lnP (s : Str) (r : List Sx) : List Str := (("from " : Str) ++ s) :: lnR r
theorem lnR_snoc : ∀ (r : List Sx) (s : Sx), lnR (r ++ [s]) = lnR r ++ lnS s
  | [], s => by simp [lnR]
  | x :: r, s => by rw [List.cons_append, lnR, lnR, lnR_snoc r s, List.append_assoc]
mutual
/-- the rows in a stage have at most six stages -/
theorem lnS_len : ∀ (s : Sx) (d : Int), okS d s → (lnS s).length ≤ 1 + 7 * (lvS s).length
  | .nm _ _, _, _ => by simp [lnS]
  | .nu _ _, _, _ => by simp [lnS]
  | .flat, _, _ => by simp [lnS]
  | .zip s r, _, h => by
    rw [okS] at h
    have q := lnR_len r 0 h.2
    rw [lnS, lvS, List.length_cons, List.length_map, List.length_cons, List.length_cons]
    omega
theorem lnR_len : ∀ (r : List Sx) (d : Int), okR d r → (lnR r).length ≤ r.length + 7 * (lvR r).length
  | [], _, _ => by simp [lnR]
  | s :: r, d, h => by
    rw [okR] at h
    have q1 := lnS_len s d h.1
    have q2 := lnR_len r _ h.2
    rw [lnR, lvR, List.length_append, List.length_append, List.length_cons]
    omega
end
theorem strI_len : ∀ {n : Int}, 1 ≤ n → n ≤ 4 → (strI n).length = 1 := by
  intro n h1 h4
  have : n = 1 ∨ n = 2 ∨ n = 3 ∨ n = 4 := by omega
  rcases this with rfl | rfl | rfl | rfl <;> decide +kernel
mutual
theorem lnS_wid : ∀ (s : Sx) (d : Int), okS d s → LsOk (lvS s) → ∀ l ∈ lnS s, l.length ≤ 20 + 2 * rkS s
  | .nm w x, _, h, _, l, hl => by
    rw [okS] at h
    have key : ∀ w ∈ named, w.length ≤ 8 := by decide +kernel
    have k1 := key w h.1
    have k2 := nameB_len h.2
    have e : l = w ++ (" " : Str) ++ x := by simpa [lnS] using hl
    rw [e, str_len_app, str_len_app]
    have : (" " : Str).length = 1 := by decide +kernel
    omega
  | .nu w n, _, h, _, l, hl => by
    rw [okS] at h
    have key : ∀ w ∈ counted, w.length ≤ 8 := by decide +kernel
    have k1 := key w h.1
    have k2 := strI_len h.2.1 h.2.2
    have e : l = w ++ (" " : Str) ++ strI n := by simpa [lnS] using hl
    rw [e, str_len_app, str_len_app]
    have : (" " : Str).length = 1 := by decide +kernel
    omega
  | .flat, _, _, _, l, hl => by
    have e : l = "flat" := by simpa [lnS] using hl
    rw [e]
    have : ("flat" : Str).length = 4 := by decide +kernel
    omega
  | .zip s r, _, h, g, l, hl => by
    rw [okS] at h
    rw [lvS] at g
    rw [lnS] at hl
    rw [rkS]
    rcases List.mem_cons.mp hl with e | hl
    · rw [e]
      have : ("zip" : Str).length = 3 := by decide +kernel
      omega
    · obtain ⟨m, hm, rfl⟩ := List.mem_map.mp hl
      rw [str_len_app]
      have e2 : ("  " : Str).length = 2 := by decide +kernel
      rcases List.mem_cons.mp hm with e | hm
      · have key : ∀ s ∈ sources, s.length = 1 := by decide +kernel
        have k := key s (g.2 s (by simp))
        have e5 : ("from " : Str).length = 5 := by decide +kernel
        rw [e, str_len_app]
        omega
      · have q := lnR_wid r 0 h.2 (g.sub (List.sublist_cons_self _ _)) m hm
        omega
theorem lnR_wid : ∀ (r : List Sx) (d : Int), okR d r → LsOk (lvR r) → ∀ l ∈ lnR r, l.length ≤ 20 + 2 * rkR r
  | [], _, _, _, l, hl => by simp [lnR] at hl
  | s :: r, d, h, g, l, hl => by
    rw [okR] at h
    rw [lvR] at g
    rw [lnR] at hl
    rw [rkR]
    rcases List.mem_append.mp hl with hl | hl
    · have := lnS_wid s d h.1 (g.sub (List.sublist_append_left _ _)) l hl
      omega
    · have := lnR_wid r _ h.2 (g.sub (List.sublist_append_right _ _)) l hl
      omega
end
end Lw
namespace Lw
open PySem PySem.Spec PyProof.Rows L2 TL
/-! ### texts: so many times, cut, led off -/
def repS (z : Str) (n : Nat) : Str := ⟨(List.replicate n z.cps).foldl (· ++ ·) #[]⟩
theorem fold_rep (z : Array Nat) : ∀ (n : Nat) (a : Array Nat), ((List.replicate n z).foldl (· ++ ·) a).toList = a.toList ++ (List.replicate n z.toList).flatten
  | 0, a => by simp
  | n + 1, a => by
    rw [List.replicate_succ, List.foldl_cons, fold_rep z n, Array.toList_append, List.replicate_succ, List.flatten_cons, List.append_assoc]
theorem tl_repS (z : Str) (n : Nat) : tl (repS z n) = (List.replicate n (tl z)).flatten := by
  show ((List.replicate n z.cps).foldl (· ++ ·) #[]).toList = _
  rw [fold_rep]
  rfl
theorem op_mul_str {X : Cx} : OpR X (binaryOp .Mult) (fun x y H Q => ∃ (z : Str) (n : Nat), x = .str z ∧ y = .int (n : Int) ∧ z.length ≤ 1000 ∧ n ≤ 1000 ∧ Q (.str (repS z n)) H) := by
  intro pins s σ H x y v u Q I rx ry h
  obtain ⟨z, n, rfl, rfl, hz, hn, q⟩ := h
  obtain ⟨t, rfl⟩ := rx
  obtain ⟨t2, rfl⟩ := ry
  have hzn : z.length * n ≤ 1000000 := Nat.mul_le_mul hz hn
  refine PySem.P.mul_str ?_ (fun h1 _ => ?_) (fun h1 _ => ?_) ?_
  · rw [decide_eq_false (by omega), decide_eq_false (by omega)]
    rfl
  · have h0 : 0 < (n : Int) := by omega
    have h2 : (1000 : Int) ≤ (2 ^ 63 - 1) / (n : Int) := (Int.le_ediv_iff_mul_le h0).mpr (by omega)
    omega
  · rw [Int.toNat_natCast]
    show decide (z.length * n > 2 ^ 24) = false
    exact decide_eq_false (by omega)
  · by_cases h1 : (n : Int) < 1
    · rw [if_pos h1]
      have : n = 0 := by omega
      subst this
      exact ⟨by decide, .str (repS z 0), H, I.tok _, ⟨_, rfl⟩, q⟩
    · rw [if_neg h1]
      by_cases h2 : ((n : Int) == 1 || z.length == 0) = true
      · rw [if_pos h2]
        have e : repS z n = z := by
          refine ext_tl ?_
          rw [tl_repS]
          rcases Bool.or_eq_true_iff.mp h2 with h2 | h2
          · have : n = 1 := by have := beq_iff_eq.mp h2; omega
            subst this
            simp
          · have h3 : (tl z).length = 0 := by rw [← len_tl]; exact beq_iff_eq.mp h2
            rw [List.length_eq_zero_iff.mp h3]
            simp
        rw [e] at q
        exact ⟨.str z, H, I, ⟨_, rfl⟩, q⟩
      · rw [if_neg h2, Int.toNat_natCast]
        refine ⟨?_, .str (repS z n), H, I.tok _, ⟨_, rfl⟩, q⟩
        show (repS z n).length ≤ sizeLine
        have e : (repS z n).length = z.length * n := by
          rw [len_tl, tl_repS, List.length_flatten, List.map_replicate, List.sum_replicate_nat, len_tl, Nat.mul_comm]
        rw [e, sizeLine_eq]
        omega
/-- so much indented -/
def ind (k : Nat) : Str := repS "  " k
theorem tl_ind : ∀ k : Nat, tl (ind k) = List.replicate (2 * k) 32 := by
  intro k
  unfold ind
  rw [tl_repS]
  have e : tl ("  " : Str) = [32, 32] := by decide +kernel
  rw [e]
  induction k with
  | zero => rfl
  | succ n ih =>
    rw [List.replicate_succ, List.flatten_cons, ih]
    have : 2 * (n + 1) = 2 * n + 1 + 1 := by omega
    rw [this, List.replicate_succ, List.replicate_succ]
    rfl
theorem len_ind (k : Nat) : (ind k).length = 2 * k := by rw [len_tl, tl_ind, List.length_replicate]
theorem cut_pre (x y : Str) : cutS (x ++ y) none (some (x.length : Int)) = x := by
  refine ext_tl ?_
  show (((x ++ y).cps.toList.drop (HT.sIx (x ++ y).length 0 none)).take (HT.sIx (x ++ y).length (x ++ y).length (some (x.length : Int)) - HT.sIx (x ++ y).length 0 none)) = _
  rw [HT.sIx_none, HT.sIx_nat, str_len_app]
  have e : (x ++ y).cps.toList = tl x ++ tl y := tl_append x y
  rw [e, List.drop_zero, Nat.sub_zero, Nat.min_eq_left (Nat.le_add_right _ _), len_tl, List.take_left]
theorem cut_suf (x y : Str) : cutS (x ++ y) (some (x.length : Int)) none = y := by
  refine ext_tl ?_
  show (((x ++ y).cps.toList.drop (HT.sIx (x ++ y).length 0 (some (x.length : Int)))).take (HT.sIx (x ++ y).length (x ++ y).length none - HT.sIx (x ++ y).length 0 (some (x.length : Int)))) = _
  rw [HT.sIx_none, HT.sIx_nat, str_len_app]
  have e : (x ++ y).cps.toList = tl x ++ tl y := tl_append x y
  rw [e, Nat.min_eq_left (Nat.le_add_right _ _), len_tl x, List.drop_left, Nat.add_sub_cancel_left, len_tl, List.take_length]
theorem starts_app (x y : Str) : Txt.startswith (x ++ y) x = true := by
  unfold Txt.startswith
  rw [PySem.StrLaws.subAt_eq, str_len_app]
  have e : (x ++ y).cps.toList = tl x ++ tl y := tl_append x y
  rw [e, List.drop_zero, len_tl x, List.take_left]
  simp
/-- a line's body: not empty, no blank ahead -/
def Body (b : Str) : Prop := ∃ c r, tl b = c :: r ∧ c ≠ 32
theorem lstrip_ind {k : Nat} {b : Str} (h : Body b) : (Txt.lstripChars (ind k ++ b) " ").length = b.length := by
  unfold Txt.lstripChars
  rw [PySem.W.stripBy_eq]
  unfold PySem.W.stripped
  obtain ⟨c, r, e, hc⟩ := h
  have e1 : (ind k ++ b).cps.toList = List.replicate (2 * k) 32 ++ (c :: r) := by
    have q := tl_append (ind k) b
    rw [tl_ind, e] at q
    exact q
  have g : ∀ n : Nat, (List.takeWhile ((" " : Str).cps.contains) (List.replicate n 32 ++ (c :: r))).length = n := by
    intro n
    have h32 : ((" " : Str).cps.contains 32) = true := by decide +kernel
    have hcc : ((" " : Str).cps.contains c) = false := by
      have e3 : (" " : Str).cps = #[32] := by decide +kernel
      rw [e3]
      simp [hc]
    induction n with
    | zero => rw [List.replicate_zero, List.nil_append, List.takeWhile_cons, hcc]; rfl
    | succ n ih => rw [List.replicate_succ, List.cons_append, List.takeWhile_cons, h32, if_pos rfl, List.length_cons, ih]
  have e2 : (ind k ++ b).length = 2 * k + b.length := by rw [str_len_app, len_ind]
  show (Builtin.Str.strSub (ind k ++ b) (List.takeWhile _ (ind k ++ b).cps.toList).length (ind k ++ b).length).length = _
  rw [e1, g, e2]
  show ((ind k ++ b).cps.extract (2 * k) (2 * k + b.length)).size = _
  rw [Array.size_extract]
  have e4 : (ind k ++ b).cps.size = 2 * k + b.length := e2
  rw [e4]
  omega
end Lw
namespace Lw
open PySem PySem.Spec PyProof.Rows L2 TL
/-! ### reading lines: the programs that are open, the innermost first -/
structure RS where
  st : List (Str × List Sx)
  pend : Bool
  tak : List Str
/-- a tower of open programs closes to one -/
inductive Clo : List (Str × List Sx) → Str → List Sx → Prop
  | one {x : Str} {r : List Sx} : Clo [(x, r)] x r
  | more {st : List (Str × List Sx)} {x' x : Str} {r' r : List Sx} : Clo st x' r' → okR 0 r' → r'.length ≤ 6 → LsOk (x' :: lvR r') → r.length ≤ 5 → Clo (st ++ [(x, r)]) x (r ++ [.zip x' r'])
theorem Clo.top {st : List (Str × List Sx)} {x : Str} {r : List Sx} (h : Clo st x r) : (st = [(x, r)]) ∨ ∃ x1 r1 x2 r2 rest, st = (x1, r1) :: (x2, r2) :: rest ∧ okR 0 r1 ∧ r1.length ≤ 6 ∧ LsOk (x1 :: lvR r1) ∧ r2.length ≤ 5 ∧ Clo ((x2, r2 ++ [.zip x1 r1]) :: rest) x r := by
  induction h with
  | one => exact .inl rfl
  | @more st x' x r' r c o l s h5 ih =>
    rcases ih with e | ⟨x1, r1, x2, r2, rest, e, h1, h2, h3, h4, h6⟩
    · subst e
      exact .inr ⟨x', r', x, r, [], rfl, o, l, s, h5, .one⟩
    · subst e
      exact .inr ⟨x1, r1, x2, r2, rest ++ [(x, r)], rfl, h1, h2, h3, h4, .more h6 o l s h5⟩
theorem Clo.pos {st : List (Str × List Sx)} {x : Str} {r : List Sx} (h : Clo st x r) : 1 ≤ st.length := by
  cases h <;> simp
def Sx.plain : Sx → Prop
  | .zip _ _ => False
  | _ => True
/-- a line is read -/
inductive Tk : RS → Str → RS → Prop
  | start {s : Str} : s ∈ sources → Tk ⟨[], false, []⟩ (("from " : Str) ++ s) ⟨[(s, [])], false, [s]⟩
  | open_ {S : List (Str × List Sx)} {tak : List Str} {s : Str} : S ≠ [] → S.length ≤ 4 → tak.length ≤ 4 → s ∈ sources → s ∉ tak → Tk ⟨S, true, tak⟩ (ind S.length ++ (("from " : Str) ++ s)) ⟨(s, []) :: S, false, tak ++ [s]⟩
  | stage {st S : List (Str × List Sx)} {tak : List Str} {x : Str} {r : List Sx} {s : Sx} {b : Str} {d : Int} : Clo st x r → (st ++ S).length ≤ 4 → tak.length ≤ 4 → s.plain → okS d s → lnS s = [b] → okR 0 (r ++ [s]) → r.length ≤ 5 → LsOk (x :: lvR (r ++ [s])) → Tk ⟨st ++ S, false, tak⟩ (ind S.length ++ b) ⟨(x, r ++ [s]) :: S, false, tak⟩
  | zip {st S : List (Str × List Sx)} {tak : List Str} {x : Str} {r : List Sx} : Clo st x r → (st ++ S).length ≤ 4 → tak.length < 4 → r.length ≤ 5 → Tk ⟨st ++ S, false, tak⟩ (ind S.length ++ "zip") ⟨(x, r) :: S, true, tak⟩
inductive Reads : RS → List Str → RS → Prop
  | nil {s : RS} : Reads s [] s
  | cons {s s' s'' : RS} {l : Str} {ls : List Str} : Tk s l s' → Reads s' ls s'' → Reads s (l :: ls) s''
theorem Reads.app {s s' s'' : RS} {l m : List Str} (h : Reads s l s') (g : Reads s' m s'') : Reads s (l ++ m) s'' := by
  induction h with
  | nil => exact g
  | cons a _ ih => exact .cons a (ih g)
theorem ind_succ (k : Nat) (l : Str) : ind k ++ (("  " : Str) ++ l) = ind (k + 1) ++ l := by
  refine ext_tl ?_
  rw [tl_append, tl_append, tl_append, tl_ind, tl_ind, ← List.append_assoc]
  have e : tl ("  " : Str) = List.replicate 2 32 := by decide +kernel
  rw [e, List.replicate_append_replicate]
  rfl
theorem ind_zero (l : Str) : ind 0 ++ l = l := by
  refine ext_tl ?_
  rw [tl_append, tl_ind]
  rfl
mutual
theorem reads_stage : ∀ (s : Sx) (x : Str) (done : List Sx) (S tw : List (Str × List Sx)) (tak : List Str), Clo tw x done → okR 0 done → okS (hgR 0 done) s → done.length ≤ 5 → LsOk (x :: lvR (done ++ [s])) → LsOk (tak ++ lvS s) → (tw ++ S).length ≤ tak.length →
    ∃ tw', Clo tw' x (done ++ [s]) ∧ (tw' ++ S).length ≤ (tak ++ lvS s).length ∧ Reads ⟨tw ++ S, false, tak⟩ ((lnS s).map fun l => ind S.length ++ l) ⟨tw' ++ S, false, tak ++ lvS s⟩
  | .nm w y, x, done, S, tw, tak, hc, hd, ho, h5, hl, ht, hw => by
    have l4 := ht.len
    have e0 : lvS (.nm w y) = [] := by simp [lvS]
    rw [e0, List.append_nil] at ht l4 ⊢
    have p := hc.pos
    refine ⟨[(x, done ++ [.nm w y])], .one, ?_, ?_⟩
    · rw [List.length_append] at hw ⊢
      simp only [List.length_cons, List.length_nil]
      omega
    · rw [lnS]
      exact .cons (.stage (s := .nm w y) hc (by omega) l4 trivial ho (by rw [lnS]) (okR_snoc _ _ _ hd ho) h5 hl) .nil
  | .nu w y, x, done, S, tw, tak, hc, hd, ho, h5, hl, ht, hw => by
    have l4 := ht.len
    have e0 : lvS (.nu w y) = [] := by simp [lvS]
    rw [e0, List.append_nil] at ht l4 ⊢
    have p := hc.pos
    refine ⟨[(x, done ++ [.nu w y])], .one, ?_, ?_⟩
    · rw [List.length_append] at hw ⊢
      simp only [List.length_cons, List.length_nil]
      omega
    · rw [lnS]
      exact .cons (.stage (s := .nu w y) hc (by omega) l4 trivial ho (by rw [lnS]) (okR_snoc _ _ _ hd ho) h5 hl) .nil
  | .flat, x, done, S, tw, tak, hc, hd, ho, h5, hl, ht, hw => by
    have l4 := ht.len
    have e0 : lvS (.flat) = [] := by simp [lvS]
    rw [e0, List.append_nil] at ht l4 ⊢
    have p := hc.pos
    refine ⟨[(x, done ++ [.flat])], .one, ?_, ?_⟩
    · rw [List.length_append] at hw ⊢
      simp only [List.length_cons, List.length_nil]
      omega
    · rw [lnS]
      exact .cons (.stage (s := .flat) hc (by omega) l4 trivial ho (by rw [lnS]) (okR_snoc _ _ _ hd ho) h5 hl) .nil
  | .zip x' r', x, done, S, tw, tak, hc, hd, ho, h5, hl, ht, hw => by
    have l4 := ht.len
    rw [okS] at ho
    rw [lvR_snoc, lvS] at hl
    rw [lvS] at ht l4 ⊢
    rw [List.length_append, List.length_cons] at l4
    have p := hc.pos
    have hx' : x' ∈ sources := ht.2 x' (by simp)
    have nx' : x' ∉ tak := fun z => (List.nodup_append.mp ht.1).2.2 x' z x' (by simp) rfl
    have hl' : LsOk (x' :: lvR r') := hl.sub (List.Sublist.trans (List.sublist_append_right _ _) (List.sublist_cons_self _ _))
    have ht2 : LsOk ((tak ++ [x']) ++ lvR r') := by
      rw [List.append_assoc]
      exact ht
    rw [List.length_append] at hw
    obtain ⟨tw2, c2, w2, R2⟩ := reads_row r' x' [] ((x, done) :: S) [(x', [])] (tak ++ [x']) .one (by rw [okR]; trivial) (by rw [hgR]; exact ho.2) (by simpa using ho.1) (by simpa using hl') ht2 (by simp only [List.length_append, List.length_cons, List.length_nil]; omega)
    refine ⟨tw2 ++ [(x, done)], .more c2 ho.2 ho.1 hl' h5, ?_, ?_⟩
    · simp only [List.length_append, List.length_cons, List.length_nil] at w2 ⊢
      omega
    · rw [lnS, List.map_cons, List.map_map]
      refine .cons (.zip hc (by rw [List.length_append]; omega) (by omega) h5) ?_
      have e : ((("from " : Str) ++ x') :: lnR r').map ((fun l => ind S.length ++ l) ∘ fun l => ("  " : Str) ++ l) = (ind ((x, done) :: S).length ++ (("from " : Str) ++ x')) :: (lnR r').map fun l => ind ((x, done) :: S).length ++ l := by
        have q : ((fun l => ind S.length ++ l) ∘ fun l => ("  " : Str) ++ l) = fun l => ind ((x, done) :: S).length ++ l := by
          funext l
          exact ind_succ _ l
        rw [q]
        rfl
      rw [e]
      refine .cons (.open_ (by simp) (by simp only [List.length_cons]; omega) (by omega) hx' nx') ?_
      have e2 : tw2 ++ [(x, done)] ++ S = tw2 ++ (x, done) :: S := by rw [List.append_assoc]; rfl
      have e3 : tak ++ x' :: lvR r' = (tak ++ [x']) ++ lvR r' := by rw [List.append_assoc]; rfl
      rw [e2, e3]
      exact R2
theorem reads_row : ∀ (r : List Sx) (x : Str) (done : List Sx) (S tw : List (Str × List Sx)) (tak : List Str), Clo tw x done → okR 0 done → okR (hgR 0 done) r → (done ++ r).length ≤ 6 → LsOk (x :: lvR (done ++ r)) → LsOk (tak ++ lvR r) → (tw ++ S).length ≤ tak.length →
    ∃ tw', Clo tw' x (done ++ r) ∧ (tw' ++ S).length ≤ (tak ++ lvR r).length ∧ Reads ⟨tw ++ S, false, tak⟩ ((lnR r).map fun l => ind S.length ++ l) ⟨tw' ++ S, false, tak ++ lvR r⟩
  | [], x, done, S, tw, tak, hc, hd, ho, h6, hl, ht, hw => by
    rw [lvR, List.append_nil, List.append_nil, lnR]
    exact ⟨tw, hc, hw, .nil⟩
  | s :: r, x, done, S, tw, tak, hc, hd, ho, h6, hl, ht, hw => by
    rw [okR] at ho
    have e1 : done ++ s :: r = (done ++ [s]) ++ r := by rw [List.append_assoc]; rfl
    rw [e1] at hl h6
    have lvApp : ∀ (a b : List Sx), lvR (a ++ b) = lvR a ++ lvR b := by
      intro a b
      induction a with
      | nil => rw [lvR]; rfl
      | cons c a ih => rw [List.cons_append, lvR, lvR, ih, List.append_assoc]
    rw [lvR, ← List.append_assoc] at ht
    have hl1 : LsOk (x :: lvR (done ++ [s])) := by
      rw [lvApp] at hl
      exact hl.sub (List.Sublist.cons_cons _ (List.sublist_append_left _ _))
    have h5 : done.length ≤ 5 := by
      rw [List.length_append, List.length_append, List.length_cons] at h6
      omega
    obtain ⟨tw1, c1, w1, R1⟩ := reads_stage s x done S tw tak hc hd ho.1 h5 hl1 (ht.sub (List.sublist_append_left _ _)) hw
    obtain ⟨tw2, c2, w2, R2⟩ := reads_row r x (done ++ [s]) S tw1 (tak ++ lvS s) c1 (okR_snoc _ _ _ hd ho.1) (by rw [hgR_snoc]; exact ho.2) h6 hl ht w1
    rw [e1, lvR, ← List.append_assoc, lnR, List.map_append]
    exact ⟨tw2, c2, w2, R1.app R2⟩
end
/-- the text's lines, read from the start -/
theorem reads_text {x : Str} {r : List Sx} (ho : okR 0 r) (h6 : r.length ≤ 6) (hl : LsOk (x :: lvR r)) : ∃ tw, Clo tw x r ∧ tw.length ≤ 4 ∧ Reads ⟨[], false, []⟩ (lnP x r) ⟨tw, false, x :: lvR r⟩ := by
  obtain ⟨tw, c, w, R⟩ := reads_row r x [] [] [(x, [])] [x] .one (by rw [okR]; trivial) (by rw [hgR]; exact ho) (by simpa using h6) (by simpa using hl) (by simpa using hl) (by simp)
  have l4 := hl.len
  rw [List.append_nil] at w
  refine ⟨tw, c, Nat.le_trans w (by simpa using l4), ?_⟩
  have e : (lnR r).map (fun l => ind ([] : List (Str × List Sx)).length ++ l) = lnR r := by
    have q : (fun l => ind ([] : List (Str × List Sx)).length ++ l) = fun l => l := by
      funext l
      exact ind_zero l
    rw [q, List.map_id']
  rw [e] at R
  simp only [List.append_nil] at R
  exact .cons (.start (hl.2 x (by simp))) R
/-! ### a stage's line -/
theorem word_free : ∀ w ∈ named ++ counted, (32 ∉ tl w) ∧ Body w ∧ w.length ≤ 8 := by
  have key : ∀ w ∈ named ++ counted, (32 ∉ tl w) ∧ (tl w).head? ≠ some 32 ∧ (tl w).head? ≠ none ∧ w.length ≤ 8 := by decide +kernel
  intro w hw
  obtain ⟨h1, h2, h3, h4⟩ := key w hw
  refine ⟨h1, ?_, h4⟩
  cases e : tl w with
  | nil => rw [e] at h3; exact absurd rfl h3
  | cons c r =>
    refine ⟨c, r, e, ?_⟩
    rintro rfl
    rw [e] at h2
    exact h2 rfl
theorem name_free {x : Str} (h : nameB x = true) : 32 ∉ tl x := by
  unfold nameB at h
  obtain ⟨_, h⟩ := Bool.and_eq_true_iff.mp h
  obtain ⟨_, h⟩ := Bool.and_eq_true_iff.mp h
  intro z
  have q := of_decide_eq_true (List.all_eq_true.mp h 32 z)
  exact absurd q (by decide +kernel)
theorem numI : ∀ {n : Int}, 1 ≤ n → n ≤ 4 → 32 ∉ tl (strI n) ∧ PySem.intText? (strI n) = some n ∧ strI n ∈ ([1, 2, 3, 4] : List Int).map strI := by
  intro n h1 h4
  have : n = 1 ∨ n = 2 ∨ n = 3 ∨ n = 4 := by omega
  rcases this with rfl | rfl | rfl | rfl
  · exact ⟨by decide +kernel, TL.int_num (n := 1) (by decide +kernel), by decide +kernel⟩
  · exact ⟨by decide +kernel, TL.int_num (n := 2) (by decide +kernel), by decide +kernel⟩
  · exact ⟨by decide +kernel, TL.int_num (n := 3) (by decide +kernel), by decide +kernel⟩
  · exact ⟨by decide +kernel, TL.int_num (n := 4) (by decide +kernel), by decide +kernel⟩
theorem split2 {a b : Str} (ha : 32 ∉ tl a) (hb : 32 ∉ tl b) : Txt.split (a ++ (" " : Str) ++ b) " " = [a, b] := by
  have q := TL.split_join (y := (" " : Str)) (s := 32) (S := []) (by decide +kernel) (by decide +kernel) (parts := [a, b]) (by simp) (by
    intro p hp
    rcases List.mem_cons.mp hp with e | hp
    · rw [e]; exact ha
    · rw [List.mem_singleton.mp hp]; exact hb)
  rw [TL.join_eq] at q
  exact q
theorem body_app {a b : Str} (h : Body a) : Body (a ++ b) := by
  obtain ⟨c, r, e, hc⟩ := h
  exact ⟨c, r ++ tl b, by rw [tl_append, e]; rfl, hc⟩
theorem two_ne_flat {a b : Str} (h : a ++ (" " : Str) ++ b = "flat") : False := by
  have e := congrArg tl h
  rw [tl_append, tl_append] at e
  have : 32 ∈ tl ("flat" : Str) := by
    rw [← e]
    exact List.mem_append_left _ (List.mem_append_right _ (by decide +kernel))
  exact absurd this (by decide +kernel)
theorem two_ne_zip {a b : Str} (h : a ++ (" " : Str) ++ b = "zip") : False := by
  have e := congrArg tl h
  rw [tl_append, tl_append] at e
  have : 32 ∈ tl ("zip" : Str) := by
    rw [← e]
    exact List.mem_append_left _ (List.mem_append_right _ (by decide +kernel))
  exact absurd this (by decide +kernel)
theorem body_of {s : Sx} {b : Str} {d : Int} (hp : s.plain) (ho : okS d s) (h : lnS s = [b]) : Body b ∧ b.length ≤ 30 ∧ b ≠ "zip" := by
  cases s with
  | nm w x =>
    rw [okS] at ho
    rw [lnS] at h
    have e : b = w ++ (" " : Str) ++ x := by simpa using h.symm
    obtain ⟨h1, h2, h3⟩ := word_free w (List.mem_append_left _ ho.1)
    have k2 := nameB_len ho.2
    refine ⟨by rw [e]; exact body_app (body_app h2), ?_, fun z => two_ne_zip (e.symm.trans z)⟩
    rw [e, str_len_app, str_len_app]
    have : (" " : Str).length = 1 := by decide +kernel
    omega
  | nu w n =>
    rw [okS] at ho
    rw [lnS] at h
    have e : b = w ++ (" " : Str) ++ strI n := by simpa using h.symm
    obtain ⟨h1, h2, h3⟩ := word_free w (List.mem_append_right _ ho.1)
    have k2 := strI_len ho.2.1 ho.2.2
    refine ⟨by rw [e]; exact body_app (body_app h2), ?_, fun z => two_ne_zip (e.symm.trans z)⟩
    rw [e, str_len_app, str_len_app]
    have : (" " : Str).length = 1 := by decide +kernel
    omega
  | flat =>
    rw [lnS] at h
    have e : b = "flat" := by simpa using h.symm
    rw [e]
    exact ⟨⟨102, [108, 97, 116], by decide +kernel, by decide⟩, by decide +kernel, by decide +kernel⟩
  | zip _ _ => exact hp.elim
/-! ### no line has a line's end in it -/
theorem nl_app {a b : Str} (ha : 10 ∉ tl a) (hb : 10 ∉ tl b) : 10 ∉ tl (a ++ b) := by
  rw [tl_append]
  intro z
  rcases List.mem_append.mp z with z | z
  · exact ha z
  · exact hb z
theorem nl_name {x : Str} (h : nameB x = true) : 10 ∉ tl x := by
  unfold nameB at h
  obtain ⟨_, h⟩ := Bool.and_eq_true_iff.mp h
  obtain ⟨_, h⟩ := Bool.and_eq_true_iff.mp h
  intro z
  have q := of_decide_eq_true (List.all_eq_true.mp h 10 z)
  exact absurd q (by decide +kernel)
mutual
theorem lnS_nl : ∀ (s : Sx) (d : Int), okS d s → LsOk (lvS s) → ∀ l ∈ lnS s, 10 ∉ tl l
  | .nm w x, _, h, _, l, hl => by
    rw [okS] at h
    have key : ∀ w ∈ named, 10 ∉ tl w := by decide +kernel
    have e : l = w ++ (" " : Str) ++ x := by simpa [lnS] using hl
    rw [e]
    exact nl_app (nl_app (key w h.1) (by decide +kernel)) (nl_name h.2)
  | .nu w n, _, h, _, l, hl => by
    rw [okS] at h
    have key : ∀ w ∈ counted, 10 ∉ tl w := by decide +kernel
    have e : l = w ++ (" " : Str) ++ strI n := by simpa [lnS] using hl
    rw [e]
    refine nl_app (nl_app (key w h.1) (by decide +kernel)) ?_
    have h1 := h.2.1
    have h4 := h.2.2
    have : n = 1 ∨ n = 2 ∨ n = 3 ∨ n = 4 := by omega
    rcases this with rfl | rfl | rfl | rfl <;> decide +kernel
  | .flat, _, _, _, l, hl => by
    have e : l = "flat" := by simpa [lnS] using hl
    rw [e]
    decide +kernel
  | .zip s r, _, h, g, l, hl => by
    rw [okS] at h
    rw [lvS] at g
    rw [lnS] at hl
    rcases List.mem_cons.mp hl with e | hl
    · rw [e]
      decide +kernel
    · obtain ⟨m, hm, rfl⟩ := List.mem_map.mp hl
      refine nl_app (by decide +kernel) ?_
      rcases List.mem_cons.mp hm with e | hm
      · have key : ∀ s ∈ sources, 10 ∉ tl s := by decide +kernel
        rw [e]
        exact nl_app (by decide +kernel) (key s (g.2 s (by simp)))
      · exact lnR_nl r 0 h.2 (g.sub (List.sublist_cons_self _ _)) m hm
theorem lnR_nl : ∀ (r : List Sx) (d : Int), okR d r → LsOk (lvR r) → ∀ l ∈ lnR r, 10 ∉ tl l
  | [], _, _, _, l, hl => by simp [lnR] at hl
  | s :: r, d, h, g, l, hl => by
    rw [okR] at h
    rw [lvR] at g
    rw [lnR] at hl
    rcases List.mem_append.mp hl with hl | hl
    · exact lnS_nl s d h.1 (g.sub (List.sublist_append_left _ _)) l hl
    · exact lnR_nl r _ h.2 (g.sub (List.sublist_append_right _ _)) l hl
end
theorem split_text {x : Str} {r : List Sx} (ho : okR 0 r) (hl : LsOk (x :: lvR r)) : Txt.split (Txt.join "\n" (lnP x r)) "\n" = lnP x r :=
  TL.split_join (y := ("\n" : Str)) (s := 10) (S := []) (by decide +kernel) (by decide +kernel) (by unfold lnP; simp) (by
    intro p hp
    rcases List.mem_cons.mp hp with e | hp
    · have key : ∀ s ∈ sources, 10 ∉ tl s := by decide +kernel
      rw [e]
      exact nl_app (by decide +kernel) (key x (hl.2 x (by simp)))
    · exact lnR_nl r 0 ho (hl.sub (List.sublist_cons_self _ _)) p hp)
theorem join_len (y : Str) : ∀ l : List Str, (Str.join y l).length ≤ (l.map (·.length)).sum + l.length * y.length := StrLaws.join_length_le y
end Lw
namespace Lw
open PySem PySem.Spec PyProof.Rows L2 TL
/-! ### the reader as it stands in the heap -/
structure RcF (K : PySem.W.Frag) (C : Addr) : Prop where
  cl : Cls K C
  nT : NoAttr K C "taken"
  nL : NoAttr K C "levels"
/-- the levels, the innermost first: each a tuple (source, list of stages) -/
def LvL (C : Addr) (K : PySem.W.Frag) (H : Hp) : List (Str × List Sx) → List (Addr × Addr) → Prop
  | [], es => es = []
  | (s, r) :: st, es => ∃ t l es', es = (t, l) :: es' ∧ SqT K H t [.str s, .ref l] ∧ (∃ vs, H l = some (.lst vs) ∧ RwP C K H r vs) ∧ LvL C K H st es'
theorem LvL.mono {C : Addr} {K : PySem.W.Frag} {H H' : Hp} (k : KP C H H') : ∀ {st : List (Str × List Sx)} {es : List (Addr × Addr)}, (∀ e ∈ es, ∀ vs, H e.2 = some (.lst vs) → H' e.2 = some (.lst vs)) → LvL C K H st es → LvL C K H' st es
  | [], _, _, h => h
  | (s, r) :: st, _, n, ⟨t, l, es', e, h1, ⟨vs, h2, h3⟩, h4⟩ => by
    subst e
    exact ⟨t, l, es', rfl, sqT_kp k h1, ⟨vs, n (t, l) (by simp) vs h2, RwP.kp k r h3⟩, LvL.mono k (fun e he => n e (by simp [he])) h4⟩
theorem LvL.len {C : Addr} {K : PySem.W.Frag} {H : Hp} : ∀ {st : List (Str × List Sx)} {es : List (Addr × Addr)}, LvL C K H st es → es.length = st.length
  | [], _, h => by rw [show _ = [] from h]; rfl
  | _ :: st, _, ⟨_, _, _, e, _, _, h⟩ => by rw [e, List.length_cons, List.length_cons, LvL.len h]
theorem LvL.lst {C : Addr} {K : PySem.W.Frag} {H : Hp} : ∀ {st : List (Str × List Sx)} {es : List (Addr × Addr)}, LvL C K H st es → ∀ e ∈ es, ∃ vs, H e.2 = some (.lst vs)
  | [], _, h, e, he => by rw [show _ = [] from h] at he; cases he
  | _ :: st, _, ⟨t, l, es', ee, _, ⟨vs, h2, _⟩, h⟩, e, he => by
    rw [ee] at he
    rcases List.mem_cons.mp he with z | z
    · rw [z]
      exact ⟨vs, h2⟩
    · exact LvL.lst h e z
structure RdH (CR C : Addr) (K : PySem.W.Frag) (rd dx tk lv : Addr) (H : Hp) (s : RS) (es : List (Addr × Addr)) : Prop where
  hR : H rd = some (.ins CR dx [("taken", .ref tk), ("levels", .ref lv)])
  hT : H tk = some (.lst (s.tak.map V.str))
  hV : H lv = some (.lst ((es.reverse.map fun e => V.ref e.1) ++ if s.pend then [.non] else []))
  hL : LvL C K H s.st es
  nd : (tk :: lv :: es.map (·.2)).Nodup
/-- the addresses that the reader changes -/
def fpR (tk lv : Addr) (es : List (Addr × Addr)) : List Addr := tk :: lv :: es.map (·.2)
theorem RdH.same {CR C : Addr} {K : PySem.W.Frag} {rd dx tk lv : Addr} {H H' : Hp} {s : RS} {es : List (Addr × Addr)} (e : Same H H') (h : RdH CR C K rd dx tk lv H s es) : RdH CR C K rd dx tk lv H' s es :=
  ⟨e _ _ h.hR, e _ _ h.hT, e _ _ h.hV, LvL.mono (KP.of e) (fun _ _ _ h => e _ _ h) h.hL, h.nd⟩
/-- what the reader's step keeps: all but its own lists; new lists are new -/
def StepR (CR C : Addr) (K : PySem.W.Frag) (rd dx tk lv : Addr) (H : Hp) (es : List (Addr × Addr)) (s' : RS) (H' : Hp) : Prop :=
  ∃ es', RdH CR C K rd dx tk lv H' s' es' ∧ But (fpR tk lv es) H H' ∧ (∀ e ∈ es', e ∈ es ∨ H e.2 = none) ∧ ∀ a, H' a = none → H a = none
theorem StepR.trans {CR C : Addr} {K : PySem.W.Frag} {rd dx tk lv : Addr} {H H1 H2 : Hp} {es es1 : List (Addr × Addr)} {s2 : RS} (b : But (fpR tk lv es) H H1) (n : ∀ e ∈ es1, e ∈ es ∨ H e.2 = none) (g : ∀ a, H1 a = none → H a = none) (h : StepR CR C K rd dx tk lv H1 es1 s2 H2) : StepR CR C K rd dx tk lv H es s2 H2 := by
  obtain ⟨es2, h1, h2, h3, h4⟩ := h
  have key : ∀ a, a ∈ fpR tk lv es1 → a ∈ fpR tk lv es ∨ H a = none := by
    intro a ha
    unfold fpR at ha ⊢
    rcases List.mem_cons.mp ha with e | ha
    · exact .inl (by simp [e])
    rcases List.mem_cons.mp ha with e | ha
    · exact .inl (by simp [e])
    · obtain ⟨e, he, rfl⟩ := List.mem_map.mp ha
      rcases n e he with q | q
      · exact .inl (List.mem_cons_of_mem _ (List.mem_cons_of_mem _ (List.mem_map_of_mem q)))
      · exact .inr q
  refine ⟨es2, h1, fun a o na e => ?_, fun e he => ?_, fun a ha => g a (h4 a ha)⟩
  · have e1 := b a o na e
    refine h2 a o (fun z => ?_) e1
    rcases key a z with q | q
    · exact na q
    · rw [q] at e
      cases e
  · rcases h3 e he with q | q
    · exact n e q
    · exact .inr (g _ q)
theorem StepR.of {CR C : Addr} {K : PySem.W.Frag} {rd dx tk lv : Addr} {H H1 H2 : Hp} {es : List (Addr × Addr)} {s2 : RS} (b : Same H H1) (h : StepR CR C K rd dx tk lv H1 es s2 H2) : StepR CR C K rd dx tk lv H es s2 H2 :=
  .trans (.of b) (fun _ he => .inl he) (fun _ n => none_same b n) h
theorem RdH.ne {CR C : Addr} {K : PySem.W.Frag} {rd dx tk lv : Addr} {H : Hp} {s : RS} {es : List (Addr × Addr)} (h : RdH CR C K rd dx tk lv H s es) : rd ≠ tk ∧ rd ≠ lv ∧ tk ≠ lv ∧ (∀ e ∈ es, e.2 ≠ tk ∧ e.2 ≠ lv ∧ e.2 ≠ rd) := by
  have n := List.nodup_cons.mp h.nd
  have n2 := List.nodup_cons.mp n.2
  refine ⟨?_, ?_, ?_, fun e he => ⟨?_, ?_, ?_⟩⟩
  · rintro rfl
    have := h.hR.symm.trans h.hT
    cases this
  · rintro rfl
    have := h.hR.symm.trans h.hV
    cases this
  · rintro rfl
    exact n.1 (by simp)
  · rintro rfl
    exact n.1 (List.mem_cons_of_mem _ (List.mem_map_of_mem he))
  · rintro rfl
    exact n2.1 (List.mem_map_of_mem he)
  · rintro rfl
    obtain ⟨vs, q⟩ := h.hL.lst e he
    have := h.hR.symm.trans q
    cases this
theorem step_begin {CR C : Addr} {K : PySem.W.Frag} {rd dx tk lv t l : Addr} {H : Hp} {S : List (Str × List Sx)} {tak : List Str} {es : List (Addr × Addr)} {s : Str} (R : RdH CR C K rd dx tk lv H ⟨S, false, tak⟩ es) (hl : (upd H tk (.lst (tak.map V.str ++ [V.str s]))) l = none)
    (ht : (upd (upd H tk (.lst (tak.map V.str ++ [V.str s]))) l (.lst [])) t = none) :
    StepR CR C K rd dx tk lv H es ⟨(s, []) :: S, false, tak ++ [s]⟩ (upd (upd (upd (upd H tk (.lst (tak.map V.str ++ [V.str s]))) l (.lst [])) t (.tup [.str s, .ref l])) lv (.lst ((es.reverse.map fun e => V.ref e.1) ++ [] ++ [.ref t]))) := by
  obtain ⟨n1, n2, n3, n4⟩ := R.ne
  have lt : l ≠ tk := by
    rintro rfl
    rw [upd_same] at hl
    cases hl
  rw [upd_ne lt] at hl
  have tl0 : t ≠ l := by
    rintro rfl
    rw [upd_same] at ht
    cases ht
  rw [upd_ne tl0] at ht
  have tt : t ≠ tk := by
    rintro rfl
    rw [upd_same] at ht
    cases ht
  rw [upd_ne tt] at ht
  have l1 : l ≠ lv := by rintro rfl; rw [R.hV] at hl; cases hl
  have l2 : l ≠ rd := by rintro rfl; rw [R.hR] at hl; cases hl
  have t1 : t ≠ lv := by rintro rfl; rw [R.hV] at ht; cases ht
  have t2 : t ≠ rd := by rintro rfl; rw [R.hR] at ht; cases ht
  have b : But (fpR tk lv es) H (upd (upd (upd (upd H tk (.lst (tak.map V.str ++ [V.str s]))) l (.lst [])) t (.tup [.str s, .ref l])) lv (.lst ((es.reverse.map fun e => V.ref e.1) ++ [] ++ [.ref t]))) :=
    (((But.upd (by simp [fpR])).updN hl).updN ht).trans (.upd (by simp [fpR]))
  have kp : KP C H (upd (upd (upd (upd H tk (.lst (tak.map V.str ++ [V.str s]))) l (.lst [])) t (.tup [.str s, .ref l])) lv (.lst ((es.reverse.map fun e => V.ref e.1) ++ [] ++ [.ref t]))) := by
    refine b.kp ?_
    intro a ha o ho
    unfold fpR at ha
    rcases List.mem_cons.mp ha with e | ha
    · rw [e, R.hT] at ho; cases ho; exact id
    rcases List.mem_cons.mp ha with e | ha
    · rw [e, R.hV] at ho; cases ho; exact id
    · obtain ⟨e, he, rfl⟩ := List.mem_map.mp ha
      obtain ⟨vs, q⟩ := R.hL.lst e he
      rw [q] at ho; cases ho; exact id
  refine ⟨(t, l) :: es, ⟨?_, ?_, ?_, ?_, ?_⟩, b, ?_, ?_⟩
  · rw [upd_ne n2, upd_ne t2.symm, upd_ne l2.symm, upd_ne n1]; exact R.hR
  · rw [upd_ne n3, upd_ne tt.symm, upd_ne lt.symm, upd_same, List.map_append]; rfl
  · rw [upd_same, List.reverse_cons, List.map_append, List.append_nil]
    simp
  · refine ⟨t, l, es, rfl, SqT.of (by rw [upd_ne t1, upd_same]), ⟨[], by rw [upd_ne l1, upd_ne tl0.symm, upd_same], by rw [RwP]⟩, LvL.mono kp ?_ R.hL⟩
    intro e he vs q
    obtain ⟨m1, m2, m3⟩ := n4 e he
    rw [upd_ne m2, upd_ne (by rintro z; rw [z, ht] at q; cases q), upd_ne (by rintro z; rw [z, hl] at q; cases q), upd_ne m1]
    exact q
  · have nd := R.nd
    show (tk :: lv :: l :: es.map (·.2)).Nodup
    have h1 := List.nodup_cons.mp nd
    have h2 := List.nodup_cons.mp h1.2
    refine List.nodup_cons.mpr ⟨?_, List.nodup_cons.mpr ⟨?_, List.nodup_cons.mpr ⟨?_, h2.2⟩⟩⟩
    · intro z
      rcases List.mem_cons.mp z with z | z
      · exact n3 z
      rcases List.mem_cons.mp z with z | z
      · exact lt z.symm
      · exact h1.1 (List.mem_cons_of_mem _ z)
    · intro z
      rcases List.mem_cons.mp z with z | z
      · exact l1 z.symm
      · exact h2.1 z
    · intro z
      obtain ⟨e, he, z⟩ := List.mem_map.mp z
      obtain ⟨vs, q⟩ := R.hL.lst e he
      rw [z, hl] at q
      cases q
  · intro e he
    rcases List.mem_cons.mp he with z | z
    · rw [z]; exact .inr hl
    · exact .inl z
  · intro a ha
    by_cases z1 : a = lv
    · rw [z1, upd_same] at ha; cases ha
    rw [upd_ne z1] at ha
    by_cases z2 : a = t
    · rw [z2]; exact ht
    rw [upd_ne z2] at ha
    by_cases z3 : a = l
    · rw [z3]; exact hl
    rw [upd_ne z3] at ha
    by_cases z4 : a = tk
    · rw [z4, upd_same] at ha; cases ha
    rw [upd_ne z4] at ha
    exact ha
theorem fp_kp {CR C : Addr} {K : PySem.W.Frag} {rd dx tk lv : Addr} {H H' : Hp} {s : RS} {es : List (Addr × Addr)} (R : RdH CR C K rd dx tk lv H s es) (b : But (fpR tk lv es) H H') : KP C H H' := b.kp (by
  intro a ha o ho
  unfold fpR at ha
  rcases List.mem_cons.mp ha with e | ha
  · rw [e, R.hT] at ho; cases ho; exact id
  rcases List.mem_cons.mp ha with e | ha
  · rw [e, R.hV] at ho; cases ho; exact id
  · obtain ⟨e, he, rfl⟩ := List.mem_map.mp ha
    obtain ⟨vs, q⟩ := R.hL.lst e he
    rw [q] at ho; cases ho; exact id)
/-- the levels' list changes, and the stages of the innermost level that stays -/
theorem step_top {CR C : Addr} {K : PySem.W.Frag} {rd dx tk lv t l : Addr} {H H1 : Hp} {st S : List (Str × List Sx)} {pend pend' : Bool} {tak : List Str} {es es1 es2 : List (Addr × Addr)} {x : Str} {r r' : List Sx} {vs : List V} (R : RdH CR C K rd dx tk lv H ⟨st ++ (x, r) :: S, pend, tak⟩ (es1 ++ (t, l) :: es2))
    (hst : st.length = es1.length) (he : es = es1 ++ (t, l) :: es2) (b : But (lv :: l :: []) H H1) (nv : ∀ a, H1 a = none → H a = none) (h1 : H1 lv = some (.lst ((((t, l) :: es2).reverse.map fun e => V.ref e.1) ++ if pend' then [.non] else []))) (h2 : H1 l = some (.lst vs)) (h3 : RwP C K H1 r' vs) :
    StepR CR C K rd dx tk lv H es ⟨(x, r') :: S, pend', tak⟩ H1 := by
  subst he
  obtain ⟨n1, n2, n3, n4⟩ := R.ne
  have hl := n4 (t, l) (by simp)
  have b2 : But (fpR tk lv (es1 ++ (t, l) :: es2)) H H1 := b.mono (by
    intro a ha
    unfold fpR
    rcases List.mem_cons.mp ha with e | ha
    · simp [e]
    · have e := List.mem_singleton.mp ha
      simp [e])
  have kp := fp_kp R b2
  have hD : ∀ {st : List (Str × List Sx)} {es1 : List (Addr × Addr)}, st.length = es1.length → LvL C K H (st ++ (x, r) :: S) (es1 ++ (t, l) :: es2) → LvL C K H ((x, r) :: S) ((t, l) :: es2) := by
    intro st
    induction st with
    | nil =>
      intro es1 h g
      match es1, h with
      | [], _ => exact g
    | cons a st ih =>
      intro es1 h g
      match es1, h with
      | e :: es1, h =>
        obtain ⟨_, _, _, e2, _, _, g2⟩ := g
        cases e2
        exact ih (by simpa using h) g2
  obtain ⟨t', l', es', e, g1, _, g3⟩ := hD hst R.hL
  cases e
  have nd := R.nd
  have ndl : (l :: es2.map (·.2)).Nodup := by
    have h1 := (List.nodup_cons.mp (List.nodup_cons.mp nd).2).2
    rw [List.map_append] at h1
    exact (List.nodup_append.mp h1).2.1
  refine ⟨(t, l) :: es2, ⟨?_, ?_, h1, ⟨t, l, es2, rfl, sqT_kp kp g1, ⟨vs, h2, h3⟩, LvL.mono kp ?_ g3⟩, ?_⟩, b2, fun e he => .inl (by simp [List.mem_append, List.mem_cons.mp he]), nv⟩
  · exact b _ _ (by simp [n2]; exact fun z => hl.2.2 z.symm) R.hR
  · exact b _ _ (by simp [n3]; exact fun z => hl.1 z.symm) R.hT
  · intro e he vs' q
    have m := n4 e (by simp [he])
    refine b _ _ ?_ q
    have nl : e.2 ≠ l := by
      intro z
      exact (List.nodup_cons.mp ndl).1 (by rw [← z]; exact List.mem_map_of_mem he)
    simp [m.2.1, nl]
  · show (tk :: lv :: l :: es2.map (·.2)).Nodup
    have q1 := List.nodup_cons.mp nd
    have q2 := List.nodup_cons.mp q1.2
    refine List.nodup_cons.mpr ⟨fun z => ?_, List.nodup_cons.mpr ⟨fun z => ?_, ndl⟩⟩
    · rcases List.mem_cons.mp z with z | z
      · exact n3 z
      · exact q1.1 (List.mem_cons_of_mem _ (by rw [List.map_append]; exact List.mem_append_right _ z))
    · exact q2.1 (by rw [List.map_append]; exact List.mem_append_right _ z)
/-- the levels' list gets its end changed -/
theorem step_pend {CR C : Addr} {K : PySem.W.Frag} {rd dx tk lv : Addr} {H : Hp} {S : List (Str × List Sx)} {p p' : Bool} {tak : List Str} {es : List (Addr × Addr)} {ys : List V} (R : RdH CR C K rd dx tk lv H ⟨S, p, tak⟩ es) (hy : ys = (es.reverse.map fun e => V.ref e.1) ++ if p' then [.non] else []) :
    RdH CR C K rd dx tk lv (upd H lv (.lst ys)) ⟨S, p', tak⟩ es ∧ But (fpR tk lv es) H (upd H lv (.lst ys)) ∧ ∀ a, (upd H lv (.lst ys)) a = none → H a = none := by
  obtain ⟨n1, n2, n3, n4⟩ := R.ne
  have b : But (fpR tk lv es) H (upd H lv (.lst ys)) := .upd (by simp [fpR])
  refine ⟨⟨?_, ?_, ?_, LvL.mono (fp_kp R b) (fun e he vs q => ?_) R.hL, R.nd⟩, b, fun a ha => ?_⟩
  · rw [upd_ne n2]; exact R.hR
  · rw [upd_ne n3]; exact R.hT
  · rw [upd_same, hy]
  · rw [upd_ne (n4 e he).2.1]; exact q
  · by_cases z : a = lv
    · rw [z, upd_same] at ha; cases ha
    · rw [upd_ne z] at ha; exact ha
end Lw
namespace Lw
open PySem PySem.Spec PyProof.Rows L2
/-! ### a function at any address that the head's look finds (a property's getter) -/
def fnWA (K : PySem.W.Frag) (a : Addr) : He.FnW := match K.lookup a with
  | some ⟨_, _, .func fd, _⟩ => some (fd.name, fd.qualname, fd.params, fd.body, fd.scope, fd.globals, fd.closure, fd.builtins)
  | _ => none
def okA (K : PySem.W.Frag) (a : Addr) (d : He.DefD) : Bool := PySem.W.keepIn K (.ref a) && (match K.lookup a with
  | some ⟨_, _, .func fd, _⟩ => PySem.W.codeIn K fd.code d.qual && (He.dflB K fd.defaults (d.dvs K) && He.kwdB K fd.kwdefaults (d.kws K))
  | _ => false)
theorem funA {K : PySem.W.Frag} {a : Addr} {d : He.DefD} (e : fnWA K a = d.val) (c : okA K a d = true) : ∃ fd, FunD K d.name d.qual d.params d.body d.scope (d.dvs K) (d.kws K) a fd := by
  unfold okA at c
  unfold fnWA at e
  obtain ⟨kp, c⟩ := Bool.and_eq_true_iff.mp c
  rcases q : K.lookup a with _ | ⟨oc, od, dt, sl⟩
  · rw [q] at c
    cases c
  · rw [q] at c e
    cases dt with
    | func fd =>
      obtain ⟨n1, n2, n3, n4, n5, n6, n7, n8, n9, n10, n11, n12, n13, n14, n15⟩ := fd
      dsimp only at c e
      unfold He.DefD.val at e
      injection e with e
      simp only [Prod.mk.injEq] at e
      obtain ⟨h1, h2, h3, h4, h5, h6, h7, h8⟩ := e
      subst h1 h2 h3 h4 h5 h6 h7 h8
      obtain ⟨k1, k2⟩ := Bool.and_eq_true_iff.mp c
      obtain ⟨k3, k4⟩ := Bool.and_eq_true_iff.mp k2
      exact ⟨_, ⟨oc, od, n8, n9, n10, n11, n12, n13, n14, sl, rfl, q, k1, He.dflB_ok k3, He.kwdB_ok k4⟩, kp⟩
    | _ => cases c
/-- the property f of the class at C: the object, its getter -/
def pobA (K : PySem.W.Frag) (C : Addr) (f : Str) : Addr := match PySem.W.findIn K (.ref C) f with
  | some (some (.ref p)) => p
  | _ => 0
def pgA (K : PySem.W.Frag) (C : Addr) (f : Str) : Addr := match PySem.W.recIn K (pobA K C f) "property" with
  | some (.ref g :: _) => g
  | _ => 0
def propB (K : PySem.W.Frag) (C : Addr) (f : Str) : Bool := decide (PySem.W.findIn K (.ref C) f = some (some (.ref (pobA K C f)))) && (decide (PySem.W.specialIn K (.ref (pobA K C f)) "__get__" = some (some (.builtin "property.__get__"))) &&
  (decide (PySem.W.takesIn K (.ref (pobA K C f)) = some true) && match PySem.W.recIn K (pobA K C f) "property" with
    | some (.ref g :: _) => decide (g = pgA K C f)
    | _ => false))
theorem propB_ok {K : PySem.W.Frag} {C : Addr} {f : Str} (h : propB K C f = true) : PropOf K C f (pobA K C f) (pgA K C f) := by
  unfold propB at h
  obtain ⟨h1, h⟩ := Bool.and_eq_true_iff.mp h
  obtain ⟨h2, h⟩ := Bool.and_eq_true_iff.mp h
  obtain ⟨h3, h⟩ := Bool.and_eq_true_iff.mp h
  refine ⟨of_decide_eq_true h1, of_decide_eq_true h2, of_decide_eq_true h3, ?_⟩
  rcases q : PySem.W.recIn K (pobA K C f) "property" with _ | l
  · rw [q] at h
    cases h
  · rw [q] at h
    match l, h with
    | .ref g :: rest, h =>
      have e : g = pgA K C f := of_decide_eq_true h
      exact ⟨rest, by rw [e]⟩
/-- a property of a class of the module: class, name, and its getter as a def -/
structure PgD where
  cls : Str
  d : He.DefD
def PgD.ad (K : PySem.W.Frag) (p : PgD) : Addr := pgA K (He.ga K p.cls) p.d.name
def PgD.ok (K : PySem.W.Frag) (p : PgD) : Bool := propB K (He.ga K p.cls) p.d.name && okA K (p.ad K) p.d
abbrev AlP : Type := AlZ × List He.FnW
def obP (n : Nat) (fa : List He.Fa) (fn : List He.DefD) (pg : List PgD) (ex : PySem.W.Frag → Bool) (g : Addr → Option Obj) : AlP :=
  ((He.obsD fa fn (kz n g), ex (kz n g) && (He.dictB (kz n g) sysModules && pg.all fun p => p.ok (kz n g))), pg.map fun p => fnWA (kz n g) (p.ad (kz n g)))
structure SaysP (fa : List He.Fa) (fn : List He.DefD) (pg : List PgD) (ex : PySem.W.Frag → Bool) (K : PySem.W.Frag) : Prop where
  d : He.SaysD fa fn K
  more : ex K = true
  sm : He.dictB K sysModules = true
  pok : (pg.all fun p => p.ok K) = true
  pval : (pg.map fun p => fnWA K (p.ad K)) = pg.map fun p => p.d.val
def hookP (n : Nat) (fa : List He.Fa) (fn : List He.DefD) (pg : List PgD) (ex : PySem.W.Frag → Bool) : PySem.W.Hook where
  α := AlP
  obs := fun s => obP n fa fn pg ex s.heap.get?
  val := fun _ => ((He.valD fn, true), pg.map fun p => p.d.val)
  says := fun _ h => ∃ K : PySem.W.Frag, K.In h ∧ SaysP fa fn pg ex K
  of := fun _ s e => by
    have e1 := congrArg (fun z : AlP => z.1.2) e
    obtain ⟨q1, q2⟩ := Bool.and_eq_true_iff.mp (show (ex (kz n s.heap.get?) && (He.dictB (kz n s.heap.get?) sysModules && pg.all fun p => p.ok (kz n s.heap.get?))) = true from e1)
    obtain ⟨q3, q4⟩ := Bool.and_eq_true_iff.mp q2
    exact ⟨kz n s.heap.get?, He.frT_in, congrArg (fun z : AlP => z.1.1) e, q1, q3, q4, congrArg Prod.snd e⟩
  keeps := fun _ _ _ ⟨K, hK, c⟩ k => ⟨K, PySem.W.Frag.In.keeps hK k, c⟩
theorem obP_eq {n : Nat} {fa : List He.Fa} {fn : List He.DefD} {pg : List PgD} {ex : PySem.W.Frag → Bool} {g : Addr → Option Obj} {s : Shared} (h : ∀ a, g a = s.heap.get? a) : obP n fa fn pg ex g = (hookP n fa fn pg ex).obs s := by
  have e : g = s.heap.get? := funext h
  subst e
  rfl
theorem SaysP.prop {fa : List He.Fa} {fn : List He.DefD} {pg : List PgD} {ex : PySem.W.Frag → Bool} {K : PySem.W.Frag} (c : SaysP fa fn pg ex K) (i : Nat) {p : PgD} (h : pg[i]? = some p := by rfl) :
    PropOf K (He.ga K p.cls) p.d.name (pobA K (He.ga K p.cls) p.d.name) (p.ad K) ∧ ∃ fd, FunD K p.d.name p.d.qual p.d.params p.d.body p.d.scope (p.d.dvs K) (p.d.kws K) (p.ad K) fd := by
  have h1 := List.all_eq_true.mp c.pok p (List.mem_of_getElem? h)
  obtain ⟨h2, h3⟩ := Bool.and_eq_true_iff.mp (show (propB K (He.ga K p.cls) p.d.name && okA K (p.ad K) p.d) = true from h1)
  have e : (pg.map fun p => fnWA K (p.ad K))[i]? = (pg.map fun p => p.d.val)[i]? := by rw [c.pval]
  rw [List.getElem?_map, List.getElem?_map, h] at e
  exact ⟨propB_ok h2, funA (Option.some.inj e) h3⟩
end Lw
namespace K80
open PySem PySem.Spec PyProof.Rows L2 Lw
local macro_rules | `(tactic| walk_at "rd") => `(tactic| repeat (first | refine ⟨_, rfl, ?_⟩ | refine ⟨_, _, rfl, rfl, ?_⟩))
def top (i : Nat) : Stmt := PySem.Challenge.pw_pulledonce_k80_texts_of_programs.main.body.getD i (.Pass ⟨0, 0, 0, 0⟩)
abbrev s_wall : Stmt := top 0
abbrev sBadSource_init : Stmt := inClass (top 3) 0
abbrev sBadStages_init : Stmt := inClass (top 4) 0
abbrev sBadStage_init : Stmt := inClass (top 5) 0
abbrev sBadText_init : Stmt := inClass (top 6) 0
abbrev sis_name : Stmt := top 14
abbrev sis_source : Stmt := top 15
abbrev sis_number : Stmt := top 16
abbrev sis_stage : Stmt := top 17
abbrev sdepth_behind : Stmt := top 18
abbrev sProgram_init : Stmt := inClass (top 19) 0
abbrev sProgram_can_stand : Stmt := inClass (top 19) 1
abbrev sProgram_source : Stmt := inClass (top 19) 2
abbrev sProgram_stages : Stmt := inClass (top 19) 3
abbrev sProgram_sources : Stmt := inClass (top 19) 4
abbrev sProgram_depth : Stmt := inClass (top 19) 5
abbrev sProgram_eq : Stmt := inClass (top 19) 6
abbrev sProgram_then : Stmt := inClass (top 19) 7
abbrev sProgram_without : Stmt := inClass (top 19) 8
abbrev sProgram_exchanged : Stmt := inClass (top 19) 9
abbrev sstage_lines : Stmt := top 22
abbrev sprogram_lines : Stmt := top 23
abbrev sprogram_text : Stmt := top 24
abbrev sread_stage : Stmt := top 25
abbrev sReader_init : Stmt := inClass (top 26) 0
abbrev sReader_begin : Stmt := inClass (top 26) 1
abbrev sReader_close : Stmt := inClass (top 26) 2
abbrev sReader_put : Stmt := inClass (top 26) 3
abbrev sReader_take : Stmt := inClass (top 26) 4
abbrev sread_program : Stmt := top 27
abbrev sL_source : Stmt := top 29
abbrev sL_draw : Stmt := top 30
abbrev sL_pick : Stmt := top 31
abbrev sL_mixed : Stmt := top 32
abbrev sL_height : Stmt := top 33
abbrev sL_depth : Stmt := top 34
abbrev sL_name : Stmt := top 35
abbrev sL_stage : Stmt := top 36
abbrev sL_plan : Stmt := top 37
abbrev sL_program : Stmt := top 38
abbrev sL_lines : Stmt := top 39
abbrev slaw : Stmt := top 40
abbrev FnP (K : PySem.W.Frag) (x q : Str) (st : Stmt) (f : Addr) (fd : FuncData) : Prop := FunD K x q (defArgs st) (defBody st) (defScope st) [] [] f fd
structure Tx (K : PySem.W.Frag) (mg : Str → Option Value) : Prop where
  z_len : mg "len" = none
  z_int : mg "int" = none
  z_str : mg "str" = none
  z_bool : mg "bool" = none
  z_isinstance : mg "isinstance" = none
  z_enumerate : mg "enumerate" = none
  z_range : mg "range" = none
  z_list : mg "list" = none
  z_tuple : mg "tuple" = none
  z_all : mg "all" = none
  z_any : mg "any" = none
  z_max : mg "max" = none
  z_min : mg "min" = none
  g_INDENT : ∃ t, mg "INDENT" = some (.str "  " t)
  z_ValueError : mg "ValueError" = none
  g_LETTERS : ∃ t, mg "LETTERS" = some (.str letters t)
  g_GREATEST : ∃ t, mg "GREATEST" = some (.int 4 t)
  g_MOST_STAGES : ∃ t, mg "MOST_STAGES" = some (.int 6 t)
  g_SOURCES : mg "SOURCES" = some (.ref (He.ga K "SOURCES"))
  t_SOURCES : ∀ H, SqT K H (He.ga K "SOURCES") (sources.map V.str)
  g_NAMED : mg "NAMED" = some (.ref (He.ga K "NAMED"))
  t_NAMED : ∀ H, SqT K H (He.ga K "NAMED") (named.map V.str)
  g_NUMBERED : mg "NUMBERED" = some (.ref (He.ga K "NUMBERED"))
  t_NUMBERED : ∀ H, SqT K H (He.ga K "NUMBERED") (counted.map V.str)
structure Ty (P : Program) (w : World) (K : PySem.W.Frag) (mg : Str → Option Value) (base : Heap) : Prop extends Tx K mg where
  pc : PcF K (He.ga K "Program")
  g_Program : mg "Program" = some (.ref (He.ga K "Program"))
  e_BadSource : ErrOk P w K mg base "BadSource" "value"
  e_BadStages : ErrOk P w K mg base "BadStages" "value"
  e_BadStage : ErrOk P w K mg base "BadStage" "position"
  e_BadText : ErrOk P w K mg base "BadText" "line"
  rc : RcF K (He.ga K "Reader")
/-! ### programs.py -/
section
variable {P : Program} {w : World} {K : PySem.W.Frag} {mg : Str → Option Value} {base : Heap} {f : Addr} {fd : FuncData}
def spName (K : PySem.W.Frag) : Sp := fun vs H Q _ => ∃ v, vs = [v] ∧ ((∃ x : Str, v = .str x ∧ x.length ≤ 1000 ∧ ∀ H', Same H H' → Q (.bl (nameB x)) H') ∨
  ∃ t, TyX K H v t ∧ PySem.W.kitOne K t (.type "str") = some false ∧ ∀ H', Same H H' → Q (.bl false) H')
theorem scis_name : FnScope ["value", "letter"] ["value"] (defScope sis_name) := ⟨rfl, rfl, rfl, by decide +kernel, rfl, by decide +kernel, by decide +kernel⟩
theorem d_is_name (F : FnP K "is_name" "is_name" sis_name f fd) (gm : mg "is_name" = some (.ref f)) (T : Tx K mg) : DefOk P w K mg base CX0 1 "is_name" ["value"] [] (spName K) := by
  obtain ⟨tL, gLET⟩ := T.g_LETTERS
  refine ⟨f, fd, [], F.ok scis_name (fun vs H Q E h => ?_) (fun cdv A outer s H vs Q E hr h => ?_), gm, F.kp, F.bindsN fun _ _ _ _ _ _ us hl => match us, hl with | [_], _ => rfl, .nil⟩
  · obtain ⟨_, rfl, _⟩ := h
    rfl
  · obtain ⟨v, rfl, h⟩ := h
    refine ⟨_, PSs.nox (pss_one (ps_ret (pe_and (pe_callB call_isi (by rfl) T.z_isinstance (by decide +kernel) (pa_cons (pv 0) (pa_cons (pe_bltn (v := .ty "str") (by rfl) T.z_str (by decide +kernel) rfl) pa_nil))) (pe_and (pe_chain op_le op_le pe_int (pe_callB call_len (by rfl) T.z_len PySem.boot_len (pa_cons (pv 0) pa_nil)) pe_int) (pe_one (pe_callB (cr_all rfl) (by rfl) T.z_all (by decide +kernel) (pa_cons (pe_lc (own := [("letter", 1)]) (g := gName 1) (tt := tYes) (by rfl) scis_name.nd (pi_str (pv 0)) (blkOk_by (own := [("letter", 1)]) (N := ["value", "letter"]) (sc := defScope sis_name) (by decide +kernel)) (fun _ _ _ _ _ => pg_name (i := 1) scis_name.nd rfl (Or.inl rfl)) (fun _ _ _ _ _ => pts_nil) (fun _ _ _ _ _ => (pe_cmpR op_in_sign (pv 1) (pe_glob (v := .str letters) (by rfl) gLET ⟨_, rfl⟩) (by rfl)))) pa_nil))))))), ?_⟩
    rcases h with ⟨x, rfl, hx, k⟩ | ⟨t, ht, kt, k⟩
    · refine ⟨_, rfl, _, _, _, _, true, rfl, .ty _, .base (.str x), kit_ty (by decide +kernel), _, rfl, ?_⟩
      refine ⟨_, rfl, _, _, rfl, ⟨szle hx, rfl⟩, _, _, rfl, rfl, _, rfl, ?_⟩
      unfold nameB at k
      by_cases h1 : (1 : Int) ≤ (x.length : Int)
      · rw [decide_eq_true h1]
        rw [decide_eq_true (show 1 ≤ x.length by omega), Bool.true_and] at k
        refine ⟨_, _, rfl, rfl, _, rfl, ?_⟩
        by_cases h2 : (x.length : Int) ≤ 8
        · rw [decide_eq_true h2]
          rw [decide_eq_true (show x.length ≤ 8 by omega), Bool.true_and] at k
          refine ⟨_, rfl, _, rfl, fun D hD => ?_⟩
          refine lc_one walk_str 1 (fun i => V.bl (decide (x.cps.toList.getD i 0 ∈ letters.cps.toList))) (by show x.cps.size ≤ 16000000; have : x.cps.size = x.length := rfl; omega) (fun _ => trivial) (fun _ => rfl) (fun _ _ _ _ y => y.1) ?_ ?_
          · rintro i y l R hi ⟨_, c, hc, rfl⟩ hR
            refine ⟨_, rfl, c, letters, rfl, rfl, ?_⟩
            have e : x.cps.toList.getD i 0 = c := by
              rw [List.getD_eq_getElem?_getD, Array.getElem?_toList, hc]
              rfl
            rw [e] at hR
            exact hR
          · refine ⟨D, (List.range x.cps.size).map fun i => decide (x.cps.toList.getD i 0 ∈ letters.cps.toList), rfl, SqL.of ?_, ?_⟩
            · rw [upd_same, List.map_map]
              rfl
            · have e : ((List.range x.cps.size).map fun i => decide (x.cps.toList.getD i 0 ∈ letters.cps.toList)).all id = x.cps.toList.all fun c => decide (c ∈ letters.cps.toList) := by
                rw [List.all_map]
                have key : ∀ l : List Nat, ((List.range l.length).all ((id : Bool → Bool) ∘ fun i => decide (l.getD i 0 ∈ letters.cps.toList))) = l.all fun c => decide (c ∈ letters.cps.toList) := by
                  intro l
                  rw [Bool.eq_iff_iff, List.all_eq_true, List.all_eq_true]
                  constructor
                  · intro h c hc
                    obtain ⟨i, hi, rfl⟩ := List.mem_iff_getElem.mp hc
                    have q := h i (List.mem_range.mpr hi)
                    simpa [List.getD_eq_getElem?_getD, List.getElem?_eq_getElem hi] using q
                  · intro h i hi
                    have hi' := List.mem_range.mp hi
                    have q := h l[i] (List.getElem_mem hi')
                    simpa [List.getD_eq_getElem?_getD, List.getElem?_eq_getElem hi'] using q
                exact key x.cps.toList
              rw [e]
              exact k _ (same_upd hD)
        · rw [decide_eq_false h2]
          rw [decide_eq_false (show ¬ x.length ≤ 8 by omega), Bool.false_and] at k
          exact k _ (Same.refl _)
      · rw [decide_eq_false h1]
        rw [decide_eq_false (show ¬ 1 ≤ x.length by omega), Bool.false_and] at k
        exact ⟨_, rfl, k _ (Same.refl _)⟩
    · exact ⟨_, rfl, _, _, _, _, false, rfl, .ty _, ht, kt, _, rfl, k _ (Same.refl _)⟩
def spSource (K : PySem.W.Frag) : Sp := fun vs H Q _ => ∃ v, vs = [v] ∧ ((∃ x : Str, v = .str x ∧ Q (.bl (decide (x ∈ sources))) H) ∨ ∃ t, TyX K H v t ∧ PySem.W.kitOne K t (.type "str") = some false ∧ Q (.bl false) H)
theorem scis_source : FnScope ["value"] ["value"] (defScope sis_source) := ⟨rfl, rfl, rfl, by decide +kernel, rfl, by decide +kernel, by decide +kernel⟩
theorem d_is_source (F : FnP K "is_source" "is_source" sis_source f fd) (gm : mg "is_source" = some (.ref f)) (T : Tx K mg) : DefOk P w K mg base CX0 1 "is_source" ["value"] [] (spSource K) := by
  refine ⟨f, fd, [], F.ok scis_source (fun vs H Q E h => ?_) (fun cdv A outer s H vs Q E hr h => ?_), gm, F.kp, F.bindsN fun _ _ _ _ _ _ us hl => match us, hl with | [_], _ => rfl, .nil⟩
  · obtain ⟨_, rfl, _⟩ := h
    rfl
  · obtain ⟨v, rfl, h⟩ := h
    refine ⟨_, PSs.nox (pss_one (ps_ret (pe_and (pe_callB call_isi (by rfl) T.z_isinstance (by decide +kernel) (pa_cons (pv 0) (pa_cons (pe_bltn (v := .ty "str") (by rfl) T.z_str (by decide +kernel) rfl) pa_nil))) (pe_one (pe_cmpR op_in_seq (pv 0) (pe_glob (v := .ref _) (by rfl) T.g_SOURCES rfl) (by rfl)))))), ?_⟩
    rcases h with ⟨x, rfl, k⟩ | ⟨t, ht, kt, k⟩
    · refine ⟨_, rfl, _, _, _, _, true, rfl, .ty _, .base (.str x), kit_ty (by decide +kernel), _, rfl, ?_⟩
      refine ⟨_, rfl, _, sources.map V.str, rfl, .inr (T.t_SOURCES H), rfl, all_str _, ?_⟩
      rw [inV_str]
      exact k
    · exact ⟨_, rfl, _, _, _, _, false, rfl, .ty _, ht, kt, _, rfl, k⟩
def spNumber (K : PySem.W.Frag) : Sp := fun vs H Q _ => ∃ v, vs = [v] ∧ ((∃ n : Int, v = .int n ∧ Q (.bl (decide (1 ≤ n ∧ n ≤ 4))) H) ∨ (∃ b, v = .bl b ∧ Q (.bl false) H) ∨ ∃ t, TyX K H v t ∧ PySem.W.kitOne K t (.type "int") = some false ∧ Q (.bl false) H)
theorem scis_number : FnScope ["value"] ["value"] (defScope sis_number) := ⟨rfl, rfl, rfl, by decide +kernel, rfl, by decide +kernel, by decide +kernel⟩
theorem d_is_number (F : FnP K "is_number" "is_number" sis_number f fd) (gm : mg "is_number" = some (.ref f)) (T : Tx K mg) : DefOk P w K mg base CX0 1 "is_number" ["value"] [] (spNumber K) := by
  obtain ⟨tG, gGRE⟩ := T.g_GREATEST
  refine ⟨f, fd, [], F.ok scis_number (fun vs H Q E h => ?_) (fun cdv A outer s H vs Q E hr h => ?_), gm, F.kp, F.bindsN fun _ _ _ _ _ _ us hl => match us, hl with | [_], _ => rfl, .nil⟩
  · obtain ⟨_, rfl, _⟩ := h
    rfl
  · obtain ⟨v, rfl, h⟩ := h
    refine ⟨_, PSs.nox (pss_one (ps_ret (pe_and (pe_callB call_isi (by rfl) T.z_isinstance (by decide +kernel) (pa_cons (pv 0) (pa_cons (pe_bltn (v := .ty "int") (by rfl) T.z_int (by decide +kernel) rfl) pa_nil))) (pe_and (pe_not (pe_callB call_isi (by rfl) T.z_isinstance (by decide +kernel) (pa_cons (pv 0) (pa_cons (pe_bltn (v := .ty "bool") (by rfl) T.z_bool (by decide +kernel) rfl) pa_nil)))) (pe_one (pe_chain op_le op_le pe_int (pv 0) (pe_glob (v := .int 4) (by rfl) gGRE ⟨_, rfl⟩))))))), ?_⟩
    rcases h with ⟨n, rfl, k⟩ | ⟨b, rfl, k⟩ | ⟨t, ht, kt, k⟩
    · refine ⟨_, rfl, _, _, _, _, true, rfl, .ty _, .base (.int n), kit_ty (by decide +kernel), _, rfl, _, rfl, _, _, _, _, false, rfl, .ty _, .base (.int n), kit_ty (by decide +kernel), _, rfl, _, rfl, ?_⟩
      refine ⟨_, rfl, _, _, rfl, rfl, _, rfl, ?_⟩
      by_cases h1 : 1 ≤ n
      · rw [decide_eq_true h1]
        refine ⟨_, _, rfl, rfl, ?_⟩
        have e : decide (1 ≤ n ∧ n ≤ 4) = decide (n ≤ 4) := by simp [h1]
        rw [e] at k
        exact k
      · rw [decide_eq_false h1]
        have e : decide (1 ≤ n ∧ n ≤ 4) = false := by simp [h1]
        rw [e] at k
        exact k
    · exact ⟨_, rfl, _, _, _, _, true, rfl, .ty _, .base (.bl b), kit_ty (by decide +kernel), _, rfl, _, rfl, _, _, _, _, true, rfl, .ty _, .base (.bl b), kit_ty (by decide +kernel), _, rfl, _, rfl, k⟩
    · exact ⟨_, rfl, _, _, _, _, false, rfl, .ty _, ht, kt, _, rfl, k⟩
def spStage (C : Addr) (K : PySem.W.Frag) : Sp := fun vs H Q _ => ∃ v, vs = [v] ∧ (((∃ s, StG C K H v s) ∧ ∀ H', Same H H' → Q (.bl true) H') ∨ (Bad C K H v ∧ ∀ H', Same H H' → Q (.bl false) H'))
theorem scis_stage : FnScope ["value"] ["value"] (defScope sis_stage) := ⟨rfl, rfl, rfl, by decide +kernel, rfl, by decide +kernel, by decide +kernel⟩
theorem d_is_stage (F : FnP K "is_stage" "is_stage" sis_stage f fd) (gm : mg "is_stage" = some (.ref f)) (T : Ty P w K mg base) (D_is_name : DefOk P w K mg base CX0 1 "is_name" ["value"] [] (spName K)) (D_is_number : DefOk P w K mg base CX0 1 "is_number" ["value"] [] (spNumber K)) :
    DefOk P w K mg base CX0 2 "is_stage" ["value"] [] (spStage (He.ga K "Program") K) := by
  refine ⟨f, fd, [], F.ok scis_stage (fun vs H Q E h => ?_) (fun cdv A outer s H vs Q E hr h => ?_), gm, F.kp, F.bindsN fun _ _ _ _ _ _ us hl => match us, hl with | [_], _ => rfl, .nil⟩
  · obtain ⟨_, rfl, _⟩ := h
    rfl
  · obtain ⟨v, rfl, h⟩ := h
    refine ⟨_, PSs.nox (pss_cons (ps_if (PW.pt (pw_or (pt_not (pt_val (pe_callB call_isi (by rfl) T.z_isinstance (by decide +kernel) (pa_cons (pv 0) (pa_cons (pe_bltn (v := .ty "tuple") (by rfl) T.z_tuple (by decide +kernel) rfl) pa_nil))))) (pw_or (pt_cmpR (op_eq0 hr.units0) (pv 0) (pe_tup pa_nil) (nomark _)) (pw_or1 (pt_not (pt_val (pe_callB call_isi (by rfl) T.z_isinstance (by decide +kernel) (pa_cons (pe_ix ix_tup (pv 0) pe_int (fun _ _ => rfl)) (pa_cons (pe_bltn (v := .ty "str") (by rfl) T.z_str (by decide +kernel) rfl) pa_nil))))))))) (pss_one (ps_ret pe_bl))
  pss_nil)
  (pss_cons (ps_if (pt_cmpR op_eq (pe_ix ix_tup (pv 0) pe_int (fun _ _ => rfl)) pe_str (nomark _)) (pss_one (ps_ret (pe_cmpR op_eq (pe_callB call_len (by rfl) T.z_len PySem.boot_len (pa_cons (pv 0) pa_nil)) pe_int (nomark _))))
  pss_nil)
  (pss_cons (ps_if (pt_cmpR op_ne (pe_callB call_len (by rfl) T.z_len PySem.boot_len (pa_cons (pv 0) pa_nil)) pe_int (nomark _)) (pss_one (ps_ret pe_bl))
  pss_nil)
  (pss_cons (ps_if (pt_cmpR op_eq (pe_ix ix_tup (pv 0) pe_int (fun _ _ => rfl)) pe_str (nomark _)) (pss_one (ps_ret (pe_callB call_isi (by rfl) T.z_isinstance (by decide +kernel) (pa_cons (pe_ix ix_tup (pv 0) pe_int (fun _ _ => rfl)) (pa_cons (pe_glob (v := .ref _) (by rfl) T.g_Program rfl) pa_nil)))))
  pss_nil)
  (pss_one (ps_ret (pe_or (pe_and (pe_cmpR op_in_seq (pe_ix ix_tup (pv 0) pe_int (fun _ _ => rfl)) (pe_glob (v := .ref _) (by rfl) T.g_NAMED rfl) (by rfl)) (pe_one (pe_d D_is_name (hr.mono (by decide)) pass0 (pa_cons (pe_ix ix_tup (pv 0) pe_int (fun _ _ => rfl)) pa_nil)))) (pe_one (pe_and (pe_cmpR op_in_seq (pe_ix ix_tup (pv 0) pe_int (fun _ _ => rfl)) (pe_glob (v := .ref _) (by rfl) T.g_NUMBERED rfl) (by rfl)) (pe_one (pe_d D_is_number (hr.mono (by decide)) pass0 (pa_cons (pe_ix ix_tup (pv 0) pe_int (fun _ _ => rfl)) pa_nil)))))))))))), ?_⟩
    have main : (∃ a w r b, v = .ref a ∧ SqT K H a (.str w :: r) ∧ Tl (He.ga K "Program") K H w r b ∧ ∀ H', Same H H' → Q (.bl b) H') ∨ (((∃ t, TyX K H v t ∧ PySem.W.kitOne K t (.type "tuple") = some false) ∨ (∃ a, v = .ref a ∧ SqT K H a []) ∨
        (∃ a x r t, v = .ref a ∧ SqT K H a (x :: r) ∧ TyX K H x t ∧ PySem.W.kitOne K t (.type "str") = some false)) ∧ ∀ H', Same H H' → Q (.bl false) H') := by
      rcases h with ⟨⟨s, h⟩, k⟩ | ⟨h, k⟩
      · obtain ⟨a, w, r, e, h1, h2⟩ := h.tl T.pc
        exact .inl ⟨a, w, r, true, e, h1, h2, k⟩
      · rcases h.tl with h | h | h | ⟨a, w, r, e, h1, h2⟩
        · exact .inr ⟨.inl h, k⟩
        · exact .inr ⟨.inr (.inl h), k⟩
        · exact .inr ⟨.inr (.inr h), k⟩
        · exact .inl ⟨a, w, r, false, e, h1, h2, k⟩
    clear h
    rcases main with ⟨a, wd, r, b, rfl, hS, ht, k⟩ | ⟨⟨t, ht, kt⟩ | ⟨a, rfl, hS⟩ | ⟨a, x, r, t, rfl, hS, ht, kt⟩, k⟩
    · refine ⟨_, rfl, _, _, _, _, true, rfl, .ty _, ty_tup hS, kit_ty (by decide +kernel), _, rfl, ?_⟩
      refine ⟨_, rfl, szl rfl, fun p hp => ⟨_, _, _, rfl, rfl, .inl ⟨sqT_same (same_upd hp) hS, SqT.of upd_same⟩, _, rfl, ?_⟩⟩
      have s1 := same_upd (o := .tup []) hp
      have hS1 := sqT_same s1 hS
      have ht1 := ht.same s1
      have k1 : ∀ H', Same (upd H p (.tup [])) H' → Q (.bl b) H' := fun H' s2 => k H' (same_trans s1 s2)
      clear k ht hS
      generalize upd H p (.tup []) = H1 at hS1 ht1 k1 ⊢
      refine ⟨_, rfl, _, _, _, _, rfl, rfl, hS1, atI_nat (j := 0) rfl, _, _, _, _, true, rfl, .ty _, .base (.str wd), kit_ty (by decide +kernel), _, rfl, ?_⟩
      refine ⟨_, rfl, _, _, _, _, rfl, rfl, hS1, atI_nat (j := 0) rfl, rfl, _, rfl, ?_⟩
      rw [sc_str]
      by_cases hf : wd = "flat"
      · rw [decide_eq_true hf]
        refine ⟨_, rfl, _, _, rfl, .inr ⟨_, hS1, rfl⟩, rfl, ?_⟩
        have eb : b = decide (V.int (((V.str wd :: r).length : Nat) : Int) = V.int 1) := by
          cases ht1 with
          | flat e =>
            cases r with
            | nil => rfl
            | cons y r =>
              rw [decide_eq_false]
              · rfl
              · intro z
                have := V.int.inj z
                simp only [List.length_cons] at this
                omega
          | len e => exact absurd hf e
          | zip e => rw [hf] at e; exact absurd e (by decide +kernel)
          | word e => exact absurd hf e
          | nmS e => exact absurd hf (named_ne e).1
          | nmT e => exact absurd hf (named_ne e).1
          | nuI e => exact absurd hf (numbered_ne e).1
          | nuB e => exact absurd hf (numbered_ne e).1
          | nuT e => exact absurd hf (numbered_ne e).1
        have q := k1 H1 (Same.refl _)
        rw [eb] at q
        exact q
      rw [decide_eq_false hf]
      refine ⟨_, rfl, _, _, rfl, .inr ⟨_, hS1, rfl⟩, rfl, _, rfl, ?_⟩
      by_cases hl : r.length = 1
      · have e2 : (!decide (V.int (((V.str wd :: r).length : Nat) : Int) = V.int 2)) = false := by
          rw [decide_eq_true]
          · rfl
          · rw [List.length_cons, hl]
            rfl
        rw [e2]
        match r, hl with
        | [y], _ =>
          refine ⟨_, rfl, _, _, _, _, rfl, rfl, hS1, atI_nat (j := 0) rfl, rfl, _, rfl, ?_⟩
          rw [sc_str]
          by_cases hz : wd = "zip"
          · rw [decide_eq_true hz]
            have zz : ∃ t, TyX K H1 y t ∧ PySem.W.kitOne K t (.ref (He.ga K "Program")) = some b := by
              cases ht1 with
              | flat e => exact absurd e hf
              | len e e' => exact absurd rfl e'
              | zip e a c => exact ⟨_, a, c⟩
              | word e e' => exact absurd hz e'
              | nmS e => exact absurd hz (named_ne e).2.1
              | nmT e => exact absurd hz (named_ne e).2.1
              | nuI e => exact absurd hz (numbered_ne e).2.1
              | nuB e => exact absurd hz (numbered_ne e).2.1
              | nuT e => exact absurd hz (numbered_ne e).2.1
            obtain ⟨t, h1, h2⟩ := zz
            exact ⟨_, rfl, _, _, _, _, rfl, rfl, hS1, atI_nat (j := 1) rfl, _, _, _, _, b, rfl, .own _, h1, h2, k1 _ (Same.refl _)⟩
          · rw [decide_eq_false hz]
            refine ⟨_, rfl, _, _, _, _, rfl, rfl, hS1, atI_nat (j := 0) rfl, _, named.map V.str, rfl, .inr (T.t_NAMED _), rfl, all_str _, ?_⟩
            rw [inV_str]
            by_cases hn : wd ∈ named
            · rw [decide_eq_true hn]
              refine ⟨_, rfl, ?_⟩
              have nn : ((∃ x : Str, y = .str x ∧ x.length ≤ 1000 ∧ b = nameB x) ∨ ∃ t, TyX K H1 y t ∧ PySem.W.kitOne K t (.type "str") = some false ∧ b = false) := by
                cases ht1 with
                | flat e => exact absurd e hf
                | len e e' => exact absurd rfl e'
                | zip e => exact absurd e hz
                | word _ _ e => exact absurd hn e
                | nmS e l => exact .inl ⟨_, rfl, l, rfl⟩
                | nmT e a c => exact .inr ⟨_, a, c, rfl⟩
                | nuI e => exact absurd e (named_ne hn).2.2
                | nuB e => exact absurd e (named_ne hn).2.2
                | nuT e => exact absurd e (named_ne hn).2.2
              refine ⟨_, rfl, _, _, _, _, rfl, rfl, hS1, atI_nat (j := 1) rfl, _, rfl, ?_⟩
              have fin : ∀ c : Bool, c = b → ∀ H', Same H1 H' → ∃ c', V.bl c = V.bl c' ∧ (if c' = true then Q (.bl true) H' else tAndV (tOp (rIn K false) (tOp (rIxT K) (tVar 0) (tC (.int 0))) (tC (.ref (He.ga K "NUMBERED")))) (tCall (spNumber K) [] E0 (tCons (tOp (rIxT K) (tVar 0) (tC (.int 1))) tNil)) (start ["value"] [V.ref a]) H' Q) := by
                rintro c rfl H' s2
                refine ⟨c, rfl, ?_⟩
                cases c with
                | true => exact k1 H' s2
                | false =>
                  refine ⟨_, rfl, _, _, _, _, rfl, rfl, sqT_same s2 hS1, atI_nat (j := 0) rfl, _, counted.map V.str, rfl, .inr (T.t_NUMBERED _), rfl, all_str _, ?_⟩
                  rw [inV_str, if_neg Bool.false_ne_true, decide_eq_false (named_ne hn).2.2]
                  exact ⟨_, rfl, k1 H' s2⟩
              rcases nn with ⟨x, rfl, hx, e⟩ | ⟨t, h1, h2, e⟩
              · exact .inl ⟨x, rfl, hx, fun H' s2 => fin _ e.symm H' s2⟩
              · exact .inr ⟨t, h1, h2, fun H' s2 => fin _ e.symm H' s2⟩
            · rw [decide_eq_false hn]
              refine ⟨_, rfl, _, rfl, _, rfl, _, _, _, _, rfl, rfl, hS1, atI_nat (j := 0) rfl, _, counted.map V.str, rfl, .inr (T.t_NUMBERED _), rfl, all_str _, ?_⟩
              rw [inV_str]
              by_cases hm : wd ∈ counted
              · rw [decide_eq_true hm]
                refine ⟨_, rfl, ?_⟩
                refine ⟨_, rfl, _, _, _, _, rfl, rfl, hS1, atI_nat (j := 1) rfl, _, rfl, ?_⟩
                have q := k1 _ (Same.refl _)
                cases ht1 with
                | flat e => exact absurd e hf
                | len e e' => exact absurd rfl e'
                | zip e => exact absurd e hz
                | word _ _ _ e => exact absurd hm e
                | nmS e => exact absurd e hn
                | nmT e => exact absurd e hn
                | nuI e => exact .inl ⟨_, rfl, q⟩
                | nuB e => exact .inr (.inl ⟨_, rfl, q⟩)
                | nuT e a c => exact .inr (.inr ⟨_, a, c, q⟩)
              · rw [decide_eq_false hm]
                have q := k1 _ (Same.refl _)
                have eb : b = false := by
                  cases ht1 with
                  | flat e => exact absurd e hf
                  | len e e' => exact absurd rfl e'
                  | zip e => exact absurd e hz
                  | word _ _ _ e => rfl
                  | nmS e => exact absurd e hn
                  | nmT e => exact absurd e hn
                  | nuI e => exact absurd e hm
                  | nuB e => exact absurd e hm
                  | nuT e => exact absurd e hm
                rw [eb] at q
                exact ⟨_, rfl, q⟩
      · have e2 : (!decide (V.int (((V.str wd :: r).length : Nat) : Int) = V.int 2)) = true := by
          rw [decide_eq_false]
          · rfl
          · intro z
            have := V.int.inj z
            rw [List.length_cons] at this
            omega
        rw [e2]
        have eb : b = false := by
          cases ht1 with
          | flat e => exact absurd e hf
          | len e => rfl
          | zip e => exact absurd rfl hl
          | word e => exact absurd rfl hl
          | nmS e => exact absurd rfl hl
          | nmT e => exact absurd rfl hl
          | nuI e => exact absurd rfl hl
          | nuB e => exact absurd rfl hl
          | nuT e => exact absurd rfl hl
        have q := k1 _ (Same.refl _)
        rw [eb] at q
        exact q
    · refine ⟨_, rfl, _, _, _, _, false, rfl, .ty _, ht, kt, _, rfl, ?_⟩
      exact k _ (Same.refl _)
    · refine ⟨_, rfl, _, _, _, _, true, rfl, .ty _, ty_tup hS, kit_ty (by decide +kernel), _, rfl, ?_⟩
      refine ⟨_, rfl, szl rfl, fun p hp => ⟨_, _, _, rfl, rfl, .inl ⟨sqT_same (same_upd hp) hS, SqT.of upd_same⟩, _, rfl, ?_⟩⟩
      exact k _ (same_upd hp)
    · refine ⟨_, rfl, _, _, _, _, true, rfl, .ty _, ty_tup hS, kit_ty (by decide +kernel), _, rfl, ?_⟩
      refine ⟨_, rfl, szl rfl, fun p hp => ⟨_, _, _, rfl, rfl, .inl ⟨sqT_same (same_upd hp) hS, SqT.of upd_same⟩, _, rfl, ?_⟩⟩
      have s1 := same_upd (o := .tup []) hp
      refine ⟨_, rfl, _, _, _, _, rfl, rfl, sqT_same s1 hS, atI_nat (j := 0) rfl, _, _, _, _, false, rfl, .ty _, tyx_same s1 ht, kt, _, rfl, ?_⟩
      exact k _ s1
def spDepth (C : Addr) (K : PySem.W.Frag) : Sp := fun vs H Q _ => ∃ p hs ls row, vs = [.ref p] ∧ PrI C K H p hs ls row ∧ Q (.int (lastI hs)) H
theorem at_last : ∀ {hs : List Int}, hs ≠ [] → atI (hs.map V.int) (-1) = some (.int (lastI hs)) := by
  intro hs h
  obtain ⟨l, x, rfl⟩ : ∃ l x, hs = l ++ [x] := ⟨hs.dropLast, hs.getLast h, (List.dropLast_concat_getLast h).symm⟩
  rw [List.map_append]
  unfold lastI
  rw [List.getLast?_concat]
  exact atI_last _ _
theorem scProgram_depth : FnScope ["self"] ["self"] (defScope sProgram_depth) := ⟨rfl, rfl, rfl, by decide +kernel, rfl, by decide +kernel, by decide +kernel⟩
theorem p_depth (F : FnP K "depth" "Program.depth" sProgram_depth f fd) {p : Addr} (hp : PropOf K (He.ga K "Program") "depth" p f) (T : Ty P w K mg base) : PropOk P w K mg base CX0 1 (He.ga K "Program") "depth" (spDepth (He.ga K "Program") K) := by
  refine ⟨p, f, fd, F.ok scProgram_depth (fun vs H Q E h => ?_) (fun cdv A outer s H vs Q E hr h => ?_), hp, F.bindsN fun _ _ _ _ _ _ us hl => match us, hl with | [_], _ => rfl, T.pc.cl⟩
  · obtain ⟨_, _, _, _, rfl, _⟩ := h
    rfl
  · obtain ⟨q, hs, ls, row, rfl, ⟨dx, a, l, r, oh, ol, h1, h2, h3, h4, h5, h6⟩, k⟩ := h
    refine ⟨_, PSs.nox (pss_one (ps_ret (pe_ix ix_list (pe_fld (pv 0) rfl) (pe_un un_neg pe_int) (fun _ _ => rfl)))), ?_⟩
    exact ⟨_, rfl, _, _, _, _, _, rfl, h1, T.pc.cl, T.pc.nH, lookup_1, _, rfl, _, _, _, _, rfl, rfl, .inl (.inr ⟨_, h2⟩), at_last h5, k⟩
def spSourceP (C : Addr) (K : PySem.W.Frag) : Sp := fun vs H Q _ => ∃ p hs ls row, vs = [.ref p] ∧ PrI C K H p hs ls row ∧ Q (.str (ls.headD Str.empty)) H
theorem scProgram_source : FnScope ["self"] ["self"] (defScope sProgram_source) := ⟨rfl, rfl, rfl, by decide +kernel, rfl, by decide +kernel, by decide +kernel⟩
theorem p_source (F : FnP K "source" "Program.source" sProgram_source f fd) {p : Addr} (hp : PropOf K (He.ga K "Program") "source" p f) (T : Ty P w K mg base) : PropOk P w K mg base CX0 1 (He.ga K "Program") "source" (spSourceP (He.ga K "Program") K) := by
  refine ⟨p, f, fd, F.ok scProgram_source (fun vs H Q E h => ?_) (fun cdv A outer s H vs Q E hr h => ?_), hp, F.bindsN fun _ _ _ _ _ _ us hl => match us, hl with | [_], _ => rfl, T.pc.cl⟩
  · obtain ⟨_, _, _, _, rfl, _⟩ := h
    rfl
  · obtain ⟨q, hs, ls, row, rfl, ⟨dx, a, l, r, oh, ol, h1, h2, h3, h4, h5, _, h6, h7⟩, k⟩ := h
    refine ⟨_, PSs.nox (pss_one (ps_ret (pe_ix ix_list (pe_fld (pv 0) rfl) pe_int (fun _ _ => rfl)))), ?_⟩
    refine ⟨_, rfl, _, _, _, _, _, rfl, h1, T.pc.cl, T.pc.nL, (lookup_2).trans lookup_1, _, _, _, _, rfl, rfl, .inl (.inr ⟨_, h3⟩), ?_, k⟩
    match ls, h6 with
    | x :: _, _ => exact atI_nat (j := 0) rfl
def spStages (C : Addr) (K : PySem.W.Frag) : Sp := fun vs H Q _ => ∃ p hs ls row, vs = [.ref p] ∧ PrI C K H p hs ls row ∧ ∀ r, SqT K H r row → Q (.ref r) H
theorem scProgram_stages : FnScope ["self"] ["self"] (defScope sProgram_stages) := ⟨rfl, rfl, rfl, by decide +kernel, rfl, by decide +kernel, by decide +kernel⟩
theorem p_stages (F : FnP K "stages" "Program.stages" sProgram_stages f fd) {p : Addr} (hp : PropOf K (He.ga K "Program") "stages" p f) (T : Ty P w K mg base) : PropOk P w K mg base CX0 1 (He.ga K "Program") "stages" (spStages (He.ga K "Program") K) := by
  refine ⟨p, f, fd, F.ok scProgram_stages (fun vs H Q E h => ?_) (fun cdv A outer s H vs Q E hr h => ?_), hp, F.bindsN fun _ _ _ _ _ _ us hl => match us, hl with | [_], _ => rfl, T.pc.cl⟩
  · obtain ⟨_, _, _, _, rfl, _⟩ := h
    rfl
  · obtain ⟨q, hs, ls, row, rfl, ⟨dx, a, l, r, oh, ol, h1, h2, h3, h4, _⟩, k⟩ := h
    refine ⟨_, PSs.nox (pss_one (ps_ret (pe_fld (pv 0) rfl))), ?_⟩
    exact ⟨_, rfl, _, _, _, _, _, rfl, h1, T.pc.cl, T.pc.nR, (lookup_2).trans ((lookup_2).trans lookup_1), k _ h4⟩
def spSources (C : Addr) (K : PySem.W.Frag) : Sp := fun vs H Q _ => ∃ p hs ls row, vs = [.ref p] ∧ PrI C K H p hs ls row ∧ ∀ r H', Same H H' → SqT K H' r (ls.map V.str) → Q (.ref r) H'
theorem scProgram_sources : FnScope ["self"] ["self"] (defScope sProgram_sources) := ⟨rfl, rfl, rfl, by decide +kernel, rfl, by decide +kernel, by decide +kernel⟩
theorem p_sources (F : FnP K "sources" "Program.sources" sProgram_sources f fd) {p : Addr} (hp : PropOf K (He.ga K "Program") "sources" p f) (T : Ty P w K mg base) : PropOk P w K mg base CX0 1 (He.ga K "Program") "sources" (spSources (He.ga K "Program") K) := by
  refine ⟨p, f, fd, F.ok scProgram_sources (fun vs H Q E h => ?_) (fun cdv A outer s H vs Q E hr h => ?_), hp, F.bindsN fun _ _ _ _ _ _ us hl => match us, hl with | [_], _ => rfl, T.pc.cl⟩
  · obtain ⟨_, _, _, _, rfl, _⟩ := h
    rfl
  · obtain ⟨q, hs, ls, row, rfl, ⟨dx, a, l, r, oh, ol, h1, h2, h3, h4, _⟩, k⟩ := h
    refine ⟨_, PSs.nox (pss_one (ps_ret (pe_callTy call_tuple_of (by rfl) T.z_tuple (by decide +kernel) (pa_cons (pe_fld (pv 0) rfl) pa_nil)))), ?_⟩
    refine ⟨_, rfl, _, _, _, _, _, rfl, h1, T.pc.cl, T.pc.nL, (lookup_2).trans lookup_1, ?_⟩
    exact ⟨_, _, rfl, .inl ⟨.inl (.inr ⟨_, h3⟩), fun t ht => k _ _ (same_upd ht) (SqT.of upd_same)⟩⟩
/-! the depth behind a stage -/
def spBehind (C : Addr) (K : PySem.W.Frag) : Sp := fun vs H Q _ => ∃ d v s, vs = [.int d, v] ∧ StG C K H v s ∧ Q (.int (behind d s)) H
theorem scdepth_behind : FnScope ["depth", "stage"] ["depth", "stage"] (defScope sdepth_behind) := ⟨rfl, rfl, rfl, by decide +kernel, rfl, by decide +kernel, by decide +kernel⟩
theorem d_depth_behind (F : FnP K "depth_behind" "depth_behind" sdepth_behind f fd) (gm : mg "depth_behind" = some (.ref f)) (T : Ty P w K mg base) (P_depth : PropOk P w K mg base CX0 1 (He.ga K "Program") "depth" (spDepth (He.ga K "Program") K)) :
    DefOk P w K mg base CX0 3 "depth_behind" ["depth", "stage"] [] (spBehind (He.ga K "Program") K) := by
  refine ⟨f, fd, [], F.ok scdepth_behind (fun vs H Q E h => ?_) (fun cdv A outer s H vs Q E hr h => ?_), gm, F.kp, F.bindsN fun _ _ _ _ _ _ us hl => match us, hl with | [_, _], _ => rfl, .nil⟩
  · obtain ⟨_, _, _, rfl, _⟩ := h
    rfl
  · obtain ⟨d, v, s, rfl, hS, k⟩ := h
    refine ⟨_, PSs.nox (pss_cons (ps_if (pt_cmpR op_eq (pe_ix ix_tup (pv 1) pe_int (fun _ _ => rfl)) pe_str (nomark _)) (pss_one (ps_ret (pe_op op_add pe_int (pe_callB (call_min2 rfl) (by rfl) T.z_min (by decide +kernel) (pa_cons (pv 0) (pa_cons (pe_pp P_depth (hr.mono (by decide)) pass0 (pe_ix ix_tup (pv 1) pe_int (fun _ _ => rfl))) pa_nil))))))
  pss_nil)
  (pss_cons (ps_if (pt_cmpR op_eq (pe_ix ix_tup (pv 1) pe_int (fun _ _ => rfl)) pe_str (nomark _)) (pss_one (ps_ret (pe_op op_add (pv 0) pe_int)))
  pss_nil)
  (pss_cons (ps_if (pt_cmpR op_eq (pe_ix ix_tup (pv 1) pe_int (fun _ _ => rfl)) pe_str (nomark _)) (pss_one (ps_ret (pe_op op_sub (pv 0) pe_int)))
  pss_nil)
  (pss_one (ps_ret (pe_ifExp (pt_cmpR op_eq (pe_ix ix_tup (pv 1) pe_int (fun _ _ => rfl)) pe_str (nomark _)) pe_int (pv 0))))))), ?_⟩
    cases hS with
    | @zip _ q hs ls row a p =>
      obtain ⟨dx, _, _, _, _, _, h1, _⟩ := id p
      refine ⟨_, rfl, _, _, _, _, rfl, rfl, a, atI_nat (j := 0) rfl, rfl, _, rfl, ?_⟩
      rw [sc_str, decide_eq_true rfl]
      refine ⟨_, rfl, _, rfl, _, _, _, _, rfl, rfl, a, atI_nat (j := 1) rfl, _, _, _, rfl, h1, _, _, _, _, rfl, p, _, _, rfl, _, _, rfl, rfl, ?_⟩
      have e : behind d (.zip q hs ls row) = 1 + (if lastI hs < d then lastI hs else d) := by
        show 1 + min d (lastI hs) = _
        congr 1
        split <;> omega
      rw [e] at k
      exact k
    | flat a =>
      refine ⟨_, rfl, _, _, _, _, rfl, rfl, a, atI_nat (j := 0) rfl, rfl, _, rfl, ?_⟩
      rw [sc_str, decide_eq_false (by decide +kernel)]
      refine ⟨_, rfl, _, _, _, _, rfl, rfl, a, atI_nat (j := 0) rfl, rfl, _, rfl, ?_⟩
      rw [sc_str, decide_eq_false (by decide +kernel)]
      refine ⟨_, rfl, _, _, _, _, rfl, rfl, a, atI_nat (j := 0) rfl, rfl, _, rfl, ?_⟩
      rw [sc_str, decide_eq_true rfl]
      exact ⟨_, rfl, _, _, rfl, rfl, k⟩
    | @nm _ wd x a b c =>
      have key : ∀ w ∈ named, w ≠ "zip" ∧ w ≠ "lots" ∧ w ≠ "flat" := by decide +kernel
      obtain ⟨n1, n2, n3⟩ := key wd b
      refine ⟨_, rfl, _, _, _, _, rfl, rfl, a, atI_nat (j := 0) rfl, rfl, _, rfl, ?_⟩
      rw [sc_str, decide_eq_false n1]
      refine ⟨_, rfl, _, _, _, _, rfl, rfl, a, atI_nat (j := 0) rfl, rfl, _, rfl, ?_⟩
      rw [sc_str, decide_eq_false n2]
      refine ⟨_, rfl, _, _, _, _, rfl, rfl, a, atI_nat (j := 0) rfl, rfl, _, rfl, ?_⟩
      rw [sc_str, decide_eq_false n3]
      refine ⟨_, rfl, _, _, _, _, rfl, rfl, a, atI_nat (j := 0) rfl, rfl, _, rfl, ?_⟩
      rw [sc_str]
      have e : behind d (.nm wd x) = if wd = "map" then 0 else d := rfl
      rw [e] at k
      by_cases hm : wd = "map"
      · rw [decide_eq_true hm]
        rw [if_pos hm] at k
        exact k
      · rw [decide_eq_false hm]
        rw [if_neg hm] at k
        exact ⟨_, rfl, k⟩
    | @nu _ wd n a b c e =>
      have key : ∀ w ∈ counted, w ≠ "zip" ∧ w ≠ "map" ∧ w ≠ "flat" := by decide +kernel
      obtain ⟨n1, n2, n3⟩ := key wd b
      refine ⟨_, rfl, _, _, _, _, rfl, rfl, a, atI_nat (j := 0) rfl, rfl, _, rfl, ?_⟩
      rw [sc_str, decide_eq_false n1]
      refine ⟨_, rfl, _, _, _, _, rfl, rfl, a, atI_nat (j := 0) rfl, rfl, _, rfl, ?_⟩
      rw [sc_str]
      have e : behind d (.nu wd n) = if wd = "lots" then d + 1 else d := rfl
      rw [e] at k
      by_cases hm : wd = "lots"
      · rw [decide_eq_true hm]
        rw [if_pos hm] at k
        exact ⟨_, rfl, _, _, rfl, rfl, k⟩
      · rw [decide_eq_false hm]
        rw [if_neg hm] at k
        refine ⟨_, rfl, _, _, _, _, rfl, rfl, a, atI_nat (j := 0) rfl, rfl, _, rfl, ?_⟩
        rw [sc_str, decide_eq_false n3]
        refine ⟨_, rfl, _, _, _, _, rfl, rfl, a, atI_nat (j := 0) rfl, rfl, _, rfl, ?_⟩
        rw [sc_str, decide_eq_false n2]
        exact ⟨_, rfl, k⟩
/-! what can stand -/
def spStand (C : Addr) (K : PySem.W.Frag) : Sp := fun vs H Q _ => ∃ a dx fs h l hs ls v, vs = [.ref a, v] ∧ H a = some (.ins C dx fs) ∧ List.lookup ("heights" : Str) fs = some (V.ref h) ∧ List.lookup ("leaves" : Str) fs = some (V.ref l) ∧ SqL K H h (hs.map V.int) ∧ SqL K H l (ls.map V.str) ∧ hs ≠ [] ∧
  ((Bad C K H v ∧ ∀ H', Same H H' → Q (.bl false) H') ∨ ∃ s, StG C K H v s ∧ ∀ H', Same H H' → Q (.bl (stands (lastI hs) ls s)) H')
theorem scProgram_can_stand : FnScope ["self", "stage", "source"] ["self", "stage"] (defScope sProgram_can_stand) := ⟨rfl, rfl, rfl, by decide +kernel, rfl, by decide +kernel, by decide +kernel⟩
theorem m_can_stand (F : FnP K "can_stand" "Program.can_stand" sProgram_can_stand f fd) (hm : Meth K (He.ga K "Program") "can_stand" f) (T : Ty P w K mg base) (D_is_stage : DefOk P w K mg base CX0 2 "is_stage" ["value"] [] (spStage (He.ga K "Program") K)) :
    MethOk P w K mg base CX0 3 (He.ga K "Program") "can_stand" ["self", "stage"] (spStand (He.ga K "Program") K) := by
  refine ⟨f, fd, F.ok scProgram_can_stand (fun vs H Q E h => ?_) (fun cdv A outer s H vs Q E hr h => ?_), hm, F.bindsN fun _ _ _ _ _ _ us hl => match us, hl with | [_, _], _ => rfl, T.pc.cl⟩
  · obtain ⟨_, _, _, _, _, _, _, _, rfl, _⟩ := h
    rfl
  · obtain ⟨a, dx, fs, hh, ll, hs, ls, v, rfl, hA, fH, fL, qH, qL, hne, h⟩ := h
    refine ⟨_, PSs.nox (pss_cons (ps_if (pt_not (pt_val (pe_d D_is_stage (hr.mono (by decide)) pass0 (pa_cons (pv 1) pa_nil)))) (pss_one (ps_ret pe_bl))
  pss_nil)
  (pss_cons (ps_if (pt_cmpR op_eq (pe_ix ix_tup (pv 1) pe_int (fun _ _ => rfl)) pe_str (nomark _)) (pss_one (ps_ret (pe_not (pe_callB (cr_any rfl) (by rfl) T.z_any (by decide +kernel) (pa_cons (pe_lc (own := [("source", 2)]) (g := gName 2) (tt := tYes) (te := tOp (rIn K false) (tVar 2) (tFld K (tVar 0) "leaves")) (by rfl) scProgram_can_stand.nd (pi_list (pe_fld (pe_ix ix_tup (pv 1) pe_int (fun _ _ => rfl)) rfl)) (blkOk_by (own := [("source", 2)]) (N := ["self", "stage", "source"]) (sc := defScope sProgram_can_stand) (by decide +kernel)) (fun _ _ _ _ _ => pg_name (i := 2) scProgram_can_stand.nd rfl (Or.inl rfl)) (fun _ _ _ _ _ => pts_nil) (fun _ _ _ _ _ => (pe_cmpR op_in_seq (pv 2) (pe_fld (pv 0) rfl) (by rfl)))) pa_nil)))))
  pss_nil)
  (pss_one (ps_ret (pe_or (pe_cmpR op_ne (pe_ix ix_tup (pv 1) pe_int (fun _ _ => rfl)) pe_str (nomark _)) (pe_one (pe_cmpR op_gt (pe_ix ix_list (pe_fld (pv 0) rfl) (pe_un un_neg pe_int) (fun _ _ => rfl)) pe_int (nomark _)))))))), ?_⟩
    rcases h with ⟨hB, k⟩ | ⟨s, hS, k⟩
    · exact ⟨_, rfl, _, rfl, .inr ⟨hB, fun H' s2 => ⟨_, rfl, k _ s2⟩⟩⟩
    · refine ⟨_, rfl, _, rfl, .inl ⟨⟨s, hS⟩, fun H1 s1 => ⟨_, rfl, ?_⟩⟩⟩
      have hS1 := hS.kp (.of s1)
      have hA1 := s1 _ _ hA
      have qH1 := sqL_same s1 qH
      have qL1 := sqL_same s1 qL
      have k1 : ∀ H', Same H1 H' → Q (.bl (stands (lastI hs) ls s)) H' := fun H' s2 => k H' (same_trans s1 s2)
      cases hS1 with
      | @zip _ q hs' ls' row a p =>
        obtain ⟨dq, b1, b2, b3, o1, o2, h1, h2, h3, _, _, lk, _, _, _⟩ := id p
        have hl64 := lk.len
        refine ⟨_, rfl, _, _, _, _, rfl, rfl, a, atI_nat (j := 0) rfl, rfl, _, rfl, ?_⟩
        rw [sc_str, decide_eq_true rfl]
        refine ⟨_, rfl, _, _, _, _, rfl, rfl, a, atI_nat (j := 1) rfl, _, _, _, _, _, rfl, h1, T.pc.cl, T.pc.nL, (lookup_2).trans lookup_1, _, rfl, ⟨_, .inl (.inr ⟨_, h3⟩)⟩, fun D hD => ?_⟩
        refine lc_one walk_list 2 (fun i => V.bl (decide (ls'.getD i Str.empty ∈ ls))) (by rw [List.length_map]; omega) (fun _ => .inl (.inr ⟨_, (same_upd hD _ _ h3)⟩)) (fun _ => rfl) (fun _ _ _ _ y => y.1) ?_ ?_
        · rintro i y l R hi ⟨_, hc⟩ hR
          have sD : Same H1 (upd H1 D (.lst l)) := same_upd hD
          rw [List.getElem?_map] at hc
          obtain ⟨y, hy, rfl⟩ := Option.map_eq_some_iff.mp hc
          refine ⟨_, rfl, _, rfl, _, _, _, _, _, rfl, sD _ _ hA1, T.pc.cl, T.pc.nL, fL, _, _, rfl, .inl (sqL_same sD qL1), rfl, all_str _, ?_⟩
          rw [inV_str]
          rw [List.getD_eq_getElem?_getD, hy] at hR
          exact hR
        · refine ⟨D, (List.range ls'.length).map fun i => decide (ls'.getD i Str.empty ∈ ls), rfl, SqL.of ?_, ?_⟩
          · rw [upd_same, List.map_map, List.length_map]
            rfl
          · have e : ((List.range ls'.length).map fun i => decide (ls'.getD i Str.empty ∈ ls)).any id = ls'.any fun x => decide (x ∈ ls) := by
              rw [List.any_map]
              rw [Bool.eq_iff_iff, List.any_eq_true, List.any_eq_true]
              constructor
              · rintro ⟨i, hi, h⟩
                have hi' := List.mem_range.mp hi
                exact ⟨ls'[i], List.getElem_mem hi', by simpa [List.getD_eq_getElem?_getD, List.getElem?_eq_getElem hi'] using h⟩
              · rintro ⟨c, hc, h⟩
                obtain ⟨i, hi, rfl⟩ := List.mem_iff_getElem.mp hc
                exact ⟨i, List.mem_range.mpr hi, by simpa [List.getD_eq_getElem?_getD, List.getElem?_eq_getElem hi] using h⟩
            rw [e]
            exact ⟨_, rfl, k1 _ (same_upd hD)⟩
      | flat a =>
        refine ⟨_, rfl, _, _, _, _, rfl, rfl, a, atI_nat (j := 0) rfl, rfl, _, rfl, ?_⟩
        rw [sc_str, decide_eq_false (by decide +kernel)]
        refine ⟨_, rfl, _, _, _, _, rfl, rfl, a, atI_nat (j := 0) rfl, rfl, ?_⟩
        rw [sc_str, decide_eq_true rfl]
        exact ⟨_, rfl, _, rfl, _, _, _, _, _, rfl, hA1, T.pc.cl, T.pc.nH, fH, _, rfl, _, _, _, _, rfl, rfl, qH1, at_last hne, _, _, rfl, rfl, k1 _ (Same.refl _)⟩
      | @nm _ wd x a b c =>
        have key : ∀ w ∈ named, w ≠ "zip" ∧ w ≠ "flat" := by decide +kernel
        obtain ⟨n1, n2⟩ := key wd b
        refine ⟨_, rfl, _, _, _, _, rfl, rfl, a, atI_nat (j := 0) rfl, rfl, _, rfl, ?_⟩
        rw [sc_str, decide_eq_false n1]
        refine ⟨_, rfl, _, _, _, _, rfl, rfl, a, atI_nat (j := 0) rfl, rfl, ?_⟩
        rw [sc_str, decide_eq_false n2]
        exact ⟨_, rfl, k1 _ (Same.refl _)⟩
      | @nu _ wd n a b c e =>
        have key : ∀ w ∈ counted, w ≠ "zip" ∧ w ≠ "flat" := by decide +kernel
        obtain ⟨n1, n2⟩ := key wd b
        refine ⟨_, rfl, _, _, _, _, rfl, rfl, a, atI_nat (j := 0) rfl, rfl, _, rfl, ?_⟩
        rw [sc_str, decide_eq_false n1]
        refine ⟨_, rfl, _, _, _, _, rfl, rfl, a, atI_nat (j := 0) rfl, rfl, ?_⟩
        rw [sc_str, decide_eq_false n2]
        exact ⟨_, rfl, k1 _ (Same.refl _)⟩
end

end K80
namespace K80
open PySem PySem.Spec PyProof.Rows L2 Lw
local macro_rules | `(tactic| walk_at "rd") => `(tactic| repeat (first | refine ⟨_, rfl, ?_⟩ | refine ⟨_, _, rfl, rfl, ?_⟩))
/-! ### Program.__init__ -/
section
variable {P : Program} {w : World} {K : PySem.W.Frag} {mg : Str → Option Value} {base : Heap} {f : Addr} {fd : FuncData}
/-- any source, any stages: what is raised, or the program -/
def spInit (C : Addr) (K : PySem.W.Frag) : Sp := fun vs H Q E => ∃ a dx src st, vs = [.ref a, src, st] ∧ H a = some (.ins C dx []) ∧
  ((((∃ x : Str, src = .str x ∧ x ∉ sources) ∨ ∃ t, TyX K H src t ∧ PySem.W.kitOne K t (.type "str") = some false) ∧ ∀ d H', But [a] H H' → H d = none → H' d = some (.xd [("value", src)]) → E (.ref (He.ga K "BadSource")) (some d) H') ∨
   ∃ x : Str, src = .str x ∧ x ∈ sources ∧
    ((((∃ t, TyX K H st t ∧ PySem.W.kitOne K t (.type "list") = some false ∧ PySem.W.kitOne K t (.type "tuple") = some false) ∨ (∃ p xs, st = .ref p ∧ (SqL K H p xs ∨ SqT K H p xs) ∧ 6 < xs.length)) ∧ ∀ d H', But [a] H H' → H d = none → H' d = some (.xd [("value", st)]) → E (.ref (He.ga K "BadStages")) (some d) H') ∨
     ∃ p xs, st = .ref p ∧ SqL K H p xs ∧ xs.length ≤ 6 ∧
      ((∃ n, Run C K H 0 [0] [x] xs (.inl n) ∧ ∀ d H', But [a] H H' → H d = none → H' d = some (.xd [("position", .int n)]) → E (.ref (He.ga K "BadStage")) (some d) H') ∨
       ∃ hs ls, Run C K H 0 [0] [x] xs (.inr (hs, ls)) ∧ ∀ H', But [a] H H' → PrI C K H' a hs ls xs → Q .non H')))
theorem scProgram_init : FnScope ["self", "source", "stages", "position", "stage"] ["self", "source", "stages"] (defScope sProgram_init) := ⟨rfl, rfl, rfl, by decide +kernel, rfl, by decide +kernel, by decide +kernel⟩
theorem i_Program {e0 : Addr} (F : FunD K "__init__" "Program.__init__" (defArgs sProgram_init) (defBody sProgram_init) (defScope sProgram_init) [.ref e0] [] f fd) (T : Ty P w K mg base) (D_is_source : DefOk P w K mg base CX0 1 "is_source" ["value"] [] (spSource K))
    (D_depth_behind : DefOk P w K mg base CX0 3 "depth_behind" ["depth", "stage"] [] (spBehind (He.ga K "Program") K)) (M_stand : MethOk P w K mg base CX0 3 (He.ga K "Program") "can_stand" ["self", "stage"] (spStand (He.ga K "Program") K)) :
    FnOk P w K mg base (L2.CX P w) 4 f fd ["self", "source", "stages"] (spInit (He.ga K "Program") K) ∧ Binds K fd ["self", "source", "stages"] [] ∧ ∃ ds, Vals [.ref e0] ds ∧ Binds K fd ["self", "source", "stages"] ds := by
  obtain ⟨tM, gMOS⟩ := T.g_MOST_STAGES
  refine ⟨F.ok scProgram_init (fun vs H Q E h => ?_) (fun cdv A outer s H vs Q E hr h => ?_), ?_, ?_⟩
  · obtain ⟨_, _, _, _, rfl, _⟩ := h
    rfl
  · obtain ⟨a, dx, src, st, rfl, hA, h⟩ := h
    refine ⟨_, (pss_cons (ps_if (pt_not (pt_val (pe_d D_is_source (hr.mono (by decide)) pass0 (pa_cons (pv 1) pa_nil)))) (pss_one (ps_raise rfl (takes_of rfl rfl rfl rfl) (pmk_er T.e_BadSource (hr.mono (by decide)) (pa_cons (pv 1) pa_nil))))
  pss_nil)
  (pss_cons (ps_if (PW.pt (pw_or (pt_not (pt_val (pe_callB call_isiT (by rfl) T.z_isinstance (by decide +kernel) (pa_cons (pv 2) (pa_cons (pe_tup (pa_cons (pe_bltn (v := .ty "list") (by rfl) T.z_list (by decide +kernel) rfl) (pa_cons (pe_bltn (v := .ty "tuple") (by rfl) T.z_tuple (by decide +kernel) rfl) pa_nil))) pa_nil))))) (pw_or1 (pt_cmpR op_gt (pe_callB call_len (by rfl) T.z_len PySem.boot_len (pa_cons (pv 2) pa_nil)) (pe_glob (v := .int 6) (by rfl) gMOS ⟨_, rfl⟩) (nomark _))))) (pss_one (ps_raise rfl (takes_of rfl rfl rfl rfl) (pmk_er T.e_BadStages (hr.mono (by decide)) (pa_cons (pv 2) pa_nil))))
  pss_nil)
  (pss_cons (ps_fld (pv 0) (pe_lst (pa_cons pe_int pa_nil)) rfl)
  (pss_cons (ps_fld (pv 0) (pe_lst (pa_cons (pv 1) pa_nil)) rfl)
  (pss_cons (ps_for (passes_of rfl) rfl (pi_enum (by rfl) T.z_enumerate (pa_cons (pv 2) pa_nil)) (pg_tup rfl (pgs_cons (pg_name (i := 3) scProgram_init.nd rfl (.inl rfl)) (pgs_cons (pg_name (i := 4) scProgram_init.nd rfl (.inl rfl)) pgs_nil)))
  (pss_cons (ps_if (pt_not (pt_val (pe_mt M_stand hr pass0 (pv 0) (pa_cons (pv 4) pa_nil)))) (pss_one (ps_raise rfl (takes_of rfl rfl rfl rfl) (pmk_er T.e_BadStage (hr.mono (by decide)) (pa_cons (pv 3) pa_nil))))
  pss_nil)
  (pss_cons (ps_expr (pe_bm PySem.F.plainAttrs_list PySem.F.slot_list_append PySem.F.type_list_append mt_append (pe_fld (pv 0) rfl) (pa_cons (pe_d D_depth_behind (hr.mono (by decide)) pass0 (pa_cons (pe_ix ix_list (pe_fld (pv 0) rfl) (pe_un un_neg pe_int) (fun _ _ => rfl)) (pa_cons (pv 4) pa_nil))) pa_nil)))
  (pss_one (ps_if (pt_cmpR op_eq (pe_ix ix_tup (pv 4) pe_int (fun _ _ => rfl)) pe_str (nomark _)) (pss_one (ps_expr (pe_bm PySem.F.plainAttrs_list PySem.F.slot_list_extend PySem.F.type_list_extend mt_extendR (pe_fld (pv 0) rfl) (pa_cons (pe_fld (pe_ix ix_tup (pv 4) pe_int (fun _ _ => rfl)) rfl) pa_nil))))
  pss_nil)))))
  (pss_one (ps_frz (ps_frz (ps_fld (pv 0) (pe_callTy call_list_or (by rfl) T.z_tuple (by decide +kernel) (pa_cons (pv 2) pa_nil)) rfl))))))))), ?_⟩
    rcases h with ⟨hb, k⟩ | ⟨x, rfl, hx, h⟩
    · have hr1 : ∀ d H', But [a] H H' → H d = none → H' d = some (.xd [("value", src)]) → E (.ref (He.ga K "BadSource")) (some d) H' := k
      rcases hb with ⟨x, rfl, hx⟩ | ⟨t, ht, kt⟩
      · refine ⟨_, rfl, _, rfl, .inl ⟨x, rfl, _, rfl, ?_⟩⟩
        rw [decide_eq_false hx]
        exact ⟨_, rfl, _, rfl, fun d H' s1 nd e => k d H' (.of s1) nd e⟩
      · exact ⟨_, rfl, _, rfl, .inr ⟨t, ht, kt, _, rfl, _, rfl, _, rfl, fun d H' s1 nd e => k d H' (.of s1) nd e⟩⟩
    refine ⟨_, rfl, _, rfl, .inl ⟨x, rfl, _, rfl, ?_⟩⟩
    rw [decide_eq_true hx]
    refine ⟨_, rfl, ?_⟩
    rcases h with ⟨hb, k⟩ | ⟨p, xs, rfl, hS, hl6, h⟩
    · rcases hb with ⟨t, ht, kl, kt⟩ | ⟨p, xs, rfl, hS, hl6⟩
      · refine ⟨szl rfl, fun tp hp => ⟨_, _, _, t, [.type "list", .type "tuple"], false, rfl, upd_same, .cons (.ty _) (.cons (.ty _) .nil), tyx_same (same_upd hp) ht, kitAny_cons kl (fun _ => kitAny_cons kt (fun _ => rfl) (fun z => nomatch z)) (fun z => nomatch z), _, rfl, ?_⟩⟩
        exact ⟨_, rfl, _, rfl, fun d H' s1 nd e => k d H' (.of (same_trans (same_upd hp) s1)) (none_same (same_upd hp) nd) e⟩
      · have ht : ∃ n : String, TyX K H (.ref p) (.type n) ∧ PySem.W.kitAny K (.type n) [.type "list", .type "tuple"] = some true := by
          rcases hS with hS | hS
          · exact ⟨_, ty_lst hS, kitAny_cons (b := true) (kit_ty (by decide +kernel)) (fun z => nomatch z) fun _ => rfl⟩
          · exact ⟨_, ty_tup hS, kitAny_cons (b := false) (kit_ty (by decide +kernel)) (fun _ => kitAny_cons (b := true) (kit_ty (by decide +kernel)) (fun z => nomatch z) fun _ => rfl) fun z => nomatch z⟩
        obtain ⟨n, ht, kt⟩ := ht
        refine ⟨szl rfl, fun tp hp => ⟨_, _, _, _, [.type "list", .type "tuple"], true, rfl, upd_same, .cons (.ty _) (.cons (.ty _) .nil), tyx_same (same_upd hp) ht, kt, _, rfl, ?_⟩⟩
        have s0 := same_upd (o := .tup [.ty "list", .ty "tuple"]) hp
        have eL : decide ((6 : Int) < (xs.length : Int)) = true := decide_eq_true (by omega)
        have fin : ∀ H1, Same H H1 → tCons (tVar 2) tNil (start ["self", "source", "stages", "position", "stage"] [V.ref a, V.str x, V.ref p]) H1 fun vs H1 => ∃ v, vs = [v] ∧ ∀ (d : Addr) (H' : Hp), Same H1 H' → H1 d = none → H' d = some (HO.xd [("value", v)]) → E (.ref (He.ga K "BadStages")) (some d) H' :=
          fun H1 s1 => ⟨_, rfl, _, rfl, fun d H' s2 nd e => k d H' (.of (same_trans s1 s2)) (none_same s1 nd) e⟩
        rcases hS with hS | hS
        · refine ⟨_, rfl, _, _, rfl, .inl ⟨_, sqL_same s0 hS, rfl⟩, _, _, rfl, rfl, _, rfl, ?_⟩
          rw [eL]
          exact fin _ s0
        · refine ⟨_, rfl, _, _, rfl, .inr ⟨_, sqT_same s0 hS, rfl⟩, _, _, rfl, rfl, _, rfl, ?_⟩
          rw [eL]
          exact fin _ s0
    refine ⟨szl rfl, fun tp hp => ⟨_, _, _, _, [.type "list", .type "tuple"], true, rfl, upd_same, .cons (.ty _) (.cons (.ty _) .nil), tyx_same (same_upd hp) (ty_lst hS), kitAny_cons (b := true) (kit_ty (by decide +kernel)) (fun z => nomatch z) (fun _ => rfl), _, rfl, ?_⟩⟩
    have s0 := same_upd (o := .tup [.ty "list", .ty "tuple"]) hp
    refine ⟨_, rfl, _, _, rfl, .inl ⟨_, sqL_same s0 hS, rfl⟩, _, _, rfl, rfl, _, rfl, ?_⟩
    rw [decide_eq_false (by omega : ¬ (6 : Int) < (xs.length : Int))]
    generalize upd H tp (.tup [.ty "list", .ty "tuple"]) = H0 at s0 ⊢
    have hA0 := s0 _ _ hA
    refine ⟨szl rfl, fun hh hn => ⟨_, rfl, a, _, dx, [], rfl, same_upd hn _ _ hA0, T.pc.cl, T.pc.nH, by decide, ?_⟩⟩
    refine ⟨_, rfl, szl rfl, fun ll ln => ⟨_, rfl, a, _, dx, _, rfl, same_upd ln _ _ upd_same, T.pc.cl, T.pc.nL, (by show 1 < 1000; decide), ?_⟩⟩
    have eP : putF "leaves" (V.ref ll) (putF "heights" (V.ref hh) []) = [(("heights" : Str), V.ref hh), (("leaves" : Str), V.ref ll)] := rfl
    rw [eP]
    have eQ : putF "heights" (V.ref hh) [] = [(("heights" : Str), V.ref hh)] := rfl
    rw [eQ] at ln ⊢
    have J : Ini (He.ga K "Program") a dx hh ll H (upd (upd (upd (upd H0 hh (.lst [.int 0])) a (.ins (He.ga K "Program") dx [("heights", .ref hh)])) ll (.lst [.str x])) a (.ins (He.ga K "Program") dx [("heights", .ref hh), ("leaves", .ref ll)])) [0] [x] := by
      have nha : hh ≠ a := by
        rintro rfl
        rw [hA0] at hn
        cases hn
      have nla : ll ≠ a := by
        rintro rfl
        rw [upd_same] at ln
        cases ln
      have nlh : ll ≠ hh := by
        rintro rfl
        rw [upd_ne nla, upd_same] at ln
        cases ln
      rw [upd_ne nla, upd_ne nlh] at ln
      have nh : H hh = none := none_same s0 hn
      have nl : H ll = none := none_same s0 ln
      exact ⟨upd_same, by rw [upd_ne nha, upd_ne nlh.symm, upd_ne nha, upd_same]; rfl, by rw [upd_ne nla, upd_same]; rfl, (((((But.of s0).updN nh).trans (.upd (by simp))).updN nl).trans (.upd (by simp))), nh, nl, nlh.symm, nha, nla⟩
    generalize (upd (upd (upd (upd H0 hh (.lst [.int 0])) a (.ins (He.ga K "Program") dx [("heights", .ref hh)])) ll (.lst [.str x])) a (.ins (He.ga K "Program") dx [("heights", .ref hh), ("leaves", .ref ll)])) = H1 at J ⊢
    clear hA0 s0 hn ln
    obtain ⟨o, hR, kE, kQ⟩ : ∃ o, Run (He.ga K "Program") K H 0 [0] [x] xs o ∧ (∀ n, o = .inl n → ∀ d H', But [a] H H' → H d = none → H' d = some (.xd [("position", .int n)]) → E (.ref (He.ga K "BadStage")) (some d) H') ∧
        ∀ hs ls, o = .inr (hs, ls) → ∀ H', But [a] H H' → PrI (He.ga K "Program") K H' a hs ls xs → Q .non H' := by
      rcases h with ⟨n, h, k⟩ | ⟨hs, ls, h, k⟩
      · exact ⟨_, h, (fun m e => by cases e; exact k), (fun _ _ e => by cases e)⟩
      · exact ⟨_, h, (fun m e => by cases e), (fun _ _ e => by cases e; exact k)⟩
    clear h
    have hSJ : ∀ H', But [a] H H' → SqL K H' p xs := by
      intro H' b
      refine sqL_but b ?_ hS
      rintro b hb o e
      rw [List.mem_singleton.mp hb, hA] at e
      cases e
      exact fun _ _ => ⟨(fun z => by cases z), fun z => by cases z⟩
    refine ⟨_, rfl, p, xs, rfl, hSJ _ J.but, for_enum (K := K) (a := p) (xs := xs) (fun i σ H' => ∃ (hs : List Int) (ls : List Str) (c3 c4 : Option V), σ = [some (.ref a), some (.str x), some (.ref p), c3, c4] ∧ Ini (He.ga K "Program") a dx hh ll H H' hs ls ∧ hs.length = i + 1 ∧ LsOk ls ∧ ls ≠ [] ∧ Run (He.ga K "Program") K H i hs ls (xs.drop i) o)
      ⟨[0], [x], _, _, rfl, J, rfl, .one hx, by simp, hR⟩ (fun i σ H' _ ⟨_, _, _, _, _, I, _⟩ => hSJ _ I.but) ?_ ?_⟩
    · rintro i v t σ H2 hv ⟨hs, ls, c3, c4, rfl, I, l1, lk, l0, R⟩ ht
      have sT := same_upd (o := .tup [.int (i : Nat), v]) ht
      obtain ⟨hi, ev⟩ := List.getElem?_eq_some_iff.mp hv
      rw [List.drop_eq_getElem_cons hi, ev] at R
      have I2 := I.same sT
      have hne : hs ≠ [] := by
        rintro rfl
        cases l1
      refine ⟨t, _, rfl, SqT.of upd_same, rfl, _, _, rfl, _, _, rfl, rfl, ?_⟩
      generalize upd H2 t (.tup [.int (i : Nat), v]) = H3 at I2 ⊢
      refine ⟨_, rfl, a, dx, _, rfl, I2.hA, rfl, _, rfl, a, dx, _, hh, ll, hs, ls, v, rfl, I2.hA, lookup_1, (lookup_2).trans lookup_1, SqL.of I2.hH, SqL.of I2.hL, hne, ?_⟩
      cases R with
      | bad hb =>
        exact .inl ⟨hb.Kp (I2.Kp hA), fun H4 s4 => ⟨_, rfl, _, rfl, _, rfl, fun d H' s5 nd e => kE i rfl d H' ((I2.same s4).but.trans (.of s5)) (I2.none s4 nd) e⟩⟩
      | off hg hs0 =>
        refine .inr ⟨_, hg.Kp (I2.Kp hA), fun H4 s4 => ⟨_, rfl, ?_⟩⟩
        rw [hs0]
        exact ⟨_, rfl, _, rfl, fun d H' s5 nd e => kE i rfl d H' ((I2.same s4).but.trans (.of s5)) (I2.none s4 nd) e⟩
      | @on _ _ _ _ _ g0 _ hg0 hs0 R =>
        refine .inr ⟨_, hg0.Kp (I2.Kp hA), fun H4 s4 => ⟨_, rfl, ?_⟩⟩
        rw [hs0]
        have I4 := I2.same s4
        have hg4 := hg0.Kp (I4.Kp hA)
        refine ⟨_, rfl, a, _, dx, _, _, rfl, I4.hA, T.pc.cl, T.pc.nH, lookup_1, .inl ⟨rfl, _, SqL.of I4.hH⟩, ?_⟩
        refine ⟨_, rfl, a, _, dx, _, _, rfl, I4.hA, T.pc.cl, T.pc.nH, lookup_1, _, rfl, _, _, _, _, rfl, rfl, SqL.of I4.hH, at_last hne, _, rfl, _, _, _, rfl, hg4, _, _, _, rfl, rfl, I4.hH, szlt (by rw [List.length_map]; omega), ?_⟩
        have eh : hs.map V.int ++ [V.int (behind (lastI hs) g0)] = (hs ++ [behind (lastI hs) g0]).map V.int := by simp
        rw [eh]
        have I5 := I4.hgt (hs' := hs ++ [behind (lastI hs) g0])
        have hg5 := hg0.Kp (I5.Kp hA)
        clear hg4 s4 I4
        generalize upd H4 hh (.lst ((hs ++ [behind (lastI hs) g0]).map V.int)) = H5 at I5 hg5 ⊢
        have l5 : (hs ++ [behind (lastI hs) g0]).length = i + 1 + 1 := by rw [List.length_append, l1]; rfl
        cases hg5 with
        | @zip _ q hs' ls' row tA pA =>
          obtain ⟨dq, b1, b2, b3, o1, o2, h1, h2, h3, _, _, lk', l0', _, _⟩ := id pA
          have ln4 := lk.len
          have ln4' := lk'.len
          refine ⟨_, rfl, _, _, _, _, rfl, rfl, tA, atI_nat (j := 0) rfl, rfl, _, rfl, ?_⟩
          rw [sc_str, decide_eq_true rfl]
          refine ⟨_, rfl, a, _, dx, _, _, rfl, I5.hA, T.pc.cl, T.pc.nL, (lookup_2).trans lookup_1, .inl ⟨rfl, _, SqL.of I5.hL⟩, ?_⟩
          refine ⟨_, rfl, _, _, _, _, rfl, rfl, tA, atI_nat (j := 1) rfl, _, _, _, _, _, rfl, h1, T.pc.cl, T.pc.nL, (lookup_2).trans lookup_1, ?_⟩
          refine ⟨_, _, _, _, rfl, rfl, I5.hL, .inr ⟨_, h3⟩, szle (by rw [List.length_map, List.length_map]; omega), ?_⟩
          rw [← List.map_append]
          refine ⟨_, _, _, _, rfl, I5.lvs, l5, lk.app lk' ?_, ?_, R⟩
          · simpa [stands] using hs0
          · simp [l0]
        | flat tA =>
          refine ⟨_, rfl, _, _, _, _, rfl, rfl, tA, atI_nat (j := 0) rfl, rfl, _, rfl, ?_⟩
          rw [sc_str, decide_eq_false (by decide +kernel)]
          refine ⟨_, _, _, _, rfl, I5, l5, lk, l0, ?_⟩
          have e : ls ++ leavesOf .flat = ls := List.append_nil _
          rw [e] at R
          exact R
        | @nm _ wd nx tA b c =>
          refine ⟨_, rfl, _, _, _, _, rfl, rfl, tA, atI_nat (j := 0) rfl, rfl, _, rfl, ?_⟩
          rw [sc_str, decide_eq_false (named_ne b).2.1]
          refine ⟨_, _, _, _, rfl, I5, l5, lk, l0, ?_⟩
          have e : ls ++ leavesOf (.nm wd nx) = ls := List.append_nil _
          rw [e] at R
          exact R
        | @nu _ wd n tA b c e =>
          refine ⟨_, rfl, _, _, _, _, rfl, rfl, tA, atI_nat (j := 0) rfl, rfl, _, rfl, ?_⟩
          rw [sc_str, decide_eq_false (numbered_ne b).2.1]
          refine ⟨_, _, _, _, rfl, I5, l5, lk, l0, ?_⟩
          have e : ls ++ leavesOf (.nu wd n) = ls := List.append_nil _
          rw [e] at R
          exact R
    · rintro σ H2 ⟨hs, ls, c3, c4, rfl, I, l1, lk, l0, R⟩
      rw [List.drop_length] at R
      have eo : o = .inr (hs, ls) := by
        cases R
        rfl
      subst eo
      have hne : hs ≠ [] := by
        rintro rfl
        cases l1
      refine ⟨fun σ' H' => ∃ od r H3, Same H2 H3 ∧ SqT K H3 r xs ∧ H' = upd (upd H3 a (.ins (He.ga K "Program") dx [("heights", .ref hh), ("leaves", .ref ll), ("row", .ref r)])) hh (.frz od (.lst (hs.map V.int))), ?_, ?_⟩
      · refine ⟨fun σ' H' => ∃ r H3, Same H2 H3 ∧ SqT K H3 r xs ∧ H' = upd H3 a (.ins (He.ga K "Program") dx [("heights", .ref hh), ("leaves", .ref ll), ("row", .ref r)]), ?_, ?_⟩
        · exact ⟨_, rfl, p, xs, rfl, .inl ⟨hSJ _ I.but, fun r hr => ⟨_, rfl, a, _, dx, _, rfl, same_upd hr _ _ I.hA, T.pc.cl, T.pc.nR, (by show 2 < 1000; decide), r, _, same_upd hr, SqT.of upd_same, rfl⟩⟩⟩
        · rintro σ' H' ⟨r, H3, s3, hr, rfl⟩
          exact ⟨hh, .lst (hs.map V.int), by rw [upd_ne I.nha]; exact (I.same s3).hH, trivial, fun od => ⟨od, r, H3, s3, hr, rfl⟩⟩
      · rintro σ' H' ⟨od, r, H3, s3, hr, rfl⟩
        refine ⟨ll, .lst (ls.map V.str), by rw [upd_ne I.ne.symm, upd_ne I.nla]; exact (I.same s3).hL, trivial, fun ol => ?_⟩
        obtain ⟨q1, q2⟩ := I.fin (oh := od) (ol := ol) hA s3 hr hne lk l0 (by omega) hl6
        exact kQ _ _ rfl _ q1 q2
  · obtain ⟨ds, r, b⟩ := F.binds1 (ps := ["self", "source", "stages"]) 3 1 (by simp) rfl fun _ _ _ _ _ _ _ us its hu hi => match us, its, hu, hi with
      | [_, _, _], [_], _, _ => ⟨_, rfl, rfl⟩
    cases r
    exact b
  · exact F.binds1 (ps := ["self", "source", "stages"]) 2 0 (by simp) rfl fun _ _ _ _ _ _ _ us its hu hi => match us, its, hu, hi with
      | [_, _], [_], _, _ => ⟨_, rfl, rfl⟩
/-- Program(x, a list): a new program -/
theorem rd_prog {C : Addr} {H1 : Hp} {x : Str} {p : Addr} {xs : List V} {hs : List Int} {ls : List Str} {Q : Addr → Hp → Prop} {E : XK} (hx : x ∈ sources) (hS : SqL K H1 p xs) (h6 : xs.length ≤ 6) (hR : Run C K H1 0 [0] [x] xs (.inr (hs, ls))) (k : ∀ q H2, Same H1 H2 → H1 q = none → PrI C K H2 q hs ls xs → Q q H2) :
    ∀ a dx, H1 a = none → H1 dx = none → dx ≠ a → spInit C K (.ref a :: ([.str x, .ref p] ++ [])) (upd (upd H1 dx (.own a)) a (.ins C dx [])) (fun v H2 => v = .non ∧ Q a H2) E := by
  intro a dx ha hd hn
  have s1 := same_upd (o := .own a) hd
  have ha1 : (upd H1 dx (.own a)) a = none := by
    rw [upd_ne hn.symm]
    exact ha
  have s2 := same_upd (o := .ins C dx []) ha1
  refine ⟨a, dx, _, _, rfl, upd_same, .inr ⟨x, rfl, hx, .inr ⟨p, xs, rfl, sqL_same (same_trans s1 s2) hS, h6, .inr ⟨hs, ls, hR.Kp (.of (same_trans s1 s2)), fun H' b hP => ⟨rfl, k a H' ?_ ha hP⟩⟩⟩⟩⟩
  intro c o hc
  exact b c o (by simpa using ne_of_none hc ha) (same_trans s1 s2 c o hc)
end

end K80
namespace K80
open PySem PySem.Spec PyProof.Rows L2 Lw
local macro_rules | `(tactic| walk_at "rd") => `(tactic| repeat (first | refine ⟨_, rfl, ?_⟩ | refine ⟨_, _, rfl, rfl, ?_⟩))
/-! ### the law's draws -/
def spSrc (K : PySem.W.Frag) : Sp := fun vs H Q _ => ∃ (a : Addr) (ns : List Int) (st : Int), vs = [.ref a, .int st] ∧ SqL K H a (ns.map V.int) ∧ ns.length ≤ 63 ∧ (∀ z ∈ ns, Builtin.Int.intBits z ≤ 1048576) ∧ 0 ≤ st ∧ st < 4 ∧
  ∀ (p : Addr) (r m : Int), H p = none → Q (.ref p) (upd H p (.lst [.int r, .int m]))
def spDraw : Sp := fun vs H Q _ => ∃ (s : Addr) (n r m : Int), vs = [.ref s, .int n] ∧ 0 < n ∧ n < 1073741824 ∧ H s = some (.lst [.int r, .int m]) ∧
  ∀ (r' m' d : Int), 0 ≤ d → d < n → Q (.int d) (upd H s (.lst [.int r', .int m']))
theorem bits_lt {z : Int} : z.natAbs < 2 ^ Builtin.Int.intBits z := by
  unfold Builtin.Int.intBits
  split
  · rename_i h0
    have h1 : z = 0 := by simpa using h0
    subst h1
    decide
  · exact Nat.lt_log2_self
theorem bits_le {z : Int} {n : Nat} (h : z.natAbs < 2 ^ n) : Builtin.Int.intBits z ≤ n := by
  unfold Builtin.Int.intBits
  split
  · exact Nat.zero_le _
  · rename_i h0
    have h1 : z ≠ 0 := by simpa using h0
    have h2 : z.natAbs ≠ 0 := by omega
    have h3 := (Nat.log2_lt (n := z.natAbs) (k := n) h2).mpr h
    omega
theorem pow_dbl (n : Nat) : 2 ^ (n + 1) = 2 ^ n + 2 ^ n := by
  rw [Nat.pow_succ]
  omega
/-- one step's base: mixed * 40009 + cell -/
theorem bits_step {m c : Int} (h1 : 0 ≤ m) (h2 : m < 2 ^ 32) (hc : Builtin.Int.intBits c ≤ 1048576) : CPowW (m * 40009 + c) 3 := by
  refine ⟨by omega, ?_⟩
  have a : (m * 40009).natAbs < 2 ^ 1048577 := by
    have : (m * 40009).natAbs < 2 ^ 48 := by omega
    exact Nat.lt_of_lt_of_le this (Nat.pow_le_pow_right (by omega) (by omega))
  have b : c.natAbs < 2 ^ 1048577 := Nat.lt_of_lt_of_le bits_lt (Nat.pow_le_pow_right (by omega) (by omega))
  have ab : (m * 40009 + c).natAbs < 2 ^ 1048578 := by
    have e : 2 ^ (1048577 + 1) = 2 ^ 1048577 + 2 ^ 1048577 := pow_dbl 1048577
    have e2 : 2 ^ 1048578 = 2 ^ 1048577 + 2 ^ 1048577 := e
    omega
  have q := bits_le ab
  omega
section
variable {P : Program} {w : World} {K : PySem.W.Frag} {mg : Str → Option Value} {base : Heap} {f : Addr} {fd : FuncData}
theorem scL_source : FnScope ["script", "start", "mixed", "cell", "rest"] ["script", "start"] (defScope sL_source) := ⟨rfl, rfl, rfl, by decide +kernel, rfl, by decide +kernel, by decide +kernel⟩
theorem d_source (F : FnP K "_law_source" "_law_source" sL_source f fd) (gm : mg "_law_source" = some (.ref f)) (T : Tx K mg) : DefOk P w K mg base CX0 1 "_law_source" ["script", "start"] [] (spSrc K) := by
  refine ⟨f, fd, [], F.ok scL_source (fun vs H Q E h => ?_) (fun cdv A outer s H vs Q E hr h => ?_), gm, F.kp, F.bindsN fun _ _ _ _ _ _ us hl => match us, hl with | [_, _], _ => rfl, .nil⟩
  · obtain ⟨_, _, _, rfl, _⟩ := h
    rfl
  · obtain ⟨a, ns, st, rfl, hS, hl, hb, h0, h4, k⟩ := h
    refine ⟨_, PSs.nox (pss_cons (ps_set (i := 2) scL_source.nd rfl (.inl rfl) (pe_op op_add pe_int (pv 1)))
  (pss_cons (ps_for PassesOwn.never rfl (pi_list (pv 0)) (pg_name (i := 3) scL_source.nd rfl (.inl rfl))
  (pss_one (ps_set (i := 2) scL_source.nd rfl (.inl rfl) (pe_op op_add (pe_op op_mod (pe_callTy call_int1 (by rfl) T.z_int (by decide +kernel) (pa_cons (pe_op op_powW (pe_callTy call_int1 (by rfl) T.z_int (by decide +kernel) (pa_cons (pe_op op_add (pe_op op_mul (pv 2) pe_int) (pe_callTy call_int1 (by rfl) T.z_int (by decide +kernel) (pa_cons (pv 3) pa_nil))) pa_nil)) pe_int) pa_nil)) pe_int) pe_int))))
  (pss_cons (ps_set (i := 4) scL_source.nd rfl (.inl rfl) pe_int)
  (pss_cons (ps_if (PW.pt (pw_and (pt_cmpR op_lt (pv 1) (pe_callB call_len (by rfl) T.z_len PySem.boot_len (pa_cons (pv 0) pa_nil)) (nomark _)) (pw_and1 (pt_cmpR op_ge (pe_ix ix_list (pv 0) (pv 1) (fun _ _ => rfl)) (pe_op op_pow pe_int pe_int) (nomark _))))) (pss_one (ps_set (i := 4) scL_source.nd rfl (.inl rfl) (pe_op op_sub (pe_ix ix_list (pv 0) (pv 1) (fun _ _ => rfl)) (pe_op op_pow pe_int pe_int))))
  pss_nil)
  (pss_one (ps_ret (pe_lst (pa_cons (pv 4) (pa_cons (pv 2) pa_nil))))))))), ?_⟩
    walk_at "rd"
    refine ⟨⟨_, hS⟩, for_list (K := K) (a := a) (xs := ns.map V.int) (fun i σ H' => ∃ (m : Int) (c : Option V), σ = [some (.ref a), some (.int st), some (.int m), c, none] ∧ H' = H ∧ 0 ≤ m ∧ m < 2 ^ 32)
      ⟨59 + st, none, rfl, rfl, by omega, by omega⟩ (fun i σ H' _ ⟨_, _, _, e, _⟩ => e ▸ hS) ?_ ?_⟩
    · rintro i y σ H' hi ⟨m, c, rfl, rfl, m0, m1⟩
      rw [List.getElem?_map] at hi
      obtain ⟨z, hz, rfl⟩ := Option.map_eq_some_iff.mp hi
      have hzb := hb z (List.mem_of_getElem? hz)
      refine ⟨_, rfl, _, _, rfl, rfl, .inr ⟨by decide, by decide⟩, _, rfl, .inl ⟨_, rfl, _, _, rfl, rfl, .inl ⟨_, rfl, _, _, rfl, rfl, bits_step m0 m1 hzb, .inl ⟨_, rfl, _, _, rfl, rfl, (by show (0 : Int) < 2147483563; decide), _, _, rfl, rfl, ?_⟩⟩⟩⟩
      exact ⟨_, _, rfl, rfl, by omega, by omega⟩
    · rintro σ H' ⟨m, c, rfl, rfl, m0, m1⟩
      obtain ⟨j, rfl⟩ : ∃ j : Nat, st = (j : Int) := ⟨st.toNat, by omega⟩
      refine ⟨_, rfl, _, rfl, _, _, rfl, .inl ⟨_, hS, rfl⟩, _, _, rfl, rfl, _, rfl, ite2 (fun c1 => ?_) (fun _ => ?_)⟩
      · have hj : j < ns.length := by
          have := of_decide_eq_true c1
          rw [List.length_map] at this
          omega
        have hx : (ns.map V.int)[j]? = some (V.int ns[j]) := by
          rw [List.getElem?_map, List.getElem?_eq_getElem hj]
          rfl
        refine ⟨_, rfl, _, rfl, _, _, _, _, rfl, rfl, hS, atI_nat hx, _, _, rfl, rfl, ⟨by decide, by decide, by decide⟩, _, _, rfl, rfl, _, rfl, ite2 (fun c2 => ?_) (fun _ => ?_)⟩
        · refine ⟨_, rfl, _, rfl, _, _, _, _, rfl, rfl, hS, atI_nat hx, _, _, rfl, rfl, ⟨by decide, by decide, by decide⟩, _, _, rfl, rfl, ?_⟩
          exact ⟨_, rfl, _, rfl, (szl rfl), fun p hp => k p _ _ hp⟩
        · exact ⟨_, rfl, _, rfl, (szl rfl), fun p hp => k p _ _ hp⟩
      · exact ite2 (fun c => nomatch c) fun _ => ⟨_, rfl, _, rfl, (szl rfl), fun p hp => k p _ _ hp⟩
theorem scL_draw : FnScope ["stream", "span", "found"] ["stream", "span"] (defScope sL_draw) := ⟨rfl, rfl, rfl, by decide +kernel, rfl, by decide +kernel, by decide +kernel⟩
theorem d_draw (F : FnP K "_law_draw" "_law_draw" sL_draw f fd) (gm : mg "_law_draw" = some (.ref f)) (T : Tx K mg) : DefOk P w K mg base CX0 1 "_law_draw" ["stream", "span"] [] spDraw := by
  refine ⟨f, fd, [], F.ok scL_draw (fun vs H Q E h => ?_) (fun cdv A outer s H vs Q E hr h => ?_), gm, F.kp, F.bindsN fun _ _ _ _ _ _ us hl => match us, hl with | [_, _], _ => rfl, .nil⟩
  · obtain ⟨_, _, _, _, rfl, _⟩ := h
    rfl
  · obtain ⟨s, n, r, m, rfl, n0, n1, hs, k⟩ := h
    refine ⟨_, PSs.nox (pss_cons (ps_if (pt_cmpR op_ge (pe_ix ix_list (pv 0) pe_int (fun _ _ => rfl)) (pv 1) (nomark _)) (pss_cons (ps_set (i := 2) scL_draw.nd rfl (.inl rfl) (pe_op op_mod (pe_callTy call_int1 (by rfl) T.z_int (by decide +kernel) (pa_cons (pe_ix ix_list (pv 0) pe_int (fun _ _ => rfl)) pa_nil)) (pv 1)))
  (pss_cons (ps_asg (pe_op op_fdiv (pe_ix ix_list (pv 0) pe_int (fun _ _ => rfl)) (pv 1)) (pg_sub (pv 0) pe_int set_list))
  (pss_one (ps_ret (pv 2)))))
  pss_nil)
  (pss_cons (ps_asg (pe_op op_mod (pe_callTy call_int1 (by rfl) T.z_int (by decide +kernel) (pa_cons (pe_op op_add (pe_op op_mul (pe_ix ix_list (pv 0) pe_int (fun _ _ => rfl)) pe_int) pe_int) pa_nil)) pe_int) (pg_sub (pv 0) pe_int set_list))
  (pss_one (ps_ret (pe_op op_mod (pe_callTy call_int1 (by rfl) T.z_int (by decide +kernel) (pa_cons (pe_op op_fdiv (pe_op op_mod (pe_callTy call_int1 (by rfl) T.z_int (by decide +kernel) (pa_cons (pe_op op_pow (pe_callTy call_int1 (by rfl) T.z_int (by decide +kernel) (pa_cons (pe_ix ix_list (pv 0) pe_int (fun _ _ => rfl)) pa_nil)) pe_int) pa_nil)) pe_int) pe_int) pa_nil)) (pv 1)))))), ?_⟩
    refine ⟨_, rfl, s, _, _, _, rfl, rfl, SqL.of hs, atI_nat (j := 0) rfl, _, rfl, _, _, rfl, rfl, _, rfl, ite2 (fun c1 => ?_) (fun c1 => ?_)⟩
    · refine ⟨_, rfl, s, _, _, _, rfl, rfl, SqL.of hs, atI_nat (j := 0) rfl, .inl ⟨_, rfl, _, rfl, _, _, rfl, rfl, n0, ?_⟩⟩
      refine ⟨_, rfl, s, _, _, _, rfl, rfl, SqL.of hs, atI_nat (j := 0) rfl, _, rfl, _, _, rfl, rfl, ⟨n0, n1⟩, _, rfl, s, _, _, 0, rfl, rfl, hs, rfl, ?_⟩
      refine ⟨_, rfl, k _ _ _ (Int.emod_nonneg _ (by omega)) (Int.emod_lt_of_pos _ n0)⟩
    · refine ⟨_, rfl, s, _, _, _, rfl, rfl, SqL.of hs, atI_nat (j := 1) rfl, _, _, rfl, rfl, .inr ⟨by decide, by decide⟩, _, _, rfl, rfl, .inl ⟨_, rfl, _, _, rfl, rfl, (by show (0 : Int) < 2147483647; decide), _, rfl, s, _, _, 1, rfl, rfl, hs, rfl, ?_⟩⟩
      have b0 : 0 ≤ (m * 69621 + 3571) % 2147483647 := Int.emod_nonneg _ (by decide)
      have b1 : (m * 69621 + 3571) % 2147483647 < 2147483647 := Int.emod_lt_of_pos _ (by decide)
      refine ⟨_, rfl, s, _, _, _, rfl, rfl, SqL.of upd_same, atI_nat (j := 1) rfl, .inl ⟨_, rfl, _, _, rfl, rfl, ⟨by decide, by decide, by omega⟩, .inl ⟨_, rfl, _, _, rfl, rfl, (by show (0 : Int) < 1000000007; decide), _, _, rfl, rfl, ⟨by decide, by decide⟩, .inl ⟨_, rfl, _, rfl, _, _, rfl, rfl, n0, ?_⟩⟩⟩⟩
      exact k _ _ _ (Int.emod_nonneg _ (by omega)) (Int.emod_lt_of_pos _ n0)
end

/-! ### the laws' drawn plans -/
section
variable {P : Program} {w : World} {K : PySem.W.Frag} {mg : Str → Option Value} {base : Heap} {f : Addr} {fd : FuncData}
def Strm (H : Hp) (s : Addr) : Prop := ∃ r m : Int, H s = some (.lst [.int r, .int m])
/-- a list or a text is picked from; it is not the stream -/
def spPick (K : PySem.W.Frag) : Sp := fun vs H Q _ => ∃ (s : Addr) (y : V), vs = [.ref s, y] ∧ Strm H s ∧
  ((∃ t xs, y = .ref t ∧ SqL K H t xs ∧ t ≠ s ∧ 0 < xs.length ∧ xs.length ≤ 1000 ∧ ∀ (i : Nat) (x : V) H', But [s] H H' → Strm H' s → xs[i]? = some x → Q x H') ∨
   ∃ z : Str, y = .str z ∧ 0 < z.length ∧ z.length ≤ 1000 ∧ ∀ (i : Nat) (c : Nat) H', But [s] H H' → Strm H' s → z.cps.toList[i]? = some c → Q (.str ⟨#[c]⟩) H')
theorem strm_upd {H : Hp} {s : Addr} {r m : Int} : Strm (upd H s (.lst [.int r, .int m])) s := ⟨r, m, upd_same⟩
theorem scL_pick : FnScope ["stream", "things"] ["stream", "things"] (defScope sL_pick) := ⟨rfl, rfl, rfl, by decide +kernel, rfl, by decide +kernel, by decide +kernel⟩
theorem d_pick (F : FnP K "_law_pick" "_law_pick" sL_pick f fd) (gm : mg "_law_pick" = some (.ref f)) (T : Tx K mg) (D_L_draw : DefOk P w K mg base CX0 1 "_law_draw" ["stream", "span"] [] spDraw) :
    DefOk P w K mg base CX0 2 "_law_pick" ["stream", "things"] [] (spPick K) := by
  refine ⟨f, fd, [], F.ok scL_pick (fun vs H Q E h => ?_) (fun cdv A outer s H vs Q E hr h => ?_), gm, F.kp, F.bindsN fun _ _ _ _ _ _ us hl => match us, hl with | [_, _], _ => rfl, .nil⟩
  · obtain ⟨_, _, rfl, _⟩ := h
    rfl
  · obtain ⟨s, y, rfl, ⟨r, m, hs⟩, h⟩ := h
    refine ⟨_, PSs.nox (pss_one (ps_ret (pe_ix ix_seq (pv 1) (pe_d D_L_draw (hr.mono (by decide)) pass0 (pa_cons (pv 0) (pa_cons (pe_callB call_len (by rfl) T.z_len PySem.boot_len (pa_cons (pv 1) pa_nil)) pa_nil))) (fun _ _ => rfl)))), ?_⟩
    rcases h with ⟨t, xs, rfl, ht, ne, l0, l1, k⟩ | ⟨z, rfl, l0, l1, k⟩
    · refine ⟨_, rfl, _, rfl, _, rfl, _, _, rfl, .inl ⟨_, ht, rfl⟩, s, _, r, m, rfl, by omega, by omega, hs, fun r' m' d d0 d1 => ?_⟩
      obtain ⟨j, rfl⟩ : ∃ j : Nat, d = (j : Int) := ⟨d.toNat, by omega⟩
      have hj : j < xs.length := by omega
      exact .inl ⟨t, xs, _, _, rfl, rfl, sq_upd ne ht, atI_nat (List.getElem?_eq_getElem hj), k j _ _ (.upd (by simp)) strm_upd (List.getElem?_eq_getElem hj)⟩
    · refine ⟨_, rfl, _, rfl, _, rfl, _, _, rfl, ⟨szle l1, rfl⟩, s, _, r, m, rfl, by omega, by omega, hs, fun r' m' d d0 d1 => ?_⟩
      obtain ⟨j, rfl⟩ : ∃ j : Nat, d = (j : Int) := ⟨d.toNat, by omega⟩
      have hj : j < z.cps.toList.length := by
        have : z.cps.toList.length = z.length := by rw [Array.length_toList]; rfl
        omega
      exact .inr (.inr ⟨z, _, _, rfl, rfl, szle l1, atI_nat (List.getElem?_eq_getElem hj), k j _ _ (.upd (by simp)) strm_upd (List.getElem?_eq_getElem hj)⟩)
/-! a list in a drawn order -/
def spMixed (K : PySem.W.Frag) : Sp := fun vs H Q _ => ∃ (s t : Addr) (xs : List V), vs = [.ref s, .ref t] ∧ Strm H s ∧ SqL K H t xs ∧ xs.length ≤ 1000 ∧
  ∀ l ys H', But [s] H H' → Strm H' s → H l = none → H' l = some (.lst ys) → ys.Perm xs → Q (.ref l) H'
theorem scL_mixed : FnScope ["stream", "things", "lot", "found"] ["stream", "things"] (defScope sL_mixed) := ⟨rfl, rfl, rfl, by decide +kernel, rfl, by decide +kernel, by decide +kernel⟩
theorem d_mixed (F : FnP K "_law_mixed" "_law_mixed" sL_mixed f fd) (gm : mg "_law_mixed" = some (.ref f)) (T : Tx K mg) (D_L_draw : DefOk P w K mg base CX0 1 "_law_draw" ["stream", "span"] [] spDraw) :
    DefOk P w K mg base CX0 2 "_law_mixed" ["stream", "things"] [] (spMixed K) := by
  refine ⟨f, fd, [], F.ok scL_mixed (fun vs H Q E h => ?_) (fun cdv A outer s H vs Q E hr h => ?_), gm, F.kp, F.bindsN fun _ _ _ _ _ _ us hl => match us, hl with | [_, _], _ => rfl, .nil⟩
  · obtain ⟨_, _, _, rfl, _⟩ := h
    rfl
  · obtain ⟨s, t, xs, rfl, ⟨r, m, hs⟩, hT, l1, k⟩ := h
    refine ⟨_, PSs.nox (pss_cons (ps_par (i := 2) (j := 3) (by rfl) scL_mixed.nd rfl rfl (by decide) rfl rfl (pa_cons (pe_callTy call_list_of (by rfl) T.z_list (by decide +kernel) (pa_cons (pv 1) pa_nil)) (pa_cons (pe_lst pa_nil) pa_nil)) (by rfl))
  (pss_cons (ps_while PassesOwn.never (pt_cmpR (op_ne0 hr.units0) (pv 2) (pe_lst pa_nil) (nomark _))
  (pss_one (ps_expr (pe_bm PySem.F.plainAttrs_list PySem.F.slot_list_append PySem.F.type_list_append mt_append (pv 3) (pa_cons (pe_bm PySem.F.plainAttrs_list PySem.F.slot_list_pop PySem.F.type_list_pop mt_popAt (pv 2) (pa_cons (pe_d D_L_draw (hr.mono (by decide)) pass0 (pa_cons (pv 0) (pa_cons (pe_callB call_len (by rfl) T.z_len PySem.boot_len (pa_cons (pv 2) pa_nil)) pa_nil))) pa_nil)) pa_nil)))))
  (pss_one (ps_ret (pv 3))))), ?_⟩
    refine ⟨_, rfl, t, xs, rfl, .inl hT, fun la na => ⟨szl rfl, fun lb nb => ⟨_, _, rfl, ?_⟩⟩⟩
    have nal : la ≠ lb := by
      rintro rfl
      rw [upd_same] at nb
      cases nb
    have nb0 : H lb = none := by
      rw [upd_ne nal.symm] at nb
      exact nb
    have sa : la ≠ s := by
      rintro rfl
      rw [hs] at na
      cases na
    have sb : lb ≠ s := by
      rintro rfl
      rw [hs] at nb0
      cases nb0
    refine ⟨fun m σ H' => ∃ lot found : List V, σ = [some (.ref s), some (.ref t), some (.ref la), some (.ref lb)] ∧ m = lot.length ∧ H' la = some (.lst lot) ∧ H' lb = some (.lst found) ∧ (found ++ lot).Perm xs ∧ But [s] H H' ∧ Strm H' s,
      ⟨_, xs, [], rfl, rfl, by rw [upd_ne nal, upd_same], upd_same, .refl _, .of (same_trans (same_upd na) (same_upd nb)), r, m, by rw [upd_ne sb.symm, upd_ne sa.symm]; exact hs⟩, ?_⟩
    rintro m0 σ H1 ⟨lot, found, rfl, rfl, h1, h2, hp, b1, ⟨r1, m1, hs1⟩⟩
    have hl := hp.length_eq
    rw [List.length_append] at hl
    refine ⟨_, rfl, szl rfl, fun p hp0 => ⟨la, p, lot, rfl, rfl, SqL.of (by rw [upd_ne (ne_of_none h1 hp0)]; exact h1), SqL.of upd_same, _, rfl, ?_⟩⟩
    have s2 := same_upd (o := .lst []) hp0
    have h1' := s2 _ _ h1
    have h2' := s2 _ _ h2
    have hs1' := s2 _ _ hs1
    have b2 : But [s] H (upd H1 p (.lst [])) := b1.trans (.of s2)
    generalize upd H1 p (.lst []) = H2 at h1' h2' hs1' b2 ⊢
    cases hlot : lot with
    | nil =>
      subst hlot
      rw [List.append_nil] at hp
      exact ⟨_, rfl, k _ _ _ b2 ⟨_, _, hs1'⟩ nb0 h2' hp⟩
    | cons x0 r0 =>
      rw [← hlot]
      have hpos : 0 < lot.length := by rw [hlot]; exact Nat.zero_lt_succ _
      have e0 : (!lot.isEmpty) = true := by rw [hlot]; rfl
      clear hlot
      rw [e0]
      refine ⟨_, fun _ _ z => z, ?_⟩
      refine ⟨_, rfl, .inl ⟨rfl, _, SqL.of h2'⟩, _, rfl, .inl ⟨rfl, _, SqL.of h1'⟩, _, rfl, _, rfl, _, _, rfl, .inl ⟨_, SqL.of h1', rfl⟩, s, _, r1, m1, rfl, by omega, by omega, hs1', fun r' m' d d0 d1 => ?_⟩
      obtain ⟨j, rfl⟩ : ∃ j : Nat, d = (j : Int) := ⟨d.toNat, by omega⟩
      have hj : j < lot.length := by omega
      refine ⟨la, lot, (j : Int), j, lot[j], rfl, rfl, by rw [upd_ne sa]; exact h1', by omega, by omega, seqIndex_of (by omega) (by omega), List.getElem?_eq_getElem hj, ?_⟩
      refine ⟨lb, found, _, rfl, rfl, by rw [upd_ne nal.symm, upd_ne sb]; exact h2', szlt (by omega), ?_⟩
      refine ⟨_, ?_, lot.eraseIdx j, found ++ [lot[j]], rfl, rfl, by rw [upd_ne nal, upd_same], upd_same, ?_, ((b2.trans (.upd (by simp))).updN na).updN nb0, r', m', by rw [upd_ne sb.symm, upd_ne sa.symm, upd_same]⟩
      · rw [List.length_eraseIdx_of_lt hj]
        omega
      · rw [List.append_assoc]
        exact ((erase_perm hj).append_left found).trans hp
/-! the depths by the law's own words -/
def spHgt (K : PySem.W.Frag) (n : Nat) : Sp := fun vs H Q _ => ∃ d v s, vs = [.int d, v] ∧ StV K H s v ∧ rkS s ≤ n ∧ okS d s ∧ ∀ H', Same H H' → Q (.int (hgS d s)) H'
def spDep (K : PySem.W.Frag) (n : Nat) : Sp := fun vs H Q _ => ∃ p s r, vs = [.ref p] ∧ PlV K H s r p ∧ rkR r < n ∧ okR 0 r ∧ ∀ H', Same H H' → Q (.int (hgR 0 r)) H'
theorem scL_height : FnScope ["height", "stage"] ["height", "stage"] (defScope sL_height) := ⟨rfl, rfl, rfl, by decide +kernel, rfl, by decide +kernel, by decide +kernel⟩
theorem scL_depth : FnScope ["plan", "height", "stage"] ["plan"] (defScope sL_depth) := ⟨rfl, rfl, rfl, by decide +kernel, rfl, by decide +kernel, by decide +kernel⟩
theorem d_height (n : Nat) (F : FnP K "_law_height" "_law_height" sL_height f fd) (gm : mg "_law_height" = some (.ref f)) (T : Tx K mg) (D_L_depth : DefOk P w K mg base CX0 (2 * n + 1) "_law_depth" ["plan"] [] (spDep K n)) :
    DefOk P w K mg base CX0 (2 * n + 2) "_law_height" ["height", "stage"] [] (spHgt K n) := by
  refine ⟨f, fd, [], F.ok scL_height (fun vs H Q E h => ?_) (fun cdv A outer s H vs Q E hr h => ?_), gm, F.kp, F.bindsN fun _ _ _ _ _ _ us hl => match us, hl with | [_, _], _ => rfl, .nil⟩
  · obtain ⟨_, _, _, rfl, _⟩ := h
    rfl
  · obtain ⟨d, v, s, rfl, hV, hk, ho, k⟩ := h
    refine ⟨_, PSs.nox (pss_cons (ps_if (pt_cmpR op_eq (pe_ix ix_tup (pv 1) pe_int (fun _ _ => rfl)) pe_str (nomark _)) (pss_one (ps_ret pe_int))
  pss_nil)
  (pss_cons (ps_if (pt_cmpR op_eq (pe_ix ix_tup (pv 1) pe_int (fun _ _ => rfl)) pe_str (nomark _)) (pss_one (ps_ret (pe_op op_add pe_int (pe_callB (call_min2 rfl) (by rfl) T.z_min (by decide +kernel) (pa_cons (pv 0) (pa_cons (pe_d D_L_depth (hr.mono (by omega)) pass0 (pa_cons (pe_ix ix_tup (pv 1) pe_int (fun _ _ => rfl)) pa_nil)) pa_nil))))))
  pss_nil)
  (pss_one (ps_ret (pe_op op_add (pv 0) (pe_dget2 (units1 hr) (pe_disp (pps_cons pe_str pe_int (pps_cons pe_str (pe_op op_sub pe_int pe_int) pps_nil)) (by rfl) (by rfl) (fun z => by cases z) (by decide)) (pe_ix ix_tup (pv 1) pe_int (fun _ _ => rfl)) pe_int ⟨rfl, rfl, rfl, rfl⟩)))))), ?_⟩
    have low : ∀ (wd : Str) (r : List V) (t : Addr), SqT K H t (.str wd :: r) → (∀ H', Same H H' → Q (.int (d + lowV wd)) H') → tRet (tOp (rI0 fun i j => V.int (i + j)) (tVar 0) (tDGet2 (tDisp [(tC (.str "lots"), tC (.int 1)), (tC (.str "flat"), tOp (rI0 fun i j => V.int (i - j)) (tC (.int 0)) (tC (.int 1)))]) (tOp (rIxT K) (tVar 1) (tC (.int 0))) (tC (.int 0)))) { nx := fun _ H' => Q .non H', rt := Q } (start ["height", "stage"] [.int d, .ref t]) H := by
      intro wd r t a kk
      refine ⟨_, rfl, fun p hp => ⟨_, _, rfl, rfl, upd_same, [(Sum.inr ("lots" : Str), V.int 1), (Sum.inr ("flat" : Str), V.int (0 - 1))], rfl, by show 2 ≤ 15; decide, ?_⟩⟩
      rw [upd_upd]
      have s1 := same_upd (o := .dK (mergeK [] [(Sum.inr ("lots" : Str), V.int 1), (Sum.inr ("flat" : Str), V.int (0 - 1))])) hp
      refine ⟨_, rfl, .inl ⟨_, .inl upd_same⟩, _, rfl, _, _, _, _, rfl, rfl, sqT_same s1 a, atI_nat (j := 0) rfl, _, .inl ⟨_, Sum.inr wd, .inl upd_same, rfl, rfl⟩, ?_⟩
      rw [dget_low]
      exact ⟨_, _, rfl, rfl, kk _ s1⟩
    cases s with
    | nm wd x =>
      obtain ⟨t, rfl, a⟩ := hV
      rw [okS] at ho
      have n2 := (named_ne ho.1).2.1
      refine ⟨_, rfl, _, _, _, _, rfl, rfl, a, atI_nat (j := 0) rfl, rfl, _, rfl, ?_⟩
      rw [sc_str]
      rw [hgS] at k
      by_cases hm : wd = "map"
      · rw [decide_eq_true hm]
        rw [if_pos hm] at k
        exact k _ (Same.refl _)
      · rw [decide_eq_false hm]
        rw [if_neg hm] at k
        refine ⟨_, rfl, _, _, _, _, rfl, rfl, a, atI_nat (j := 0) rfl, rfl, _, rfl, ?_⟩
        rw [sc_str, decide_eq_false n2]
        have key : ∀ w ∈ named, lowV w = 0 := by decide +kernel
        exact low wd _ t a (by rw [key wd ho.1, Int.add_zero]; exact k)
    | nu wd n =>
      obtain ⟨t, rfl, a⟩ := hV
      rw [okS] at ho
      have n2 := (numbered_ne ho.1).2.1
      have key : ∀ w ∈ counted, w ≠ "map" ∧ lowV w = if w = "lots" then 1 else 0 := by decide +kernel
      obtain ⟨n1, e0⟩ := key wd ho.1
      refine ⟨_, rfl, _, _, _, _, rfl, rfl, a, atI_nat (j := 0) rfl, rfl, _, rfl, ?_⟩
      rw [sc_str, decide_eq_false n1]
      refine ⟨_, rfl, _, _, _, _, rfl, rfl, a, atI_nat (j := 0) rfl, rfl, _, rfl, ?_⟩
      rw [sc_str, decide_eq_false n2]
      refine low wd _ t a ?_
      rw [hgS] at k
      rw [e0]
      by_cases hl : wd = "lots"
      · rw [if_pos hl]
        rw [if_pos hl] at k
        exact k
      · rw [if_neg hl, Int.add_zero]
        rw [if_neg hl] at k
        exact k
    | flat =>
      obtain ⟨t, rfl, a⟩ := hV
      refine ⟨_, rfl, _, _, _, _, rfl, rfl, a, atI_nat (j := 0) rfl, rfl, _, rfl, ?_⟩
      rw [sc_str, decide_eq_false (by decide +kernel)]
      refine ⟨_, rfl, _, _, _, _, rfl, rfl, a, atI_nat (j := 0) rfl, rfl, _, rfl, ?_⟩
      rw [sc_str, decide_eq_false (by decide +kernel)]
      refine low "flat" _ t a ?_
      have e0 : lowV "flat" = -1 := by decide +kernel
      rw [hgS] at k
      rw [e0]
      exact k
    | zip sr r =>
      obtain ⟨t, p, q, vs, rfl, a, b, c, e⟩ := hV
      rw [okS] at ho
      rw [rkS] at hk
      rw [hgS] at k
      refine ⟨_, rfl, _, _, _, _, rfl, rfl, a, atI_nat (j := 0) rfl, rfl, _, rfl, ?_⟩
      rw [sc_str, decide_eq_false (by decide +kernel)]
      refine ⟨_, rfl, _, _, _, _, rfl, rfl, a, atI_nat (j := 0) rfl, rfl, _, rfl, ?_⟩
      rw [sc_str, decide_eq_true rfl]
      refine ⟨_, rfl, _, rfl, _, _, _, _, rfl, rfl, a, atI_nat (j := 1) rfl, _, _, _, rfl, ⟨_, _, b, c, e⟩, by omega, ho.2, fun H1 s1 => ⟨_, _, rfl, _, _, rfl, rfl, ?_⟩⟩
      have em : (1 + min d (hgR 0 r)) = 1 + (if hgR 0 r < d then hgR 0 r else d) := by
        congr 1
        split <;> omega
      rw [em] at k
      exact k _ s1
theorem d_depth0 (F : FnP K "_law_depth" "_law_depth" sL_depth f fd) (gm : mg "_law_depth" = some (.ref f)) : DefOk P w K mg base CX0 1 "_law_depth" ["plan"] [] (spDep K 0) := by
  refine ⟨f, fd, [], F.ok scL_depth (fun vs H Q E h => ?_) (fun cdv A outer s H vs Q E hr h => ?_), gm, F.kp, F.bindsN fun _ _ _ _ _ _ us hl => match us, hl with | [_], _ => rfl, .nil⟩
  · obtain ⟨_, _, _, rfl, _⟩ := h
    rfl
  · obtain ⟨_, _, _, _, _, z, _⟩ := h
    exact absurd z (Nat.not_lt_zero _)
theorem d_depthS (n : Nat) (F : FnP K "_law_depth" "_law_depth" sL_depth f fd) (gm : mg "_law_depth" = some (.ref f)) (D_L_height : DefOk P w K mg base CX0 (2 * n + 2) "_law_height" ["height", "stage"] [] (spHgt K n)) :
    DefOk P w K mg base CX0 (2 * (n + 1) + 1) "_law_depth" ["plan"] [] (spDep K (n + 1)) := by
  refine ⟨f, fd, [], F.ok (k := 2 * n + 2) scL_depth (fun vs H Q E h => ?_) (fun cdv A outer s H vs Q E hr h => ?_), gm, F.kp, F.bindsN fun _ _ _ _ _ _ us hl => match us, hl with | [_], _ => rfl, .nil⟩
  · obtain ⟨_, _, _, rfl, _⟩ := h
    rfl
  · obtain ⟨p, s, r, rfl, ⟨q, vs, a, b, c⟩, hk, ho, k⟩ := h
    refine ⟨_, PSs.nox (pss_cons (ps_set (i := 1) scL_depth.nd rfl (.inl rfl) pe_int)
  (pss_cons (ps_for PassesOwn.never rfl (pi_tup (pe_ix ix_tup (pv 0) pe_int (fun _ _ => rfl))) (pg_name (i := 2) scL_depth.nd rfl (.inl rfl))
  (pss_one (ps_set (i := 1) scL_depth.nd rfl (.inl rfl) (pe_d D_L_height (hr.mono (by omega)) pass0 (pa_cons (pv 1) (pa_cons (pv 2) pa_nil))))))
  (pss_one (ps_ret (pv 1))))), ?_⟩
    refine ⟨_, rfl, _, _, _, _, rfl, rfl, a, atI_nat (j := 1) rfl, q, rfl, ⟨vs, b⟩, for_tup (K := K) (a := q) (xs := vs) (fun i σ H' => ∃ (done rest : List Sx) (us : List V) (c2 : Option V), r = done ++ rest ∧ done.length = i ∧ vs.drop i = us ∧ RwV K H rest us ∧ okR (hgR 0 done) rest ∧ σ = [some (.ref p), some (.int (hgR 0 done)), c2] ∧ Same H H')
      ⟨[], r, vs, none, rfl, rfl, rfl, c, by rw [hgR]; exact ho, by rw [hgR]; rfl, Same.refl _⟩ (fun i σ H' _ ⟨_, _, _, _, _, _, _, _, _, _, s1⟩ => sqT_same s1 b) ?_ ?_⟩
    · rintro i v σ H' hi ⟨done, rest, us, c2, er, rfl, ed, hR, hO, rfl, s1⟩
      obtain ⟨hlt, ev⟩ := List.getElem?_eq_some_iff.mp hi
      rw [List.drop_eq_getElem_cons hlt, ev] at ed
      cases rest with
      | nil =>
        rw [show us = [] from hR] at ed
        cases ed
      | cons x rest =>
        obtain ⟨v', us', e, hx, hr'⟩ := hR
        rw [← ed] at e
        cases e
        rw [okR] at hO
        have hkx : rkS x ≤ n := by
          have := rk_mem (r := r) (i := done.length) (s := x) (by rw [er, List.getElem?_append_right (Nat.le_refl _), Nat.sub_self]; rfl)
          omega
        refine ⟨_, rfl, _, rfl, _, _, _, rfl, StV.kp (C := 0) (.of s1) x hx, hkx, hO.1, fun H2 s2 => ?_⟩
        refine ⟨done ++ [x], rest, _, some v, by rw [er, List.append_assoc]; rfl, by simp, rfl, hr', ?_, ?_, same_trans s1 s2⟩
        · rw [hgR_snoc]
          exact hO.2
        · rw [hgR_snoc]
          rfl
    · rintro σ H' ⟨done, rest, us, c2, er, ed, eu, hR, hO, rfl, s1⟩
      rw [List.drop_length] at eu
      subst eu
      cases rest with
      | nil =>
        rw [List.append_nil] at er
        subst er
        exact ⟨_, rfl, k _ s1⟩
      | cons x rest =>
        obtain ⟨_, _, e, _⟩ := hR
        cases e
theorem d_deps {fd2 : FuncData} {f2 : Addr} (F : FnP K "_law_depth" "_law_depth" sL_depth f fd) (gm : mg "_law_depth" = some (.ref f)) (F2 : FnP K "_law_height" "_law_height" sL_height f2 fd2) (gm2 : mg "_law_height" = some (.ref f2)) (T : Tx K mg) :
    ∀ n, DefOk P w K mg base CX0 (2 * n + 1) "_law_depth" ["plan"] [] (spDep K n) ∧ DefOk P w K mg base CX0 (2 * n + 2) "_law_height" ["height", "stage"] [] (spHgt K n)
  | 0 => ⟨d_depth0 F gm, d_height 0 F2 gm2 T (d_depth0 F gm)⟩
  | n + 1 => by
    have h := d_depthS (base := base) (P := P) (w := w) n F gm (d_deps F gm F2 gm2 T n).2
    exact ⟨h, d_height (n + 1) F2 gm2 T h⟩
/-! a drawn name -/
def spNm : Sp := fun vs H Q _ => ∃ s, vs = [.ref s] ∧ Strm H s ∧ ∀ x H', But [s] H H' → Strm H' s → nameB x = true → Q (.str x) H'
theorem strm_same {H H' : Hp} {s : Addr} (e : Same H H') (h : Strm H s) : Strm H' s := let ⟨r, m, h⟩ := h; ⟨r, m, e _ _ h⟩
theorem strm_ne {H : Hp} {s t : Addr} (h : Strm H s) (n : H t = none) : t ≠ s := by
  rintro rfl
  obtain ⟨r, m, h⟩ := h
  rw [h] at n
  cases n
theorem scL_name : FnScope ["stream", "word", "turn"] ["stream"] (defScope sL_name) := ⟨rfl, rfl, rfl, by decide +kernel, rfl, by decide +kernel, by decide +kernel⟩
theorem d_name (F : FnP K "_law_name" "_law_name" sL_name f fd) (gm : mg "_law_name" = some (.ref f)) (T : Tx K mg) (D_L_draw : DefOk P w K mg base CX0 1 "_law_draw" ["stream", "span"] [] spDraw) (D_L_pick : DefOk P w K mg base CX0 2 "_law_pick" ["stream", "things"] [] (spPick K)) :
    DefOk P w K mg base CX0 3 "_law_name" ["stream"] [] spNm := by
  refine ⟨f, fd, [], F.ok scL_name (fun vs H Q E h => ?_) (fun cdv A outer s H vs Q E hr h => ?_), gm, F.kp, F.bindsN fun _ _ _ _ _ _ us hl => match us, hl with | [_], _ => rfl, .nil⟩
  · obtain ⟨_, rfl, _⟩ := h
    rfl
  · obtain ⟨s, rfl, hs, k⟩ := h
    refine ⟨_, PSs.nox (pss_cons (ps_set (i := 1) scL_name.nd rfl (.inl rfl) (pe_d D_L_pick (hr.mono (by decide)) pass0 (pa_cons (pv 0) (pa_cons (pe_lst (pa_cons pe_str (pa_cons pe_str (pa_cons pe_str pa_nil)))) pa_nil))))
  (pss_cons (ps_for PassesOwn.never rfl (pi_range1 (by rfl) T.z_range (pa_cons (pe_op op_add pe_int (pe_d D_L_draw (hr.mono (by decide)) pass0 (pa_cons (pv 0) (pa_cons pe_int pa_nil)))) pa_nil)) (pg_name (i := 2) scL_name.nd rfl (.inl rfl))
  (pss_one (ps_set (i := 1) scL_name.nd rfl (.inl rfl) (pe_op op_add_str (pv 1) (pe_d D_L_pick (hr.mono (by decide)) pass0 (pa_cons (pv 0) (pa_cons pe_str pa_nil)))))))
  (pss_one (ps_ret (pe_d D_L_pick (hr.mono (by decide)) pass0 (pa_cons (pv 0) (pa_cons (pe_lst (pa_cons (pv 1) (pa_cons (pv 1) (pa_cons pe_str (pa_cons pe_str (pa_cons pe_str (pa_cons pe_str (pa_cons pe_str (pa_cons pe_str (pa_cons pe_str (pa_cons pe_str (pa_cons pe_str pa_nil)))))))))))) pa_nil))))))), ?_⟩
    refine ⟨_, rfl, szl rfl, fun p hp => ⟨s, _, rfl, strm_same (same_upd hp) hs, .inl ⟨p, _, rfl, SqL.of upd_same, strm_ne hs hp, (by show 0 < 3; decide), (by show 3 ≤ 1000; decide), fun i x H1 b1 s1 hx => ?_⟩⟩⟩
    obtain ⟨x0, rfl, hx0⟩ : ∃ x0 : Str, x = .str x0 ∧ WordB 2 x0 := by
      match i, hx with
      | 0, hx => cases hx; exact ⟨_, rfl, by unfold WordB; decide +kernel⟩
      | 1, hx => cases hx; exact ⟨_, rfl, by unfold WordB; decide +kernel⟩
      | 2, hx => cases hx; exact ⟨_, rfl, by unfold WordB; decide +kernel⟩
      | i + 3, hx => cases hx
    have b1' : But [s] H H1 := (But.of (same_upd hp)).trans b1
    clear b1 hx hp
    obtain ⟨r1, m1, hs1⟩ := s1
    refine ⟨_, rfl, s, _, r1, m1, rfl, (by decide), (by decide), hs1, fun r2 m2 d d0 d1 => ⟨_, _, rfl, rfl, 1 + d, rfl, by omega, by omega, ?_⟩⟩
    have b2 : But [s] H (upd H1 s (.lst [.int r2, .int m2])) := b1'.trans (.upd (by simp))
    have s2 : Strm (upd H1 s (.lst [.int r2, .int m2])) s := strm_upd
    generalize upd H1 s (.lst [.int r2, .int m2]) = H2 at b2 s2 ⊢
    refine for_range (lo := 0) (n := (1 + d).toNat) (fun i σ H' => ∃ (x : Str) (c : Option V), σ = [some (.ref s), some (.str x), c] ∧ WordB (2 + i) x ∧ i ≤ x.length ∧ But [s] H H' ∧ Strm H' s) ⟨x0, none, rfl, hx0, Nat.zero_le _, b2, s2⟩ ?_ ?_
    · rintro i σ H3 hi ⟨x, c, rfl, hx, hxl, b3, s3⟩
      refine ⟨_, rfl, _, rfl, s, _, rfl, s3, .inr ⟨letters, rfl, (by decide +kernel), (by decide +kernel), fun j cc H4 b4 s4 hj => ?_⟩⟩
      have hx' := hx.app (.one hj)
      have el : (x ++ (⟨#[cc]⟩ : Str)).length = x.length + 1 := str_len_app _ _
      refine ⟨_, _, rfl, rfl, szle (by show x.length + 1 ≤ _; have := hx.1; omega), ?_⟩
      exact ⟨_, some (.int (0 + (i : Int))), rfl, hx', by omega, b3.trans b4, s4⟩
    · rintro σ H3 ⟨x, c, rfl, hx, hxl, b3, s3⟩
      have hname : nameB x = true := hx.name (by omega) (by omega)
      refine ⟨_, rfl, _, rfl, _, rfl, szl rfl, fun p hp => ⟨s, _, rfl, strm_same (same_upd hp) s3, .inl ⟨p, _, rfl, SqL.of upd_same, strm_ne s3 hp, (by show 0 < 11; decide), (by show 11 ≤ 1000; decide), fun j y H4 b4 s4 hy => ?_⟩⟩⟩
      obtain ⟨y0, rfl, hy0⟩ : ∃ y0 : Str, y = .str y0 ∧ nameB y0 = true := by
        have key : ∀ z ∈ (["zip", "unzip", "flat", "from", "take", "map", "end", "a", "b"] : List Str), nameB z = true := by decide +kernel
        match j, hy with
        | 0, hy => cases hy; exact ⟨_, rfl, hname⟩
        | 1, hy => cases hy; exact ⟨_, rfl, hname⟩
        | j + 2, hy =>
          have hy' : (List.map V.str ["zip", "unzip", "flat", "from", "take", "map", "end", "a", "b"])[j]? = some y := hy
          rw [List.getElem?_map] at hy'
          obtain ⟨z, hz, rfl⟩ := Option.map_eq_some_iff.mp hy'
          exact ⟨z, rfl, key z (List.mem_of_getElem? hz)⟩
      exact k _ _ ((b3.trans (.of (same_upd hp))).trans b4) s4 hy0
/-! drawn stages, drawn plans -/
def spStg (K : PySem.W.Frag) (m : Nat) : Sp := fun vs H Q _ => ∃ (s : Addr) (d : Int) (pl : Addr) (mst : Int) (ps : List Str), vs = [.ref s, .int d, .ref pl, .int mst] ∧ Strm H s ∧ H pl = some (.lst (ps.map V.str)) ∧ pl ≠ s ∧ ps.length ≤ m ∧ 1 ≤ mst ∧ mst ≤ 4 ∧
  ∀ x v used rest H', ps = used ++ rest → lvS x = used → okS d x → But [s, pl] H H' → Strm H' s → H' pl = some (.lst (rest.map V.str)) → StV K H' x v → Q v H'
def spPln (K : PySem.W.Frag) (m : Nat) : Sp := fun vs H Q _ => ∃ (s pl : Addr) (mst : Int) (ps : List Str), vs = [.ref s, .ref pl, .int mst] ∧ Strm H s ∧ H pl = some (.lst (ps.map V.str)) ∧ pl ≠ s ∧ ps.length ≤ m ∧ ps ≠ [] ∧ 0 ≤ mst ∧ mst ≤ 6 ∧
  ∀ p x r used rest H', ps = used ++ rest → x :: lvR r = used → okR 0 r → (r.length : Int) ≤ mst → But [s, pl] H H' → Strm H' s → H' pl = some (.lst (rest.map V.str)) → PlV K H' x r p → Q (.ref p) H'
def someW : List Str := ["map", "keep", "while", "after", "take", "skip", "lots", "gather", "flat", "keep", "zip"]
theorem but_kp {C s pl : Addr} {H H' : Hp} {xs : List V} (b : But [s, pl] H H') (hs : Strm H s) (hp : H pl = some (.lst xs)) : KP C H H' := b.kp (by
  intro q hq o ho
  rcases List.mem_cons.mp hq with e | e
  · subst e
    obtain ⟨r, m, h⟩ := hs
    rw [h] at ho
    cases ho
    exact id
  · have e := List.mem_singleton.mp e
    subst e
    rw [hp] at ho
    cases ho
    exact id)
theorem scL_stage : FnScope ["stream", "height", "pool", "most", "some", "word", "name"] ["stream", "height", "pool", "most"] (defScope sL_stage) := ⟨rfl, rfl, rfl, by decide +kernel, rfl, by decide +kernel, by decide +kernel⟩
theorem scL_plan : FnScope ["stream", "pool", "most", "first", "stages", "height", "turn", "stage"] ["stream", "pool", "most"] (defScope sL_plan) := ⟨rfl, rfl, rfl, by decide +kernel, rfl, by decide +kernel, by decide +kernel⟩
theorem d_plan0 (F : FnP K "_law_plan" "_law_plan" sL_plan f fd) (gm : mg "_law_plan" = some (.ref f)) : DefOk P w K mg base CX0 4 "_law_plan" ["stream", "pool", "most"] [] (spPln K 0) := by
  refine ⟨f, fd, [], F.ok scL_plan (fun vs H Q E h => ?_) (fun cdv A outer s H vs Q E hr h => ?_), gm, F.kp, F.bindsN fun _ _ _ _ _ _ us hl => match us, hl with | [_, _, _], _ => rfl, .nil⟩
  · obtain ⟨_, _, _, _, rfl, _⟩ := h
    rfl
  · obtain ⟨_, _, _, _, _, _, _, _, h1, h2, _⟩ := h
    exact absurd (List.length_eq_zero_iff.mp (Nat.le_zero.mp h1)) h2
theorem d_stage (m : Nat) (F : FnP K "_law_stage" "_law_stage" sL_stage f fd) (gm : mg "_law_stage" = some (.ref f)) (T : Tx K mg) (D_L_draw : DefOk P w K mg base CX0 1 "_law_draw" ["stream", "span"] [] spDraw) (D_L_pick : DefOk P w K mg base CX0 2 "_law_pick" ["stream", "things"] [] (spPick K))
    (D_L_name : DefOk P w K mg base CX0 3 "_law_name" ["stream"] [] spNm) (D_L_plan : DefOk P w K mg base CX0 (2 * m + 4) "_law_plan" ["stream", "pool", "most"] [] (spPln K m)) :
    DefOk P w K mg base CX0 (2 * m + 5) "_law_stage" ["stream", "height", "pool", "most"] [] (spStg K m) := by
  refine ⟨f, fd, [], F.ok scL_stage (fun vs H Q E h => ?_) (fun cdv A outer s H vs Q E hr h => ?_), gm, F.kp, F.bindsN fun _ _ _ _ _ _ us hl => match us, hl with | [_, _, _, _], _ => rfl, .nil⟩
  · obtain ⟨_, _, _, _, _, rfl, _⟩ := h
    rfl
  · obtain ⟨s, d, pl, mst, ps, rfl, hs, hpl, nps, hm, m1, m4, k⟩ := h
    refine ⟨_, PSs.nox (pss_cons (ps_set (i := 4) scL_stage.nd rfl (.inl rfl) (pe_lst (pa_cons pe_str (pa_cons pe_str (pa_cons pe_str (pa_cons pe_str (pa_cons pe_str (pa_cons pe_str (pa_cons pe_str (pa_cons pe_str (pa_cons pe_str (pa_cons pe_str (pa_cons pe_str pa_nil)))))))))))))
  (pss_cons (ps_set (i := 5) scL_stage.nd rfl (.inl rfl) (pe_d D_L_pick (hr.mono (by omega)) pass0 (pa_cons (pv 0) (pa_cons (pv 4) pa_nil))))
  (C8.pss_cut (ps_if (PW.pt (pw_and (pt_cmpR op_eq (pv 5) pe_str (nomark _)) (pw_and1 (pt_cmpR (op_ne0 hr.units0) (pv 2) (pe_lst pa_nil) (nomark _))))) (pss_one (ps_ret (pe_tup (pa_cons pe_str (pa_cons (pe_d D_L_plan (hr.mono (by omega)) pass0 (pa_cons (pv 0) (pa_cons (pv 2) (pa_cons pe_int pa_nil)))) pa_nil)))))
  pss_nil)
  (C8.pss_cut (ps_if (PW.pt (pw_and (pt_cmpR op_eq (pv 5) pe_str (nomark _)) (pw_and1 (pt_cmpR op_gt (pv 1) pe_int (nomark _))))) (pss_one (ps_ret (pe_tup (pa_cons pe_str pa_nil))))
  pss_nil)
  (pss_cons (ps_if (pt_cmpR op_in_seq (pv 5) (pe_tup (pa_cons pe_str (pa_cons pe_str (pa_cons pe_str (pa_cons pe_str pa_nil))))) (by rfl)) (pss_one (ps_ret (pe_tup (pa_cons (pv 5) (pa_cons (pe_op op_add pe_int (pe_d D_L_draw (hr.mono (by omega)) pass0 (pa_cons (pv 0) (pa_cons (pv 3) pa_nil)))) pa_nil)))))
  pss_nil)
  (pss_cons (ps_set (i := 6) scL_stage.nd rfl (.inl rfl) (pe_d D_L_pick (hr.mono (by omega)) pass0 (pa_cons (pv 0) (pa_cons (pe_lst (pa_cons pe_str (pa_cons pe_str (pa_cons pe_str (pa_cons pe_str (pa_cons pe_str (pa_cons pe_str (pa_cons pe_str (pa_cons (pe_d D_L_name (hr.mono (by omega)) pass0 (pa_cons (pv 0) pa_nil)) pa_nil))))))))) pa_nil))))
  (pss_one (ps_ret (pe_tup (pa_cons (pe_ifExp (pt_cmpR op_in_seq (pv 5) (pe_tup (pa_cons pe_str (pa_cons pe_str (pa_cons pe_str pa_nil)))) (by rfl)) (pv 5) pe_str) (pa_cons (pv 6) pa_nil))))))))))), ?_⟩
    refine ⟨szl rfl, fun p hp => ⟨_, rfl, _, rfl, s, _, rfl, strm_same (same_upd hp) hs, .inl ⟨p, _, rfl, SqL.of upd_same, strm_ne hs hp, (by show 0 < 11; decide), (by show 11 ≤ 1000; decide), fun i x H1 b1 s1 hx => ?_⟩⟩⟩
    have hx' : (List.map V.str someW)[i]? = some x := hx
    rw [List.getElem?_map] at hx'
    obtain ⟨wd, hwd, rfl⟩ := Option.map_eq_some_iff.mp hx'
    have hw := List.mem_of_getElem? hwd
    have npp : pl ≠ p := by
      rintro rfl
      rw [hp] at hpl
      cases hpl
    have hpl1 : H1 pl = some (.lst (ps.map V.str)) := b1 _ _ (by simpa using nps) (same_upd hp _ _ hpl)
    have b1' : But [s, pl] H H1 := ((But.of (same_upd hp)).trans b1).mono (by simp)
    have kk : ∀ x v used rest H', ps = used ++ rest → lvS x = used → okS d x → But [s, pl] H1 H' → Strm H' s → H' pl = some (.lst (rest.map V.str)) → StV K H' x v → Q v H' := fun x v used rest H' e1 e2 e3 b => k x v used rest H' e1 e2 e3 (b1'.trans b)
    clear k b1 hx hx' hwd b1' hp hs hpl npp
    refine ⟨fun σ' H' => σ' = [some (.ref s), some (.int d), some (.ref pl), some (.int mst), some (.ref p), some (.str wd), none] ∧ Same H1 H', ?_, ?_⟩
    · refine ⟨_, rfl, rfl, _, rfl, ?_⟩
      rw [sc_str]
      by_cases hz : wd = "zip"
      · rw [decide_eq_true hz]
        refine ⟨_, rfl, szl rfl, fun q hq => ⟨pl, q, _, rfl, rfl, SqL.of (same_upd hq _ _ hpl1), SqL.of upd_same, _, rfl, ?_⟩⟩
        have sq := same_upd (o := .lst []) hq
        have sqs := strm_same sq s1
        have hplq := sq _ _ hpl1
        generalize upd H1 q (.lst []) = H2 at sq sqs hplq ⊢
        cases hps : ps with
        | nil => exact ⟨rfl, sq⟩
        | cons x0 r0 =>
          rw [← hps]
          have e0 : (!(ps.map V.str).isEmpty) = true := by rw [hps]; rfl
          rw [e0]
          refine ⟨_, rfl, _, rfl, s, pl, 2, ps, rfl, sqs, hplq, nps, hm, (by rw [hps]; simp), by decide, by decide, fun pp x r used rest H3 e1 e2 e3 e4 b3 s3 h3 hP => ⟨szl rfl, fun t ht => ?_⟩⟩
          obtain ⟨qq, vs, g1, g2, g3⟩ := hP.kp (C := 0) (.of (same_upd ht))
          refine kk (.zip x r) _ used rest _ e1 (by rw [lvS]; exact e2) (by rw [okS]; exact ⟨by omega, e3⟩) (((But.of sq).trans b3).trans (.of (same_upd ht))) (strm_same (same_upd ht) s3) (same_upd ht _ _ h3) ?_
          rw [StV]
          exact ⟨t, pp, qq, vs, rfl, SqT.of upd_same, g1, g2, g3⟩
      · rw [decide_eq_false hz]
        exact ⟨rfl, Same.refl _⟩
    rintro σ' H2 ⟨rfl, sm⟩
    have s2 := strm_same sm s1
    have hpl2 := sm _ _ hpl1
    have kk2 : ∀ x v used rest H', ps = used ++ rest → lvS x = used → okS d x → But [s, pl] H2 H' → Strm H' s → H' pl = some (.lst (rest.map V.str)) → StV K H' x v → Q v H' := fun x v used rest H' e1 e2 e3 b => kk x v used rest H' e1 e2 e3 ((But.of sm).trans b)
    clear kk s1 hpl1 sm
    refine ⟨fun σ' H' => σ' = [some (.ref s), some (.int d), some (.ref pl), some (.int mst), some (.ref p), some (.str wd), none] ∧ H' = H2, ?_, ?_⟩
    · refine ⟨_, rfl, rfl, _, rfl, ?_⟩
      rw [sc_str]
      by_cases hz : wd = "flat"
      · rw [decide_eq_true hz]
        refine ⟨_, rfl, _, _, rfl, rfl, _, rfl, ?_⟩
        by_cases hd : 0 < d
        · rw [decide_eq_true hd]
          refine ⟨szl rfl, fun t ht => ?_⟩
          refine kk2 .flat _ [] ps _ rfl rfl (by rw [okS]; exact hd) (.of (same_upd ht)) (strm_same (same_upd ht) s2) (same_upd ht _ _ hpl2) ?_
          rw [StV]
          exact ⟨t, rfl, SqT.of upd_same⟩
        · rw [decide_eq_false hd]
          exact ⟨rfl, rfl⟩
      · rw [decide_eq_false hz]
        exact ⟨rfl, rfl⟩
    rintro σ' H' ⟨rfl, rfl⟩
    refine ⟨_, rfl, szl rfl, fun t ht => ⟨t, counted.map V.str, rfl, .inr (SqT.of upd_same), rfl, all_str _, ?_⟩⟩
    have st := same_upd (o := .tup (counted.map V.str)) ht
    rw [inV_str]
    by_cases hc : wd ∈ counted
    · rw [decide_eq_true hc]
      obtain ⟨r3, m3, hs3⟩ := strm_same st s2
      refine ⟨_, rfl, _, rfl, _, rfl, _, rfl, s, mst, r3, m3, rfl, by omega, by omega, hs3, fun r4 m4' n n0 n1 => ⟨_, _, rfl, rfl, szl rfl, fun t2 ht2 => ?_⟩⟩
      have b5 : But [s, pl] H' (upd (upd (upd H' t (.tup (counted.map V.str))) s (.lst [.int r4, .int m4'])) t2 (.tup [.str wd, .int (1 + n)])) := ((But.of st).trans (.upd (by simp))).trans (.of (same_upd ht2))
      refine kk2 (.nu wd (1 + n)) _ [] ps _ rfl rfl (by rw [okS]; exact ⟨hc, by omega, by omega⟩) b5 (strm_same (same_upd ht2) strm_upd) ?_ ?_
      · refine same_upd ht2 _ _ ?_
        rw [upd_ne nps]
        exact st _ _ hpl2
      · rw [StV]
        exact ⟨t2, rfl, SqT.of upd_same⟩
    · rw [decide_eq_false hc]
      have s3 := strm_same st s2
      have hpl3 := st _ _ hpl2
      refine ⟨_, rfl, _, rfl, _, rfl, s, rfl, s3, fun x H4 b4 s4 hn => ⟨szl rfl, fun q hq => ⟨s, _, rfl, strm_same (same_upd hq) s4, .inl ⟨q, _, rfl, SqL.of upd_same, strm_ne s4 hq, (by show 0 < 8; decide), (by show 8 ≤ 1000; decide), fun j y H5 b5 s5 hy => ?_⟩⟩⟩⟩
      obtain ⟨y0, rfl, hy0⟩ : ∃ y0 : Str, y = .str y0 ∧ nameB y0 = true := by
        have key : ∀ z ∈ (["p", "p", "q", "f", "p", "g", "f"] : List Str), nameB z = true := by decide +kernel
        match j, hy with
        | 0, hy => cases hy; exact ⟨_, rfl, key _ (by decide +kernel)⟩
        | 1, hy => cases hy; exact ⟨_, rfl, key _ (by decide +kernel)⟩
        | 2, hy => cases hy; exact ⟨_, rfl, key _ (by decide +kernel)⟩
        | 3, hy => cases hy; exact ⟨_, rfl, key _ (by decide +kernel)⟩
        | 4, hy => cases hy; exact ⟨_, rfl, key _ (by decide +kernel)⟩
        | 5, hy => cases hy; exact ⟨_, rfl, key _ (by decide +kernel)⟩
        | 6, hy => cases hy; exact ⟨_, rfl, key _ (by decide +kernel)⟩
        | 7, hy => cases hy; exact ⟨_, rfl, hn⟩
        | j + 8, hy => cases hy
      have hpl5 : H5 pl = some (.lst (ps.map V.str)) := b5 _ _ (by simpa using nps) (same_upd hq _ _ (b4 _ _ (by simpa using nps) hpl3))
      have b25 : But [s] H' H5 := (((But.of st).trans b4).trans (.of (same_upd hq))).trans b5
      refine ⟨_, rfl, szl rfl, fun t2 ht2 => ⟨t2, (["map", "while", "after"] : List Str).map V.str, rfl, .inr (SqT.of upd_same), rfl, all_str _, ?_⟩⟩
      have st2 := same_upd (o := .tup ((["map", "while", "after"] : List Str).map V.str)) ht2
      rw [inV_str]
      have fin : ∀ w1 : Str, w1 ∈ named → ∀ p, (upd H5 t2 (.tup ((["map", "while", "after"] : List Str).map V.str))) p = none → Q (.ref p) (upd (upd H5 t2 (.tup ((["map", "while", "after"] : List Str).map V.str))) p (.tup [.str w1, .str y0])) := by
        intro w1 hw1 t3 ht3
        refine kk2 (.nm w1 y0) _ [] ps _ rfl rfl (by rw [okS]; exact ⟨hw1, hy0⟩) (((b25.trans (.of st2)).trans (.of (same_upd ht3))).mono (by simp)) (strm_same (same_upd ht3) (strm_same st2 s5)) (same_upd ht3 _ _ (st2 _ _ hpl5)) ?_
        rw [StV]
        exact ⟨t3, rfl, SqT.of upd_same⟩
      by_cases h3 : wd ∈ (["map", "while", "after"] : List Str)
      · rw [decide_eq_true h3]
        have key : ∀ w ∈ (["map", "while", "after"] : List Str), w ∈ named := by decide +kernel
        exact ⟨_, rfl, _, rfl, _, rfl, szl rfl, fin wd (key wd h3)⟩
      · rw [decide_eq_false h3]
        exact ⟨_, rfl, _, rfl, szl rfl, fin "keep" (by decide +kernel)⟩
theorem d_planS (m : Nat) (F : FnP K "_law_plan" "_law_plan" sL_plan f fd) (gm : mg "_law_plan" = some (.ref f)) (T : Tx K mg) (D_L_draw : DefOk P w K mg base CX0 1 "_law_draw" ["stream", "span"] [] spDraw)
    (D_L_height : DefOk P w K mg base CX0 (2 * m + 2) "_law_height" ["height", "stage"] [] (spHgt K m)) (D_L_stage : DefOk P w K mg base CX0 (2 * m + 5) "_law_stage" ["stream", "height", "pool", "most"] [] (spStg K m)) :
    DefOk P w K mg base CX0 (2 * (m + 1) + 4) "_law_plan" ["stream", "pool", "most"] [] (spPln K (m + 1)) := by
  refine ⟨f, fd, [], F.ok (k := 2 * m + 5) scL_plan (fun vs H Q E h => ?_) (fun cdv A outer s H vs Q E hr h => ?_), gm, F.kp, F.bindsN fun _ _ _ _ _ _ us hl => match us, hl with | [_, _, _], _ => rfl, .nil⟩
  · obtain ⟨_, _, _, _, rfl, _⟩ := h
    rfl
  · obtain ⟨s, pl, mst, ps, rfl, hs, hpl, nps, hm, hne, m0, m6, k⟩ := h
    refine ⟨_, PSs.nox (pss_cons (ps_par3 (i := 3) (j := 4) (l := 5) (by rfl) scL_plan.nd rfl rfl rfl (by decide) (by decide) (by decide) rfl rfl rfl (pa_cons (pe_bm PySem.F.plainAttrs_list PySem.F.slot_list_pop PySem.F.type_list_pop mt_popAt (pv 1) (pa_cons pe_int pa_nil)) (pa_cons (pe_lst pa_nil) (pa_cons pe_int pa_nil))) (by rfl))
  (pss_cons (ps_for PassesOwn.never rfl (pi_range1 (by rfl) T.z_range (pa_cons (pe_d D_L_draw (hr.mono (by omega)) pass0 (pa_cons (pv 0) (pa_cons (pe_op op_add (pv 2) pe_int) pa_nil))) pa_nil)) (pg_name (i := 6) scL_plan.nd rfl (.inl rfl))
  (pss_cons (ps_set (i := 7) scL_plan.nd rfl (.inl rfl) (pe_d D_L_stage (hr.mono (by omega)) pass0 (pa_cons (pv 0) (pa_cons (pv 5) (pa_cons (pv 1) (pa_cons pe_int pa_nil))))))
  (pss_cons (ps_expr (pe_bm PySem.F.plainAttrs_list PySem.F.slot_list_append PySem.F.type_list_append mt_append (pv 4) (pa_cons (pv 7) pa_nil)))
  (pss_one (ps_set (i := 5) scL_plan.nd rfl (.inl rfl) (pe_d D_L_height (hr.mono (by omega)) pass0 (pa_cons (pv 5) (pa_cons (pv 7) pa_nil))))))))
  (pss_one (ps_ret (pe_tup (pa_cons (pv 3) (pa_cons (pe_callTy call_tuple_of (by rfl) T.z_tuple (by decide +kernel) (pa_cons (pv 4) pa_nil)) pa_nil))))))), ?_⟩
    match ps, hne with
    | x0 :: ps, _ =>
    refine ⟨_, rfl, .inl ⟨rfl, _, SqL.of hpl⟩, pl, _, 0, 0, .str x0, rfl, rfl, hpl, by decide, by decide, seqIndex_of (by decide) (by rw [List.length_map, List.length_cons]; omega), rfl, szl rfl, fun st hst => ⟨_, _, _, rfl, ?_⟩⟩
    have eE : ((x0 :: ps).map V.str).eraseIdx 0 = ps.map V.str := rfl
    rw [eE] at hst ⊢
    have nst : st ≠ pl := by
      rintro rfl
      rw [upd_same] at hst
      cases hst
    have hst0 : H st = none := by
      rw [upd_ne nst] at hst
      exact hst
    have nss : st ≠ s := strm_ne hs hst0
    have b1 : But [s, pl] H (upd (upd H pl (.lst (ps.map V.str))) st (.lst [])) := (But.upd (by simp)).updN hst0
    have s1 : Strm (upd (upd H pl (.lst (ps.map V.str))) st (.lst [])) s := by
      obtain ⟨r, m, h⟩ := hs
      exact ⟨r, m, by rw [upd_ne nss.symm, upd_ne nps.symm]; exact h⟩
    have p1 : (upd (upd H pl (.lst (ps.map V.str))) st (.lst [])) pl = some (.lst (ps.map V.str)) := by rw [upd_ne nst.symm, upd_same]
    have t1 : (upd (upd H pl (.lst (ps.map V.str))) st (.lst [])) st = some (.lst []) := upd_same
    generalize (upd (upd H pl (.lst (ps.map V.str))) st (.lst [])) = H1 at b1 s1 p1 t1 ⊢
    clear hst
    obtain ⟨r1, m1, hs1⟩ := s1
    refine ⟨_, rfl, _, rfl, _, _, rfl, rfl, s, _, r1, m1, rfl, by omega, by omega, hs1, fun r2 m2 d d0 d1 => ⟨d, rfl, by omega, by omega, ?_⟩⟩
    have b2 := b1.trans (.upd (o := .lst [.int r2, .int m2]) (show s ∈ [s, pl] by simp))
    have s2 : Strm (upd H1 s (.lst [.int r2, .int m2])) s := strm_upd
    have p2 : (upd H1 s (.lst [.int r2, .int m2])) pl = some (.lst (ps.map V.str)) := by rw [upd_ne nps]; exact p1
    have t2 : (upd H1 s (.lst [.int r2, .int m2])) st = some (.lst []) := by rw [upd_ne nss]; exact t1
    generalize (upd H1 s (.lst [.int r2, .int m2])) = H2 at b2 s2 p2 t2 ⊢
    clear b1 hs1 p1 t1
    refine for_range (lo := 0) (n := d.toNat) (fun i σ H' => ∃ (row : List Sx) (vs : List V) (used rest : List Str) (c6 c7 : Option V), σ = [some (.ref s), some (.ref pl), some (.int mst), some (.str x0), some (.ref st), some (.int (hgR 0 row)), c6, c7] ∧ row.length = i ∧ okR 0 row ∧ ps = used ++ rest ∧ lvR row = used ∧ But [s, pl] H H' ∧ Strm H' s ∧ H' pl = some (.lst (rest.map V.str)) ∧ H' st = some (.lst vs) ∧ RwV K H' row vs)
      ⟨[], [], [], ps, none, none, by rw [hgR]; rfl, rfl, by rw [okR]; trivial, rfl, rfl, b2, s2, p2, t2, by rw [RwV]⟩ ?_ ?_
    · rintro i σ H3 hi ⟨row, vs, used, rest, c6, c7, rfl, hl, hO, hps, hlv, b3, s3, p3, t3, hR⟩
      have lps : ps.length ≤ m := by
        rw [List.length_cons] at hm
        omega
      have l2 : used.length + rest.length ≤ m := by
        rw [hps, List.length_append] at lps
        exact lps
      refine ⟨_, rfl, _, rfl, _, rfl, s, _, pl, 3, rest, rfl, s3, p3, nps, by omega, by decide, by decide, fun x v used' rest' H4 e1 e2 e3 b4 s4 p4 hv => ?_⟩
      have t4 := b4 _ _ (by simp [nst, nss]) t3
      have l4 := hR.len
      have kp4 : KP 0 H3 H4 := but_kp b4 s3 p3
      refine ⟨_, rfl, .inl ⟨rfl, _, SqL.of t4⟩, _, rfl, st, vs, v, rfl, rfl, t4, szlt (by omega), ?_⟩
      have kp5 : KP 0 H4 (upd H4 st (.lst (vs ++ [v]))) := .upd t4 id
      have hk : rkS x ≤ m := by
        have := rkS_le x
        rw [e2] at this
        rw [e1, List.length_append] at l2
        omega
      refine ⟨_, rfl, _, rfl, _, _, x, rfl, hv.kp kp5, hk, e3, fun H6 s6 => ?_⟩
      refine ⟨row ++ [x], vs ++ [v], used ++ used', rest', some (.int (0 + (i : Int))), some v, by rw [hgR_snoc]; rfl, by simp [hl], okR_snoc _ _ _ hO e3, by rw [hps, e1, List.append_assoc], by rw [lvR_snoc, hlv, e2], ((b3.trans b4).updN hst0).trans (.of s6), ?_, ?_, ?_, ?_⟩
      · refine strm_same s6 ?_
        obtain ⟨r, m, h⟩ := s4
        exact ⟨r, m, by rw [upd_ne nss.symm]; exact h⟩
      · refine s6 _ _ ?_
        rw [upd_ne nst.symm]
        exact p4
      · exact s6 _ _ upd_same
      · exact (RwV.snoc (RwV.kp (kp4.trans kp5) row hR) (hv.kp kp5)).kp (C := 0) (.of s6)
    · rintro σ H3 ⟨row, vs, used, rest, c6, c7, rfl, hl, hO, hps, hlv, b3, s3, p3, t3, hR⟩
      refine ⟨_, rfl, _, rfl, st, vs, rfl, .inl ⟨SqL.of t3, fun q hq => ⟨szl rfl, fun p hp => ?_⟩⟩⟩
      have sq := same_upd (o := .tup vs) hq
      have sp := same_upd (o := .tup [.str x0, .ref q]) hp
      refine k p x0 row (x0 :: used) rest _ (by rw [hps]; rfl) (by rw [hlv]) hO (by omega) ((b3.trans (.of sq)).trans (.of sp)) (strm_same sp (strm_same sq s3)) (sp _ _ (sq _ _ p3)) ⟨q, vs, SqT.of upd_same, SqT.of (sp _ _ upd_same), ?_⟩
      exact hR.kp (C := 0) (.of (same_trans sq sp))
theorem d_plans {fd2 : FuncData} {f2 : Addr} (F : FnP K "_law_plan" "_law_plan" sL_plan f fd) (gm : mg "_law_plan" = some (.ref f)) (F2 : FnP K "_law_stage" "_law_stage" sL_stage f2 fd2) (gm2 : mg "_law_stage" = some (.ref f2)) (T : Tx K mg)
    (D_L_draw : DefOk P w K mg base CX0 1 "_law_draw" ["stream", "span"] [] spDraw) (D_L_pick : DefOk P w K mg base CX0 2 "_law_pick" ["stream", "things"] [] (spPick K)) (D_L_name : DefOk P w K mg base CX0 3 "_law_name" ["stream"] [] spNm)
    (D_L_height : ∀ n, DefOk P w K mg base CX0 (2 * n + 2) "_law_height" ["height", "stage"] [] (spHgt K n)) :
    ∀ m, DefOk P w K mg base CX0 (2 * m + 4) "_law_plan" ["stream", "pool", "most"] [] (spPln K m) ∧ DefOk P w K mg base CX0 (2 * m + 5) "_law_stage" ["stream", "height", "pool", "most"] [] (spStg K m)
  | 0 => ⟨d_plan0 F gm, d_stage 0 F2 gm2 T D_L_draw D_L_pick D_L_name (d_plan0 F gm)⟩
  | m + 1 => by
    have h := d_planS (base := base) (P := P) (w := w) m F gm T D_L_draw (D_L_height m) (d_plans F gm F2 gm2 T D_L_draw D_L_pick D_L_name D_L_height m).2
    exact ⟨h, d_stage (m + 1) F2 gm2 T D_L_draw D_L_pick D_L_name h⟩
/-! the program of a plan -/
def spPrg (C : Addr) (K : PySem.W.Frag) (n : Nat) : Sp := fun vs H Q _ => ∃ p x r, vs = [.ref p] ∧ PlV K H x r p ∧ rkR r < n ∧ okR 0 r ∧ r.length ≤ 6 ∧ LsOk (x :: lvR r) ∧ ∀ q H', Same H H' → PgP C K H' x r q → Q (.ref q) H'
theorem scL_program : FnScope ["plan", "found", "stage"] ["plan"] (defScope sL_program) := ⟨rfl, rfl, rfl, by decide +kernel, rfl, by decide +kernel, by decide +kernel⟩
theorem d_program0 (F : FnP K "_law_program" "_law_program" sL_program f fd) (gm : mg "_law_program" = some (.ref f)) : DefOk P w K mg base CX0 6 "_law_program" ["plan"] [] (spPrg (He.ga K "Program") K 0) := by
  refine ⟨f, fd, [], F.ok scL_program (fun vs H Q E h => ?_) (fun cdv A outer s H vs Q E hr h => ?_), gm, F.kp, F.bindsN fun _ _ _ _ _ _ us hl => match us, hl with | [_], _ => rfl, .nil⟩
  · obtain ⟨_, _, _, rfl, _⟩ := h
    rfl
  · obtain ⟨_, _, _, _, _, z, _⟩ := h
    exact absurd z (Nat.not_lt_zero _)
theorem d_programS (n : Nat) (F : FnP K "_law_program" "_law_program" sL_program f fd) (gm : mg "_law_program" = some (.ref f)) (T : Ty P w K mg base) (G_Program : MakeOk P w K mg base (L2.CX P w) 4 (He.ga K "Program") "Program" ["self", "source", "stages"] [] (spInit (He.ga K "Program") K))
    (D_L_program : DefOk P w K mg base CX0 (n + 6) "_law_program" ["plan"] [] (spPrg (He.ga K "Program") K n)) :
    DefOk P w K mg base CX0 (n + 1 + 6) "_law_program" ["plan"] [] (spPrg (He.ga K "Program") K (n + 1)) := by
  refine ⟨f, fd, [], F.ok (k := n + 6) scL_program (fun vs H Q E h => ?_) (fun cdv A outer s H vs Q E hr h => ?_), gm, F.kp, F.bindsN fun _ _ _ _ _ _ us hl => match us, hl with | [_], _ => rfl, .nil⟩
  · obtain ⟨_, _, _, rfl, _⟩ := h
    rfl
  · obtain ⟨p, x, r, rfl, ⟨q, vs, a, b, c⟩, hk, ho, h6, hl, k⟩ := h
    refine ⟨_, PSs.nox (pss_cons (ps_set (i := 1) scL_program.nd rfl (.inl rfl) (pe_lst pa_nil))
  (pss_cons (ps_for PassesOwn.never rfl (pi_tup (pe_ix ix_tup (pv 0) pe_int (fun _ _ => rfl))) (pg_name (i := 2) scL_program.nd rfl (.inl rfl))
  (pss_one (ps_expr (pe_bm PySem.F.plainAttrs_list PySem.F.slot_list_append PySem.F.type_list_append mt_append (pv 1) (pa_cons (pe_ifExp (pt_cmpR op_eq (pe_ix ix_tup (pv 2) pe_int (fun _ _ => rfl)) pe_str (nomark _)) (pe_tup (pa_cons pe_str (pa_cons (pe_d D_L_program (hr.mono (by omega)) pass0 (pa_cons (pe_ix ix_tup (pv 2) pe_int (fun _ _ => rfl)) pa_nil)) pa_nil))) (pv 2)) pa_nil)))))
  (pss_one (ps_ret (pe_mk G_Program (hr.mono (by omega)) (passX rfl rfl) (pa_cons (pe_ix ix_tup (pv 0) pe_int (fun _ _ => rfl)) (pa_cons (pv 1) pa_nil))))))), ?_⟩
    refine ⟨szl rfl, fun fo hfo => ⟨_, rfl, _, _, _, _, rfl, rfl, sqT_same (same_upd hfo) a, atI_nat (j := 1) rfl, q, rfl, ⟨vs, sqT_same (same_upd hfo) b⟩, for_tup (K := K) (a := q) (xs := vs) (fun i σ H' => ∃ (done rest : List Sx) (us pvs : List V) (c2 : Option V), r = done ++ rest ∧ done.length = i ∧ vs.drop i = us ∧ RwV K H rest us ∧ okR (hgR 0 done) rest ∧ σ = [some (.ref p), some (.ref fo), c2] ∧ Same H H' ∧ H' fo = some (.lst pvs) ∧ RwP (He.ga K "Program") K H' done pvs)
      ⟨[], r, vs, [], none, rfl, rfl, rfl, c, by rw [hgR]; exact ho, rfl, same_upd hfo, upd_same, by rw [RwP]⟩ (fun i σ H' _ ⟨_, _, _, _, _, _, _, _, _, _, _, s1, _⟩ => sqT_same s1 b) ?_ ?_⟩⟩
    · rintro i v σ H' hi ⟨done, rest, us, pvs, c2, er, rfl, ed, hR, hO, rfl, s1, hf, hP⟩
      obtain ⟨hlt, ev⟩ := List.getElem?_eq_some_iff.mp hi
      rw [List.drop_eq_getElem_cons hlt, ev] at ed
      cases rest with
      | nil =>
        rw [show us = [] from hR] at ed
        cases ed
      | cons y rest =>
        obtain ⟨v', us', e, hx, hr'⟩ := hR
        rw [← ed] at e
        cases e
        rw [okR] at hO
        have hy : y ∈ r := by rw [er]; simp
        have hkx : rkS y ≤ n := by
          have := rk_mem (r := r) (i := done.length) (s := y) (by rw [er, List.getElem?_append_right (Nat.le_refl _), Nat.sub_self]; rfl)
          omega
        have lp := hP.len
        have ld : done.length < 1000 := by
          have : r.length = done.length + (rest.length + 1) := by rw [er, List.length_append, List.length_cons]
          omega
        have hx1 := hx.kp (C := 0) (.of s1)
        have eD : okR (hgR 0 (done ++ [y])) rest := by rw [hgR_snoc]; exact hO.2
        have keep : ∀ t : Addr, v = .ref t → StP (He.ga K "Program") K H' y v → ∃ (done2 rest2 : List Sx) (us2 pvs2 : List V) (c2 : Option V), r = done2 ++ rest2 ∧ done2.length = done.length + 1 ∧ vs.drop (done.length + 1) = us2 ∧ RwV K H rest2 us2 ∧ okR (hgR 0 done2) rest2 ∧ ([some (V.ref p), some (.ref fo), some v] : L2.St) = [some (.ref p), some (.ref fo), c2] ∧ Same H (upd H' fo (.lst (pvs ++ [v]))) ∧ (upd H' fo (.lst (pvs ++ [v]))) fo = some (.lst pvs2) ∧ RwP (He.ga K "Program") K (upd H' fo (.lst (pvs ++ [v]))) done2 pvs2 := by
          intro t ev hs
          have kp : KP (He.ga K "Program") H' (upd H' fo (.lst (pvs ++ [v]))) := .upd hf id
          exact ⟨done ++ [y], rest, _, pvs ++ [v], some v, by rw [er, List.append_assoc]; rfl, by simp, rfl, hr', eD, rfl, same_updN s1 hfo, upd_same, (RwP.snoc (RwP.kp kp _ hP) (hs.kp kp))⟩
        cases y with
        | nm w1 x1 =>
          obtain ⟨t, rfl, tA⟩ := hx1
          rw [okS] at hO
          refine ⟨_, rfl, .inl ⟨rfl, _, SqL.of hf⟩, _, rfl, _, _, _, _, rfl, rfl, tA, atI_nat (j := 0) rfl, rfl, _, rfl, ?_⟩
          rw [sc_str, decide_eq_false (named_ne hO.1.1).2.1]
          exact ⟨_, rfl, fo, pvs, _, rfl, rfl, hf, szlt (by omega), keep t rfl (by rw [StP]; exact ⟨t, rfl, tA⟩)⟩
        | nu w1 n1 =>
          obtain ⟨t, rfl, tA⟩ := hx1
          rw [okS] at hO
          refine ⟨_, rfl, .inl ⟨rfl, _, SqL.of hf⟩, _, rfl, _, _, _, _, rfl, rfl, tA, atI_nat (j := 0) rfl, rfl, _, rfl, ?_⟩
          rw [sc_str, decide_eq_false (numbered_ne hO.1.1).2.1]
          exact ⟨_, rfl, fo, pvs, _, rfl, rfl, hf, szlt (by omega), keep t rfl (by rw [StP]; exact ⟨t, rfl, tA⟩)⟩
        | flat =>
          obtain ⟨t, rfl, tA⟩ := hx1
          refine ⟨_, rfl, .inl ⟨rfl, _, SqL.of hf⟩, _, rfl, _, _, _, _, rfl, rfl, tA, atI_nat (j := 0) rfl, rfl, _, rfl, ?_⟩
          rw [sc_str, decide_eq_false (by decide +kernel)]
          exact ⟨_, rfl, fo, pvs, _, rfl, rfl, hf, szlt (by omega), keep t rfl (by rw [StP]; exact ⟨t, rfl, tA⟩)⟩
        | zip sr r1 =>
          obtain ⟨t, pp, qq, vs1, rfl, tA, tB, tC, tD⟩ := hx1
          rw [okS] at hO
          rw [rkS] at hkx
          have hl1 : LsOk (sr :: lvR r1) := by
            have q := lv_sub hy
            rw [lvS] at q
            exact hl.sub (q.trans (List.sublist_cons_self _ _))
          refine ⟨_, rfl, .inl ⟨rfl, _, SqL.of hf⟩, _, rfl, _, _, _, _, rfl, rfl, tA, atI_nat (j := 0) rfl, rfl, _, rfl, ?_⟩
          rw [sc_str, decide_eq_true rfl]
          refine ⟨_, rfl, _, _, _, _, rfl, rfl, tA, atI_nat (j := 1) rfl, pp, sr, r1, rfl, ⟨qq, vs1, tB, tC, tD⟩, by omega, hO.1.2, hO.1.1, hl1, fun q2 H2 s2 hQ => ⟨szl rfl, fun t2 ht2 => ?_⟩⟩
          have s3 := same_upd (o := .tup [.str "zip", .ref q2]) ht2
          refine ⟨fo, pvs, _, rfl, rfl, s3 _ _ (s2 _ _ hf), szlt (by omega), ?_⟩
          have kp : KP (He.ga K "Program") H2 (upd (upd H2 t2 (.tup [.str "zip", .ref q2])) fo (.lst (pvs ++ [.ref t2]))) := (KP.of s3).trans (.upd (s3 _ _ (s2 _ _ hf)) id)
          refine ⟨done ++ [.zip sr r1], rest, _, pvs ++ [.ref t2], some (.ref t), by rw [er, List.append_assoc]; rfl, by simp, rfl, hr', eD, rfl, same_updN (same_trans s1 (same_trans s2 s3)) hfo, upd_same, RwP.snoc (RwP.kp ((KP.of s2).trans kp) _ hP) ?_⟩
          obtain ⟨vs2, g1, g2⟩ := hQ.kp kp
          rw [StP]
          refine ⟨t2, q2, vs2, rfl, SqT.of ?_, g1, g2⟩
          rw [upd_ne, upd_same]
          rintro rfl
          rw [s2 _ _ hf] at ht2
          cases ht2
    · rintro σ H' ⟨done, rest, us, pvs, c2, er, ed, eu, hR, hO, rfl, s1, hf, hP⟩
      rw [List.drop_length] at eu
      subst eu
      cases rest with
      | nil =>
        rw [List.append_nil] at er
        subst er
        have lp := hP.len
        have q := run_ok (n := 0) (pre := []) (d := 0) (L := [x]) hP ho hl.1
        refine ⟨_, rfl, _, _, _, _, rfl, rfl, sqT_same s1 a, atI_nat (j := 0) rfl, _, rfl, ?_⟩
        exact rd_prog (hl.2 x (by simp)) (SqL.of hf) (by omega) q fun q2 H2 s2 _ hI => k q2 H2 (same_trans s1 s2) ⟨pvs, hI, RwP.kp (.of s2) _ hP⟩
      | cons y rest =>
        obtain ⟨_, _, e, _⟩ := hR
        cases e
theorem d_programs (F : FnP K "_law_program" "_law_program" sL_program f fd) (gm : mg "_law_program" = some (.ref f)) (T : Ty P w K mg base) (G_Program : MakeOk P w K mg base (L2.CX P w) 4 (He.ga K "Program") "Program" ["self", "source", "stages"] [] (spInit (He.ga K "Program") K)) :
    ∀ n, DefOk P w K mg base CX0 (n + 6) "_law_program" ["plan"] [] (spPrg (He.ga K "Program") K n)
  | 0 => d_program0 F gm
  | n + 1 => d_programS n F gm T G_Program (d_programs F gm T G_Program n)
end

end K80
namespace K80
open PySem PySem.Spec PyProof.Rows L2 Lw
/-! ### texts of programs -/
section
variable {P : Program} {w : World} {K : PySem.W.Frag} {mg : Str → Option Value} {base : Heap} {f : Addr} {fd : FuncData}
def spPL (C : Addr) (K : PySem.W.Frag) (n : Nat) : Sp := fun vs H Q _ => ∃ p x r, vs = [.ref p] ∧ PgP C K H x r p ∧ rkR r < n ∧ okR 0 r ∧ r.length ≤ 6 ∧ LsOk (x :: lvR r) ∧ ∀ l H', Same H H' → H l = none → H' l = some (.lst ((lnP x r).map V.str)) → Q (.ref l) H'
def spSL (C : Addr) (K : PySem.W.Frag) (n : Nat) : Sp := fun vs H Q _ => ∃ v s d, vs = [v] ∧ StP C K H s v ∧ rkS s ≤ n ∧ okS d s ∧ LsOk (lvS s) ∧ ∀ l H', Same H H' → H l = none → H' l = some (.lst ((lnS s).map V.str)) → Q (.ref l) H'
theorem scstage_lines : FnScope ["stage", "line", "part"] ["stage"] (defScope sstage_lines) := ⟨rfl, rfl, rfl, by decide +kernel, rfl, by decide +kernel, by decide +kernel⟩
theorem scprogram_lines : FnScope ["program", "found", "stage"] ["program"] (defScope sprogram_lines) := ⟨rfl, rfl, rfl, by decide +kernel, rfl, by decide +kernel, by decide +kernel⟩
theorem d_lines0 (F : FnP K "program_lines" "program_lines" sprogram_lines f fd) (gm : mg "program_lines" = some (.ref f)) : DefOk P w K mg base CX0 3 "program_lines" ["program"] [] (spPL (He.ga K "Program") K 0) := by
  refine ⟨f, fd, [], F.ok scprogram_lines (fun vs H Q E h => ?_) (fun cdv A outer s H vs Q E hr h => ?_), gm, F.kp, F.bindsN fun _ _ _ _ _ _ us hl => match us, hl with | [_], _ => rfl, .nil⟩
  · obtain ⟨_, _, _, rfl, _⟩ := h
    rfl
  · obtain ⟨_, _, _, _, _, z, _⟩ := h
    exact absurd z (Nat.not_lt_zero _)
theorem d_stage_lines (n : Nat) (hn : n ≤ 100) (F : FnP K "stage_lines" "stage_lines" sstage_lines f fd) (gm : mg "stage_lines" = some (.ref f)) (T : Ty P w K mg base) (D_program_lines : DefOk P w K mg base CX0 (2 * n + 3) "program_lines" ["program"] [] (spPL (He.ga K "Program") K n)) :
    DefOk P w K mg base CX0 (2 * n + 4) "stage_lines" ["stage"] [] (spSL (He.ga K "Program") K n) := by
  obtain ⟨tI, gIND⟩ := T.g_INDENT
  refine ⟨f, fd, [], F.ok scstage_lines (fun vs H Q E h => ?_) (fun cdv A outer s H vs Q E hr h => ?_), gm, F.kp, F.bindsN fun _ _ _ _ _ _ us hl => match us, hl with | [_], _ => rfl, .nil⟩
  · obtain ⟨_, _, _, rfl, _⟩ := h
    rfl
  · obtain ⟨v, s, d, rfl, hV, hk, ho, hl, k⟩ := h
    refine ⟨_, PSs.nox (pss_cons (ps_if (pt_cmpR op_eq (pe_ix ix_tup (pv 0) pe_int (fun _ _ => rfl)) pe_str (nomark _)) (pss_one (ps_ret (pe_lst (pa_cons pe_str (StX.pa_star (pe_lc (own := [("line", 1)]) (g := gName 1) (tt := tYes) (by rfl) scstage_lines.nd (pi_list (pe_d D_program_lines (hr.mono (by omega)) pass0 (pa_cons (pe_ix ix_tup (pv 0) pe_int (fun _ _ => rfl)) pa_nil))) (blkOk_by (own := [("line", 1)]) (N := ["stage", "line", "part"]) (sc := defScope sstage_lines) (by decide +kernel)) (fun _ _ _ _ _ => pg_name (i := 1) scstage_lines.nd rfl (Or.inl rfl)) (fun _ _ _ _ _ => pts_nil) (fun _ _ _ _ _ => (pe_op op_add_str (pe_glob (v := .str "  ") (by rfl) gIND ⟨_, rfl⟩) (pv 1)))) pa_nil)))))
  pss_nil)
  (pss_one (ps_ret (pe_lst (pa_cons (pe_join pe_str (pe_lc (own := [("part", 2)]) (g := gName 2) (tt := tYes) (by rfl) scstage_lines.nd (pi_tup (pv 0)) (blkOk_by (own := [("part", 2)]) (N := ["stage", "line", "part"]) (sc := defScope sstage_lines) (by decide +kernel)) (fun _ _ _ _ _ => pg_name (i := 2) scstage_lines.nd rfl (Or.inl rfl)) (fun _ _ _ _ _ => pts_nil) (fun _ _ _ _ _ => (pe_callTy (SkE.call_str_str.or call_str_int) (by rfl) T.z_str (by decide +kernel) (pa_cons (pv 2) pa_nil))))) pa_nil))))), ?_⟩
    have main : (∃ (t : Addr) (w0 : Str) (xs0 : List V) (ys : List Str), v = .ref t ∧ SqT K H t (.str w0 :: xs0) ∧ w0 ≠ "zip" ∧ ys.length = (V.str w0 :: xs0).length ∧ (∀ (i : Nat) x, (V.str w0 :: xs0)[i]? = some x → ∃ y, ys[i]? = some y ∧ (x = .str y ∨ ∃ n, x = .int n ∧ 1 ≤ n ∧ n ≤ 4 ∧ y = strI n)) ∧ lnS s = [Str.join " " ys] ∧ (ys.map (·.length)).sum ≤ 100 ∧ ys.length ≤ 2) ∨
        (∃ (t p : Addr) (sr : Str) (r : List Sx), s = .zip sr r ∧ v = .ref t ∧ SqT K H t [.str "zip", .ref p] ∧ PgP (He.ga K "Program") K H sr r p) := by
      cases s with
      | nm wd x =>
        obtain ⟨t, rfl, a⟩ := hV
        rw [okS] at ho
        have key : ∀ w ∈ named, w.length ≤ 8 := by decide +kernel
        have k1 := key wd ho.1
        have k2 := nameB_len ho.2
        refine .inl ⟨t, wd, [.str x], [wd, x], rfl, a, (named_ne ho.1).2.1, rfl, fun i y hy => ?_, by rw [lnS]; rfl, by simp; omega, by simp⟩
        match i, hy with
        | 0, hy => cases hy; exact ⟨_, rfl, .inl rfl⟩
        | 1, hy => cases hy; exact ⟨_, rfl, .inl rfl⟩
        | i + 2, hy => cases hy
      | nu wd m =>
        obtain ⟨t, rfl, a⟩ := hV
        rw [okS] at ho
        have key : ∀ w ∈ counted, w.length ≤ 8 := by decide +kernel
        have k1 := key wd ho.1
        have k2 := strI_len ho.2.1 ho.2.2
        refine .inl ⟨t, wd, [.int m], [wd, strI m], rfl, a, (numbered_ne ho.1).2.1, rfl, fun i y hy => ?_, by rw [lnS]; rfl, by simp; omega, by simp⟩
        match i, hy with
        | 0, hy => cases hy; exact ⟨_, rfl, .inl rfl⟩
        | 1, hy => cases hy; exact ⟨_, rfl, .inr ⟨m, rfl, ho.2.1, ho.2.2, rfl⟩⟩
        | i + 2, hy => cases hy
      | flat =>
        obtain ⟨t, rfl, a⟩ := hV
        refine .inl ⟨t, "flat", [], ["flat"], rfl, a, by decide +kernel, rfl, fun i y hy => ?_, by rw [lnS]; rfl, by decide +kernel, by decide⟩
        match i, hy with
        | 0, hy => cases hy; exact ⟨_, rfl, .inl rfl⟩
        | i + 1, hy => cases hy
      | zip sr r =>
        obtain ⟨t, p, vs, rfl, a, b, c⟩ := hV
        exact .inr ⟨t, p, sr, r, rfl, rfl, a, vs, b, c⟩
    rcases main with ⟨t, w0, xs0, ys, rfl, a, hz, hl2, hrel, hj, hs100, h2⟩ | ⟨t, p, sr, r, rfl, rfl, a, hP⟩
    · refine ⟨_, rfl, _, _, _, _, rfl, rfl, a, atI_nat (j := 0) rfl, rfl, _, rfl, ?_⟩
      rw [sc_str, decide_eq_false hz]
      refine ⟨⟨_, rfl⟩, _, rfl, t, rfl, ⟨_, a⟩, fun D hD => ?_⟩
      refine lc_one walk_tup 2 (fun i => V.str (ys.getD i Str.empty)) (by omega) (fun _ => sqT_same (same_upd hD) a) (fun _ => rfl) (fun _ _ _ _ y => y.1) ?_ ?_
      · rintro i y l R hi ⟨_, hy⟩ hR
        obtain ⟨z, hz1, hz2⟩ := hrel i y hy
        rw [List.getD_eq_getElem?_getD, hz1] at hR
        refine ⟨_, rfl, ?_⟩
        rcases hz2 with rfl | ⟨m, rfl, m1, m4, rfl⟩
        · exact .inl ⟨_, rfl, hR⟩
        · refine .inr ⟨m, rfl, ?_, hR⟩
          have : m = 1 ∨ m = 2 ∨ m = 3 ∨ m = 4 := by omega
          rcases this with rfl | rfl | rfl | rfl <;> decide
      · have e : (List.range (V.str w0 :: xs0).length).map (fun i => V.str (ys.getD i Str.empty)) = ys.map V.str := by
          rw [← hl2]
          refine List.ext_getElem? fun i => ?_
          rw [List.getElem?_map, List.getElem?_map]
          by_cases hi : i < ys.length
          · rw [List.getElem?_range hi, List.getElem?_eq_getElem hi]
            simp [List.getD_eq_getElem?_getD, List.getElem?_eq_getElem hi]
          · rw [List.getElem?_eq_none (by simpa using hi), List.getElem?_eq_none (by simpa using hi)]
            rfl
        rw [e]
        refine ⟨_, D, ys, rfl, rfl, .inl (SqL.of upd_same), ?_, szl rfl, fun l hl0 => ?_⟩
        · have : (" " : Str).length = 1 := by decide +kernel
          rw [this]
          omega
        · have sD := same_upd (o := .lst (ys.map V.str)) hD
          refine k l _ (same_trans sD (same_upd hl0)) (none_same sD hl0) ?_
          rw [upd_same, hj, TL.join_eq]
          rfl
    · refine ⟨_, rfl, _, _, _, _, rfl, rfl, a, atI_nat (j := 0) rfl, rfl, _, rfl, ?_⟩
      rw [sc_str, decide_eq_true rfl]
      rw [okS] at ho
      rw [rkS] at hk
      rw [lvS] at hl
      have w1 := lnR_wid r 0 ho.2 (hl.sub (List.sublist_cons_self _ _))
      have l1 := lnR_len r 0 ho.2
      have l4 := hl.len
      rw [List.length_cons] at l4
      refine ⟨_, rfl, _, _, _, _, rfl, rfl, a, atI_nat (j := 1) rfl, p, sr, r, rfl, hP, by omega, ho.2, ho.1, hl, fun l H2 s2 nl h2 => ⟨l, rfl, ⟨_, SqL.of h2⟩, fun D hD => ?_⟩⟩
      refine lc_one walk_list 1 (fun i => V.str (("  " : Str) ++ (lnP sr r).getD i Str.empty)) (by rw [List.length_map]; unfold lnP; rw [List.length_cons]; omega) (fun _ => SqL.of (same_upd hD _ _ h2)) (fun _ => rfl) (fun _ _ _ _ y => y.1) ?_ ?_
      · rintro i y l' R hi ⟨_, hy⟩ hR
        rw [List.getElem?_map] at hy
        obtain ⟨z, hz, rfl⟩ := Option.map_eq_some_iff.mp hy
        rw [List.getD_eq_getElem?_getD, hz] at hR
        refine ⟨_, rfl, _, _, rfl, rfl, szle ?_, hR⟩
        have e2 : ("  " : Str).length = 2 := by decide +kernel
        have hz' : z.length ≤ 500 := by
          rcases List.mem_cons.mp (List.mem_of_getElem? hz) with e | e
          · have key : ∀ s ∈ sources, s.length = 1 := by decide +kernel
            have k1 := key sr (hl.2 sr (by simp))
            have e5 : ("from " : Str).length = 5 := by decide +kernel
            rw [e, str_len_app]
            omega
          · have := w1 z e
            omega
        omega
      · have e : (List.range ((lnP sr r).map V.str).length).map (fun i => V.str (("  " : Str) ++ (lnP sr r).getD i Str.empty)) = ((lnP sr r).map fun l => ("  " : Str) ++ l).map V.str := by
          rw [List.length_map, List.map_map]
          refine List.ext_getElem? fun i => ?_
          rw [List.getElem?_map, List.getElem?_map]
          by_cases hi : i < (lnP sr r).length
          · rw [List.getElem?_range hi, List.getElem?_eq_getElem hi]
            simp [List.getD_eq_getElem?_getD, List.getElem?_eq_getElem hi]
          · rw [List.getElem?_eq_none (by simpa using hi), List.getElem?_eq_none (by simpa using hi)]
            rfl
        rw [e]
        refine ⟨D, _, rfl, .inr (SqL.of upd_same), szle ?_, fun l2 hl2 => ?_⟩
        · rw [List.append_nil, List.length_cons, List.length_map, List.length_map]
          unfold lnP
          rw [List.length_cons]
          omega
        · have sD := same_upd (o := .lst (((lnP sr r).map fun l => ("  " : Str) ++ l).map V.str)) hD
          refine k l2 _ (same_trans s2 (same_trans sD (same_upd hl2))) (none_same s2 (none_same sD hl2)) ?_
          rw [upd_same, List.append_nil, lnS]
          rfl
theorem d_program_linesS (n : Nat) (hn : n ≤ 100) (F : FnP K "program_lines" "program_lines" sprogram_lines f fd) (gm : mg "program_lines" = some (.ref f)) (T : Ty P w K mg base) (P_source : PropOk P w K mg base CX0 1 (He.ga K "Program") "source" (spSourceP (He.ga K "Program") K))
    (P_stages : PropOk P w K mg base CX0 1 (He.ga K "Program") "stages" (spStages (He.ga K "Program") K)) (D_stage_lines : DefOk P w K mg base CX0 (2 * n + 4) "stage_lines" ["stage"] [] (spSL (He.ga K "Program") K n)) :
    DefOk P w K mg base CX0 (2 * (n + 1) + 3) "program_lines" ["program"] [] (spPL (He.ga K "Program") K (n + 1)) := by
  refine ⟨f, fd, [], F.ok (k := 2 * n + 4) scprogram_lines (fun vs H Q E h => ?_) (fun cdv A outer s H vs Q E hr h => ?_), gm, F.kp, F.bindsN fun _ _ _ _ _ _ us hl => match us, hl with | [_], _ => rfl, .nil⟩
  · obtain ⟨_, _, _, rfl, _⟩ := h
    rfl
  · obtain ⟨p, x, r, rfl, hP, hk, ho, h6, hl, k⟩ := h
    refine ⟨_, PSs.nox (pss_cons (ps_set (i := 1) scprogram_lines.nd rfl (.inl rfl) (pe_lst (pa_cons (pe_op op_add_str pe_str (pe_pp P_source (hr.mono (by omega)) pass0 (pv 0))) pa_nil)))
  (pss_cons (ps_for PassesOwn.never rfl (pi_tup (pe_pp P_stages (hr.mono (by omega)) pass0 (pv 0))) (pg_name (i := 2) scprogram_lines.nd rfl (.inl rfl))
  (pss_one (ps_expr (pe_bm PySem.F.plainAttrs_list PySem.F.slot_list_extend PySem.F.type_list_extend mt_extend (pv 1) (pa_cons (pe_d D_stage_lines (hr.mono (by omega)) pass0 (pa_cons (pv 2) pa_nil)) pa_nil)))))
  (pss_one (ps_ret (pv 1))))), ?_⟩
    obtain ⟨vs, hI, hR⟩ := id hP
    obtain ⟨dx, _, _, _, _, _, h1, _⟩ := id hI
    have key : ∀ s ∈ sources, s.length = 1 := by decide +kernel
    have k1 := key x (hl.2 x (by simp))
    have l4 := hl.len
    rw [List.length_cons] at l4
    have hsz : ("from " : Str).length + ((x :: lvR r).headD Str.empty).length ≤ 1000 := by
      have e5 : ("from " : Str).length = 5 := by decide +kernel
      show ("from " : Str).length + x.length ≤ _
      omega
    refine ⟨_, rfl, _, _, _, rfl, h1, p, _, _, _, rfl, hI, _, _, rfl, rfl, szle hsz, szl rfl, fun fo hfo => ?_⟩
    have s1 := same_upd (o := .lst [.str (("from " : Str) ++ x)]) hfo
    have hI1 := hI.kp (C := He.ga K "Program") (.of s1)
    obtain ⟨dx1, _, _, rr, _, _, g1, _, _, gT, _⟩ := id hI1
    refine ⟨_, rfl, _, _, _, rfl, g1, p, _, _, _, rfl, hI1, fun q hq => ⟨q, rfl, ⟨vs, hq⟩, for_tup (K := K) (a := q) (xs := vs) (fun i σ H' => ∃ (done rest : List Sx) (us : List V) (c2 : Option V), r = done ++ rest ∧ done.length = i ∧ vs.drop i = us ∧ RwP (He.ga K "Program") K H rest us ∧ okR (hgR 0 done) rest ∧ σ = [some (.ref p), some (.ref fo), c2] ∧ Same H H' ∧ H' fo = some (.lst ((lnP x done).map V.str)) ∧ SqT K H' q vs)
      ⟨[], r, vs, none, rfl, rfl, rfl, hR, by rw [hgR]; exact ho, rfl, s1, by rw [upd_same]; rfl, hq⟩ (fun i σ H' _ ⟨_, _, _, _, _, _, _, _, _, _, _, _, z⟩ => z) ?_ ?_⟩⟩
    · rintro i v σ H' hi ⟨done, rest, us, c2, er, rfl, ed, hR, hO, rfl, s1, hf, hq⟩
      obtain ⟨hlt, ev⟩ := List.getElem?_eq_some_iff.mp hi
      rw [List.drop_eq_getElem_cons hlt, ev] at ed
      cases rest with
      | nil =>
        rw [show us = [] from hR] at ed
        cases ed
      | cons y rest =>
        obtain ⟨v', us', e, hx, hr'⟩ := hR
        rw [← ed] at e
        cases e
        rw [okR] at hO
        have hy : y ∈ r := by rw [er]; simp
        have hkx : rkS y ≤ n := by
          have := rk_mem (r := r) (i := done.length) (s := y) (by rw [er, List.getElem?_append_right (Nat.le_refl _), Nat.sub_self]; rfl)
          omega
        have hly : LsOk (lvS y) := hl.sub ((lv_sub hy).trans (List.sublist_cons_self _ _))
        have b1 := lnS_len y _ hO.1
        have b2 := hly.len
        have b3 := lnR_len r 0 ho
        have b4 : (lnR done).length + (lnS y).length ≤ (lnR r).length := by
          have e : r = (done ++ [y]) ++ rest := by rw [er, List.append_assoc]; rfl
          have lnApp : ∀ (a b : List Sx), lnR (a ++ b) = lnR a ++ lnR b := by
            intro a b
            induction a with
            | nil => rw [lnR]; rfl
            | cons c a ih => rw [List.cons_append, lnR, lnR, ih, List.append_assoc]
          rw [e, lnApp, lnR_snoc, List.length_append, List.length_append]
          omega
        refine ⟨_, rfl, .inl ⟨rfl, _, SqL.of hf⟩, _, rfl, _, _, _, rfl, hx.kp (C := He.ga K "Program") (.of s1), hkx, hO.1, hly, fun l2 H2 s2 n2 h2 => ?_⟩
        refine ⟨fo, l2, _, _, rfl, rfl, s2 _ _ hf, h2, szle (by rw [List.length_map, List.length_map]; unfold lnP; rw [List.length_cons]; omega), ?_⟩
        refine ⟨done ++ [y], rest, _, some v, by rw [er, List.append_assoc]; rfl, by simp, rfl, hr', by rw [hgR_snoc]; exact hO.2, rfl, same_updN (same_trans s1 s2) hfo, ?_, ?_⟩
        · rw [upd_same, ← List.map_append]
          unfold lnP
          rw [lnR_snoc]
          rfl
        · refine sqT_kp (C := 0) ?_ hq
          exact (KP.of s2).trans (.upd (s2 _ _ hf) id)
    · rintro σ H' ⟨done, rest, us, c2, er, ed, eu, hR, hO, rfl, s1, hf, hq⟩
      rw [List.drop_length] at eu
      subst eu
      cases rest with
      | nil =>
        rw [List.append_nil] at er
        subst er
        exact ⟨_, rfl, k fo _ s1 hfo hf⟩
      | cons y rest =>
        obtain ⟨_, _, e, _⟩ := hR
        cases e
theorem d_lns {fd2 : FuncData} {f2 : Addr} (F : FnP K "program_lines" "program_lines" sprogram_lines f fd) (gm : mg "program_lines" = some (.ref f)) (F2 : FnP K "stage_lines" "stage_lines" sstage_lines f2 fd2) (gm2 : mg "stage_lines" = some (.ref f2)) (T : Ty P w K mg base)
    (P_source : PropOk P w K mg base CX0 1 (He.ga K "Program") "source" (spSourceP (He.ga K "Program") K)) (P_stages : PropOk P w K mg base CX0 1 (He.ga K "Program") "stages" (spStages (He.ga K "Program") K)) :
    ∀ n, n ≤ 100 → DefOk P w K mg base CX0 (2 * n + 3) "program_lines" ["program"] [] (spPL (He.ga K "Program") K n)
  | 0, _ => d_lines0 F gm
  | n + 1, h => d_program_linesS n (by omega) F gm T P_source P_stages (d_stage_lines n (by omega) F2 gm2 T (d_lns F gm F2 gm2 T P_source P_stages n (by omega)))
/-! the text -/
def txtP (x : Str) (r : List Sx) : Str := Txt.join "\n" (lnP x r)
def spPT (C : Addr) (K : PySem.W.Frag) : Sp := fun vs H Q _ => ∃ p x r, vs = [.ref p] ∧ PgP C K H x r p ∧ okR 0 r ∧ r.length ≤ 6 ∧ LsOk (x :: lvR r) ∧ ∀ H', Same H H' → Q (.str (txtP x r)) H'
theorem rk_lt {x : Str} {r : List Sx} (h : LsOk (x :: lvR r)) : rkR r < 4 := by
  have q := h.len
  have p := rkR_le r
  rw [List.length_cons] at q
  omega
theorem sum_le : ∀ {l : List Str} {n : Nat}, (∀ x ∈ l, x.length ≤ n) → (l.map (·.length)).sum ≤ n * l.length
  | [], _, _ => by simp
  | x :: l, n, h => by
    have h1 := h x (by simp)
    have h2 := sum_le (l := l) (n := n) fun y hy => h y (by simp [hy])
    rw [List.map_cons, List.sum_cons, List.length_cons, Nat.mul_succ]
    omega
theorem ln_bounds {x : Str} {r : List Sx} (ho : okR 0 r) (h6 : r.length ≤ 6) (hl : LsOk (x :: lvR r)) : (lnP x r).length ≤ 40 ∧ ∀ l ∈ lnP x r, l.length ≤ 30 := by
  have q := hl.len
  have p := lnR_len r 0 ho
  have rk := rk_lt hl
  rw [List.length_cons] at q
  refine ⟨by unfold lnP; rw [List.length_cons]; omega, fun l h => ?_⟩
  rcases List.mem_cons.mp h with e | e
  · have key : ∀ s ∈ sources, s.length = 1 := by decide +kernel
    have k1 := key x (hl.2 x (by simp))
    have e5 : ("from " : Str).length = 5 := by decide +kernel
    rw [e, str_len_app]
    omega
  · have := lnR_wid r 0 ho (hl.sub (List.sublist_cons_self _ _)) l e
    omega
theorem scprogram_text : FnScope ["program"] ["program"] (defScope sprogram_text) := ⟨rfl, rfl, rfl, by decide +kernel, rfl, by decide +kernel, by decide +kernel⟩
theorem d_program_text (F : FnP K "program_text" "program_text" sprogram_text f fd) (gm : mg "program_text" = some (.ref f)) (T : Ty P w K mg base) (D_program_lines : DefOk P w K mg base CX0 (2 * 4 + 3) "program_lines" ["program"] [] (spPL (He.ga K "Program") K 4)) :
    DefOk P w K mg base CX0 12 "program_text" ["program"] [] (spPT (He.ga K "Program") K) := by
  refine ⟨f, fd, [], F.ok scprogram_text (fun vs H Q E h => ?_) (fun cdv A outer s H vs Q E hr h => ?_), gm, F.kp, F.bindsN fun _ _ _ _ _ _ us hl => match us, hl with | [_], _ => rfl, .nil⟩
  · obtain ⟨_, _, _, rfl, _⟩ := h
    rfl
  · obtain ⟨p, x, r, rfl, hP, ho, h6, hl, k⟩ := h
    refine ⟨_, PSs.nox (pss_one (ps_ret (pe_join pe_str (pe_d D_program_lines (hr.mono (by decide)) pass0 (pa_cons (pv 0) pa_nil))))), ?_⟩
    obtain ⟨b1, b2⟩ := ln_bounds ho h6 hl
    have b3 := sum_le b2
    refine ⟨⟨_, rfl⟩, _, rfl, p, x, r, rfl, hP, rk_lt hl, ho, h6, hl, fun l H2 s2 n2 h2 => ⟨_, l, lnP x r, rfl, rfl, .inl (SqL.of h2), ?_, k _ s2⟩⟩
    have : ("\n" : Str).length = 1 := by decide +kernel
    rw [this]
    omega
/-! the lines by the law's own words -/
def spLL (K : PySem.W.Frag) (n : Nat) : Sp := fun vs H Q _ => ∃ p x r, vs = [.ref p] ∧ PlV K H x r p ∧ rkR r < n ∧ okR 0 r ∧ r.length ≤ 6 ∧ LsOk (x :: lvR r) ∧ ∀ l H', Same H H' → H l = none → H' l = some (.lst ((lnP x r).map V.str)) → Q (.ref l) H'
theorem scL_lines : FnScope ["plan", "found", "stage", "line"] ["plan"] (defScope sL_lines) := ⟨rfl, rfl, rfl, by decide +kernel, rfl, by decide +kernel, by decide +kernel⟩
theorem d_ll0 (F : FnP K "_law_lines" "_law_lines" sL_lines f fd) (gm : mg "_law_lines" = some (.ref f)) : DefOk P w K mg base CX0 1 "_law_lines" ["plan"] [] (spLL K 0) := by
  refine ⟨f, fd, [], F.ok scL_lines (fun vs H Q E h => ?_) (fun cdv A outer s H vs Q E hr h => ?_), gm, F.kp, F.bindsN fun _ _ _ _ _ _ us hl => match us, hl with | [_], _ => rfl, .nil⟩
  · obtain ⟨_, _, _, rfl, _⟩ := h
    rfl
  · obtain ⟨_, _, _, _, _, z, _⟩ := h
    exact absurd z (Nat.not_lt_zero _)
theorem d_llS (n : Nat) (hn : n ≤ 100) (F : FnP K "_law_lines" "_law_lines" sL_lines f fd) (gm : mg "_law_lines" = some (.ref f)) (T : Tx K mg) (D_L_lines : DefOk P w K mg base CX0 (n + 1) "_law_lines" ["plan"] [] (spLL K n)) :
    DefOk P w K mg base CX0 (n + 1 + 1) "_law_lines" ["plan"] [] (spLL K (n + 1)) := by
  refine ⟨f, fd, [], F.ok (k := n + 1) scL_lines (fun vs H Q E h => ?_) (fun cdv A outer s H vs Q E hr h => ?_), gm, F.kp, F.bindsN fun _ _ _ _ _ _ us hl => match us, hl with | [_], _ => rfl, .nil⟩
  · obtain ⟨_, _, _, rfl, _⟩ := h
    rfl
  · obtain ⟨p, x, r, rfl, ⟨q, vs, a, b, c⟩, hk, ho, h6, hl, k⟩ := h
    refine ⟨_, PSs.nox (pss_cons (ps_set (i := 1) scL_lines.nd rfl (.inl rfl) (pe_lst (pa_cons (pe_op op_add_str pe_str (pe_ix ix_tup (pv 0) pe_int (fun _ _ => rfl))) pa_nil)))
  (pss_cons (ps_for PassesOwn.never rfl (pi_tup (pe_ix ix_tup (pv 0) pe_int (fun _ _ => rfl))) (pg_name (i := 2) scL_lines.nd rfl (.inl rfl))
  (pss_one (ps_if (pt_cmpR op_eq (pe_ix ix_tup (pv 2) pe_int (fun _ _ => rfl)) pe_str (nomark _)) (pss_one (ps_set (i := 1) scL_lines.nd rfl (.inl rfl) (pe_op op_cat (pe_op op_cat (pv 1) (pe_lst (pa_cons pe_str pa_nil))) (pe_lc (own := [("line", 3)]) (g := gName 3) (tt := tYes) (by rfl) scL_lines.nd (pi_list (pe_d D_L_lines (hr.mono (by omega)) pass0 (pa_cons (pe_ix ix_tup (pv 2) pe_int (fun _ _ => rfl)) pa_nil))) (blkOk_by (own := [("line", 3)]) (N := ["plan", "found", "stage", "line"]) (sc := defScope sL_lines) (by decide +kernel)) (fun _ _ _ _ _ => pg_name (i := 3) scL_lines.nd rfl (Or.inl rfl)) (fun _ _ _ _ _ => pts_nil) (fun _ _ _ _ _ => (pe_op op_add_str pe_str (pv 3)))))))
  (pss_one (ps_expr (pe_bm PySem.F.plainAttrs_list PySem.F.slot_list_append PySem.F.type_list_append mt_append (pv 1) (pa_cons (pe_ifExp (pt_cmpR op_eq (pe_callB call_len (by rfl) T.z_len PySem.boot_len (pa_cons (pv 2) pa_nil)) pe_int (nomark _)) (pe_ix ix_tup (pv 2) pe_int (fun _ _ => rfl)) (pe_op op_add_str (pe_op op_add_str (pe_ix ix_tup (pv 2) pe_int (fun _ _ => rfl)) pe_str) (pe_callTy (SkE.call_str_str.or call_str_int) (by rfl) T.z_str (by decide +kernel) (pa_cons (pe_ix ix_tup (pv 2) pe_int (fun _ _ => rfl)) pa_nil)))) pa_nil)))))))
  (pss_one (ps_ret (pv 1))))), ?_⟩
    have key : ∀ s ∈ sources, s.length = 1 := by decide +kernel
    have k1 := key x (hl.2 x (by simp))
    have l4 := hl.len
    rw [List.length_cons] at l4
    have hsz : ("from " : Str).length + x.length ≤ 1000 := by
      have e5 : ("from " : Str).length = 5 := by decide +kernel
      omega
    refine ⟨_, rfl, _, _, _, _, rfl, rfl, a, atI_nat (j := 0) rfl, _, _, rfl, rfl, szle hsz, szl rfl, fun fo hfo => ?_⟩
    have s1 := same_upd (o := .lst [.str (("from " : Str) ++ x)]) hfo
    refine ⟨_, rfl, _, _, _, _, rfl, rfl, sqT_same s1 a, atI_nat (j := 1) rfl, q, rfl, ⟨vs, sqT_same s1 b⟩, for_tup (K := K) (a := q) (xs := vs) (fun i σ H' => ∃ (fo : Addr) (done rest : List Sx) (us : List V) (c2 c3 : Option V), r = done ++ rest ∧ done.length = i ∧ vs.drop i = us ∧ RwV K H rest us ∧ okR (hgR 0 done) rest ∧ σ = [some (.ref p), some (.ref fo), c2, c3] ∧ H fo = none ∧ Same H H' ∧ H' fo = some (.lst ((lnP x done).map V.str)))
      ⟨fo, [], r, vs, none, none, rfl, rfl, rfl, c, by rw [hgR]; exact ho, rfl, hfo, s1, by rw [upd_same]; rfl⟩ (fun i σ H' _ ⟨_, _, _, _, _, _, _, _, _, _, _, _, _, z, _⟩ => sqT_same z b) ?_ ?_⟩
    · rintro i v σ H' hi ⟨fo0, done, rest, us, c2, c3, er, rfl, ed, hR, hO, rfl, hfo, s1, hf⟩
      obtain ⟨hlt, ev⟩ := List.getElem?_eq_some_iff.mp hi
      rw [List.drop_eq_getElem_cons hlt, ev] at ed
      cases rest with
      | nil =>
        rw [show us = [] from hR] at ed
        cases ed
      | cons y rest =>
        obtain ⟨v', us', e, hx, hr'⟩ := hR
        rw [← ed] at e
        cases e
        rw [okR] at hO
        have hy : y ∈ r := by rw [er]; simp
        have hkx : rkS y ≤ n := by
          have := rk_mem (r := r) (i := done.length) (s := y) (by rw [er, List.getElem?_append_right (Nat.le_refl _), Nat.sub_self]; rfl)
          omega
        have hly : LsOk (lvS y) := hl.sub ((lv_sub hy).trans (List.sublist_cons_self _ _))
        have b1 := lnS_len y _ hO.1
        have b2 := hly.len
        have b3 := lnR_len r 0 ho
        have b4 : (lnR done).length + (lnS y).length ≤ (lnR r).length := by
          have e : r = (done ++ [y]) ++ rest := by rw [er, List.append_assoc]; rfl
          have lnApp : ∀ (a b : List Sx), lnR (a ++ b) = lnR a ++ lnR b := by
            intro a b
            induction a with
            | nil => rw [lnR]; rfl
            | cons c a ih => rw [List.cons_append, lnR, lnR, ih, List.append_assoc]
          rw [e, lnApp, lnR_snoc, List.length_append, List.length_append]
          omega
        have b5 : (lnP x done).length + (lnS y).length ≤ 100 := by
          unfold lnP
          rw [List.length_cons]
          omega
        have next : ∀ (fo2 : Addr) (H2 : Hp) (c3 : Option V), H fo2 = none → Same H H2 → H2 fo2 = some (.lst ((lnP x done).map V.str ++ (lnS y).map V.str)) → ∃ (fo : Addr) (done2 rest2 : List Sx) (us : List V) (c2' c3' : Option V), r = done2 ++ rest2 ∧ done2.length = done.length + 1 ∧ vs.drop (done.length + 1) = us ∧ RwV K H rest2 us ∧ okR (hgR 0 done2) rest2 ∧ ([some (V.ref p), some (.ref fo2), some v, c3] : L2.St) = [some (.ref p), some (.ref fo), c2', c3'] ∧ H fo = none ∧ Same H H2 ∧ H2 fo = some (.lst ((lnP x done2).map V.str)) := by
          intro fo2 H2 c3 h1 h2 h3
          refine ⟨fo2, done ++ [y], rest, _, some v, c3, by rw [er, List.append_assoc]; rfl, by simp, rfl, hr', by rw [hgR_snoc]; exact hO.2, rfl, h1, h2, ?_⟩
          rw [h3, ← List.map_append]
          unfold lnP
          rw [lnR_snoc]
          rfl
        have hx1 := hx.kp (C := 0) (.of s1)
        have sp1 : (" " : Str).length = 1 := by decide +kernel
        have lenf : ((lnP x done).map V.str).length < 1000 := by
          rw [List.length_map]
          omega
        have next1 : ∀ l : Str, lnS y = [l] → ∃ (fo : Addr) (done2 rest2 : List Sx) (us : List V) (c2' c3' : Option V), r = done2 ++ rest2 ∧ done2.length = done.length + 1 ∧ vs.drop (done.length + 1) = us ∧ RwV K H rest2 us ∧ okR (hgR 0 done2) rest2 ∧ ([some (V.ref p), some (.ref fo0), some v, c3] : L2.St) = [some (.ref p), some (.ref fo), c2', c3'] ∧ H fo = none ∧ Same H (upd H' fo0 (.lst ((lnP x done).map V.str ++ [.str l]))) ∧ (upd H' fo0 (.lst ((lnP x done).map V.str ++ [.str l]))) fo = some (.lst ((lnP x done2).map V.str)) := by
          intro l el
          refine next _ _ _ hfo (same_updN s1 hfo) ?_
          rw [upd_same, el]
          rfl
        cases y with
        | nm w1 x1 =>
          obtain ⟨t, rfl, tA⟩ := hx1
          rw [okS] at hO
          have key : ∀ w ∈ named, w.length ≤ 8 := by decide +kernel
          have k1 := key w1 hO.1.1
          have k2 := nameB_len hO.1.2
          refine ⟨_, rfl, _, _, _, _, rfl, rfl, tA, atI_nat (j := 0) rfl, rfl, _, rfl, ?_⟩
          rw [sc_str, decide_eq_false (named_ne hO.1.1).2.1]
          refine ⟨_, rfl, .inl ⟨rfl, _, SqL.of hf⟩, _, rfl, _, _, rfl, .inr ⟨_, tA, rfl⟩, rfl, _, rfl, ?_⟩
          rw [show decide (V.int (([V.str w1, V.str x1] : List V).length : Nat) = V.int 1) = false from rfl]
          refine ⟨_, rfl, _, _, _, _, rfl, rfl, tA, atI_nat (j := 0) rfl, _, _, rfl, rfl, szle (by omega), ?_⟩
          refine ⟨_, rfl, _, _, _, _, rfl, rfl, tA, atI_nat (j := 1) rfl, .inl ⟨_, rfl, _, _, rfl, rfl, szle (by rw [str_len_app]; omega), ?_⟩⟩
          exact ⟨fo0, _, _, rfl, rfl, hf, szlt (Nat.le_of_lt lenf), next1 _ (by rw [lnS])⟩
        | nu w1 n1 =>
          obtain ⟨t, rfl, tA⟩ := hx1
          rw [okS] at hO
          have key : ∀ w ∈ counted, w.length ≤ 8 := by decide +kernel
          have k1 := key w1 hO.1.1
          have k2 := strI_len hO.1.2.1 hO.1.2.2
          refine ⟨_, rfl, _, _, _, _, rfl, rfl, tA, atI_nat (j := 0) rfl, rfl, _, rfl, ?_⟩
          rw [sc_str, decide_eq_false (numbered_ne hO.1.1).2.1]
          refine ⟨_, rfl, .inl ⟨rfl, _, SqL.of hf⟩, _, rfl, _, _, rfl, .inr ⟨_, tA, rfl⟩, rfl, _, rfl, ?_⟩
          rw [show decide (V.int (([V.str w1, V.int n1] : List V).length : Nat) = V.int 1) = false from rfl]
          refine ⟨_, rfl, _, _, _, _, rfl, rfl, tA, atI_nat (j := 0) rfl, _, _, rfl, rfl, szle (by omega), ?_⟩
          have lg : n1.natAbs.log2 < 1920 := by
            have h1 := hO.1.2.1
            have h4 := hO.1.2.2
            have : n1 = 1 ∨ n1 = 2 ∨ n1 = 3 ∨ n1 = 4 := by omega
            rcases this with rfl | rfl | rfl | rfl <;> decide
          refine ⟨_, rfl, _, _, _, _, rfl, rfl, tA, atI_nat (j := 1) rfl, .inr ⟨_, rfl, lg, _, _, rfl, rfl, szle (by rw [str_len_app]; show _ + (strI n1).length ≤ _; omega), ?_⟩⟩
          exact ⟨fo0, _, _, rfl, rfl, hf, szlt (Nat.le_of_lt lenf), next1 _ (by rw [lnS]; rfl)⟩
        | flat =>
          obtain ⟨t, rfl, tA⟩ := hx1
          refine ⟨_, rfl, _, _, _, _, rfl, rfl, tA, atI_nat (j := 0) rfl, rfl, _, rfl, ?_⟩
          rw [sc_str, decide_eq_false (by decide +kernel)]
          refine ⟨_, rfl, .inl ⟨rfl, _, SqL.of hf⟩, _, rfl, _, _, rfl, .inr ⟨_, tA, rfl⟩, rfl, _, rfl, ?_⟩
          rw [show decide (V.int (([V.str "flat"] : List V).length : Nat) = V.int 1) = true from rfl]
          exact ⟨_, rfl, _, _, _, _, rfl, rfl, tA, atI_nat (j := 0) rfl, fo0, _, _, rfl, rfl, hf, szlt (Nat.le_of_lt lenf), next1 _ (by rw [lnS])⟩
        | zip sr r1 =>
          obtain ⟨t, pp, qq, vs1, rfl, tA, tB, tC, tD⟩ := hx1
          rw [okS] at hO
          rw [rkS] at hkx
          rw [lvS] at hly
          refine ⟨_, rfl, _, _, _, _, rfl, rfl, tA, atI_nat (j := 0) rfl, rfl, _, rfl, ?_⟩
          rw [sc_str, decide_eq_true rfl]
          have b6 : (lnS (.zip sr r1)).length = (lnP sr r1).length + 1 := by
            rw [lnS, List.length_cons, List.length_map]
            rfl
          refine ⟨_, rfl, szl rfl, fun z1 hz1 => ⟨fo0, z1, _, _, rfl, rfl, same_upd hz1 _ _ hf, upd_same, szle (by rw [List.length_cons, List.length_nil]; omega), fun z2 hz2 => ?_⟩⟩
          have t1 := same_upd (o := .lst [.str "zip"]) hz1
          have t2 := same_upd (o := .lst ((lnP x done).map V.str ++ [.str "zip"])) hz2
          have st := same_trans t1 t2
          refine ⟨_, rfl, _, _, _, _, rfl, rfl, sqT_same st tA, atI_nat (j := 1) rfl, pp, sr, r1, rfl, ⟨qq, vs1, sqT_same st tB, sqT_same st tC, tD.kp (C := 0) (.of st)⟩, by omega, hO.1.2, hO.1.1, hly, fun l H2 s2 nl h2 => ⟨l, rfl, ⟨_, SqL.of h2⟩, fun D hD => ?_⟩⟩
          have w1 := (ln_bounds hO.1.2 hO.1.1 hly).2
          have w2 := (ln_bounds hO.1.2 hO.1.1 hly).1
          refine lc_one walk_list 3 (fun i => V.str (("  " : Str) ++ (lnP sr r1).getD i Str.empty)) (by rw [List.length_map]; omega) (fun _ => SqL.of (same_upd hD _ _ h2)) (fun _ => rfl) (fun _ _ _ _ y => y.1) ?_ ?_
          · rintro i y l' R hi ⟨_, hy⟩ hR
            rw [List.getElem?_map] at hy
            obtain ⟨z, hz, rfl⟩ := Option.map_eq_some_iff.mp hy
            rw [List.getD_eq_getElem?_getD, hz] at hR
            have e2 : ("  " : Str).length = 2 := by decide +kernel
            have hz' := w1 z (List.mem_of_getElem? hz)
            exact ⟨_, rfl, _, _, rfl, rfl, szle (by omega), hR⟩
          · have e : (List.range ((lnP sr r1).map V.str).length).map (fun i => V.str (("  " : Str) ++ (lnP sr r1).getD i Str.empty)) = ((lnP sr r1).map fun l => ("  " : Str) ++ l).map V.str := by
              rw [List.length_map, List.map_map]
              refine List.ext_getElem? fun i => ?_
              rw [List.getElem?_map, List.getElem?_map]
              by_cases hi : i < (lnP sr r1).length
              · rw [List.getElem?_range hi, List.getElem?_eq_getElem hi]
                simp [List.getD_eq_getElem?_getD, List.getElem?_eq_getElem hi]
              · rw [List.getElem?_eq_none (by simpa using hi), List.getElem?_eq_none (by simpa using hi)]
                rfl
            rw [e]
            have sD := same_upd (o := .lst (((lnP sr r1).map fun l => ("  " : Str) ++ l).map V.str)) hD
            have hz2' : (upd (upd H' z1 (.lst [.str "zip"])) z2 (.lst ((lnP x done).map V.str ++ [.str "zip"]))) z2 = some (.lst ((lnP x done).map V.str ++ [.str "zip"])) := upd_same
            refine ⟨z2, D, _, _, rfl, rfl, sD _ _ (s2 _ _ hz2'), upd_same, szle (by rw [List.length_append, List.length_map, List.length_map, List.length_map, List.length_cons, List.length_nil]; omega), fun z3 hz3 => ?_⟩
            have s3 := same_upd (o := .lst ((lnP x done).map V.str ++ [.str "zip"] ++ ((lnP sr r1).map fun l => ("  " : Str) ++ l).map V.str)) hz3
            have sAll := same_trans s1 (same_trans st (same_trans s2 (same_trans sD s3)))
            refine next z3 _ _ (none_same (same_trans s1 (same_trans st (same_trans s2 sD))) hz3) sAll ?_
            rw [upd_same, lnS, List.append_assoc]
            rfl
    · rintro σ H' ⟨fo, done, rest, us, c2, c3, er, ed, eu, hR, hO, rfl, hfo, s1, hf⟩
      rw [List.drop_length] at eu
      subst eu
      cases rest with
      | nil =>
        rw [List.append_nil] at er
        subst er
        exact ⟨_, rfl, k fo _ s1 hfo hf⟩
      | cons y rest =>
        obtain ⟨_, _, e, _⟩ := hR
        cases e
theorem d_lls (F : FnP K "_law_lines" "_law_lines" sL_lines f fd) (gm : mg "_law_lines" = some (.ref f)) (T : Tx K mg) : ∀ n, n ≤ 100 → DefOk P w K mg base CX0 (n + 1) "_law_lines" ["plan"] [] (spLL K n)
  | 0, _ => d_ll0 F gm
  | n + 1, h => d_llS n (by omega) F gm T (d_lls F gm T n (by omega))
/-! programs that are equal -/
def REq (C : Addr) (K : PySem.W.Frag) (n : Nat) (a b : Addr) (H : Hp) : Prop := ∃ x r, PgP C K H x r a ∧ PgP C K H x r b ∧ rkR r < n
theorem req_mon {C : Addr} {n : Nat} : ∀ a b H H', Ext H H' → REq C K n a b H → REq C K n a b H' := fun a b H H' e ⟨x, r, h1, h2, h3⟩ => ⟨x, r, h1.kp (C := C) (.of e), h2.kp (C := C) (.of e), h3⟩
abbrev DSt (C : Addr) (K : PySem.W.Frag) (n : Nat) : Eqv := DTup K (fun x y H => DFlat x y H ∨ DIns C (REq C K n) x y H)
theorem stp_eq {C : Addr} {n : Nat} {H : Hp} {s : Sx} {v1 v2 : V} (h1 : StP C K H s v1) (h2 : StP C K H s v2) (hk : rkS s ≤ n) : DSt C K n v1 v2 H := by
  have fl : ∀ x : Str, DFlat (.str x) (.str x) H := fun x => ⟨rfl, rfl, by simp [eqV]⟩
  cases s with
  | nm w x =>
    obtain ⟨t1, rfl, a1⟩ := h1
    obtain ⟨t2, rfl, a2⟩ := h2
    exact ⟨t1, t2, _, _, rfl, rfl, a1, a2, .cons (.inl (fl w)) (.cons (.inl (fl x)) .nil)⟩
  | nu w m =>
    obtain ⟨t1, rfl, a1⟩ := h1
    obtain ⟨t2, rfl, a2⟩ := h2
    exact ⟨t1, t2, _, _, rfl, rfl, a1, a2, .cons (.inl (fl w)) (.cons (.inl ⟨rfl, rfl, by simp [eqV]⟩) .nil)⟩
  | flat =>
    obtain ⟨t1, rfl, a1⟩ := h1
    obtain ⟨t2, rfl, a2⟩ := h2
    exact ⟨t1, t2, _, _, rfl, rfl, a1, a2, .cons (.inl (fl _)) .nil⟩
  | zip sr r =>
    obtain ⟨t1, p1, vs1, rfl, a1, b1, c1⟩ := h1
    obtain ⟨t2, p2, vs2, rfl, a2, b2, c2⟩ := h2
    rw [rkS] at hk
    obtain ⟨d1, _, _, _, _, _, g1, _⟩ := id b1
    obtain ⟨d2, _, _, _, _, _, g2, _⟩ := id b2
    exact ⟨t1, t2, _, _, rfl, rfl, a1, a2, .cons (.inl (fl _)) (.cons (.inr ⟨p1, p2, _, _, _, _, rfl, rfl, g1, g2, sr, r, ⟨vs1, b1, c1⟩, ⟨vs2, b2, c2⟩, by omega⟩) .nil)⟩
theorem rwp_eq {C : Addr} {n : Nat} {H : Hp} : ∀ {r : List Sx} {vs1 vs2 : List V}, RwP C K H r vs1 → RwP C K H r vs2 → rkR r ≤ n → Prs (DSt C K n) vs1 vs2 H
  | [], _, _, h1, h2, _ => by
    rw [show _ = [] from h1, show _ = [] from h2]
    exact .nil
  | s :: r, _, _, ⟨v1, u1, e1, a1, b1⟩, ⟨v2, u2, e2, a2, b2⟩, hk => by
    subst e1 e2
    rw [rkR] at hk
    exact .cons (stp_eq a1 a2 (by omega)) (rwp_eq b1 b2 (by omega))
structure EqF (K : PySem.W.Frag) (C : Addr) (f : Addr) : Prop where
  hs : PySem.W.findIn K (.ref C) "__eq__" = some (some (.ref f))
  hf : PySem.W.isFn K (.ref f) = true
  hne : PySem.W.findIn K (.ref C) "__ne__" = some (some (.builtin "object.__ne__"))
  hm : PySem.W.subIn K (.ref C) (.type "object") = some true
theorem scProgram_eq : FnScope ["self", "other"] ["self", "other"] (defScope sProgram_eq) := ⟨rfl, rfl, rfl, by decide +kernel, rfl, by decide +kernel, by decide +kernel⟩
theorem e_prog0 (F : FnP K "__eq__" "Program.__eq__" sProgram_eq f fd) : FnOk P w K mg base CX0 1 f fd ["self", "other"] (spEq (REq (He.ga K "Program") K 0)) := by
  refine F.ok scProgram_eq (fun vs H Q E h => ?_) (fun cdv A outer s H vs Q E hr h => ?_)
  · obtain ⟨_, _, rfl, _⟩ := h
    rfl
  · obtain ⟨_, _, _, ⟨_, _, _, _, z⟩, _⟩ := h
    exact absurd z (Nat.not_lt_zero _)
theorem e_progS (n : Nat) (F : FnP K "__eq__" "Program.__eq__" sProgram_eq f fd) (T : Ty P w K mg base) (EF : EqF K (He.ga K "Program") f) (P_source : PropOk P w K mg base CX0 1 (He.ga K "Program") "source" (spSourceP (He.ga K "Program") K))
    (FE : FnOk P w K mg base CX0 (3 * n + 1) f fd ["self", "other"] (spEq (REq (He.ga K "Program") K n))) : FnOk P w K mg base CX0 (3 * (n + 1) + 1) f fd ["self", "other"] (spEq (REq (He.ga K "Program") K (n + 1))) := by
  obtain ⟨hs, hfn, _, _⟩ := EF
  have hbE : Binds K fd ["self", "other"] [] := F.bindsN fun _ _ _ _ _ _ us hl => match us, hl with | [_, _], _ => rfl
  refine F.ok (k := 3 * n + 1 + 2) scProgram_eq (fun vs H Q E h => ?_) (fun cdv A outer s H vs Q E hr h => ?_)
  · obtain ⟨_, _, rfl, _⟩ := h
    rfl
  · obtain ⟨a, b, rfl, ⟨x, r, hA, hB, hk⟩, k⟩ := h
    refine ⟨_, PSs.nox (pss_one (ps_ret (pe_and (pe_callB call_isi (by rfl) T.z_isinstance (by decide +kernel) (pa_cons (pv 1) (pa_cons (pe_glob (v := .ref _) (by rfl) T.g_Program rfl) pa_nil))) (pe_and (pe_cmpR op_eq (pe_pp P_source (hr.mono (by omega)) pass0 (pv 0)) (pe_pp P_source (hr.mono (by omega)) pass0 (pv 1)) (nomark _)) (pe_one (pe_cmpR (op_eqG (rcG_tup (mon_tup (Mon.or mon_flat (mon_ins req_mon))) (eqG_tup (Mon.or mon_flat (mon_ins req_mon)) (EqG.or (eqG_flat.mono (Nat.zero_le _)) (eqG_ins (E := E0) FE hs hfn hbE pass0)))) hr) (pe_fld (pv 0) rfl) (pe_fld (pv 1) rfl) (nomark _))))))), ?_⟩
    obtain ⟨vs1, b1, c1⟩ := hA
    obtain ⟨vs2, b2, c2⟩ := hB
    obtain ⟨d1, _, _, r1, _, _, g1, _, _, t1, _⟩ := id b1
    obtain ⟨d2, _, _, r2, _, _, g2, _, _, t2, _⟩ := id b2
    refine ⟨_, rfl, _, _, _, _, true, rfl, .own _, ty_prog T.pc b2, T.pc.kPP, _, rfl, ?_⟩
    refine ⟨_, rfl, _, _, _, rfl, g1, a, _, _, _, rfl, b1, _, rfl, _, _, _, rfl, g2, b, _, _, _, rfl, b2, rfl, _, rfl, ?_⟩
    rw [decide_eq_true rfl]
    refine ⟨_, rfl, _, _, _, _, _, rfl, g1, T.pc.cl, T.pc.nR, (lookup_2).trans ((lookup_2).trans lookup_1), _, rfl, _, _, _, _, _, rfl, g2, T.pc.cl, T.pc.nR, (lookup_2).trans ((lookup_2).trans lookup_1), ?_, k⟩
    exact ⟨r1, r2, vs1, vs2, rfl, rfl, t1, t2, rwp_eq c1 c2 (by omega)⟩
theorem e_prog (F : FnP K "__eq__" "Program.__eq__" sProgram_eq f fd) (T : Ty P w K mg base) (EF : EqF K (He.ga K "Program") f) (P_source : PropOk P w K mg base CX0 1 (He.ga K "Program") "source" (spSourceP (He.ga K "Program") K)) :
    ∀ n, FnOk P w K mg base CX0 (3 * n + 1) f fd ["self", "other"] (spEq (REq (He.ga K "Program") K n))
  | 0 => e_prog0 F
  | n + 1 => e_progS n F T EF P_source (e_prog F T EF P_source n)
end

end K80
namespace K80
open PySem PySem.Spec PyProof.Rows L2 Lw
/-! ### the reader -/
section
variable {P : Program} {w : World} {K : PySem.W.Frag} {mg : Str → Option Value} {base : Heap} {f : Addr} {fd : FuncData}
def spRInit (C : Addr) : Sp := fun vs H Q _ => ∃ a dx, vs = [.ref a] ∧ H a = some (.ins C dx []) ∧ ∀ tk lv H', But [a] H H' → H tk = none → H lv = none → tk ≠ lv → H' a = some (.ins C dx [("taken", .ref tk), ("levels", .ref lv)]) → H' tk = some (.lst []) → H' lv = some (.lst []) → Q .non H'
theorem scReader_init : FnScope ["self"] ["self"] (defScope sReader_init) := ⟨rfl, rfl, rfl, by decide +kernel, rfl, by decide +kernel, by decide +kernel⟩
theorem i_Reader (F : FnP K "__init__" "Reader.__init__" sReader_init f fd) (T : Ty P w K mg base) : FnOk P w K mg base CX0 1 f fd ["self"] (spRInit (He.ga K "Reader")) ∧ Binds K fd ["self"] [] := by
  refine ⟨F.ok scReader_init (fun vs H Q E h => ?_) (fun cdv A outer s H vs Q E hr h => ?_), F.bindsN fun _ _ _ _ _ _ us hl => match us, hl with | [_], _ => rfl⟩
  · obtain ⟨_, _, rfl, _⟩ := h
    rfl
  · obtain ⟨a, dx, rfl, hA, k⟩ := h
    refine ⟨_, PSs.nox (pss_cons (ps_fld (pv 0) (pe_lst pa_nil) rfl)
  (pss_one (ps_fld (pv 0) (pe_lst pa_nil) rfl))), ?_⟩
    refine ⟨szl rfl, fun tk ht => ⟨_, rfl, a, _, dx, _, rfl, same_upd ht _ _ hA, T.rc.cl, T.rc.nT, (by decide), szl rfl, fun lv hl => ⟨_, rfl, a, _, dx, _, rfl, same_upd hl _ _ upd_same, T.rc.cl, T.rc.nL, (by show 1 < 1000; decide), ?_⟩⟩⟩
    have na : tk ≠ a := by
      rintro rfl
      rw [hA] at ht
      cases ht
    have nl : lv ≠ a := by
      rintro rfl
      rw [upd_same] at hl
      cases hl
    have nt : lv ≠ tk := by
      rintro rfl
      rw [upd_ne nl, upd_same] at hl
      cases hl
    rw [upd_ne nl, upd_ne nt] at hl
    exact k tk lv _ (((((But.refl).updN ht).trans (.upd (by simp))).updN hl).trans (.upd (by simp))) ht hl nt.symm upd_same (by rw [upd_ne na, upd_ne nt.symm, upd_ne na, upd_same]) (by rw [upd_ne nl, upd_same])
def spBegin (CR C : Addr) (K : PySem.W.Frag) : Sp := fun vs H Q _ => ∃ rd dx tk lv S tak es s, vs = [.ref rd, .str (("from " : Str) ++ s)] ∧ RdH CR C K rd dx tk lv H ⟨S, false, tak⟩ es ∧ s ∈ sources ∧ s ∉ tak ∧ tak.length ≤ 10 ∧ S.length ≤ 10 ∧
  ∀ H', StepR CR C K rd dx tk lv H es ⟨(s, []) :: S, false, tak ++ [s]⟩ H' → Q (.bl true) H'
theorem scReader_begin : FnScope ["self", "line", "source"] ["self", "line"] (defScope sReader_begin) := ⟨rfl, rfl, rfl, by decide +kernel, rfl, by decide +kernel, by decide +kernel⟩
theorem m_begin (F : FnP K "begin" "Reader.begin" sReader_begin f fd) (hm : Meth K (He.ga K "Reader") "begin" f) (T : Ty P w K mg base) : MethOk P w K mg base CX0 1 (He.ga K "Reader") "begin" ["self", "line"] (spBegin (He.ga K "Reader") (He.ga K "Program") K) := by
  refine ⟨f, fd, F.ok scReader_begin (fun vs H Q E h => ?_) (fun cdv A outer s H vs Q E hr h => ?_), hm, F.bindsN fun _ _ _ _ _ _ us hl => match us, hl with | [_, _], _ => rfl, T.rc.cl⟩
  · obtain ⟨_, _, _, _, _, _, _, _, rfl, _⟩ := h
    rfl
  · obtain ⟨rd, dx, tk, lv, S, tak, es, s, rfl, R, hs, hn, lt, lS, k⟩ := h
    refine ⟨_, PSs.nox (pss_cons (ps_set (i := 2) scReader_begin.nd rfl (.inl rfl) (pe_slice sl_str (pv 1) (po_some pe_int) po_none))
  (pss_cons (ps_if (PW.pt (pw_or (pt_cmpR op_ne (pe_slice sl_str (pv 1) po_none (po_some pe_int)) pe_str (nomark _)) (pw_or (pt_cmpR op_notIn_seq (pv 2) (pe_tup (pa_cons pe_str (pa_cons pe_str (pa_cons pe_str (pa_cons pe_str pa_nil))))) (by rfl)) (pw_or1 (pt_cmpR op_in_seq (pv 2) (pe_fld (pv 0) rfl) (by rfl)))))) (pss_one (ps_ret pe_bl))
  pss_nil)
  (pss_cons (ps_expr (pe_bm PySem.F.plainAttrs_list PySem.F.slot_list_append PySem.F.type_list_append mt_append (pe_fld (pv 0) rfl) (pa_cons (pv 2) pa_nil)))
  (pss_cons (ps_expr (pe_bm PySem.F.plainAttrs_list PySem.F.slot_list_append PySem.F.type_list_append mt_append (pe_fld (pv 0) rfl) (pa_cons (pe_tup (pa_cons (pv 2) (pa_cons (pe_lst pa_nil) pa_nil))) pa_nil)))
  (pss_one (ps_ret pe_bl)))))), ?_⟩
    have e5 : ((("from " : Str).length : Nat) : Int) = 5 := by decide +kernel
    have e5n : ("from " : Str).length = 5 := by decide +kernel
    have c1 := cut_suf ("from " : Str) s
    have c2 := cut_pre ("from " : Str) s
    rw [e5] at c1 c2
    have key : ∀ s ∈ sources, s.length = 1 := by decide +kernel
    have k1 := key s hs
    have hz : (("from " : Str) ++ s).length ≤ 1000 := by rw [str_len_app]; omega
    refine ⟨_, rfl, _, rfl, _, rfl, szle hz, ?_⟩
    rw [c1]
    refine ⟨_, rfl, _, rfl, _, rfl, szle hz, rfl, _, rfl, ?_⟩
    rw [c2, decide_eq_true rfl]
    refine ⟨_, rfl, szl rfl, fun t0 ht0 => ⟨t0, sources.map V.str, rfl, .inr (SqT.of upd_same), rfl, all_str _, _, rfl, ?_⟩⟩
    rw [inV_str, decide_eq_true hs]
    have s0 := same_upd (o := .tup (sources.map V.str)) ht0
    have R1 := R.same s0
    have k1 : ∀ H', StepR (He.ga K "Reader") (He.ga K "Program") K rd dx tk lv (upd H t0 (.tup (sources.map V.str))) es ⟨(s, []) :: S, false, tak ++ [s]⟩ H' → Q (.bl true) H' := fun H' h => k H' (.of s0 h)
    have e0 : (upd H t0 (.tup (sources.map V.str))) = (upd H t0 (.tup [.str "a", .str "b", .str "c", .str "d"])) := rfl
    rw [e0] at R1 k1
    clear k s0
    generalize (upd H t0 (.tup [.str "a", .str "b", .str "c", .str "d"])) = H1 at R1 k1 ⊢
    obtain ⟨n1, n2, n3, n4⟩ := R1.ne
    refine ⟨_, rfl, _, rfl, rd, _, dx, _, _, rfl, R1.hR, T.rc.cl, T.rc.nT, lookup_1, tk, _, rfl, .inl (SqL.of R1.hT), rfl, all_str _, _, rfl, ?_⟩
    rw [inV_str, decide_eq_false hn]
    refine ⟨_, rfl, rd, _, dx, _, _, rfl, R1.hR, T.rc.cl, T.rc.nT, lookup_1, .inl ⟨rfl, _, SqL.of R1.hT⟩, _, rfl, tk, _, _, rfl, rfl, R1.hT, szlt (by rw [List.length_map]; show tak.length ≤ _; omega), ?_⟩
    have hR2 : (upd H1 tk (.lst (tak.map V.str ++ [V.str s]))) rd = some (.ins (He.ga K "Reader") dx [("taken", .ref tk), ("levels", .ref lv)]) := by rw [upd_ne n1]; exact R1.hR
    have hV2 : (upd H1 tk (.lst (tak.map V.str ++ [V.str s]))) lv = some (.lst ((es.reverse.map fun e => V.ref e.1) ++ [])) := by rw [upd_ne n3.symm]; exact R1.hV
    have le := R1.hL.len
    have hlen : ((es.reverse.map fun e => V.ref e.1) ++ ([] : List V)).length ≤ 1000 := by
      rw [List.append_nil, List.length_map, List.length_reverse, le]
      show S.length ≤ _
      omega
    refine ⟨_, rfl, rd, _, dx, _, _, rfl, hR2, T.rc.cl, T.rc.nL, (lookup_2).trans lookup_1, .inl ⟨rfl, _, SqL.of hV2⟩, _, rfl, szl rfl, fun l hl => ⟨szl rfl, fun t ht => ⟨lv, (es.reverse.map fun e => V.ref e.1) ++ [], _, rfl, rfl, ?_, szlt hlen, ?_⟩⟩⟩
    · exact same_upd ht _ _ (same_upd hl _ _ hV2)
    · exact k1 _ (step_begin R1 hl ht)
def spClose (CR C : Addr) (K : PySem.W.Frag) : Sp := fun vs H Q _ => ∃ rd dx tk lv x1 r1 x2 r2 S tak es, vs = [.ref rd] ∧ RdH CR C K rd dx tk lv H ⟨(x1, r1) :: (x2, r2) :: S, false, tak⟩ es ∧ okR 0 r1 ∧ r1.length ≤ 6 ∧ LsOk (x1 :: lvR r1) ∧ r2.length ≤ 5 ∧ S.length ≤ 10 ∧
  ∀ H', StepR CR C K rd dx tk lv H es ⟨(x2, r2 ++ [.zip x1 r1]) :: S, false, tak⟩ H' → Q .non H'
theorem scReader_close : FnScope ["self", "source", "stages"] ["self"] (defScope sReader_close) := ⟨rfl, rfl, rfl, by decide +kernel, rfl, by decide +kernel, by decide +kernel⟩
theorem m_close (F : FnP K "close" "Reader.close" sReader_close f fd) (hm : Meth K (He.ga K "Reader") "close" f) (T : Ty P w K mg base) (G_Program : MakeOk P w K mg base (L2.CX P w) 4 (He.ga K "Program") "Program" ["self", "source", "stages"] [] (spInit (He.ga K "Program") K)) :
    MethOk P w K mg base CX0 6 (He.ga K "Reader") "close" ["self"] (spClose (He.ga K "Reader") (He.ga K "Program") K) := by
  refine ⟨f, fd, F.ok scReader_close (fun vs H Q E h => ?_) (fun cdv A outer s H vs Q E hr h => ?_), hm, F.bindsN fun _ _ _ _ _ _ us hl => match us, hl with | [_], _ => rfl, T.rc.cl⟩
  · obtain ⟨_, _, _, _, _, _, _, _, _, _, _, rfl, _⟩ := h
    rfl
  · obtain ⟨rd, dx, tk, lv, x1, r1, x2, r2, S, tak, es, rfl, R, ho, h6, hl, h5, lS, k⟩ := h
    refine ⟨_, PSs.nox (pss_cons (ps_asg (pe_bm0 PySem.F.plainAttrs_list PySem.F.slot_list_pop PySem.F.type_list_pop mt_pop (pe_fld (pv 0) rfl)) (pg_tup rfl (pgs_cons (pg_name (i := 1) scReader_close.nd rfl (.inl rfl)) (pgs_cons (pg_name (i := 2) scReader_close.nd rfl (.inl rfl)) pgs_nil))))
  (pss_one (ps_expr (pe_bm PySem.F.plainAttrs_list PySem.F.slot_list_append PySem.F.type_list_append mt_append (pe_ix ix_tup (pe_ix ix_list (pe_fld (pv 0) rfl) (pe_un un_neg pe_int) (fun _ _ => rfl)) pe_int (fun _ _ => rfl)) (pa_cons (pe_tup (pa_cons pe_str (pa_cons (pe_mk G_Program (hr.mono (by decide)) (passX rfl rfl) (pa_cons (pv 1) (pa_cons (pv 2) pa_nil))) pa_nil))) pa_nil))))), ?_⟩
    obtain ⟨t1, l1, es1, rfl, g1, ⟨vs1, g2, g3⟩, t2, l2, es2, rfl, f1, ⟨vs2, f2, f3⟩, f4⟩ := id R.hL
    obtain ⟨n1, n2, n3, n4⟩ := R.ne
    have le := f4.len
    have hV : H lv = some (.lst ((es2.reverse.map fun e => V.ref e.1) ++ [.ref t2] ++ [.ref t1])) := by
      rw [R.hV]
      simp
    have hxs : ∀ L : List V, (L ++ [V.ref t2] ++ [V.ref t1])[(L ++ [V.ref t2] ++ [V.ref t1]).length - 1]? = some (V.ref t1) := by
      intro L
      simp
    have hdl : ∀ L : List V, (L ++ [V.ref t2] ++ [V.ref t1]).dropLast = L ++ [V.ref t2] := fun L => List.dropLast_concat
    refine ⟨_, rfl, rd, _, dx, _, _, rfl, R.hR, T.rc.cl, T.rc.nL, (lookup_2).trans lookup_1, .inl ⟨rfl, _, SqL.of hV⟩, lv, _, _, rfl, rfl, hV, hxs _, ?_⟩
    rw [hdl]
    have m1 := n4 (t1, l1) (by simp)
    have m2 := n4 (t2, l2) (by simp)
    have n12 : l1 ≠ l2 := by
      have nd := R.nd
      have q := List.nodup_cons.mp (List.nodup_cons.mp (List.nodup_cons.mp nd).2).2
      intro z
      exact q.1 (by rw [z]; simp)
    have b1 : But [lv] H (upd H lv (.lst ((es2.reverse.map fun e => V.ref e.1) ++ [V.ref t2]))) := .upd (by simp)
    have kp1 : KP (He.ga K "Program") H (upd H lv (.lst ((es2.reverse.map fun e => V.ref e.1) ++ [V.ref t2]))) := .upd R.hV id
    have v1 : (upd H lv (.lst ((es2.reverse.map fun e => V.ref e.1) ++ [V.ref t2]))) lv = some (.lst ((es2.reverse.map fun e => V.ref e.1) ++ [V.ref t2])) := upd_same
    have nv1 : ∀ a, (upd H lv (.lst ((es2.reverse.map fun e => V.ref e.1) ++ [V.ref t2]))) a = none → H a = none := by
      intro a ha
      by_cases z : a = lv
      · rw [z, upd_same] at ha; cases ha
      · rw [upd_ne z] at ha; exact ha
    generalize (upd H lv (.lst ((es2.reverse.map fun e => V.ref e.1) ++ [V.ref t2]))) = H1 at b1 kp1 v1 nv1 ⊢
    have hR1 := b1 _ _ (by simpa using n2) R.hR
    have g1' := sqT_kp kp1 g1
    have f1' := sqT_kp kp1 f1
    have g2' := b1 _ _ (by simpa using m1.2.1) g2
    have f2' := b1 _ _ (by simpa using m2.2.1) f2
    refine ⟨t1, _, rfl, g1', rfl, _, _, rfl, _, _, rfl, rfl, ?_⟩
    have lvs1 := g3.len
    have lvs2 := f3.len
    have q1 := run_ok (n := 0) (pre := []) (d := 0) (L := [x1]) (RwP.kp kp1 _ g3) ho hl.1
    refine ⟨_, rfl, rd, _, dx, _, _, rfl, hR1, T.rc.cl, T.rc.nL, (lookup_2).trans lookup_1, _, rfl, _, _, _, _, rfl, rfl, SqL.of v1, atI_last _ _, _, _, _, _, rfl, rfl, f1', atI_nat (j := 1) rfl, .inl ⟨rfl, _, SqL.of f2'⟩, _, rfl, _, rfl, ?_⟩
    intro a0 dx0 ha0 hd0 hn0
    refine rd_prog (Q := fun q H2 => ([V.str "zip", V.ref q]).length ≤ sizeLine ∧ ∀ p, H2 p = none → rAppend (.ref l2) [.ref p] (upd H2 p (.tup [.str "zip", .ref q])) fun _ H' => Q .non H') (hl.2 x1 (by simp)) (SqL.of g2') (by omega) q1 (fun q H2 s2 nq hI => ?_) a0 dx0 ha0 hd0 hn0
    refine ⟨szl rfl, fun t ht => ?_⟩
    have s3 := same_upd (o := .tup [.str "zip", .ref q]) ht
    refine ⟨l2, vs2, _, rfl, rfl, s3 _ _ (s2 _ _ f2'), szlt (by omega), ?_⟩
    have s23 := same_trans s2 s3
    have b5 : But (lv :: l2 :: []) H (upd (upd H2 t (.tup [.str "zip", .ref q])) l2 (.lst (vs2 ++ [.ref t]))) := ((b1.mono (by simp)).trans (.of s23)).trans (.upd (by simp))
    have kpf : KP (He.ga K "Program") H1 (upd (upd H2 t (.tup [.str "zip", .ref q])) l2 (.lst (vs2 ++ [.ref t]))) := (KP.of s23).trans (.upd (s23 _ _ f2') id)
    have kpf2 : KP (He.ga K "Program") H2 (upd (upd H2 t (.tup [.str "zip", .ref q])) l2 (.lst (vs2 ++ [.ref t]))) := (KP.of s3).trans (.upd (s23 _ _ f2') id)
    refine k _ (step_top (st := [(x1, r1)]) (es1 := [(t1, l1)]) (es2 := es2) (t := t2) (l := l2) (x := x2) (r := r2) (S := S) (pend := false) (pend' := false) R rfl rfl b5 ?_ ?_ upd_same ?_)
    · intro a ha
      by_cases z : a = l2
      · rw [z, upd_same] at ha; cases ha
      · rw [upd_ne z] at ha
        exact nv1 a (none_same s23 ha)
    · rw [upd_ne m2.2.1.symm]
      have := s23 _ _ v1
      rw [this]
      simp
    · refine RwP.snoc (RwP.kp (kp1.trans kpf) _ f3) ?_
      rw [StP]
      refine ⟨t, q, vs1, rfl, SqT.of ?_, hI.kp kpf2, RwP.kp (kp1.trans kpf) _ g3⟩
      rw [upd_ne, upd_same]
      rintro rfl
      rw [s2 _ _ f2'] at ht
      cases ht
def spPut (CR C : Addr) (K : PySem.W.Frag) : Sp := fun vs H Q _ => ∃ rd dx tk lv x r S tak es s v, vs = [.ref rd, v] ∧ RdH CR C K rd dx tk lv H ⟨(x, r) :: S, false, tak⟩ es ∧ StP C K H s v ∧ okR 0 (r ++ [s]) ∧ r.length ≤ 5 ∧ LsOk (x :: lvR (r ++ [s])) ∧ S.length ≤ 10 ∧
  ∀ H', StepR CR C K rd dx tk lv H es ⟨(x, r ++ [s]) :: S, false, tak⟩ H' → Q (.bl true) H'
theorem scReader_put : FnScope ["self", "stage", "source", "stages"] ["self", "stage"] (defScope sReader_put) := ⟨rfl, rfl, rfl, by decide +kernel, rfl, by decide +kernel, by decide +kernel⟩
theorem m_put (F : FnP K "put" "Reader.put" sReader_put f fd) (hm : Meth K (He.ga K "Reader") "put" f) (T : Ty P w K mg base) (G_Program : MakeOk P w K mg base (L2.CX P w) 4 (He.ga K "Program") "Program" ["self", "source", "stages"] [] (spInit (He.ga K "Program") K)) :
    MethOk P w K mg base CX0 6 (He.ga K "Reader") "put" ["self", "stage"] (spPut (He.ga K "Reader") (He.ga K "Program") K) := by
  obtain ⟨tM, gMOS⟩ := T.g_MOST_STAGES
  refine ⟨f, fd, F.ok scReader_put (fun vs H Q E h => ?_) (fun cdv A outer s H vs Q E hr h => ?_), hm, F.bindsN fun _ _ _ _ _ _ us hl => match us, hl with | [_, _], _ => rfl, T.rc.cl⟩
  · obtain ⟨_, _, _, _, _, _, _, _, _, _, _, rfl, _⟩ := h
    rfl
  · obtain ⟨rd, dx, tk, lv, x, r, S, tak, es, s, v, rfl, R, hv, ho, h5, hl, lS, k⟩ := h
    refine ⟨_, PSs.nox (pss_cons (ps_asg (pe_ix ix_list (pe_fld (pv 0) rfl) (pe_un un_neg pe_int) (fun _ _ => rfl)) (pg_tup rfl (pgs_cons (pg_name (i := 2) scReader_put.nd rfl (.inl rfl)) (pgs_cons (pg_name (i := 3) scReader_put.nd rfl (.inl rfl)) pgs_nil))))
  (pss_cons (ps_if (PW.pt (pw_or (pt_cmpR op_isN (pv 1) pe_non (nomark _)) (pw_or1 (pt_cmpR op_ge (pe_callB call_len (by rfl) T.z_len PySem.boot_len (pa_cons (pv 3) pa_nil)) (pe_glob (v := .int 6) (by rfl) gMOS ⟨_, rfl⟩) (nomark _))))) (pss_one (ps_ret pe_bl))
  pss_nil)
  (pss_cons (ps_try_thru0 (pss_one (ps_expr (pe_mk G_Program (hr.mono (by decide)) (passX rfl rfl) (pa_cons (pv 2) (pa_cons (pe_lst (StX.pa_star (pv 3) (pa_cons (pv 1) pa_nil))) pa_nil))))))
  (pss_cons (ps_expr (pe_bm PySem.F.plainAttrs_list PySem.F.slot_list_append PySem.F.type_list_append mt_append (pv 3) (pa_cons (pv 1) pa_nil)))
  (pss_one (ps_ret pe_bl)))))), ?_⟩
    obtain ⟨t1, l1, es1, rfl, g1, ⟨vs1, g2, g3⟩, f4⟩ := id R.hL
    obtain ⟨n1, n2, n3, n4⟩ := R.ne
    have le := f4.len
    have m1 := n4 (t1, l1) (by simp)
    have hV : H lv = some (.lst ((es1.reverse.map fun e => V.ref e.1) ++ [.ref t1])) := by
      rw [R.hV]
      simp
    have lvs1 := g3.len
    obtain ⟨tv, rfl⟩ : ∃ tv, v = .ref tv := by
      cases s with
      | nm w x => obtain ⟨t, e, _⟩ := hv; exact ⟨t, e⟩
      | nu w x => obtain ⟨t, e, _⟩ := hv; exact ⟨t, e⟩
      | flat => obtain ⟨t, e, _⟩ := hv; exact ⟨t, e⟩
      | zip x r => obtain ⟨t, _, _, e, _⟩ := hv; exact ⟨t, e⟩
    refine ⟨_, rfl, rd, _, dx, _, _, rfl, R.hR, T.rc.cl, T.rc.nL, (lookup_2).trans lookup_1, _, rfl, _, _, _, _, rfl, rfl, SqL.of hV, atI_last _ _, t1, _, rfl, g1, rfl, _, _, rfl, _, _, rfl, rfl, ?_⟩
    refine ⟨_, rfl, rfl, _, rfl, ?_⟩
    rw [decide_eq_false (fun z => nomatch z)]
    refine ⟨_, rfl, _, _, rfl, .inl ⟨_, SqL.of g2, rfl⟩, _, _, rfl, rfl, _, rfl, ?_⟩
    rw [decide_eq_false (by omega : ¬ (6 : Int) ≤ (vs1.length : Int))]
    have q1 : RwP (He.ga K "Program") K H (r ++ [s]) (vs1 ++ [.ref tv]) := RwP.snoc g3 hv
    refine ⟨_, rfl, _, rfl, l1, vs1, rfl, .inr (SqL.of g2), _, rfl, szle (by simp; omega), fun n hn => ?_⟩
    have sn := same_upd (o := .lst (vs1 ++ [.ref tv])) hn
    have q2 := run_ok (n := 0) (pre := []) (d := 0) (L := [x]) (RwP.kp (C := He.ga K "Program") (.of sn) _ q1) ho hl.1
    intro a0 dx0 ha0 hd0 hn0
    refine rd_prog (Q := fun q H2 => (tBM K "list" rAppend (tVar 3) (tCons (tVar 1) tNil)) [some (.ref rd), some (.ref tv), some (.str x), some (.ref l1)] H2 fun _ H' => Q (.bl true) H') (hl.2 x (by simp)) (SqL.of upd_same) (by simp; omega) q2 (fun q H2 s2 nq hI => ?_) a0 dx0 ha0 hd0 hn0
    have s23 := same_trans sn s2
    have g2' := s23 _ _ g2
    refine ⟨_, rfl, .inl ⟨rfl, _, SqL.of g2'⟩, _, rfl, l1, vs1, _, rfl, rfl, g2', szlt (by omega), ?_⟩
    refine k _ (step_top (st := []) (es1 := []) (es2 := es1) (t := t1) (l := l1) (x := x) (r := r) (S := S) (pend := false) (pend' := false) R rfl rfl ((But.of s23).trans (.upd (by simp))) ?_ ?_ upd_same ?_)
    · intro a ha
      by_cases z : a = l1
      · rw [z, upd_same] at ha; cases ha
      · rw [upd_ne z] at ha
        exact none_same s23 ha
    · rw [upd_ne m1.2.1.symm, s23 _ _ hV]
      simp
    · exact RwP.kp ((KP.of s23).trans (.upd g2' id)) _ q1
def spRS (C : Addr) (K : PySem.W.Frag) : Sp := fun vs H Q _ => ∃ s b d, vs = [.str b] ∧ s.plain ∧ okS d s ∧ lnS s = [b] ∧ ∀ v H', Same H H' → StP C K H' s v → Q v H'
theorem scread_stage : FnScope ["line", "words", "number"] ["line"] (defScope sread_stage) := ⟨rfl, rfl, rfl, by decide +kernel, rfl, by decide +kernel, by decide +kernel⟩
theorem d_read_stage (F : FnP K "read_stage" "read_stage" sread_stage f fd) (gm : mg "read_stage" = some (.ref f)) (T : Ty P w K mg base) (D_is_name : DefOk P w K mg base CX0 1 "is_name" ["value"] [] (spName K)) :
    DefOk P w K mg base CX0 2 "read_stage" ["line"] [] (spRS (He.ga K "Program") K) := by
  obtain ⟨tG, gGRE⟩ := T.g_GREATEST
  refine ⟨f, fd, [], F.ok scread_stage (fun vs H Q E h => ?_) (fun cdv A outer s H vs Q E hr h => ?_), gm, F.kp, F.bindsN fun _ _ _ _ _ _ us hl => match us, hl with | [_], _ => rfl, .nil⟩
  · obtain ⟨_, _, _, rfl, _⟩ := h
    rfl
  · obtain ⟨s, b, d, rfl, hp, ho, hb, k⟩ := h
    refine ⟨_, PSs.nox (pss_cons (ps_if (pt_cmpR op_eq (pv 0) pe_str (nomark _)) (pss_one (ps_ret (pe_tup (pa_cons pe_str pa_nil))))
  pss_nil)
  (pss_cons (ps_set (i := 1) scread_stage.nd rfl (.inl rfl) (pe_m1 PySem.F.slot_str_split PySem.F.type_str_split mt_split (pv 0) pe_str))
  (pss_cons (ps_if (pt_cmpR op_ne (pe_callB call_len (by rfl) T.z_len PySem.boot_len (pa_cons (pv 1) pa_nil)) pe_int (nomark _)) (pss_one (ps_ret pe_non))
  pss_nil)
  (pss_cons (ps_if (PW.pt (pw_and (pt_cmpR op_in_seq (pe_ix ix_list (pv 1) pe_int (fun _ _ => rfl)) (pe_glob (v := .ref _) (by rfl) T.g_NAMED rfl) (by rfl)) (pw_and1 (pt_val (pe_d D_is_name (hr.mono (by decide)) pass0 (pa_cons (pe_ix ix_list (pv 1) pe_int (fun _ _ => rfl)) pa_nil)))))) (pss_one (ps_ret (pe_tup (pa_cons (pe_ix ix_list (pv 1) pe_int (fun _ _ => rfl)) (pa_cons (pe_ix ix_list (pv 1) pe_int (fun _ _ => rfl)) pa_nil)))))
  pss_nil)
  (pss_cons (ps_if (PW.pt (pw_and (pt_cmpR op_in_seq (pe_ix ix_list (pv 1) pe_int (fun _ _ => rfl)) (pe_glob (v := .ref _) (by rfl) T.g_NUMBERED rfl) (by rfl)) (pw_and1 (pt_cmpR op_in_seq (pe_ix ix_list (pv 1) pe_int (fun _ _ => rfl)) (pe_lc (own := [("number", 2)]) (g := gName 2) (tt := tYes) (by rfl) scread_stage.nd (pi_range2 (by rfl) T.z_range (pa_cons pe_int (pa_cons (pe_op op_add (pe_glob (v := .int 4) (by rfl) gGRE ⟨_, rfl⟩) pe_int) pa_nil))) (blkOk_by (own := [("number", 2)]) (N := ["line", "words", "number"]) (sc := defScope sread_stage) (by decide +kernel)) (fun _ _ _ _ _ => pg_name (i := 2) scread_stage.nd rfl (Or.inl rfl)) (fun _ _ _ _ _ => pts_nil) (fun _ _ _ _ _ => (pe_callTy call_str_int (by rfl) T.z_str (by decide +kernel) (pa_cons (pv 2) pa_nil)))) (by rfl))))) (pss_one (ps_ret (pe_tup (pa_cons (pe_ix ix_list (pv 1) pe_int (fun _ _ => rfl)) (pa_cons (pe_callTy call_int_str (by rfl) T.z_int (by decide +kernel) (pa_cons (pe_ix ix_list (pv 1) pe_int (fun _ _ => rfl)) pa_nil)) pa_nil)))))
  pss_nil)
  (pss_one (ps_ret pe_non))))))), ?_⟩
    obtain ⟨hB, hl30, _⟩ := body_of hp ho hb
    cases s with
    | zip _ _ => exact hp.elim
    | flat =>
      rw [lnS] at hb
      have e : b = "flat" := by simpa using hb.symm
      subst e
      refine ⟨_, rfl, rfl, _, rfl, ?_⟩
      rw [sc_str, decide_eq_true rfl]
      refine ⟨szl rfl, fun t ht => k _ _ (same_upd ht) ?_⟩
      rw [StP]
      exact ⟨t, rfl, SqT.of upd_same⟩
    | nm wd x =>
      rw [lnS] at hb
      rw [okS] at ho
      have e : b = wd ++ (" " : Str) ++ x := by simpa using hb.symm
      obtain ⟨h1, h2, h3⟩ := word_free wd (List.mem_append_left _ ho.1)
      have hs2 : Txt.split b " " = [wd, x] := by rw [e]; exact split2 h1 (name_free ho.2)
      refine ⟨_, rfl, rfl, _, rfl, ?_⟩
      rw [sc_str, decide_eq_false (fun z => two_ne_flat (e.symm.trans z))]
      refine ⟨_, rfl, ⟨_, rfl⟩, _, _, rfl, rfl, (by decide +kernel), by rw [sizeLine_eq]; omega, fun p hp0 => ?_⟩
      rw [hs2]
      have hS : (upd H p (.lst (([wd, x] : List Str).map V.str))) p = some (.lst [.str wd, .str x]) := upd_same
      have sp := same_upd (o := .lst (([wd, x] : List Str).map V.str)) hp0
      generalize (upd H p (.lst (([wd, x] : List Str).map V.str))) = H1 at hS sp ⊢
      refine ⟨_, rfl, _, _, rfl, .inl ⟨_, SqL.of hS, rfl⟩, rfl, _, rfl, ?_⟩
      rw [show (!decide (V.int (([V.str wd, V.str x] : List V).length : Nat) = V.int 2)) = false from rfl]
      refine ⟨_, rfl, _, _, _, _, rfl, rfl, SqL.of hS, atI_nat (j := 0) rfl, _, named.map V.str, rfl, .inr (T.t_NAMED _), rfl, all_str _, _, rfl, ?_⟩
      rw [inV_str, decide_eq_true ho.1]
      refine ⟨_, rfl, _, _, _, _, rfl, rfl, SqL.of hS, atI_nat (j := 1) rfl, _, rfl, .inl ⟨x, rfl, Nat.le_trans (nameB_len ho.2) (by decide), fun H2 s2 => ⟨_, rfl, ?_⟩⟩⟩
      rw [ho.2]
      have hS2 := s2 _ _ hS
      refine ⟨_, rfl, _, _, _, _, rfl, rfl, SqL.of hS2, atI_nat (j := 0) rfl, _, rfl, _, _, _, _, rfl, rfl, SqL.of hS2, atI_nat (j := 1) rfl, szl rfl, fun t ht => k _ _ (same_trans sp (same_trans s2 (same_upd ht))) ?_⟩
      rw [StP]
      exact ⟨t, rfl, SqT.of upd_same⟩
    | nu wd n =>
      rw [lnS] at hb
      rw [okS] at ho
      have e : b = wd ++ (" " : Str) ++ strI n := by simpa using hb.symm
      obtain ⟨h1, h2, h3⟩ := word_free wd (List.mem_append_right _ ho.1)
      obtain ⟨i1, i2, i3⟩ := numI ho.2.1 ho.2.2
      have hs2 : Txt.split b " " = [wd, strI n] := by rw [e]; exact split2 h1 i1
      refine ⟨_, rfl, rfl, _, rfl, ?_⟩
      rw [sc_str, decide_eq_false (fun z => two_ne_flat (e.symm.trans z))]
      refine ⟨_, rfl, ⟨_, rfl⟩, _, _, rfl, rfl, (by decide +kernel), by rw [sizeLine_eq]; omega, fun p hp0 => ?_⟩
      rw [hs2]
      have hS : (upd H p (.lst (([wd, strI n] : List Str).map V.str))) p = some (.lst [.str wd, .str (strI n)]) := upd_same
      have sp := same_upd (o := .lst (([wd, strI n] : List Str).map V.str)) hp0
      generalize (upd H p (.lst (([wd, strI n] : List Str).map V.str))) = H1 at hS sp ⊢
      refine ⟨_, rfl, _, _, rfl, .inl ⟨_, SqL.of hS, rfl⟩, rfl, _, rfl, ?_⟩
      rw [show (!decide (V.int (([V.str wd, V.str (strI n)] : List V).length : Nat) = V.int 2)) = false from rfl]
      refine ⟨_, rfl, _, _, _, _, rfl, rfl, SqL.of hS, atI_nat (j := 0) rfl, _, named.map V.str, rfl, .inr (T.t_NAMED _), rfl, all_str _, _, rfl, ?_⟩
      rw [inV_str, decide_eq_false (numbered_ne ho.1).2.2]
      refine ⟨_, rfl, _, _, _, _, rfl, rfl, SqL.of hS, atI_nat (j := 0) rfl, _, counted.map V.str, rfl, .inr (T.t_NUMBERED _), rfl, all_str _, _, rfl, ?_⟩
      rw [inV_str, decide_eq_true ho.1]
      refine ⟨_, rfl, _, _, _, _, rfl, rfl, SqL.of hS, atI_nat (j := 1) rfl, _, _, rfl, rfl, _, _, rfl, ⟨by decide, by decide, by decide, by decide⟩, fun D hD => ?_⟩
      refine lc_one walk_range 2 (fun i : Nat => V.str (strI (1 + (i : Int)))) (by decide) (fun _ => trivial) (fun _ => rfl) (fun _ _ _ _ y => y.1) ?_ ?_
      · rintro i y l R hi ⟨_, rfl⟩ hR
        have hi' : i < 4 := hi
        refine ⟨_, rfl, _, rfl, ?_, hR⟩
        have : i = 0 ∨ i = 1 ∨ i = 2 ∨ i = 3 := by omega
        rcases this with rfl | rfl | rfl | rfl <;> decide
      · have eD : (List.range (((4 : Int) + 1 - 1).toNat)).map (fun i : Nat => V.str (strI (1 + (i : Int)))) = (([1, 2, 3, 4] : List Int).map strI).map V.str := by rfl
        have sD := same_upd (o := .lst ((([1, 2, 3, 4] : List Int).map strI).map V.str)) hD
        rw [eD]
        have hS2 := sD _ _ hS
        refine ⟨D, _, rfl, .inl (SqL.of upd_same), rfl, all_str _, _, rfl, ?_⟩
        rw [inV_str, decide_eq_true i3]
        have k2 := strI_len ho.2.1 ho.2.2
        refine ⟨_, rfl, _, _, _, _, rfl, rfl, SqL.of hS2, atI_nat (j := 0) rfl, _, rfl, _, _, _, _, rfl, rfl, SqL.of hS2, atI_nat (j := 1) rfl, _, n, rfl, i2, by omega, szl rfl, fun t ht => k _ _ (same_trans sp (same_trans sD (same_upd ht))) ?_⟩
        rw [StP]
        exact ⟨t, rfl, SqT.of upd_same⟩
def spTake (CR C : Addr) (K : PySem.W.Frag) : Sp := fun vs H Q _ => ∃ rd dx tk lv S es line S', vs = [.ref rd, .str line] ∧ RdH CR C K rd dx tk lv H S es ∧ Tk S line S' ∧ ∀ H', StepR CR C K rd dx tk lv H es S' H' → Q (.bl true) H'
theorem scReader_take : FnScope ["self", "line", "ahead", "blanks"] ["self", "line"] (defScope sReader_take) := ⟨rfl, rfl, rfl, by decide +kernel, rfl, by decide +kernel, by decide +kernel⟩
theorem m_take (F : FnP K "take" "Reader.take" sReader_take f fd) (hm : Meth K (He.ga K "Reader") "take" f) (T : Ty P w K mg base) (D_read_stage : DefOk P w K mg base CX0 2 "read_stage" ["line"] [] (spRS (He.ga K "Program") K))
    (M_begin : MethOk P w K mg base CX0 1 (He.ga K "Reader") "begin" ["self", "line"] (spBegin (He.ga K "Reader") (He.ga K "Program") K)) (M_close : MethOk P w K mg base CX0 6 (He.ga K "Reader") "close" ["self"] (spClose (He.ga K "Reader") (He.ga K "Program") K))
    (M_put : MethOk P w K mg base CX0 6 (He.ga K "Reader") "put" ["self", "stage"] (spPut (He.ga K "Reader") (He.ga K "Program") K)) :
    MethOk P w K mg base CX0 7 (He.ga K "Reader") "take" ["self", "line"] (spTake (He.ga K "Reader") (He.ga K "Program") K) := by
  obtain ⟨tM, gMOS⟩ := T.g_MOST_STAGES
  obtain ⟨tI, gIND⟩ := T.g_INDENT
  refine ⟨f, fd, F.ok scReader_take (fun vs H Q E h => ?_) (fun cdv A outer s H vs Q E hr h => ?_), hm, F.bindsN fun _ _ _ _ _ _ us hl => match us, hl with | [_, _], _ => rfl, T.rc.cl⟩
  · obtain ⟨_, _, _, _, _, _, _, _, rfl, _⟩ := h
    rfl
  · obtain ⟨rd, dx, tk, lv, S0, es, line, S1, rfl, R, tkk, k⟩ := h
    refine ⟨_, PSs.nox (C8.pss_cut (ps_if (pt_cmpR (op_eq0 hr.units0) (pe_fld (pv 0) rfl) (pe_lst pa_nil) (nomark _)) (pss_one (ps_ret (pe_mt M_begin (hr.mono (by decide)) pass0 (pv 0) (pa_cons (pv 1) pa_nil))))
  pss_nil)
  (pss_cons (ps_if (pt_cmpR op_isN (pe_ix ix_list (pe_fld (pv 0) rfl) (pe_un un_neg pe_int) (fun _ _ => rfl)) pe_non (nomark _)) (pss_cons (ps_expr (pe_bm0 PySem.F.plainAttrs_list PySem.F.slot_list_pop PySem.F.type_list_pop mt_pop (pe_fld (pv 0) rfl)))
  (pss_cons (ps_set (i := 2) scReader_take.nd rfl (.inl rfl) (pe_op op_mul_str (pe_glob (v := .str "  ") (by rfl) gIND ⟨_, rfl⟩) (pe_callB call_len (by rfl) T.z_len PySem.boot_len (pa_cons (pe_fld (pv 0) rfl) pa_nil))))
  (pss_one (ps_ret (pe_and (pe_m1 PySem.F.slot_str_startswith PySem.F.type_str_startswith mt_startswith (pv 1) (pv 2)) (pe_one (pe_mt M_begin (hr.mono (by decide)) pass0 (pv 0) (pa_cons (pe_slice sl_str (pv 1) (po_some (pe_callB call_len (by rfl) T.z_len PySem.boot_len (pa_cons (pv 2) pa_nil))) po_none) pa_nil))))))))
  pss_nil)
  (pss_cons (ps_set (i := 3) scReader_take.nd rfl (.inl rfl) (pe_op op_sub (pe_callB call_len (by rfl) T.z_len PySem.boot_len (pa_cons (pv 1) pa_nil)) (pe_callB call_len (by rfl) T.z_len PySem.boot_len (pa_cons (pe_m1 PySem.F.slot_str_lstrip PySem.F.type_str_lstrip mt_lstripChars (pv 1) pe_str) pa_nil))))
  (C8.pss_cut (ps_while PassesOwn.never (PW.pt (pw_and (pt_cmpR op_gt (pe_callB call_len (by rfl) T.z_len PySem.boot_len (pa_cons (pe_fld (pv 0) rfl) pa_nil)) pe_int (nomark _)) (pw_and1 (pt_cmpR op_lt (pv 3) (pe_op op_mul (pe_callB call_len (by rfl) T.z_len PySem.boot_len (pa_cons (pe_glob (v := .str "  ") (by rfl) gIND ⟨_, rfl⟩) pa_nil)) (pe_op op_sub (pe_callB call_len (by rfl) T.z_len PySem.boot_len (pa_cons (pe_fld (pv 0) rfl) pa_nil)) pe_int)) (nomark _)))))
  (pss_one (ps_expr (pe_mt0 M_close (hr.mono (by decide)) pass0 (pv 0)))))
  (pss_cons (ps_if (pt_cmpR op_ne (pv 3) (pe_op op_mul (pe_callB call_len (by rfl) T.z_len PySem.boot_len (pa_cons (pe_glob (v := .str "  ") (by rfl) gIND ⟨_, rfl⟩) pa_nil)) (pe_op op_sub (pe_callB call_len (by rfl) T.z_len PySem.boot_len (pa_cons (pe_fld (pv 0) rfl) pa_nil)) pe_int)) (nomark _)) (pss_one (ps_ret pe_bl))
  pss_nil)
  (pss_cons (ps_if (pt_cmpR op_ne (pe_slice sl_str (pv 1) (po_some (pv 3)) po_none) pe_str (nomark _)) (pss_one (ps_ret (pe_mt M_put (hr.mono (by decide)) pass0 (pv 0) (pa_cons (pe_d D_read_stage (hr.mono (by decide)) pass0 (pa_cons (pe_slice sl_str (pv 1) (po_some (pv 3)) po_none) pa_nil)) pa_nil))))
  pss_nil)
  (pss_cons (ps_if (PW.pt (pw_or (pt_cmpR op_ge (pe_callB call_len (by rfl) T.z_len PySem.boot_len (pa_cons (pe_ix ix_tup (pe_ix ix_list (pe_fld (pv 0) rfl) (pe_un un_neg pe_int) (fun _ _ => rfl)) pe_int (fun _ _ => rfl)) pa_nil)) (pe_glob (v := .int 6) (by rfl) gMOS ⟨_, rfl⟩) (nomark _)) (pw_or1 (pt_cmpR op_ge (pe_callB call_len (by rfl) T.z_len PySem.boot_len (pa_cons (pe_fld (pv 0) rfl) pa_nil)) pe_int (nomark _))))) (pss_one (ps_ret pe_bl))
  pss_nil)
  (pss_cons (ps_expr (pe_bm PySem.F.plainAttrs_list PySem.F.slot_list_append PySem.F.type_list_append mt_append (pe_fld (pv 0) rfl) (pa_cons pe_non pa_nil)))
  (pss_one (ps_ret pe_bl)))))))))), ?_⟩
    refine ⟨fun σ' H' => σ' = [some (.ref rd), some (.str line), none, none] ∧ Same H H' ∧ S0.st ≠ [], ?_, ?_⟩
    · refine ⟨_, rfl, rd, _, dx, _, _, rfl, R.hR, T.rc.cl, T.rc.nL, (lookup_2).trans lookup_1, szl rfl, fun p hp => ⟨lv, p, _, rfl, rfl, .inr ⟨same_upd hp _ _ R.hV, upd_same⟩, _, rfl, ?_⟩⟩
      have sp := same_upd (o := .lst []) hp
      have R1 := R.same sp
      cases tkk with
      | @start s hs =>
        have ee : es = [] := R.hL
        subst ee
        refine ⟨_, rfl, rd, dx, _, rfl, R1.hR, rfl, _, rfl, rd, dx, tk, lv, [], [], [], s, rfl, R1, hs, by simp, by simp, by simp, fun H' h => k H' (.of sp h)⟩
      | @open_ S tak s hS _ _ _ _ =>
        have le := R.hL.len
        have hE : ((es.reverse.map fun e => V.ref e.1) ++ (if (⟨S, true, tak⟩ : RS).pend then [V.non] else [])).isEmpty = false := by simp
        rw [hE]
        exact ⟨rfl, sp, hS⟩
      | @stage st S tak x r s b d hc _ _ _ _ _ _ _ _ =>
        have hp0 := hc.pos
        have hne : st ++ S ≠ [] := by
          intro z
          rw [(List.append_eq_nil_iff.mp z).1] at hp0
          exact absurd hp0 (by simp)
        have le := R.hL.len
        have hE : ((es.reverse.map fun e => V.ref e.1) ++ (if (⟨st ++ S, false, tak⟩ : RS).pend then [V.non] else [])).isEmpty = false := by
          cases es with
          | nil =>
            rw [List.length_nil] at le
            exact absurd (List.length_eq_zero_iff.mp le.symm) hne
          | cons e es => simp
        rw [hE]
        exact ⟨rfl, sp, hne⟩
      | @zip st S tak x r hc _ _ _ =>
        have hp0 := hc.pos
        have hne : st ++ S ≠ [] := by
          intro z
          rw [(List.append_eq_nil_iff.mp z).1] at hp0
          exact absurd hp0 (by simp)
        have le := R.hL.len
        have hE : ((es.reverse.map fun e => V.ref e.1) ++ (if (⟨st ++ S, false, tak⟩ : RS).pend then [V.non] else [])).isEmpty = false := by
          cases es with
          | nil =>
            rw [List.length_nil] at le
            exact absurd (List.length_eq_zero_iff.mp le.symm) hne
          | cons e es => simp
        rw [hE]
        exact ⟨rfl, sp, hne⟩
    rintro σ' H1 ⟨rfl, sm, hne⟩
    have R1 := R.same sm
    have k1 : ∀ H', StepR (He.ga K "Reader") (He.ga K "Program") K rd dx tk lv H1 es S1 H' → Q (.bl true) H' := fun H' h => k H' (.of sm h)
    clear k R sm
    have two : (∃ S tak s, S0 = ⟨S, true, tak⟩ ∧ line = ind S.length ++ (("from " : Str) ++ s) ∧ S ≠ [] ∧ S.length ≤ 4 ∧ tak.length ≤ 4 ∧ s ∈ sources ∧ s ∉ tak ∧ S1 = ⟨(s, []) :: S, false, tak ++ [s]⟩) ∨
        ∃ (st S : List (Str × List Sx)) (tak : List Str) (x : Str) (r : List Sx) (body : Str), S0 = ⟨st ++ S, false, tak⟩ ∧ line = ind S.length ++ body ∧ Clo st x r ∧ (st ++ S).length ≤ 4 ∧ tak.length ≤ 4 ∧ r.length ≤ 5 ∧ Body body ∧ body.length ≤ 30 ∧
          ((body = "zip" ∧ tak.length < 4 ∧ S1 = ⟨(x, r) :: S, true, tak⟩) ∨ (body ≠ "zip" ∧ ∃ s d, s.plain ∧ okS d s ∧ lnS s = [body] ∧ okR 0 (r ++ [s]) ∧ LsOk (x :: lvR (r ++ [s])) ∧ S1 = ⟨(x, r ++ [s]) :: S, false, tak⟩)) := by
      cases tkk with
      | start _ => exact absurd rfl hne
      | open_ hS lS lt hs hn => exact .inl ⟨_, _, _, rfl, rfl, hS, lS, lt, hs, hn, rfl⟩
      | stage hc l4 lt hp ho hb hO h5 hl =>
        obtain ⟨q1, q2, q3⟩ := body_of hp ho hb
        exact .inr ⟨_, _, _, _, _, _, rfl, rfl, hc, l4, lt, h5, q1, q2, .inr ⟨q3, _, _, hp, ho, hb, hO, hl, rfl⟩⟩
      | zip hc l4 lt h5 => exact .inr ⟨_, _, _, _, _, _, rfl, rfl, hc, l4, Nat.le_of_lt lt, h5, ⟨122, [105, 112], by decide +kernel, by decide⟩, by decide +kernel, .inl ⟨rfl, lt, rfl⟩⟩
    clear tkk
    rcases two with ⟨S, tak, s, rfl, rfl, hS, lS, lt, hs, hn, rfl⟩ | ⟨st, S, tak, x, r, body, rfl, rfl, hc, l4, lt, h5, hB, hb30, fin⟩
    · have le := R1.hL.len
      have hV : H1 lv = some (.lst ((es.reverse.map fun e => V.ref e.1) ++ [V.non])) := R1.hV
      refine ⟨_, rfl, rd, _, dx, _, _, rfl, R1.hR, T.rc.cl, T.rc.nL, (lookup_2).trans lookup_1, _, rfl, _, _, _, _, rfl, rfl, SqL.of hV, atI_last _ _, rfl, _, rfl, ?_⟩
      rw [decide_eq_true rfl]
      have hxs : ∀ L : List V, (L ++ [V.non])[(L ++ [V.non]).length - 1]? = some V.non := by
        intro L
        simp
      have hdl : ∀ L : List V, (L ++ [V.non]).dropLast = L := fun L => List.dropLast_concat
      refine ⟨_, rfl, rd, _, dx, _, _, rfl, R1.hR, T.rc.cl, T.rc.nL, (lookup_2).trans lookup_1, .inl ⟨rfl, _, SqL.of hV⟩, lv, _, _, rfl, rfl, hV, hxs _, ?_⟩
      rw [hdl]
      obtain ⟨R2, b2, nv2⟩ := step_pend (p' := false) R1 (List.append_nil (es.reverse.map fun e => V.ref e.1)).symm
      have k2 : ∀ H', StepR (He.ga K "Reader") (He.ga K "Program") K rd dx tk lv (upd H1 lv (.lst (es.reverse.map fun e => V.ref e.1))) es ⟨(s, []) :: S, false, tak ++ [s]⟩ H' → Q (.bl true) H' := fun H' h => k1 H' (.trans b2 (fun _ he => .inl he) nv2 h)
      generalize (upd H1 lv (.lst (es.reverse.map fun e => V.ref e.1))) = H2 at R2 k2 ⊢
      clear k1 b2 nv2 hV
      have hV : H2 lv = some (.lst (es.reverse.map fun e => V.ref e.1)) := by
        rw [R2.hV]
        exact congrArg (fun z => some (HO.lst z)) (List.append_nil _)
      have hlen : (es.reverse.map fun e => V.ref e.1).length = S.length := by
        rw [List.length_map, List.length_reverse, le]
      have e5n : ("from " : Str).length = 5 := by decide +kernel
      have key : ∀ s ∈ sources, s.length = 1 := by decide +kernel
      have ks := key s hs
      have li := len_ind S.length
      have hz : (ind S.length ++ (("from " : Str) ++ s)).length ≤ 1000 := by
        rw [str_len_app, str_len_app]
        omega
      refine ⟨_, rfl, rd, _, dx, _, _, rfl, R2.hR, T.rc.cl, T.rc.nL, (lookup_2).trans lookup_1, _, _, rfl, .inl ⟨_, SqL.of hV, rfl⟩, _, _, rfl, rfl, (by decide +kernel), by omega, ?_⟩
      rw [hlen]
      refine ⟨_, rfl, ⟨_, rfl⟩, _, rfl, _, _, rfl, rfl, _, rfl, ?_⟩
      have st := starts_app (ind S.length) (("from " : Str) ++ s)
      have ei : repS "  " S.length = ind S.length := rfl
      rw [ei, st]
      have cs := cut_suf (ind S.length) (("from " : Str) ++ s)
      refine ⟨_, rfl, rd, dx, _, rfl, R2.hR, rfl, _, rfl, _, rfl, _, _, rfl, ⟨szle (by omega), rfl⟩, _, rfl, _, rfl, szle hz, ?_⟩
      rw [cs]
      exact ⟨rd, dx, tk, lv, S, tak, es, s, rfl, R2, hs, hn, by omega, by omega, k2⟩
    · have le := R1.hL.len
      have hpos := hc.pos
      have l40 : st.length + S.length ≤ 4 := by
        rw [List.length_append] at l4
        exact l4
      have hlast : ∃ (L : List V) (t1 : Addr), (es.reverse.map fun e => V.ref e.1) = L ++ [V.ref t1] := by
        cases es with
        | nil =>
          have le' : 0 = (st ++ S).length := le
          rw [List.length_append] at le'
          omega
        | cons e es => exact ⟨es.reverse.map fun e => V.ref e.1, e.1, by simp⟩
      obtain ⟨L, t1, eL⟩ := hlast
      have hV : H1 lv = some (.lst (L ++ [V.ref t1])) := by
        have q := R1.hV
        rw [eL] at q
        rw [q]
        simp
      refine ⟨_, rfl, rd, _, dx, _, _, rfl, R1.hR, T.rc.cl, T.rc.nL, (lookup_2).trans lookup_1, _, rfl, _, _, _, _, rfl, rfl, SqL.of hV, atI_last _ _, rfl, _, rfl, ?_⟩
      rw [decide_eq_false (fun z => nomatch z)]
      have li := len_ind S.length
      have hz : (ind S.length ++ body).length ≤ 1000 := by
        rw [str_len_app]
        omega
      have hls := lstrip_ind (k := S.length) hB
      refine ⟨_, rfl, _, _, rfl, ⟨szle hz, rfl⟩, _, rfl, ⟨_, rfl⟩, _, _, rfl, rfl, szle hz, _, _, rfl, ⟨szle (by rw [hls]; omega), rfl⟩, _, _, rfl, rfl, ?_⟩
      have hbl : (((ind S.length ++ body).length : Nat) : Int) - (((Txt.lstripChars (ind S.length ++ body) " ").length : Nat) : Int) = ((2 * S.length : Nat) : Int) := by
        rw [hls, str_len_app, li]
        omega
      clear hls
      have e2 : ("  " : Str).length = 2 := by decide +kernel
      refine ⟨fun σ' H' => ∃ es' bl, RdH (He.ga K "Reader") (He.ga K "Program") K rd dx tk lv H' ⟨(x, r) :: S, false, tak⟩ es' ∧ But (fpR tk lv es) H1 H' ∧ (∀ e ∈ es', e ∈ es ∨ H1 e.2 = none) ∧ (∀ a, H' a = none → H1 a = none) ∧ bl = ((2 * S.length : Nat) : Int) ∧ σ' = [some (.ref rd), some (.str (ind S.length ++ body)), none, some (.int bl)], ?_, ?_⟩
      · refine ⟨fun m σ H' => ∃ st' es', Clo st' x r ∧ m = st'.length ∧ st'.length + S.length ≤ 4 ∧ RdH (He.ga K "Reader") (He.ga K "Program") K rd dx tk lv H' ⟨st' ++ S, false, tak⟩ es' ∧ But (fpR tk lv es) H1 H' ∧ (∀ e ∈ es', e ∈ es ∨ H1 e.2 = none) ∧ (∀ a, H' a = none → H1 a = none) ∧ ∃ bl : Int, bl = ((2 * S.length : Nat) : Int) ∧ σ = [some (.ref rd), some (.str (ind S.length ++ body)), none, some (.int bl)],
          ⟨_, st, es, hc, rfl, l40, R1, .refl, fun _ he => .inl he, fun _ h => h, _, hbl, rfl⟩, ?_⟩
        clear hbl
        rintro m σ H2 ⟨st', es', c2, rfl, l2, R2, b2, ne2, nv2, bl, hbl, rfl⟩
        have le2 := R2.hL.len
        have pos2 := c2.pos
        have hV2 : H2 lv = some (.lst (es'.reverse.map fun e => V.ref e.1)) := by
          rw [R2.hV]
          exact congrArg (fun z => some (HO.lst z)) (List.append_nil _)
        have hlen2 : (es'.reverse.map fun e => V.ref e.1).length = st'.length + S.length := by
          rw [List.length_map, List.length_reverse, le2]
          exact List.length_append
        refine ⟨_, rfl, rd, _, dx, _, _, rfl, R2.hR, T.rc.cl, T.rc.nL, (lookup_2).trans lookup_1, _, _, rfl, .inl ⟨_, SqL.of hV2, rfl⟩, _, _, rfl, rfl, _, rfl, ?_⟩
        rw [hlen2]
        rcases c2.top with es0 | ⟨x1, r1, x2, r2, rest, es0, o1, o2, o3, o4, c3⟩
        · subst es0
          have done : ∃ es' bl', RdH (He.ga K "Reader") (He.ga K "Program") K rd dx tk lv H2 ⟨(x, r) :: S, false, tak⟩ es' ∧ But (fpR tk lv es) H1 H2 ∧ (∀ e ∈ es', e ∈ es ∨ H1 e.2 = none) ∧ (∀ a, H2 a = none → H1 a = none) ∧ bl' = ((2 * S.length : Nat) : Int) ∧ ([some (.ref rd), some (.str (ind S.length ++ body)), none, some (.int bl)] : L2.St) = [some (.ref rd), some (.str (ind S.length ++ body)), none, some (.int bl')] := ⟨es', bl, R2, b2, ne2, nv2, hbl, rfl⟩
          have l1 : [(x, r)].length = 1 := rfl
          rw [l1]
          by_cases k0 : S.length = 0
          · rw [decide_eq_false (by omega : ¬ (1 : Int) < ((1 + S.length : Nat) : Int))]
            exact done
          · rw [decide_eq_true (by omega : (1 : Int) < ((1 + S.length : Nat) : Int))]
            refine ⟨_, rfl, _, _, rfl, ⟨(by decide +kernel), rfl⟩, _, rfl, rd, _, dx, _, _, rfl, R2.hR, T.rc.cl, T.rc.nL, (lookup_2).trans lookup_1, _, _, rfl, .inl ⟨_, SqL.of hV2, rfl⟩, _, _, rfl, rfl, _, _, rfl, rfl, .inl ⟨by decide +kernel, by decide +kernel⟩, _, _, rfl, rfl, _, rfl, ?_⟩
            have hd : decide (bl < (((("  " : Str).length : Nat) : Int)) * ((((es'.reverse.map fun e => V.ref e.1).length : Nat) : Int) - 1)) = false := by
              rw [hlen2, e2, hbl, l1]
              exact decide_eq_false (by omega)
            rw [hd]
            exact done
        · subst es0
          have l1 : ((x1, r1) :: (x2, r2) :: rest).length = rest.length + 2 := rfl
          rw [decide_eq_true (by rw [l1]; omega : (1 : Int) < (((((x1, r1) :: (x2, r2) :: rest).length + S.length) : Nat) : Int))]
          refine ⟨_, rfl, _, _, rfl, ⟨(by decide +kernel), rfl⟩, _, rfl, rd, _, dx, _, _, rfl, R2.hR, T.rc.cl, T.rc.nL, (lookup_2).trans lookup_1, _, _, rfl, .inl ⟨_, SqL.of hV2, rfl⟩, _, _, rfl, rfl, _, _, rfl, rfl, .inl ⟨by decide +kernel, by decide +kernel⟩, _, _, rfl, rfl, _, rfl, ?_⟩
          have hd : decide (bl < (((("  " : Str).length : Nat) : Int)) * ((((es'.reverse.map fun e => V.ref e.1).length : Nat) : Int) - 1)) = true := by
            rw [hlen2, e2, hbl, l1]
            exact decide_eq_true (by omega)
          rw [hd]
          refine ⟨_, fun _ _ z => z, ?_⟩
          refine ⟨_, rfl, rd, dx, _, rfl, R2.hR, rfl, rd, dx, tk, lv, x1, r1, x2, r2, rest ++ S, tak, es', rfl, R2, o1, o2, o3, o4, (by rw [List.length_append]; rw [l1] at l2; omega), fun H3 h3 => ?_⟩
          obtain ⟨es3, R3, b3, ne3, nv3⟩ := StepR.trans b2 ne2 nv2 h3
          exact ⟨((x2, r2 ++ [.zip x1 r1]) :: rest).length, by rw [l1]; show rest.length + 1 < _; omega, _, es3, c3, rfl, (by show rest.length + 1 + S.length ≤ 4; rw [l1] at l2; omega), R3, b3, ne3, nv3, bl, hbl, rfl⟩
      rintro σ' H2 ⟨es2, bl, R2, b2, ne2, nv2, hbl, rfl⟩
      have k2 : ∀ H', StepR (He.ga K "Reader") (He.ga K "Program") K rd dx tk lv H2 es2 S1 H' → Q (.bl true) H' := fun H' h => k1 H' (.trans b2 ne2 nv2 h)
      have e2 : ("  " : Str).length = 2 := by decide +kernel
      have le2 : es2.length = S.length + 1 := R2.hL.len
      have hV2 : H2 lv = some (.lst (es2.reverse.map fun e => V.ref e.1)) := by
        rw [R2.hV]
        exact congrArg (fun z => some (HO.lst z)) (List.append_nil _)
      have hlen2 : (es2.reverse.map fun e => V.ref e.1).length = S.length + 1 := by
        rw [List.length_map, List.length_reverse, le2]
      have cs : cutS (ind S.length ++ body) (some bl) none = body := by
        have q := cut_suf (ind S.length) body
        rw [li] at q
        rw [hbl]
        exact q
      refine ⟨_, rfl, _, _, rfl, ⟨(by decide +kernel), rfl⟩, _, rfl, rd, _, dx, _, _, rfl, R2.hR, T.rc.cl, T.rc.nL, (lookup_2).trans lookup_1, _, _, rfl, .inl ⟨_, SqL.of hV2, rfl⟩, _, _, rfl, rfl, _, _, rfl, rfl, .inl ⟨by decide +kernel, by decide +kernel⟩, rfl, _, rfl, ?_⟩
      have hd : (!decide (V.int bl = V.int (((("  " : Str).length : Nat) : Int) * ((((es2.reverse.map fun e => V.ref e.1).length : Nat) : Int) - 1)))) = false := by
        rw [hlen2, e2, hbl, decide_eq_true (congrArg V.int (by omega))]
        rfl
      rw [hd]
      refine ⟨_, rfl, _, rfl, _, rfl, _, rfl, szle hz, rfl, _, rfl, ?_⟩
      rw [cs, sc_str]
      rcases fin with ⟨rfl, lt3, rfl⟩ | ⟨hnz, s, d, hp, ho, hb, hO, hl, rfl⟩
      · rw [decide_eq_true rfl]
        obtain ⟨t, l, es3, rfl, g1, ⟨vs, g2, g3⟩, g4⟩ := id R2.hL
        obtain ⟨n1, n2, n3, n4⟩ := R2.ne
        have m1 := n4 (t, l) (by simp)
        have hV3 : H2 lv = some (.lst ((es3.reverse.map fun e => V.ref e.1) ++ [V.ref t])) := by
          rw [hV2]
          simp
        have lvs := g3.len
        have lt4 : ((tak.map V.str).length : Int) < 4 := by
          rw [List.length_map]
          omega
        refine ⟨_, rfl, rd, _, dx, _, _, rfl, R2.hR, T.rc.cl, T.rc.nL, (lookup_2).trans lookup_1, _, rfl, _, _, _, _, rfl, rfl, SqL.of hV3, atI_last _ _, _, _, _, _, rfl, rfl, g1, atI_nat (j := 1) rfl, _, _, rfl, .inl ⟨_, SqL.of g2, rfl⟩, _, _, rfl, rfl, _, rfl, ?_⟩
        rw [decide_eq_false (by omega : ¬ (6 : Int) ≤ (vs.length : Int))]
        refine ⟨_, rfl, rd, _, dx, _, _, rfl, R2.hR, T.rc.cl, T.rc.nT, lookup_1, _, _, rfl, .inl ⟨_, SqL.of R2.hT, rfl⟩, _, _, rfl, rfl, _, rfl, ?_⟩
        rw [decide_eq_false (show ¬ (4 : Int) ≤ ((tak.map V.str).length : Int) by omega)]
        have le3 := g4.len
        refine ⟨_, rfl, rd, _, dx, _, _, rfl, R2.hR, T.rc.cl, T.rc.nL, (lookup_2).trans lookup_1, .inl ⟨rfl, _, SqL.of hV3⟩, lv, _, _, rfl, rfl, hV3, szlt (by rw [List.length_append, List.length_map, List.length_reverse, le3]; show S.length + 1 ≤ 1000; omega), ?_⟩
        refine k2 _ (step_top (st := []) (es1 := []) (es2 := es3) (t := t) (l := l) (x := x) (r := r) (S := S) (pend := false) (pend' := true) R2 rfl rfl (.upd (by simp)) ?_ ?_ ?_ (RwP.kp (.upd hV3 id) _ g3))
        · intro a ha
          by_cases z : a = lv
          · rw [z, upd_same] at ha; cases ha
          · rw [upd_ne z] at ha
            exact ha
        · rw [upd_same]
          simp
        · rw [upd_ne m1.2.1]
          exact g2
      · rw [decide_eq_false hnz]
        refine ⟨_, rfl, rd, dx, _, rfl, R2.hR, rfl, _, rfl, _, rfl, _, rfl, _, rfl, szle hz, ?_⟩
        rw [cs]
        refine ⟨s, body, d, rfl, hp, ho, hb, fun v H3 s3 hv => ⟨rd, dx, tk, lv, x, r, S, tak, es2, s, v, rfl, R2.same s3, hv, hO, h5, hl, by omega, fun H' h => k2 H' (.of s3 h)⟩⟩
end

end K80
namespace K80
open PySem PySem.Spec PyProof.Rows L2 Lw
/-! ### read_program -/
section
variable {P : Program} {w : World} {K : PySem.W.Frag} {mg : Str → Option Value} {base : Heap} {f : Addr} {fd : FuncData}
def spRP (C : Addr) (K : PySem.W.Frag) : Sp := fun vs H Q _ => ∃ x r, vs = [.str (txtP x r)] ∧ okR 0 r ∧ r.length ≤ 6 ∧ LsOk (x :: lvR r) ∧ ∀ p H', Same H H' → PgP C K H' x r p → Q (.ref p) H'
theorem scread_program : FnScope ["text", "lines", "reader", "place", "line"] ["text"] (defScope sread_program) := ⟨rfl, rfl, rfl, by decide +kernel, rfl, by decide +kernel, by decide +kernel⟩
theorem d_read_program (F : FnP K "read_program" "read_program" sread_program f fd) (gm : mg "read_program" = some (.ref f)) (T : Ty P w K mg base) (G_Reader : MakeOk P w K mg base CX0 1 (He.ga K "Reader") "Reader" ["self"] [] (spRInit (He.ga K "Reader")))
    (M_take : MethOk P w K mg base CX0 7 (He.ga K "Reader") "take" ["self", "line"] (spTake (He.ga K "Reader") (He.ga K "Program") K)) (M_close : MethOk P w K mg base CX0 6 (He.ga K "Reader") "close" ["self"] (spClose (He.ga K "Reader") (He.ga K "Program") K))
    (G_Program : MakeOk P w K mg base (L2.CX P w) 4 (He.ga K "Program") "Program" ["self", "source", "stages"] [] (spInit (He.ga K "Program") K)) :
    DefOk P w K mg base (L2.CX P w) 8 "read_program" ["text"] [] (spRP (He.ga K "Program") K) := by
  refine ⟨f, fd, [], F.ok scread_program (fun vs H Q E h => ?_) (fun cdv A outer s H vs Q E hr h => ?_), gm, F.kp, F.bindsN fun _ _ _ _ _ _ us hl => match us, hl with | [_], _ => rfl, .nil⟩
  · obtain ⟨_, _, rfl, _⟩ := h
    rfl
  · obtain ⟨x, r, rfl, ho, h6, hl, k⟩ := h
    refine ⟨_, (pss_cons (ps_if (pt_not (pt_val (pe_callB call_isi (by rfl) T.z_isinstance (by decide +kernel) (pa_cons (pv 0) (pa_cons (pe_bltn (v := .ty "str") (by rfl) T.z_str (by decide +kernel) rfl) pa_nil))))) (pss_one (ps_raise rfl (takes_of rfl rfl rfl rfl) (pmk_er T.e_BadText (hr.mono (by decide)) (pa_cons pe_int pa_nil))))
  pss_nil)
  (pss_cons (ps_par (i := 1) (j := 2) (by rfl) scread_program.nd rfl rfl (by decide) rfl rfl (pa_cons (pe_m1 PySem.F.slot_str_split PySem.F.type_str_split mt_split (pv 0) pe_str) (pa_cons (pe_mk0 G_Reader (hr.mono (by decide)) pass0) pa_nil)) (by rfl))
  (pss_cons (ps_for (passes_of rfl) rfl (pi_enum (by rfl) T.z_enumerate (pa_cons (pv 1) pa_nil)) (pg_tup rfl (pgs_cons (pg_name (i := 3) scread_program.nd rfl (.inl rfl)) (pgs_cons (pg_name (i := 4) scread_program.nd rfl (.inl rfl)) pgs_nil)))
  (pss_one (ps_if (pt_not (pt_val (pe_mt M_take hr pass0 (pv 2) (pa_cons (pv 4) pa_nil)))) (pss_one (ps_raise rfl (takes_of rfl rfl rfl rfl) (pmk_er T.e_BadText (hr.mono (by decide)) (pa_cons (pe_op op_add (pv 3) pe_int) pa_nil))))
  pss_nil)))
  (pss_cons (ps_if (pt_cmpR op_isN (pe_ix ix_list (pe_fld (pv 2) rfl) (pe_un un_neg pe_int) (fun _ _ => rfl)) pe_non (nomark _)) (pss_one (ps_raise rfl (takes_of rfl rfl rfl rfl) (pmk_er T.e_BadText (hr.mono (by decide)) (pa_cons (pe_op op_add (pe_callB call_len (by rfl) T.z_len PySem.boot_len (pa_cons (pv 1) pa_nil)) pe_int) pa_nil))))
  pss_nil)
  (pss_cons (ps_while (passes_of rfl) (pt_cmpR op_gt (pe_callB call_len (by rfl) T.z_len PySem.boot_len (pa_cons (pe_fld (pv 2) rfl) pa_nil)) pe_int (nomark _))
  (pss_one (ps_expr (pe_mt0 M_close (hr.mono (by decide)) pass0 (pv 2)))))
  (pss_one (ps_ret (pe_mk G_Program (hr.mono (by decide)) (passX rfl rfl) (pa_cons (pe_ix ix_tup (pe_ix ix_list (pe_fld (pv 2) rfl) pe_int (fun _ _ => rfl)) pe_int (fun _ _ => rfl)) (pa_cons (pe_ix ix_tup (pe_ix ix_list (pe_fld (pv 2) rfl) pe_int (fun _ _ => rfl)) pe_int (fun _ _ => rfl)) pa_nil)))))))))), ?_⟩
    obtain ⟨b1, b2⟩ := ln_bounds ho h6 hl
    have b3 := sum_le b2
    have hsp := split_text ho hl
    have hlen : (txtP x r).length ≤ 2000 := by
      unfold txtP
      rw [TL.join_eq]
      have q := join_len "\n" (lnP x r)
      have e1 : ("\n" : Str).length = 1 := by decide +kernel
      rw [e1] at q
      omega
    refine ⟨_, rfl, _, _, _, _, true, rfl, .ty _, .base (.str _), kit_ty (by decide +kernel), _, rfl, ?_⟩
    refine ⟨_, rfl, ⟨_, rfl⟩, _, _, rfl, rfl, (by decide +kernel), by rw [sizeLine_eq]; omega, fun p hp => ?_⟩
    have hsp' : Txt.split (txtP x r) "\n" = lnP x r := hsp
    rw [hsp']
    have hS0 := same_upd (o := .lst ((lnP x r).map V.str)) hp
    have hP0 : (upd H p (.lst ((lnP x r).map V.str))) p = some (.lst ((lnP x r).map V.str)) := upd_same
    generalize (upd H p (.lst ((lnP x r).map V.str))) = H0 at hS0 hP0 ⊢
    intro a dx ha hd hn
    refine ⟨a, dx, rfl, upd_same, fun tk lv H1 b1 nt nl ne h1 h2 h3 => ⟨rfl, _, _, rfl, ?_⟩⟩
    have s1 := same_upd (o := .own a) hd
    have ha1 : (upd H0 dx (.own a)) a = none := by
      rw [upd_ne hn.symm]
      exact ha
    have s2 := same_trans s1 (same_upd (o := .ins (He.ga K "Reader") dx []) ha1)
    have s01 : Same H0 H1 := fun c o hc => b1 c o (by simpa using ne_of_none hc ha) (s2 c o hc)
    have nt0 := none_same s2 nt
    have nl0 := none_same s2 nl
    obtain ⟨tw, hclo, ltw, hRd⟩ := reads_text ho h6 hl
    have R1 : RdH (He.ga K "Reader") (He.ga K "Program") K a dx tk lv H1 ⟨[], false, []⟩ [] := ⟨h1, h2, h3, rfl, by simpa [List.nodup_cons] using ne⟩
    have fpn : ∀ es : List (Addr × Addr), (∀ e ∈ es, H0 e.2 = none) → ∀ b ∈ fpR tk lv es, H0 b = none := by
      intro es hes b hb
      unfold fpR at hb
      rcases List.mem_cons.mp hb with e | hb
      · rw [e]; exact nt0
      rcases List.mem_cons.mp hb with e | hb
      · rw [e]; exact nl0
      · obtain ⟨e, he, rfl⟩ := List.mem_map.mp hb
        exact hes e he
    have grow : ∀ {es : List (Addr × Addr)} {H2 H3 : Hp} {s3 : RS}, Same H0 H2 → (∀ e ∈ es, H0 e.2 = none) → StepR (He.ga K "Reader") (He.ga K "Program") K a dx tk lv H2 es s3 H3 → ∃ es3, RdH (He.ga K "Reader") (He.ga K "Program") K a dx tk lv H3 s3 es3 ∧ Same H0 H3 ∧ ∀ e ∈ es3, H0 e.2 = none := by
      rintro es H2 H3 s3 sm hes ⟨es3, r3, b3, n3, _⟩
      refine ⟨es3, r3, fun c o hc => b3 c o (fun z => ?_) (sm c o hc), fun e he => ?_⟩
      · rw [fpn es hes c z] at hc
        cases hc
      · rcases n3 e he with q | q
        · exact hes e q
        · exact none_same sm q
    refine ⟨_, rfl, p, _, rfl, SqL.of (s01 _ _ hP0), for_enum (K := K) (a := p) (xs := (lnP x r).map V.str) (fun i σ H' => ∃ Si es c3 c4, σ = [some (.str (txtP x r)), some (.ref p), some (.ref a), c3, c4] ∧ RdH (He.ga K "Reader") (He.ga K "Program") K a dx tk lv H' Si es ∧ Reads Si ((lnP x r).drop i) ⟨tw, false, x :: lvR r⟩ ∧ Same H0 H' ∧ ∀ e ∈ es, H0 e.2 = none)
      ⟨⟨[], false, []⟩, [], none, none, rfl, R1, hRd, s01, fun _ h => by cases h⟩ (fun i σ H' _ ⟨_, _, _, _, _, _, _, sm, _⟩ => SqL.of (sm _ _ hP0)) ?_ ?_⟩
    · rintro i v t σ H2 hv ⟨Si, es, c3, c4, rfl, R2, hRd2, sm, hes⟩ ht
      rw [List.getElem?_map] at hv
      obtain ⟨line, hline, rfl⟩ := Option.map_eq_some_iff.mp hv
      obtain ⟨hi, ev⟩ := List.getElem?_eq_some_iff.mp hline
      rw [List.drop_eq_getElem_cons hi, ev] at hRd2
      have sT := same_upd (o := .tup [.int (i : Nat), .str line]) ht
      refine ⟨t, _, rfl, SqT.of upd_same, rfl, _, _, rfl, _, _, rfl, rfl, ?_⟩
      have R3 := R2.same sT
      have sm3 := same_trans sm sT
      generalize (upd H2 t (.tup [.int (i : Nat), .str line])) = H3 at R3 sm3 ⊢
      cases hRd2 with
      | @cons _ S' _ _ _ htk hrest =>
        refine ⟨_, rfl, a, dx, _, rfl, R3.hR, rfl, _, rfl, a, dx, tk, lv, Si, es, line, S', rfl, R3, htk, fun H4 h4 => ⟨_, rfl, ?_⟩⟩
        obtain ⟨es4, R4, sm4, hes4⟩ := grow sm3 hes h4
        exact ⟨S', es4, _, _, rfl, R4, hrest, sm4, hes4⟩
    · rintro σ H2 ⟨Si, es, c3, c4, rfl, R2, hRd2, sm, hes⟩
      rw [List.length_map, List.drop_length] at hRd2
      cases hRd2
      have le2 := R2.hL.len
      have pos := hclo.pos
      have hlast : ∃ (L : List V) (t1 : Addr), (es.reverse.map fun e => V.ref e.1) = L ++ [V.ref t1] := by
        cases es with
        | nil =>
          have le' : 0 = tw.length := le2
          omega
        | cons e es => exact ⟨es.reverse.map fun e => V.ref e.1, e.1, by simp⟩
      obtain ⟨L, t1, eL⟩ := hlast
      have hV : H2 lv = some (.lst (L ++ [V.ref t1])) := by
        have q := R2.hV
        rw [eL] at q
        rw [q]
        simp
      refine ⟨_, rfl, a, _, dx, _, _, rfl, R2.hR, T.rc.cl, T.rc.nL, (lookup_2).trans lookup_1, _, rfl, _, _, _, _, rfl, rfl, SqL.of hV, atI_last _ _, rfl, _, rfl, ?_⟩
      rw [decide_eq_false (fun z => nomatch z)]
      refine ⟨fun m σ H' => ∃ st es, Clo st x r ∧ m = st.length ∧ st.length ≤ 4 ∧ RdH (He.ga K "Reader") (He.ga K "Program") K a dx tk lv H' ⟨st, false, x :: lvR r⟩ es ∧ Same H0 H' ∧ (∀ e ∈ es, H0 e.2 = none) ∧ σ = [some (.str (txtP x r)), some (.ref p), some (.ref a), c3, c4],
        ⟨_, tw, es, hclo, rfl, ltw, R2, sm, hes, rfl⟩, ?_⟩
      clear hV eL
      rintro m σ H3 ⟨st, es3, c2, rfl, l3, R3, sm3, hes3, rfl⟩
      have le3 := R3.hL.len
      have hV3 : H3 lv = some (.lst (es3.reverse.map fun e => V.ref e.1)) := by
        rw [R3.hV]
        exact congrArg (fun z => some (HO.lst z)) (List.append_nil _)
      have hlen3 : (es3.reverse.map fun e => V.ref e.1).length = st.length := by
        rw [List.length_map, List.length_reverse, le3]
      refine ⟨_, rfl, a, _, dx, _, _, rfl, R3.hR, T.rc.cl, T.rc.nL, (lookup_2).trans lookup_1, _, _, rfl, .inl ⟨_, SqL.of hV3, rfl⟩, _, _, rfl, rfl, _, rfl, ?_⟩
      rw [hlen3]
      rcases c2.top with es0 | ⟨x1, r1, x2, r2, rest, es0, o1, o2, o3, o4, c3'⟩
      · subst es0
        have l1 : [(x, r)].length = 1 := rfl
        rw [l1, decide_eq_false (by decide : ¬ (1 : Int) < ((1 : Nat) : Int))]
        obtain ⟨t, l, es4, rfl, g1, ⟨vs, g2, g3⟩, g4⟩ := id R3.hL
        have e4 : es4 = [] := g4
        subst e4
        have lvs := g3.len
        have q := run_ok (n := 0) (pre := []) (d := 0) (L := [x]) g3 ho hl.1
        refine ⟨_, rfl, a, _, dx, _, _, rfl, R3.hR, T.rc.cl, T.rc.nL, (lookup_2).trans lookup_1, _, _, _, _, rfl, rfl, SqL.of hV3, atI_nat (j := 0) rfl, _, _, _, _, rfl, rfl, g1, atI_nat (j := 0) rfl,
          _, rfl, a, _, dx, _, _, rfl, R3.hR, T.rc.cl, T.rc.nL, (lookup_2).trans lookup_1, _, _, _, _, rfl, rfl, SqL.of hV3, atI_nat (j := 0) rfl, _, _, _, _, rfl, rfl, g1, atI_nat (j := 1) rfl, ?_⟩
        intro a0 dx0 ha0 hd0 hn0
        exact rd_prog (Q := fun q H4 => Q (.ref q) H4) (hl.2 x (by simp)) (SqL.of g2) (by omega) q (fun q H4 s4 _ hI => k q H4 (same_trans hS0 (same_trans sm3 s4)) ⟨vs, hI, RwP.kp (.of s4) _ g3⟩) a0 dx0 ha0 hd0 hn0
      · subst es0
        have l1 : ((x1, r1) :: (x2, r2) :: rest).length = rest.length + 2 := rfl
        rw [decide_eq_true (by rw [l1]; omega : (1 : Int) < (((((x1, r1) :: (x2, r2) :: rest).length) : Nat) : Int))]
        refine ⟨_, fun _ _ z => z, ?_⟩
        refine ⟨_, rfl, a, dx, _, rfl, R3.hR, rfl, a, dx, tk, lv, x1, r1, x2, r2, rest, x :: lvR r, es3, rfl, R3, o1, o2, o3, o4, (by rw [l1] at l3; omega), fun H4 h4 => ?_⟩
        obtain ⟨es4, R4, sm4, hes4⟩ := grow sm3 hes3 h4
        exact ⟨((x2, r2 ++ [.zip x1 r1]) :: rest).length, by rw [l1]; show rest.length + 1 < _; omega, _, es4, c3', rfl, (by show rest.length + 1 ≤ 4; rw [l1] at l3; omega), R4, sm4, hes4, rfl⟩
end

end K80
namespace K80
open PySem PySem.Spec PyProof.Rows L2 Lw
local macro_rules | `(tactic| walk_at "rd") => `(tactic| repeat (first | refine ⟨_, rfl, ?_⟩ | refine ⟨_, _, rfl, rfl, ?_⟩))
/-! ### the law -/
section
variable {P : Program} {w : World} {K : PySem.W.Frag} {mg : Str → Option Value} {base : Heap} {f : Addr} {fd : FuncData}
def spLaw (K : PySem.W.Frag) : Sp := fun vs H Q _ => ∃ (a : Addr) (ns : List Int), vs = [.ref a] ∧ SqL K H a (ns.map V.int) ∧ ns.length ≤ 63 ∧ (∀ z ∈ ns, Builtin.Int.intBits z ≤ 1048576) ∧ ∀ H', Q (.bl true) H'
structure Dl (P : Program) (w : World) (K : PySem.W.Frag) (mg : Str → Option Value) (base : Heap) (fq : Addr) (fdq : FuncData) : Prop where
  source : DefOk P w K mg base CX0 1 "_law_source" ["script", "start"] [] (spSrc K)
  mixed : DefOk P w K mg base CX0 2 "_law_mixed" ["stream", "things"] [] (spMixed K)
  plan : DefOk P w K mg base CX0 12 "_law_plan" ["stream", "pool", "most"] [] (spPln K 4)
  program : DefOk P w K mg base CX0 10 "_law_program" ["plan"] [] (spPrg (He.ga K "Program") K 4)
  lines : DefOk P w K mg base CX0 5 "_law_lines" ["plan"] [] (spLL K 4)
  depth : DefOk P w K mg base CX0 9 "_law_depth" ["plan"] [] (spDep K 4)
  text : DefOk P w K mg base CX0 12 "program_text" ["program"] [] (spPT (He.ga K "Program") K)
  read : DefOk P w K mg base (L2.CX P w) 8 "read_program" ["text"] [] (spRP (He.ga K "Program") K)
  FE : FnOk P w K mg base CX0 13 fq fdq ["self", "other"] (spEq (REq (He.ga K "Program") K 4))
  EF : EqF K (He.ga K "Program") fq
  hbE : Binds K fdq ["self", "other"] []
  pdepth : PropOk P w K mg base CX0 1 (He.ga K "Program") "depth" (spDepth (He.ga K "Program") K)
  psources : PropOk P w K mg base CX0 1 (He.ga K "Program") "sources" (spSources (He.ga K "Program") K)
theorem sclaw : FnScope ["script", "deep", "typed", "start", "source", "some", "turn", "plan", "one", "due"] ["script"] (defScope slaw) := ⟨rfl, rfl, rfl, by decide +kernel, rfl, by decide +kernel, by decide +kernel⟩
theorem planA : PlanOk "a" [] := ⟨by rw [okR]; trivial, by simp, by simpa [lvR] using LsOk.one (x := "a") (by decide +kernel)⟩
theorem planB : PlanOk "d" [.nu "lots" 1, .nu "lots" 1, .nu "lots" 1, .flat, .flat, .flat] := by
  have hc : ("lots" : Str) ∈ counted := by decide +kernel
  refine ⟨?_, by simp, ?_⟩
  · simp [okR, okS, hgS, hc]
  · have e : lvR [.nu "lots" 1, .nu "lots" 1, .nu "lots" 1, .flat, .flat, .flat] = [] := by simp [lvR, lvS]
    rw [e]
    exact LsOk.one (by decide +kernel)
theorem planC : PlanOk "a" [.zip "b" [.zip "c" [.nu "lots" 4, .zip "d" [.nm "keep" "abcdefgh"]], .flat, .nu "gather" 4], .flat, .nu "gather" 4] := by
  have hc : ("lots" : Str) ∈ counted := by decide +kernel
  have hg : ("gather" : Str) ∈ counted := by decide +kernel
  have hk : ("keep" : Str) ∈ named := by decide +kernel
  have hn : nameB "abcdefgh" = true := by decide +kernel
  have d1 : ¬ ("gather" : Str) = "lots" := by decide +kernel
  have d2 : ¬ ("keep" : Str) = "map" := by decide +kernel
  refine ⟨?_, by simp, ?_⟩
  · simp [okR, okS, hgS, hgR, hc, hg, hk, hn, d1, d2]
    decide
  · have e : lvR [.zip "b" [.zip "c" [.nu "lots" 4, .zip "d" [.nm "keep" "abcdefgh"]], .flat, .nu "gather" 4], .flat, .nu "gather" 4] = (["b", "c", "d"] : List Str) := by simp [lvR, lvS]
    rw [e]
    unfold LsOk
    decide +kernel
theorem dpa_str {H : Hp} : ∀ l : List Str, DpAll K H (l.map V.str) (l.map PyData.str)
  | [] => .nil
  | _ :: r => .cons (.str _) (dpa_str r)
theorem lay_str : ∀ l : List Str, (∀ x ∈ l, PyData.strOk x = true) → PyData.canLayAll0 (l.map PyData.str) = true ∧ PyData.depthAll (l.map PyData.str) = 0
  | [], _ => ⟨rfl, rfl⟩
  | j :: r, h => by
    obtain ⟨h1, h2⟩ := lay_str r fun x hx => h x (by simp [hx])
    have h0 := h j (by simp)
    exact ⟨by simp [PyData.canLayAll0, PyData.canLay0, h1, h0], by simp [PyData.depthAll, PyData.depth, h2]⟩
theorem shaped_str {l : List Str} (h : LsOk l) : SeqAt.shaped (.tuple (l.map PyData.str)) = true := by
  have key : ∀ s ∈ sources, PyData.strOk s = true := by decide +kernel
  obtain ⟨h1, h2⟩ := lay_str l fun x hx => key x (h.2 x hx)
  unfold SeqAt.shaped
  rw [Bool.and_eq_true]
  exact ⟨by simpa [PyData.canLay0] using h1, by simp [PyData.depth, h2]⟩
theorem pgp_ins {C : Addr} {H : Hp} {x : Str} {r : List Sx} {p : Addr} (h : PgP C K H x r p) : ∃ dx fs, H p = some (.ins C dx fs) := by
  obtain ⟨vs, ⟨dx, _, _, _, _, _, h1, _⟩, _⟩ := h
  exact ⟨dx, _, h1⟩
theorem d_law {fq : Addr} {fdq : FuncData} (F : FnP K "law" "law" slaw f fd) (gm : mg "law" = some (.ref f)) (T : Ty P w K mg base) (Z : Dl P w K mg base fq fdq) : FnOk P w K mg base CX0 20 f fd ["script"] (spLaw K) := by
  obtain ⟨D_L_source, D_L_mixed, D_L_plan, D_L_program, D_L_lines, D_L_depth, D_program_text, D_read_program, FE, EF, hbE, P_depth, P_sources⟩ := Z
  refine F.ok sclaw (fun vs H Q E h => ?_) (fun cdv A outer s H vs Q E hr h => ?_)
  · obtain ⟨_, _, rfl, _⟩ := h
    rfl
  · obtain ⟨a, ns, rfl, hS, hl, hb, k⟩ := h
    refine ⟨_, PSs.nox (pss_cons (ps_set (i := 1) sclaw.nd rfl (.inl rfl) (pe_tup (pa_cons pe_str (pa_cons (pe_tup (pa_cons (pe_tup (pa_cons pe_str (pa_cons (pe_tup (pa_cons pe_str (pa_cons (pe_tup (pa_cons (pe_tup (pa_cons pe_str (pa_cons pe_int pa_nil))) (pa_cons (pe_tup (pa_cons pe_str (pa_cons (pe_tup (pa_cons pe_str (pa_cons (pe_tup (pa_cons (pe_tup (pa_cons pe_str (pa_cons pe_str pa_nil))) pa_nil)) pa_nil))) pa_nil))) pa_nil))) pa_nil))) pa_nil))) (pa_cons (pe_tup (pa_cons pe_str pa_nil)) (pa_cons (pe_tup (pa_cons pe_str (pa_cons pe_int pa_nil))) pa_nil)))) pa_nil))))
  (pss_cons (ps_set (i := 2) sclaw.nd rfl (.inl rfl) (pe_lst (pa_cons (pe_tup (pa_cons pe_str (pa_cons (pe_tup pa_nil) pa_nil))) (pa_cons (pe_tup (pa_cons pe_str (pa_cons (pe_op op_catA (pe_op op_repT (pe_tup (pa_cons (pe_tup (pa_cons pe_str (pa_cons pe_int pa_nil))) pa_nil)) pe_int) (pe_op op_repT (pe_tup (pa_cons (pe_tup (pa_cons pe_str pa_nil)) pa_nil)) pe_int)) pa_nil))) (pa_cons (pe_tup (pa_cons pe_str (pa_cons (pe_op op_catA (pe_tup (pa_cons (pe_tup (pa_cons pe_str (pa_cons (pv 1) pa_nil))) pa_nil)) (pe_slice sl_tupA (pe_ix ix_tup (pv 1) pe_int (fun _ _ => rfl)) (po_some pe_int) po_none)) pa_nil))) pa_nil)))))
  (pss_cons (ps_for PassesOwn.never rfl (pi_range1 (by rfl) T.z_range (pa_cons (pe_callB (call_max2 rfl) (by rfl) T.z_max (by decide +kernel) (pa_cons pe_int (pa_cons (pe_callB (call_min2 rfl) (by rfl) T.z_min (by decide +kernel) (pa_cons pe_int (pa_cons (pe_callB call_len (by rfl) T.z_len PySem.boot_len (pa_cons (pv 0) pa_nil)) pa_nil))) pa_nil))) pa_nil)) (pg_name (i := 3) sclaw.nd rfl (.inl rfl))
  (pss_cons (ps_set (i := 4) sclaw.nd rfl (.inr rfl) (pe_d D_L_source (hr.mono (by decide)) pass0 (pa_cons (pv 0) (pa_cons (pv 3) pa_nil))))
  (pss_cons (ps_setLc (i := 5) (own := [("turn", 6)]) (g := gName 6) (tt := tYes) (by rfl) sclaw.nd rfl rfl (sw_true rfl rfl rfl (by decide +kernel)) (pi_range1 (by rfl) T.z_range (pa_cons pe_int pa_nil)) (blkOk_by (own := [("turn", 6)]) (N := ["script", "deep", "typed", "start", "source", "some", "turn", "plan", "one", "due"]) (sc := defScope slaw) (by decide +kernel)) (fun _ _ _ _ _ => pg_name (i := 6) sclaw.nd rfl (Or.inl rfl)) (fun _ _ _ _ _ => pts_nil) (fun _ _ _ _ _ => (pe_d D_L_plan (hr.mono (by decide)) pass0 (pa_cons (pv 4) (pa_cons (pe_d D_L_mixed (hr.mono (by decide)) pass0 (pa_cons (pv 4) (pa_cons (pe_lst (pa_cons pe_str (pa_cons pe_str (pa_cons pe_str (pa_cons pe_str pa_nil))))) pa_nil))) (pa_cons pe_int pa_nil))))))
  (pss_one (ps_for PassesOwn.never rfl (pi_list (pe_op op_cat (pv 5) (pv 2))) (pg_name (i := 7) sclaw.nd rfl (.inl rfl))
  (pss_cons (ps_par (i := 8) (j := 9) (by rfl) sclaw.nd rfl rfl (by decide) rfl rfl (pa_cons (pe_d D_L_program (hr.mono (by decide)) pass0 (pa_cons (pv 7) pa_nil)) (pa_cons (pe_join pe_str (pe_d D_L_lines (hr.mono (by decide)) pass0 (pa_cons (pv 7) pa_nil))) pa_nil)) (by rfl))
  (pss_cons (ps_if (PW.pt (pw_or (pt_cmpR op_ne (pe_d D_program_text (hr.mono (by decide)) pass0 (pa_cons (pv 8) pa_nil)) (pv 9) (nomark _)) (pw_or1 (pt_cmpR op_ne (pe_d D_program_text (hr.mono (by decide)) pass0 (pa_cons (pv 8) pa_nil)) (pv 9) (nomark _))))) (pss_one (ps_ret pe_bl))
  pss_nil)
  (pss_cons (ps_if (PW.pt (pw_or (pt_cmpR (op_neI FE (hr.mono (by decide)) EF.hs EF.hf EF.hne EF.hm hbE pass0) (pe_d D_read_program (hr.mono (by decide)) (passX rfl rfl) (pa_cons (pv 9) pa_nil)) (pv 8) (nomark _)) (pw_or (pt_cmpR (op_neI FE (hr.mono (by decide)) EF.hs EF.hf EF.hne EF.hm hbE pass0) (pe_d D_read_program (hr.mono (by decide)) (passX rfl rfl) (pa_cons (pv 9) pa_nil)) (pv 8) (nomark _)) (pw_or1 (pt_cmpR op_ne (pe_d D_program_text (hr.mono (by decide)) pass0 (pa_cons (pe_d D_read_program (hr.mono (by decide)) (passX rfl rfl) (pa_cons (pv 9) pa_nil)) pa_nil)) (pv 9) (nomark _)))))) (pss_one (ps_ret pe_bl))
  pss_nil)
  (pss_one (ps_if (PW.pt (pw_or (pt_cmpR op_ne (pe_pp P_depth (hr.mono (by decide)) pass0 (pe_d D_read_program (hr.mono (by decide)) (passX rfl rfl) (pa_cons (pv 9) pa_nil))) (pe_d D_L_depth (hr.mono (by decide)) pass0 (pa_cons (pv 7) pa_nil)) (nomark _)) (pw_or1 (pt_cmpR (op_neD hr.units) (pe_pp P_sources (hr.mono (by decide)) pass0 (pe_d D_read_program (hr.mono (by decide)) (passX rfl rfl) (pa_cons (pv 9) pa_nil))) (pe_pp P_sources (hr.mono (by decide)) pass0 (pv 8)) (nomark _))))) (pss_one (ps_ret pe_bl))
  pss_nil))))))))))
  (pss_one (ps_ret pe_bl))))), ?_⟩
    refine ⟨szl rfl, fun p1 hp1 => ?_⟩
    have sp1 := same_upd (o := .tup [.str "lots", .int 4]) hp1
    have qp1 : SqT K (upd H p1 (.tup [.str "lots", .int 4])) p1 [.str "lots", .int 4] := SqT.of upd_same
    generalize upd H p1 (.tup [.str "lots", .int 4]) = Gp1 at sp1 qp1 ⊢
    have sm := sp1
    clear sp1 hp1
    refine ⟨szl rfl, fun p2 hp2 => ?_⟩
    have sp2 := same_upd (o := .tup [.str "keep", .str "abcdefgh"]) hp2
    have qp2 : SqT K (upd Gp1 p2 (.tup [.str "keep", .str "abcdefgh"])) p2 [.str "keep", .str "abcdefgh"] := SqT.of upd_same
    generalize upd Gp1 p2 (.tup [.str "keep", .str "abcdefgh"]) = Gp2 at sp2 qp2 ⊢
    replace qp1 := sqT_same sp2 qp1
    replace sm := same_trans sm sp2
    clear sp2 hp2
    refine ⟨szl rfl, fun p3 hp3 => ?_⟩
    have sp3 := same_upd (o := .tup [.ref p2]) hp3
    have qp3 : SqT K (upd Gp2 p3 (.tup [.ref p2])) p3 [.ref p2] := SqT.of upd_same
    generalize upd Gp2 p3 (.tup [.ref p2]) = Gp3 at sp3 qp3 ⊢
    replace qp1 := sqT_same sp3 qp1
    replace qp2 := sqT_same sp3 qp2
    replace sm := same_trans sm sp3
    clear sp3 hp3
    refine ⟨szl rfl, fun p4 hp4 => ?_⟩
    have sp4 := same_upd (o := .tup [.str "d", .ref p3]) hp4
    have qp4 : SqT K (upd Gp3 p4 (.tup [.str "d", .ref p3])) p4 [.str "d", .ref p3] := SqT.of upd_same
    generalize upd Gp3 p4 (.tup [.str "d", .ref p3]) = Gp4 at sp4 qp4 ⊢
    replace qp1 := sqT_same sp4 qp1
    replace qp2 := sqT_same sp4 qp2
    replace qp3 := sqT_same sp4 qp3
    replace sm := same_trans sm sp4
    clear sp4 hp4
    refine ⟨szl rfl, fun p5 hp5 => ?_⟩
    have sp5 := same_upd (o := .tup [.str "zip", .ref p4]) hp5
    have qp5 : SqT K (upd Gp4 p5 (.tup [.str "zip", .ref p4])) p5 [.str "zip", .ref p4] := SqT.of upd_same
    generalize upd Gp4 p5 (.tup [.str "zip", .ref p4]) = Gp5 at sp5 qp5 ⊢
    replace qp1 := sqT_same sp5 qp1
    replace qp2 := sqT_same sp5 qp2
    replace qp3 := sqT_same sp5 qp3
    replace qp4 := sqT_same sp5 qp4
    replace sm := same_trans sm sp5
    clear sp5 hp5
    refine ⟨szl rfl, fun p6 hp6 => ?_⟩
    have sp6 := same_upd (o := .tup [.ref p1, .ref p5]) hp6
    have qp6 : SqT K (upd Gp5 p6 (.tup [.ref p1, .ref p5])) p6 [.ref p1, .ref p5] := SqT.of upd_same
    generalize upd Gp5 p6 (.tup [.ref p1, .ref p5]) = Gp6 at sp6 qp6 ⊢
    replace qp1 := sqT_same sp6 qp1
    replace qp2 := sqT_same sp6 qp2
    replace qp3 := sqT_same sp6 qp3
    replace qp4 := sqT_same sp6 qp4
    replace qp5 := sqT_same sp6 qp5
    replace sm := same_trans sm sp6
    clear sp6 hp6
    refine ⟨szl rfl, fun p7 hp7 => ?_⟩
    have sp7 := same_upd (o := .tup [.str "c", .ref p6]) hp7
    have qp7 : SqT K (upd Gp6 p7 (.tup [.str "c", .ref p6])) p7 [.str "c", .ref p6] := SqT.of upd_same
    generalize upd Gp6 p7 (.tup [.str "c", .ref p6]) = Gp7 at sp7 qp7 ⊢
    replace qp1 := sqT_same sp7 qp1
    replace qp2 := sqT_same sp7 qp2
    replace qp3 := sqT_same sp7 qp3
    replace qp4 := sqT_same sp7 qp4
    replace qp5 := sqT_same sp7 qp5
    replace qp6 := sqT_same sp7 qp6
    replace sm := same_trans sm sp7
    clear sp7 hp7
    refine ⟨szl rfl, fun p8 hp8 => ?_⟩
    have sp8 := same_upd (o := .tup [.str "zip", .ref p7]) hp8
    have qp8 : SqT K (upd Gp7 p8 (.tup [.str "zip", .ref p7])) p8 [.str "zip", .ref p7] := SqT.of upd_same
    generalize upd Gp7 p8 (.tup [.str "zip", .ref p7]) = Gp8 at sp8 qp8 ⊢
    replace qp1 := sqT_same sp8 qp1
    replace qp2 := sqT_same sp8 qp2
    replace qp3 := sqT_same sp8 qp3
    replace qp4 := sqT_same sp8 qp4
    replace qp5 := sqT_same sp8 qp5
    replace qp6 := sqT_same sp8 qp6
    replace qp7 := sqT_same sp8 qp7
    replace sm := same_trans sm sp8
    clear sp8 hp8
    refine ⟨szl rfl, fun p9 hp9 => ?_⟩
    have sp9 := same_upd (o := .tup [.str "flat"]) hp9
    have qp9 : SqT K (upd Gp8 p9 (.tup [.str "flat"])) p9 [.str "flat"] := SqT.of upd_same
    generalize upd Gp8 p9 (.tup [.str "flat"]) = Gp9 at sp9 qp9 ⊢
    replace qp1 := sqT_same sp9 qp1
    replace qp2 := sqT_same sp9 qp2
    replace qp3 := sqT_same sp9 qp3
    replace qp4 := sqT_same sp9 qp4
    replace qp5 := sqT_same sp9 qp5
    replace qp6 := sqT_same sp9 qp6
    replace qp7 := sqT_same sp9 qp7
    replace qp8 := sqT_same sp9 qp8
    replace sm := same_trans sm sp9
    clear sp9 hp9
    refine ⟨szl rfl, fun p10 hp10 => ?_⟩
    have sp10 := same_upd (o := .tup [.str "gather", .int 4]) hp10
    have qp10 : SqT K (upd Gp9 p10 (.tup [.str "gather", .int 4])) p10 [.str "gather", .int 4] := SqT.of upd_same
    generalize upd Gp9 p10 (.tup [.str "gather", .int 4]) = Gp10 at sp10 qp10 ⊢
    replace qp1 := sqT_same sp10 qp1
    replace qp2 := sqT_same sp10 qp2
    replace qp3 := sqT_same sp10 qp3
    replace qp4 := sqT_same sp10 qp4
    replace qp5 := sqT_same sp10 qp5
    replace qp6 := sqT_same sp10 qp6
    replace qp7 := sqT_same sp10 qp7
    replace qp8 := sqT_same sp10 qp8
    replace qp9 := sqT_same sp10 qp9
    replace sm := same_trans sm sp10
    clear sp10 hp10
    refine ⟨szl rfl, fun p11 hp11 => ?_⟩
    have sp11 := same_upd (o := .tup [.ref p8, .ref p9, .ref p10]) hp11
    have qp11 : SqT K (upd Gp10 p11 (.tup [.ref p8, .ref p9, .ref p10])) p11 [.ref p8, .ref p9, .ref p10] := SqT.of upd_same
    generalize upd Gp10 p11 (.tup [.ref p8, .ref p9, .ref p10]) = Gp11 at sp11 qp11 ⊢
    replace qp1 := sqT_same sp11 qp1
    replace qp2 := sqT_same sp11 qp2
    replace qp3 := sqT_same sp11 qp3
    replace qp4 := sqT_same sp11 qp4
    replace qp5 := sqT_same sp11 qp5
    replace qp6 := sqT_same sp11 qp6
    replace qp7 := sqT_same sp11 qp7
    replace qp8 := sqT_same sp11 qp8
    replace qp9 := sqT_same sp11 qp9
    replace qp10 := sqT_same sp11 qp10
    replace sm := same_trans sm sp11
    clear sp11 hp11
    refine ⟨szl rfl, fun p12 hp12 => ?_⟩
    have sp12 := same_upd (o := .tup [.str "b", .ref p11]) hp12
    have qp12 : SqT K (upd Gp11 p12 (.tup [.str "b", .ref p11])) p12 [.str "b", .ref p11] := SqT.of upd_same
    generalize upd Gp11 p12 (.tup [.str "b", .ref p11]) = Gp12 at sp12 qp12 ⊢
    replace qp1 := sqT_same sp12 qp1
    replace qp2 := sqT_same sp12 qp2
    replace qp3 := sqT_same sp12 qp3
    replace qp4 := sqT_same sp12 qp4
    replace qp5 := sqT_same sp12 qp5
    replace qp6 := sqT_same sp12 qp6
    replace qp7 := sqT_same sp12 qp7
    replace qp8 := sqT_same sp12 qp8
    replace qp9 := sqT_same sp12 qp9
    replace qp10 := sqT_same sp12 qp10
    replace qp11 := sqT_same sp12 qp11
    replace sm := same_trans sm sp12
    clear sp12 hp12
    refine ⟨szl rfl, fun t1 ht1 => ?_⟩
    have st1 := same_upd (o := .tup []) ht1
    have qt1 : SqT K (upd Gp12 t1 (.tup [])) t1 [] := SqT.of upd_same
    generalize upd Gp12 t1 (.tup []) = Gt1 at st1 qt1 ⊢
    replace qp1 := sqT_same st1 qp1
    replace qp2 := sqT_same st1 qp2
    replace qp3 := sqT_same st1 qp3
    replace qp4 := sqT_same st1 qp4
    replace qp5 := sqT_same st1 qp5
    replace qp6 := sqT_same st1 qp6
    replace qp7 := sqT_same st1 qp7
    replace qp8 := sqT_same st1 qp8
    replace qp9 := sqT_same st1 qp9
    replace qp10 := sqT_same st1 qp10
    replace qp11 := sqT_same st1 qp11
    replace qp12 := sqT_same st1 qp12
    replace sm := same_trans sm st1
    clear st1 ht1
    refine ⟨szl rfl, fun t2 ht2 => ?_⟩
    have st2 := same_upd (o := .tup [.str "a", .ref t1]) ht2
    have qt2 : SqT K (upd Gt1 t2 (.tup [.str "a", .ref t1])) t2 [.str "a", .ref t1] := SqT.of upd_same
    generalize upd Gt1 t2 (.tup [.str "a", .ref t1]) = Gt2 at st2 qt2 ⊢
    replace qp1 := sqT_same st2 qp1
    replace qp2 := sqT_same st2 qp2
    replace qp3 := sqT_same st2 qp3
    replace qp4 := sqT_same st2 qp4
    replace qp5 := sqT_same st2 qp5
    replace qp6 := sqT_same st2 qp6
    replace qp7 := sqT_same st2 qp7
    replace qp8 := sqT_same st2 qp8
    replace qp9 := sqT_same st2 qp9
    replace qp10 := sqT_same st2 qp10
    replace qp11 := sqT_same st2 qp11
    replace qp12 := sqT_same st2 qp12
    replace qt1 := sqT_same st2 qt1
    replace sm := same_trans sm st2
    clear st2 ht2
    refine ⟨szl rfl, fun t3 ht3 => ?_⟩
    have st3 := same_upd (o := .tup [.str "lots", .int 1]) ht3
    have qt3 : SqT K (upd Gt2 t3 (.tup [.str "lots", .int 1])) t3 [.str "lots", .int 1] := SqT.of upd_same
    generalize upd Gt2 t3 (.tup [.str "lots", .int 1]) = Gt3 at st3 qt3 ⊢
    replace qp1 := sqT_same st3 qp1
    replace qp2 := sqT_same st3 qp2
    replace qp3 := sqT_same st3 qp3
    replace qp4 := sqT_same st3 qp4
    replace qp5 := sqT_same st3 qp5
    replace qp6 := sqT_same st3 qp6
    replace qp7 := sqT_same st3 qp7
    replace qp8 := sqT_same st3 qp8
    replace qp9 := sqT_same st3 qp9
    replace qp10 := sqT_same st3 qp10
    replace qp11 := sqT_same st3 qp11
    replace qp12 := sqT_same st3 qp12
    replace qt1 := sqT_same st3 qt1
    replace qt2 := sqT_same st3 qt2
    replace sm := same_trans sm st3
    clear st3 ht3
    refine ⟨szl rfl, fun t4 ht4 => ?_⟩
    have st4 := same_upd (o := .tup [.ref t3]) ht4
    have qt4 : SqT K (upd Gt3 t4 (.tup [.ref t3])) t4 [.ref t3] := SqT.of upd_same
    generalize upd Gt3 t4 (.tup [.ref t3]) = Gt4 at st4 qt4 ⊢
    replace qp1 := sqT_same st4 qp1
    replace qp2 := sqT_same st4 qp2
    replace qp3 := sqT_same st4 qp3
    replace qp4 := sqT_same st4 qp4
    replace qp5 := sqT_same st4 qp5
    replace qp6 := sqT_same st4 qp6
    replace qp7 := sqT_same st4 qp7
    replace qp8 := sqT_same st4 qp8
    replace qp9 := sqT_same st4 qp9
    replace qp10 := sqT_same st4 qp10
    replace qp11 := sqT_same st4 qp11
    replace qp12 := sqT_same st4 qp12
    replace qt1 := sqT_same st4 qt1
    replace qt2 := sqT_same st4 qt2
    replace qt3 := sqT_same st4 qt3
    replace sm := same_trans sm st4
    clear st4 ht4
    refine ⟨_, _, _, rfl, rfl, qt4, (by simp), (by decide), (by decide), (by show 1 ≤ 1000; decide), fun t5 ht5 => ?_⟩
    have et5 : (HO.tup ((List.replicate ((3 : Int).toNat) [V.ref t3]).flatten)) = .tup [.ref t3, .ref t3, .ref t3] := rfl
    rw [et5]
    have st5 := same_upd (o := .tup [.ref t3, .ref t3, .ref t3]) ht5
    have qt5 : SqT K (upd Gt4 t5 (.tup [.ref t3, .ref t3, .ref t3])) t5 [.ref t3, .ref t3, .ref t3] := SqT.of upd_same
    generalize upd Gt4 t5 (.tup [.ref t3, .ref t3, .ref t3]) = Gt5 at st5 qt5 ⊢
    replace qp1 := sqT_same st5 qp1
    replace qp2 := sqT_same st5 qp2
    replace qp3 := sqT_same st5 qp3
    replace qp4 := sqT_same st5 qp4
    replace qp5 := sqT_same st5 qp5
    replace qp6 := sqT_same st5 qp6
    replace qp7 := sqT_same st5 qp7
    replace qp8 := sqT_same st5 qp8
    replace qp9 := sqT_same st5 qp9
    replace qp10 := sqT_same st5 qp10
    replace qp11 := sqT_same st5 qp11
    replace qp12 := sqT_same st5 qp12
    replace qt1 := sqT_same st5 qt1
    replace qt2 := sqT_same st5 qt2
    replace qt3 := sqT_same st5 qt3
    replace qt4 := sqT_same st5 qt4
    replace sm := same_trans sm st5
    clear st5 ht5
    refine ⟨szl rfl, fun t6 ht6 => ?_⟩
    have st6 := same_upd (o := .tup [.str "flat"]) ht6
    have qt6 : SqT K (upd Gt5 t6 (.tup [.str "flat"])) t6 [.str "flat"] := SqT.of upd_same
    generalize upd Gt5 t6 (.tup [.str "flat"]) = Gt6 at st6 qt6 ⊢
    replace qp1 := sqT_same st6 qp1
    replace qp2 := sqT_same st6 qp2
    replace qp3 := sqT_same st6 qp3
    replace qp4 := sqT_same st6 qp4
    replace qp5 := sqT_same st6 qp5
    replace qp6 := sqT_same st6 qp6
    replace qp7 := sqT_same st6 qp7
    replace qp8 := sqT_same st6 qp8
    replace qp9 := sqT_same st6 qp9
    replace qp10 := sqT_same st6 qp10
    replace qp11 := sqT_same st6 qp11
    replace qp12 := sqT_same st6 qp12
    replace qt1 := sqT_same st6 qt1
    replace qt2 := sqT_same st6 qt2
    replace qt3 := sqT_same st6 qt3
    replace qt4 := sqT_same st6 qt4
    replace qt5 := sqT_same st6 qt5
    replace sm := same_trans sm st6
    clear st6 ht6
    refine ⟨szl rfl, fun t7 ht7 => ?_⟩
    have st7 := same_upd (o := .tup [.ref t6]) ht7
    have qt7 : SqT K (upd Gt6 t7 (.tup [.ref t6])) t7 [.ref t6] := SqT.of upd_same
    generalize upd Gt6 t7 (.tup [.ref t6]) = Gt7 at st7 qt7 ⊢
    replace qp1 := sqT_same st7 qp1
    replace qp2 := sqT_same st7 qp2
    replace qp3 := sqT_same st7 qp3
    replace qp4 := sqT_same st7 qp4
    replace qp5 := sqT_same st7 qp5
    replace qp6 := sqT_same st7 qp6
    replace qp7 := sqT_same st7 qp7
    replace qp8 := sqT_same st7 qp8
    replace qp9 := sqT_same st7 qp9
    replace qp10 := sqT_same st7 qp10
    replace qp11 := sqT_same st7 qp11
    replace qp12 := sqT_same st7 qp12
    replace qt1 := sqT_same st7 qt1
    replace qt2 := sqT_same st7 qt2
    replace qt3 := sqT_same st7 qt3
    replace qt4 := sqT_same st7 qt4
    replace qt5 := sqT_same st7 qt5
    replace qt6 := sqT_same st7 qt6
    replace sm := same_trans sm st7
    clear st7 ht7
    refine ⟨_, _, _, rfl, rfl, qt7, (by simp), (by decide), (by decide), (by show 1 ≤ 1000; decide), fun t8 ht8 => ?_⟩
    have et8 : (HO.tup ((List.replicate ((3 : Int).toNat) [V.ref t6]).flatten)) = .tup [.ref t6, .ref t6, .ref t6] := rfl
    rw [et8]
    have st8 := same_upd (o := .tup [.ref t6, .ref t6, .ref t6]) ht8
    have qt8 : SqT K (upd Gt7 t8 (.tup [.ref t6, .ref t6, .ref t6])) t8 [.ref t6, .ref t6, .ref t6] := SqT.of upd_same
    generalize upd Gt7 t8 (.tup [.ref t6, .ref t6, .ref t6]) = Gt8 at st8 qt8 ⊢
    replace qp1 := sqT_same st8 qp1
    replace qp2 := sqT_same st8 qp2
    replace qp3 := sqT_same st8 qp3
    replace qp4 := sqT_same st8 qp4
    replace qp5 := sqT_same st8 qp5
    replace qp6 := sqT_same st8 qp6
    replace qp7 := sqT_same st8 qp7
    replace qp8 := sqT_same st8 qp8
    replace qp9 := sqT_same st8 qp9
    replace qp10 := sqT_same st8 qp10
    replace qp11 := sqT_same st8 qp11
    replace qp12 := sqT_same st8 qp12
    replace qt1 := sqT_same st8 qt1
    replace qt2 := sqT_same st8 qt2
    replace qt3 := sqT_same st8 qt3
    replace qt4 := sqT_same st8 qt4
    replace qt5 := sqT_same st8 qt5
    replace qt6 := sqT_same st8 qt6
    replace qt7 := sqT_same st8 qt7
    replace sm := same_trans sm st8
    clear st8 ht8
    refine ⟨_, _, _, _, rfl, rfl, qt5, qt8, szl rfl, (fun z => nomatch z), (fun _ z => nomatch z), fun _ _ t9 ht9 => ?_⟩
    have et9 : (HO.tup ([V.ref t3, V.ref t3, V.ref t3] ++ [V.ref t6, V.ref t6, V.ref t6])) = .tup [.ref t3, .ref t3, .ref t3, .ref t6, .ref t6, .ref t6] := rfl
    rw [et9]
    have st9 := same_upd (o := .tup [.ref t3, .ref t3, .ref t3, .ref t6, .ref t6, .ref t6]) ht9
    have qt9 : SqT K (upd Gt8 t9 (.tup [.ref t3, .ref t3, .ref t3, .ref t6, .ref t6, .ref t6])) t9 [.ref t3, .ref t3, .ref t3, .ref t6, .ref t6, .ref t6] := SqT.of upd_same
    generalize upd Gt8 t9 (.tup [.ref t3, .ref t3, .ref t3, .ref t6, .ref t6, .ref t6]) = Gt9 at st9 qt9 ⊢
    replace qp1 := sqT_same st9 qp1
    replace qp2 := sqT_same st9 qp2
    replace qp3 := sqT_same st9 qp3
    replace qp4 := sqT_same st9 qp4
    replace qp5 := sqT_same st9 qp5
    replace qp6 := sqT_same st9 qp6
    replace qp7 := sqT_same st9 qp7
    replace qp8 := sqT_same st9 qp8
    replace qp9 := sqT_same st9 qp9
    replace qp10 := sqT_same st9 qp10
    replace qp11 := sqT_same st9 qp11
    replace qp12 := sqT_same st9 qp12
    replace qt1 := sqT_same st9 qt1
    replace qt2 := sqT_same st9 qt2
    replace qt3 := sqT_same st9 qt3
    replace qt4 := sqT_same st9 qt4
    replace qt5 := sqT_same st9 qt5
    replace qt6 := sqT_same st9 qt6
    replace qt7 := sqT_same st9 qt7
    replace qt8 := sqT_same st9 qt8
    replace sm := same_trans sm st9
    clear st9 ht9
    refine ⟨szl rfl, fun t10 ht10 => ?_⟩
    have st10 := same_upd (o := .tup [.str "d", .ref t9]) ht10
    have qt10 : SqT K (upd Gt9 t10 (.tup [.str "d", .ref t9])) t10 [.str "d", .ref t9] := SqT.of upd_same
    generalize upd Gt9 t10 (.tup [.str "d", .ref t9]) = Gt10 at st10 qt10 ⊢
    replace qp1 := sqT_same st10 qp1
    replace qp2 := sqT_same st10 qp2
    replace qp3 := sqT_same st10 qp3
    replace qp4 := sqT_same st10 qp4
    replace qp5 := sqT_same st10 qp5
    replace qp6 := sqT_same st10 qp6
    replace qp7 := sqT_same st10 qp7
    replace qp8 := sqT_same st10 qp8
    replace qp9 := sqT_same st10 qp9
    replace qp10 := sqT_same st10 qp10
    replace qp11 := sqT_same st10 qp11
    replace qp12 := sqT_same st10 qp12
    replace qt1 := sqT_same st10 qt1
    replace qt2 := sqT_same st10 qt2
    replace qt3 := sqT_same st10 qt3
    replace qt4 := sqT_same st10 qt4
    replace qt5 := sqT_same st10 qt5
    replace qt6 := sqT_same st10 qt6
    replace qt7 := sqT_same st10 qt7
    replace qt8 := sqT_same st10 qt8
    replace qt9 := sqT_same st10 qt9
    replace sm := same_trans sm st10
    clear st10 ht10
    refine ⟨_, rfl, szl rfl, fun t11 ht11 => ?_⟩
    have st11 := same_upd (o := .tup [.str "zip", .ref p12]) ht11
    have qt11 : SqT K (upd Gt10 t11 (.tup [.str "zip", .ref p12])) t11 [.str "zip", .ref p12] := SqT.of upd_same
    generalize upd Gt10 t11 (.tup [.str "zip", .ref p12]) = Gt11 at st11 qt11 ⊢
    replace qp1 := sqT_same st11 qp1
    replace qp2 := sqT_same st11 qp2
    replace qp3 := sqT_same st11 qp3
    replace qp4 := sqT_same st11 qp4
    replace qp5 := sqT_same st11 qp5
    replace qp6 := sqT_same st11 qp6
    replace qp7 := sqT_same st11 qp7
    replace qp8 := sqT_same st11 qp8
    replace qp9 := sqT_same st11 qp9
    replace qp10 := sqT_same st11 qp10
    replace qp11 := sqT_same st11 qp11
    replace qp12 := sqT_same st11 qp12
    replace qt1 := sqT_same st11 qt1
    replace qt2 := sqT_same st11 qt2
    replace qt3 := sqT_same st11 qt3
    replace qt4 := sqT_same st11 qt4
    replace qt5 := sqT_same st11 qt5
    replace qt6 := sqT_same st11 qt6
    replace qt7 := sqT_same st11 qt7
    replace qt8 := sqT_same st11 qt8
    replace qt9 := sqT_same st11 qt9
    replace qt10 := sqT_same st11 qt10
    replace sm := same_trans sm st11
    clear st11 ht11
    refine ⟨szl rfl, fun t12 ht12 => ?_⟩
    have st12 := same_upd (o := .tup [.ref t11]) ht12
    have qt12 : SqT K (upd Gt11 t12 (.tup [.ref t11])) t12 [.ref t11] := SqT.of upd_same
    generalize upd Gt11 t12 (.tup [.ref t11]) = Gt12 at st12 qt12 ⊢
    replace qp1 := sqT_same st12 qp1
    replace qp2 := sqT_same st12 qp2
    replace qp3 := sqT_same st12 qp3
    replace qp4 := sqT_same st12 qp4
    replace qp5 := sqT_same st12 qp5
    replace qp6 := sqT_same st12 qp6
    replace qp7 := sqT_same st12 qp7
    replace qp8 := sqT_same st12 qp8
    replace qp9 := sqT_same st12 qp9
    replace qp10 := sqT_same st12 qp10
    replace qp11 := sqT_same st12 qp11
    replace qp12 := sqT_same st12 qp12
    replace qt1 := sqT_same st12 qt1
    replace qt2 := sqT_same st12 qt2
    replace qt3 := sqT_same st12 qt3
    replace qt4 := sqT_same st12 qt4
    replace qt5 := sqT_same st12 qt5
    replace qt6 := sqT_same st12 qt6
    replace qt7 := sqT_same st12 qt7
    replace qt8 := sqT_same st12 qt8
    replace qt9 := sqT_same st12 qt9
    replace qt10 := sqT_same st12 qt10
    replace qt11 := sqT_same st12 qt11
    replace sm := same_trans sm st12
    clear st12 ht12
    refine ⟨_, rfl, _, _, _, _, rfl, rfl, qp12, atI_nat (j := 1) rfl, _, rfl, _, _, rfl, qp11, (fun z => absurd z.1 (by show ¬ HT.sIx 3 0 (some 1) = 0; decide)), fun _ t13 ht13 => ?_⟩
    have et13 : (HO.tup (cutV [V.ref p8, V.ref p9, V.ref p10] (some 1) none)) = .tup [.ref p9, .ref p10] := rfl
    rw [et13]
    have st13 := same_upd (o := .tup [.ref p9, .ref p10]) ht13
    have qt13 : SqT K (upd Gt12 t13 (.tup [.ref p9, .ref p10])) t13 [.ref p9, .ref p10] := SqT.of upd_same
    generalize upd Gt12 t13 (.tup [.ref p9, .ref p10]) = Gt13 at st13 qt13 ⊢
    replace qp1 := sqT_same st13 qp1
    replace qp2 := sqT_same st13 qp2
    replace qp3 := sqT_same st13 qp3
    replace qp4 := sqT_same st13 qp4
    replace qp5 := sqT_same st13 qp5
    replace qp6 := sqT_same st13 qp6
    replace qp7 := sqT_same st13 qp7
    replace qp8 := sqT_same st13 qp8
    replace qp9 := sqT_same st13 qp9
    replace qp10 := sqT_same st13 qp10
    replace qp11 := sqT_same st13 qp11
    replace qp12 := sqT_same st13 qp12
    replace qt1 := sqT_same st13 qt1
    replace qt2 := sqT_same st13 qt2
    replace qt3 := sqT_same st13 qt3
    replace qt4 := sqT_same st13 qt4
    replace qt5 := sqT_same st13 qt5
    replace qt6 := sqT_same st13 qt6
    replace qt7 := sqT_same st13 qt7
    replace qt8 := sqT_same st13 qt8
    replace qt9 := sqT_same st13 qt9
    replace qt10 := sqT_same st13 qt10
    replace qt11 := sqT_same st13 qt11
    replace qt12 := sqT_same st13 qt12
    replace sm := same_trans sm st13
    clear st13 ht13
    refine ⟨_, _, _, _, rfl, rfl, qt12, qt13, szl rfl, (fun z => nomatch z), (fun _ z => nomatch z), fun _ _ t14 ht14 => ?_⟩
    have et14 : (HO.tup ([V.ref t11] ++ [V.ref p9, V.ref p10])) = .tup [.ref t11, .ref p9, .ref p10] := rfl
    rw [et14]
    have st14 := same_upd (o := .tup [.ref t11, .ref p9, .ref p10]) ht14
    have qt14 : SqT K (upd Gt13 t14 (.tup [.ref t11, .ref p9, .ref p10])) t14 [.ref t11, .ref p9, .ref p10] := SqT.of upd_same
    generalize upd Gt13 t14 (.tup [.ref t11, .ref p9, .ref p10]) = Gt14 at st14 qt14 ⊢
    replace qp1 := sqT_same st14 qp1
    replace qp2 := sqT_same st14 qp2
    replace qp3 := sqT_same st14 qp3
    replace qp4 := sqT_same st14 qp4
    replace qp5 := sqT_same st14 qp5
    replace qp6 := sqT_same st14 qp6
    replace qp7 := sqT_same st14 qp7
    replace qp8 := sqT_same st14 qp8
    replace qp9 := sqT_same st14 qp9
    replace qp10 := sqT_same st14 qp10
    replace qp11 := sqT_same st14 qp11
    replace qp12 := sqT_same st14 qp12
    replace qt1 := sqT_same st14 qt1
    replace qt2 := sqT_same st14 qt2
    replace qt3 := sqT_same st14 qt3
    replace qt4 := sqT_same st14 qt4
    replace qt5 := sqT_same st14 qt5
    replace qt6 := sqT_same st14 qt6
    replace qt7 := sqT_same st14 qt7
    replace qt8 := sqT_same st14 qt8
    replace qt9 := sqT_same st14 qt9
    replace qt10 := sqT_same st14 qt10
    replace qt11 := sqT_same st14 qt11
    replace qt12 := sqT_same st14 qt12
    replace qt13 := sqT_same st14 qt13
    replace sm := same_trans sm st14
    clear st14 ht14
    refine ⟨szl rfl, fun t15 ht15 => ?_⟩
    have st15 := same_upd (o := .tup [.str "a", .ref t14]) ht15
    have qt15 : SqT K (upd Gt14 t15 (.tup [.str "a", .ref t14])) t15 [.str "a", .ref t14] := SqT.of upd_same
    generalize upd Gt14 t15 (.tup [.str "a", .ref t14]) = Gt15 at st15 qt15 ⊢
    replace qp1 := sqT_same st15 qp1
    replace qp2 := sqT_same st15 qp2
    replace qp3 := sqT_same st15 qp3
    replace qp4 := sqT_same st15 qp4
    replace qp5 := sqT_same st15 qp5
    replace qp6 := sqT_same st15 qp6
    replace qp7 := sqT_same st15 qp7
    replace qp8 := sqT_same st15 qp8
    replace qp9 := sqT_same st15 qp9
    replace qp10 := sqT_same st15 qp10
    replace qp11 := sqT_same st15 qp11
    replace qp12 := sqT_same st15 qp12
    replace qt1 := sqT_same st15 qt1
    replace qt2 := sqT_same st15 qt2
    replace qt3 := sqT_same st15 qt3
    replace qt4 := sqT_same st15 qt4
    replace qt5 := sqT_same st15 qt5
    replace qt6 := sqT_same st15 qt6
    replace qt7 := sqT_same st15 qt7
    replace qt8 := sqT_same st15 qt8
    replace qt9 := sqT_same st15 qt9
    replace qt10 := sqT_same st15 qt10
    replace qt11 := sqT_same st15 qt11
    replace qt12 := sqT_same st15 qt12
    replace qt13 := sqT_same st15 qt13
    replace qt14 := sqT_same st15 qt14
    replace sm := same_trans sm st15
    clear st15 ht15

    refine ⟨szl rfl, fun ty hty => ?_⟩
    have e3 : [V.ref t2, V.ref t10, V.ref t15] = [V.ref t2, V.ref t10, V.ref t15] := rfl
    have qty : (upd Gt15 ty (.lst [V.ref t2, V.ref t10, V.ref t15])) ty = some (.lst [V.ref t2, V.ref t10, V.ref t15]) := upd_same
    have sty := same_upd (o := .lst [V.ref t2, V.ref t10, V.ref t15]) hty
    have S1 : SqL K (upd Gt15 ty (.lst [V.ref t2, V.ref t10, V.ref t15])) a (ns.map V.int) := sqL_same (same_trans sm sty) hS
    have P1 : PlV K (upd Gt15 ty (.lst [V.ref t2, V.ref t10, V.ref t15])) "a" [] t2 := ⟨t1, [], sqT_same sty qt2, sqT_same sty qt1, by rw [RwV]⟩
    have P2 : PlV K (upd Gt15 ty (.lst [V.ref t2, V.ref t10, V.ref t15])) "d" [.nu "lots" 1, .nu "lots" 1, .nu "lots" 1, .flat, .flat, .flat] t10 := by
      have q3 := sqT_same sty qt3
      have q6 := sqT_same sty qt6
      exact ⟨t9, _, sqT_same sty qt10, sqT_same sty qt9, _, _, rfl, ⟨t3, rfl, q3⟩, _, _, rfl, ⟨t3, rfl, q3⟩, _, _, rfl, ⟨t3, rfl, q3⟩, _, _, rfl, ⟨t6, rfl, q6⟩, _, _, rfl, ⟨t6, rfl, q6⟩, _, _, rfl, ⟨t6, rfl, q6⟩, rfl⟩
    have P3 : PlV K (upd Gt15 ty (.lst [V.ref t2, V.ref t10, V.ref t15])) "a" [.zip "b" [.zip "c" [.nu "lots" 4, .zip "d" [.nm "keep" "abcdefgh"]], .flat, .nu "gather" 4], .flat, .nu "gather" 4] t15 := by
      have r1 := sqT_same sty qp1
      have r9 := sqT_same sty qp9
      have r10 := sqT_same sty qp10
      exact ⟨t14, _, sqT_same sty qt15, sqT_same sty qt14, _, _, rfl, ⟨t11, p12, p11, _, rfl, sqT_same sty qt11, sqT_same sty qp12, sqT_same sty qp11, _, _, rfl, ⟨p8, p7, p6, _, rfl, sqT_same sty qp8, sqT_same sty qp7, sqT_same sty qp6, _, _, rfl, ⟨p1, rfl, r1⟩, _, _, rfl,
        ⟨p5, p4, p3, _, rfl, sqT_same sty qp5, sqT_same sty qp4, sqT_same sty qp3, _, _, rfl, ⟨p2, rfl, sqT_same sty qp2⟩, rfl⟩, rfl⟩, _, _, rfl, ⟨p9, rfl, r9⟩, _, _, rfl, ⟨p10, rfl, r10⟩, rfl⟩, _, _, rfl, ⟨p9, rfl, r9⟩, _, _, rfl, ⟨p10, rfl, r10⟩, rfl⟩
    have smy := same_trans sm sty
    generalize (upd Gt15 ty (.lst [V.ref t2, V.ref t10, V.ref t15])) = Hy at qty S1 P1 P2 P3 smy ⊢
    clear sm sty hty
    refine ⟨_, rfl, _, _, rfl, .inl ⟨_, S1, rfl⟩, _, _, rfl, _, _, rfl, _, rfl, ?_, ?_, ?_⟩
    · split <;> split <;> omega
    · split <;> split <;> omega
    refine for_range (lo := 0) (fun i σ H' => ∃ c3 c4 c5 c6 c7 c8 c9 : Option V, σ = [some (.ref a), some (.ref p12), some (.ref ty), c3, c4, c5, c6, c7, c8, c9] ∧ Same Hy H') ⟨_, _, _, _, _, _, _, rfl, Same.refl _⟩ ?_ (fun σ H' _ => k H')
    rintro i σ H1 hi ⟨c3, c4, c5, c6, c7, c8, c9, rfl, s1⟩
    have hi4 : i < 4 := by
      revert hi
      split <;> split <;> intro hi <;> omega
    refine ⟨_, rfl, _, rfl, a, ns, _, rfl, sqL_same s1 S1, hl, hb, by omega, by omega, fun so r m hso => ?_⟩
    have s2 := same_upd (o := .lst [.int r, .int m]) hso
    have st2 : Strm (upd H1 so (.lst [.int r, .int m])) so := strm_upd
    have hso0 := none_same s1 hso
    have s12 := same_trans s1 s2
    generalize (upd H1 so (.lst [.int r, .int m])) = H2 at s12 st2 ⊢
    clear s2 hso
    refine ⟨6, rfl, by decide, by decide, fun D hD => ?_⟩
    refine lc_range (lo := 0) (n := 6) (fun i H' => ∃ vs : List V, H' D = some (.lst vs) ∧ vs.length = i ∧ Same Hy H' ∧ Strm H' so ∧ ∀ v ∈ vs, ∃ p x r, v = .ref p ∧ PlV K H' x r p ∧ PlanOk x r) ⟨[], upd_same, rfl, same_trans s12 (same_upd hD), strm_same (same_upd hD) st2, fun _ h => by cases h⟩ ?_ ?_
    · rintro j H3 hj ⟨vs, h3, l3, s3, st3, hvs⟩
      have nDs : D ≠ so := strm_ne st2 hD
      refine ⟨rfl, _, rfl, _, rfl, szl rfl, fun q hq => ⟨so, q, (["a", "b", "c", "d"] : List Str).map V.str, rfl, strm_same (same_upd hq) st3, SqL.of upd_same, (by show 4 ≤ 1000; decide), fun l ys H4 b4 st4 nl h4 hperm => ?_⟩⟩
      have sq := same_upd (o := .lst ((["a", "b", "c", "d"] : List Str).map V.str)) hq
      have h3q := sq _ _ h3
      have st3q := strm_same sq st3
      have s3q := same_trans s3 sq
      have nl3 : (upd H3 q (.lst ((["a", "b", "c", "d"] : List Str).map V.str))) l = none := nl
      have b4' : But [so] (upd H3 q (.lst ((["a", "b", "c", "d"] : List Str).map V.str))) H4 := b4
      have kq : KP 0 H3 (upd H3 q (.lst ((["a", "b", "c", "d"] : List Str).map V.str))) := .of sq
      clear nl b4 sq
      generalize (upd H3 q (.lst ((["a", "b", "c", "d"] : List Str).map V.str))) = H3q at h3q st3q s3q nl3 b4' kq
      obtain ⟨ps, rfl, hps⟩ := perm_str hperm
      have lps : LsOk ps := by
        refine ⟨hps.nodup_iff.mpr (by decide +kernel), fun y hy => ?_⟩
        exact hps.mem_iff.mp hy
      have l4 := hps.length_eq
      have nls : l ≠ so := strm_ne st3q nl3
      have nlD : D ≠ l := by
        rintro rfl
        rw [h3q] at nl3
        cases nl3
      refine ⟨so, l, 6, ps, rfl, st4, h4, nls, (by rw [l4]; exact Nat.le_refl _), (by rintro rfl; cases l4), by decide, by decide, fun p x r used rest H5 e1 e2 e3 e4 b5 st5 h5 hP => ?_⟩
      have hD5 : H5 D = some (.lst vs) := b5 _ _ (by simp [nDs, nlD]) (b4' _ _ (by simpa using nDs) h3q)
      have k45 : KP 0 H3 H5 := kq.trans ((b4'.kp (by
        intro z hz o ho
        rw [List.mem_singleton.mp hz] at ho
        obtain ⟨r0, m0, h0⟩ := st3q
        rw [h0] at ho
        cases ho
        exact id)).trans (but_kp b5 st4 h4))
      have kD : KP 0 H5 (upd H5 D (.lst (vs ++ [.ref p]))) := .upd hD5 id
      have sF : Same Hy H5 := fun c o hc => b5 c o (by
        simp only [List.mem_cons, List.not_mem_nil, or_false, not_or]
        exact ⟨ne_of_none hc hso0, ne_of_none hc (none_same s3q nl3)⟩) (b4' c o (by simpa using ne_of_none hc hso0) (s3q c o hc))
      have nD0 : Hy D = none := none_same s12 hD
      refine ⟨vs, hD5, szlt (by omega), vs ++ [.ref p], upd_same, by simp [l3], same_updN sF nD0, ?_, ?_⟩
      · obtain ⟨r0, m0, h0⟩ := st5
        exact ⟨r0, m0, by rw [upd_ne nDs.symm]; exact h0⟩
      · intro v hv
        rcases List.mem_append.mp hv with hv | hv
        · obtain ⟨p0, x0, r0, e, h0, h1⟩ := hvs v hv
          exact ⟨p0, x0, r0, e, h0.kp (k45.trans kD), h1⟩
        · refine ⟨p, x, r, List.mem_singleton.mp hv, hP.kp kD, e3, by omega, ?_⟩
          rw [e2]
          refine lps.sub ?_
          rw [e1]
          exact List.sublist_append_left _ _
    · rintro H3 ⟨vs, h3, l3, s3, st3, hvs⟩
      have hall : ∀ v ∈ vs ++ [V.ref t2, V.ref t10, V.ref t15], ∃ p x r, v = .ref p ∧ PlV K H3 x r p ∧ PlanOk x r := by
        intro v hv
        rcases List.mem_append.mp hv with hv | hv
        · exact hvs v hv
        · rcases List.mem_cons.mp hv with e | hv
          · exact ⟨_, _, _, e, P1.kp (C := 0) (.of s3), planA⟩
          rcases List.mem_cons.mp hv with e | hv
          · exact ⟨_, _, _, e, P2.kp (C := 0) (.of s3), planB⟩
          · exact ⟨_, _, _, List.mem_singleton.mp hv, P3.kp (C := 0) (.of s3), planC⟩
      refine ⟨_, rfl, _, rfl, D, ty, vs, _, rfl, rfl, h3, s3 _ _ qty, szle (by rw [l3]; show 6 + 3 ≤ 1000; decide), fun al hal => ⟨al, rfl, ⟨_, SqL.of upd_same⟩, ?_⟩⟩
      have sal := same_upd (o := .lst (vs ++ [V.ref t2, V.ref t10, V.ref t15])) hal
      have qal : (upd H3 al (.lst (vs ++ [V.ref t2, V.ref t10, V.ref t15]))) al = some (.lst (vs ++ [V.ref t2, V.ref t10, V.ref t15])) := upd_same
      have s3a := same_trans s3 sal
      generalize (upd H3 al (.lst (vs ++ [V.ref t2, V.ref t10, V.ref t15]))) = Ha at sal qal s3a ⊢
      refine for_list (K := K) (a := al) (xs := vs ++ [V.ref t2, V.ref t10, V.ref t15]) (fun i σ H' => ∃ c3 c4 c5 c6 c7 c8 c9 : Option V, σ = [some (.ref a), some (.ref p12), some (.ref ty), c3, c4, c5, c6, c7, c8, c9] ∧ Same Ha H') ⟨_, _, _, _, _, _, _, rfl, Same.refl _⟩ (fun i σ H' _ ⟨_, _, _, _, _, _, _, _, s⟩ => SqL.of (s _ _ qal)) ?_ ?_
      · rintro i v σ H4 hv ⟨c3, c4, c5, c6, c7, c8, c9, rfl, s4⟩
        obtain ⟨p, x, r, rfl, hP, hOk⟩ := hall v (List.mem_of_getElem? hv)
        obtain ⟨ho, h6, hls⟩ := id hOk
        obtain ⟨lb1, lb2⟩ := ln_bounds ho h6 hls
        have lb3 := sum_le lb2
        have n1 : ("\n" : Str).length = 1 := by decide +kernel
        have hjoin : ((lnP x r).map (·.length)).sum + (lnP x r).length * ("\n" : Str).length ≤ 16777216 := by
          rw [n1]
          omega
        refine ⟨_, rfl, p, x, r, rfl, hP.kp (C := 0) (.of (same_trans sal s4)), rk_lt hls, ho, h6, hls, fun q H5 s5 hq => ⟨⟨_, rfl⟩, _, rfl, p, x, r, rfl, hP.kp (C := 0) (.of (same_trans sal (same_trans s4 s5))), rk_lt hls, ho, h6, hls, fun l H6 s6 nl h6l => ⟨_, l, lnP x r, rfl, rfl, .inl (SqL.of h6l), hjoin, _, _, rfl, ?_⟩⟩⟩
        have hq6 := hq.kp (.of s6)
        have s46 := same_trans s4 (same_trans s5 s6)
        clear s5 s6 hq nl h6l l
        -- the text is the law's
        refine ⟨_, rfl, q, x, r, rfl, hq6, ho, h6, hls, fun H7 s7 => ⟨_, rfl, rfl, _, rfl, ?_⟩⟩
        rw [decide_eq_true (show V.str (txtP x r) = V.str (Txt.join "\n" (lnP x r)) from rfl)]
        have hq7 := hq6.kp (.of s7)
        refine ⟨_, rfl, q, x, r, rfl, hq7, ho, h6, hls, fun H8 s8 => ⟨_, rfl, rfl, _, rfl, ?_⟩⟩
        rw [decide_eq_true (show V.str (txtP x r) = V.str (Txt.join "\n" (lnP x r)) from rfl)]
        have hq8 := hq7.kp (.of s8)
        have s48 := same_trans s46 (same_trans s7 s8)
        clear s46 s7 s8 hq6 hq7
        -- what is read is equal to it
        have hrk := rk_lt hls
        refine ⟨_, rfl, x, r, rfl, ho, h6, hls, fun p2 H9 s9 h9 => ⟨_, rfl, ?_⟩⟩
        have hq9 := hq8.kp (.of s9)
        obtain ⟨dx1, f1, g1⟩ := pgp_ins h9
        obtain ⟨dx2, f2, g2⟩ := pgp_ins hq9
        refine ⟨p2, q, _, _, _, _, rfl, rfl, g1, g2, p2, q, rfl, ⟨x, r, h9, hq9, hrk⟩, fun H10 s10 => ⟨true, rfl, _, rfl, ?_⟩⟩
        have hq10 := hq9.kp (C := He.ga K "Program") (.of s10)
        have s4_10 := same_trans s48 (same_trans s9 s10)
        clear s9 s10 h9 hq9 g1 g2 hq8 s48
        refine ⟨_, rfl, x, r, rfl, ho, h6, hls, fun p3 H11 s11 h11 => ⟨_, rfl, ?_⟩⟩
        have hq11 := hq10.kp (.of s11)
        obtain ⟨dx3, f3, g3⟩ := pgp_ins h11
        obtain ⟨dx4, f4, g4⟩ := pgp_ins hq11
        refine ⟨p3, q, _, _, _, _, rfl, rfl, g3, g4, p3, q, rfl, ⟨x, r, h11, hq11, hrk⟩, fun H12 s12' => ⟨true, rfl, _, rfl, ?_⟩⟩
        have hq12 := hq11.kp (C := He.ga K "Program") (.of s12')
        have s4_12 := same_trans s4_10 (same_trans s11 s12')
        clear s11 s12' h11 hq11 g3 g4 hq10 s4_10
        refine ⟨_, rfl, x, r, rfl, ho, h6, hls, fun p4 H13 s13 h13 => ⟨p4, x, r, rfl, h13, ho, h6, hls, fun H14 s14 => ⟨_, rfl, rfl, _, rfl, ?_⟩⟩⟩
        rw [decide_eq_true (show V.str (txtP x r) = V.str (Txt.join "\n" (lnP x r)) from rfl)]
        have hq14 := hq12.kp (.of (same_trans s13 s14))
        have s4_14 := same_trans s4_12 (same_trans s13 s14)
        clear s13 s14 h13 hq12 s4_12
        -- its depth, its sources
        refine ⟨_, rfl, x, r, rfl, ho, h6, hls, fun p5 H15 s15 h15 => ?_⟩
        obtain ⟨vs5, i5, w5⟩ := id h15
        obtain ⟨dx5, f5, g5⟩ := pgp_ins h15
        have s4_15 := same_trans s4_14 s15
        refine ⟨p5, _, _, rfl, g5, p5, _, _, _, rfl, i5, _, rfl, p, x, r, rfl, hP.kp (C := 0) (.of (same_trans sal s4_15)), hrk, ho, fun H16 s16 => ⟨rfl, _, rfl, ?_⟩⟩
        rw [decide_eq_true (congrArg V.int (hgs_last r 0).1)]
        have hq16 := hq14.kp (.of (same_trans s15 s16))
        have s4_16 := same_trans s4_15 s16
        refine ⟨_, rfl, x, r, rfl, ho, h6, hls, fun p6 H17 s17 h17 => ?_⟩
        obtain ⟨vs6, i6, w6⟩ := id h17
        obtain ⟨dx6, f6, g6⟩ := pgp_ins h17
        refine ⟨p6, _, _, rfl, g6, p6, _, _, _, rfl, i6, fun u1 H18 s18 hT1 => ?_⟩
        have hq18 := hq16.kp (.of (same_trans s17 s18))
        obtain ⟨vs7, i7, w7⟩ := id hq18
        obtain ⟨dx7, f7, g7⟩ := pgp_ins hq18
        refine ⟨_, rfl, q, _, _, rfl, g7, q, _, _, _, rfl, i7, fun u2 H19 s19 hT2 => ?_⟩
        refine ⟨.tuple ((x :: lvR r).map PyData.str), .tuple ((x :: lvR r).map PyData.str), .tup (sqT_same s19 hT1) (dpa_str _), .tup hT2 (dpa_str _), shaped_str hls, shaped_str hls, _, rfl, ?_⟩
        rw [SeqAt.eqv_refl _ (SeqAt.canLay_of_shaped (shaped_str hls))]
        exact ⟨_, _, _, _, _, _, _, rfl, same_trans s4_16 (same_trans s17 (same_trans s18 s19))⟩
      · rintro σ H4 ⟨c3, c4, c5, c6, c7, c8, c9, rfl, s4⟩
        exact ⟨_, _, _, _, _, _, _, rfl, same_trans s3a s4⟩
end

end K80
namespace K80
open PySem PySem.Spec PyProof.Rows L2 Lw
section
variable {P : Program} {w : World} {K : PySem.W.Frag} {mg : Str → Option Value} {base : Heap} {f : Addr} {fd : FuncData}
theorem scBadSource_init : FnScope ["self", "value"] ["self", "value"] (defScope sBadSource_init) := ⟨rfl, rfl, rfl, by decide +kernel, rfl, by decide +kernel, by decide +kernel⟩
theorem i_BadSource (F : FunD K "__init__" "BadSource.__init__" (defArgs sBadSource_init) (defBody sBadSource_init) (defScope sBadSource_init) [] [] f fd) (X : XC K (He.ga K "BadSource") "value") : FnOk P w K mg base CX0 1 f fd ["self", "value"] (spErr (He.ga K "BadSource") "value") ∧ Binds K fd ["self", "value"] [] ∧
    KBn K fd ["self", "value"] 1 ["value"] (fun us ws => us ++ ws) (fun vs zs => vs ++ zs) := by
  refine ⟨F.ok scBadSource_init (fun vs H Q E h => ?_) (fun cdv A outer s H vs Q E hr h => ?_), F.bindsN fun _ _ _ _ _ _ us hl => match us, hl with | [_, _], _ => rfl, kb1 F fun _ _ _ _ _ _ _ _ => rfl⟩
  · obtain ⟨_, _, rfl, _⟩ := h
    rfl
  · obtain ⟨a, v, rfl, ha, k⟩ := h
    refine ⟨_, PSs.nox (pss_one (ps_ost (pv 0) (pv 1))), ?_⟩
    exact ⟨_, rfl, _, rfl, a, _, rfl, X.oex, X.nof, .inl ⟨ha, k⟩⟩
theorem scBadStages_init : FnScope ["self", "value"] ["self", "value"] (defScope sBadStages_init) := ⟨rfl, rfl, rfl, by decide +kernel, rfl, by decide +kernel, by decide +kernel⟩
theorem i_BadStages (F : FunD K "__init__" "BadStages.__init__" (defArgs sBadStages_init) (defBody sBadStages_init) (defScope sBadStages_init) [] [] f fd) (X : XC K (He.ga K "BadStages") "value") : FnOk P w K mg base CX0 1 f fd ["self", "value"] (spErr (He.ga K "BadStages") "value") ∧ Binds K fd ["self", "value"] [] ∧
    KBn K fd ["self", "value"] 1 ["value"] (fun us ws => us ++ ws) (fun vs zs => vs ++ zs) := by
  refine ⟨F.ok scBadStages_init (fun vs H Q E h => ?_) (fun cdv A outer s H vs Q E hr h => ?_), F.bindsN fun _ _ _ _ _ _ us hl => match us, hl with | [_, _], _ => rfl, kb1 F fun _ _ _ _ _ _ _ _ => rfl⟩
  · obtain ⟨_, _, rfl, _⟩ := h
    rfl
  · obtain ⟨a, v, rfl, ha, k⟩ := h
    refine ⟨_, PSs.nox (pss_one (ps_ost (pv 0) (pv 1))), ?_⟩
    exact ⟨_, rfl, _, rfl, a, _, rfl, X.oex, X.nof, .inl ⟨ha, k⟩⟩
theorem scBadStage_init : FnScope ["self", "position"] ["self", "position"] (defScope sBadStage_init) := ⟨rfl, rfl, rfl, by decide +kernel, rfl, by decide +kernel, by decide +kernel⟩
theorem i_BadStage (F : FunD K "__init__" "BadStage.__init__" (defArgs sBadStage_init) (defBody sBadStage_init) (defScope sBadStage_init) [] [] f fd) (X : XC K (He.ga K "BadStage") "position") : FnOk P w K mg base CX0 1 f fd ["self", "position"] (spErr (He.ga K "BadStage") "position") ∧ Binds K fd ["self", "position"] [] ∧
    KBn K fd ["self", "position"] 1 ["position"] (fun us ws => us ++ ws) (fun vs zs => vs ++ zs) := by
  refine ⟨F.ok scBadStage_init (fun vs H Q E h => ?_) (fun cdv A outer s H vs Q E hr h => ?_), F.bindsN fun _ _ _ _ _ _ us hl => match us, hl with | [_, _], _ => rfl, kb1 F fun _ _ _ _ _ _ _ _ => rfl⟩
  · obtain ⟨_, _, rfl, _⟩ := h
    rfl
  · obtain ⟨a, v, rfl, ha, k⟩ := h
    refine ⟨_, PSs.nox (pss_one (ps_ost (pv 0) (pv 1))), ?_⟩
    exact ⟨_, rfl, _, rfl, a, _, rfl, X.oex, X.nof, .inl ⟨ha, k⟩⟩
theorem scBadText_init : FnScope ["self", "line"] ["self", "line"] (defScope sBadText_init) := ⟨rfl, rfl, rfl, by decide +kernel, rfl, by decide +kernel, by decide +kernel⟩
theorem i_BadText (F : FunD K "__init__" "BadText.__init__" (defArgs sBadText_init) (defBody sBadText_init) (defScope sBadText_init) [] [] f fd) (X : XC K (He.ga K "BadText") "line") : FnOk P w K mg base CX0 1 f fd ["self", "line"] (spErr (He.ga K "BadText") "line") ∧ Binds K fd ["self", "line"] [] ∧
    KBn K fd ["self", "line"] 1 ["line"] (fun us ws => us ++ ws) (fun vs zs => vs ++ zs) := by
  refine ⟨F.ok scBadText_init (fun vs H Q E h => ?_) (fun cdv A outer s H vs Q E hr h => ?_), F.bindsN fun _ _ _ _ _ _ us hl => match us, hl with | [_, _], _ => rfl, kb1 F fun _ _ _ _ _ _ _ _ => rfl⟩
  · obtain ⟨_, _, rfl, _⟩ := h
    rfl
  · obtain ⟨a, v, rfl, ha, k⟩ := h
    refine ⟨_, PSs.nox (pss_one (ps_ost (pv 0) (pv 1))), ?_⟩
    exact ⟨_, rfl, _, rfl, a, _, rfl, X.oex, X.nof, .inl ⟨ha, k⟩⟩
end
/-! ### the head: the facts that the top leaves -/
def errs : List (Str × Str) := [("BadSource", "value"), ("BadStages", "value"), ("BadStage", "position"), ("BadText", "line")]
def dd_L_source : He.DefD := ⟨("_law_source", none), "_law_source", "_law_source", defArgs sL_source, defBody sL_source, defScope sL_source, [], []⟩
def dd_L_draw : He.DefD := ⟨("_law_draw", none), "_law_draw", "_law_draw", defArgs sL_draw, defBody sL_draw, defScope sL_draw, [], []⟩
def dd_L_pick : He.DefD := ⟨("_law_pick", none), "_law_pick", "_law_pick", defArgs sL_pick, defBody sL_pick, defScope sL_pick, [], []⟩
def dd_L_mixed : He.DefD := ⟨("_law_mixed", none), "_law_mixed", "_law_mixed", defArgs sL_mixed, defBody sL_mixed, defScope sL_mixed, [], []⟩
def dd_L_height : He.DefD := ⟨("_law_height", none), "_law_height", "_law_height", defArgs sL_height, defBody sL_height, defScope sL_height, [], []⟩
def dd_L_depth : He.DefD := ⟨("_law_depth", none), "_law_depth", "_law_depth", defArgs sL_depth, defBody sL_depth, defScope sL_depth, [], []⟩
def dd_L_name : He.DefD := ⟨("_law_name", none), "_law_name", "_law_name", defArgs sL_name, defBody sL_name, defScope sL_name, [], []⟩
def dd_L_stage : He.DefD := ⟨("_law_stage", none), "_law_stage", "_law_stage", defArgs sL_stage, defBody sL_stage, defScope sL_stage, [], []⟩
def dd_L_plan : He.DefD := ⟨("_law_plan", none), "_law_plan", "_law_plan", defArgs sL_plan, defBody sL_plan, defScope sL_plan, [], []⟩
def dd_L_program : He.DefD := ⟨("_law_program", none), "_law_program", "_law_program", defArgs sL_program, defBody sL_program, defScope sL_program, [], []⟩
def dd_L_lines : He.DefD := ⟨("_law_lines", none), "_law_lines", "_law_lines", defArgs sL_lines, defBody sL_lines, defScope sL_lines, [], []⟩
def dd_law : He.DefD := ⟨("law", none), "law", "law", defArgs slaw, defBody slaw, defScope slaw, [], []⟩
def dd_is_name : He.DefD := ⟨("is_name", none), "is_name", "is_name", defArgs sis_name, defBody sis_name, defScope sis_name, [], []⟩
def dd_is_source : He.DefD := ⟨("is_source", none), "is_source", "is_source", defArgs sis_source, defBody sis_source, defScope sis_source, [], []⟩
def dd_is_number : He.DefD := ⟨("is_number", none), "is_number", "is_number", defArgs sis_number, defBody sis_number, defScope sis_number, [], []⟩
def dd_is_stage : He.DefD := ⟨("is_stage", none), "is_stage", "is_stage", defArgs sis_stage, defBody sis_stage, defScope sis_stage, [], []⟩
def dd_depth_behind : He.DefD := ⟨("depth_behind", none), "depth_behind", "depth_behind", defArgs sdepth_behind, defBody sdepth_behind, defScope sdepth_behind, [], []⟩
def dd_stage_lines : He.DefD := ⟨("stage_lines", none), "stage_lines", "stage_lines", defArgs sstage_lines, defBody sstage_lines, defScope sstage_lines, [], []⟩
def dd_program_lines : He.DefD := ⟨("program_lines", none), "program_lines", "program_lines", defArgs sprogram_lines, defBody sprogram_lines, defScope sprogram_lines, [], []⟩
def dd_program_text : He.DefD := ⟨("program_text", none), "program_text", "program_text", defArgs sprogram_text, defBody sprogram_text, defScope sprogram_text, [], []⟩
def dd_read_stage : He.DefD := ⟨("read_stage", none), "read_stage", "read_stage", defArgs sread_stage, defBody sread_stage, defScope sread_stage, [], []⟩
def dd_read_program : He.DefD := ⟨("read_program", none), "read_program", "read_program", defArgs sread_program, defBody sread_program, defScope sread_program, [], []⟩
def dd_Program_can_stand : He.DefD := ⟨("Program", some "can_stand"), "can_stand", "Program.can_stand", defArgs sProgram_can_stand, defBody sProgram_can_stand, defScope sProgram_can_stand, [], []⟩
def dd_Program_eq : He.DefD := ⟨("Program", some "__eq__"), "__eq__", "Program.__eq__", defArgs sProgram_eq, defBody sProgram_eq, defScope sProgram_eq, [], []⟩
def dd_Reader_init : He.DefD := ⟨("Reader", some "__init__"), "__init__", "Reader.__init__", defArgs sReader_init, defBody sReader_init, defScope sReader_init, [], []⟩
def dd_Reader_begin : He.DefD := ⟨("Reader", some "begin"), "begin", "Reader.begin", defArgs sReader_begin, defBody sReader_begin, defScope sReader_begin, [], []⟩
def dd_Reader_close : He.DefD := ⟨("Reader", some "close"), "close", "Reader.close", defArgs sReader_close, defBody sReader_close, defScope sReader_close, [], []⟩
def dd_Reader_put : He.DefD := ⟨("Reader", some "put"), "put", "Reader.put", defArgs sReader_put, defBody sReader_put, defScope sReader_put, [], []⟩
def dd_Reader_take : He.DefD := ⟨("Reader", some "take"), "take", "Reader.take", defArgs sReader_take, defBody sReader_take, defScope sReader_take, [], []⟩
def dd_Program_init : He.DefD := ⟨("Program", some "__init__"), "__init__", "Program.__init__", defArgs sProgram_init, defBody sProgram_init, defScope sProgram_init, [.adr (He.dflAt ("Program", some "__init__") 0)], []⟩
def dd_BadSource_init : He.DefD := ⟨("BadSource", some "__init__"), "__init__", "BadSource.__init__", defArgs sBadSource_init, defBody sBadSource_init, defScope sBadSource_init, [], []⟩
def dd_BadStages_init : He.DefD := ⟨("BadStages", some "__init__"), "__init__", "BadStages.__init__", defArgs sBadStages_init, defBody sBadStages_init, defScope sBadStages_init, [], []⟩
def dd_BadStage_init : He.DefD := ⟨("BadStage", some "__init__"), "__init__", "BadStage.__init__", defArgs sBadStage_init, defBody sBadStage_init, defScope sBadStage_init, [], []⟩
def dd_BadText_init : He.DefD := ⟨("BadText", some "__init__"), "__init__", "BadText.__init__", defArgs sBadText_init, defBody sBadText_init, defScope sBadText_init, [], []⟩
def fn : List He.DefD := [dd_L_source, dd_L_draw, dd_L_pick, dd_L_mixed, dd_L_height, dd_L_depth, dd_L_name, dd_L_stage, dd_L_plan, dd_L_program, dd_L_lines, dd_law, dd_is_name, dd_is_source, dd_is_number, dd_is_stage, dd_depth_behind, dd_stage_lines, dd_program_lines, dd_program_text, dd_read_stage, dd_read_program, dd_Program_can_stand, dd_Program_eq, dd_Reader_init, dd_Reader_begin, dd_Reader_close, dd_Reader_put, dd_Reader_take, dd_Program_init, dd_BadSource_init, dd_BadStages_init, dd_BadStage_init, dd_BadText_init]
def fa0 : List He.Fa := [.free "len", .free "int", .free "str", .free "bool", .free "isinstance", .free "enumerate", .free "range", .free "list", .free "tuple", .free "all", .free "any", .free "max", .free "min", .free "ValueError", .glo "Program", .glo "Reader", .glo "SOURCES", .glo "NAMED", .glo "NUMBERED", .glo "BadSource", .glo "BadStages", .glo "BadStage", .glo "BadText", .glo "_law_source", .glo "_law_draw", .glo "_law_pick", .glo "_law_mixed", .glo "_law_height", .glo "_law_depth", .glo "_law_name", .glo "_law_stage", .glo "_law_plan", .glo "_law_program", .glo "_law_lines", .glo "law", .glo "is_name", .glo "is_source", .glo "is_number", .glo "is_stage", .glo "depth_behind", .glo "stage_lines", .glo "program_lines", .glo "program_text", .glo "read_stage", .glo "read_program"]
def fa : List He.Fa := fa0 ++ [.str "LETTERS" letters, .int "GREATEST" 4, .int "MOST_STAGES" 6, .str "INDENT" "  ", .cls "Reader", .noat "Reader" "taken", .noat "Reader" "levels", .mkr "Reader", .mkr "Program", .meth "Program" "can_stand", .meth "Program" "__eq__", .meth "Reader" "begin", .meth "Reader" "close", .meth "Reader" "put", .meth "Reader" "take"]
def pg : List PgD := [⟨"Program", ⟨("", none), "source", "Program.source", defArgs sProgram_source, defBody sProgram_source, defScope sProgram_source, [], []⟩⟩, ⟨"Program", ⟨("", none), "stages", "Program.stages", defArgs sProgram_stages, defBody sProgram_stages, defScope sProgram_stages, [], []⟩⟩, ⟨"Program", ⟨("", none), "sources", "Program.sources", defArgs sProgram_sources, defBody sProgram_sources, defScope sProgram_sources, [], []⟩⟩, ⟨"Program", ⟨("", none), "depth", "Program.depth", defArgs sProgram_depth, defBody sProgram_depth, defScope sProgram_depth, [], []⟩⟩]
def excB (K : PySem.W.Frag) (x : Str × Str) : Bool := xcB K (He.ga K x.1) x.2 && (decide (PySem.W.findIn K (.ref (He.ga K x.1)) "__init__" = some (some (.ref (He.ma K (He.ga K x.1) "__init__")))) && decide (PySem.W.typeIn K (.ref (He.ma K (He.ga K x.1) "__init__")) = some (.type "function")))
def ex (K : PySem.W.Frag) : Bool := errs.all (excB K) && (pcB K (He.ga K "Program") && (decide (PySem.W.findIn K (.ref (He.ga K "Program")) "__ne__" = some (some (.builtin "object.__ne__"))) && (decide (PySem.W.subIn K (.ref (He.ga K "Program")) (.type "object") = some true) &&
  (He.tupB K "SOURCES" (sources.map He.Dv.str) && (He.tupB K "NAMED" (named.map He.Dv.str) && He.tupB K "NUMBERED" (counted.map He.Dv.str))))))
abbrev R : PySem.W.OpenRow := PySem.W.OpenLaw.row PySem.Challenge.rw_pulledonce_k80_texts_of_programs
abbrev hk : PySem.W.Hook := hookP 6 fa fn pg ex
def ob (s : PySem.W.SharedT) : AlP := obP 6 fa fn pg ex (HandSHeadRun.getT s)
theorem ob_eq (s : PySem.W.SharedT) : ob s = hk.obs s.abs := obP_eq (HandSHeadRun.getT_eq s)
def loose : List Str := ((["_wall", "StreamError", "BadSource", "BadStages", "BadStage", "BadText", "Program", "Reader", "LETTERS", "SOURCES", "NAMED", "NUMBERED", "MOST_STAGES", "GREATEST", "INDENT"] : List Str) ++ (["_law_source", "_law_draw", "_law_pick", "_law_mixed", "_law_height", "_law_depth", "_law_name", "_law_stage", "_law_plan", "_law_program", "_law_lines", "is_name", "is_source", "is_number", "is_stage", "depth_behind", "stage_lines", "program_lines", "program_text", "read_stage", "read_program"] : List Str))
theorem facts {P : Program} {w : World} {K : PySem.W.Frag} {h : Heap} {mg : Str → Option Value} (X : K.In h) (G : h.Ns mainGlobals mg) (c : SaysP fa fn pg ex K) :
    ∃ fd : FuncData, (∀ (s : Shared) (v : Value), BindsTo s fd ⟨[v], []⟩ [("script", v)]) ∧ ∀ base : Heap, FnG P w K mg base CX0 20 (He.ga K "law") fd ["script"] (spLaw K) := by
  obtain ⟨m1, m2⟩ := Bool.and_eq_true_iff.mp c.more
  obtain ⟨pcb, m2⟩ := Bool.and_eq_true_iff.mp m2
  obtain ⟨n1, m2⟩ := Bool.and_eq_true_iff.mp m2
  obtain ⟨n2, m2⟩ := Bool.and_eq_true_iff.mp m2
  obtain ⟨tS, m2⟩ := Bool.and_eq_true_iff.mp m2
  obtain ⟨tN, tU⟩ := Bool.and_eq_true_iff.mp m2
  have ne1 := of_decide_eq_true n1
  have ne2 := of_decide_eq_true n2
  have exc : ∀ (i : Nat) (x : Str × Str), errs[i]? = some x → xcB K (He.ga K x.1) x.2 = true ∧ PySem.W.findIn K (.ref (He.ga K x.1)) "__init__" = some (some (.ref (He.ma K (He.ga K x.1) "__init__"))) ∧ PySem.W.typeIn K (.ref (He.ma K (He.ga K x.1) "__init__")) = some (.type "function") := by
    intro i x hx
    have q := List.all_eq_true.mp m1 x (List.mem_of_getElem? hx)
    obtain ⟨q1, q⟩ := Bool.and_eq_true_iff.mp q
    obtain ⟨q2, q3⟩ := Bool.and_eq_true_iff.mp q
    exact ⟨q1, of_decide_eq_true q2, of_decide_eq_true q3⟩
  obtain ⟨fd, Fl⟩ := c.d.def_ 11 (d := dd_law) rfl
  refine ⟨fd, fun s v => FunD.bindsA (ps := ["script"]) Fl (fun _ _ _ _ _ _ us hl => match us, hl with | [_], _ => rfl) s [v] rfl, fun base => ?_⟩
  obtain ⟨fd_L_source, F_L_source⟩ := c.d.def_ 0 (d := dd_L_source) rfl
  obtain ⟨fd_L_draw, F_L_draw⟩ := c.d.def_ 1 (d := dd_L_draw) rfl
  obtain ⟨fd_L_pick, F_L_pick⟩ := c.d.def_ 2 (d := dd_L_pick) rfl
  obtain ⟨fd_L_mixed, F_L_mixed⟩ := c.d.def_ 3 (d := dd_L_mixed) rfl
  obtain ⟨fd_L_height, F_L_height⟩ := c.d.def_ 4 (d := dd_L_height) rfl
  obtain ⟨fd_L_depth, F_L_depth⟩ := c.d.def_ 5 (d := dd_L_depth) rfl
  obtain ⟨fd_L_name, F_L_name⟩ := c.d.def_ 6 (d := dd_L_name) rfl
  obtain ⟨fd_L_stage, F_L_stage⟩ := c.d.def_ 7 (d := dd_L_stage) rfl
  obtain ⟨fd_L_plan, F_L_plan⟩ := c.d.def_ 8 (d := dd_L_plan) rfl
  obtain ⟨fd_L_program, F_L_program⟩ := c.d.def_ 9 (d := dd_L_program) rfl
  obtain ⟨fd_L_lines, F_L_lines⟩ := c.d.def_ 10 (d := dd_L_lines) rfl
  obtain ⟨fd_law, F_law⟩ := c.d.def_ 11 (d := dd_law) rfl
  obtain ⟨fd_is_name, F_is_name⟩ := c.d.def_ 12 (d := dd_is_name) rfl
  obtain ⟨fd_is_source, F_is_source⟩ := c.d.def_ 13 (d := dd_is_source) rfl
  obtain ⟨fd_is_number, F_is_number⟩ := c.d.def_ 14 (d := dd_is_number) rfl
  obtain ⟨fd_is_stage, F_is_stage⟩ := c.d.def_ 15 (d := dd_is_stage) rfl
  obtain ⟨fd_depth_behind, F_depth_behind⟩ := c.d.def_ 16 (d := dd_depth_behind) rfl
  obtain ⟨fd_stage_lines, F_stage_lines⟩ := c.d.def_ 17 (d := dd_stage_lines) rfl
  obtain ⟨fd_program_lines, F_program_lines⟩ := c.d.def_ 18 (d := dd_program_lines) rfl
  obtain ⟨fd_program_text, F_program_text⟩ := c.d.def_ 19 (d := dd_program_text) rfl
  obtain ⟨fd_read_stage, F_read_stage⟩ := c.d.def_ 20 (d := dd_read_stage) rfl
  obtain ⟨fd_read_program, F_read_program⟩ := c.d.def_ 21 (d := dd_read_program) rfl
  obtain ⟨fd_Program_can_stand, F_Program_can_stand⟩ := c.d.def_ 22 (d := dd_Program_can_stand) rfl
  obtain ⟨fd_Program_eq, F_Program_eq⟩ := c.d.def_ 23 (d := dd_Program_eq) rfl
  obtain ⟨fd_Reader_init, F_Reader_init⟩ := c.d.def_ 24 (d := dd_Reader_init) rfl
  obtain ⟨fd_Reader_begin, F_Reader_begin⟩ := c.d.def_ 25 (d := dd_Reader_begin) rfl
  obtain ⟨fd_Reader_close, F_Reader_close⟩ := c.d.def_ 26 (d := dd_Reader_close) rfl
  obtain ⟨fd_Reader_put, F_Reader_put⟩ := c.d.def_ 27 (d := dd_Reader_put) rfl
  obtain ⟨fd_Reader_take, F_Reader_take⟩ := c.d.def_ 28 (d := dd_Reader_take) rfl
  obtain ⟨fd_Program_init, F_Program_init⟩ := c.d.def_ 29 (d := dd_Program_init) rfl
  obtain ⟨fd_BadSource_init, F_BadSource_init⟩ := c.d.def_ 30 (d := dd_BadSource_init) rfl
  obtain ⟨fd_BadStages_init, F_BadStages_init⟩ := c.d.def_ 31 (d := dd_BadStages_init) rfl
  obtain ⟨fd_BadStage_init, F_BadStage_init⟩ := c.d.def_ 32 (d := dd_BadStage_init) rfl
  obtain ⟨fd_BadText_init, F_BadText_init⟩ := c.d.def_ 33 (d := dd_BadText_init) rfl
  have tx : Tx K mg := ⟨He.free_ok X G (c.d.fact 0 (f := .free "len") rfl), He.free_ok X G (c.d.fact 1 (f := .free "int") rfl), He.free_ok X G (c.d.fact 2 (f := .free "str") rfl), He.free_ok X G (c.d.fact 3 (f := .free "bool") rfl), He.free_ok X G (c.d.fact 4 (f := .free "isinstance") rfl), He.free_ok X G (c.d.fact 5 (f := .free "enumerate") rfl), He.free_ok X G (c.d.fact 6 (f := .free "range") rfl), He.free_ok X G (c.d.fact 7 (f := .free "list") rfl), He.free_ok X G (c.d.fact 8 (f := .free "tuple") rfl), He.free_ok X G (c.d.fact 9 (f := .free "all") rfl), He.free_ok X G (c.d.fact 10 (f := .free "any") rfl), He.free_ok X G (c.d.fact 11 (f := .free "max") rfl), He.free_ok X G (c.d.fact 12 (f := .free "min") rfl), He.str_ok X G (c.d.fact 48 rfl), He.free_ok X G (c.d.fact 13 (f := .free "ValueError") rfl), He.str_ok X G (c.d.fact 45 rfl), He.int_ok X G (c.d.fact 46 rfl), He.int_ok X G (c.d.fact 47 rfl), He.glo_ok X G (c.d.fact 16 (f := .glo "SOURCES") rfl), fun H => He.tupB_ok tS H, He.glo_ok X G (c.d.fact 17 (f := .glo "NAMED") rfl), fun H => He.tupB_ok tN H, He.glo_ok X G (c.d.fact 18 (f := .glo "NUMBERED") rfl), fun H => He.tupB_ok tU H⟩
  have x_BadSource : XC K (He.ga K "BadSource") "value" := xcB_ok (exc 0 ("BadSource", "value") rfl).1
  have e_BadSource : ErrOk P w K mg base "BadSource" "value" := by
    obtain ⟨h1, h2, h3⟩ := i_BadSource (P := P) (w := w) (mg := mg) (base := base) F_BadSource_init x_BadSource
    exact ⟨_, fd_BadSource_init, He.glo_ok X G (c.d.fact 19 (f := .glo "BadSource") rfl), x_BadSource, (exc 0 ("BadSource", "value") rfl).2.1, (exc 0 ("BadSource", "value") rfl).2.2, h1, h2, h3⟩
  have x_BadStages : XC K (He.ga K "BadStages") "value" := xcB_ok (exc 1 ("BadStages", "value") rfl).1
  have e_BadStages : ErrOk P w K mg base "BadStages" "value" := by
    obtain ⟨h1, h2, h3⟩ := i_BadStages (P := P) (w := w) (mg := mg) (base := base) F_BadStages_init x_BadStages
    exact ⟨_, fd_BadStages_init, He.glo_ok X G (c.d.fact 20 (f := .glo "BadStages") rfl), x_BadStages, (exc 1 ("BadStages", "value") rfl).2.1, (exc 1 ("BadStages", "value") rfl).2.2, h1, h2, h3⟩
  have x_BadStage : XC K (He.ga K "BadStage") "position" := xcB_ok (exc 2 ("BadStage", "position") rfl).1
  have e_BadStage : ErrOk P w K mg base "BadStage" "position" := by
    obtain ⟨h1, h2, h3⟩ := i_BadStage (P := P) (w := w) (mg := mg) (base := base) F_BadStage_init x_BadStage
    exact ⟨_, fd_BadStage_init, He.glo_ok X G (c.d.fact 21 (f := .glo "BadStage") rfl), x_BadStage, (exc 2 ("BadStage", "position") rfl).2.1, (exc 2 ("BadStage", "position") rfl).2.2, h1, h2, h3⟩
  have x_BadText : XC K (He.ga K "BadText") "line" := xcB_ok (exc 3 ("BadText", "line") rfl).1
  have e_BadText : ErrOk P w K mg base "BadText" "line" := by
    obtain ⟨h1, h2, h3⟩ := i_BadText (P := P) (w := w) (mg := mg) (base := base) F_BadText_init x_BadText
    exact ⟨_, fd_BadText_init, He.glo_ok X G (c.d.fact 22 (f := .glo "BadText") rfl), x_BadText, (exc 3 ("BadText", "line") rfl).2.1, (exc 3 ("BadText", "line") rfl).2.2, h1, h2, h3⟩
  have T : Ty P w K mg base := { toTx := tx, pc := pcB_ok pcb, g_Program := He.glo_ok X G (c.d.fact 14 (f := .glo "Program") rfl), e_BadSource := e_BadSource, e_BadStages := e_BadStages, e_BadStage := e_BadStage, e_BadText := e_BadText, rc := ⟨He.cls_ok (c.d.fact 49 rfl), He.noat_ok (c.d.fact 50 rfl), He.noat_ok (c.d.fact 51 rfl)⟩ }
  obtain ⟨po_source, fdp_source, Fp_source⟩ := c.prop 0 rfl
  have P_source := p_source (P := P) (w := w) (mg := mg) (base := base) Fp_source po_source T
  obtain ⟨po_stages, fdp_stages, Fp_stages⟩ := c.prop 1 rfl
  have P_stages := p_stages (P := P) (w := w) (mg := mg) (base := base) Fp_stages po_stages T
  obtain ⟨po_sources, fdp_sources, Fp_sources⟩ := c.prop 2 rfl
  have P_sources := p_sources (P := P) (w := w) (mg := mg) (base := base) Fp_sources po_sources T
  obtain ⟨po_depth, fdp_depth, Fp_depth⟩ := c.prop 3 rfl
  have P_depth := p_depth (P := P) (w := w) (mg := mg) (base := base) Fp_depth po_depth T
  have D_is_name := d_is_name (P := P) (w := w) (base := base) F_is_name (He.glo_ok X G (c.d.fact 35 (f := .glo "is_name") rfl)) tx
  have D_is_source := d_is_source (P := P) (w := w) (base := base) F_is_source (He.glo_ok X G (c.d.fact 36 (f := .glo "is_source") rfl)) tx
  have D_is_number := d_is_number (P := P) (w := w) (base := base) F_is_number (He.glo_ok X G (c.d.fact 37 (f := .glo "is_number") rfl)) tx
  have D_is_stage := d_is_stage (P := P) (w := w) (base := base) F_is_stage (He.glo_ok X G (c.d.fact 38 (f := .glo "is_stage") rfl)) T D_is_name D_is_number
  have D_depth_behind := d_depth_behind (P := P) (w := w) (base := base) F_depth_behind (He.glo_ok X G (c.d.fact 39 (f := .glo "depth_behind") rfl)) T P_depth
  have M_can_stand := m_can_stand (P := P) (w := w) (mg := mg) (base := base) F_Program_can_stand (He.meth_ok (c.d.fact 54 rfl)) T D_is_stage
  obtain ⟨iP, bP, _⟩ := i_Program (P := P) (w := w) (mg := mg) (base := base) F_Program_init T D_is_source D_depth_behind M_can_stand
  have G_Program : MakeOk P w K mg base (L2.CX P w) 4 (He.ga K "Program") "Program" ["self", "source", "stages"] [] (spInit (He.ga K "Program") K) := ⟨_, _, _, iP, He.mkr_ok (c.d.fact 53 rfl), bP, .nil, He.glo_ok X G (c.d.fact 14 (f := .glo "Program") rfl)⟩
  obtain ⟨iR, bR⟩ := i_Reader (P := P) (w := w) (mg := mg) (base := base) F_Reader_init T
  have G_Reader : MakeOk P w K mg base CX0 1 (He.ga K "Reader") "Reader" ["self"] [] (spRInit (He.ga K "Reader")) := ⟨_, _, _, iR, He.mkr_ok (c.d.fact 52 rfl), bR, .nil, He.glo_ok X G (c.d.fact 15 (f := .glo "Reader") rfl)⟩
  have D_L_source := d_source (P := P) (w := w) (base := base) F_L_source (He.glo_ok X G (c.d.fact 23 (f := .glo "_law_source") rfl)) tx
  have D_L_draw := d_draw (P := P) (w := w) (base := base) F_L_draw (He.glo_ok X G (c.d.fact 24 (f := .glo "_law_draw") rfl)) tx
  have D_L_pick := d_pick (P := P) (w := w) (base := base) F_L_pick (He.glo_ok X G (c.d.fact 25 (f := .glo "_law_pick") rfl)) tx D_L_draw
  have D_L_mixed := d_mixed (P := P) (w := w) (base := base) F_L_mixed (He.glo_ok X G (c.d.fact 26 (f := .glo "_law_mixed") rfl)) tx D_L_draw
  have D_L_name := d_name (P := P) (w := w) (base := base) F_L_name (He.glo_ok X G (c.d.fact 29 (f := .glo "_law_name") rfl)) tx D_L_draw D_L_pick
  have deps := d_deps (P := P) (w := w) (base := base) F_L_depth (He.glo_ok X G (c.d.fact 28 (f := .glo "_law_depth") rfl)) F_L_height (He.glo_ok X G (c.d.fact 27 (f := .glo "_law_height") rfl)) tx
  have plans := d_plans (P := P) (w := w) (base := base) F_L_plan (He.glo_ok X G (c.d.fact 31 (f := .glo "_law_plan") rfl)) F_L_stage (He.glo_ok X G (c.d.fact 30 (f := .glo "_law_stage") rfl)) tx D_L_draw D_L_pick D_L_name (fun n => (deps n).2)
  have progs := d_programs (P := P) (w := w) (base := base) F_L_program (He.glo_ok X G (c.d.fact 32 (f := .glo "_law_program") rfl)) T G_Program
  have lns := d_lns (P := P) (w := w) (base := base) F_program_lines (He.glo_ok X G (c.d.fact 41 (f := .glo "program_lines") rfl)) F_stage_lines (He.glo_ok X G (c.d.fact 40 (f := .glo "stage_lines") rfl)) T P_source P_stages
  have lls := d_lls (P := P) (w := w) (base := base) F_L_lines (He.glo_ok X G (c.d.fact 33 (f := .glo "_law_lines") rfl)) tx
  have D_program_text := d_program_text (P := P) (w := w) (base := base) F_program_text (He.glo_ok X G (c.d.fact 42 (f := .glo "program_text") rfl)) T (lns 4 (by decide))
  have D_read_stage := d_read_stage (P := P) (w := w) (base := base) F_read_stage (He.glo_ok X G (c.d.fact 43 (f := .glo "read_stage") rfl)) T D_is_name
  have M_begin := m_begin (P := P) (w := w) (mg := mg) (base := base) F_Reader_begin (He.meth_ok (c.d.fact 56 rfl)) T
  have M_close := m_close (P := P) (w := w) (mg := mg) (base := base) F_Reader_close (He.meth_ok (c.d.fact 57 rfl)) T G_Program
  have M_put := m_put (P := P) (w := w) (mg := mg) (base := base) F_Reader_put (He.meth_ok (c.d.fact 58 rfl)) T G_Program
  have M_take := m_take (P := P) (w := w) (mg := mg) (base := base) F_Reader_take (He.meth_ok (c.d.fact 59 rfl)) T D_read_stage M_begin M_close M_put
  have D_read_program := d_read_program (P := P) (w := w) (base := base) F_read_program (He.glo_ok X G (c.d.fact 44 (f := .glo "read_program") rfl)) T G_Reader M_take M_close G_Program
  have EF : EqF K (He.ga K "Program") (He.ma K (He.ga K "Program") "__eq__") := ⟨(He.meth_ok (c.d.fact 55 rfl)).at_, (He.meth_ok (c.d.fact 55 rfl)).fn, ne1, ne2⟩
  have FE := e_prog (P := P) (w := w) (mg := mg) (base := base) F_Program_eq T EF P_source 4
  have hbE : Binds K fd_Program_eq ["self", "other"] [] := F_Program_eq.bindsN fun _ _ _ _ _ _ us hl => match us, hl with | [_, _], _ => rfl
  exact .of (d_law Fl (He.glo_ok X G (c.d.fact 34 (f := .glo "law") rfl)) T ⟨D_L_source, D_L_mixed, (plans 4).1, progs 4, lls 4 (by decide), (deps 4).1, D_program_text, D_read_program, FE, EF, hbE, P_depth, P_sources⟩)
theorem lawglo {K : PySem.W.Frag} {h : Heap} {mg : Str → Option Value} (X : K.In h) (G : h.Ns mainGlobals mg) (c : SaysP fa fn pg ex K) : mg "law" = some (.ref (He.ga K "law")) := He.glo_ok X G (c.d.fact 34 (f := .glo "law") rfl)
end K80
namespace K80
open PySem PySem.Spec PyProof.Rows L2 Lw
theorem run (w : World) : HandSHeadRun.RunEq R (PySem.W.view R.prog [40]) hk ob 6000 loose w := by
  intro os
  kernel_rfl
end K80

open PySem PySem.W PySem.Calls PyProof.Rows
theorem PySem.Challenge.cw_pulledonce_k80_texts_of_programs_holds : PySem.Challenge.rw_pulledonce_k80_texts_of_programs.Holds := by
  w_on; o_law
  refine HandSHeadRun.head_any (r := K80.R) (q := view K80.R.prog [40]) (H := K80.hk) (ob := K80.ob) (M := 6000) (loose := K80.loose) (d := HandSHeadRun.topDef K80.R.prog 40) (kwd := []) K80.ob_eq
    (by kernel_rfl) (fun s => by kernel_rfl) K80.run (by kernel_rfl) (by kernel_rfl) (by kernel_rfl) (by rfl) (by first | assumption | decide +kernel) (by decide +kernel) ⟨rfl, rfl, rfl, rfl, rfl, by decide +kernel⟩ ?hw ?hc
  case hw => w_witness2
  case hc =>
    refine Lw.walkG (l := PySem.Challenge.rw_pulledonce_k80_texts_of_programs) (n := 63) (k := 20) (x := "script") (CX := L2.CX0) rfl (by decide) (by kernel_rfl) ⟨rfl, by decide, by decide⟩ ?F (fun _ _ _ _ z => z)
    intro w mg fa h Y G hmg0
    obtain ⟨K, KX, c⟩ := Y
    have hmg : mg ("law" : PySem.Str) = some (.ref fa) := by
      have e : (HandSHeadRun.topDef K80.R.prog 40).name = ("law" : PySem.Str) := by kernel_rfl
      rw [← e]
      exact hmg0
    have efa : fa = He.ga K "law" := by
      have e := hmg.symm.trans (K80.lawglo KX G c)
      cases e
      rfl
    subst efa
    obtain ⟨fd, hb, hF⟩ := K80.facts (P := (PySem.Challenge.rw_pulledonce_k80_texts_of_programs).prog) (w := w) KX G c
    exact ⟨K, fd, K80.spLaw K, KX, hb, fun H a ns hl hbits hO hS => ⟨a, ns, rfl, hS, hl, hbits, fun _ => rfl⟩, fun base _ _ => hF base⟩
